/- The row of the law FnExactSkeletonOf: for every input the law answers true, and the arguments read as before. No conditions. -/
import Derived.Test.YthganpmmhfoodaaB3
import Derived.Below
import Derived.Deep.Draws
import Derived.Deep.AppendLies
import Derived.Maps.AppendAt
import Derived.OwnWalk
import Derived.Laws.BytesArg
import Derived.Laws.MakeOwn
import Derived.Laws.OwnMore
import Derived.Deep.OwnRows
import Derived.Tactics
import Derived.Lib.ConvBytes
import Derived.Laws.Slices
import Derived.WalkKit
import Derived.KernelRfl
import Derived.RowKit3
import Derived.Deep.LoopGhost
import Derived.Deep.QuietTactic
import Derived.BigQuiet
import Derived.WideLaws
import Derived.Deep.DeepCutAuto
import Derived.Deep.CutBlock
import Derived.Deep.RegionHeld3
import Derived.Laws.Rows
import Derived.Lib.AppendStr
import Derived.ArgAppend
import Derived.Laws.IdiomCopy
import Derived.RowKit
import Derived.OrdersHeld
import Derived.Laws.BitsLemmas
import Derived.Test.YthganpmmhfoodaaProg
import Derived.Shelf.Abstract
import Derived.RangeFuncBox
import Derived.RangeFuncLeaves
import Derived.OwnWalkIn
import Derived.TacticsInMore
import Derived.LoopNIn
import Derived.LoopIn
import Derived.Laws.StructEq
import Derived.Lib.SliceRun
import Derived.Test.YthganpmmhfoodaaRows
import Derived.ProofKit
import Derived.OpenShut
import Derived.ShutString
import Derived.ChangeOld
import Derived.SizedLaws
import Derived.Lib.SmallJoins
section
/- SkeletonOf. -/
namespace Go.Proofs.Ythganpmmhfoodaa.K
open Go.RowKit Go.Shelf Go.Proofs.YthganpmmhfoodaaW.PrintWords Go.Proofs.YthganpmmhfoodaaW.PrintLast Go.Proofs.YthganpmmhfoodaaW.PrintMore
set_option linter.unusedVariables false
set_option linter.unusedSimpArgs false

set_option maxHeartbeats 1000000 in
theorem SkeletonOf1_calls (n f : Int) (hn : 1 ≤ n ∧ n ≤ 6) (Bk Bf : Nat) (A : Option Addr) (c : Nat) (l : List Int) (w : World) (hb : CB w Bk n (.slice A l.length c)) (hf : w.cell? ⟨Bf, 0, none⟩ = some (I f)) (hk : Kx w A c l) :
    Calls Try.prog 55 #[.pointer (some ⟨Bf, 0, none⟩)] w fun e w' => e = .returned (.bool (decide (-1 ≤ f ∧ f ≤ 5))) ∧ Grew w w' := by
  have H := Aside0.mk (within_calls f (-1) 5 _ rfl w)
  generalize decide (-1 ≤ f ∧ f ≤ 5) = r at H ⊢
  clear hk hb
  go_enter Try.func55, Try.ntmps55
  go_wp2_with fail
  refine H.out.mono ?_
  rintro e w1 ⟨rfl, hG1⟩
  go_wp2_with fail
  go_ret
  exact ⟨rfl, hG1⟩

set_option maxHeartbeats 1000000 in
theorem SkeletonOf2_calls (x n f : Int) (h0 : 0 ≤ x) (h1 : x ≤ 63) (Bk Bf : Nat) (A : Option Addr) (c : Nat) (l : List Int) (w : World) (hb : CB w Bk n (.slice A l.length c)) (hf : w.cell? ⟨Bf, 0, none⟩ = some (I f)) (hk : Kx w A c l) :
    Calls Try.prog 58 (#[I x] ++ #[.pointer (some ⟨Bf, 0, none⟩)]) w fun e w' => e = .returned (.bool (decide (dimI x ≤ f))) ∧ Grew w w' := by
  have hlt : Bf < w.heap.size := World.block_lt_of_cell? w _ hf
  have H := Aside0.mk (fun w => dimension_calls x h0 h1 w)
  clear h0 h1 hk hb
  generalize dimI x = q at H ⊢
  go_enter Try.func58, Try.ntmps58
  go_wp2_with fail
  go_region_held3 (fun w' => w'.cell? ⟨Bf, 0, none⟩ = some (I f))
    (first | exact (HG.out.cell (p := ⟨Bf, 0, none⟩) hlt).trans hf | go_keep)
    ((go_at_call 59; refine (H.out _).mono ?_; rintro e w1 ⟨rfl, hG⟩; have HG : Aside0 (Grew w w1) := ⟨Below.trans ((Below.refl _ w).drew) hG⟩; clear hG))
  all_goals (go_wp2_with fail; go_ret; exact ⟨by first | rfl | simp, HG.out⟩)

/-- What SkeletonOf answers. -/
def SkeletonOf_b (n : Int) (l : List Int) (f : Int) : Bool := decide (-1 ≤ f ∧ f ≤ 5)
def SkeletonOf_p (l : List Int) (f x : Int) : Bool := decide (dimI x ≤ f)

set_option maxHeartbeats 2000000 in
theorem SkeletonOf_calls (n : Int) (A : Option Addr) (c : Nat) (l : List Int) (f : Int) (w : World) (hk : Kx w A c l) :
    Calls Try.prog 24 #[.agg #[I n, .slice A l.length c], I f] w fun e w' => ∃ v, e = .returned (.tuple #[.agg #[I (partOf n l (SkeletonOf_b n l f) (SkeletonOf_p l f)).1, v], I (partOf n l (SkeletonOf_b n l f) (SkeletonOf_p l f)).2.2]) ∧ Ki.R 2 w' w.heap.size (fun _ => True) v (partOf n l (SkeletonOf_b n l f) (SkeletonOf_p l f)).2.1 ∧ Grew w w' := by
  obtain ⟨W3, hW3⟩ : ∃ W3, W3 = ((w.alloc (.cells #[I n, .slice A l.length c] 28)).alloc (.cells #[I f] 2)).alloc (.cells #[I 0, .slice none 0 0] 28) := ⟨_, rfl⟩
  have hB : CB W3 w.heap.size n (.slice A l.length c) := by rw [hW3]; exact blk_alloc (blk_alloc (blk_new w _) _) _
  have hF : W3.heap[w.heap.size + 1]? = some (.cells #[I f] 2 (0, 0)) := by
    rw [hW3]
    refine blk_alloc ?_ _
    have := blk_new (w.alloc (.cells #[I n, .slice A l.length c] 28)) (.cells #[I f] 2)
    rwa [World.size_alloc] at this
  have hO : CB W3 (w.heap.size + 2) 0 (.slice none 0 0) := by
    rw [hW3]
    have := blk_new ((w.alloc (.cells #[I n, .slice A l.length c] 28)).alloc (.cells #[I f] 2)) (.cells #[I 0, .slice none 0 0] 28)
    rwa [World.size_alloc, World.size_alloc] at this
  have hg : Grew w W3 := by rw [hW3]; exact below_alloc (below_alloc (below_alloc (Grew.refl w) _) _) _
  have H := Aside0.mk (complexCode_calls (SkeletonOf_b n l f) n A c l 55 #[] #[.pointer (some ⟨w.heap.size + 1, 0, none⟩)] W3 (hk.later hg) (enters_of Try.func55 (by kernel_rfl) rfl)
    (fun hi W hW => by
      have := SkeletonOf1_calls n f (isC_size hi) w.heap.size (w.heap.size + 1) A c l W (blk_below hB hW) (blk_cell (blk_below hF hW) 0) (hk.later (Grew.trans hg hW))
      rw [Array.empty_append]
      exact this))
  obtain ⟨r, hr⟩ : ∃ r, r = partOf n l (SkeletonOf_b n l f) (SkeletonOf_p l f) := ⟨_, rfl⟩
  rw [← hr]
  have k0 := hB.c0
  have k1 := hB.c1
  have HK := Aside0.mk hk
  have HB := Aside0.mk hB
  have HF := Aside0.mk hF
  have HO := Aside0.mk hO
  have HG := Aside0.mk hg
  clear hk hB hF hO hg
  obtain ⟨cc, hcc⟩ : ∃ cc, cc = codeOf n l (SkeletonOf_b n l f) := ⟨_, rfl⟩
  rw [← hcc] at H
  by_cases hz : cc = 0
  · subst hz
    obtain ⟨hi, hb⟩ := codeOf_zero hcc.symm
    have HN := Aside0.mk (isC_size hi)
    have HV : Aside0 (r = (n, thoseL n (fun x => hasB l x && SkeletonOf_p l f x), 0)) := ⟨by rw [hr]; unfold partOf; rw [if_pos hcc.symm]⟩
    clear hr hcc hi hb
    subst hW3
    go_enter Try.func24, Try.ntmps24
    go_wp2_with fail
    refine H.out.mono ?_
    rintro e w1 ⟨rfl, hG1⟩
    have HB1 := Aside0.mk (blk_below HB.out hG1)
    have HF1 := Aside0.mk (blk_below HF.out hG1)
    have HO1 := Aside0.mk (blk_below HO.out hG1)
    have HG1 := Aside0.mk (Grew.trans HG.out hG1)
    have H2 := Aside0.mk (part_calls (SkeletonOf_p l f) n (by have := HN.out; omega) A c l 58 #[] #[.pointer (some ⟨w.heap.size + 1, 0, none⟩)] w1 (HK.out.later HG1.out) (enters_of Try.func58 (by kernel_rfl) rfl)
      (fun x h0 h1 _ W hW => SkeletonOf2_calls x n f (by omega) (by have := full_range n HN.out; omega) w.heap.size (w.heap.size + 1) A c l W (blk_below HB1.out hW) (blk_cell (blk_below HF1.out hW) 0) (HK.out.later (Grew.trans HG1.out hW))))
    have k0 : w1.cell? ⟨w.heap.size, 0, none⟩ = some (I n) := blk_cell HB1.out 0
    have k1 : w1.cell? ⟨w.heap.size, 1, none⟩ = some (.slice A l.length c) := blk_cell HB1.out 1
    clear hG1
    go_wp2_with fail
    refine H2.out.mono ?_
    rintro e w2 ⟨v, rfl, hR, hG⟩
    clear k0 k1
    have hB2 : CB w2 (w.heap.size + 2) 0 (.slice none 0 0) := blk_below HO1.out hG
    have HB2 := Aside0.mk hB2
    have HR2 := Aside0.mk hR
    have HG2 := Aside0.mk (Grew.trans HG1.out hG)
    have hsz := HG1.out.size
    have k0 := hB2.c0
    have k1 := hB2.c1
    have f0 := blk_frozen hB2 0
    have f1 := blk_frozen hB2 1
    obtain ⟨A2, c2, e2⟩ := Kd.R_slice hR
    subst e2
    clear hB2 hR hG
    go_wp2_with fail
    refine bodyPost_ret (results_ct rfl _ _ (w.heap.size + 2) 28 #[I n, _] (0, 0) _ rfl HB2.out.set Try.underlying28 rfl (by kernel_rfl)) rfl ?_
    rw [HV.out]
    exact ⟨_, rfl, Kd.R_lower (Ri.setCB2 HR2.out HB2.out) hsz, below_set (below_set HG2.out (by omega)) (by omega)⟩
  · have HV : Aside0 (r = (0, [], cc)) := ⟨by rw [hr, hcc]; unfold partOf; rw [if_neg (by rw [← hcc]; exact hz)]⟩
    clear hr hcc
    subst hW3
    go_enter Try.func24, Try.ntmps24
    go_wp2_with fail
    refine H.out.mono ?_
    rintro e w1 ⟨rfl, hG1⟩
    clear k0 k1
    have hB1 : CB w1 (w.heap.size + 2) 0 (.slice none 0 0) := blk_below HO.out hG1
    have HB1 := Aside0.mk hB1
    have HG1 := Aside0.mk (Grew.trans HG.out hG1)
    have k0 := hB1.c0
    have k1 := hB1.c1
    have f0 := blk_frozen hB1 0
    have f1 := blk_frozen hB1 1
    clear hB1 hG1
    go_wp2_with fail
    refine bodyPost_ret (results_ct rfl _ _ (w.heap.size + 2) 28 #[I 0, .slice none 0 0] (0, 0) _ rfl HB1.out.set Try.underlying28 rfl (by kernel_rfl)) rfl ?_
    rw [HV.out]
    exact ⟨_, rfl, Kd.R_nil _ _ _ _ _, below_set (below_set HG1.out (by omega)) (by omega)⟩

end Go.Proofs.Ythganpmmhfoodaa.K
end

section
/- Written by a program of this session (myprint.py over the kit's print). -/
namespace Go.Proofs.Ythganpmmhfoodaa.Q
open Go.RowKit Go.Proofs.YthganpmmhfoodaaW.PrintWords Go.Proofs.YthganpmmhfoodaaW.PrintLast Go.Proofs.YthganpmmhfoodaaW.PrintMore
attribute [local go_sem] max2_int min2_int max_two min_two max_three min_three max_four min_four   -- for this text's walks alone
set_option linter.unusedVariables false
set_option linter.unusedSimpArgs false

/-! ### spec_SkeletonOf: function 23 -/
def spec_SkeletonOf.l0 : Nat → Int → Int → Int → List Int → Int → List Int → Option (Int × List Int × Int)
  | 0, _, _, _, _, _, _ => none
  | k + 1, x1, x7, x138000, x138001, x145000, x145001 => if x7 < (x138001.length : Int) then (if 0 ≤ x7 then ((spec_l01Ones.f k (rd x138001 x7)).bind fun t146 => (if t146 ≤ (wrap64 (x1 + 1)) then (if x145001.length < 17592186044416 then (spec_SkeletonOf.l0 k x1 (wrap64 (x7 + 1)) x138000 x138001 x145000 (x145001 ++ [rd x138001 x7])) else (none)) else (spec_SkeletonOf.l0 k x1 (wrap64 (x7 + 1)) x138000 x138001 x145000 x145001))) else (none)) else (some (x145000, x145001, 0))
def spec_SkeletonOf.f (k : Nat) (a0_0 : Int) (l0_1 : List Int) (a1 : Int) : Option (Int × List Int × Int) := (spec_l01Is.f k a0_0 l0_1).bind fun t139 => (if t139 = true then ((spec_l01In.f a1 (-1) 5).bind fun t140 => (if t140 = true then (spec_SkeletonOf.l0 k a1 0 a0_0 l0_1 a0_0 (([] : List Int))) else (some (0, ([] : List Int), 2)))) else (some (0, ([] : List Int), 1)))
theorem spec_SkeletonOf.mono_l : ∀ k, (∀ y0 y1 y2 y3 y4 y5, LeO (spec_SkeletonOf.l0 k y0 y1 y2 y3 y4 y5) (spec_SkeletonOf.l0 (k + 1) y0 y1 y2 y3 y4 y5))
  | 0 => fun _ _ _ _ _ _ r h => by simp [spec_SkeletonOf.l0] at h
  | k + 1 => by
    have ih0 := spec_SkeletonOf.mono_l k
    · intro y0 y1 y2 y3 y4 y5
      unfold spec_SkeletonOf.l0
      repeat' first
      | (with_reducible exact ih0 _ _ _ _ _ _)
      | (with_reducible exact spec_l01Is.mono _ _ _)
      | (with_reducible exact spec_l01Ones.mono _ _)
      | (with_reducible exact LeO.refl _)
      | (with_reducible exact LeO.none _)
      | (with_reducible refine LeO.ite ?_ ?_)
      | (with_reducible refine LeO.bind ?_ (fun _ => ?_))
      | exact ih0 _ _ _ _ _ _
      | exact spec_l01Is.mono _ _ _
      | exact spec_l01Ones.mono _ _
      | exact LeO.none _
      | refine LeO.ite ?_ ?_
      | refine LeO.bind ?_ (fun _ => ?_)
theorem spec_SkeletonOf.mono : ∀ a0 a1 a2 k, LeO (spec_SkeletonOf.f k a0 a1 a2) (spec_SkeletonOf.f (k + 1) a0 a1 a2) := by
  intro a0 a1 a2 k
  have ih0 := spec_SkeletonOf.mono_l k
  unfold spec_SkeletonOf.f
  repeat' first
      | (with_reducible exact ih0 _ _ _ _ _ _)
      | (with_reducible exact spec_l01Is.mono _ _ _)
      | (with_reducible exact spec_l01Ones.mono _ _)
      | (with_reducible exact LeO.refl _)
      | (with_reducible exact LeO.none _)
      | (with_reducible refine LeO.ite ?_ ?_)
      | (with_reducible refine LeO.bind ?_ (fun _ => ?_))
      | exact ih0 _ _ _ _ _ _
      | exact spec_l01Is.mono _ _ _
      | exact spec_l01Ones.mono _ _
      | exact LeO.none _
      | refine LeO.ite ?_ ?_
      | refine LeO.bind ?_ (fun _ => ?_)
def spec_SkeletonOf.T10 : Bool × List (List Nat × List Nat) := (true, [([], []), ([0], [0]), ([], []), ([2], [2]), ([], []), ([3, 4], [3, 4]), ([5], [5]), ([6], [6]), ([1, 7], [1, 7]), ([0, 1, 2, 3, 4, 5, 6, 7, 8], []), ([9, 8, 8, 0, 1, 2, 3, 4, 5, 6, 7, 8], [8, 9])])
def spec_SkeletonOf.B10 : List Nat := [0, 1, 0, 4, 0, 28, 60, 124, 255, 511, 1023]
theorem spec_SkeletonOf.tab10 : rtab .any (opsOf Try.f23 10) = spec_SkeletonOf.T10 := by kernel_rfl
theorem spec_SkeletonOf.bits10 : waitsOk spec_SkeletonOf.T10.2 spec_SkeletonOf.B10 = true := by kernel_rfl
set_option maxHeartbeats 8000000 in
set_option maxRecDepth 100000 in
theorem spec_SkeletonOf.calls (k : Nat) (a0_0 : Int) (A0_1 : Option Addr) (c0_1 : Nat) (l0_1 : List Int) (a1 : Int) (r1 : Int) (r2 : List Int) (r3 : Int) (w : World) (hr0_1 : Kd.C (Kd.int .i64) w A0_1 l0_1.length l0_1) (hc0_1 : l0_1.length ≤ c0_1) (h : spec_SkeletonOf.f k a0_0 l0_1 a1 = some (r1, r2, r3)) :
    Calls Try.prog 23 #[.agg #[.int .i64 a0_0, .slice A0_1 l0_1.length c0_1], .int .i64 a1] w fun e w' => ∃ v1_ : Value, e = .returned (.tuple #[.agg #[.int .i64 r1, v1_], .int .i64 r3]) ∧ Kd.R (Kd.int .i64) 2 w' w.heap.size (fun _ => True) v1_ r2 ∧ Below w.heap.size w w' := by
  have hu28 := Try.underlying28
  have HR0_1 := Aside0.mk hr0_1
  have HC0_1 := Aside0.mk hc0_1
  clear hr0_1 hc0_1
  have HB := Aside0.mk (Below.refl w.heap.size w)
  have H : ((spec_l01Is.f k a0_0 l0_1).bind fun t139 => (if t139 = true then ((spec_l01In.f a1 (-1) 5).bind fun t140 => (if t140 = true then (spec_SkeletonOf.l0 k a1 0 a0_0 l0_1 a0_0 (([] : List Int))) else (some (0, ([] : List Int), 2)))) else (some (0, ([] : List Int), 1)))) = some (r1, r2, r3) := h
  clear h
  replace H := Option.bind_eq_some_iff.mp H
  obtain ⟨t139, A30, H⟩ := H
  replace H : (if t139 = true then ((spec_l01In.f a1 (-1) 5).bind fun t140 => (if t140 = true then (spec_SkeletonOf.l0 k a1 0 a0_0 l0_1 a0_0 (([] : List Int))) else (some (0, ([] : List Int), 2)))) else (some (0, ([] : List Int), 1))) = some (r1, r2, r3) := H
  have A3 := Aside0.mk A30
  clear A30
  by_cases c4 : t139 = true
  · subst c4
    have H1 : ((spec_l01In.f a1 (-1) 5).bind fun t140 => (if t140 = true then (spec_SkeletonOf.l0 k a1 0 a0_0 l0_1 a0_0 (([] : List Int))) else (some (0, ([] : List Int), 2)))) = some (r1, r2, r3) := by rw [if_pos rfl] at H; exact H
    clear H
    have H := H1
    clear H1
    replace H := Option.bind_eq_some_iff.mp H
    obtain ⟨t140, A50, H⟩ := H
    replace H : (if t140 = true then (spec_SkeletonOf.l0 k a1 0 a0_0 l0_1 a0_0 (([] : List Int))) else (some (0, ([] : List Int), 2))) = some (r1, r2, r3) := H
    have A5 := Aside0.mk A50
    clear A50
    by_cases c6 : t140 = true
    · subst c6
      have H1 : (spec_SkeletonOf.l0 k a1 0 a0_0 l0_1 a0_0 (([] : List Int))) = some (r1, r2, r3) := by rw [if_pos rfl] at H; exact H
      clear H
      have H := H1
      clear H1
      obtain ⟨y141, hy141⟩ : ∃ y_ : List Int, y_ = (([] : List Int)) := ⟨_, rfl⟩
      replace H : (spec_SkeletonOf.l0 k a1 0 a0_0 l0_1 a0_0 y141) = some (r1, r2, r3) := by first | (rw [hy141]; with_reducible exact H) | (have H2_ := (Option.bind_some _ _).symm.trans H; rw [hy141]; with_reducible exact H2_) | (have H2_ := (Option.bind_some _ _).symm.trans H; with_reducible exact H2_) | with_reducible exact H | (rw [hy141]; exact H) | exact H
      have Ny141 := Aside0.mk hy141
      clear hy141
      have H' := Aside0.mk H
      clear H
      go_enter Try.func23, Try.ntmps23
      go_wp2_with (first | ((with_reducible refine gate_dst (N := 2) rfl ?_); refine box_event ?hg (N := 2) ?hd (cs := #[.int .i64 a0_0, .slice A0_1 l0_1.length c0_1]) (t := 28) ?hr ?_; (case hd => rfl); (case hg => rfl); (case hr => first | (go_simp; done) | (go_simp; rfl)); intro gb137 hg w7 hbox hb; have n0_ := Aside0.mk (below_step (by repeat (first | (with_reducible first | exact HB.out | apply below_alloc | apply pw_below_drewN | apply below_drew1) | exact HB.out)) hb); have n1_ := Aside0.mk (hbox); have n2_ := Aside0.mk ((by rw [hg]; exact (below_size (by repeat (first | (with_reducible first | exact HB.out | apply below_alloc | apply pw_below_drewN | apply below_drew1) | exact HB.out))) : w.heap.size ≤ gb137)); have n3_ := Aside0.mk ((by rw [hg]; exact (below_size (by repeat (first | (with_reducible first | exact HB.out | apply below_alloc | apply pw_below_drewN | apply below_drew1) | exact HB.out))) : w.heap.size ≤ gb137)); clear HB; have HB := n0_; have BK137 := n1_; have GW137 := n2_; have GE137 := n3_; clear n0_ n1_ n2_ n3_; clear hb hbox hg) | ((with_reducible refine gate_dst (N := 4) rfl ?_); refine box_event ?hg (N := 4) ?hd (cs := #[.int .i64 0, .slice none 0 0]) (t := 28) ?hr ?_; (case hd => rfl); (case hg => rfl); (case hr => first | (go_simp; done) | (go_simp; rfl)); intro gb138 hg w8 hbox hb; have n0_ := Aside0.mk (blk_below (g := gb137) (o := .cells #[.int .i64 a0_0, .slice A0_1 l0_1.length c0_1] 28 (0, 0)) (by (with_reducible repeat (first | refine blk_drewN ?_ _ | refine blk_drew ?_ | refine blk_alloc ?_ _)); exact BK137.out) hb); have n1_ := Aside0.mk (below_step (by repeat (first | (with_reducible first | exact HB.out | apply below_alloc | apply pw_below_drewN | apply below_drew1 | refine below_set ?_ GE137.out) | exact HB.out)) hb); have n2_ := Aside0.mk (hbox); have n3_ := Aside0.mk ((by rw [hg]; exact (below_size (by repeat (first | (with_reducible first | exact HB.out | apply below_alloc | apply pw_below_drewN | apply below_drew1 | refine below_set ?_ GE137.out) | exact HB.out))) : w.heap.size ≤ gb138)); have n4_ := Aside0.mk ((by rw [hg]; exact (below_size (by repeat (first | (with_reducible first | exact HB.out | apply below_alloc | apply pw_below_drewN | apply below_drew1 | refine below_set ?_ GE137.out) | exact HB.out))) : w.heap.size ≤ gb138)); have n5_ := Aside0.mk ((by rw [hg]; exact Nat.ne_of_lt (blk_lt (g := gb137) (o := .cells #[.int .i64 a0_0, .slice A0_1 l0_1.length c0_1] 28 (0, 0)) (by (with_reducible repeat (first | refine blk_drewN ?_ _ | refine blk_drew ?_ | refine blk_alloc ?_ _)); exact BK137.out)) : gb137 ≠ gb138)); have n6_ := Aside0.mk ((by rw [hg]; exact Nat.ne_of_gt (blk_lt (g := gb137) (o := .cells #[.int .i64 a0_0, .slice A0_1 l0_1.length c0_1] 28 (0, 0)) (by (with_reducible repeat (first | refine blk_drewN ?_ _ | refine blk_drew ?_ | refine blk_alloc ?_ _)); exact BK137.out)) : gb138 ≠ gb137)); clear BK137; clear HB; have BK137 := n0_; have HB := n1_; have BK138 := n2_; have GW138 := n3_; have GE138 := n4_; have NB137_138 := n5_; have NB138_137 := n6_; clear n0_ n1_ n2_ n3_ n4_ n5_ n6_; clear hb hbox hg; have hnb9 := NB137_138.out; have hnc9 := NB138_137.out; have hcz10_0 : w8.cell? ⟨gb137, 0, none⟩ = some (.int .i64 a0_0) := (blk_cell BK137.out 0).trans rfl; have hcz10_1 : w8.cell? ⟨gb137, 1, none⟩ = some (.slice A0_1 l0_1.length c0_1) := (blk_cell BK137.out 1).trans rfl; have hfz10_0 := blk_frozen BK137.out 0; have hfz10_1 := blk_frozen BK137.out 1) | ((with_reducible refine gate_callee (f := 52) rfl ?_); refine goesL_ (some 10) rfl rfl Try.func52 (by kernel_rfl) rfl #[.agg #[.int .i64 a0_0, .slice A0_1 l0_1.length c0_1]] rfl (by (try simp only [List.map_toArray, List.map_cons, List.map_nil]); first | done | rfl | (simp only [List.length_drop, List.length_take]; rfl)) ?_; (with_reducible refine (spec_l01Is.calls k a0_0 _ _ l0_1 true _ ?side1 ?side2 A3.out).mono ?_); (case side1 => repeat (first | exact (Kd.C_below HR0_1.out HB.out) | (with_reducible refine Kd.C_alloc ?_ _) | (with_reducible refine Kd.C_drewN ?_ _) | (with_reducible refine Kd.C_drew ?_))); (case side2 => exact HC0_1.out); rintro e w11 ⟨rfl, hb⟩; refine ⟨_, rfl, ?_⟩; have n0_ := Aside0.mk (blk_below (g := gb137) (o := .cells #[.int .i64 a0_0, .slice A0_1 l0_1.length c0_1] 28 (0, 0)) (by (with_reducible repeat (first | refine blk_drewN ?_ _ | refine blk_drew ?_ | refine blk_alloc ?_ _)); exact BK137.out) hb); have n1_ := Aside0.mk (blk_below (g := gb138) (o := .cells #[.int .i64 0, .slice none 0 0] 28 (0, 0)) (by (with_reducible repeat (first | refine blk_drewN ?_ _ | refine blk_drew ?_ | refine blk_alloc ?_ _)); exact BK138.out) hb); have n2_ := Aside0.mk (below_step (by repeat (first | (with_reducible first | exact HB.out | apply below_alloc | apply pw_below_drewN | apply below_drew1 | refine below_set ?_ GE137.out | refine below_set ?_ GE138.out) | exact HB.out)) hb); clear BK137; clear BK138; clear HB; have BK137 := n0_; have BK138 := n1_; have HB := n2_; clear n0_ n1_ n2_; (try clear hb); (try clear hb2); (try clear hk); (try clear hi)) | ((with_reducible refine gate_callee (f := 53) rfl ?_); refine goesL_ (some 15) rfl rfl Try.func53 (by kernel_rfl) rfl #[.int .i64 a1, .int .i64 (-1), .int .i64 5] rfl (by (try simp only [List.map_toArray, List.map_cons, List.map_nil]); first | done | rfl | (simp only [List.length_drop, List.length_take]; rfl)) ?_; (with_reducible refine (spec_l01In.calls a1 (-1) 5 true _ A5.out).mono ?_); rintro e w' ⟨rfl, ⟨nd, rfl⟩⟩; refine ⟨_, rfl, ?_⟩; (try (rw [drewN_self w11]; generalize hq_ : World.drewN w11 _ = w11; have n0_ : Aside0 (w11.heap[gb137]? = some (.cells #[.int .i64 a0_0, .slice A0_1 l0_1.length c0_1] 28 (0, 0))) := ⟨by rw [← hq_]; exact (by (with_reducible repeat (first | refine blk_drewN ?_ _ | refine blk_drew ?_ | refine blk_alloc ?_ _)); exact BK137.out)⟩; have n1_ : Aside0 (w11.heap[gb138]? = some (.cells #[.int .i64 0, .slice none 0 0] 28 (0, 0))) := ⟨by rw [← hq_]; exact (by (with_reducible repeat (first | refine blk_drewN ?_ _ | refine blk_drew ?_ | refine blk_alloc ?_ _)); exact BK138.out)⟩; have n2_ : Aside0 (Below w.heap.size w w11) := ⟨by rw [← hq_]; exact (by repeat (first | (with_reducible first | exact HB.out | apply below_alloc | apply pw_below_drewN | apply below_drew1 | refine below_set ?_ GE137.out | refine below_set ?_ GE138.out) | exact HB.out))⟩; clear BK137 BK138 HB hq_; have BK137 := n0_; have BK138 := n1_; have HB := n2_; clear n0_ n1_ n2_)); have hcz12_0 : w11.cell? ⟨gb137, 0, none⟩ = some (.int .i64 a0_0) := (blk_cell BK137.out 0).trans rfl; have hcz12_1 : w11.cell? ⟨gb137, 1, none⟩ = some (.slice A0_1 l0_1.length c0_1) := (blk_cell BK137.out 1).trans rfl; have hfz12_0 := blk_frozen BK137.out 0; have hfz12_1 := blk_frozen BK137.out 1) | ((with_reducible refine gate_dst (N := 20) rfl ?_); refine Kd.R_lit (Kd.int .i64) _ 2 ?hg (N := 20) ?hd (xs := ([] : List Int)) (inner := []) (ok := fun _ => True) (okp := fun _ => True) ?hr ?hp (fun _ hk => hk) trivial (Below.refl _ _) (Nat.le_refl _) (by simp) ?_; (case hd => rfl); (case hg => rfl); (case hr => first | (go_simp; done) | (go_simp; rfl)); (case hp => exact (Reps.none _ _)); intro v142 w13 ho14 hb hg_ hnew_; clear hg_ hnew_; (first | rw [← Ny141.out] at ho14 | (simp only [Int.reduceToNat] at ho14; rw [← Ny141.out] at ho14)); have n0_ := Aside0.mk (Kd.R_lower ho14 (below_size (by repeat (first | (with_reducible first | exact HB.out | apply below_alloc | apply pw_below_drewN | apply below_drew1 | refine below_set ?_ GE137.out | refine below_set ?_ GE138.out) | exact HB.out)))); have n1_ := Aside0.mk (blk_below (g := gb137) (o := .cells #[.int .i64 a0_0, .slice A0_1 l0_1.length c0_1] 28 (0, 0)) (by (with_reducible repeat (first | refine blk_drewN ?_ _ | refine blk_drew ?_ | refine blk_alloc ?_ _)); exact BK137.out) hb); have n2_ := Aside0.mk (blk_below (g := gb138) (o := .cells #[.int .i64 0, .slice none 0 0] 28 (0, 0)) (by (with_reducible repeat (first | refine blk_drewN ?_ _ | refine blk_drew ?_ | refine blk_alloc ?_ _)); exact BK138.out) hb); have n3_ := Aside0.mk (below_step (by repeat (first | (with_reducible first | exact HB.out | apply below_alloc | apply pw_below_drewN | apply below_drew1 | refine below_set ?_ GE137.out | refine below_set ?_ GE138.out) | exact HB.out)) hb); clear BK137; clear BK138; clear HB; have HO143 := n0_; have BK137 := n1_; have BK138 := n2_; have HB := n3_; clear n0_ n1_ n2_ n3_; clear hb ho14; obtain ⟨Ao15, co15, eo15⟩ := Kd.R_slice HO143.out; subst eo15) | ((with_reducible refine gate_dst (N := 6) rfl ?_); refine box_event ?hg (N := 6) ?hd (cs := #[.int .i64 0, .slice none 0 0]) (t := 28) ?hr ?_; (case hd => rfl); (case hg => rfl); (case hr => first | (go_simp; done) | (go_simp; rfl)); intro gb144 hg w16 hbox hb; have n0_ := Aside0.mk (Kd.R_below (by (with_reducible repeat (first | apply Kd.R_alloc | apply Kd.R_drewN | apply Kd.R_drew)); exact HO143.out) hb); have n1_ := Aside0.mk (blk_below (g := gb137) (o := .cells #[.int .i64 a0_0, .slice A0_1 l0_1.length c0_1] 28 (0, 0)) (by (with_reducible repeat (first | refine blk_drewN ?_ _ | refine blk_drew ?_ | refine blk_alloc ?_ _)); exact BK137.out) hb); have n2_ := Aside0.mk (blk_below (g := gb138) (o := .cells #[.int .i64 0, .slice none 0 0] 28 (0, 0)) (by (with_reducible repeat (first | refine blk_drewN ?_ _ | refine blk_drew ?_ | refine blk_alloc ?_ _)); exact BK138.out) hb); have n3_ := Aside0.mk (below_step (by repeat (first | (with_reducible first | exact HB.out | apply below_alloc | apply pw_below_drewN | apply below_drew1 | refine below_set ?_ GE137.out | refine below_set ?_ GE138.out) | exact HB.out)) hb); have n4_ := Aside0.mk (hbox); have n5_ := Aside0.mk ((by rw [hg]; exact (below_size (by repeat (first | (with_reducible first | exact HB.out | apply below_alloc | apply pw_below_drewN | apply below_drew1 | refine below_set ?_ GE137.out | refine below_set ?_ GE138.out) | exact HB.out))) : w.heap.size ≤ gb144)); have n6_ := Aside0.mk ((by rw [hg]; exact (below_size (by repeat (first | (with_reducible first | exact HB.out | apply below_alloc | apply pw_below_drewN | apply below_drew1 | refine below_set ?_ GE137.out | refine below_set ?_ GE138.out) | exact HB.out))) : w.heap.size ≤ gb144)); have n7_ := Aside0.mk ((by rw [hg]; exact Nat.ne_of_lt (blk_lt (g := gb137) (o := .cells #[.int .i64 a0_0, .slice A0_1 l0_1.length c0_1] 28 (0, 0)) (by (with_reducible repeat (first | refine blk_drewN ?_ _ | refine blk_drew ?_ | refine blk_alloc ?_ _)); exact BK137.out)) : gb137 ≠ gb144)); have n8_ := Aside0.mk ((by rw [hg]; exact Nat.ne_of_gt (blk_lt (g := gb137) (o := .cells #[.int .i64 a0_0, .slice A0_1 l0_1.length c0_1] 28 (0, 0)) (by (with_reducible repeat (first | refine blk_drewN ?_ _ | refine blk_drew ?_ | refine blk_alloc ?_ _)); exact BK137.out)) : gb144 ≠ gb137)); have n9_ := Aside0.mk ((by rw [hg]; exact Nat.ne_of_lt (blk_lt (g := gb138) (o := .cells #[.int .i64 0, .slice none 0 0] 28 (0, 0)) (by (with_reducible repeat (first | refine blk_drewN ?_ _ | refine blk_drew ?_ | refine blk_alloc ?_ _)); exact BK138.out)) : gb138 ≠ gb144)); have n10_ := Aside0.mk ((by rw [hg]; exact Nat.ne_of_gt (blk_lt (g := gb138) (o := .cells #[.int .i64 0, .slice none 0 0] 28 (0, 0)) (by (with_reducible repeat (first | refine blk_drewN ?_ _ | refine blk_drew ?_ | refine blk_alloc ?_ _)); exact BK138.out)) : gb144 ≠ gb138)); clear HO143; clear BK137; clear BK138; clear HB; have HO143 := n0_; have BK137 := n1_; have BK138 := n2_; have HB := n3_; have BK144 := n4_; have GW144 := n5_; have GE144 := n6_; have NB137_144 := n7_; have NB144_137 := n8_; have NB138_144 := n9_; have NB144_138 := n10_; clear n0_ n1_ n2_ n3_ n4_ n5_ n6_ n7_ n8_ n9_ n10_; clear hb hbox hg; have hnb17 := NB144_137.out; have hnc17 := NB137_144.out; have hnb18 := NB144_138.out; have hnc18 := NB138_144.out; have hcz19_0 : w16.cell? ⟨gb144, 0, none⟩ = some (.int .i64 0) := (blk_cell BK144.out 0).trans rfl; have hcz19_1 : w16.cell? ⟨gb144, 1, none⟩ = some (.slice none 0 0) := (blk_cell BK144.out 1).trans rfl; have hfz19_0 := blk_frozen BK144.out 0; have hfz19_1 := blk_frozen BK144.out 1))
      go_loopg [7] k (fun kq v7 w' => ∃ (x7_1 : Int) (x145001_1 : List Int) (u145001 : Value), v7 = .int .i64 x7_1 ∧ Aside0 (spec_SkeletonOf.l0 kq a1 x7_1 a0_0 l0_1 a0_0 x145001_1 = some (r1, r2, r3)) ∧ Aside0 (kq ≤ k) ∧ Aside0 (Kd.R (Kd.int .i64) 2 w' w.heap.size (fun _ => True) u145001 x145001_1) ∧ Aside0 (w'.heap[gb137]? = some (.cells #[.int .i64 a0_0, (.slice A0_1 l0_1.length c0_1)] 28 (0, 0))) ∧ Aside0 (w'.heap[gb138]? = some (.cells #[.int .i64 0, (.slice none 0 0)] 28 (0, 0))) ∧ Aside0 (w'.heap[gb144]? = some (.cells #[.int .i64 a0_0, u145001] 28 (0, 0))) ∧ Aside0 (Below w.heap.size w w'))
      case atStart => exact ⟨(0), (y141), (.slice Ao15 y141.length co15), (by first | rfl | (simp; done) | (simp [*]; done)), H', ⟨Nat.le_refl _⟩, ⟨by (with_reducible repeat (first | apply Kd.R_alloc | apply Kd.R_drewN | apply Kd.R_drew)); exact Kd.R_mono (Kd.R_far (p := ⟨gb144, 1, none⟩) (Kd.R_far (p := ⟨gb144, 0, none⟩) (Kd.R_types HO143.out BK144.out (by decide)) (fun _ hk => hk.2) (.int .i64 a0_0)) (fun _ hk => hk.2) (.slice Ao15 y141.length co15)) (fun _ hk => trivial)⟩, ⟨by (with_reducible repeat (first | refine blk_drewN ?_ _ | refine blk_drew ?_ | refine blk_alloc ?_ _)); refine blk_far ?_ NB137_144.out _; (with_reducible repeat (first | refine blk_drewN ?_ _ | refine blk_drew ?_ | refine blk_alloc ?_ _)); refine blk_far ?_ NB137_144.out _; (with_reducible repeat (first | refine blk_drewN ?_ _ | refine blk_drew ?_ | refine blk_alloc ?_ _)); exact BK137.out⟩, ⟨by (with_reducible repeat (first | refine blk_drewN ?_ _ | refine blk_drew ?_ | refine blk_alloc ?_ _)); refine blk_far ?_ NB138_144.out _; (with_reducible repeat (first | refine blk_drewN ?_ _ | refine blk_drew ?_ | refine blk_alloc ?_ _)); refine blk_far ?_ NB138_144.out _; (with_reducible repeat (first | refine blk_drewN ?_ _ | refine blk_drew ?_ | refine blk_alloc ?_ _)); exact BK138.out⟩, ⟨by (with_reducible repeat (first | refine blk_drewN ?_ _ | refine blk_drew ?_ | refine blk_alloc ?_ _)); refine blk_put (cs := #[.int .i64 a0_0, .slice none 0 0]) ?_ 1 _ rfl; (with_reducible repeat (first | refine blk_drewN ?_ _ | refine blk_drew ?_ | refine blk_alloc ?_ _)); refine blk_put (cs := #[.int .i64 0, .slice none 0 0]) ?_ 0 _ rfl; (with_reducible repeat (first | refine blk_drewN ?_ _ | refine blk_drew ?_ | refine blk_alloc ?_ _)); exact BK144.out⟩, ⟨by repeat (first | (with_reducible first | exact HB.out | apply below_alloc | apply pw_below_drewN | apply below_drew1 | refine below_set ?_ GE137.out | refine below_set ?_ GE138.out | refine below_set ?_ GE144.out) | exact HB.out)⟩⟩
      case round =>
        clear H'
        try clear c1
        try clear c2
        try clear p2
        try clear c4
        try clear c5
        try clear c6
        try clear c9
        try clear c17
        try clear c18
        try clear hcz10_0
        try clear hcz10_1
        try clear hcz12_0
        try clear hcz12_1
        try clear hcz19_0
        try clear hcz19_1
        try clear hfz10_0
        try clear hfz10_1
        try clear hfz12_0
        try clear hfz12_1
        try clear hfz19_0
        try clear hfz19_1
        obtain ⟨x7_1, x145001_1, u145001, rfl, HA, HK1, HO_145001, BK137, BK138, BK144, HB⟩ := hrel
        cases gk with
        | zero => exact absurd HA.out (by simp [spec_SkeletonOf.l0])
        | succ k1 =>
          have H := HA.out
          clear HA
          simp only [spec_SkeletonOf.l0] at H
          by_cases c20 : x7_1 < (l0_1.length : Int)
          · rw [if_pos c20] at H
            have c20b0 : decide (x7_1 < (l0_1.length : Int)) = true := decide_eq_true c20
            clear c20
            by_cases c21 : 0 ≤ x7_1
            · rw [if_pos c21] at H
              have c21b0 : decide (0 ≤ x7_1) = true := decide_eq_true c21
              clear c21
              replace H := Option.bind_eq_some_iff.mp H
              obtain ⟨t146, A220, H⟩ := H
              replace H : (if t146 ≤ (wrap64 (a1 + 1)) then (if x145001_1.length < 17592186044416 then (spec_SkeletonOf.l0 k1 a1 (wrap64 (x7_1 + 1)) a0_0 l0_1 a0_0 (x145001_1 ++ [rd l0_1 x7_1])) else (none)) else (spec_SkeletonOf.l0 k1 a1 (wrap64 (x7_1 + 1)) a0_0 l0_1 a0_0 x145001_1)) = some (r1, r2, r3) := H
              have A22 := Aside0.mk A220
              clear A220
              by_cases c23 : t146 ≤ (wrap64 (a1 + 1))
              · rw [if_pos c23] at H
                have c23b0 : decide (t146 ≤ (wrap64 (a1 + 1))) = true := decide_eq_true c23
                clear c23
                by_cases c24 : x145001_1.length < 17592186044416
                · rw [if_pos c24] at H
                  have LMc24 := Aside0.mk c24
                  clear c24
                  obtain ⟨y148, hy148⟩ : ∃ y_ : List Int, y_ = (x145001_1 ++ [rd l0_1 x7_1]) := ⟨_, rfl⟩
                  replace H : (spec_SkeletonOf.l0 k1 a1 (wrap64 (x7_1 + 1)) a0_0 l0_1 a0_0 y148) = some (r1, r2, r3) := by first | (rw [hy148]; with_reducible exact H) | (have H2_ := (Option.bind_some _ _).symm.trans H; rw [hy148]; with_reducible exact H2_) | (have H2_ := (Option.bind_some _ _).symm.trans H; with_reducible exact H2_) | with_reducible exact H | (rw [hy148]; exact H) | exact H
                  have Ny148 := Aside0.mk hy148
                  clear hy148
                  have H' := Aside0.mk H
                  clear H
                  have hnb25 := NB137_138.out
                  have hnc25 := NB138_137.out
                  have hnb26 := NB137_144.out
                  have hnc26 := NB144_137.out
                  have hcz27_0 : wr.cell? ⟨gb137, 0, none⟩ = some (.int .i64 a0_0) := (blk_cell BK137.out 0).trans rfl
                  have hcz27_1 : wr.cell? ⟨gb137, 1, none⟩ = some (.slice A0_1 l0_1.length c0_1) := (blk_cell BK137.out 1).trans rfl
                  have hfz27_0 := blk_frozen BK137.out 0
                  have hfz27_1 := blk_frozen BK137.out 1
                  have p145 : 0 ≤ (x7_1 : Int) := of_decide_eq_true (by first | (with_reducible assumption) | assumption)
                  have q145 : x7_1 < (l0_1.length : Int) := of_decide_eq_true (by first | (with_reducible assumption) | assumption)
                  obtain ⟨ad145, e145, hx145_0⟩ := Kd.at_int HR0_1.out x7_1 p145 q145
                  cases e145
                  replace hx145_0 := (HB.out.cell (World.block_lt_of_cell? w _ hx145_0)).trans hx145_0
                  replace p145 := eq_true p145
                  replace q145 := eq_true q145
                  try go_wp2_with (first | ((with_reducible refine gate_callee (f := 54) rfl ?_); refine goesL_ (some 34) rfl rfl Try.func54 (by kernel_rfl) rfl #[.int .i64 (rd l0_1 x7_1)] rfl (by (try simp only [List.map_toArray, List.map_cons, List.map_nil]); first | done | rfl | (simp only [List.length_drop, List.length_take]; rfl)) ?_; (with_reducible refine (spec_l01Ones.calls k1 (rd l0_1 x7_1) t146 _ A22.out).mono ?_); rintro e w' ⟨rfl, ⟨nd, rfl⟩⟩; refine ⟨_, rfl, ?_⟩; (try (rw [drewN_self wr]; generalize hq_ : World.drewN wr _ = wr; have n0_ : Aside0 (Kd.R (Kd.int .i64) 2 wr w.heap.size (fun _ => True) u145001 x145001_1) := ⟨by rw [← hq_]; exact (by (with_reducible repeat (first | apply Kd.R_alloc | apply Kd.R_drewN | apply Kd.R_drew)); exact HO_145001.out)⟩; have n1_ : Aside0 (wr.heap[gb137]? = some (.cells #[.int .i64 a0_0, .slice (some ad145) l0_1.length c0_1] 28 (0, 0))) := ⟨by rw [← hq_]; exact (by (with_reducible repeat (first | refine blk_drewN ?_ _ | refine blk_drew ?_ | refine blk_alloc ?_ _)); exact BK137.out)⟩; have n2_ : Aside0 (wr.heap[gb138]? = some (.cells #[.int .i64 0, .slice none 0 0] 28 (0, 0))) := ⟨by rw [← hq_]; exact (by (with_reducible repeat (first | refine blk_drewN ?_ _ | refine blk_drew ?_ | refine blk_alloc ?_ _)); exact BK138.out)⟩; have n3_ : Aside0 (wr.heap[gb144]? = some (.cells #[.int .i64 a0_0, u145001] 28 (0, 0))) := ⟨by rw [← hq_]; exact (by (with_reducible repeat (first | refine blk_drewN ?_ _ | refine blk_drew ?_ | refine blk_alloc ?_ _)); exact BK144.out)⟩; have n4_ : Aside0 (Below w.heap.size w wr) := ⟨by rw [← hq_]; exact (by repeat (first | (with_reducible first | exact HB.out | apply below_alloc | apply pw_below_drewN | apply below_drew1 | refine below_set ?_ GE137.out | refine below_set ?_ GE138.out | refine below_set ?_ GE144.out) | exact HB.out))⟩; clear HO_145001 BK137 BK138 BK144 HB hq_; have HO_145001 := n0_; have BK137 := n1_; have BK138 := n2_; have BK144 := n3_; have HB := n4_; clear n0_ n1_ n2_ n3_ n4_))))
                  have n0_ := Aside0.mk (Kd.R_drew HO_145001.out)
                  have n1_ := Aside0.mk (blk_drew BK137.out)
                  have n2_ := Aside0.mk (blk_drew BK138.out)
                  have n3_ := Aside0.mk (blk_drew BK144.out)
                  have n4_ := Aside0.mk (below_drew1 HB.out)
                  clear HO_145001
                  clear BK137
                  clear BK138
                  clear BK144
                  clear HB
                  have HO_145001 := n0_
                  have BK137 := n1_
                  have BK138 := n2_
                  have BK144 := n3_
                  have HB := n4_
                  clear n0_ n1_ n2_ n3_ n4_
                  have p147 : 0 ≤ (x7_1 : Int) := of_decide_eq_true (by first | (with_reducible assumption) | assumption)
                  have q147 : x7_1 < (l0_1.length : Int) := of_decide_eq_true (by first | (with_reducible assumption) | assumption)
                  obtain ⟨ad147, e147, hx147_0⟩ := Kd.at_int HR0_1.out x7_1 p147 q147
                  have hw147_0 := hx147_0
                  obtain rfl : ad145 = ad147 := (by injection e147)
                  replace hx147_0 := (HB.out.cell (World.block_lt_of_cell? w _ hx147_0)).trans hx147_0
                  replace p147 := eq_true p147
                  replace q147 := eq_true q147
                  refine start_ (n := 11) (S := fun w' => w'.cell? ⟨gb144, 0, none⟩ = some (.int .i64 a0_0) ∧ w'.cell? ⟨gb144, 1, none⟩ = some (u145001) ∧ w'.cell? ⟨gb137, 0, none⟩ = some (.int .i64 a0_0) ∧ w'.cell? ⟨gb137, 1, none⟩ = some (.slice (some ad145) l0_1.length c0_1) ∧ w'.cell? (ad145.add (x7_1).toNat) = some (.int .i64 (rd l0_1 x7_1))) (ds := [10]) #[false, false, false, false, false, false, false, false, false, false, false] (by kernel_rfl) rfl rfl ⟨(blk_cell BK144.out 0).trans rfl, (blk_cell BK144.out 1).trans rfl, (blk_cell BK137.out 0).trans rfl, (blk_cell BK137.out 1).trans rfl, ((HB.out.cell (World.block_lt_of_cell? w _ hw147_0)).trans hw147_0)⟩ (fun hHeld => ?_); refine with_tabW spec_SkeletonOf.tab10 spec_SkeletonOf.bits10 (fun HT_ HW_ => ?_)
                  generalize wr.drew = w28 at HO_145001 BK137 BK138 BK144 HB hx147_0 hHeld ⊢
                  refine pure_ (i := 0) (N := some 38) (v := ?_) (a' := ?_) #[true, false, false, false, false, false, false, false, false, false, false] rfl rfl (any_of HT_.out (by kernel_rfl)) (fun _ _ _ h => h) (Or.inl ⟨by rfl, ?_⟩) ?_ ?_
                  rotate_left
                  · intro w'
                    go_simp
                    with_reducible rfl
                  rotate_left
                  · simp only [Act.put, List.setIfInBounds_toArray, List.set_cons_zero, List.set_cons_succ, i64_w, i32_w]
                    rfl
                  refine pure_ (i := 2) (N := some 40) (v := ?_) (a' := ?_) #[true, false, true, false, false, false, false, false, false, false, false] rfl rfl (any_of HT_.out (by kernel_rfl)) (fun _ _ _ h => h) (Or.inl ⟨by rfl, ?_⟩) ?_ ?_
                  rotate_left
                  · intro w'
                    go_simp
                    with_reducible rfl
                  rotate_left
                  · simp only [Act.put, List.setIfInBounds_toArray, List.set_cons_zero, List.set_cons_succ, i64_w, i32_w]
                    rfl
                  refine pure_ (i := 4) (N := some 42) (v := ?_) (a' := ?_) #[true, false, true, false, true, false, false, false, false, false, false] rfl rfl (any_of HT_.out (by kernel_rfl)) (fun _ _ _ h => h) (Or.inl ⟨by rfl, ?_⟩) ?_ ?_
                  rotate_left
                  · intro w'
                    go_simp
                    with_reducible rfl
                  rotate_left
                  · simp only [Act.put, List.setIfInBounds_toArray, List.set_cons_zero, List.set_cons_succ, i64_w, i32_w]
                    rfl
                  refine take_ (i := 1) (N := some 39) (v := ?_) (a' := ?_) #[true, true, true, false, true, false, false, false, false, false, false] rfl rfl (take_ofW HT_.out HW_.out (by kernel_rfl)) (fun _ _ _ h => h) (Or.inl ⟨by rfl, ?_⟩) hHeld ?_ ?_
                  rotate_left
                  · rintro w' ⟨s0, s1, s2, s3, s4⟩
                    go_simp
                    with_reducible rfl
                  rotate_left
                  · simp only [Act.put, List.setIfInBounds_toArray, List.set_cons_zero, List.set_cons_succ, i64_w, i32_w]
                    rfl
                  refine take_ (i := 3) (N := some 41) (v := ?_) (a' := ?_) #[true, true, true, true, true, false, false, false, false, false, false] rfl rfl (take_ofW HT_.out HW_.out (by kernel_rfl)) (fun _ _ _ h => h) (Or.inl ⟨by rfl, ?_⟩) hHeld ?_ ?_
                  rotate_left
                  · rintro w' ⟨s0, s1, s2, s3, s4⟩
                    go_simp
                    with_reducible rfl
                  rotate_left
                  · simp only [Act.put, List.setIfInBounds_toArray, List.set_cons_zero, List.set_cons_succ, i64_w, i32_w]
                    rfl
                  refine pure_ (i := 5) (N := some 43) (v := ?_) (a' := ?_) #[true, true, true, true, true, true, false, false, false, false, false] rfl rfl (any_of HT_.out (by kernel_rfl)) (fun _ _ _ h => h) (Or.inl ⟨by rfl, ?_⟩) ?_ ?_
                  rotate_left
                  · intro w'
                    go_simp
                    with_reducible rfl
                  rotate_left
                  · simp only [Act.put, List.setIfInBounds_toArray, List.set_cons_zero, List.set_cons_succ, i64_w, i32_w]
                    rfl
                  refine take_ (i := 6) (N := some 44) (v := ?_) (a' := ?_) #[true, true, true, true, true, true, true, false, false, false, false] rfl rfl (take_ofW HT_.out HW_.out (by kernel_rfl)) (fun _ _ _ h => h) (Or.inl ⟨by rfl, ?_⟩) hHeld ?_ ?_
                  rotate_left
                  · rintro w' ⟨s0, s1, s2, s3, s4⟩
                    go_simp
                    with_reducible rfl
                  rotate_left
                  · simp only [Act.put, List.setIfInBounds_toArray, List.set_cons_zero, List.set_cons_succ, i64_w, i32_w]
                    rfl
                  refine one_ (i := 7) (N := some 45) #[true, true, true, true, true, true, true, true, false, false, false] rfl rfl (one_of HT_.out (by kernel_rfl)) (by decide) (fun K hK => ?_)
                  refine value_ (w1 := ?_) (v := ?_) (by rfl) rfl ?_ ?_
                  rotate_left 2
                  · go_simp
                    constructor
                    · rfl
                    · rfl
                  refine hK.out _ _ ⟨(blk_cell (blk_alloc BK144.out _) 0).trans rfl, (blk_cell (blk_alloc BK144.out _) 1).trans rfl, (blk_cell (blk_alloc BK137.out _) 0).trans rfl, (blk_cell (blk_alloc BK137.out _) 1).trans rfl, (World.cell?_alloc_lt _ _ _ (World.block_lt_of_cell? _ _ (((HB.out.cell (World.block_lt_of_cell? w _ hw147_0)).trans hw147_0)))).trans (((HB.out.cell (World.block_lt_of_cell? w _ hw147_0)).trans hw147_0))⟩ (fun hHeld => ?_)
                  clear hK K
                  refine norm_ (a' := ?_) ?_ ?_
                  rotate_left
                  · show Act.put _ (some 45) _ = _
                    simp only [Act.put, List.setIfInBounds_toArray, List.set_cons_zero, List.set_cons_succ, i64_w, i32_w]
                    rfl
                  refine one_ (i := 8) (N := some 46) #[true, true, true, true, true, true, true, true, true, false, false] rfl rfl (one_of HT_.out (by kernel_rfl)) (by decide) (fun K hK => ?_)
                  refine Kd.R_append_step (Kd.int .i64) (w0 := w) w.heap.size (by rfl) (.tmp 39) (.tmp 45) 22 2 (.int .i64 0) 8 rfl Try.underlying22 info2 rfl (by decide) (by omega) u145001 x145001_1 (rd l0_1 x7_1) [.int .i64 (rd l0_1 x7_1)] (fun _ => True) (fun _ => False) rfl rfl ?aP (fun _ hk => hk.elim) ?aF ?aO ?aB ?aS ?aL ?_
                  (case aP => exact rfl)
                  (case aB => exact (by repeat (first | (with_reducible first | exact HB.out | apply below_alloc | apply pw_below_drewN | apply below_drew1 | refine below_set ?_ GE137.out | refine below_set ?_ GE138.out | refine below_set ?_ GE144.out) | exact HB.out)))
                  (case aF => exact (fun _ _ => trivial))
                  (case aO => exact (by (with_reducible repeat (first | apply Kd.R_alloc | apply Kd.R_drewN | apply Kd.R_drew)); exact HO_145001.out))
                  (case aS => exact (below_size (by repeat (first | (with_reducible first | exact HB.out | apply below_alloc | apply pw_below_drewN | apply below_drew1 | refine below_set ?_ GE137.out | refine below_set ?_ GE138.out | refine below_set ?_ GE144.out) | exact HB.out))))
                  (case aL => have := LMc24.out; omega)
                  intro v149 w29 ho hb hg hat
                  rw [← Ny148.out] at ho
                  have n0_ := Aside0.mk (blk_grown (g := gb137) (o := .cells #[.int .i64 a0_0, .slice (some ad145) l0_1.length c0_1] 28 (0, 0)) (by (with_reducible repeat (first | refine blk_drewN ?_ _ | refine blk_drew ?_ | refine blk_alloc ?_ _)); exact BK137.out) hg (Kd.R_ne HO_145001.out BK137.out (by decide)))
                  have n1_ := Aside0.mk (blk_grown (g := gb138) (o := .cells #[.int .i64 0, .slice none 0 0] 28 (0, 0)) (by (with_reducible repeat (first | refine blk_drewN ?_ _ | refine blk_drew ?_ | refine blk_alloc ?_ _)); exact BK138.out) hg (Kd.R_ne HO_145001.out BK138.out (by decide)))
                  have n2_ := Aside0.mk (blk_grown (g := gb144) (o := .cells #[.int .i64 a0_0, u145001] 28 (0, 0)) (by (with_reducible repeat (first | refine blk_drewN ?_ _ | refine blk_drew ?_ | refine blk_alloc ?_ _)); exact BK144.out) hg (Kd.R_ne HO_145001.out BK144.out (by decide)))
                  have n3_ := Aside0.mk (hb)
                  have n4_ := Aside0.mk (ho)
                  clear BK137
                  clear BK138
                  clear BK144
                  clear HB
                  clear HO_145001
                  have BK137 := n0_
                  have BK138 := n1_
                  have BK144 := n2_
                  have HB := n3_
                  have HO150 := n4_
                  clear n0_ n1_ n2_ n3_ n4_
                  clear ho hb hg hat
                  obtain ⟨Ao30, co30, eo30⟩ := Kd.R_slice HO150.out
                  (first | subst eo30 | (injection eo30 with f1_ f2_ f3_; have f4_ := f1_.symm; have f5_ := f3_.symm; clear f1_ f2_ f3_; subst f4_; subst f5_))
                  refine hK.out _ _ ⟨(blk_cell BK144.out 0).trans rfl, (blk_cell BK144.out 1).trans rfl, (blk_cell BK137.out 0).trans rfl, (blk_cell BK137.out 1).trans rfl, ((HB.out.cell (World.block_lt_of_cell? w _ hw147_0)).trans hw147_0)⟩ (fun hHeld => ?_)
                  clear hK K
                  refine norm_ (a' := ?_) ?_ ?_
                  rotate_left
                  · show Act.put _ (some 46) _ = _
                    simp only [Act.put, List.setIfInBounds_toArray, List.set_cons_zero, List.set_cons_succ, i64_w, i32_w]
                    rfl
                  refine pure_ (i := 9) (N := some 47) (v := ?_) (a' := ?_) #[true, true, true, true, true, true, true, true, true, true, false] rfl rfl (any_of HT_.out (by kernel_rfl)) (fun _ _ _ h => h) (Or.inl ⟨by rfl, ?_⟩) ?_ ?_
                  rotate_left
                  · intro w'
                    go_simp
                    with_reducible rfl
                  rotate_left
                  · simp only [Act.put, List.setIfInBounds_toArray, List.set_cons_zero, List.set_cons_succ, i64_w, i32_w]
                    rfl
                  refine last_ (i := 10) (N := none) #[true, true, true, true, true, true, true, true, true, true, true] rfl rfl (one_of HT_.out (by kernel_rfl)) (by decide) (fun K hK => ?_)
                  have hs31 : w29.cell? ⟨gb144, 1, none⟩ = some (u145001) := (blk_cell BK144.out 1).trans rfl
                  have hfs31 := blk_frozen BK144.out 1
                  have hns31_0 := NB137_144.out
                  have hns31_1 := NB138_144.out
                  have hms31_0 := NB144_137.out
                  have hms31_1 := NB144_138.out
                  refine skip_ (w1 := ?_) (by rfl) rfl ?_ ?_
                  rotate_left
                  · go_simp
                    rfl
                  refine hK.out _ _ ?_
                  clear hK K
                  refine done_ (done_of HT_.out (by kernel_rfl)) ?_
                  try go_wp2
                  go_roundg k1
                  case measure => have := HK1.out; omega
                  case rel => exact ⟨(wrap64 (x7_1 + 1)), (y148), (.slice Ao30 y148.length co30), (by first | rfl | (simp; done) | (simp [*]; done)), H', ⟨by have := HK1.out; omega⟩, ⟨by (with_reducible repeat (first | apply Kd.R_alloc | apply Kd.R_drewN | apply Kd.R_drew)); exact Kd.R_mono (Kd.R_far (p := ⟨gb144, 1, none⟩) (Kd.R_types HO150.out BK144.out (by decide)) (fun _ hk => hk.2) (.slice Ao30 y148.length co30)) (fun _ hk => trivial)⟩, ⟨by (with_reducible repeat (first | refine blk_drewN ?_ _ | refine blk_drew ?_ | refine blk_alloc ?_ _)); refine blk_far ?_ NB137_144.out _; (with_reducible repeat (first | refine blk_drewN ?_ _ | refine blk_drew ?_ | refine blk_alloc ?_ _)); exact BK137.out⟩, ⟨by (with_reducible repeat (first | refine blk_drewN ?_ _ | refine blk_drew ?_ | refine blk_alloc ?_ _)); refine blk_far ?_ NB138_144.out _; (with_reducible repeat (first | refine blk_drewN ?_ _ | refine blk_drew ?_ | refine blk_alloc ?_ _)); exact BK138.out⟩, ⟨by (with_reducible repeat (first | refine blk_drewN ?_ _ | refine blk_drew ?_ | refine blk_alloc ?_ _)); refine blk_put (cs := #[.int .i64 a0_0, u145001]) ?_ 1 _ rfl; (with_reducible repeat (first | refine blk_drewN ?_ _ | refine blk_drew ?_ | refine blk_alloc ?_ _)); exact BK144.out⟩, ⟨by repeat (first | (with_reducible first | exact HB.out | apply below_alloc | apply pw_below_drewN | apply below_drew1 | refine below_set ?_ GE137.out | refine below_set ?_ GE138.out | refine below_set ?_ GE144.out) | exact HB.out)⟩⟩
                · rw [if_neg c24] at H
                  exact absurd H (by simp)
              · rw [if_neg c23] at H
                have c23b0 : decide (t146 ≤ (wrap64 (a1 + 1))) = false := decide_eq_false c23
                clear c23
                have H' := Aside0.mk H
                clear H
                have hnb32 := NB137_138.out
                have hnc32 := NB138_137.out
                have hnb33 := NB137_144.out
                have hnc33 := NB144_137.out
                have hcz34_0 : wr.cell? ⟨gb137, 0, none⟩ = some (.int .i64 a0_0) := (blk_cell BK137.out 0).trans rfl
                have hcz34_1 : wr.cell? ⟨gb137, 1, none⟩ = some (.slice A0_1 l0_1.length c0_1) := (blk_cell BK137.out 1).trans rfl
                have hfz34_0 := blk_frozen BK137.out 0
                have hfz34_1 := blk_frozen BK137.out 1
                have p145 : 0 ≤ (x7_1 : Int) := of_decide_eq_true (by first | (with_reducible assumption) | assumption)
                have q145 : x7_1 < (l0_1.length : Int) := of_decide_eq_true (by first | (with_reducible assumption) | assumption)
                obtain ⟨ad145, e145, hx145_0⟩ := Kd.at_int HR0_1.out x7_1 p145 q145
                cases e145
                replace hx145_0 := (HB.out.cell (World.block_lt_of_cell? w _ hx145_0)).trans hx145_0
                replace p145 := eq_true p145
                replace q145 := eq_true q145
                go_wp2_with (first | ((with_reducible refine gate_callee (f := 54) rfl ?_); refine goesL_ (some 34) rfl rfl Try.func54 (by kernel_rfl) rfl #[.int .i64 (rd l0_1 x7_1)] rfl (by (try simp only [List.map_toArray, List.map_cons, List.map_nil]); first | done | rfl | (simp only [List.length_drop, List.length_take]; rfl)) ?_; (with_reducible refine (spec_l01Ones.calls k1 (rd l0_1 x7_1) t146 _ A22.out).mono ?_); rintro e w' ⟨rfl, ⟨nd, rfl⟩⟩; refine ⟨_, rfl, ?_⟩))
                go_roundg k1
                case measure => have := HK1.out; omega
                case rel => exact ⟨(wrap64 (x7_1 + 1)), (x145001_1), (u145001), (by first | rfl | (simp; done) | (simp [*]; done)), H', ⟨by have := HK1.out; omega⟩, ⟨by (with_reducible repeat (first | apply Kd.R_alloc | apply Kd.R_drewN | apply Kd.R_drew)); exact HO_145001.out⟩, ⟨by (with_reducible repeat (first | refine blk_drewN ?_ _ | refine blk_drew ?_ | refine blk_alloc ?_ _)); exact BK137.out⟩, ⟨by (with_reducible repeat (first | refine blk_drewN ?_ _ | refine blk_drew ?_ | refine blk_alloc ?_ _)); exact BK138.out⟩, ⟨by (with_reducible repeat (first | refine blk_drewN ?_ _ | refine blk_drew ?_ | refine blk_alloc ?_ _)); exact BK144.out⟩, ⟨by repeat (first | (with_reducible first | exact HB.out | apply below_alloc | apply pw_below_drewN | apply below_drew1 | refine below_set ?_ GE137.out | refine below_set ?_ GE138.out | refine below_set ?_ GE144.out) | exact HB.out)⟩⟩
            · rw [if_neg c21] at H
              exact absurd H (by simp)
          · rw [if_neg c20] at H
            have c20b0 : decide (x7_1 < (l0_1.length : Int)) = false := decide_eq_false c20
            clear c20
            simp only [Option.some.injEq, Prod.mk.injEq] at H
            obtain ⟨rfl, rfl, rfl⟩ := H
            have hnb35 := NB137_138.out
            have hnc35 := NB138_137.out
            have hnb36 := NB137_144.out
            have hnc36 := NB144_137.out
            have hcz37_0 : wr.cell? ⟨gb137, 0, none⟩ = some (.int .i64 a0_0) := (blk_cell BK137.out 0).trans rfl
            have hcz37_1 : wr.cell? ⟨gb137, 1, none⟩ = some (.slice A0_1 l0_1.length c0_1) := (blk_cell BK137.out 1).trans rfl
            have hfz37_0 := blk_frozen BK137.out 0
            have hfz37_1 := blk_frozen BK137.out 1
            have hnb38 := NB144_138.out
            have hnc38 := NB138_144.out
            have hcz39_0 : wr.cell? ⟨gb144, 0, none⟩ = some (.int .i64 a0_0) := (blk_cell BK144.out 0).trans rfl
            have hcz39_1 : wr.cell? ⟨gb144, 1, none⟩ = some (u145001) := (blk_cell BK144.out 1).trans rfl
            have hfz39_0 := blk_frozen BK144.out 0
            have hfz39_1 := blk_frozen BK144.out 1
            have hcz40_0 : wr.cell? ⟨gb138, 0, none⟩ = some (.int .i64 0) := (blk_cell BK138.out 0).trans rfl
            have hcz40_1 : wr.cell? ⟨gb138, 1, none⟩ = some (.slice none 0 0) := (blk_cell BK138.out 1).trans rfl
            have hfz40_0 := blk_frozen BK138.out 0
            have hfz40_1 := blk_frozen BK138.out 1
            obtain ⟨Ao41, co41, eo41⟩ := Kd.R_slice HO_145001.out
            subst eo41
            go_wp2
            refine bodyPost_ret (results_ct rfl _ _ gb138 28 #[.int .i64 a0_0, .slice Ao41 x145001_1.length co41] (0, 0) _ rfl (by (with_reducible repeat (first | refine blk_drewN ?_ _ | refine blk_drew ?_ | refine blk_alloc ?_ _)); refine blk_put (cs := #[.int .i64 a0_0, .slice none 0 0]) ?_ 1 _ rfl; (with_reducible repeat (first | refine blk_drewN ?_ _ | refine blk_drew ?_ | refine blk_alloc ?_ _)); refine blk_put (cs := #[.int .i64 0, .slice none 0 0]) ?_ 0 _ rfl; (with_reducible repeat (first | refine blk_drewN ?_ _ | refine blk_drew ?_ | refine blk_alloc ?_ _)); exact BK138.out) Try.underlying28 rfl (by kernel_rfl)) rfl ?_
            exact ⟨_, by first | rfl | (simp [errW_none, errW_some] <;> rfl) | (simp [*, errW_none, errW_some] <;> rfl), by (with_reducible repeat (first | apply Kd.R_alloc | apply Kd.R_drewN | apply Kd.R_drew)); exact Kd.R_mono (Kd.R_far (p := ⟨gb138, 1, none⟩) (Kd.R_far (p := ⟨gb138, 0, none⟩) (Kd.R_types HO_145001.out BK138.out (by decide)) (fun _ hk => hk.2) (.int .i64 a0_0)) (fun _ hk => hk.2) (.slice Ao41 x145001_1.length co41)) (fun _ hk => trivial), by repeat (first | (with_reducible first | exact HB.out | apply below_alloc | apply pw_below_drewN | apply below_drew1 | refine below_set ?_ GE137.out | refine below_set ?_ GE138.out | refine below_set ?_ GE144.out) | exact HB.out)⟩
    · replace c6 := Bool.eq_false_iff.mpr c6
      subst c6
      have H1 : (some (0, ([] : List Int), 2)) = some (r1, r2, r3) := by rw [if_neg (show ¬ (false = true) by decide)] at H; exact H
      clear H
      have H := H1
      clear H1
      simp only [Option.some.injEq, Prod.mk.injEq] at H
      obtain ⟨rfl, rfl, rfl⟩ := H
      go_enter Try.func23, Try.ntmps23
      go_wp2_with (first | ((with_reducible refine gate_dst (N := 2) rfl ?_); refine box_event ?hg (N := 2) ?hd (cs := #[.int .i64 a0_0, .slice A0_1 l0_1.length c0_1]) (t := 28) ?hr ?_; (case hd => rfl); (case hg => rfl); (case hr => first | (go_simp; done) | (go_simp; rfl)); intro gb137 hg w42 hbox hb; have n0_ := Aside0.mk (below_step (by repeat (first | (with_reducible first | exact HB.out | apply below_alloc | apply pw_below_drewN | apply below_drew1) | exact HB.out)) hb); have n1_ := Aside0.mk (hbox); have n2_ := Aside0.mk ((by rw [hg]; exact (below_size (by repeat (first | (with_reducible first | exact HB.out | apply below_alloc | apply pw_below_drewN | apply below_drew1) | exact HB.out))) : w.heap.size ≤ gb137)); have n3_ := Aside0.mk ((by rw [hg]; exact (below_size (by repeat (first | (with_reducible first | exact HB.out | apply below_alloc | apply pw_below_drewN | apply below_drew1) | exact HB.out))) : w.heap.size ≤ gb137)); clear HB; have HB := n0_; have BK137 := n1_; have GW137 := n2_; have GE137 := n3_; clear n0_ n1_ n2_ n3_; clear hb hbox hg) | ((with_reducible refine gate_dst (N := 4) rfl ?_); refine box_event ?hg (N := 4) ?hd (cs := #[.int .i64 0, .slice none 0 0]) (t := 28) ?hr ?_; (case hd => rfl); (case hg => rfl); (case hr => first | (go_simp; done) | (go_simp; rfl)); intro gb138 hg w43 hbox hb; have n0_ := Aside0.mk (blk_below (g := gb137) (o := .cells #[.int .i64 a0_0, .slice A0_1 l0_1.length c0_1] 28 (0, 0)) (by (with_reducible repeat (first | refine blk_drewN ?_ _ | refine blk_drew ?_ | refine blk_alloc ?_ _)); exact BK137.out) hb); have n1_ := Aside0.mk (below_step (by repeat (first | (with_reducible first | exact HB.out | apply below_alloc | apply pw_below_drewN | apply below_drew1 | refine below_set ?_ GE137.out) | exact HB.out)) hb); have n2_ := Aside0.mk (hbox); have n3_ := Aside0.mk ((by rw [hg]; exact (below_size (by repeat (first | (with_reducible first | exact HB.out | apply below_alloc | apply pw_below_drewN | apply below_drew1 | refine below_set ?_ GE137.out) | exact HB.out))) : w.heap.size ≤ gb138)); have n4_ := Aside0.mk ((by rw [hg]; exact (below_size (by repeat (first | (with_reducible first | exact HB.out | apply below_alloc | apply pw_below_drewN | apply below_drew1 | refine below_set ?_ GE137.out) | exact HB.out))) : w.heap.size ≤ gb138)); have n5_ := Aside0.mk ((by rw [hg]; exact Nat.ne_of_lt (blk_lt (g := gb137) (o := .cells #[.int .i64 a0_0, .slice A0_1 l0_1.length c0_1] 28 (0, 0)) (by (with_reducible repeat (first | refine blk_drewN ?_ _ | refine blk_drew ?_ | refine blk_alloc ?_ _)); exact BK137.out)) : gb137 ≠ gb138)); have n6_ := Aside0.mk ((by rw [hg]; exact Nat.ne_of_gt (blk_lt (g := gb137) (o := .cells #[.int .i64 a0_0, .slice A0_1 l0_1.length c0_1] 28 (0, 0)) (by (with_reducible repeat (first | refine blk_drewN ?_ _ | refine blk_drew ?_ | refine blk_alloc ?_ _)); exact BK137.out)) : gb138 ≠ gb137)); clear BK137; clear HB; have BK137 := n0_; have HB := n1_; have BK138 := n2_; have GW138 := n3_; have GE138 := n4_; have NB137_138 := n5_; have NB138_137 := n6_; clear n0_ n1_ n2_ n3_ n4_ n5_ n6_; clear hb hbox hg; have hnb44 := NB137_138.out; have hnc44 := NB138_137.out; have hcz45_0 : w43.cell? ⟨gb137, 0, none⟩ = some (.int .i64 a0_0) := (blk_cell BK137.out 0).trans rfl; have hcz45_1 : w43.cell? ⟨gb137, 1, none⟩ = some (.slice A0_1 l0_1.length c0_1) := (blk_cell BK137.out 1).trans rfl; have hfz45_0 := blk_frozen BK137.out 0; have hfz45_1 := blk_frozen BK137.out 1) | ((with_reducible refine gate_callee (f := 52) rfl ?_); refine goesL_ (some 10) rfl rfl Try.func52 (by kernel_rfl) rfl #[.agg #[.int .i64 a0_0, .slice A0_1 l0_1.length c0_1]] rfl (by (try simp only [List.map_toArray, List.map_cons, List.map_nil]); first | done | rfl | (simp only [List.length_drop, List.length_take]; rfl)) ?_; (with_reducible refine (spec_l01Is.calls k a0_0 _ _ l0_1 true _ ?side1 ?side2 A3.out).mono ?_); (case side1 => repeat (first | exact (Kd.C_below HR0_1.out HB.out) | (with_reducible refine Kd.C_alloc ?_ _) | (with_reducible refine Kd.C_drewN ?_ _) | (with_reducible refine Kd.C_drew ?_))); (case side2 => exact HC0_1.out); rintro e w46 ⟨rfl, hb⟩; refine ⟨_, rfl, ?_⟩; have n0_ := Aside0.mk (blk_below (g := gb137) (o := .cells #[.int .i64 a0_0, .slice A0_1 l0_1.length c0_1] 28 (0, 0)) (by (with_reducible repeat (first | refine blk_drewN ?_ _ | refine blk_drew ?_ | refine blk_alloc ?_ _)); exact BK137.out) hb); have n1_ := Aside0.mk (blk_below (g := gb138) (o := .cells #[.int .i64 0, .slice none 0 0] 28 (0, 0)) (by (with_reducible repeat (first | refine blk_drewN ?_ _ | refine blk_drew ?_ | refine blk_alloc ?_ _)); exact BK138.out) hb); have n2_ := Aside0.mk (below_step (by repeat (first | (with_reducible first | exact HB.out | apply below_alloc | apply pw_below_drewN | apply below_drew1 | refine below_set ?_ GE137.out | refine below_set ?_ GE138.out) | exact HB.out)) hb); clear BK137; clear BK138; clear HB; have BK137 := n0_; have BK138 := n1_; have HB := n2_; clear n0_ n1_ n2_; (try clear hb); (try clear hb2); (try clear hk); (try clear hi)) | ((with_reducible refine gate_callee (f := 53) rfl ?_); refine goesL_ (some 15) rfl rfl Try.func53 (by kernel_rfl) rfl #[.int .i64 a1, .int .i64 (-1), .int .i64 5] rfl (by (try simp only [List.map_toArray, List.map_cons, List.map_nil]); first | done | rfl | (simp only [List.length_drop, List.length_take]; rfl)) ?_; (with_reducible refine (spec_l01In.calls a1 (-1) 5 false _ A5.out).mono ?_); rintro e w' ⟨rfl, ⟨nd, rfl⟩⟩; refine ⟨_, rfl, ?_⟩; (try (rw [drewN_self w46]; generalize hq_ : World.drewN w46 _ = w46; have n0_ : Aside0 (w46.heap[gb137]? = some (.cells #[.int .i64 a0_0, .slice A0_1 l0_1.length c0_1] 28 (0, 0))) := ⟨by rw [← hq_]; exact (by (with_reducible repeat (first | refine blk_drewN ?_ _ | refine blk_drew ?_ | refine blk_alloc ?_ _)); exact BK137.out)⟩; have n1_ : Aside0 (w46.heap[gb138]? = some (.cells #[.int .i64 0, .slice none 0 0] 28 (0, 0))) := ⟨by rw [← hq_]; exact (by (with_reducible repeat (first | refine blk_drewN ?_ _ | refine blk_drew ?_ | refine blk_alloc ?_ _)); exact BK138.out)⟩; have n2_ : Aside0 (Below w.heap.size w w46) := ⟨by rw [← hq_]; exact (by repeat (first | (with_reducible first | exact HB.out | apply below_alloc | apply pw_below_drewN | apply below_drew1 | refine below_set ?_ GE137.out | refine below_set ?_ GE138.out) | exact HB.out))⟩; clear BK137 BK138 HB hq_; have BK137 := n0_; have BK138 := n1_; have HB := n2_; clear n0_ n1_ n2_)); have hcz47_0 : w46.cell? ⟨gb138, 0, none⟩ = some (.int .i64 0) := (blk_cell BK138.out 0).trans rfl; have hcz47_1 : w46.cell? ⟨gb138, 1, none⟩ = some (.slice none 0 0) := (blk_cell BK138.out 1).trans rfl; have hfz47_0 := blk_frozen BK138.out 0; have hfz47_1 := blk_frozen BK138.out 1))
      refine bodyPost_ret (results_ct rfl _ _ gb138 28 #[.int .i64 0, .slice none 0 0] (0, 0) _ rfl (by (with_reducible repeat (first | refine blk_drewN ?_ _ | refine blk_drew ?_ | refine blk_alloc ?_ _)); refine blk_put (cs := #[.int .i64 0, .slice none 0 0]) ?_ 1 _ rfl; (with_reducible repeat (first | refine blk_drewN ?_ _ | refine blk_drew ?_ | refine blk_alloc ?_ _)); refine blk_put (cs := #[.int .i64 0, .slice none 0 0]) ?_ 0 _ rfl; (with_reducible repeat (first | refine blk_drewN ?_ _ | refine blk_drew ?_ | refine blk_alloc ?_ _)); exact BK138.out) Try.underlying28 rfl (by kernel_rfl)) rfl ?_
      exact ⟨_, by first | rfl | (simp [errW_none, errW_some] <;> rfl) | (simp [*, errW_none, errW_some] <;> rfl), by first | exact Kd.R_nil _ _ _ _ _ | exact Kd.N_nil _ _ _ _ _ | exact Kd.V_nil _ _ _ _ _ | exact Kd.Q_nil _ _ _ _ _ | exact Kd.S_nil _ _ _ _ _, by repeat (first | (with_reducible first | exact HB.out | apply below_alloc | apply pw_below_drewN | apply below_drew1 | refine below_set ?_ GE137.out | refine below_set ?_ GE138.out) | exact HB.out)⟩
  · replace c4 := Bool.eq_false_iff.mpr c4
    subst c4
    have H1 : (some (0, ([] : List Int), 1)) = some (r1, r2, r3) := by rw [if_neg (show ¬ (false = true) by decide)] at H; exact H
    clear H
    have H := H1
    clear H1
    simp only [Option.some.injEq, Prod.mk.injEq] at H
    obtain ⟨rfl, rfl, rfl⟩ := H
    go_enter Try.func23, Try.ntmps23
    go_wp2_with (first | ((with_reducible refine gate_dst (N := 2) rfl ?_); refine box_event ?hg (N := 2) ?hd (cs := #[.int .i64 a0_0, .slice A0_1 l0_1.length c0_1]) (t := 28) ?hr ?_; (case hd => rfl); (case hg => rfl); (case hr => first | (go_simp; done) | (go_simp; rfl)); intro gb137 hg w48 hbox hb; have n0_ := Aside0.mk (below_step (by repeat (first | (with_reducible first | exact HB.out | apply below_alloc | apply pw_below_drewN | apply below_drew1) | exact HB.out)) hb); have n1_ := Aside0.mk (hbox); have n2_ := Aside0.mk ((by rw [hg]; exact (below_size (by repeat (first | (with_reducible first | exact HB.out | apply below_alloc | apply pw_below_drewN | apply below_drew1) | exact HB.out))) : w.heap.size ≤ gb137)); have n3_ := Aside0.mk ((by rw [hg]; exact (below_size (by repeat (first | (with_reducible first | exact HB.out | apply below_alloc | apply pw_below_drewN | apply below_drew1) | exact HB.out))) : w.heap.size ≤ gb137)); clear HB; have HB := n0_; have BK137 := n1_; have GW137 := n2_; have GE137 := n3_; clear n0_ n1_ n2_ n3_; clear hb hbox hg) | ((with_reducible refine gate_dst (N := 4) rfl ?_); refine box_event ?hg (N := 4) ?hd (cs := #[.int .i64 0, .slice none 0 0]) (t := 28) ?hr ?_; (case hd => rfl); (case hg => rfl); (case hr => first | (go_simp; done) | (go_simp; rfl)); intro gb138 hg w49 hbox hb; have n0_ := Aside0.mk (blk_below (g := gb137) (o := .cells #[.int .i64 a0_0, .slice A0_1 l0_1.length c0_1] 28 (0, 0)) (by (with_reducible repeat (first | refine blk_drewN ?_ _ | refine blk_drew ?_ | refine blk_alloc ?_ _)); exact BK137.out) hb); have n1_ := Aside0.mk (below_step (by repeat (first | (with_reducible first | exact HB.out | apply below_alloc | apply pw_below_drewN | apply below_drew1 | refine below_set ?_ GE137.out) | exact HB.out)) hb); have n2_ := Aside0.mk (hbox); have n3_ := Aside0.mk ((by rw [hg]; exact (below_size (by repeat (first | (with_reducible first | exact HB.out | apply below_alloc | apply pw_below_drewN | apply below_drew1 | refine below_set ?_ GE137.out) | exact HB.out))) : w.heap.size ≤ gb138)); have n4_ := Aside0.mk ((by rw [hg]; exact (below_size (by repeat (first | (with_reducible first | exact HB.out | apply below_alloc | apply pw_below_drewN | apply below_drew1 | refine below_set ?_ GE137.out) | exact HB.out))) : w.heap.size ≤ gb138)); have n5_ := Aside0.mk ((by rw [hg]; exact Nat.ne_of_lt (blk_lt (g := gb137) (o := .cells #[.int .i64 a0_0, .slice A0_1 l0_1.length c0_1] 28 (0, 0)) (by (with_reducible repeat (first | refine blk_drewN ?_ _ | refine blk_drew ?_ | refine blk_alloc ?_ _)); exact BK137.out)) : gb137 ≠ gb138)); have n6_ := Aside0.mk ((by rw [hg]; exact Nat.ne_of_gt (blk_lt (g := gb137) (o := .cells #[.int .i64 a0_0, .slice A0_1 l0_1.length c0_1] 28 (0, 0)) (by (with_reducible repeat (first | refine blk_drewN ?_ _ | refine blk_drew ?_ | refine blk_alloc ?_ _)); exact BK137.out)) : gb138 ≠ gb137)); clear BK137; clear HB; have BK137 := n0_; have HB := n1_; have BK138 := n2_; have GW138 := n3_; have GE138 := n4_; have NB137_138 := n5_; have NB138_137 := n6_; clear n0_ n1_ n2_ n3_ n4_ n5_ n6_; clear hb hbox hg; have hnb50 := NB137_138.out; have hnc50 := NB138_137.out; have hcz51_0 : w49.cell? ⟨gb137, 0, none⟩ = some (.int .i64 a0_0) := (blk_cell BK137.out 0).trans rfl; have hcz51_1 : w49.cell? ⟨gb137, 1, none⟩ = some (.slice A0_1 l0_1.length c0_1) := (blk_cell BK137.out 1).trans rfl; have hfz51_0 := blk_frozen BK137.out 0; have hfz51_1 := blk_frozen BK137.out 1) | ((with_reducible refine gate_callee (f := 52) rfl ?_); refine goesL_ (some 10) rfl rfl Try.func52 (by kernel_rfl) rfl #[.agg #[.int .i64 a0_0, .slice A0_1 l0_1.length c0_1]] rfl (by (try simp only [List.map_toArray, List.map_cons, List.map_nil]); first | done | rfl | (simp only [List.length_drop, List.length_take]; rfl)) ?_; (with_reducible refine (spec_l01Is.calls k a0_0 _ _ l0_1 false _ ?side1 ?side2 A3.out).mono ?_); (case side1 => repeat (first | exact (Kd.C_below HR0_1.out HB.out) | (with_reducible refine Kd.C_alloc ?_ _) | (with_reducible refine Kd.C_drewN ?_ _) | (with_reducible refine Kd.C_drew ?_))); (case side2 => exact HC0_1.out); rintro e w52 ⟨rfl, hb⟩; refine ⟨_, rfl, ?_⟩; have n0_ := Aside0.mk (blk_below (g := gb137) (o := .cells #[.int .i64 a0_0, .slice A0_1 l0_1.length c0_1] 28 (0, 0)) (by (with_reducible repeat (first | refine blk_drewN ?_ _ | refine blk_drew ?_ | refine blk_alloc ?_ _)); exact BK137.out) hb); have n1_ := Aside0.mk (blk_below (g := gb138) (o := .cells #[.int .i64 0, .slice none 0 0] 28 (0, 0)) (by (with_reducible repeat (first | refine blk_drewN ?_ _ | refine blk_drew ?_ | refine blk_alloc ?_ _)); exact BK138.out) hb); have n2_ := Aside0.mk (below_step (by repeat (first | (with_reducible first | exact HB.out | apply below_alloc | apply pw_below_drewN | apply below_drew1 | refine below_set ?_ GE137.out | refine below_set ?_ GE138.out) | exact HB.out)) hb); clear BK137; clear BK138; clear HB; have BK137 := n0_; have BK138 := n1_; have HB := n2_; clear n0_ n1_ n2_; (try clear hb); (try clear hb2); (try clear hk); (try clear hi); have hcz53_0 : w52.cell? ⟨gb138, 0, none⟩ = some (.int .i64 0) := (blk_cell BK138.out 0).trans rfl; have hcz53_1 : w52.cell? ⟨gb138, 1, none⟩ = some (.slice none 0 0) := (blk_cell BK138.out 1).trans rfl; have hfz53_0 := blk_frozen BK138.out 0; have hfz53_1 := blk_frozen BK138.out 1))
    refine bodyPost_ret (results_ct rfl _ _ gb138 28 #[.int .i64 0, .slice none 0 0] (0, 0) _ rfl (by (with_reducible repeat (first | refine blk_drewN ?_ _ | refine blk_drew ?_ | refine blk_alloc ?_ _)); refine blk_put (cs := #[.int .i64 0, .slice none 0 0]) ?_ 1 _ rfl; (with_reducible repeat (first | refine blk_drewN ?_ _ | refine blk_drew ?_ | refine blk_alloc ?_ _)); refine blk_put (cs := #[.int .i64 0, .slice none 0 0]) ?_ 0 _ rfl; (with_reducible repeat (first | refine blk_drewN ?_ _ | refine blk_drew ?_ | refine blk_alloc ?_ _)); exact BK138.out) Try.underlying28 rfl (by kernel_rfl)) rfl ?_
    exact ⟨_, by first | rfl | (simp [errW_none, errW_some] <;> rfl) | (simp [*, errW_none, errW_some] <;> rfl), by first | exact Kd.R_nil _ _ _ _ _ | exact Kd.N_nil _ _ _ _ _ | exact Kd.V_nil _ _ _ _ _ | exact Kd.Q_nil _ _ _ _ _ | exact Kd.S_nil _ _ _ _ _, by repeat (first | (with_reducible first | exact HB.out | apply below_alloc | apply pw_below_drewN | apply below_drew1 | refine below_set ?_ GE137.out | refine below_set ?_ GE138.out) | exact HB.out)⟩

end Go.Proofs.Ythganpmmhfoodaa.Q
end

section
/- The reference's SkeletonOf comes to what the program's comes to. -/
namespace Go.Proofs.Ythganpmmhfoodaa.K
open Go.RowKit Go.Shelf Go.Proofs.Ythganpmmhfoodaa.Q Go.Proofs.YthganpmmhfoodaaW.PrintWords Go.Proofs.YthganpmmhfoodaaW.PrintLast Go.Proofs.YthganpmmhfoodaaW.PrintMore
set_option linter.unusedVariables false
set_option linter.unusedSimpArgs false

theorem specSkel_loop (n d m : Int) (hd : -1 ≤ d ∧ d ≤ 5) (l : List Int) (hl : l.length ≤ 63) (hr : ∀ x ∈ l, 0 ≤ x ∧ x ≤ 63) : ∀ (e i k : Nat) (acc : List Int), l.length - i = e → i ≤ l.length → e + 8 < k → acc.length ≤ i →
    spec_SkeletonOf.l0 k d (i : Int) n l m acc = some (m, acc ++ (l.drop i).filter (SkeletonOf_p l d), 0) := by
  intro e
  induction e with
  | zero =>
    intro i k acc he hi hk ha
    obtain ⟨k, rfl⟩ : ∃ m, k = m + 1 := ⟨k - 1, by omega⟩
    obtain rfl : i = l.length := by omega
    simp only [spec_SkeletonOf.l0]
    rw [if_neg (by omega)]
    simp
  | succ e ih =>
    intro i k acc he hi hk ha
    obtain ⟨k, rfl⟩ : ∃ m, k = m + 1 := ⟨k - 1, by omega⟩
    simp only [spec_SkeletonOf.l0]
    have hil : i < l.length := by omega
    have hx := hr _ (List.getElem_mem hil)
    rw [if_pos (by omega), if_pos (by omega), rd_nat l i hil, specOnes_is l[i] (by omega) (by omega) k (by omega)]
    simp only [Option.bind_some]
    rw [w64 (d + 1) (by omega) (by omega), w64 ((i : Int) + 1) (by omega) (by omega), nat_succ, List.drop_eq_getElem_cons hil, List.filter_cons]
    by_cases h : onesI l[i] ≤ d + 1
    · have h2 : SkeletonOf_p l d l[i] = true := decide_eq_true (by unfold dimI; omega)
      rw [if_pos h, if_pos (by omega), ih (i + 1) k _ (by omega) (by omega) (by omega) (by simp; omega), h2, if_pos rfl, List.append_assoc]
      rfl
    · have h2 : SkeletonOf_p l d l[i] = false := decide_eq_false (by unfold dimI; omega)
      rw [if_neg h, ih (i + 1) k _ (by omega) (by omega) (by omega) (by omega), h2]
      rfl
theorem specSkeletonOf_is (n : Int) (l : List Int) (d : Int) (hl : l.length ≤ 2097152) (k : Nat) (hk : isK l + 80 ≤ k) :
    spec_SkeletonOf.f k n l d = some (partOf n l (SkeletonOf_b n l d) (SkeletonOf_p l d)) := by
  unfold spec_SkeletonOf.f
  rw [specIs_is n l hl k (by omega)]
  simp only [Option.bind_some]
  have hb : SkeletonOf_b n l d = decide (-1 ≤ d ∧ d ≤ 5) := rfl
  rw [hb]
  cases hi : isC n l with
  | false =>
    have hc : ∀ b, codeOf n l b = 1 := fun b => by simp [codeOf, hi]
    unfold partOf
    rw [hc]
    rfl
  | true =>
    obtain ⟨hn, hs, hr, h63⟩ := isC_faces hi
    rw [if_pos rfl, specIn_is]
    simp only [Option.bind_some]
    by_cases hd : -1 ≤ d ∧ d ≤ 5
    · have := specSkel_loop n d n hd l h63 (isC_of hi) l.length 0 k [] (by omega) (by omega) (by omega) (by simp)
      rw [show ((0 : Nat) : Int) = 0 from rfl, List.nil_append, List.drop_zero] at this
      rw [decide_eq_true hd, if_pos rfl, this, part_filter hi]
    · have hc : codeOf n l false = 2 := by simp [codeOf, hi]
      unfold partOf
      rw [decide_eq_false hd, hc]
      rfl

end Go.Proofs.Ythganpmmhfoodaa.K
end

section
/- The walk through the law FnExactSkeletonOf. -/
namespace Go.Proofs.Ythganpmmhfoodaa.K
open Go.RowKit Go.Shelf Go.Proofs.Ythganpmmhfoodaa.Q Go.Proofs.YthganpmmhfoodaaW.PrintWords Go.Proofs.YthganpmmhfoodaaW.PrintLast Go.Proofs.YthganpmmhfoodaaW.PrintMore
set_option linter.unusedVariables false
set_option linter.unusedSimpArgs false

set_option maxRecDepth 100000 in
set_option maxHeartbeats 4000000 in
theorem LSkeletonOf_calls (n0 : Int) (A0 : Option Addr) (c0 : Nat) (l0 : List Int) (n1 : Int) (w : World) (hr0 : Ki.C w A0 l0.length l0) (hc0 : l0.length ≤ c0) :
    Calls Try.prog 4 #[.agg #[I n0, .slice A0 l0.length c0], I n1] w fun e w' => e = .returned (.bool true) ∧ Grew w w' := by
  have hbig0 := hr0.2.1
  have HR0 := Aside0.mk hr0
  have HC0 := Aside0.mk hc0
  clear hr0 hc0
  have hg0 : Grew w (w.alloc (.cells #[I n0, .slice A0 l0.length c0] 24)) := below_alloc (Grew.refl w) _
  have H0 := Aside0.mk (szC_calls n0 A0 c0 l0 1048576 (by omega) _ (Kd.C_below HR0.out hg0) HC0.out)
  have HM0 := Aside0.mk (Mem.cons (it := .box w.heap.size 24 #[I n0, .slice A0 l0.length c0]) (blk_new w _) (Mem.nil _))
  have HG0 := Aside0.mk hg0
  clear hg0
  by_cases hl0 : 1048576 < (l0.length : Int)
  · rw [if_pos (by omega)] at H0
    go_enter Try.func4, Try.ntmps4
    go_wp2_with fail
    refine H0.out.mono ?_
    rintro e w1 ⟨rfl, hG1⟩
    go_wp2_with fail
    go_ret
    exact ⟨rfl, Grew.trans HG0.out hG1⟩
  · rw [if_neg (by omega)] at H0
    have hcmp : ¬ ((1048576 : Int) - l0.length < 0) := by omega
    obtain ⟨rn0, r0, r1, HS, HI, hlen0⟩ : ∃ (rn0 : Int) (r0 : List Int) (r1 : Int), Aside0 (∀ W A0 c0, Ki.C W A0 l0.length l0 → l0.length ≤ c0 → Calls Try.prog 23 #[.agg #[I n0, .slice A0 l0.length c0], I n1] W fun e w' => ∃ v0, e = .returned (.tuple #[.agg #[I rn0, v0], I r1]) ∧ Ki.R 2 w' W.heap.size (fun _ => True) v0 r0 ∧ Grew W w') ∧ Aside0 (∀ W A0 c0, Ki.C W A0 l0.length l0 → l0.length ≤ c0 → Calls Try.prog 24 #[.agg #[I n0, .slice A0 l0.length c0], I n1] W fun e w' => ∃ v0, e = .returned (.tuple #[.agg #[I rn0, v0], I r1]) ∧ Ki.R 2 w' W.heap.size (fun _ => True) v0 r0 ∧ Grew W w') ∧ r0.length ≤ 1000000 := by
      have hS := fun (W : World) (A0 : Option Addr) (c0 : Nat) => fun (hr0 : Ki.C W A0 l0.length l0) (hc0 : l0.length ≤ c0) => spec_SkeletonOf.calls (isK l0 + 80) n0 A0 c0 l0 n1 _ _ _ W hr0 hc0 (specSkeletonOf_is n0 l0 n1 (by omega) _ (Nat.le_refl _))
      have hI := fun (W : World) (A0 : Option Addr) (c0 : Nat) => fun (hr0 : Ki.C W A0 l0.length l0) (hc0 : l0.length ≤ c0) => SkeletonOf_calls n0 A0 c0 l0 n1 W ⟨hr0, hc0, by omega⟩
      have hlen0 := partOf_length n0 l0 (SkeletonOf_b n0 l0 n1) (SkeletonOf_p l0 n1)
      exact ⟨(partOf n0 l0 (SkeletonOf_b n0 l0 n1) (SkeletonOf_p l0 n1)).1, (partOf n0 l0 (SkeletonOf_b n0 l0 n1) (SkeletonOf_p l0 n1)).2.1, (partOf n0 l0 (SkeletonOf_b n0 l0 n1) (SkeletonOf_p l0 n1)).2.2, ⟨hS⟩, ⟨hI⟩, Nat.le_trans hlen0 (by decide)⟩
    go_enter Try.func4, Try.ntmps4
    go_wp2_with fail
    refine H0.out.mono ?_
    rintro e w1 ⟨rfl, hG1⟩
    clear H0
    have HM1 := Aside0.mk (HM0.out.grew hG1)
    have HG1 := Aside0.mk (Grew.trans HG0.out hG1)
    have hs0 : w.heap.size + 1 ≤ w1.heap.size := by have := hG1.size; simpa using this
    clear hG1 HM0 HG0
    have p0_0 : w1.cell? ⟨w.heap.size, 0, none⟩ = some (I n0) := blk_cell HM1.out.head 0
    have p0_1 : w1.cell? ⟨w.heap.size, 1, none⟩ = some (.slice A0 l0.length c0) := blk_cell HM1.out.head 1
    go_wp2_with fail
    clear p0_0 p0_1
    refine (toC_calls n0 A0 c0 l0 w1 (Kd.C_below HR0.out HG1.out) HC0.out (by omega)).mono ?_
    rintro e w2 ⟨AS0, cS0, rfl, hR2, hG2⟩
    have HM2 : Aside0 (Mem w2 [.row w1.heap.size w2.heap.size (.slice AS0 l0.length cS0) l0, .box w.heap.size 24 #[I n0, .slice A0 l0.length c0]]) := ⟨Mem.cons (it := .row w1.heap.size w2.heap.size (.slice AS0 l0.length cS0) l0) (hR2) (HM1.out.grew hG2)⟩
    have HG2 := Aside0.mk (Grew.trans HG1.out hG2)
    have hs2 := hG2.size
    clear hG2 
    go_wp2_with fail
    refine (HS.out w2 AS0 cS0 (Row.slice HM2.out.head).2.2 (Row.slice HM2.out.head).2.1).mono ?_
    rintro e w3 ⟨vw0, rfl, hRw0, hG3⟩
    obtain ⟨Aw0, cw0, rfl⟩ := Kd.R_slice hRw0
    have HM3 : Aside0 (Mem w3 [.row w2.heap.size w3.heap.size (.slice Aw0 r0.length cw0) r0, .row w1.heap.size w2.heap.size (.slice AS0 l0.length cS0) l0, .box w.heap.size 24 #[I n0, .slice A0 l0.length c0]]) := ⟨Mem.cons (it := .row w2.heap.size w3.heap.size (.slice Aw0 r0.length cw0) r0) (Row.of_R hRw0) (HM2.out.grew hG3)⟩
    have HG3 := Aside0.mk (Grew.trans HG2.out hG3)
    have hs3 := hG3.size
    clear hG3 
    have HM4 : Aside0 (Mem (w3.alloc (.cells #[I rn0, .slice Aw0 r0.length cw0] 28)) [.box w3.heap.size 28 #[I rn0, .slice Aw0 r0.length cw0], .row w2.heap.size w3.heap.size (.slice Aw0 r0.length cw0) r0, .row w1.heap.size w2.heap.size (.slice AS0 l0.length cS0) l0, .box w.heap.size 24 #[I n0, .slice A0 l0.length c0]]) := ⟨Mem.cons (blk_new w3 _) (HM3.out.grew (below_alloc (Grew.refl w3) _))⟩
    have HG4 : Aside0 (Grew w (w3.alloc (.cells #[I rn0, .slice Aw0 r0.length cw0] 28))) := ⟨Grew.trans HG3.out (below_alloc (Grew.refl w3) _)⟩
    have hS4 : (w3.alloc (.cells #[I rn0, .slice Aw0 r0.length cw0] 28)).heap.size = w3.heap.size + 1 := by simp
    have p0_0 : (w3.alloc (.cells #[I rn0, .slice Aw0 r0.length cw0] 28)).cell? ⟨w.heap.size, 0, none⟩ = some (I n0) := blk_cell HM4.out.tail.tail.tail.head 0
    have p0_1 : (w3.alloc (.cells #[I rn0, .slice Aw0 r0.length cw0] 28)).cell? ⟨w.heap.size, 1, none⟩ = some (.slice A0 l0.length c0) := blk_cell HM4.out.tail.tail.tail.head 1
    go_wp2_with fail
    generalize (w3.alloc (.cells #[I rn0, .slice Aw0 r0.length cw0] 28)) = W4 at HM4 HG4 hS4 p0_0 p0_1 ⊢
    clear p0_0 p0_1
    refine (toC_calls n0 A0 c0 l0 W4 (Kd.C_below HR0.out HG4.out) HC0.out (by omega)).mono ?_
    rintro e w5 ⟨Ax0, cx0, rfl, hR5, hG5⟩
    have HM5 : Aside0 (Mem w5 [.row W4.heap.size w5.heap.size (.slice Ax0 l0.length cx0) l0, .box w3.heap.size 28 #[I rn0, .slice Aw0 r0.length cw0], .row w2.heap.size w3.heap.size (.slice Aw0 r0.length cw0) r0, .row w1.heap.size w2.heap.size (.slice AS0 l0.length cS0) l0, .box w.heap.size 24 #[I n0, .slice A0 l0.length c0]]) := ⟨Mem.cons (it := .row W4.heap.size w5.heap.size (.slice Ax0 l0.length cx0) l0) (hR5) (HM4.out.grew hG5)⟩
    have HG5 := Aside0.mk (Grew.trans HG4.out hG5)
    have hs5 := hG5.size
    clear hG5 
    have HM6 : Aside0 (Mem (w5.alloc (.cells #[I n0, .slice Ax0 l0.length cx0] 28)) [.box w5.heap.size 28 #[I n0, .slice Ax0 l0.length cx0], .row W4.heap.size w5.heap.size (.slice Ax0 l0.length cx0) l0, .box w3.heap.size 28 #[I rn0, .slice Aw0 r0.length cw0], .row w2.heap.size w3.heap.size (.slice Aw0 r0.length cw0) r0, .row w1.heap.size w2.heap.size (.slice AS0 l0.length cS0) l0, .box w.heap.size 24 #[I n0, .slice A0 l0.length c0]]) := ⟨Mem.cons (blk_new w5 _) (HM5.out.grew (below_alloc (Grew.refl w5) _))⟩
    have HG6 : Aside0 (Grew w (w5.alloc (.cells #[I n0, .slice Ax0 l0.length cx0] 28))) := ⟨Grew.trans HG5.out (below_alloc (Grew.refl w5) _)⟩
    have hS6 : (w5.alloc (.cells #[I n0, .slice Ax0 l0.length cx0] 28)).heap.size = w5.heap.size + 1 := by simp
    have bx0_0 : (w5.alloc (.cells #[I n0, .slice Ax0 l0.length cx0] 28)).cell? ⟨w5.heap.size, 0, none⟩ = some (I n0) := blk_cell HM6.out.head 0
    have bx0_1 : (w5.alloc (.cells #[I n0, .slice Ax0 l0.length cx0] 28)).cell? ⟨w5.heap.size, 1, none⟩ = some (.slice Ax0 l0.length cx0) := blk_cell HM6.out.head 1
    go_wp2_with fail
    generalize (w5.alloc (.cells #[I n0, .slice Ax0 l0.length cx0] 28)) = W6 at HM6 HG6 hS6 bx0_0 bx0_1 ⊢
    clear bx0_0 bx0_1
    refine (HI.out W6 Ax0 cx0 (Row.slice HM6.out.tail.head).2.2 (Row.slice HM6.out.tail.head).2.1).mono ?_
    rintro e w7 ⟨vg0, rfl, hRg0, hG7⟩
    obtain ⟨Ag0, cg0, rfl⟩ := Kd.R_slice hRg0
    have HM7 : Aside0 (Mem w7 [.row W6.heap.size w7.heap.size (.slice Ag0 r0.length cg0) r0, .box w5.heap.size 28 #[I n0, .slice Ax0 l0.length cx0], .row W4.heap.size w5.heap.size (.slice Ax0 l0.length cx0) l0, .box w3.heap.size 28 #[I rn0, .slice Aw0 r0.length cw0], .row w2.heap.size w3.heap.size (.slice Aw0 r0.length cw0) r0, .row w1.heap.size w2.heap.size (.slice AS0 l0.length cS0) l0, .box w.heap.size 24 #[I n0, .slice A0 l0.length c0]]) := ⟨Mem.cons (it := .row W6.heap.size w7.heap.size (.slice Ag0 r0.length cg0) r0) (Row.of_R hRg0) (HM6.out.grew hG7)⟩
    have HG7 := Aside0.mk (Grew.trans HG6.out hG7)
    have hs7 := hG7.size
    clear hG7 
    have HM8 : Aside0 (Mem (w7.alloc (.cells #[I rn0, .slice Ag0 r0.length cg0] 28)) [.box w7.heap.size 28 #[I rn0, .slice Ag0 r0.length cg0], .row W6.heap.size w7.heap.size (.slice Ag0 r0.length cg0) r0, .box w5.heap.size 28 #[I n0, .slice Ax0 l0.length cx0], .row W4.heap.size w5.heap.size (.slice Ax0 l0.length cx0) l0, .box w3.heap.size 28 #[I rn0, .slice Aw0 r0.length cw0], .row w2.heap.size w3.heap.size (.slice Aw0 r0.length cw0) r0, .row w1.heap.size w2.heap.size (.slice AS0 l0.length cS0) l0, .box w.heap.size 24 #[I n0, .slice A0 l0.length c0]]) := ⟨Mem.cons (blk_new w7 _) (HM7.out.grew (below_alloc (Grew.refl w7) _))⟩
    have HG8 : Aside0 (Grew w (w7.alloc (.cells #[I rn0, .slice Ag0 r0.length cg0] 28))) := ⟨Grew.trans HG7.out (below_alloc (Grew.refl w7) _)⟩
    have hS8 : (w7.alloc (.cells #[I rn0, .slice Ag0 r0.length cg0] 28)).heap.size = w7.heap.size + 1 := by simp
    have bg0_0 : (w7.alloc (.cells #[I rn0, .slice Ag0 r0.length cg0] 28)).cell? ⟨w7.heap.size, 0, none⟩ = some (I rn0) := blk_cell HM8.out.head 0
    have bg0_1 : (w7.alloc (.cells #[I rn0, .slice Ag0 r0.length cg0] 28)).cell? ⟨w7.heap.size, 1, none⟩ = some (.slice Ag0 r0.length cg0) := blk_cell HM8.out.head 1
    have bw0_0 : (w7.alloc (.cells #[I rn0, .slice Ag0 r0.length cg0] 28)).cell? ⟨w3.heap.size, 0, none⟩ = some (I rn0) := blk_cell HM8.out.tail.tail.tail.tail.head 0
    have bw0_1 : (w7.alloc (.cells #[I rn0, .slice Ag0 r0.length cg0] 28)).cell? ⟨w3.heap.size, 1, none⟩ = some (.slice Aw0 r0.length cw0) := blk_cell HM8.out.tail.tail.tail.tail.head 1
    go_wp2_with fail
    generalize (w7.alloc (.cells #[I rn0, .slice Ag0 r0.length cg0] 28)) = W8 at HM8 HG8 hS8 bg0_0 bg0_1 bw0_0 bw0_1 ⊢
    clear bg0_0 bg0_1 bw0_0 bw0_1
    refine (eqC_calls rn0 r0 Ag0 Aw0 cg0 cw0 _ _ _ _ _ _ W8 HM8.out.tail.head HM8.out.tail.tail.tail.tail.tail.head).mono ?_
    rintro e w9 ⟨rfl, hG9⟩
    have HM9 := Aside0.mk (HM8.out.grew hG9)
    have HG9 := Aside0.mk (Grew.trans HG8.out hG9)
    have hs9 := hG9.size
    clear hG9
    go_wp2_with fail
    have bx0_0 : w9.cell? ⟨w5.heap.size, 0, none⟩ = some (I n0) := blk_cell HM9.out.tail.tail.head 0
    have bx0_1 : w9.cell? ⟨w5.heap.size, 1, none⟩ = some (.slice Ax0 l0.length cx0) := blk_cell HM9.out.tail.tail.head 1
    have p0_0 : w9.cell? ⟨w.heap.size, 0, none⟩ = some (I n0) := blk_cell HM9.out.tail.tail.tail.tail.tail.tail.tail.head 0
    have p0_1 : w9.cell? ⟨w.heap.size, 1, none⟩ = some (.slice A0 l0.length c0) := blk_cell HM9.out.tail.tail.tail.tail.tail.tail.tail.head 1
    have hlx : w5.heap.size < w9.heap.size := World.block_lt_of_cell? w9 _ bx0_0
    have hlp : w.heap.size < w9.heap.size := World.block_lt_of_cell? w9 _ p0_0
    go_region_held3 (fun w' => w'.cell? ⟨w5.heap.size, 0, none⟩ = some (I n0) ∧ w'.cell? ⟨w5.heap.size, 1, none⟩ = some (.slice Ax0 l0.length cx0) ∧ w'.cell? ⟨w.heap.size, 0, none⟩ = some (I n0) ∧ w'.cell? ⟨w.heap.size, 1, none⟩ = some (.slice A0 l0.length c0))
      (first | exact ⟨(HDb.out.cell (p := ⟨w5.heap.size, 0, none⟩) hlx).trans bx0_0, (HDb.out.cell (p := ⟨w5.heap.size, 1, none⟩) hlx).trans bx0_1, (HDb.out.cell (p := ⟨w.heap.size, 0, none⟩) hlp).trans p0_0, (HDb.out.cell (p := ⟨w.heap.size, 1, none⟩) hlp).trans p0_1⟩ | exact ⟨(HDa.out.cell (p := ⟨w5.heap.size, 0, none⟩) hlx).trans bx0_0, (HDa.out.cell (p := ⟨w5.heap.size, 1, none⟩) hlx).trans bx0_1, (HDa.out.cell (p := ⟨w.heap.size, 0, none⟩) hlp).trans p0_0, (HDa.out.cell (p := ⟨w.heap.size, 1, none⟩) hlp).trans p0_1⟩ | go_keep)
      (first
        | (go_at_call 16; refine (toC_calls n0 A0 c0 l0 _ (Kd.C_below HR0.out (Below.trans HG9.out ((Below.refl _ w9).drew))) HC0.out (by omega)).mono ?_; rintro e w10 ⟨Aq0, cq0, rfl, hRa, hGa⟩; have HDa : Aside0 (Grew w9 w10) := ⟨Below.trans ((Below.refl _ w9).drew) hGa⟩; have HRa := Aside0.mk hRa; clear hRa hGa)
        | (go_at_call 19; refine (eqC_calls n0 l0 Ax0 Aq0 cx0 cq0 _ _ _ _ _ _ w10 (HM9.out.grew HDa.out).tail.tail.tail.head HRa.out).mono ?_; rintro e w11 ⟨rfl, hGb⟩; have HDb : Aside0 (Grew w9 w11) := ⟨Grew.trans HDa.out hGb⟩; clear hGb))
    clear bx0_0 bx0_1 p0_0 p0_1
    have hG11 := HDb.out
    clear hlx hlp HDa HDb HRa
    have HM11 := Aside0.mk (HM9.out.grew hG11)
    have HG11 := Aside0.mk (Grew.trans HG9.out hG11)
    have hs11 := hG11.size
    clear hG11
    have bx0_0 : w11.cell? ⟨w5.heap.size, 0, none⟩ = some (I n0) := blk_cell HM11.out.tail.tail.head 0
    have bx0_1 : w11.cell? ⟨w5.heap.size, 1, none⟩ = some (.slice Ax0 l0.length cx0) := blk_cell HM11.out.tail.tail.head 1
    go_wp2_with fail
    clear bx0_0 bx0_1
    refine (markC_calls n0 Ax0 l0.length cx0 l0 1 (by omega) (by omega) _ _ w w11 HG11.out (by omega) HM11.out.tail.tail.tail.head).mono ?_
    rintro e w12 ⟨rfl, hX12, hB12, hK12⟩
    have HM12 : Aside0 (Mem w12 [.box w7.heap.size 28 #[I rn0, .slice Ag0 r0.length cg0], .row W6.heap.size w7.heap.size (.slice Ag0 r0.length cg0) r0, .box w5.heap.size 28 #[I n0, .slice Ax0 l0.length cx0], .box w3.heap.size 28 #[I rn0, .slice Aw0 r0.length cw0], .row w2.heap.size w3.heap.size (.slice Aw0 r0.length cw0) r0, .row w1.heap.size w2.heap.size (.slice AS0 l0.length cS0) l0, .box w.heap.size 24 #[I n0, .slice A0 l0.length c0]]) := ⟨Mem.kept (Mem.cons (it := .box w7.heap.size 28 #[I rn0, .slice Ag0 r0.length cg0]) HM11.out.head (Mem.cons (it := .row W6.heap.size w7.heap.size (.slice Ag0 r0.length cg0) r0) HM11.out.tail.head (Mem.cons (it := .box w5.heap.size 28 #[I n0, .slice Ax0 l0.length cx0]) HM11.out.tail.tail.head (Mem.cons (it := .box w3.heap.size 28 #[I rn0, .slice Aw0 r0.length cw0]) HM11.out.tail.tail.tail.tail.head (Mem.cons (it := .row w2.heap.size w3.heap.size (.slice Aw0 r0.length cw0) r0) HM11.out.tail.tail.tail.tail.tail.head (Mem.cons (it := .row w1.heap.size w2.heap.size (.slice AS0 l0.length cS0) l0) HM11.out.tail.tail.tail.tail.tail.tail.head (Mem.cons (it := .box w.heap.size 24 #[I n0, .slice A0 l0.length c0]) HM11.out.tail.tail.tail.tail.tail.tail.tail.head (Mem.nil _)))))))) hK12 (by intro it hit k hk; simp only [List.mem_cons, List.not_mem_nil, or_false] at hit; rcases hit with rfl | rfl | rfl | rfl | rfl | rfl | rfl <;> (simp only [Item.at_] at hk; omega))⟩
    have HG12 := Aside0.mk hB12
    have hs12 := hK12.1
    clear hX12 hB12 hK12
    have hneg : ¬ ((1 + (l0.length : Int)) < 0) := by omega
    have bg0_0 : w12.cell? ⟨w7.heap.size, 0, none⟩ = some (I rn0) := blk_cell HM12.out.head 0
    have bg0_1 : w12.cell? ⟨w7.heap.size, 1, none⟩ = some (.slice Ag0 r0.length cg0) := blk_cell HM12.out.head 1
    have bw0_0 : w12.cell? ⟨w3.heap.size, 0, none⟩ = some (I rn0) := blk_cell HM12.out.tail.tail.tail.head 0
    have bw0_1 : w12.cell? ⟨w3.heap.size, 1, none⟩ = some (.slice Aw0 r0.length cw0) := blk_cell HM12.out.tail.tail.tail.head 1
    go_wp2_with fail
    clear bg0_0 bg0_1 bw0_0 bw0_1
    refine (eqC_calls rn0 r0 Ag0 Aw0 cg0 cw0 _ _ _ _ _ _ w12 HM12.out.tail.head HM12.out.tail.tail.tail.tail.head).mono ?_
    rintro e w13 ⟨rfl, hG13⟩
    have HM13 := Aside0.mk (HM12.out.grew hG13)
    have HG13 := Aside0.mk (Grew.trans HG12.out hG13)
    have hs13 := hG13.size
    clear hG13
    clear hneg
    have bg0_0 : w13.cell? ⟨w7.heap.size, 0, none⟩ = some (I rn0) := blk_cell HM13.out.head 0
    have bg0_1 : w13.cell? ⟨w7.heap.size, 1, none⟩ = some (.slice Ag0 r0.length cg0) := blk_cell HM13.out.head 1
    go_wp2_with fail
    clear bg0_0 bg0_1
    refine (markC_calls rn0 Ag0 r0.length cg0 r0 1 (by omega) (by omega) _ _ w w13 HG13.out (by omega) HM13.out.tail.head).mono ?_
    rintro e w14 ⟨rfl, hX14, hB14, hK14⟩
    have HM14 : Aside0 (Mem w14 [.row W6.heap.size w7.heap.size (.slice Ag0 r0.length cg0) (marks 1 r0.length), .box w7.heap.size 28 #[I rn0, .slice Ag0 r0.length cg0], .box w5.heap.size 28 #[I n0, .slice Ax0 l0.length cx0], .box w3.heap.size 28 #[I rn0, .slice Aw0 r0.length cw0], .row w2.heap.size w3.heap.size (.slice Aw0 r0.length cw0) r0, .row w1.heap.size w2.heap.size (.slice AS0 l0.length cS0) l0, .box w.heap.size 24 #[I n0, .slice A0 l0.length c0]]) := ⟨Mem.cons (it := .row W6.heap.size w7.heap.size (.slice Ag0 r0.length cg0) (marks 1 r0.length)) hX14 (Mem.kept (Mem.cons (it := .box w7.heap.size 28 #[I rn0, .slice Ag0 r0.length cg0]) HM13.out.head (Mem.cons (it := .box w5.heap.size 28 #[I n0, .slice Ax0 l0.length cx0]) HM13.out.tail.tail.head (Mem.cons (it := .box w3.heap.size 28 #[I rn0, .slice Aw0 r0.length cw0]) HM13.out.tail.tail.tail.head (Mem.cons (it := .row w2.heap.size w3.heap.size (.slice Aw0 r0.length cw0) r0) HM13.out.tail.tail.tail.tail.head (Mem.cons (it := .row w1.heap.size w2.heap.size (.slice AS0 l0.length cS0) l0) HM13.out.tail.tail.tail.tail.tail.head (Mem.cons (it := .box w.heap.size 24 #[I n0, .slice A0 l0.length c0]) HM13.out.tail.tail.tail.tail.tail.tail.head (Mem.nil _))))))) hK14 (by intro it hit k hk; simp only [List.mem_cons, List.not_mem_nil, or_false] at hit; rcases hit with rfl | rfl | rfl | rfl | rfl | rfl <;> (simp only [Item.at_] at hk; omega)))⟩
    have HG14 := Aside0.mk hB14
    have hs14 := hK14.1
    clear hX14 hB14 hK14
    have hneg0 : ¬ (1 + (r0.length : Int) < 0) := by omega
    have bg0_0 : w14.cell? ⟨w7.heap.size, 0, none⟩ = some (I rn0) := blk_cell HM14.out.tail.head 0
    have bg0_1 : w14.cell? ⟨w7.heap.size, 1, none⟩ = some (.slice Ag0 r0.length cg0) := blk_cell HM14.out.tail.head 1
    go_wp2_with fail
    clear bg0_0 bg0_1
    refine (heldC_calls rn0 Ag0 r0.length r0.length cg0 _ _ 1 (by omega) (by omega) w14 HM14.out.head).mono ?_
    rintro e w15 ⟨rfl, hG15⟩
    have HM15 := Aside0.mk (HM14.out.grew hG15)
    have HG15 := Aside0.mk (Grew.trans HG14.out hG15)
    have hs15 := hG15.size
    clear hG15
    have p0_0 : w15.cell? ⟨w.heap.size, 0, none⟩ = some (I n0) := blk_cell HM15.out.tail.tail.tail.tail.tail.tail.head 0
    have p0_1 : w15.cell? ⟨w.heap.size, 1, none⟩ = some (.slice A0 l0.length c0) := blk_cell HM15.out.tail.tail.tail.tail.tail.tail.head 1
    go_wp2_with fail
    clear p0_0 p0_1
    refine (toC_calls n0 A0 c0 l0 w15 (Kd.C_below HR0.out HG15.out) HC0.out (by omega)).mono ?_
    rintro e w16 ⟨Az0, cz0, rfl, hR16, hG16⟩
    have HM16 : Aside0 (Mem w16 [.row w15.heap.size w16.heap.size (.slice Az0 l0.length cz0) l0, .row W6.heap.size w7.heap.size (.slice Ag0 r0.length cg0) (marks 1 r0.length), .box w7.heap.size 28 #[I rn0, .slice Ag0 r0.length cg0], .box w5.heap.size 28 #[I n0, .slice Ax0 l0.length cx0], .box w3.heap.size 28 #[I rn0, .slice Aw0 r0.length cw0], .row w2.heap.size w3.heap.size (.slice Aw0 r0.length cw0) r0, .row w1.heap.size w2.heap.size (.slice AS0 l0.length cS0) l0, .box w.heap.size 24 #[I n0, .slice A0 l0.length c0]]) := ⟨Mem.cons (it := .row w15.heap.size w16.heap.size (.slice Az0 l0.length cz0) l0) (hR16) (HM15.out.grew hG16)⟩
    have HG16 := Aside0.mk (Grew.trans HG15.out hG16)
    have hs16 := hG16.size
    clear hG16 
    go_wp2_with fail
    refine (HI.out w16 Az0 cz0 (Row.slice HM16.out.head).2.2 (Row.slice HM16.out.head).2.1).mono ?_
    rintro e w17 ⟨vh0, rfl, hRh0, hG17⟩
    obtain ⟨Ah0, ch0, rfl⟩ := Kd.R_slice hRh0
    have HM17 : Aside0 (Mem w17 [.row w16.heap.size w17.heap.size (.slice Ah0 r0.length ch0) r0, .row w15.heap.size w16.heap.size (.slice Az0 l0.length cz0) l0, .row W6.heap.size w7.heap.size (.slice Ag0 r0.length cg0) (marks 1 r0.length), .box w7.heap.size 28 #[I rn0, .slice Ag0 r0.length cg0], .box w5.heap.size 28 #[I n0, .slice Ax0 l0.length cx0], .box w3.heap.size 28 #[I rn0, .slice Aw0 r0.length cw0], .row w2.heap.size w3.heap.size (.slice Aw0 r0.length cw0) r0, .row w1.heap.size w2.heap.size (.slice AS0 l0.length cS0) l0, .box w.heap.size 24 #[I n0, .slice A0 l0.length c0]]) := ⟨Mem.cons (it := .row w16.heap.size w17.heap.size (.slice Ah0 r0.length ch0) r0) (Row.of_R hRh0) (HM16.out.grew hG17)⟩
    have HG17 := Aside0.mk (Grew.trans HG16.out hG17)
    have hs17 := hG17.size
    clear hG17 
    have HM18 : Aside0 (Mem (w17.alloc (.cells #[I rn0, .slice Ah0 r0.length ch0] 28)) [.box w17.heap.size 28 #[I rn0, .slice Ah0 r0.length ch0], .row w16.heap.size w17.heap.size (.slice Ah0 r0.length ch0) r0, .row w15.heap.size w16.heap.size (.slice Az0 l0.length cz0) l0, .row W6.heap.size w7.heap.size (.slice Ag0 r0.length cg0) (marks 1 r0.length), .box w7.heap.size 28 #[I rn0, .slice Ag0 r0.length cg0], .box w5.heap.size 28 #[I n0, .slice Ax0 l0.length cx0], .box w3.heap.size 28 #[I rn0, .slice Aw0 r0.length cw0], .row w2.heap.size w3.heap.size (.slice Aw0 r0.length cw0) r0, .row w1.heap.size w2.heap.size (.slice AS0 l0.length cS0) l0, .box w.heap.size 24 #[I n0, .slice A0 l0.length c0]]) := ⟨Mem.cons (blk_new w17 _) (HM17.out.grew (below_alloc (Grew.refl w17) _))⟩
    have HG18 : Aside0 (Grew w (w17.alloc (.cells #[I rn0, .slice Ah0 r0.length ch0] 28))) := ⟨Grew.trans HG17.out (below_alloc (Grew.refl w17) _)⟩
    have hS18 : (w17.alloc (.cells #[I rn0, .slice Ah0 r0.length ch0] 28)).heap.size = w17.heap.size + 1 := by simp
    have bh0_0 : (w17.alloc (.cells #[I rn0, .slice Ah0 r0.length ch0] 28)).cell? ⟨w17.heap.size, 0, none⟩ = some (I rn0) := blk_cell HM18.out.head 0
    have bh0_1 : (w17.alloc (.cells #[I rn0, .slice Ah0 r0.length ch0] 28)).cell? ⟨w17.heap.size, 1, none⟩ = some (.slice Ah0 r0.length ch0) := blk_cell HM18.out.head 1
    have bw0_0 : (w17.alloc (.cells #[I rn0, .slice Ah0 r0.length ch0] 28)).cell? ⟨w3.heap.size, 0, none⟩ = some (I rn0) := blk_cell HM18.out.tail.tail.tail.tail.tail.tail.head 0
    have bw0_1 : (w17.alloc (.cells #[I rn0, .slice Ah0 r0.length ch0] 28)).cell? ⟨w3.heap.size, 1, none⟩ = some (.slice Aw0 r0.length cw0) := blk_cell HM18.out.tail.tail.tail.tail.tail.tail.head 1
    go_wp2_with fail
    generalize (w17.alloc (.cells #[I rn0, .slice Ah0 r0.length ch0] 28)) = W18 at HM18 HG18 hS18 bh0_0 bh0_1 bw0_0 bw0_1 ⊢
    clear bh0_0 bh0_1 bw0_0 bw0_1
    refine (eqC_calls rn0 r0 Ah0 Aw0 ch0 cw0 _ _ _ _ _ _ W18 HM18.out.tail.head HM18.out.tail.tail.tail.tail.tail.tail.tail.head).mono ?_
    rintro e w19 ⟨rfl, hG19⟩
    have HM19 := Aside0.mk (HM18.out.grew hG19)
    have HG19 := Aside0.mk (Grew.trans HG18.out hG19)
    have hs19 := hG19.size
    clear hG19
    clear hneg0
    have hneg0 : ¬ (1 + (r0.length : Int) < 0) := by omega
    have bg0_0 : w19.cell? ⟨w7.heap.size, 0, none⟩ = some (I rn0) := blk_cell HM19.out.tail.tail.tail.tail.head 0
    have bg0_1 : w19.cell? ⟨w7.heap.size, 1, none⟩ = some (.slice Ag0 r0.length cg0) := blk_cell HM19.out.tail.tail.tail.tail.head 1
    go_wp2_with fail
    clear bg0_0 bg0_1
    refine (heldC_calls rn0 Ag0 r0.length r0.length cg0 _ _ 1 (by omega) (by omega) w19 HM19.out.tail.tail.tail.head).mono ?_
    rintro e w20 ⟨rfl, hG20⟩
    have HM20 := Aside0.mk (HM19.out.grew hG20)
    have HG20 := Aside0.mk (Grew.trans HG19.out hG20)
    have hs20 := hG20.size
    clear hG20
    go_wp2_with fail
    go_ret
    exact ⟨rfl, HG20.out⟩

end Go.Proofs.Ythganpmmhfoodaa.K
end

section

namespace Go.Proofs.Ythganpmmhfoodaa.fnExactSkeletonOf
open Go.ChangeShapes Go.WideShapes Go.ChangeAt Go.RowKit Go.Joins Go.Proofs.Ythganpmmhfoodaa.K Go.Proofs.YthganpmmhfoodaaW.PrintWords
open Go.ChangeMaps (open_string shut_string)
set_option linter.unusedVariables false
set_option maxRecDepth 100000 in
theorem lifted (os : Os) (started : os.Started) (H : Type) (enc : TypeId × Value → H) :
    ReturnsInHanded {} Try.checked os 4 .any (Rows.fnExactSkeletonOfSpec.pre6 enc Try.prog Try.f4 Rows.fnExactSkeletonOfRow.domain false) (Rows.fnExactSkeletonOfSpec.post enc Try.prog Try.f4 false true false false) := by
  refine returnsInHanded_of_change_sized (C := Try.checked) ownKnob_none started (by kernel_rfl) Try.func4
    (ChangeSpec.witness6 (enc := enc) (C := Try.checked) false ⟨#[], #[.agg #[.int .i64 0, .slice none 0 0], .int .i64 0], []⟩ 8 (by kernel_rfl) (by kernel_rfl) (by kernel_rfl) (by kernel_rfl)) ?_
  intro W base args ds gs before hval0 hW hcnd hsz0 _
  have hsz : (DataW.weightsEach Try.prog (Try.f4.params.toList ++ Rows.fnExactSkeletonOfSpec.plain.varTypes Try.prog) (ds ++ gs)).all (· ≤ reachBytes) = true := hsz0
  have hval : ∀ (j : Nat) t v, Try.f4.params[j]? = some t → args[j]? = some v → Value.okWide Try.prog W .any base t v := hval0
  have hW' := hW
  obtain ⟨p, q, hA0, hV, rfl, hfz, hnd⟩ := hW
  have hA : DataW.TrodAll enc Try.prog W 0 (fun _ => true) true Try.f4.params.toList args.toList ds p := hA0
  rw [Try.params4] at hA hval hsz
  obtain ⟨v0, vs0, d0, ds0, p0, q0, hargs, rfl, rfl, h0, r0⟩ := trodAll_cons hA
  obtain ⟨v1, vs1, d1, ds1, p1, q1, rfl, rfl, rfl, h1, r1⟩ := trodAll_cons r0
  obtain ⟨rfl, rfl, rfl⟩ := trodAll_nil r1
  obtain rfl : args = #[v0, v1] := by cases args; simp_all
  obtain ⟨rfl, rfl⟩ := trodVars_none hV
  have k0 := h0
  have lt0 : ∀ x ∈ p0, x.block < W.heap.size := by obtain ⟨m, hm⟩ := k0; exact DataW.trod_lt m _ _ _ hm
  obtain ⟨x0, z0, y0_0, y1_0, m0, hv0, hd0, hp0, hy0_0, hy1_0⟩ := open_agg2 Try.underlying24 (by kernel_rfl) (show Try.prog.cellsOf 24 = 2 by kernel_rfl) (hval 0 24 v0 rfl rfl) h0
  obtain ⟨n0, e0_0, _, w0⟩ := DataW.trod_int Try.underlying2 hy0_0
  obtain ⟨A0, c0, l0, e1_0, hc0, hr0, _⟩ := ints_open hy1_0
  simp only [List.cons.injEq, and_true] at e0_0
  subst e0_0 e1_0
  subst hv0
  obtain ⟨n1, rfl, rfl, rfl, w1⟩ := open_int Try.underlying2 (hval 1 2 v1 rfl rfl) h1
  clear hA0 hval0 hsz0 hsz
  refine (K.LSkeletonOf_calls n0 A0 c0 l0 n1 W hr0 hc0).mono fun e W' ⟨he, bel0⟩ => ?_
  have bel : Below W.heap.size W W' := bel0
  subst he
  exact ⟨_, rfl, _, _, _, [], _, [], hW', trodAll_mk1 (shut_bool Try.underlying4 _), (trodAll_cons_mk (Below.trod laidOut (by kernel_rfl) (of_decide_eq_true (by kernel_rfl)) k0 bel lt0) (trodAll_cons_mk (shut_int Try.underlying2 w1) trodAll_mk0)), rfl, bel.frame _, fun h => by cases h⟩
theorem over : Rows.fnExactSkeletonOfRow.holds Try.pinned (OpenSpec.ofChange Rows.fnExactSkeletonOfSpec) :=
  OpenClaim.holds_of_wide 4 Try.f4 rfl rfl rfl rfl rfl rfl rfl ⟨rfl, rfl, rfl, rfl, rfl⟩ rfl rfl rfl rfl rfl (by kernel_rfl) Try.func4 (by kernel_rfl)
    (of_decide_eq_true (by kernel_rfl)) (by unfold Func.isWrapper; first | (rw [if_pos (by decide +kernel)]; kernel_rfl) | (rw [if_neg (by decide +kernel)]; exact ⟨rfl, rfl⟩))
    (fun os started H enc _ => lifted os started H enc)
theorem proved : Rows.FnExactSkeletonOfSaid := over
#print axioms proved
end Go.Proofs.Ythganpmmhfoodaa.fnExactSkeletonOf
namespace Go.Proofs.Ythganpmmhfoodaa
theorem fnExactSkeletonOf_holds : Rows.FnExactSkeletonOfSaid := fnExactSkeletonOf.proved
end Go.Proofs.Ythganpmmhfoodaa
end
