/- The row of the law FnExactAreEquivalent: for every input the law answers true, and the arguments read as before. No conditions. -/
import Derived.Test.YtniikppojffiaaaJEqv4
import Derived.Below
import Derived.Deep.Draws
import Derived.Deep.AppendLies
import Derived.Maps.AppendAt
import Derived.OwnWalk
import Derived.Laws.BytesArg
import Derived.Laws.MakeOwn
import Derived.Laws.OwnMore
import Derived.Deep.OwnRows
import Derived.Tactics
import Derived.Lib.ConvBytes
import Derived.Laws.Slices
import Derived.WalkKit
import Derived.KernelRfl
import Derived.RowKit3
import Derived.Deep.LoopGhost
import Derived.Deep.QuietTactic
import Derived.BigQuiet
import Derived.WideLaws
import Derived.Deep.DeepCutAuto
import Derived.Deep.CutBlock
import Derived.Deep.RegionHeld3
import Derived.Laws.Rows
import Derived.Lib.AppendStr
import Derived.ArgAppend
import Derived.Laws.IdiomCopy
import Derived.RowKit
import Derived.OrdersHeld
import Derived.Laws.BitsLemmas
import Derived.Laws.StructEq
import Derived.Test.YtniikppojffiaaaProg
import Derived.ChangeKeysEq
import Derived.Shelf.Abstract
import Derived.LoopN
import Derived.RangeFuncBox
import Derived.RangeFuncLeaves
import Derived.OwnWalkIn
import Derived.TacticsInMore
import Derived.LoopNIn
import Derived.LoopIn
import Derived.Lib.SliceRun
import Derived.Maps.OwnSet
import Derived.JoinedOf
import Derived.Test.YtniikppojffiaaaRows
import Derived.ProofKit
import Derived.OpenShut
import Derived.ShutString
import Derived.ChangeOld
import Derived.SizedLaws
import Derived.Lib.SmallJoins
section
/- Written by a program of this session (myprint.py over the kit's print). -/
namespace Go.Proofs.Ytniikppojffiaaa.Q
open Go.RowKit Go.Proofs.YtniikppojffiaaaW.PrintWords Go.Proofs.YtniikppojffiaaaW.PrintLast Go.Proofs.YtniikppojffiaaaW.PrintMore
attribute [local go_sem] max2_int min2_int max_two min_two max_three min_three max_four min_four   -- for this text's walks alone
set_option linter.unusedVariables false
set_option linter.unusedSimpArgs false

attribute [local go_sem high] eqA53
/-! ### spec_AreEquivalent: function 53 -/
mutual
def spec_AreEquivalent.j0 : Nat → List (S53) → List (S53) → Bool → Option (Bool × Int)
 | 0, _, _, _ => none
 | k + 1, x9, x11, x39 => if x39 = true then (some (false, 5)) else (if (x9.length : Int) = (x11.length : Int) then (spec_AreEquivalent.l0 k x9 x11 0) else (some (false, 0)))
def spec_AreEquivalent.l0 : Nat → List (S53) → List (S53) → Int → Option (Bool × Int)
 | 0, _, _, _ => none
 | k + 1, x9, x11, x13 => if x13 < (x9.length : Int) then (if 0 ≤ x13 then (if x13 < (x11.length : Int) then (if (!(((rd_T53 x9 x13).f0) == ((rd_T53 x11 x13).f0)) || (!(((rd_T53 x9 x13).f1) == ((rd_T53 x11 x13).f1)))) = true then (some (false, 0)) else (spec_AreEquivalent.l0 k x9 x11 (wrap64 (x13 + 1)))) else (none)) else (none)) else (some (true, 0))
end
def spec_AreEquivalent.f (k : Nat) (a0_0 : Int) (l0_1 : List Int) (l1 : List Int) (l2 : List Int) : Option (Bool × Int) := (spec_l04Code.f k a0_0 l0_1 (([l1, l2] : List (List Int)))).bind fun t440 => (if t440 = 0 then ((spec_l04Pairs.f k a0_0 l0_1 l1).bind fun bt441 => ((spec_l04Pairs.f k a0_0 l0_1 l2).bind fun bt445 => (if bt441.2 = true then (spec_AreEquivalent.j0 k bt441.1 bt445.1 (!bt445.2)) else (spec_AreEquivalent.j0 k bt441.1 bt445.1 true)))) else (some (false, t440)))
theorem spec_AreEquivalent.mono_l : ∀ k, (∀ y0 y1 y2, LeO (spec_AreEquivalent.j0 k y0 y1 y2) (spec_AreEquivalent.j0 (k + 1) y0 y1 y2)) ∧ (∀ y0 y1 y2, LeO (spec_AreEquivalent.l0 k y0 y1 y2) (spec_AreEquivalent.l0 (k + 1) y0 y1 y2))
 | 0 => ⟨fun _ _ _ r h => by simp [spec_AreEquivalent.j0] at h, fun _ _ _ r h => by simp [spec_AreEquivalent.l0] at h⟩
 | k + 1 => by
  obtain ⟨ih0, ih1⟩ := spec_AreEquivalent.mono_l k
  refine ⟨?_, ?_⟩
  ·intro y0 y1 y2
   unfold spec_AreEquivalent.j0
   repeat' first
   | (with_reducible exact ih0 _ _ _)
   | (with_reducible exact ih1 _ _ _)
   | (with_reducible exact spec_l04Code.mono _ _ _ _)
   | (with_reducible exact spec_l04Pairs.mono _ _ _ _)
   | (with_reducible exact LeO.refl _)
   | (with_reducible exact LeO.none _)
   | (with_reducible refine LeO.ite ?_ ?_)
   | (with_reducible refine LeO.bind ?_ (fun _ => ?_))
   | exact ih0 _ _ _
   | exact ih1 _ _ _
   | exact spec_l04Code.mono _ _ _ _
   | exact spec_l04Pairs.mono _ _ _ _
   | exact LeO.none _
   | refine LeO.ite ?_ ?_
   | refine LeO.bind ?_ (fun _ => ?_)
  ·intro y0 y1 y2
   unfold spec_AreEquivalent.l0
   repeat' first
   | (with_reducible exact ih0 _ _ _)
   | (with_reducible exact ih1 _ _ _)
   | (with_reducible exact spec_l04Code.mono _ _ _ _)
   | (with_reducible exact spec_l04Pairs.mono _ _ _ _)
   | (with_reducible exact LeO.refl _)
   | (with_reducible exact LeO.none _)
   | (with_reducible refine LeO.ite ?_ ?_)
   | (with_reducible refine LeO.bind ?_ (fun _ => ?_))
   | exact ih0 _ _ _
   | exact ih1 _ _ _
   | exact spec_l04Code.mono _ _ _ _
   | exact spec_l04Pairs.mono _ _ _ _
   | exact LeO.none _
   | refine LeO.ite ?_ ?_
   | refine LeO.bind ?_ (fun _ => ?_)
theorem spec_AreEquivalent.mono : ∀ a0 a1 a2 a3 k, LeO (spec_AreEquivalent.f k a0 a1 a2 a3) (spec_AreEquivalent.f (k + 1) a0 a1 a2 a3) := by
 intro a0 a1 a2 a3 k
 obtain ⟨ih0, ih1⟩ := spec_AreEquivalent.mono_l k
 unfold spec_AreEquivalent.f
 repeat' first
   | (with_reducible exact ih0 _ _ _)
   | (with_reducible exact ih1 _ _ _)
   | (with_reducible exact spec_l04Code.mono _ _ _ _)
   | (with_reducible exact spec_l04Pairs.mono _ _ _ _)
   | (with_reducible exact LeO.refl _)
   | (with_reducible exact LeO.none _)
   | (with_reducible refine LeO.ite ?_ ?_)
   | (with_reducible refine LeO.bind ?_ (fun _ => ?_))
   | exact ih0 _ _ _
   | exact ih1 _ _ _
   | exact spec_l04Code.mono _ _ _ _
   | exact spec_l04Pairs.mono _ _ _ _
   | exact LeO.none _
   | refine LeO.ite ?_ ?_
   | refine LeO.bind ?_ (fun _ => ?_)
set_option maxHeartbeats 8000000 in
set_option maxRecDepth 100000 in
theorem spec_AreEquivalent.calls (k : Nat) (a0_0 : Int) (A0_1 : Option Addr) (c0_1 : Nat) (l0_1 : List Int) (P1_ : Nat → Prop) (A1 : Option Addr) (c1 : Nat) (l1 : List Int) (P2_ : Nat → Prop) (A2 : Option Addr) (c2 : Nat) (l2 : List Int) (r1 : Bool) (r2 : Int) (w : World) (hr0_1 : Kd.C (Kd.int .i64) w A0_1 l0_1.length l0_1) (hc0_1 : l0_1.length ≤ c0_1) (hs1 : Kd.V (Kd.int .i64) 2 w w.heap.size (fun k_ => P1_ k_) (.slice A1 l1.length c1) l1) (hs2 : Kd.V (Kd.int .i64) 2 w w.heap.size (fun k_ => P2_ k_) (.slice A2 l2.length c2) l2) (h : spec_AreEquivalent.f k a0_0 l0_1 l1 l2 = some (r1, r2)) :
  Calls Try.prog 53 #[.agg #[.int .i64 a0_0, .slice A0_1 l0_1.length c0_1], .slice A1 l1.length c1, .slice A2 l2.length c2] w fun e w' => e = .returned (.tuple #[.bool r1, .int .i64 r2]) ∧ Below w.heap.size w w' := by
 have hu30 := Try.underlying30
 have hu53 := Try.underlying53
 have HR0_1 := Aside0.mk hr0_1
 have HC0_1 := Aside0.mk hc0_1
 clear hr0_1 hc0_1
 have HO1 := Aside0.mk (show Kd.V (Kd.int .i64) 2 w w.heap.size (fun k_ => ((P1_ k_ ∨ P2_ k_) ∨ w.heap.size ≤ k_)) (.slice A1 l1.length c1) l1 from Kd.V_mono hs1 (fun k_ hk => .inl (.inl hk)))
 have HO2 := Aside0.mk (show Kd.V (Kd.int .i64) 2 w w.heap.size (fun k_ => ((P1_ k_ ∨ P2_ k_) ∨ w.heap.size ≤ k_)) (.slice A2 l2.length c2) l2 from Kd.V_mono hs2 (fun k_ hk => .inl (.inr hk)))
 have HB := Aside0.mk (Below.refl w.heap.size w)
 have H : ((spec_l04Code.f k a0_0 l0_1 (([l1, l2] : List (List Int)))).bind fun t440 => (if t440 = 0 then ((spec_l04Pairs.f k a0_0 l0_1 l1).bind fun bt441 => ((spec_l04Pairs.f k a0_0 l0_1 l2).bind fun bt445 => (if bt441.2 = true then (spec_AreEquivalent.j0 k bt441.1 bt445.1 (!bt445.2)) else (spec_AreEquivalent.j0 k bt441.1 bt445.1 true)))) else (some (false, t440)))) = some (r1, r2) := h
 clear h
 obtain ⟨y437, hy437⟩ : ∃ y_ : List (List Int), y_ = (([l1, l2] : List (List Int))) := ⟨_, rfl⟩
 replace H : ((spec_l04Code.f k a0_0 l0_1 y437).bind fun t440 => (if t440 = 0 then ((spec_l04Pairs.f k a0_0 l0_1 l1).bind fun bt441 => ((spec_l04Pairs.f k a0_0 l0_1 l2).bind fun bt445 => (if bt441.2 = true then (spec_AreEquivalent.j0 k bt441.1 bt445.1 (!bt445.2)) else (spec_AreEquivalent.j0 k bt441.1 bt445.1 true)))) else (some (false, t440)))) = some (r1, r2) := by first | (rw [hy437]; with_reducible exact H) | (have H2_ := (Option.bind_some _ _).symm.trans H; rw [hy437]; with_reducible exact H2_) | (have H2_ := (Option.bind_some _ _).symm.trans H; with_reducible exact H2_) | with_reducible exact H | (rw [hy437]; exact H) | exact H
 have Ny437 := Aside0.mk hy437
 clear hy437
 replace H := Option.bind_eq_some_iff.mp H
 obtain ⟨t440, A40, H⟩ := H
 replace H : (if t440 = 0 then ((spec_l04Pairs.f k a0_0 l0_1 l1).bind fun bt441 => ((spec_l04Pairs.f k a0_0 l0_1 l2).bind fun bt445 => (if bt441.2 = true then (spec_AreEquivalent.j0 k bt441.1 bt445.1 (!bt445.2)) else (spec_AreEquivalent.j0 k bt441.1 bt445.1 true)))) else (some (false, t440))) = some (r1, r2) := H
 have A4 := Aside0.mk A40
 clear A40
 by_cases c5 : t440 = 0
 ·rw [if_pos c5] at H
  have c5b0 : (t440 == 0) = true := beq_iff_eq.mpr c5
  have c5b1 : (t440 != 0) = false := bne_eq_false_iff_eq.mpr c5
  clear c5
  replace H := Option.bind_eq_some_iff.mp H
  obtain ⟨⟨t441, t444⟩, A60, H⟩ := H
  replace H : ((spec_l04Pairs.f k a0_0 l0_1 l2).bind fun bt445 => (if t444 = true then (spec_AreEquivalent.j0 k t441 bt445.1 (!bt445.2)) else (spec_AreEquivalent.j0 k t441 bt445.1 true))) = some (r1, r2) := H
  have A6 := Aside0.mk A60
  clear A60
  replace H := Option.bind_eq_some_iff.mp H
  obtain ⟨⟨t445, t448⟩, A70, H⟩ := H
  replace H : (if t444 = true then (spec_AreEquivalent.j0 k t441 t445 (!t448)) else (spec_AreEquivalent.j0 k t441 t445 true)) = some (r1, r2) := H
  have A7 := Aside0.mk A70
  clear A70
  have HC8 := Aside0.mk H
  clear H
  go_enter Try.func53, Try.ntmps53
  go_upto_region 6 with (first | ((with_reducible refine gate_dst (N := 3) rfl ?_); refine box_event ?hg (N := 3) ?hd (cs := #[.int .i64 a0_0, .slice A0_1 l0_1.length c0_1]) (t := 30) ?hr ?_; (case hd => rfl); (case hg => rfl); (case hr => first | (go_simp; done) | (go_simp; rfl)); intro gb436 hg w9 hbox hb; have n0_ := Aside0.mk (Kd.V_below (Kd.V_elderB (by (with_reducible repeat (first | apply Kd.V_alloc | apply Kd.V_drewN | apply Kd.V_drew)); exact HO1.out) gb436 (Nat.le_of_eq hg.symm)) hb); have n1_ := Aside0.mk (Kd.V_below (Kd.V_elderB (by (with_reducible repeat (first | apply Kd.V_alloc | apply Kd.V_drewN | apply Kd.V_drew)); exact HO2.out) gb436 (Nat.le_of_eq hg.symm)) hb); have n2_ := Aside0.mk (below_step (by repeat (first | (with_reducible first | exact HB.out | apply below_alloc | apply pw_below_drewN | apply below_drew1) | exact HB.out)) hb); have n3_ := Aside0.mk (hbox); have n4_ := Aside0.mk ((by rw [hg]; exact (below_size (by repeat (first | (with_reducible first | exact HB.out | apply below_alloc | apply pw_below_drewN | apply below_drew1) | exact HB.out))) : w.heap.size ≤ gb436)); have n5_ := Aside0.mk ((by rw [hg]; exact (below_size (by repeat (first | (with_reducible first | exact HB.out | apply below_alloc | apply pw_below_drewN | apply below_drew1) | exact HB.out))) : w.heap.size ≤ gb436)); clear HO1; clear HO2; clear HB; have HO1 := n0_; have HO2 := n1_; have HB := n2_; have BK436 := n3_; have GW436 := n4_; have GE436 := n5_; clear n0_ n1_ n2_ n3_ n4_ n5_; clear hb hbox hg; have hcz10_0 : w9.cell? ⟨gb436, 0, none⟩ = some (.int .i64 a0_0) := (blk_cell BK436.out 0).trans rfl; have hcz10_1 : w9.cell? ⟨gb436, 1, none⟩ = some (.slice A0_1 l0_1.length c0_1) := (blk_cell BK436.out 1).trans rfl; have hfz10_0 := blk_frozen BK436.out 0; have hfz10_1 := blk_frozen BK436.out 1) | ((with_reducible refine gate_dst (N := 17) rfl ?_); refine Kd.N_lit (Kd.slice 2 (Kd.int .i64)) _ 22 ?hg (N' := 17) ?hd (xs := ([l1, l2] : List (List Int))) (inner := [.slice A1 l1.length c1, .slice A2 l2.length c2]) (ok := (fun k_ => ((P1_ k_ ∨ P2_ k_) ∨ w.heap.size ≤ k_) ∧ k_ ≠ gb436)) (okp := (fun k_ => ((P1_ k_ ∨ P2_ k_) ∨ w.heap.size ≤ k_) ∧ k_ ≠ gb436)) ?hr ?hp (fun _ hk => hk) ((show ∀ k_, w9.heap.size ≤ k_ → (fun k_ => ((P1_ k_ ∨ P2_ k_) ∨ w.heap.size ≤ k_) ∧ k_ ≠ gb436) k_ from fun k_ hk => ⟨(.inr (Nat.le_trans (below_size (by repeat (first | (with_reducible first | exact HB.out | apply below_alloc | apply pw_below_drewN | apply below_drew1 | refine below_set ?_ GE436.out) | exact HB.out))) hk)), Kd.freshB (g := gb436) (o := .cells #[.int .i64 a0_0, .slice A0_1 l0_1.length c0_1] 30 (0, 0)) (by (with_reducible repeat (first | refine blk_drewN ?_ _ | refine blk_drew ?_ | refine blk_alloc ?_ _)); exact BK436.out) k_ hk⟩) _ (Nat.le_refl _)) (Below.refl _ _) (Nat.le_refl _) (by simp) ?_; (case hd => rfl); (case hg => rfl); (case hr => first | (go_simp; done) | (go_simp; rfl)); (case hp => exact (Reps.one (show Kd.FK (Kd.slice 2 (Kd.int .i64)) _ _ l1 [.slice A1 l1.length c1] from (Kd.FK_slice_mk (Kd.V_reads' (Kd.V_mono (ok' := (fun k_ => ((P1_ k_ ∨ P2_ k_) ∨ w.heap.size ≤ k_) ∧ k_ ≠ gb436)) (HO1.out) (fun k_ hk => ⟨hk.1, hk.2⟩))).2.1 (Kd.V_F (Kd.V_mono (ok' := (fun k_ => ((P1_ k_ ∨ P2_ k_) ∨ w.heap.size ≤ k_) ∧ k_ ≠ gb436)) (HO1.out) (fun k_ hk => ⟨hk.1, hk.2⟩))))) (Reps.one (show Kd.FK (Kd.slice 2 (Kd.int .i64)) _ _ l2 [.slice A2 l2.length c2] from (Kd.FK_slice_mk (Kd.V_reads' (Kd.V_mono (ok' := (fun k_ => ((P1_ k_ ∨ P2_ k_) ∨ w.heap.size ≤ k_) ∧ k_ ≠ gb436)) (HO2.out) (fun k_ hk => ⟨hk.1, hk.2⟩))).2.1 (Kd.V_F (Kd.V_mono (ok' := (fun k_ => ((P1_ k_ ∨ P2_ k_) ∨ w.heap.size ≤ k_) ∧ k_ ≠ gb436)) (HO2.out) (fun k_ hk => ⟨hk.1, hk.2⟩))))) (Reps.none _ _)))); intro v438 w11 ho12 hb hg_ hnew_; clear hg_ hnew_; (first | rw [← Ny437.out] at ho12 | (simp only [Int.reduceToNat] at ho12; rw [← Ny437.out] at ho12)); have n0_ := Aside0.mk (Kd.V_elder' (by (with_reducible repeat (first | apply Kd.V_alloc | apply Kd.V_drewN | apply Kd.V_drew)); exact HO1.out) (Kd.N_base ho12) hb); have n1_ := Aside0.mk (Kd.V_elder' (by (with_reducible repeat (first | apply Kd.V_alloc | apply Kd.V_drewN | apply Kd.V_drew)); exact HO2.out) (Kd.N_base ho12) hb); have n2_ := Aside0.mk (Kd.N_lower ho12 (below_size (by repeat (first | (with_reducible first | exact HB.out | apply below_alloc | apply pw_below_drewN | apply below_drew1 | refine below_set ?_ GE436.out) | exact HB.out)))); have n3_ := Aside0.mk (blk_below (g := gb436) (o := .cells #[.int .i64 a0_0, .slice A0_1 l0_1.length c0_1] 30 (0, 0)) (by (with_reducible repeat (first | refine blk_drewN ?_ _ | refine blk_drew ?_ | refine blk_alloc ?_ _)); exact BK436.out) hb); have n4_ := Aside0.mk (below_step (by repeat (first | (with_reducible first | exact HB.out | apply below_alloc | apply pw_below_drewN | apply below_drew1 | refine below_set ?_ GE436.out) | exact HB.out)) hb); clear HO1; clear HO2; clear BK436; clear HB; have HO1 := n0_; have HO2 := n1_; have HO439 := n2_; have BK436 := n3_; have HB := n4_; clear n0_ n1_ n2_ n3_ n4_; clear hb ho12; obtain ⟨Ao13, co13, eo13⟩ := Kd.N_slice HO439.out; subst eo13) | (go_at_call 89; (with_reducible refine (spec_l04Code.calls k a0_0 _ _ l0_1 _ _ y437 t440 _ ?side1 ?side2 ?side3 ?side4 A4.out).mono ?_); (case side1 => repeat (first | exact (Kd.C_below HR0_1.out HB.out) | (with_reducible refine Kd.C_alloc ?_ _) | (with_reducible refine Kd.C_drewN ?_ _) | (with_reducible refine Kd.C_drew ?_))); (case side2 => exact HC0_1.out); (case side3 => repeat (first | exact (Kd.N_reads' HO439.out).2.2 | (with_reducible refine Kd.C_alloc ?_ _) | (with_reducible refine Kd.C_drewN ?_ _) | (with_reducible refine Kd.C_drew ?_))); (case side4 => exact (Kd.N_reads' HO439.out).2.1); rintro e w14 ⟨rfl, hb⟩; have n0_ := Aside0.mk (Kd.V_below (by (with_reducible repeat (first | apply Kd.V_alloc | apply Kd.V_drewN | apply Kd.V_drew)); exact HO1.out) hb); have n1_ := Aside0.mk (Kd.V_below (by (with_reducible repeat (first | apply Kd.V_alloc | apply Kd.V_drewN | apply Kd.V_drew)); exact HO2.out) hb); have n2_ := Aside0.mk (Kd.N_below (by (with_reducible repeat (first | apply Kd.N_alloc | apply Kd.N_drewN | apply Kd.N_drew)); exact HO439.out) hb); have n3_ := Aside0.mk (blk_below (g := gb436) (o := .cells #[.int .i64 a0_0, .slice A0_1 l0_1.length c0_1] 30 (0, 0)) (by (with_reducible repeat (first | refine blk_drewN ?_ _ | refine blk_drew ?_ | refine blk_alloc ?_ _)); exact BK436.out) hb); have n4_ := Aside0.mk (below_step (by repeat (first | (with_reducible first | exact HB.out | apply below_alloc | apply pw_below_drewN | apply below_drew1 | refine below_set ?_ GE436.out) | exact HB.out)) hb); clear HO1; clear HO2; clear HO439; clear BK436; clear HB; have HO1 := n0_; have HO2 := n1_; have HO439 := n2_; have BK436 := n3_; have HB := n4_; clear n0_ n1_ n2_ n3_ n4_; (try clear hb); (try clear hb2); (try clear hk); (try clear hi); have hcz15_0 : w14.cell? ⟨gb436, 0, none⟩ = some (.int .i64 a0_0) := (blk_cell BK436.out 0).trans rfl; have hcz15_1 : w14.cell? ⟨gb436, 1, none⟩ = some (.slice A0_1 l0_1.length c0_1) := (blk_cell BK436.out 1).trans rfl; have hfz15_0 := blk_frozen BK436.out 0; have hfz15_1 := blk_frozen BK436.out 1) | (go_at_call 90; (with_reducible refine (spec_l04Pairs.calls k a0_0 _ _ l0_1 _ _ l1 t441 t444 _ ?side1 ?side2 ?side3 ?side4 A6.out).mono ?_); (case side1 => repeat (first | exact (Kd.C_below HR0_1.out HB.out) | (with_reducible refine Kd.C_alloc ?_ _) | (with_reducible refine Kd.C_drewN ?_ _) | (with_reducible refine Kd.C_drew ?_))); (case side2 => exact HC0_1.out); (case side3 => repeat (first | exact (Kd.V_reads' HO1.out).2.2 | (with_reducible refine Kd.C_alloc ?_ _) | (with_reducible refine Kd.C_drewN ?_ _) | (with_reducible refine Kd.C_drew ?_))); (case side4 => exact (Kd.V_reads' HO1.out).2.1); rintro e w16 ⟨v442, rfl, ho0, hb⟩; have n0_ := Aside0.mk (Kd.V_elder' (by (with_reducible repeat (first | apply Kd.V_alloc | apply Kd.V_drewN | apply Kd.V_drew)); exact HO1.out) (Kd.R_base ho0) hb); have n1_ := Aside0.mk (Kd.V_elder' (by (with_reducible repeat (first | apply Kd.V_alloc | apply Kd.V_drewN | apply Kd.V_drew)); exact HO2.out) (Kd.R_base ho0) hb); have n2_ := Aside0.mk (Kd.N_elder' (by (with_reducible repeat (first | apply Kd.N_alloc | apply Kd.N_drewN | apply Kd.N_drew)); exact HO439.out) (Kd.R_base ho0) hb); have n3_ := Aside0.mk (Kd.R_lower (Kd.R_newM (M := fun k_ => (w.heap.size ≤ k_)) ho0 (below_size (by repeat (first | (with_reducible first | exact HB.out | apply below_alloc | apply pw_below_drewN | apply below_drew1 | refine below_set ?_ GE436.out) | exact HB.out))) (fun k_ h_ => h_)) (below_size (by repeat (first | (with_reducible first | exact HB.out | apply below_alloc | apply pw_below_drewN | apply below_drew1 | refine below_set ?_ GE436.out) | exact HB.out)))); have n4_ := Aside0.mk (blk_below (g := gb436) (o := .cells #[.int .i64 a0_0, .slice A0_1 l0_1.length c0_1] 30 (0, 0)) (by (with_reducible repeat (first | refine blk_drewN ?_ _ | refine blk_drew ?_ | refine blk_alloc ?_ _)); exact BK436.out) hb); have n5_ := Aside0.mk (below_step (by repeat (first | (with_reducible first | exact HB.out | apply below_alloc | apply pw_below_drewN | apply below_drew1 | refine below_set ?_ GE436.out) | exact HB.out)) hb); clear HO1; clear HO2; clear HO439; clear BK436; clear HB; have HO1 := n0_; have HO2 := n1_; have HO439 := n2_; have HO443 := n3_; have BK436 := n4_; have HB := n5_; clear n0_ n1_ n2_ n3_ n4_ n5_; (try clear hb); (try clear hb2); (try clear hk); (try clear hi); (try clear ho0); have hcz17_0 : w16.cell? ⟨gb436, 0, none⟩ = some (.int .i64 a0_0) := (blk_cell BK436.out 0).trans rfl; have hcz17_1 : w16.cell? ⟨gb436, 1, none⟩ = some (.slice A0_1 l0_1.length c0_1) := (blk_cell BK436.out 1).trans rfl; have hfz17_0 := blk_frozen BK436.out 0; have hfz17_1 := blk_frozen BK436.out 1) | (go_at_call 90; (with_reducible refine (spec_l04Pairs.calls k a0_0 _ _ l0_1 _ _ l2 t445 t448 _ ?side1 ?side2 ?side3 ?side4 A7.out).mono ?_); (case side1 => repeat (first | exact (Kd.C_below HR0_1.out HB.out) | (with_reducible refine Kd.C_alloc ?_ _) | (with_reducible refine Kd.C_drewN ?_ _) | (with_reducible refine Kd.C_drew ?_))); (case side2 => exact HC0_1.out); (case side3 => repeat (first | exact (Kd.V_reads' HO2.out).2.2 | (with_reducible refine Kd.C_alloc ?_ _) | (with_reducible refine Kd.C_drewN ?_ _) | (with_reducible refine Kd.C_drew ?_))); (case side4 => exact (Kd.V_reads' HO2.out).2.1); rintro e w18 ⟨v446, rfl, ho0, hb⟩; have n0_ := Aside0.mk (Kd.V_elder' (by (with_reducible repeat (first | apply Kd.V_alloc | apply Kd.V_drewN | apply Kd.V_drew)); exact HO1.out) (Kd.R_base ho0) hb); have n1_ := Aside0.mk (Kd.V_elder' (by (with_reducible repeat (first | apply Kd.V_alloc | apply Kd.V_drewN | apply Kd.V_drew)); exact HO2.out) (Kd.R_base ho0) hb); have n2_ := Aside0.mk (Kd.N_elder' (by (with_reducible repeat (first | apply Kd.N_alloc | apply Kd.N_drewN | apply Kd.N_drew)); exact HO439.out) (Kd.R_base ho0) hb); have n3_ := Aside0.mk (Kd.R_elder' (by (with_reducible repeat (first | apply Kd.R_alloc | apply Kd.R_drewN | apply Kd.R_drew)); exact HO443.out) (Kd.R_base ho0) hb); have n4_ := Aside0.mk (Kd.R_lower (Kd.R_new' (Kd.R_newM (M := fun k_ => (w.heap.size ≤ k_)) ho0 (below_size (by repeat (first | (with_reducible first | exact HB.out | apply below_alloc | apply pw_below_drewN | apply below_drew1 | refine below_set ?_ GE436.out) | exact HB.out))) (fun k_ h_ => h_)) (Kd.R_lt (by (with_reducible repeat (first | apply Kd.R_alloc | apply Kd.R_drewN | apply Kd.R_drew)); exact HO443.out))) (below_size (by repeat (first | (with_reducible first | exact HB.out | apply below_alloc | apply pw_below_drewN | apply below_drew1 | refine below_set ?_ GE436.out) | exact HB.out)))); have n5_ := Aside0.mk (blk_below (g := gb436) (o := .cells #[.int .i64 a0_0, .slice A0_1 l0_1.length c0_1] 30 (0, 0)) (by (with_reducible repeat (first | refine blk_drewN ?_ _ | refine blk_drew ?_ | refine blk_alloc ?_ _)); exact BK436.out) hb); have n6_ := Aside0.mk (below_step (by repeat (first | (with_reducible first | exact HB.out | apply below_alloc | apply pw_below_drewN | apply below_drew1 | refine below_set ?_ GE436.out) | exact HB.out)) hb); clear HO1; clear HO2; clear HO439; clear HO443; clear BK436; clear HB; have HO1 := n0_; have HO2 := n1_; have HO439 := n2_; have HO443 := n3_; have HO447 := n4_; have BK436 := n5_; have HB := n6_; clear n0_ n1_ n2_ n3_ n4_ n5_ n6_; (try clear hb); (try clear hb2); (try clear hk); (try clear hi); (try clear ho0)))
  repeat (go_quiet (first | ((with_reducible refine gate_dst (N := 3) rfl ?_); refine box_event ?hg (N := 3) ?hd (cs := #[.int .i64 a0_0, .slice A0_1 l0_1.length c0_1]) (t := 30) ?hr ?_; (case hd => rfl); (case hg => rfl); (case hr => first | (go_simp; done) | (go_simp; rfl)); intro gb436 hg w9 hbox hb; have n0_ := Aside0.mk (Kd.V_below (Kd.V_elderB (by (with_reducible repeat (first | apply Kd.V_alloc | apply Kd.V_drewN | apply Kd.V_drew)); exact HO1.out) gb436 (Nat.le_of_eq hg.symm)) hb); have n1_ := Aside0.mk (Kd.V_below (Kd.V_elderB (by (with_reducible repeat (first | apply Kd.V_alloc | apply Kd.V_drewN | apply Kd.V_drew)); exact HO2.out) gb436 (Nat.le_of_eq hg.symm)) hb); have n2_ := Aside0.mk (below_step (by repeat (first | (with_reducible first | exact HB.out | apply below_alloc | apply pw_below_drewN | apply below_drew1) | exact HB.out)) hb); have n3_ := Aside0.mk (hbox); have n4_ := Aside0.mk ((by rw [hg]; exact (below_size (by repeat (first | (with_reducible first | exact HB.out | apply below_alloc | apply pw_below_drewN | apply below_drew1) | exact HB.out))) : w.heap.size ≤ gb436)); have n5_ := Aside0.mk ((by rw [hg]; exact (below_size (by repeat (first | (with_reducible first | exact HB.out | apply below_alloc | apply pw_below_drewN | apply below_drew1) | exact HB.out))) : w.heap.size ≤ gb436)); clear HO1; clear HO2; clear HB; have HO1 := n0_; have HO2 := n1_; have HB := n2_; have BK436 := n3_; have GW436 := n4_; have GE436 := n5_; clear n0_ n1_ n2_ n3_ n4_ n5_; clear hb hbox hg; have hcz10_0 : w9.cell? ⟨gb436, 0, none⟩ = some (.int .i64 a0_0) := (blk_cell BK436.out 0).trans rfl; have hcz10_1 : w9.cell? ⟨gb436, 1, none⟩ = some (.slice A0_1 l0_1.length c0_1) := (blk_cell BK436.out 1).trans rfl; have hfz10_0 := blk_frozen BK436.out 0; have hfz10_1 := blk_frozen BK436.out 1) | ((with_reducible refine gate_dst (N := 17) rfl ?_); refine Kd.N_lit (Kd.slice 2 (Kd.int .i64)) _ 22 ?hg (N' := 17) ?hd (xs := ([l1, l2] : List (List Int))) (inner := [.slice A1 l1.length c1, .slice A2 l2.length c2]) (ok := (fun k_ => ((P1_ k_ ∨ P2_ k_) ∨ w.heap.size ≤ k_) ∧ k_ ≠ gb436)) (okp := (fun k_ => ((P1_ k_ ∨ P2_ k_) ∨ w.heap.size ≤ k_) ∧ k_ ≠ gb436)) ?hr ?hp (fun _ hk => hk) ((show ∀ k_, w9.heap.size ≤ k_ → (fun k_ => ((P1_ k_ ∨ P2_ k_) ∨ w.heap.size ≤ k_) ∧ k_ ≠ gb436) k_ from fun k_ hk => ⟨(.inr (Nat.le_trans (below_size (by repeat (first | (with_reducible first | exact HB.out | apply below_alloc | apply pw_below_drewN | apply below_drew1 | refine below_set ?_ GE436.out) | exact HB.out))) hk)), Kd.freshB (g := gb436) (o := .cells #[.int .i64 a0_0, .slice A0_1 l0_1.length c0_1] 30 (0, 0)) (by (with_reducible repeat (first | refine blk_drewN ?_ _ | refine blk_drew ?_ | refine blk_alloc ?_ _)); exact BK436.out) k_ hk⟩) _ (Nat.le_refl _)) (Below.refl _ _) (Nat.le_refl _) (by simp) ?_; (case hd => rfl); (case hg => rfl); (case hr => first | (go_simp; done) | (go_simp; rfl)); (case hp => exact (Reps.one (show Kd.FK (Kd.slice 2 (Kd.int .i64)) _ _ l1 [.slice A1 l1.length c1] from (Kd.FK_slice_mk (Kd.V_reads' (Kd.V_mono (ok' := (fun k_ => ((P1_ k_ ∨ P2_ k_) ∨ w.heap.size ≤ k_) ∧ k_ ≠ gb436)) (HO1.out) (fun k_ hk => ⟨hk.1, hk.2⟩))).2.1 (Kd.V_F (Kd.V_mono (ok' := (fun k_ => ((P1_ k_ ∨ P2_ k_) ∨ w.heap.size ≤ k_) ∧ k_ ≠ gb436)) (HO1.out) (fun k_ hk => ⟨hk.1, hk.2⟩))))) (Reps.one (show Kd.FK (Kd.slice 2 (Kd.int .i64)) _ _ l2 [.slice A2 l2.length c2] from (Kd.FK_slice_mk (Kd.V_reads' (Kd.V_mono (ok' := (fun k_ => ((P1_ k_ ∨ P2_ k_) ∨ w.heap.size ≤ k_) ∧ k_ ≠ gb436)) (HO2.out) (fun k_ hk => ⟨hk.1, hk.2⟩))).2.1 (Kd.V_F (Kd.V_mono (ok' := (fun k_ => ((P1_ k_ ∨ P2_ k_) ∨ w.heap.size ≤ k_) ∧ k_ ≠ gb436)) (HO2.out) (fun k_ hk => ⟨hk.1, hk.2⟩))))) (Reps.none _ _)))); intro v438 w11 ho12 hb hg_ hnew_; clear hg_ hnew_; (first | rw [← Ny437.out] at ho12 | (simp only [Int.reduceToNat] at ho12; rw [← Ny437.out] at ho12)); have n0_ := Aside0.mk (Kd.V_elder' (by (with_reducible repeat (first | apply Kd.V_alloc | apply Kd.V_drewN | apply Kd.V_drew)); exact HO1.out) (Kd.N_base ho12) hb); have n1_ := Aside0.mk (Kd.V_elder' (by (with_reducible repeat (first | apply Kd.V_alloc | apply Kd.V_drewN | apply Kd.V_drew)); exact HO2.out) (Kd.N_base ho12) hb); have n2_ := Aside0.mk (Kd.N_lower ho12 (below_size (by repeat (first | (with_reducible first | exact HB.out | apply below_alloc | apply pw_below_drewN | apply below_drew1 | refine below_set ?_ GE436.out) | exact HB.out)))); have n3_ := Aside0.mk (blk_below (g := gb436) (o := .cells #[.int .i64 a0_0, .slice A0_1 l0_1.length c0_1] 30 (0, 0)) (by (with_reducible repeat (first | refine blk_drewN ?_ _ | refine blk_drew ?_ | refine blk_alloc ?_ _)); exact BK436.out) hb); have n4_ := Aside0.mk (below_step (by repeat (first | (with_reducible first | exact HB.out | apply below_alloc | apply pw_below_drewN | apply below_drew1 | refine below_set ?_ GE436.out) | exact HB.out)) hb); clear HO1; clear HO2; clear BK436; clear HB; have HO1 := n0_; have HO2 := n1_; have HO439 := n2_; have BK436 := n3_; have HB := n4_; clear n0_ n1_ n2_ n3_ n4_; clear hb ho12; obtain ⟨Ao13, co13, eo13⟩ := Kd.N_slice HO439.out; subst eo13) | (go_at_call 89; (with_reducible refine (spec_l04Code.calls k a0_0 _ _ l0_1 _ _ y437 t440 _ ?side1 ?side2 ?side3 ?side4 A4.out).mono ?_); (case side1 => repeat (first | exact (Kd.C_below HR0_1.out HB.out) | (with_reducible refine Kd.C_alloc ?_ _) | (with_reducible refine Kd.C_drewN ?_ _) | (with_reducible refine Kd.C_drew ?_))); (case side2 => exact HC0_1.out); (case side3 => repeat (first | exact (Kd.N_reads' HO439.out).2.2 | (with_reducible refine Kd.C_alloc ?_ _) | (with_reducible refine Kd.C_drewN ?_ _) | (with_reducible refine Kd.C_drew ?_))); (case side4 => exact (Kd.N_reads' HO439.out).2.1); rintro e w14 ⟨rfl, hb⟩; have n0_ := Aside0.mk (Kd.V_below (by (with_reducible repeat (first | apply Kd.V_alloc | apply Kd.V_drewN | apply Kd.V_drew)); exact HO1.out) hb); have n1_ := Aside0.mk (Kd.V_below (by (with_reducible repeat (first | apply Kd.V_alloc | apply Kd.V_drewN | apply Kd.V_drew)); exact HO2.out) hb); have n2_ := Aside0.mk (Kd.N_below (by (with_reducible repeat (first | apply Kd.N_alloc | apply Kd.N_drewN | apply Kd.N_drew)); exact HO439.out) hb); have n3_ := Aside0.mk (blk_below (g := gb436) (o := .cells #[.int .i64 a0_0, .slice A0_1 l0_1.length c0_1] 30 (0, 0)) (by (with_reducible repeat (first | refine blk_drewN ?_ _ | refine blk_drew ?_ | refine blk_alloc ?_ _)); exact BK436.out) hb); have n4_ := Aside0.mk (below_step (by repeat (first | (with_reducible first | exact HB.out | apply below_alloc | apply pw_below_drewN | apply below_drew1 | refine below_set ?_ GE436.out) | exact HB.out)) hb); clear HO1; clear HO2; clear HO439; clear BK436; clear HB; have HO1 := n0_; have HO2 := n1_; have HO439 := n2_; have BK436 := n3_; have HB := n4_; clear n0_ n1_ n2_ n3_ n4_; (try clear hb); (try clear hb2); (try clear hk); (try clear hi); have hcz15_0 : w14.cell? ⟨gb436, 0, none⟩ = some (.int .i64 a0_0) := (blk_cell BK436.out 0).trans rfl; have hcz15_1 : w14.cell? ⟨gb436, 1, none⟩ = some (.slice A0_1 l0_1.length c0_1) := (blk_cell BK436.out 1).trans rfl; have hfz15_0 := blk_frozen BK436.out 0; have hfz15_1 := blk_frozen BK436.out 1) | (go_at_call 90; (with_reducible refine (spec_l04Pairs.calls k a0_0 _ _ l0_1 _ _ l1 t441 t444 _ ?side1 ?side2 ?side3 ?side4 A6.out).mono ?_); (case side1 => repeat (first | exact (Kd.C_below HR0_1.out HB.out) | (with_reducible refine Kd.C_alloc ?_ _) | (with_reducible refine Kd.C_drewN ?_ _) | (with_reducible refine Kd.C_drew ?_))); (case side2 => exact HC0_1.out); (case side3 => repeat (first | exact (Kd.V_reads' HO1.out).2.2 | (with_reducible refine Kd.C_alloc ?_ _) | (with_reducible refine Kd.C_drewN ?_ _) | (with_reducible refine Kd.C_drew ?_))); (case side4 => exact (Kd.V_reads' HO1.out).2.1); rintro e w16 ⟨v442, rfl, ho0, hb⟩; have n0_ := Aside0.mk (Kd.V_elder' (by (with_reducible repeat (first | apply Kd.V_alloc | apply Kd.V_drewN | apply Kd.V_drew)); exact HO1.out) (Kd.R_base ho0) hb); have n1_ := Aside0.mk (Kd.V_elder' (by (with_reducible repeat (first | apply Kd.V_alloc | apply Kd.V_drewN | apply Kd.V_drew)); exact HO2.out) (Kd.R_base ho0) hb); have n2_ := Aside0.mk (Kd.N_elder' (by (with_reducible repeat (first | apply Kd.N_alloc | apply Kd.N_drewN | apply Kd.N_drew)); exact HO439.out) (Kd.R_base ho0) hb); have n3_ := Aside0.mk (Kd.R_lower (Kd.R_newM (M := fun k_ => (w.heap.size ≤ k_)) ho0 (below_size (by repeat (first | (with_reducible first | exact HB.out | apply below_alloc | apply pw_below_drewN | apply below_drew1 | refine below_set ?_ GE436.out) | exact HB.out))) (fun k_ h_ => h_)) (below_size (by repeat (first | (with_reducible first | exact HB.out | apply below_alloc | apply pw_below_drewN | apply below_drew1 | refine below_set ?_ GE436.out) | exact HB.out)))); have n4_ := Aside0.mk (blk_below (g := gb436) (o := .cells #[.int .i64 a0_0, .slice A0_1 l0_1.length c0_1] 30 (0, 0)) (by (with_reducible repeat (first | refine blk_drewN ?_ _ | refine blk_drew ?_ | refine blk_alloc ?_ _)); exact BK436.out) hb); have n5_ := Aside0.mk (below_step (by repeat (first | (with_reducible first | exact HB.out | apply below_alloc | apply pw_below_drewN | apply below_drew1 | refine below_set ?_ GE436.out) | exact HB.out)) hb); clear HO1; clear HO2; clear HO439; clear BK436; clear HB; have HO1 := n0_; have HO2 := n1_; have HO439 := n2_; have HO443 := n3_; have BK436 := n4_; have HB := n5_; clear n0_ n1_ n2_ n3_ n4_ n5_; (try clear hb); (try clear hb2); (try clear hk); (try clear hi); (try clear ho0); have hcz17_0 : w16.cell? ⟨gb436, 0, none⟩ = some (.int .i64 a0_0) := (blk_cell BK436.out 0).trans rfl; have hcz17_1 : w16.cell? ⟨gb436, 1, none⟩ = some (.slice A0_1 l0_1.length c0_1) := (blk_cell BK436.out 1).trans rfl; have hfz17_0 := blk_frozen BK436.out 0; have hfz17_1 := blk_frozen BK436.out 1) | (go_at_call 90; (with_reducible refine (spec_l04Pairs.calls k a0_0 _ _ l0_1 _ _ l2 t445 t448 _ ?side1 ?side2 ?side3 ?side4 A7.out).mono ?_); (case side1 => repeat (first | exact (Kd.C_below HR0_1.out HB.out) | (with_reducible refine Kd.C_alloc ?_ _) | (with_reducible refine Kd.C_drewN ?_ _) | (with_reducible refine Kd.C_drew ?_))); (case side2 => exact HC0_1.out); (case side3 => repeat (first | exact (Kd.V_reads' HO2.out).2.2 | (with_reducible refine Kd.C_alloc ?_ _) | (with_reducible refine Kd.C_drewN ?_ _) | (with_reducible refine Kd.C_drew ?_))); (case side4 => exact (Kd.V_reads' HO2.out).2.1); rintro e w18 ⟨v446, rfl, ho0, hb⟩; have n0_ := Aside0.mk (Kd.V_elder' (by (with_reducible repeat (first | apply Kd.V_alloc | apply Kd.V_drewN | apply Kd.V_drew)); exact HO1.out) (Kd.R_base ho0) hb); have n1_ := Aside0.mk (Kd.V_elder' (by (with_reducible repeat (first | apply Kd.V_alloc | apply Kd.V_drewN | apply Kd.V_drew)); exact HO2.out) (Kd.R_base ho0) hb); have n2_ := Aside0.mk (Kd.N_elder' (by (with_reducible repeat (first | apply Kd.N_alloc | apply Kd.N_drewN | apply Kd.N_drew)); exact HO439.out) (Kd.R_base ho0) hb); have n3_ := Aside0.mk (Kd.R_elder' (by (with_reducible repeat (first | apply Kd.R_alloc | apply Kd.R_drewN | apply Kd.R_drew)); exact HO443.out) (Kd.R_base ho0) hb); have n4_ := Aside0.mk (Kd.R_lower (Kd.R_new' (Kd.R_newM (M := fun k_ => (w.heap.size ≤ k_)) ho0 (below_size (by repeat (first | (with_reducible first | exact HB.out | apply below_alloc | apply pw_below_drewN | apply below_drew1 | refine below_set ?_ GE436.out) | exact HB.out))) (fun k_ h_ => h_)) (Kd.R_lt (by (with_reducible repeat (first | apply Kd.R_alloc | apply Kd.R_drewN | apply Kd.R_drew)); exact HO443.out))) (below_size (by repeat (first | (with_reducible first | exact HB.out | apply below_alloc | apply pw_below_drewN | apply below_drew1 | refine below_set ?_ GE436.out) | exact HB.out)))); have n5_ := Aside0.mk (blk_below (g := gb436) (o := .cells #[.int .i64 a0_0, .slice A0_1 l0_1.length c0_1] 30 (0, 0)) (by (with_reducible repeat (first | refine blk_drewN ?_ _ | refine blk_drew ?_ | refine blk_alloc ?_ _)); exact BK436.out) hb); have n6_ := Aside0.mk (below_step (by repeat (first | (with_reducible first | exact HB.out | apply below_alloc | apply pw_below_drewN | apply below_drew1 | refine below_set ?_ GE436.out) | exact HB.out)) hb); clear HO1; clear HO2; clear HO439; clear HO443; clear BK436; clear HB; have HO1 := n0_; have HO2 := n1_; have HO439 := n2_; have HO443 := n3_; have HO447 := n4_; have BK436 := n5_; have HB := n6_; clear n0_ n1_ n2_ n3_ n4_ n5_ n6_; (try clear hb); (try clear hb2); (try clear hk); (try clear hi); (try clear ho0))); go_upto_region 6 with (first | ((with_reducible refine gate_dst (N := 3) rfl ?_); refine box_event ?hg (N := 3) ?hd (cs := #[.int .i64 a0_0, .slice A0_1 l0_1.length c0_1]) (t := 30) ?hr ?_; (case hd => rfl); (case hg => rfl); (case hr => first | (go_simp; done) | (go_simp; rfl)); intro gb436 hg w9 hbox hb; have n0_ := Aside0.mk (Kd.V_below (Kd.V_elderB (by (with_reducible repeat (first | apply Kd.V_alloc | apply Kd.V_drewN | apply Kd.V_drew)); exact HO1.out) gb436 (Nat.le_of_eq hg.symm)) hb); have n1_ := Aside0.mk (Kd.V_below (Kd.V_elderB (by (with_reducible repeat (first | apply Kd.V_alloc | apply Kd.V_drewN | apply Kd.V_drew)); exact HO2.out) gb436 (Nat.le_of_eq hg.symm)) hb); have n2_ := Aside0.mk (below_step (by repeat (first | (with_reducible first | exact HB.out | apply below_alloc | apply pw_below_drewN | apply below_drew1) | exact HB.out)) hb); have n3_ := Aside0.mk (hbox); have n4_ := Aside0.mk ((by rw [hg]; exact (below_size (by repeat (first | (with_reducible first | exact HB.out | apply below_alloc | apply pw_below_drewN | apply below_drew1) | exact HB.out))) : w.heap.size ≤ gb436)); have n5_ := Aside0.mk ((by rw [hg]; exact (below_size (by repeat (first | (with_reducible first | exact HB.out | apply below_alloc | apply pw_below_drewN | apply below_drew1) | exact HB.out))) : w.heap.size ≤ gb436)); clear HO1; clear HO2; clear HB; have HO1 := n0_; have HO2 := n1_; have HB := n2_; have BK436 := n3_; have GW436 := n4_; have GE436 := n5_; clear n0_ n1_ n2_ n3_ n4_ n5_; clear hb hbox hg; have hcz10_0 : w9.cell? ⟨gb436, 0, none⟩ = some (.int .i64 a0_0) := (blk_cell BK436.out 0).trans rfl; have hcz10_1 : w9.cell? ⟨gb436, 1, none⟩ = some (.slice A0_1 l0_1.length c0_1) := (blk_cell BK436.out 1).trans rfl; have hfz10_0 := blk_frozen BK436.out 0; have hfz10_1 := blk_frozen BK436.out 1) | ((with_reducible refine gate_dst (N := 17) rfl ?_); refine Kd.N_lit (Kd.slice 2 (Kd.int .i64)) _ 22 ?hg (N' := 17) ?hd (xs := ([l1, l2] : List (List Int))) (inner := [.slice A1 l1.length c1, .slice A2 l2.length c2]) (ok := (fun k_ => ((P1_ k_ ∨ P2_ k_) ∨ w.heap.size ≤ k_) ∧ k_ ≠ gb436)) (okp := (fun k_ => ((P1_ k_ ∨ P2_ k_) ∨ w.heap.size ≤ k_) ∧ k_ ≠ gb436)) ?hr ?hp (fun _ hk => hk) ((show ∀ k_, w9.heap.size ≤ k_ → (fun k_ => ((P1_ k_ ∨ P2_ k_) ∨ w.heap.size ≤ k_) ∧ k_ ≠ gb436) k_ from fun k_ hk => ⟨(.inr (Nat.le_trans (below_size (by repeat (first | (with_reducible first | exact HB.out | apply below_alloc | apply pw_below_drewN | apply below_drew1 | refine below_set ?_ GE436.out) | exact HB.out))) hk)), Kd.freshB (g := gb436) (o := .cells #[.int .i64 a0_0, .slice A0_1 l0_1.length c0_1] 30 (0, 0)) (by (with_reducible repeat (first | refine blk_drewN ?_ _ | refine blk_drew ?_ | refine blk_alloc ?_ _)); exact BK436.out) k_ hk⟩) _ (Nat.le_refl _)) (Below.refl _ _) (Nat.le_refl _) (by simp) ?_; (case hd => rfl); (case hg => rfl); (case hr => first | (go_simp; done) | (go_simp; rfl)); (case hp => exact (Reps.one (show Kd.FK (Kd.slice 2 (Kd.int .i64)) _ _ l1 [.slice A1 l1.length c1] from (Kd.FK_slice_mk (Kd.V_reads' (Kd.V_mono (ok' := (fun k_ => ((P1_ k_ ∨ P2_ k_) ∨ w.heap.size ≤ k_) ∧ k_ ≠ gb436)) (HO1.out) (fun k_ hk => ⟨hk.1, hk.2⟩))).2.1 (Kd.V_F (Kd.V_mono (ok' := (fun k_ => ((P1_ k_ ∨ P2_ k_) ∨ w.heap.size ≤ k_) ∧ k_ ≠ gb436)) (HO1.out) (fun k_ hk => ⟨hk.1, hk.2⟩))))) (Reps.one (show Kd.FK (Kd.slice 2 (Kd.int .i64)) _ _ l2 [.slice A2 l2.length c2] from (Kd.FK_slice_mk (Kd.V_reads' (Kd.V_mono (ok' := (fun k_ => ((P1_ k_ ∨ P2_ k_) ∨ w.heap.size ≤ k_) ∧ k_ ≠ gb436)) (HO2.out) (fun k_ hk => ⟨hk.1, hk.2⟩))).2.1 (Kd.V_F (Kd.V_mono (ok' := (fun k_ => ((P1_ k_ ∨ P2_ k_) ∨ w.heap.size ≤ k_) ∧ k_ ≠ gb436)) (HO2.out) (fun k_ hk => ⟨hk.1, hk.2⟩))))) (Reps.none _ _)))); intro v438 w11 ho12 hb hg_ hnew_; clear hg_ hnew_; (first | rw [← Ny437.out] at ho12 | (simp only [Int.reduceToNat] at ho12; rw [← Ny437.out] at ho12)); have n0_ := Aside0.mk (Kd.V_elder' (by (with_reducible repeat (first | apply Kd.V_alloc | apply Kd.V_drewN | apply Kd.V_drew)); exact HO1.out) (Kd.N_base ho12) hb); have n1_ := Aside0.mk (Kd.V_elder' (by (with_reducible repeat (first | apply Kd.V_alloc | apply Kd.V_drewN | apply Kd.V_drew)); exact HO2.out) (Kd.N_base ho12) hb); have n2_ := Aside0.mk (Kd.N_lower ho12 (below_size (by repeat (first | (with_reducible first | exact HB.out | apply below_alloc | apply pw_below_drewN | apply below_drew1 | refine below_set ?_ GE436.out) | exact HB.out)))); have n3_ := Aside0.mk (blk_below (g := gb436) (o := .cells #[.int .i64 a0_0, .slice A0_1 l0_1.length c0_1] 30 (0, 0)) (by (with_reducible repeat (first | refine blk_drewN ?_ _ | refine blk_drew ?_ | refine blk_alloc ?_ _)); exact BK436.out) hb); have n4_ := Aside0.mk (below_step (by repeat (first | (with_reducible first | exact HB.out | apply below_alloc | apply pw_below_drewN | apply below_drew1 | refine below_set ?_ GE436.out) | exact HB.out)) hb); clear HO1; clear HO2; clear BK436; clear HB; have HO1 := n0_; have HO2 := n1_; have HO439 := n2_; have BK436 := n3_; have HB := n4_; clear n0_ n1_ n2_ n3_ n4_; clear hb ho12; obtain ⟨Ao13, co13, eo13⟩ := Kd.N_slice HO439.out; subst eo13) | (go_at_call 89; (with_reducible refine (spec_l04Code.calls k a0_0 _ _ l0_1 _ _ y437 t440 _ ?side1 ?side2 ?side3 ?side4 A4.out).mono ?_); (case side1 => repeat (first | exact (Kd.C_below HR0_1.out HB.out) | (with_reducible refine Kd.C_alloc ?_ _) | (with_reducible refine Kd.C_drewN ?_ _) | (with_reducible refine Kd.C_drew ?_))); (case side2 => exact HC0_1.out); (case side3 => repeat (first | exact (Kd.N_reads' HO439.out).2.2 | (with_reducible refine Kd.C_alloc ?_ _) | (with_reducible refine Kd.C_drewN ?_ _) | (with_reducible refine Kd.C_drew ?_))); (case side4 => exact (Kd.N_reads' HO439.out).2.1); rintro e w14 ⟨rfl, hb⟩; have n0_ := Aside0.mk (Kd.V_below (by (with_reducible repeat (first | apply Kd.V_alloc | apply Kd.V_drewN | apply Kd.V_drew)); exact HO1.out) hb); have n1_ := Aside0.mk (Kd.V_below (by (with_reducible repeat (first | apply Kd.V_alloc | apply Kd.V_drewN | apply Kd.V_drew)); exact HO2.out) hb); have n2_ := Aside0.mk (Kd.N_below (by (with_reducible repeat (first | apply Kd.N_alloc | apply Kd.N_drewN | apply Kd.N_drew)); exact HO439.out) hb); have n3_ := Aside0.mk (blk_below (g := gb436) (o := .cells #[.int .i64 a0_0, .slice A0_1 l0_1.length c0_1] 30 (0, 0)) (by (with_reducible repeat (first | refine blk_drewN ?_ _ | refine blk_drew ?_ | refine blk_alloc ?_ _)); exact BK436.out) hb); have n4_ := Aside0.mk (below_step (by repeat (first | (with_reducible first | exact HB.out | apply below_alloc | apply pw_below_drewN | apply below_drew1 | refine below_set ?_ GE436.out) | exact HB.out)) hb); clear HO1; clear HO2; clear HO439; clear BK436; clear HB; have HO1 := n0_; have HO2 := n1_; have HO439 := n2_; have BK436 := n3_; have HB := n4_; clear n0_ n1_ n2_ n3_ n4_; (try clear hb); (try clear hb2); (try clear hk); (try clear hi); have hcz15_0 : w14.cell? ⟨gb436, 0, none⟩ = some (.int .i64 a0_0) := (blk_cell BK436.out 0).trans rfl; have hcz15_1 : w14.cell? ⟨gb436, 1, none⟩ = some (.slice A0_1 l0_1.length c0_1) := (blk_cell BK436.out 1).trans rfl; have hfz15_0 := blk_frozen BK436.out 0; have hfz15_1 := blk_frozen BK436.out 1) | (go_at_call 90; (with_reducible refine (spec_l04Pairs.calls k a0_0 _ _ l0_1 _ _ l1 t441 t444 _ ?side1 ?side2 ?side3 ?side4 A6.out).mono ?_); (case side1 => repeat (first | exact (Kd.C_below HR0_1.out HB.out) | (with_reducible refine Kd.C_alloc ?_ _) | (with_reducible refine Kd.C_drewN ?_ _) | (with_reducible refine Kd.C_drew ?_))); (case side2 => exact HC0_1.out); (case side3 => repeat (first | exact (Kd.V_reads' HO1.out).2.2 | (with_reducible refine Kd.C_alloc ?_ _) | (with_reducible refine Kd.C_drewN ?_ _) | (with_reducible refine Kd.C_drew ?_))); (case side4 => exact (Kd.V_reads' HO1.out).2.1); rintro e w16 ⟨v442, rfl, ho0, hb⟩; have n0_ := Aside0.mk (Kd.V_elder' (by (with_reducible repeat (first | apply Kd.V_alloc | apply Kd.V_drewN | apply Kd.V_drew)); exact HO1.out) (Kd.R_base ho0) hb); have n1_ := Aside0.mk (Kd.V_elder' (by (with_reducible repeat (first | apply Kd.V_alloc | apply Kd.V_drewN | apply Kd.V_drew)); exact HO2.out) (Kd.R_base ho0) hb); have n2_ := Aside0.mk (Kd.N_elder' (by (with_reducible repeat (first | apply Kd.N_alloc | apply Kd.N_drewN | apply Kd.N_drew)); exact HO439.out) (Kd.R_base ho0) hb); have n3_ := Aside0.mk (Kd.R_lower (Kd.R_newM (M := fun k_ => (w.heap.size ≤ k_)) ho0 (below_size (by repeat (first | (with_reducible first | exact HB.out | apply below_alloc | apply pw_below_drewN | apply below_drew1 | refine below_set ?_ GE436.out) | exact HB.out))) (fun k_ h_ => h_)) (below_size (by repeat (first | (with_reducible first | exact HB.out | apply below_alloc | apply pw_below_drewN | apply below_drew1 | refine below_set ?_ GE436.out) | exact HB.out)))); have n4_ := Aside0.mk (blk_below (g := gb436) (o := .cells #[.int .i64 a0_0, .slice A0_1 l0_1.length c0_1] 30 (0, 0)) (by (with_reducible repeat (first | refine blk_drewN ?_ _ | refine blk_drew ?_ | refine blk_alloc ?_ _)); exact BK436.out) hb); have n5_ := Aside0.mk (below_step (by repeat (first | (with_reducible first | exact HB.out | apply below_alloc | apply pw_below_drewN | apply below_drew1 | refine below_set ?_ GE436.out) | exact HB.out)) hb); clear HO1; clear HO2; clear HO439; clear BK436; clear HB; have HO1 := n0_; have HO2 := n1_; have HO439 := n2_; have HO443 := n3_; have BK436 := n4_; have HB := n5_; clear n0_ n1_ n2_ n3_ n4_ n5_; (try clear hb); (try clear hb2); (try clear hk); (try clear hi); (try clear ho0); have hcz17_0 : w16.cell? ⟨gb436, 0, none⟩ = some (.int .i64 a0_0) := (blk_cell BK436.out 0).trans rfl; have hcz17_1 : w16.cell? ⟨gb436, 1, none⟩ = some (.slice A0_1 l0_1.length c0_1) := (blk_cell BK436.out 1).trans rfl; have hfz17_0 := blk_frozen BK436.out 0; have hfz17_1 := blk_frozen BK436.out 1) | (go_at_call 90; (with_reducible refine (spec_l04Pairs.calls k a0_0 _ _ l0_1 _ _ l2 t445 t448 _ ?side1 ?side2 ?side3 ?side4 A7.out).mono ?_); (case side1 => repeat (first | exact (Kd.C_below HR0_1.out HB.out) | (with_reducible refine Kd.C_alloc ?_ _) | (with_reducible refine Kd.C_drewN ?_ _) | (with_reducible refine Kd.C_drew ?_))); (case side2 => exact HC0_1.out); (case side3 => repeat (first | exact (Kd.V_reads' HO2.out).2.2 | (with_reducible refine Kd.C_alloc ?_ _) | (with_reducible refine Kd.C_drewN ?_ _) | (with_reducible refine Kd.C_drew ?_))); (case side4 => exact (Kd.V_reads' HO2.out).2.1); rintro e w18 ⟨v446, rfl, ho0, hb⟩; have n0_ := Aside0.mk (Kd.V_elder' (by (with_reducible repeat (first | apply Kd.V_alloc | apply Kd.V_drewN | apply Kd.V_drew)); exact HO1.out) (Kd.R_base ho0) hb); have n1_ := Aside0.mk (Kd.V_elder' (by (with_reducible repeat (first | apply Kd.V_alloc | apply Kd.V_drewN | apply Kd.V_drew)); exact HO2.out) (Kd.R_base ho0) hb); have n2_ := Aside0.mk (Kd.N_elder' (by (with_reducible repeat (first | apply Kd.N_alloc | apply Kd.N_drewN | apply Kd.N_drew)); exact HO439.out) (Kd.R_base ho0) hb); have n3_ := Aside0.mk (Kd.R_elder' (by (with_reducible repeat (first | apply Kd.R_alloc | apply Kd.R_drewN | apply Kd.R_drew)); exact HO443.out) (Kd.R_base ho0) hb); have n4_ := Aside0.mk (Kd.R_lower (Kd.R_new' (Kd.R_newM (M := fun k_ => (w.heap.size ≤ k_)) ho0 (below_size (by repeat (first | (with_reducible first | exact HB.out | apply below_alloc | apply pw_below_drewN | apply below_drew1 | refine below_set ?_ GE436.out) | exact HB.out))) (fun k_ h_ => h_)) (Kd.R_lt (by (with_reducible repeat (first | apply Kd.R_alloc | apply Kd.R_drewN | apply Kd.R_drew)); exact HO443.out))) (below_size (by repeat (first | (with_reducible first | exact HB.out | apply below_alloc | apply pw_below_drewN | apply below_drew1 | refine below_set ?_ GE436.out) | exact HB.out)))); have n5_ := Aside0.mk (blk_below (g := gb436) (o := .cells #[.int .i64 a0_0, .slice A0_1 l0_1.length c0_1] 30 (0, 0)) (by (with_reducible repeat (first | refine blk_drewN ?_ _ | refine blk_drew ?_ | refine blk_alloc ?_ _)); exact BK436.out) hb); have n6_ := Aside0.mk (below_step (by repeat (first | (with_reducible first | exact HB.out | apply below_alloc | apply pw_below_drewN | apply below_drew1 | refine below_set ?_ GE436.out) | exact HB.out)) hb); clear HO1; clear HO2; clear HO439; clear HO443; clear BK436; clear HB; have HO1 := n0_; have HO2 := n1_; have HO439 := n2_; have HO443 := n3_; have HO447 := n4_; have BK436 := n5_; have HB := n6_; clear n0_ n1_ n2_ n3_ n4_ n5_ n6_; (try clear hb); (try clear hb2); (try clear hk); (try clear hi); (try clear ho0))))
  (try simp only [Act.put, List.setIfInBounds_toArray, List.set_cons_zero, List.set_cons_succ])
  go_cut [39] (fun v39 wc => ∃ (kq : Nat) (x39_7 : Bool), v39 = .bool x39_7 ∧ Aside0 (spec_AreEquivalent.j0 kq t441 t445 x39_7 = some (r1, r2)) ∧ Aside0 (kq ≤ k) ∧ Aside0 (Kd.R k53 53 wc w.heap.size (fun k_ => (w.heap.size ≤ k_) ∧ some k_ ≠ (v446 : Value).ownBlock) v442 t441) ∧ Aside0 (Kd.R k53 53 wc w.heap.size (fun k_ => (w.heap.size ≤ k_) ∧ some k_ ≠ (v442 : Value).ownBlock) v446 t445) ∧ Aside0 (wc.heap[gb436]? = some (.cells #[.int .i64 a0_0, (.slice A0_1 l0_1.length c0_1)] 30 (0, 0))) ∧ Aside0 (Below w.heap.size w wc))
  case first =>
   have H := HC8.out
   clear HC8
   by_cases c19 : t444 = true
   ·subst c19
    have H1 : (spec_AreEquivalent.j0 k t441 t445 (!t448)) = some (r1, r2) := by rw [if_pos rfl] at H; exact H
    clear H
    have H := H1
    clear H1
    have H' := Aside0.mk H
    clear H
    go_wp2
    repeat (go_quiet (fail); try go_wp2)
    go_meet
    case rel => exact ⟨_, (!t448), (by first | rfl | (simp; done) | (simp [*]; done)), H', ⟨by first | omega | exact Nat.le_refl _⟩, ⟨by (with_reducible repeat (first | apply Kd.R_alloc | apply Kd.R_drewN | apply Kd.R_drew)); exact Kd.R_mono HO443.out (fun _ hk => ⟨hk.1.1, hk.2⟩)⟩, ⟨by (with_reducible repeat (first | apply Kd.R_alloc | apply Kd.R_drewN | apply Kd.R_drew)); exact Kd.R_mono HO447.out (fun _ hk => ⟨hk.1.1, hk.2⟩)⟩, ⟨by (with_reducible repeat (first | refine blk_drewN ?_ _ | refine blk_drew ?_ | refine blk_alloc ?_ _)); exact BK436.out⟩, ⟨by repeat (first | (with_reducible first | exact HB.out | apply below_alloc | apply pw_below_drewN | apply below_drew1 | refine below_set ?_ GE436.out) | exact HB.out)⟩⟩
   ·replace c19 := Bool.eq_false_iff.mpr c19
    subst c19
    have H1 : (spec_AreEquivalent.j0 k t441 t445 true) = some (r1, r2) := by rw [if_neg (show ¬ (false = true) by decide)] at H; exact H
    clear H
    have H := H1
    clear H1
    have H' := Aside0.mk H
    clear H
    go_wp2
    repeat (go_quiet (fail); try go_wp2)
    go_meet
    case rel => exact ⟨_, (true), (by first | rfl | (simp; done) | (simp [*]; done)), H', ⟨by first | omega | exact Nat.le_refl _⟩, ⟨by (with_reducible repeat (first | apply Kd.R_alloc | apply Kd.R_drewN | apply Kd.R_drew)); exact Kd.R_mono HO443.out (fun _ hk => ⟨hk.1.1, hk.2⟩)⟩, ⟨by (with_reducible repeat (first | apply Kd.R_alloc | apply Kd.R_drewN | apply Kd.R_drew)); exact Kd.R_mono HO447.out (fun _ hk => ⟨hk.1.1, hk.2⟩)⟩, ⟨by (with_reducible repeat (first | refine blk_drewN ?_ _ | refine blk_drew ?_ | refine blk_alloc ?_ _)); exact BK436.out⟩, ⟨by repeat (first | (with_reducible first | exact HB.out | apply below_alloc | apply pw_below_drewN | apply below_drew1 | refine below_set ?_ GE436.out) | exact HB.out)⟩⟩
  case rest =>
   clear HC8
   try clear c1
   try clear c2
   try clear p2
   try clear c5
   try clear c5b0
   try clear c5b1
   try clear c19
   try clear hcz10_0
   try clear hcz10_1
   try clear hcz15_0
   try clear hcz15_1
   try clear hcz17_0
   try clear hcz17_1
   try clear hfz10_0
   try clear hfz10_1
   try clear hfz15_0
   try clear hfz15_1
   try clear hfz17_0
   try clear hfz17_1
   obtain ⟨kq, x39_7, rfl, HA, HJ7, HO_9, HO_11, BK436, HB⟩ := hcut
   cases kq with
   | zero => exact absurd HA.out (by simp [spec_AreEquivalent.j0])
   | succ kj7 =>
    have H := HA.out
    clear HA
    simp only [spec_AreEquivalent.j0] at H
    by_cases c20 : x39_7 = true
    ·subst c20
     have H1 : (some (false, 5)) = some (r1, r2) := by rw [if_pos rfl] at H; exact H
     clear H
     have H := H1
     clear H1
     simp only [Option.some.injEq, Prod.mk.injEq] at H
     obtain ⟨rfl, rfl⟩ := H
     go_wp2
     repeat (go_quiet (fail); try go_wp2)
     go_ret2
     exact ⟨by first | rfl | (simp [errW_none, errW_some] <;> rfl) | (simp [*, errW_none, errW_some] <;> rfl), by repeat (first | (with_reducible first | exact HB.out | apply below_alloc | apply pw_below_drewN | apply below_drew1 | refine below_set ?_ GE436.out) | exact HB.out)⟩
    ·replace c20 := Bool.eq_false_iff.mpr c20
     subst c20
     have H1 : (if (t441.length : Int) = (t445.length : Int) then (spec_AreEquivalent.l0 kj7 t441 t445 0) else (some (false, 0))) = some (r1, r2) := by rw [if_neg (show ¬ (false = true) by decide)] at H; exact H
     clear H
     have H := H1
     clear H1
     by_cases c21 : (t441.length : Int) = (t445.length : Int)
     ·rw [if_pos c21] at H
      have c21b0 : ((t441.length : Int) == (t445.length : Int)) = true := beq_iff_eq.mpr c21
      have c21b1 : ((t441.length : Int) != (t445.length : Int)) = false := bne_eq_false_iff_eq.mpr c21
      have c21b2 : (t441.length == t445.length) = true := by first | simpa using c21 | (simp at c21 ⊢; omega)
      clear c21
      have H' := Aside0.mk H
      clear H
      obtain ⟨Ao22, co22, eo22⟩ := Kd.R_slice HO_9.out
      subst eo22
      obtain ⟨Ao23, co23, eo23⟩ := Kd.R_slice HO_11.out
      subst eo23
      go_wp2
      repeat (go_quiet (fail); try go_wp2)
      go_loopg [13] kj7 (fun kq v13 w' => ∃ (x13_2 : Int), v13 = .int .i64 x13_2 ∧ Aside0 (spec_AreEquivalent.l0 kq t441 t445 x13_2 = some (r1, r2)) ∧ Aside0 (kq ≤ kj7) ∧ Aside0 (Kd.R k53 53 w' w.heap.size (fun k_ => (w.heap.size ≤ k_) ∧ some k_ ≠ ((.slice Ao23 t445.length co23) : Value).ownBlock) (.slice Ao22 t441.length co22) t441) ∧ Aside0 (Kd.R k53 53 w' w.heap.size (fun k_ => (w.heap.size ≤ k_) ∧ some k_ ≠ ((.slice Ao22 t441.length co22) : Value).ownBlock) (.slice Ao23 t445.length co23) t445) ∧ Aside0 (w'.heap[gb436]? = some (.cells #[.int .i64 a0_0, (.slice A0_1 l0_1.length c0_1)] 30 (0, 0))) ∧ Aside0 (Below w.heap.size w w'))
      case atStart => exact ⟨(0), (by first | rfl | (simp; done) | (simp [*]; done)), H', ⟨Nat.le_refl _⟩, ⟨by (with_reducible repeat (first | apply Kd.R_alloc | apply Kd.R_drewN | apply Kd.R_drew)); exact HO_9.out⟩, ⟨by (with_reducible repeat (first | apply Kd.R_alloc | apply Kd.R_drewN | apply Kd.R_drew)); exact HO_11.out⟩, ⟨by (with_reducible repeat (first | refine blk_drewN ?_ _ | refine blk_drew ?_ | refine blk_alloc ?_ _)); exact BK436.out⟩, ⟨by repeat (first | (with_reducible first | exact HB.out | apply below_alloc | apply pw_below_drewN | apply below_drew1 | refine below_set ?_ GE436.out) | exact HB.out)⟩⟩
      case round =>
       clear H'
       try clear c1
       try clear c2
       try clear p2
       try clear c5
       try clear c5b0
       try clear c5b1
       try clear c19
       try clear c20
       try clear c21
       try clear c21b0
       try clear c21b1
       try clear c21b2
       try clear hcz10_0
       try clear hcz10_1
       try clear hcz15_0
       try clear hcz15_1
       try clear hcz17_0
       try clear hcz17_1
       try clear hfz10_0
       try clear hfz10_1
       try clear hfz15_0
       try clear hfz15_1
       try clear hfz17_0
       try clear hfz17_1
       try clear p2
       obtain ⟨x13_2, rfl, HA, HK2, HO_9, HO_11, BK436, HB⟩ := hrel
       cases gk with
       | zero => exact absurd HA.out (by simp [spec_AreEquivalent.l0])
       | succ k2 =>
        have H := HA.out
        clear HA
        simp only [spec_AreEquivalent.l0] at H
        by_cases c24 : x13_2 < (t441.length : Int)
        ·rw [if_pos c24] at H
         have c24b0 : decide (x13_2 < (t441.length : Int)) = true := decide_eq_true c24
         clear c24
         by_cases c25 : 0 ≤ x13_2
         ·rw [if_pos c25] at H
          have c25b0 : decide (0 ≤ x13_2) = true := decide_eq_true c25
          clear c25
          by_cases c26 : x13_2 < (t445.length : Int)
          ·rw [if_pos c26] at H
           have c26b0 : decide (x13_2 < (t445.length : Int)) = true := decide_eq_true c26
           clear c26
           by_cases c27 : (!(((rd_T53 t441 x13_2).f0) == ((rd_T53 t445 x13_2).f0)) || (!(((rd_T53 t441 x13_2).f1) == ((rd_T53 t445 x13_2).f1)))) = true
           ·rw [if_pos c27] at H
            have c27b0 : (!(((rd_T53 t441 x13_2).f0) == ((rd_T53 t445 x13_2).f0)) || (!(((rd_T53 t441 x13_2).f1) == ((rd_T53 t445 x13_2).f1)))) = true := c27
            clear c27
            simp only [Option.some.injEq, Prod.mk.injEq] at H
            obtain ⟨rfl, rfl⟩ := H
            have p449 : 0 ≤ (x13_2 : Int) := of_decide_eq_true (by first | (with_reducible assumption) | assumption)
            have q449 : x13_2 < (t441.length : Int) := of_decide_eq_true (by first | (with_reducible assumption) | assumption)
            obtain ⟨ad449, e449, hx449_0, hx449_1⟩ := at_T53 (Kd.R_reads' HO_9.out).2.2 x13_2 p449 q449
            cases e449
            replace p449 := eq_true p449
            replace q449 := eq_true q449
            have p450 : 0 ≤ (x13_2 : Int) := of_decide_eq_true (by first | (with_reducible assumption) | assumption)
            have q450 : x13_2 < (t445.length : Int) := of_decide_eq_true (by first | (with_reducible assumption) | assumption)
            obtain ⟨ad450, e450, hx450_0, hx450_1⟩ := at_T53 (Kd.R_reads' HO_11.out).2.2 x13_2 p450 q450
            cases e450
            replace p450 := eq_true p450
            replace q450 := eq_true q450
            go_wp2
            repeat (go_quiet (fail); try go_wp2)
            go_ret2
            exact ⟨by first | rfl | (simp [errW_none, errW_some] <;> rfl) | (simp [*, errW_none, errW_some] <;> rfl), by repeat (first | (with_reducible first | exact HB.out | apply below_alloc | apply pw_below_drewN | apply below_drew1 | refine below_set ?_ GE436.out) | exact HB.out)⟩
           ·rw [if_neg c27] at H
            have c27b0 : (!(((rd_T53 t441 x13_2).f0) == ((rd_T53 t445 x13_2).f0)) || (!(((rd_T53 t441 x13_2).f1) == ((rd_T53 t445 x13_2).f1)))) = false := by simpa using c27
            clear c27
            have H' := Aside0.mk H
            clear H
            have p449 : 0 ≤ (x13_2 : Int) := of_decide_eq_true (by first | (with_reducible assumption) | assumption)
            have q449 : x13_2 < (t441.length : Int) := of_decide_eq_true (by first | (with_reducible assumption) | assumption)
            obtain ⟨ad449, e449, hx449_0, hx449_1⟩ := at_T53 (Kd.R_reads' HO_9.out).2.2 x13_2 p449 q449
            cases e449
            replace p449 := eq_true p449
            replace q449 := eq_true q449
            have p450 : 0 ≤ (x13_2 : Int) := of_decide_eq_true (by first | (with_reducible assumption) | assumption)
            have q450 : x13_2 < (t445.length : Int) := of_decide_eq_true (by first | (with_reducible assumption) | assumption)
            obtain ⟨ad450, e450, hx450_0, hx450_1⟩ := at_T53 (Kd.R_reads' HO_11.out).2.2 x13_2 p450 q450
            cases e450
            replace p450 := eq_true p450
            replace q450 := eq_true q450
            go_wp2
            repeat (go_quiet (fail); try go_wp2)
            go_roundg k2
            case measure => have := HJ7.out; have := HK2.out; omega
            case rel => exact ⟨(wrap64 (x13_2 + 1)), (by first | rfl | (simp; done) | (simp [*]; done)), H', ⟨by have := HJ7.out; have := HK2.out; omega⟩, ⟨by (with_reducible repeat (first | apply Kd.R_alloc | apply Kd.R_drewN | apply Kd.R_drew)); exact HO_9.out⟩, ⟨by (with_reducible repeat (first | apply Kd.R_alloc | apply Kd.R_drewN | apply Kd.R_drew)); exact HO_11.out⟩, ⟨by (with_reducible repeat (first | refine blk_drewN ?_ _ | refine blk_drew ?_ | refine blk_alloc ?_ _)); exact BK436.out⟩, ⟨by repeat (first | (with_reducible first | exact HB.out | apply below_alloc | apply pw_below_drewN | apply below_drew1 | refine below_set ?_ GE436.out) | exact HB.out)⟩⟩
          ·rw [if_neg c26] at H
           exact absurd H (by simp)
         ·rw [if_neg c25] at H
          exact absurd H (by simp)
        ·rw [if_neg c24] at H
         have c24b0 : decide (x13_2 < (t441.length : Int)) = false := decide_eq_false c24
         clear c24
         simp only [Option.some.injEq, Prod.mk.injEq] at H
         obtain ⟨rfl, rfl⟩ := H
         go_wp2
         repeat (go_quiet (fail); try go_wp2)
         go_ret2
         exact ⟨by first | rfl | (simp [errW_none, errW_some] <;> rfl) | (simp [*, errW_none, errW_some] <;> rfl), by repeat (first | (with_reducible first | exact HB.out | apply below_alloc | apply pw_below_drewN | apply below_drew1 | refine below_set ?_ GE436.out) | exact HB.out)⟩
     ·rw [if_neg c21] at H
      have c21b0 : ((t441.length : Int) == (t445.length : Int)) = false := beq_eq_false_iff_ne.mpr c21
      have c21b1 : ((t441.length : Int) != (t445.length : Int)) = true := bne_iff_ne.mpr c21
      have c21b2 : (t441.length == t445.length) = false := by first | simpa using c21 | (simp at c21 ⊢; omega)
      simp only [Option.some.injEq, Prod.mk.injEq] at H
      obtain ⟨rfl, rfl⟩ := H
      obtain ⟨Ao28, co28, eo28⟩ := Kd.R_slice HO_9.out
      subst eo28
      obtain ⟨Ao29, co29, eo29⟩ := Kd.R_slice HO_11.out
      subst eo29
      go_wp2
      repeat (go_quiet (fail); try go_wp2)
      go_ret2
      exact ⟨by first | rfl | (simp [errW_none, errW_some] <;> rfl) | (simp [*, errW_none, errW_some] <;> rfl), by repeat (first | (with_reducible first | exact HB.out | apply below_alloc | apply pw_below_drewN | apply below_drew1 | refine below_set ?_ GE436.out) | exact HB.out)⟩
 ·rw [if_neg c5] at H
  have c5b0 : (t440 == 0) = false := beq_eq_false_iff_ne.mpr c5
  have c5b1 : (t440 != 0) = true := bne_iff_ne.mpr c5
  simp only [Option.some.injEq, Prod.mk.injEq] at H
  obtain ⟨rfl, rfl⟩ := H
  go_enter Try.func53, Try.ntmps53
  go_wp2_with (first | ((with_reducible refine gate_dst (N := 3) rfl ?_); refine box_event ?hg (N := 3) ?hd (cs := #[.int .i64 a0_0, .slice A0_1 l0_1.length c0_1]) (t := 30) ?hr ?_; (case hd => rfl); (case hg => rfl); (case hr => first | (go_simp; done) | (go_simp; rfl)); intro gb436 hg w30 hbox hb; have n0_ := Aside0.mk (Kd.V_below (Kd.V_elderB (by (with_reducible repeat (first | apply Kd.V_alloc | apply Kd.V_drewN | apply Kd.V_drew)); exact HO1.out) gb436 (Nat.le_of_eq hg.symm)) hb); have n1_ := Aside0.mk (Kd.V_below (Kd.V_elderB (by (with_reducible repeat (first | apply Kd.V_alloc | apply Kd.V_drewN | apply Kd.V_drew)); exact HO2.out) gb436 (Nat.le_of_eq hg.symm)) hb); have n2_ := Aside0.mk (below_step (by repeat (first | (with_reducible first | exact HB.out | apply below_alloc | apply pw_below_drewN | apply below_drew1) | exact HB.out)) hb); have n3_ := Aside0.mk (hbox); have n4_ := Aside0.mk ((by rw [hg]; exact (below_size (by repeat (first | (with_reducible first | exact HB.out | apply below_alloc | apply pw_below_drewN | apply below_drew1) | exact HB.out))) : w.heap.size ≤ gb436)); have n5_ := Aside0.mk ((by rw [hg]; exact (below_size (by repeat (first | (with_reducible first | exact HB.out | apply below_alloc | apply pw_below_drewN | apply below_drew1) | exact HB.out))) : w.heap.size ≤ gb436)); clear HO1; clear HO2; clear HB; have HO1 := n0_; have HO2 := n1_; have HB := n2_; have BK436 := n3_; have GW436 := n4_; have GE436 := n5_; clear n0_ n1_ n2_ n3_ n4_ n5_; clear hb hbox hg; have hcz31_0 : w30.cell? ⟨gb436, 0, none⟩ = some (.int .i64 a0_0) := (blk_cell BK436.out 0).trans rfl; have hcz31_1 : w30.cell? ⟨gb436, 1, none⟩ = some (.slice A0_1 l0_1.length c0_1) := (blk_cell BK436.out 1).trans rfl; have hfz31_0 := blk_frozen BK436.out 0; have hfz31_1 := blk_frozen BK436.out 1) | ((with_reducible refine gate_dst (N := 17) rfl ?_); refine Kd.N_lit (Kd.slice 2 (Kd.int .i64)) _ 22 ?hg (N' := 17) ?hd (xs := ([l1, l2] : List (List Int))) (inner := [.slice A1 l1.length c1, .slice A2 l2.length c2]) (ok := (fun k_ => ((P1_ k_ ∨ P2_ k_) ∨ w.heap.size ≤ k_) ∧ k_ ≠ gb436)) (okp := (fun k_ => ((P1_ k_ ∨ P2_ k_) ∨ w.heap.size ≤ k_) ∧ k_ ≠ gb436)) ?hr ?hp (fun _ hk => hk) ((show ∀ k_, w30.heap.size ≤ k_ → (fun k_ => ((P1_ k_ ∨ P2_ k_) ∨ w.heap.size ≤ k_) ∧ k_ ≠ gb436) k_ from fun k_ hk => ⟨(.inr (Nat.le_trans (below_size (by repeat (first | (with_reducible first | exact HB.out | apply below_alloc | apply pw_below_drewN | apply below_drew1 | refine below_set ?_ GE436.out) | exact HB.out))) hk)), Kd.freshB (g := gb436) (o := .cells #[.int .i64 a0_0, .slice A0_1 l0_1.length c0_1] 30 (0, 0)) (by (with_reducible repeat (first | refine blk_drewN ?_ _ | refine blk_drew ?_ | refine blk_alloc ?_ _)); exact BK436.out) k_ hk⟩) _ (Nat.le_refl _)) (Below.refl _ _) (Nat.le_refl _) (by simp) ?_; (case hd => rfl); (case hg => rfl); (case hr => first | (go_simp; done) | (go_simp; rfl)); (case hp => exact (Reps.one (show Kd.FK (Kd.slice 2 (Kd.int .i64)) _ _ l1 [.slice A1 l1.length c1] from (Kd.FK_slice_mk (Kd.V_reads' (Kd.V_mono (ok' := (fun k_ => ((P1_ k_ ∨ P2_ k_) ∨ w.heap.size ≤ k_) ∧ k_ ≠ gb436)) (HO1.out) (fun k_ hk => ⟨hk.1, hk.2⟩))).2.1 (Kd.V_F (Kd.V_mono (ok' := (fun k_ => ((P1_ k_ ∨ P2_ k_) ∨ w.heap.size ≤ k_) ∧ k_ ≠ gb436)) (HO1.out) (fun k_ hk => ⟨hk.1, hk.2⟩))))) (Reps.one (show Kd.FK (Kd.slice 2 (Kd.int .i64)) _ _ l2 [.slice A2 l2.length c2] from (Kd.FK_slice_mk (Kd.V_reads' (Kd.V_mono (ok' := (fun k_ => ((P1_ k_ ∨ P2_ k_) ∨ w.heap.size ≤ k_) ∧ k_ ≠ gb436)) (HO2.out) (fun k_ hk => ⟨hk.1, hk.2⟩))).2.1 (Kd.V_F (Kd.V_mono (ok' := (fun k_ => ((P1_ k_ ∨ P2_ k_) ∨ w.heap.size ≤ k_) ∧ k_ ≠ gb436)) (HO2.out) (fun k_ hk => ⟨hk.1, hk.2⟩))))) (Reps.none _ _)))); intro v438 w32 ho33 hb hg_ hnew_; clear hg_ hnew_; (first | rw [← Ny437.out] at ho33 | (simp only [Int.reduceToNat] at ho33; rw [← Ny437.out] at ho33)); have n0_ := Aside0.mk (Kd.V_elder' (by (with_reducible repeat (first | apply Kd.V_alloc | apply Kd.V_drewN | apply Kd.V_drew)); exact HO1.out) (Kd.N_base ho33) hb); have n1_ := Aside0.mk (Kd.V_elder' (by (with_reducible repeat (first | apply Kd.V_alloc | apply Kd.V_drewN | apply Kd.V_drew)); exact HO2.out) (Kd.N_base ho33) hb); have n2_ := Aside0.mk (Kd.N_lower ho33 (below_size (by repeat (first | (with_reducible first | exact HB.out | apply below_alloc | apply pw_below_drewN | apply below_drew1 | refine below_set ?_ GE436.out) | exact HB.out)))); have n3_ := Aside0.mk (blk_below (g := gb436) (o := .cells #[.int .i64 a0_0, .slice A0_1 l0_1.length c0_1] 30 (0, 0)) (by (with_reducible repeat (first | refine blk_drewN ?_ _ | refine blk_drew ?_ | refine blk_alloc ?_ _)); exact BK436.out) hb); have n4_ := Aside0.mk (below_step (by repeat (first | (with_reducible first | exact HB.out | apply below_alloc | apply pw_below_drewN | apply below_drew1 | refine below_set ?_ GE436.out) | exact HB.out)) hb); clear HO1; clear HO2; clear BK436; clear HB; have HO1 := n0_; have HO2 := n1_; have HO439 := n2_; have BK436 := n3_; have HB := n4_; clear n0_ n1_ n2_ n3_ n4_; clear hb ho33; obtain ⟨Ao34, co34, eo34⟩ := Kd.N_slice HO439.out; subst eo34) | (go_at_call 89; (with_reducible refine (spec_l04Code.calls k a0_0 _ _ l0_1 _ _ y437 t440 _ ?side1 ?side2 ?side3 ?side4 A4.out).mono ?_); (case side1 => repeat (first | exact (Kd.C_below HR0_1.out HB.out) | (with_reducible refine Kd.C_alloc ?_ _) | (with_reducible refine Kd.C_drewN ?_ _) | (with_reducible refine Kd.C_drew ?_))); (case side2 => exact HC0_1.out); (case side3 => repeat (first | exact (Kd.N_reads' HO439.out).2.2 | (with_reducible refine Kd.C_alloc ?_ _) | (with_reducible refine Kd.C_drewN ?_ _) | (with_reducible refine Kd.C_drew ?_))); (case side4 => exact (Kd.N_reads' HO439.out).2.1); rintro e w35 ⟨rfl, hb⟩; have n0_ := Aside0.mk (Kd.V_below (by (with_reducible repeat (first | apply Kd.V_alloc | apply Kd.V_drewN | apply Kd.V_drew)); exact HO1.out) hb); have n1_ := Aside0.mk (Kd.V_below (by (with_reducible repeat (first | apply Kd.V_alloc | apply Kd.V_drewN | apply Kd.V_drew)); exact HO2.out) hb); have n2_ := Aside0.mk (Kd.N_below (by (with_reducible repeat (first | apply Kd.N_alloc | apply Kd.N_drewN | apply Kd.N_drew)); exact HO439.out) hb); have n3_ := Aside0.mk (blk_below (g := gb436) (o := .cells #[.int .i64 a0_0, .slice A0_1 l0_1.length c0_1] 30 (0, 0)) (by (with_reducible repeat (first | refine blk_drewN ?_ _ | refine blk_drew ?_ | refine blk_alloc ?_ _)); exact BK436.out) hb); have n4_ := Aside0.mk (below_step (by repeat (first | (with_reducible first | exact HB.out | apply below_alloc | apply pw_below_drewN | apply below_drew1 | refine below_set ?_ GE436.out) | exact HB.out)) hb); clear HO1; clear HO2; clear HO439; clear BK436; clear HB; have HO1 := n0_; have HO2 := n1_; have HO439 := n2_; have BK436 := n3_; have HB := n4_; clear n0_ n1_ n2_ n3_ n4_; (try clear hb); (try clear hb2); (try clear hk); (try clear hi)))
  repeat (go_quiet (first | ((with_reducible refine gate_dst (N := 3) rfl ?_); refine box_event ?hg (N := 3) ?hd (cs := #[.int .i64 a0_0, .slice A0_1 l0_1.length c0_1]) (t := 30) ?hr ?_; (case hd => rfl); (case hg => rfl); (case hr => first | (go_simp; done) | (go_simp; rfl)); intro gb436 hg w30 hbox hb; have n0_ := Aside0.mk (Kd.V_below (Kd.V_elderB (by (with_reducible repeat (first | apply Kd.V_alloc | apply Kd.V_drewN | apply Kd.V_drew)); exact HO1.out) gb436 (Nat.le_of_eq hg.symm)) hb); have n1_ := Aside0.mk (Kd.V_below (Kd.V_elderB (by (with_reducible repeat (first | apply Kd.V_alloc | apply Kd.V_drewN | apply Kd.V_drew)); exact HO2.out) gb436 (Nat.le_of_eq hg.symm)) hb); have n2_ := Aside0.mk (below_step (by repeat (first | (with_reducible first | exact HB.out | apply below_alloc | apply pw_below_drewN | apply below_drew1) | exact HB.out)) hb); have n3_ := Aside0.mk (hbox); have n4_ := Aside0.mk ((by rw [hg]; exact (below_size (by repeat (first | (with_reducible first | exact HB.out | apply below_alloc | apply pw_below_drewN | apply below_drew1) | exact HB.out))) : w.heap.size ≤ gb436)); have n5_ := Aside0.mk ((by rw [hg]; exact (below_size (by repeat (first | (with_reducible first | exact HB.out | apply below_alloc | apply pw_below_drewN | apply below_drew1) | exact HB.out))) : w.heap.size ≤ gb436)); clear HO1; clear HO2; clear HB; have HO1 := n0_; have HO2 := n1_; have HB := n2_; have BK436 := n3_; have GW436 := n4_; have GE436 := n5_; clear n0_ n1_ n2_ n3_ n4_ n5_; clear hb hbox hg; have hcz31_0 : w30.cell? ⟨gb436, 0, none⟩ = some (.int .i64 a0_0) := (blk_cell BK436.out 0).trans rfl; have hcz31_1 : w30.cell? ⟨gb436, 1, none⟩ = some (.slice A0_1 l0_1.length c0_1) := (blk_cell BK436.out 1).trans rfl; have hfz31_0 := blk_frozen BK436.out 0; have hfz31_1 := blk_frozen BK436.out 1) | ((with_reducible refine gate_dst (N := 17) rfl ?_); refine Kd.N_lit (Kd.slice 2 (Kd.int .i64)) _ 22 ?hg (N' := 17) ?hd (xs := ([l1, l2] : List (List Int))) (inner := [.slice A1 l1.length c1, .slice A2 l2.length c2]) (ok := (fun k_ => ((P1_ k_ ∨ P2_ k_) ∨ w.heap.size ≤ k_) ∧ k_ ≠ gb436)) (okp := (fun k_ => ((P1_ k_ ∨ P2_ k_) ∨ w.heap.size ≤ k_) ∧ k_ ≠ gb436)) ?hr ?hp (fun _ hk => hk) ((show ∀ k_, w30.heap.size ≤ k_ → (fun k_ => ((P1_ k_ ∨ P2_ k_) ∨ w.heap.size ≤ k_) ∧ k_ ≠ gb436) k_ from fun k_ hk => ⟨(.inr (Nat.le_trans (below_size (by repeat (first | (with_reducible first | exact HB.out | apply below_alloc | apply pw_below_drewN | apply below_drew1 | refine below_set ?_ GE436.out) | exact HB.out))) hk)), Kd.freshB (g := gb436) (o := .cells #[.int .i64 a0_0, .slice A0_1 l0_1.length c0_1] 30 (0, 0)) (by (with_reducible repeat (first | refine blk_drewN ?_ _ | refine blk_drew ?_ | refine blk_alloc ?_ _)); exact BK436.out) k_ hk⟩) _ (Nat.le_refl _)) (Below.refl _ _) (Nat.le_refl _) (by simp) ?_; (case hd => rfl); (case hg => rfl); (case hr => first | (go_simp; done) | (go_simp; rfl)); (case hp => exact (Reps.one (show Kd.FK (Kd.slice 2 (Kd.int .i64)) _ _ l1 [.slice A1 l1.length c1] from (Kd.FK_slice_mk (Kd.V_reads' (Kd.V_mono (ok' := (fun k_ => ((P1_ k_ ∨ P2_ k_) ∨ w.heap.size ≤ k_) ∧ k_ ≠ gb436)) (HO1.out) (fun k_ hk => ⟨hk.1, hk.2⟩))).2.1 (Kd.V_F (Kd.V_mono (ok' := (fun k_ => ((P1_ k_ ∨ P2_ k_) ∨ w.heap.size ≤ k_) ∧ k_ ≠ gb436)) (HO1.out) (fun k_ hk => ⟨hk.1, hk.2⟩))))) (Reps.one (show Kd.FK (Kd.slice 2 (Kd.int .i64)) _ _ l2 [.slice A2 l2.length c2] from (Kd.FK_slice_mk (Kd.V_reads' (Kd.V_mono (ok' := (fun k_ => ((P1_ k_ ∨ P2_ k_) ∨ w.heap.size ≤ k_) ∧ k_ ≠ gb436)) (HO2.out) (fun k_ hk => ⟨hk.1, hk.2⟩))).2.1 (Kd.V_F (Kd.V_mono (ok' := (fun k_ => ((P1_ k_ ∨ P2_ k_) ∨ w.heap.size ≤ k_) ∧ k_ ≠ gb436)) (HO2.out) (fun k_ hk => ⟨hk.1, hk.2⟩))))) (Reps.none _ _)))); intro v438 w32 ho33 hb hg_ hnew_; clear hg_ hnew_; (first | rw [← Ny437.out] at ho33 | (simp only [Int.reduceToNat] at ho33; rw [← Ny437.out] at ho33)); have n0_ := Aside0.mk (Kd.V_elder' (by (with_reducible repeat (first | apply Kd.V_alloc | apply Kd.V_drewN | apply Kd.V_drew)); exact HO1.out) (Kd.N_base ho33) hb); have n1_ := Aside0.mk (Kd.V_elder' (by (with_reducible repeat (first | apply Kd.V_alloc | apply Kd.V_drewN | apply Kd.V_drew)); exact HO2.out) (Kd.N_base ho33) hb); have n2_ := Aside0.mk (Kd.N_lower ho33 (below_size (by repeat (first | (with_reducible first | exact HB.out | apply below_alloc | apply pw_below_drewN | apply below_drew1 | refine below_set ?_ GE436.out) | exact HB.out)))); have n3_ := Aside0.mk (blk_below (g := gb436) (o := .cells #[.int .i64 a0_0, .slice A0_1 l0_1.length c0_1] 30 (0, 0)) (by (with_reducible repeat (first | refine blk_drewN ?_ _ | refine blk_drew ?_ | refine blk_alloc ?_ _)); exact BK436.out) hb); have n4_ := Aside0.mk (below_step (by repeat (first | (with_reducible first | exact HB.out | apply below_alloc | apply pw_below_drewN | apply below_drew1 | refine below_set ?_ GE436.out) | exact HB.out)) hb); clear HO1; clear HO2; clear BK436; clear HB; have HO1 := n0_; have HO2 := n1_; have HO439 := n2_; have BK436 := n3_; have HB := n4_; clear n0_ n1_ n2_ n3_ n4_; clear hb ho33; obtain ⟨Ao34, co34, eo34⟩ := Kd.N_slice HO439.out; subst eo34) | (go_at_call 89; (with_reducible refine (spec_l04Code.calls k a0_0 _ _ l0_1 _ _ y437 t440 _ ?side1 ?side2 ?side3 ?side4 A4.out).mono ?_); (case side1 => repeat (first | exact (Kd.C_below HR0_1.out HB.out) | (with_reducible refine Kd.C_alloc ?_ _) | (with_reducible refine Kd.C_drewN ?_ _) | (with_reducible refine Kd.C_drew ?_))); (case side2 => exact HC0_1.out); (case side3 => repeat (first | exact (Kd.N_reads' HO439.out).2.2 | (with_reducible refine Kd.C_alloc ?_ _) | (with_reducible refine Kd.C_drewN ?_ _) | (with_reducible refine Kd.C_drew ?_))); (case side4 => exact (Kd.N_reads' HO439.out).2.1); rintro e w35 ⟨rfl, hb⟩; have n0_ := Aside0.mk (Kd.V_below (by (with_reducible repeat (first | apply Kd.V_alloc | apply Kd.V_drewN | apply Kd.V_drew)); exact HO1.out) hb); have n1_ := Aside0.mk (Kd.V_below (by (with_reducible repeat (first | apply Kd.V_alloc | apply Kd.V_drewN | apply Kd.V_drew)); exact HO2.out) hb); have n2_ := Aside0.mk (Kd.N_below (by (with_reducible repeat (first | apply Kd.N_alloc | apply Kd.N_drewN | apply Kd.N_drew)); exact HO439.out) hb); have n3_ := Aside0.mk (blk_below (g := gb436) (o := .cells #[.int .i64 a0_0, .slice A0_1 l0_1.length c0_1] 30 (0, 0)) (by (with_reducible repeat (first | refine blk_drewN ?_ _ | refine blk_drew ?_ | refine blk_alloc ?_ _)); exact BK436.out) hb); have n4_ := Aside0.mk (below_step (by repeat (first | (with_reducible first | exact HB.out | apply below_alloc | apply pw_below_drewN | apply below_drew1 | refine below_set ?_ GE436.out) | exact HB.out)) hb); clear HO1; clear HO2; clear HO439; clear BK436; clear HB; have HO1 := n0_; have HO2 := n1_; have HO439 := n2_; have BK436 := n3_; have HB := n4_; clear n0_ n1_ n2_ n3_ n4_; (try clear hb); (try clear hb2); (try clear hk); (try clear hi))); try go_wp2_with (first | ((with_reducible refine gate_dst (N := 3) rfl ?_); refine box_event ?hg (N := 3) ?hd (cs := #[.int .i64 a0_0, .slice A0_1 l0_1.length c0_1]) (t := 30) ?hr ?_; (case hd => rfl); (case hg => rfl); (case hr => first | (go_simp; done) | (go_simp; rfl)); intro gb436 hg w30 hbox hb; have n0_ := Aside0.mk (Kd.V_below (Kd.V_elderB (by (with_reducible repeat (first | apply Kd.V_alloc | apply Kd.V_drewN | apply Kd.V_drew)); exact HO1.out) gb436 (Nat.le_of_eq hg.symm)) hb); have n1_ := Aside0.mk (Kd.V_below (Kd.V_elderB (by (with_reducible repeat (first | apply Kd.V_alloc | apply Kd.V_drewN | apply Kd.V_drew)); exact HO2.out) gb436 (Nat.le_of_eq hg.symm)) hb); have n2_ := Aside0.mk (below_step (by repeat (first | (with_reducible first | exact HB.out | apply below_alloc | apply pw_below_drewN | apply below_drew1) | exact HB.out)) hb); have n3_ := Aside0.mk (hbox); have n4_ := Aside0.mk ((by rw [hg]; exact (below_size (by repeat (first | (with_reducible first | exact HB.out | apply below_alloc | apply pw_below_drewN | apply below_drew1) | exact HB.out))) : w.heap.size ≤ gb436)); have n5_ := Aside0.mk ((by rw [hg]; exact (below_size (by repeat (first | (with_reducible first | exact HB.out | apply below_alloc | apply pw_below_drewN | apply below_drew1) | exact HB.out))) : w.heap.size ≤ gb436)); clear HO1; clear HO2; clear HB; have HO1 := n0_; have HO2 := n1_; have HB := n2_; have BK436 := n3_; have GW436 := n4_; have GE436 := n5_; clear n0_ n1_ n2_ n3_ n4_ n5_; clear hb hbox hg; have hcz31_0 : w30.cell? ⟨gb436, 0, none⟩ = some (.int .i64 a0_0) := (blk_cell BK436.out 0).trans rfl; have hcz31_1 : w30.cell? ⟨gb436, 1, none⟩ = some (.slice A0_1 l0_1.length c0_1) := (blk_cell BK436.out 1).trans rfl; have hfz31_0 := blk_frozen BK436.out 0; have hfz31_1 := blk_frozen BK436.out 1) | ((with_reducible refine gate_dst (N := 17) rfl ?_); refine Kd.N_lit (Kd.slice 2 (Kd.int .i64)) _ 22 ?hg (N' := 17) ?hd (xs := ([l1, l2] : List (List Int))) (inner := [.slice A1 l1.length c1, .slice A2 l2.length c2]) (ok := (fun k_ => ((P1_ k_ ∨ P2_ k_) ∨ w.heap.size ≤ k_) ∧ k_ ≠ gb436)) (okp := (fun k_ => ((P1_ k_ ∨ P2_ k_) ∨ w.heap.size ≤ k_) ∧ k_ ≠ gb436)) ?hr ?hp (fun _ hk => hk) ((show ∀ k_, w30.heap.size ≤ k_ → (fun k_ => ((P1_ k_ ∨ P2_ k_) ∨ w.heap.size ≤ k_) ∧ k_ ≠ gb436) k_ from fun k_ hk => ⟨(.inr (Nat.le_trans (below_size (by repeat (first | (with_reducible first | exact HB.out | apply below_alloc | apply pw_below_drewN | apply below_drew1 | refine below_set ?_ GE436.out) | exact HB.out))) hk)), Kd.freshB (g := gb436) (o := .cells #[.int .i64 a0_0, .slice A0_1 l0_1.length c0_1] 30 (0, 0)) (by (with_reducible repeat (first | refine blk_drewN ?_ _ | refine blk_drew ?_ | refine blk_alloc ?_ _)); exact BK436.out) k_ hk⟩) _ (Nat.le_refl _)) (Below.refl _ _) (Nat.le_refl _) (by simp) ?_; (case hd => rfl); (case hg => rfl); (case hr => first | (go_simp; done) | (go_simp; rfl)); (case hp => exact (Reps.one (show Kd.FK (Kd.slice 2 (Kd.int .i64)) _ _ l1 [.slice A1 l1.length c1] from (Kd.FK_slice_mk (Kd.V_reads' (Kd.V_mono (ok' := (fun k_ => ((P1_ k_ ∨ P2_ k_) ∨ w.heap.size ≤ k_) ∧ k_ ≠ gb436)) (HO1.out) (fun k_ hk => ⟨hk.1, hk.2⟩))).2.1 (Kd.V_F (Kd.V_mono (ok' := (fun k_ => ((P1_ k_ ∨ P2_ k_) ∨ w.heap.size ≤ k_) ∧ k_ ≠ gb436)) (HO1.out) (fun k_ hk => ⟨hk.1, hk.2⟩))))) (Reps.one (show Kd.FK (Kd.slice 2 (Kd.int .i64)) _ _ l2 [.slice A2 l2.length c2] from (Kd.FK_slice_mk (Kd.V_reads' (Kd.V_mono (ok' := (fun k_ => ((P1_ k_ ∨ P2_ k_) ∨ w.heap.size ≤ k_) ∧ k_ ≠ gb436)) (HO2.out) (fun k_ hk => ⟨hk.1, hk.2⟩))).2.1 (Kd.V_F (Kd.V_mono (ok' := (fun k_ => ((P1_ k_ ∨ P2_ k_) ∨ w.heap.size ≤ k_) ∧ k_ ≠ gb436)) (HO2.out) (fun k_ hk => ⟨hk.1, hk.2⟩))))) (Reps.none _ _)))); intro v438 w32 ho33 hb hg_ hnew_; clear hg_ hnew_; (first | rw [← Ny437.out] at ho33 | (simp only [Int.reduceToNat] at ho33; rw [← Ny437.out] at ho33)); have n0_ := Aside0.mk (Kd.V_elder' (by (with_reducible repeat (first | apply Kd.V_alloc | apply Kd.V_drewN | apply Kd.V_drew)); exact HO1.out) (Kd.N_base ho33) hb); have n1_ := Aside0.mk (Kd.V_elder' (by (with_reducible repeat (first | apply Kd.V_alloc | apply Kd.V_drewN | apply Kd.V_drew)); exact HO2.out) (Kd.N_base ho33) hb); have n2_ := Aside0.mk (Kd.N_lower ho33 (below_size (by repeat (first | (with_reducible first | exact HB.out | apply below_alloc | apply pw_below_drewN | apply below_drew1 | refine below_set ?_ GE436.out) | exact HB.out)))); have n3_ := Aside0.mk (blk_below (g := gb436) (o := .cells #[.int .i64 a0_0, .slice A0_1 l0_1.length c0_1] 30 (0, 0)) (by (with_reducible repeat (first | refine blk_drewN ?_ _ | refine blk_drew ?_ | refine blk_alloc ?_ _)); exact BK436.out) hb); have n4_ := Aside0.mk (below_step (by repeat (first | (with_reducible first | exact HB.out | apply below_alloc | apply pw_below_drewN | apply below_drew1 | refine below_set ?_ GE436.out) | exact HB.out)) hb); clear HO1; clear HO2; clear BK436; clear HB; have HO1 := n0_; have HO2 := n1_; have HO439 := n2_; have BK436 := n3_; have HB := n4_; clear n0_ n1_ n2_ n3_ n4_; clear hb ho33; obtain ⟨Ao34, co34, eo34⟩ := Kd.N_slice HO439.out; subst eo34) | (go_at_call 89; (with_reducible refine (spec_l04Code.calls k a0_0 _ _ l0_1 _ _ y437 t440 _ ?side1 ?side2 ?side3 ?side4 A4.out).mono ?_); (case side1 => repeat (first | exact (Kd.C_below HR0_1.out HB.out) | (with_reducible refine Kd.C_alloc ?_ _) | (with_reducible refine Kd.C_drewN ?_ _) | (with_reducible refine Kd.C_drew ?_))); (case side2 => exact HC0_1.out); (case side3 => repeat (first | exact (Kd.N_reads' HO439.out).2.2 | (with_reducible refine Kd.C_alloc ?_ _) | (with_reducible refine Kd.C_drewN ?_ _) | (with_reducible refine Kd.C_drew ?_))); (case side4 => exact (Kd.N_reads' HO439.out).2.1); rintro e w35 ⟨rfl, hb⟩; have n0_ := Aside0.mk (Kd.V_below (by (with_reducible repeat (first | apply Kd.V_alloc | apply Kd.V_drewN | apply Kd.V_drew)); exact HO1.out) hb); have n1_ := Aside0.mk (Kd.V_below (by (with_reducible repeat (first | apply Kd.V_alloc | apply Kd.V_drewN | apply Kd.V_drew)); exact HO2.out) hb); have n2_ := Aside0.mk (Kd.N_below (by (with_reducible repeat (first | apply Kd.N_alloc | apply Kd.N_drewN | apply Kd.N_drew)); exact HO439.out) hb); have n3_ := Aside0.mk (blk_below (g := gb436) (o := .cells #[.int .i64 a0_0, .slice A0_1 l0_1.length c0_1] 30 (0, 0)) (by (with_reducible repeat (first | refine blk_drewN ?_ _ | refine blk_drew ?_ | refine blk_alloc ?_ _)); exact BK436.out) hb); have n4_ := Aside0.mk (below_step (by repeat (first | (with_reducible first | exact HB.out | apply below_alloc | apply pw_below_drewN | apply below_drew1 | refine below_set ?_ GE436.out) | exact HB.out)) hb); clear HO1; clear HO2; clear HO439; clear BK436; clear HB; have HO1 := n0_; have HO2 := n1_; have HO439 := n2_; have BK436 := n3_; have HB := n4_; clear n0_ n1_ n2_ n3_ n4_; (try clear hb); (try clear hb2); (try clear hk); (try clear hi))))
  go_ret2
  exact ⟨by first | rfl | (simp [errW_none, errW_some] <;> rfl) | (simp [*, errW_none, errW_some] <;> rfl), by repeat (first | (with_reducible first | exact HB.out | apply below_alloc | apply pw_below_drewN | apply below_drew1 | refine below_set ?_ GE436.out) | exact HB.out)⟩

end Go.Proofs.Ytniikppojffiaaa.Q
end

section
/- Written by a program of this session (myprint.py over the kit's print). -/
namespace Go.Proofs.Ytniikppojffiaaa.Q
open Go.RowKit Go.Proofs.YtniikppojffiaaaW.PrintWords Go.Proofs.YtniikppojffiaaaW.PrintLast Go.Proofs.YtniikppojffiaaaW.PrintMore
attribute [local go_sem] max2_int min2_int max_two min_two max_three min_three max_four min_four   -- for this text's walks alone
set_option linter.unusedVariables false
set_option linter.unusedSimpArgs false

/-! ### impl_Complex_pairs: function 84 -/
mutual
def impl_Complex_pairs.l0 : Nat → List (S53) → List Int → Int → Int → Int → List Int → Option ((List (S53)))
 | 0, _, _, _, _, _, _ => none
 | k + 1, x3, x10, x11, x12, x622000, x622001 => if x12 < x11 then (if 0 ≤ x12 then (if x12 < (x10.length : Int) then (impl_Complex_pairs.l1 k x3 (rd x10 x12) x10 x11 x12 x622001 (x622001.length : Int) 0 x622000 x622001) else (none)) else (none)) else (some x3)
def impl_Complex_pairs.l1 : Nat → List (S53) → Int → List Int → Int → Int → List Int → Int → Int → Int → List Int → Option ((List (S53)))
 | 0, _, _, _, _, _, _, _, _, _, _ => none
 | k + 1, x3, x5, x10, x11, x12, x17, x18, x19, x622000, x622001 => if x19 < x18 then (if 0 ≤ x19 then (if x19 < (x17.length : Int) then ((impl_Complex_isPair.f k x622000 x622001 x5 (rd x17 x19)).bind fun t625 => (if t625 = true then (if x3.length < 8796093022208 then (impl_Complex_pairs.l1 k (x3 ++ [(⟨x5, rd x17 x19⟩ : S53)]) x5 x10 x11 x12 x17 x18 (wrap64 (x19 + 1)) x622000 x622001) else (none)) else (impl_Complex_pairs.l1 k x3 x5 x10 x11 x12 x17 x18 (wrap64 (x19 + 1)) x622000 x622001))) else (none)) else (none)) else (impl_Complex_pairs.l0 k x3 x10 x11 (wrap64 (x12 + 1)) x622000 x622001)
end
def impl_Complex_pairs.f (k : Nat) (a0_0 : Int) (l0_1 : List Int) : Option ((List (S53))) := impl_Complex_pairs.l0 k ([] : List (S53)) l0_1 (l0_1.length : Int) 0 a0_0 l0_1
theorem impl_Complex_pairs.mono_l : ∀ k, (∀ y0 y1 y2 y3 y4 y5, LeO (impl_Complex_pairs.l0 k y0 y1 y2 y3 y4 y5) (impl_Complex_pairs.l0 (k + 1) y0 y1 y2 y3 y4 y5)) ∧ (∀ y0 y1 y2 y3 y4 y5 y6 y7 y8 y9, LeO (impl_Complex_pairs.l1 k y0 y1 y2 y3 y4 y5 y6 y7 y8 y9) (impl_Complex_pairs.l1 (k + 1) y0 y1 y2 y3 y4 y5 y6 y7 y8 y9))
 | 0 => ⟨fun _ _ _ _ _ _ r h => by simp [impl_Complex_pairs.l0] at h, fun _ _ _ _ _ _ _ _ _ _ r h => by simp [impl_Complex_pairs.l1] at h⟩
 | k + 1 => by
  obtain ⟨ih0, ih1⟩ := impl_Complex_pairs.mono_l k
  refine ⟨?_, ?_⟩
  ·intro y0 y1 y2 y3 y4 y5
   unfold impl_Complex_pairs.l0
   repeat' first
   | (with_reducible exact ih0 _ _ _ _ _ _)
   | (with_reducible exact ih1 _ _ _ _ _ _ _ _ _ _)
   | (with_reducible exact impl_Complex_isPair.mono _ _ _ _ _)
   | (with_reducible exact LeO.refl _)
   | (with_reducible exact LeO.none _)
   | (with_reducible refine LeO.ite ?_ ?_)
   | (with_reducible refine LeO.bind ?_ (fun _ => ?_))
   | exact ih0 _ _ _ _ _ _
   | exact ih1 _ _ _ _ _ _ _ _ _ _
   | exact impl_Complex_isPair.mono _ _ _ _ _
   | exact LeO.none _
   | refine LeO.ite ?_ ?_
   | refine LeO.bind ?_ (fun _ => ?_)
  ·intro y0 y1 y2 y3 y4 y5 y6 y7 y8 y9
   unfold impl_Complex_pairs.l1
   repeat' first
   | (with_reducible exact ih0 _ _ _ _ _ _)
   | (with_reducible exact ih1 _ _ _ _ _ _ _ _ _ _)
   | (with_reducible exact impl_Complex_isPair.mono _ _ _ _ _)
   | (with_reducible exact LeO.refl _)
   | (with_reducible exact LeO.none _)
   | (with_reducible refine LeO.ite ?_ ?_)
   | (with_reducible refine LeO.bind ?_ (fun _ => ?_))
   | exact ih0 _ _ _ _ _ _
   | exact ih1 _ _ _ _ _ _ _ _ _ _
   | exact impl_Complex_isPair.mono _ _ _ _ _
   | exact LeO.none _
   | refine LeO.ite ?_ ?_
   | refine LeO.bind ?_ (fun _ => ?_)
theorem impl_Complex_pairs.mono : ∀ a0 a1 k, LeO (impl_Complex_pairs.f k a0 a1) (impl_Complex_pairs.f (k + 1) a0 a1) := by
 intro a0 a1 k
 obtain ⟨ih0, ih1⟩ := impl_Complex_pairs.mono_l k
 unfold impl_Complex_pairs.f
 repeat' first
   | (with_reducible exact ih0 _ _ _ _ _ _)
   | (with_reducible exact ih1 _ _ _ _ _ _ _ _ _ _)
   | (with_reducible exact impl_Complex_isPair.mono _ _ _ _ _)
   | (with_reducible exact LeO.refl _)
   | (with_reducible exact LeO.none _)
   | (with_reducible refine LeO.ite ?_ ?_)
   | (with_reducible refine LeO.bind ?_ (fun _ => ?_))
   | exact ih0 _ _ _ _ _ _
   | exact ih1 _ _ _ _ _ _ _ _ _ _
   | exact impl_Complex_isPair.mono _ _ _ _ _
   | exact LeO.none _
   | refine LeO.ite ?_ ?_
   | refine LeO.bind ?_ (fun _ => ?_)
set_option maxHeartbeats 8000000 in
set_option maxRecDepth 100000 in
theorem impl_Complex_pairs.calls (k : Nat) (a0_0 : Int) (A0_1 : Option Addr) (c0_1 : Nat) (l0_1 : List Int) (r : List (S53)) (w : World) (hr0_1 : Kd.C (Kd.int .i64) w A0_1 l0_1.length l0_1) (hc0_1 : l0_1.length ≤ c0_1) (h : impl_Complex_pairs.f k a0_0 l0_1 = some r) :
  Calls Try.prog 84 #[.agg #[.int .i64 a0_0, .slice A0_1 l0_1.length c0_1]] w fun e w' => ∃ v0_ : Value, e = .returned (v0_) ∧ Kd.R k53 53 w' w.heap.size (fun _ => True) v0_ r ∧ Below w.heap.size w w' := by
 have hu30 := Try.underlying30
 have hu53 := Try.underlying53
 have HR0_1 := Aside0.mk hr0_1
 have HC0_1 := Aside0.mk hc0_1
 clear hr0_1 hc0_1
 have HB := Aside0.mk (Below.refl w.heap.size w)
 have H : (impl_Complex_pairs.l0 k ([] : List (S53)) l0_1 (l0_1.length : Int) 0 a0_0 l0_1) = some r := h
 clear h
 have H' := Aside0.mk H
 clear H
 go_enter Try.func84, Try.ntmps84
 go_wp2_with (first | ((with_reducible refine gate_dst (N := 1) rfl ?_); refine box_event ?hg (N := 1) ?hd (cs := #[.int .i64 a0_0, .slice A0_1 l0_1.length c0_1]) (t := 30) ?hr ?_; (case hd => rfl); (case hg => rfl); (case hr => first | (go_simp; done) | (go_simp; rfl)); intro gb621 hg w2 hbox hb; have n0_ := Aside0.mk (below_step (by repeat (first | (with_reducible first | exact HB.out | apply below_alloc | apply pw_below_drewN | apply below_drew1) | exact HB.out)) hb); have n1_ := Aside0.mk (hbox); have n2_ := Aside0.mk ((by rw [hg]; exact (below_size (by repeat (first | (with_reducible first | exact HB.out | apply below_alloc | apply pw_below_drewN | apply below_drew1) | exact HB.out))) : w.heap.size ≤ gb621)); have n3_ := Aside0.mk ((by rw [hg]; exact (below_size (by repeat (first | (with_reducible first | exact HB.out | apply below_alloc | apply pw_below_drewN | apply below_drew1) | exact HB.out))) : w.heap.size ≤ gb621)); clear HB; have HB := n0_; have BK621 := n1_; have GW621 := n2_; have GE621 := n3_; clear n0_ n1_ n2_ n3_; clear hb hbox hg; have hcz3_0 : w2.cell? ⟨gb621, 0, none⟩ = some (.int .i64 a0_0) := (blk_cell BK621.out 0).trans rfl; have hcz3_1 : w2.cell? ⟨gb621, 1, none⟩ = some (.slice A0_1 l0_1.length c0_1) := (blk_cell BK621.out 1).trans rfl; have hfz3_0 := blk_frozen BK621.out 0; have hfz3_1 := blk_frozen BK621.out 1))
 go_loopg [3, 12] k (fun kq v3 v12 w' => ∃ (x3_1 : List (S53)) (x12_1 : Int), v12 = .int .i64 x12_1 ∧ Aside0 (impl_Complex_pairs.l0 kq x3_1 l0_1 (l0_1.length : Int) x12_1 a0_0 l0_1 = some r) ∧ Aside0 (kq ≤ k) ∧ Aside0 (Kd.R k53 53 w' w.heap.size (fun _ => True) v3 x3_1) ∧ Aside0 (w'.heap[gb621]? = some (.cells #[.int .i64 a0_0, (.slice A0_1 l0_1.length c0_1)] 30 (0, 0))) ∧ Aside0 (Below w.heap.size w w'))
 case atStart => exact ⟨(([] : List (S53))), (0), (by first | rfl | (simp; done) | (simp [*]; done)), H', ⟨Nat.le_refl _⟩, ⟨by first | exact Kd.R_nil _ _ _ _ _ | exact Kd.N_nil _ _ _ _ _ | exact Kd.V_nil _ _ _ _ _ | exact Kd.Q_nil _ _ _ _ _ | exact Kd.S_nil _ _ _ _ _⟩, ⟨by (with_reducible repeat (first | refine blk_drewN ?_ _ | refine blk_drew ?_ | refine blk_alloc ?_ _)); exact BK621.out⟩, ⟨by repeat (first | (with_reducible first | exact HB.out | apply below_alloc | apply pw_below_drewN | apply below_drew1 | refine below_set ?_ GE621.out) | exact HB.out)⟩⟩
 case round =>
  clear H'
  try clear p2
  try clear hcz3_0
  try clear hcz3_1
  try clear hfz3_0
  try clear hfz3_1
  obtain ⟨x3_1, x12_1, rfl, HA, HK1, HO_3, BK621, HB⟩ := hrel
  cases gk with
  | zero => exact absurd HA.out (by simp [impl_Complex_pairs.l0])
  | succ k1 =>
   have H := HA.out
   clear HA
   simp only [impl_Complex_pairs.l0] at H
   by_cases c4 : x12_1 < (l0_1.length : Int)
   ·rw [if_pos c4] at H
    have c4b0 : decide (x12_1 < (l0_1.length : Int)) = true := decide_eq_true c4
    clear c4
    by_cases c5 : 0 ≤ x12_1
    ·rw [if_pos c5] at H
     have c5b0 : decide (0 ≤ x12_1) = true := decide_eq_true c5
     clear c5
     by_cases c6 : x12_1 < (l0_1.length : Int)
     ·rw [if_pos c6] at H
      have c6b0 : decide (x12_1 < (l0_1.length : Int)) = true := decide_eq_true c6
      clear c6
      have H' := Aside0.mk H
      clear H
      have p622 : 0 ≤ (x12_1 : Int) := of_decide_eq_true (by first | (with_reducible assumption) | assumption)
      have q622 : x12_1 < (l0_1.length : Int) := of_decide_eq_true (by first | (with_reducible assumption) | assumption)
      obtain ⟨ad622, e622, hx622_0⟩ := Kd.at_int HR0_1.out x12_1 p622 q622
      cases e622
      replace hx622_0 := (HB.out.cell (World.block_lt_of_cell? w _ hx622_0)).trans hx622_0
      replace p622 := eq_true p622
      replace q622 := eq_true q622
      have hcz7_0 : wr.cell? ⟨gb621, 0, none⟩ = some (.int .i64 a0_0) := (blk_cell BK621.out 0).trans rfl
      have hcz7_1 : wr.cell? ⟨gb621, 1, none⟩ = some (.slice (some ad622) l0_1.length c0_1) := (blk_cell BK621.out 1).trans rfl
      have hfz7_0 := blk_frozen BK621.out 0
      have hfz7_1 := blk_frozen BK621.out 1
      go_wp2
      go_loopg [3, 19] k1 (fun kq v3 v19 w' => ∃ (x3_2 : List (S53)) (x19_2 : Int), v19 = .int .i64 x19_2 ∧ Aside0 (impl_Complex_pairs.l1 kq x3_2 (rd l0_1 x12_1) l0_1 (l0_1.length : Int) x12_1 l0_1 (l0_1.length : Int) x19_2 a0_0 l0_1 = some r) ∧ Aside0 (kq ≤ k1) ∧ Aside0 (Kd.R k53 53 w' w.heap.size (fun _ => True) v3 x3_2) ∧ Aside0 (w'.heap[gb621]? = some (.cells #[.int .i64 a0_0, (.slice (some ad622) l0_1.length c0_1)] 30 (0, 0))) ∧ Aside0 (Below w.heap.size w w'))
      case atStart => exact ⟨(x3_1), (0), (by first | rfl | (simp; done) | (simp [*]; done)), H', ⟨Nat.le_refl _⟩, ⟨by (with_reducible repeat (first | apply Kd.R_alloc | apply Kd.R_drewN | apply Kd.R_drew)); exact HO_3.out⟩, ⟨by (with_reducible repeat (first | refine blk_drewN ?_ _ | refine blk_drew ?_ | refine blk_alloc ?_ _)); exact BK621.out⟩, ⟨by repeat (first | (with_reducible first | exact HB.out | apply below_alloc | apply pw_below_drewN | apply below_drew1 | refine below_set ?_ GE621.out) | exact HB.out)⟩⟩
      case round =>
       clear H'
       try clear p2
       try clear c4
       try clear c4b0
       try clear c5
       try clear c5b0
       try clear c6
       try clear c6b0
       try clear p6
       try clear q6
       try clear hx6
       try clear hcz3_0
       try clear hcz3_1
       try clear hcz7_0
       try clear hcz7_1
       try clear hfz3_0
       try clear hfz3_1
       try clear hfz7_0
       try clear hfz7_1
       try clear hx622_0
       try clear p2
       try clear p622
       try clear q622
       obtain ⟨x3_2, x19_2, rfl, HA, HK2, HO_3, BK621, HB⟩ := hrel
       cases gk with
       | zero => exact absurd HA.out (by simp [impl_Complex_pairs.l1])
       | succ k2 =>
        have H := HA.out
        clear HA
        simp only [impl_Complex_pairs.l1] at H
        by_cases c8 : x19_2 < (l0_1.length : Int)
        ·rw [if_pos c8] at H
         have c8b0 : decide (x19_2 < (l0_1.length : Int)) = true := decide_eq_true c8
         clear c8
         by_cases c9 : 0 ≤ x19_2
         ·rw [if_pos c9] at H
          have c9b0 : decide (0 ≤ x19_2) = true := decide_eq_true c9
          clear c9
          by_cases c10 : x19_2 < (l0_1.length : Int)
          ·rw [if_pos c10] at H
           have c10b0 : decide (x19_2 < (l0_1.length : Int)) = true := decide_eq_true c10
           clear c10
           replace H := Option.bind_eq_some_iff.mp H
           obtain ⟨t625, A110, H⟩ := H
           replace H : (if t625 = true then (if x3_2.length < 8796093022208 then (impl_Complex_pairs.l1 k2 (x3_2 ++ [(⟨(rd l0_1 x12_1), rd l0_1 x19_2⟩ : S53)]) (rd l0_1 x12_1) l0_1 (l0_1.length : Int) x12_1 l0_1 (l0_1.length : Int) (wrap64 (x19_2 + 1)) a0_0 l0_1) else (none)) else (impl_Complex_pairs.l1 k2 x3_2 (rd l0_1 x12_1) l0_1 (l0_1.length : Int) x12_1 l0_1 (l0_1.length : Int) (wrap64 (x19_2 + 1)) a0_0 l0_1)) = some r := H
           have A11 := Aside0.mk A110
           clear A110
           by_cases c12 : t625 = true
           ·subst c12
            have H1 : (if x3_2.length < 8796093022208 then (impl_Complex_pairs.l1 k2 (x3_2 ++ [(⟨(rd l0_1 x12_1), rd l0_1 x19_2⟩ : S53)]) (rd l0_1 x12_1) l0_1 (l0_1.length : Int) x12_1 l0_1 (l0_1.length : Int) (wrap64 (x19_2 + 1)) a0_0 l0_1) else (none)) = some r := by rw [if_pos rfl] at H; exact H
            clear H
            have H := H1
            clear H1
            by_cases c13 : x3_2.length < 8796093022208
            ·rw [if_pos c13] at H
             have LMc13 := Aside0.mk c13
             clear c13
             obtain ⟨y626, hy626⟩ : ∃ y_ : List (S53), y_ = (x3_2 ++ [(⟨(rd l0_1 x12_1), rd l0_1 x19_2⟩ : S53)]) := ⟨_, rfl⟩
             replace H : (impl_Complex_pairs.l1 k2 y626 (rd l0_1 x12_1) l0_1 (l0_1.length : Int) x12_1 l0_1 (l0_1.length : Int) (wrap64 (x19_2 + 1)) a0_0 l0_1) = some r := by first | (rw [hy626]; with_reducible exact H) | (have H2_ := (Option.bind_some _ _).symm.trans H; rw [hy626]; with_reducible exact H2_) | (have H2_ := (Option.bind_some _ _).symm.trans H; with_reducible exact H2_) | with_reducible exact H | (rw [hy626]; exact H) | exact H
             have Ny626 := Aside0.mk hy626
             clear hy626
             have H' := Aside0.mk H
             clear H
             have p623 : 0 ≤ (x19_2 : Int) := of_decide_eq_true (by first | (with_reducible assumption) | assumption)
             have q623 : x19_2 < (l0_1.length : Int) := of_decide_eq_true (by first | (with_reducible assumption) | assumption)
             obtain ⟨ad623, e623, hx623_0⟩ := Kd.at_int HR0_1.out x19_2 p623 q623
             obtain rfl : ad622 = ad623 := (by injection e623)
             replace hx623_0 := (HB.out.cell (World.block_lt_of_cell? w _ hx623_0)).trans hx623_0
             replace p623 := eq_true p623
             replace q623 := eq_true q623
             go_wp2_with (first | ((with_reducible refine gate_dst (N := 8) rfl ?_); refine box_event ?hg (N := 8) ?hd (cs := #[.int .i64 0, .int .i64 0]) (t := 53) ?hr ?_; (case hd => rfl); (case hg => rfl); (case hr => first | (go_simp; done) | (go_simp; rfl)); intro gb624 hg w14 hbox hb; have n0_ := Aside0.mk (Kd.R_below (Kd.R_elderB (by (with_reducible repeat (first | apply Kd.R_alloc | apply Kd.R_drewN | apply Kd.R_drew)); exact HO_3.out) gb624 (Nat.le_of_eq hg.symm)) hb); have n1_ := Aside0.mk (blk_below (g := gb621) (o := .cells #[.int .i64 a0_0, .slice (some ad622) l0_1.length c0_1] 30 (0, 0)) (by (with_reducible repeat (first | refine blk_drewN ?_ _ | refine blk_drew ?_ | refine blk_alloc ?_ _)); exact BK621.out) hb); have n2_ := Aside0.mk (below_step (by repeat (first | (with_reducible first | exact HB.out | apply below_alloc | apply pw_below_drewN | apply below_drew1 | refine below_set ?_ GE621.out) | exact HB.out)) hb); have n3_ := Aside0.mk (hbox); have n4_ := Aside0.mk ((by rw [hg]; exact (below_size (by repeat (first | (with_reducible first | exact HB.out | apply below_alloc | apply pw_below_drewN | apply below_drew1 | refine below_set ?_ GE621.out) | exact HB.out))) : w.heap.size ≤ gb624)); have n5_ := Aside0.mk ((by rw [hg]; exact (below_size (by repeat (first | (with_reducible first | exact HB.out | apply below_alloc | apply pw_below_drewN | apply below_drew1 | refine below_set ?_ GE621.out) | exact HB.out))) : w.heap.size ≤ gb624)); have n6_ := Aside0.mk ((by rw [hg]; exact Nat.ne_of_lt (blk_lt (g := gb621) (o := .cells #[.int .i64 a0_0, .slice (some ad622) l0_1.length c0_1] 30 (0, 0)) (by (with_reducible repeat (first | refine blk_drewN ?_ _ | refine blk_drew ?_ | refine blk_alloc ?_ _)); exact BK621.out)) : gb621 ≠ gb624)); have n7_ := Aside0.mk ((by rw [hg]; exact Nat.ne_of_gt (blk_lt (g := gb621) (o := .cells #[.int .i64 a0_0, .slice (some ad622) l0_1.length c0_1] 30 (0, 0)) (by (with_reducible repeat (first | refine blk_drewN ?_ _ | refine blk_drew ?_ | refine blk_alloc ?_ _)); exact BK621.out)) : gb624 ≠ gb621)); clear HO_3; clear BK621; clear HB; have HO_3 := n0_; have BK621 := n1_; have HB := n2_; have BK624 := n3_; have GW624 := n4_; have GE624 := n5_; have NB621_624 := n6_; have NB624_621 := n7_; clear n0_ n1_ n2_ n3_ n4_ n5_ n6_ n7_; clear hb hbox hg; have hnb15 := NB624_621.out; have hnc15 := NB621_624.out; have hcz16_0 : w14.cell? ⟨gb624, 0, none⟩ = some (.int .i64 0) := (blk_cell BK624.out 0).trans rfl; have hcz16_1 : w14.cell? ⟨gb624, 1, none⟩ = some (.int .i64 0) := (blk_cell BK624.out 1).trans rfl; have hfz16_0 := blk_frozen BK624.out 0; have hfz16_1 := blk_frozen BK624.out 1; have hcz17_0 : w14.cell? ⟨gb621, 0, none⟩ = some (.int .i64 a0_0) := (blk_cell BK621.out 0).trans rfl; have hcz17_1 : w14.cell? ⟨gb621, 1, none⟩ = some (.slice (some ad622) l0_1.length c0_1) := (blk_cell BK621.out 1).trans rfl; have hfz17_0 := blk_frozen BK621.out 0; have hfz17_1 := blk_frozen BK621.out 1) | ((with_reducible refine gate_callee (f := 88) rfl ?_); refine goesL_ (some 28) rfl rfl Try.func88 (by kernel_rfl) rfl #[.agg #[.int .i64 a0_0, .slice (some ad622) l0_1.length c0_1], .agg #[.int .i64 (rd l0_1 x12_1), .int .i64 (rd l0_1 x19_2)]] rfl (by (try simp only [List.map_toArray, List.map_cons, List.map_nil]); first | done | rfl | (simp only [List.length_drop, List.length_take]; rfl)) ?_; (with_reducible refine (impl_Complex_isPair.calls k2 a0_0 _ _ l0_1 (rd l0_1 x12_1) (rd l0_1 x19_2) true _ ?side1 ?side2 A11.out).mono ?_); (case side1 => exact Kd.C_below HR0_1.out (by repeat (first | (with_reducible first | exact HB.out | apply below_alloc | apply pw_below_drewN | apply below_drew1 | refine below_set ?_ GE621.out | refine below_set ?_ GE624.out) | exact HB.out))); (case side2 => exact HC0_1.out); rintro e w18 ⟨rfl, hb⟩; refine ⟨_, rfl, ?_⟩; have n0_ := Aside0.mk (Kd.R_below (by (with_reducible repeat (first | apply Kd.R_alloc | apply Kd.R_drewN | apply Kd.R_drew)); exact (Kd.R_mono (Kd.R_far (p := ⟨gb624, 1, none⟩) (Kd.R_far (p := ⟨gb624, 0, none⟩) (Kd.R_mono HO_3.out (fun k_ hk => (⟨hk, hk.2⟩ : _ ∧ k_ ≠ gb624))) (fun _ hk => hk.2) (.int .i64 (rd l0_1 x12_1))) (fun _ hk => hk.2) (.int .i64 (rd l0_1 x19_2))) (fun _ h_ => h_.1))) hb); have n1_ := Aside0.mk (blk_below (g := gb621) (o := .cells #[.int .i64 a0_0, .slice (some ad622) l0_1.length c0_1] 30 (0, 0)) (by (with_reducible repeat (first | refine blk_drewN ?_ _ | refine blk_drew ?_ | refine blk_alloc ?_ _)); refine blk_far ?_ NB621_624.out _; (with_reducible repeat (first | refine blk_drewN ?_ _ | refine blk_drew ?_ | refine blk_alloc ?_ _)); refine blk_far ?_ NB621_624.out _; (with_reducible repeat (first | refine blk_drewN ?_ _ | refine blk_drew ?_ | refine blk_alloc ?_ _)); exact BK621.out) hb); have n2_ := Aside0.mk (blk_below (g := gb624) (o := .cells #[.int .i64 (rd l0_1 x12_1), .int .i64 (rd l0_1 x19_2)] 53 (0, 0)) (by (with_reducible repeat (first | refine blk_drewN ?_ _ | refine blk_drew ?_ | refine blk_alloc ?_ _)); refine blk_put (cs := #[.int .i64 (rd l0_1 x12_1), .int .i64 0]) ?_ 1 _ rfl; (with_reducible repeat (first | refine blk_drewN ?_ _ | refine blk_drew ?_ | refine blk_alloc ?_ _)); refine blk_put (cs := #[.int .i64 0, .int .i64 0]) ?_ 0 _ rfl; (with_reducible repeat (first | refine blk_drewN ?_ _ | refine blk_drew ?_ | refine blk_alloc ?_ _)); exact BK624.out) hb); have n3_ := Aside0.mk (below_step (by repeat (first | (with_reducible first | exact HB.out | apply below_alloc | apply pw_below_drewN | apply below_drew1 | refine below_set ?_ GE621.out | refine below_set ?_ GE624.out) | exact HB.out)) hb); clear HO_3; clear BK621; clear BK624; clear HB; have HO_3 := n0_; have BK621 := n1_; have BK624 := n2_; have HB := n3_; clear n0_ n1_ n2_ n3_; (try clear hb); (try clear hb2); (try clear hk); (try clear hi); have hcz19_0 : w18.cell? ⟨gb624, 0, none⟩ = some (.int .i64 (rd l0_1 x12_1)) := (blk_cell BK624.out 0).trans rfl; have hcz19_1 : w18.cell? ⟨gb624, 1, none⟩ = some (.int .i64 (rd l0_1 x19_2)) := (blk_cell BK624.out 1).trans rfl; have hfz19_0 := blk_frozen BK624.out 0; have hfz19_1 := blk_frozen BK624.out 1) | ((with_reducible refine gate_builtin (b := .append) (xs := #[.tmp 29, .tmp 31]) rfl ?_); at_builtin; refine Kd.R_append k53 (w0 := w) w.heap.size rfl (.tmp 29) (.tmp 31) 32 53 (.agg #[(.int .i64 0), (.int .i64 0)]) 16 rfl Try.underlying32 info53 rfl (by decide) (by omega) u3 x3_2 (⟨(rd l0_1 x12_1), rd l0_1 x19_2⟩ : S53) [.int .i64 (rd l0_1 x12_1), .int .i64 (rd l0_1 x19_2)] (fun k_ => k_ ≠ gb624) (fun _ => False) rfl rfl ?aP (fun _ hk => hk.elim) ?aF ?aO ?aB ?aS ?aL ?_; (case aP => exact k53_mkM _ _ _ (⟨(rd l0_1 x12_1), rd l0_1 x19_2⟩ : S53)); (case aB => exact (by repeat (first | (with_reducible first | exact HB.out | apply below_alloc | apply pw_below_drewN | apply below_drew1 | refine below_set ?_ GE621.out | refine below_set ?_ GE624.out) | exact HB.out))); (case aF => exact (fun k_ hk => Kd.freshB (g := gb624) (o := .cells #[.int .i64 (rd l0_1 x12_1), .int .i64 (rd l0_1 x19_2)] 53 (0, 0)) (by (with_reducible repeat (first | refine blk_drewN ?_ _ | refine blk_drew ?_ | refine blk_alloc ?_ _)); exact BK624.out) k_ hk)); (case aO => exact (by (with_reducible repeat (first | apply Kd.R_alloc | apply Kd.R_drewN | apply Kd.R_drew)); exact Kd.R_mono HO_3.out (fun _ hk => hk.2))); (case aS => exact (below_size (by repeat (first | (with_reducible first | exact HB.out | apply below_alloc | apply pw_below_drewN | apply below_drew1 | refine below_set ?_ GE621.out | refine below_set ?_ GE624.out) | exact HB.out)))); (case aL => have := LMc13.out; omega); intro v627 w20 ho hb hg hat; rw [← Ny626.out] at ho; have n0_ := Aside0.mk (blk_grown (g := gb621) (o := .cells #[.int .i64 a0_0, .slice (some ad622) l0_1.length c0_1] 30 (0, 0)) (by (with_reducible repeat (first | refine blk_drewN ?_ _ | refine blk_drew ?_ | refine blk_alloc ?_ _)); exact BK621.out) hg (Kd.R_ne HO_3.out BK621.out (by decide))); have n1_ := Aside0.mk (blk_grown (g := gb624) (o := .cells #[.int .i64 (rd l0_1 x12_1), .int .i64 (rd l0_1 x19_2)] 53 (0, 0)) (by (with_reducible repeat (first | refine blk_drewN ?_ _ | refine blk_drew ?_ | refine blk_alloc ?_ _)); exact BK624.out) hg (Kd.R_away HO_3.out (fun _ hk => hk.2))); have n2_ := Aside0.mk (hb); have n3_ := Aside0.mk (ho); clear BK621; clear BK624; clear HB; clear HO_3; have BK621 := n0_; have BK624 := n1_; have HB := n2_; have HO628 := n3_; clear n0_ n1_ n2_ n3_; clear ho hb hg hat))
             go_roundg k2
             case measure => have := HK1.out; have := HK2.out; omega
             case rel => exact ⟨(y626), (wrap64 (x19_2 + 1)), (by first | rfl | (simp; done) | (simp [*]; done)), H', ⟨by have := HK1.out; have := HK2.out; omega⟩, ⟨by (with_reducible repeat (first | apply Kd.R_alloc | apply Kd.R_drewN | apply Kd.R_drew)); exact Kd.R_mono HO628.out (fun _ hk => trivial)⟩, ⟨by (with_reducible repeat (first | refine blk_drewN ?_ _ | refine blk_drew ?_ | refine blk_alloc ?_ _)); exact BK621.out⟩, ⟨by repeat (first | (with_reducible first | exact HB.out | apply below_alloc | apply pw_below_drewN | apply below_drew1 | refine below_set ?_ GE621.out | refine below_set ?_ GE624.out) | exact HB.out)⟩⟩
            ·rw [if_neg c13] at H
             exact absurd H (by simp)
           ·replace c12 := Bool.eq_false_iff.mpr c12
            subst c12
            have H1 : (impl_Complex_pairs.l1 k2 x3_2 (rd l0_1 x12_1) l0_1 (l0_1.length : Int) x12_1 l0_1 (l0_1.length : Int) (wrap64 (x19_2 + 1)) a0_0 l0_1) = some r := by rw [if_neg (show ¬ (false = true) by decide)] at H; exact H
            clear H
            have H := H1
            clear H1
            have H' := Aside0.mk H
            clear H
            have p623 : 0 ≤ (x19_2 : Int) := of_decide_eq_true (by first | (with_reducible assumption) | assumption)
            have q623 : x19_2 < (l0_1.length : Int) := of_decide_eq_true (by first | (with_reducible assumption) | assumption)
            obtain ⟨ad623, e623, hx623_0⟩ := Kd.at_int HR0_1.out x19_2 p623 q623
            obtain rfl : ad622 = ad623 := (by injection e623)
            replace hx623_0 := (HB.out.cell (World.block_lt_of_cell? w _ hx623_0)).trans hx623_0
            replace p623 := eq_true p623
            replace q623 := eq_true q623
            go_wp2_with (first | ((with_reducible refine gate_dst (N := 8) rfl ?_); refine box_event ?hg (N := 8) ?hd (cs := #[.int .i64 0, .int .i64 0]) (t := 53) ?hr ?_; (case hd => rfl); (case hg => rfl); (case hr => first | (go_simp; done) | (go_simp; rfl)); intro gb624 hg w21 hbox hb; have n0_ := Aside0.mk (Kd.R_below (Kd.R_elderB (by (with_reducible repeat (first | apply Kd.R_alloc | apply Kd.R_drewN | apply Kd.R_drew)); exact HO_3.out) gb624 (Nat.le_of_eq hg.symm)) hb); have n1_ := Aside0.mk (blk_below (g := gb621) (o := .cells #[.int .i64 a0_0, .slice (some ad622) l0_1.length c0_1] 30 (0, 0)) (by (with_reducible repeat (first | refine blk_drewN ?_ _ | refine blk_drew ?_ | refine blk_alloc ?_ _)); exact BK621.out) hb); have n2_ := Aside0.mk (below_step (by repeat (first | (with_reducible first | exact HB.out | apply below_alloc | apply pw_below_drewN | apply below_drew1 | refine below_set ?_ GE621.out) | exact HB.out)) hb); have n3_ := Aside0.mk (hbox); have n4_ := Aside0.mk ((by rw [hg]; exact (below_size (by repeat (first | (with_reducible first | exact HB.out | apply below_alloc | apply pw_below_drewN | apply below_drew1 | refine below_set ?_ GE621.out) | exact HB.out))) : w.heap.size ≤ gb624)); have n5_ := Aside0.mk ((by rw [hg]; exact (below_size (by repeat (first | (with_reducible first | exact HB.out | apply below_alloc | apply pw_below_drewN | apply below_drew1 | refine below_set ?_ GE621.out) | exact HB.out))) : w.heap.size ≤ gb624)); have n6_ := Aside0.mk ((by rw [hg]; exact Nat.ne_of_lt (blk_lt (g := gb621) (o := .cells #[.int .i64 a0_0, .slice (some ad622) l0_1.length c0_1] 30 (0, 0)) (by (with_reducible repeat (first | refine blk_drewN ?_ _ | refine blk_drew ?_ | refine blk_alloc ?_ _)); exact BK621.out)) : gb621 ≠ gb624)); have n7_ := Aside0.mk ((by rw [hg]; exact Nat.ne_of_gt (blk_lt (g := gb621) (o := .cells #[.int .i64 a0_0, .slice (some ad622) l0_1.length c0_1] 30 (0, 0)) (by (with_reducible repeat (first | refine blk_drewN ?_ _ | refine blk_drew ?_ | refine blk_alloc ?_ _)); exact BK621.out)) : gb624 ≠ gb621)); clear HO_3; clear BK621; clear HB; have HO_3 := n0_; have BK621 := n1_; have HB := n2_; have BK624 := n3_; have GW624 := n4_; have GE624 := n5_; have NB621_624 := n6_; have NB624_621 := n7_; clear n0_ n1_ n2_ n3_ n4_ n5_ n6_ n7_; clear hb hbox hg; have hnb22 := NB624_621.out; have hnc22 := NB621_624.out; have hcz23_0 : w21.cell? ⟨gb624, 0, none⟩ = some (.int .i64 0) := (blk_cell BK624.out 0).trans rfl; have hcz23_1 : w21.cell? ⟨gb624, 1, none⟩ = some (.int .i64 0) := (blk_cell BK624.out 1).trans rfl; have hfz23_0 := blk_frozen BK624.out 0; have hfz23_1 := blk_frozen BK624.out 1; have hcz24_0 : w21.cell? ⟨gb621, 0, none⟩ = some (.int .i64 a0_0) := (blk_cell BK621.out 0).trans rfl; have hcz24_1 : w21.cell? ⟨gb621, 1, none⟩ = some (.slice (some ad622) l0_1.length c0_1) := (blk_cell BK621.out 1).trans rfl; have hfz24_0 := blk_frozen BK621.out 0; have hfz24_1 := blk_frozen BK621.out 1) | ((with_reducible refine gate_callee (f := 88) rfl ?_); refine goesL_ (some 28) rfl rfl Try.func88 (by kernel_rfl) rfl #[.agg #[.int .i64 a0_0, .slice (some ad622) l0_1.length c0_1], .agg #[.int .i64 (rd l0_1 x12_1), .int .i64 (rd l0_1 x19_2)]] rfl (by (try simp only [List.map_toArray, List.map_cons, List.map_nil]); first | done | rfl | (simp only [List.length_drop, List.length_take]; rfl)) ?_; (with_reducible refine (impl_Complex_isPair.calls k2 a0_0 _ _ l0_1 (rd l0_1 x12_1) (rd l0_1 x19_2) false _ ?side1 ?side2 A11.out).mono ?_); (case side1 => exact Kd.C_below HR0_1.out (by repeat (first | (with_reducible first | exact HB.out | apply below_alloc | apply pw_below_drewN | apply below_drew1 | refine below_set ?_ GE621.out | refine below_set ?_ GE624.out) | exact HB.out))); (case side2 => exact HC0_1.out); rintro e w25 ⟨rfl, hb⟩; refine ⟨_, rfl, ?_⟩; have n0_ := Aside0.mk (Kd.R_below (by (with_reducible repeat (first | apply Kd.R_alloc | apply Kd.R_drewN | apply Kd.R_drew)); exact (Kd.R_mono (Kd.R_far (p := ⟨gb624, 1, none⟩) (Kd.R_far (p := ⟨gb624, 0, none⟩) (Kd.R_mono HO_3.out (fun k_ hk => (⟨hk, hk.2⟩ : _ ∧ k_ ≠ gb624))) (fun _ hk => hk.2) (.int .i64 (rd l0_1 x12_1))) (fun _ hk => hk.2) (.int .i64 (rd l0_1 x19_2))) (fun _ h_ => h_.1))) hb); have n1_ := Aside0.mk (blk_below (g := gb621) (o := .cells #[.int .i64 a0_0, .slice (some ad622) l0_1.length c0_1] 30 (0, 0)) (by (with_reducible repeat (first | refine blk_drewN ?_ _ | refine blk_drew ?_ | refine blk_alloc ?_ _)); refine blk_far ?_ NB621_624.out _; (with_reducible repeat (first | refine blk_drewN ?_ _ | refine blk_drew ?_ | refine blk_alloc ?_ _)); refine blk_far ?_ NB621_624.out _; (with_reducible repeat (first | refine blk_drewN ?_ _ | refine blk_drew ?_ | refine blk_alloc ?_ _)); exact BK621.out) hb); have n2_ := Aside0.mk (blk_below (g := gb624) (o := .cells #[.int .i64 (rd l0_1 x12_1), .int .i64 (rd l0_1 x19_2)] 53 (0, 0)) (by (with_reducible repeat (first | refine blk_drewN ?_ _ | refine blk_drew ?_ | refine blk_alloc ?_ _)); refine blk_put (cs := #[.int .i64 (rd l0_1 x12_1), .int .i64 0]) ?_ 1 _ rfl; (with_reducible repeat (first | refine blk_drewN ?_ _ | refine blk_drew ?_ | refine blk_alloc ?_ _)); refine blk_put (cs := #[.int .i64 0, .int .i64 0]) ?_ 0 _ rfl; (with_reducible repeat (first | refine blk_drewN ?_ _ | refine blk_drew ?_ | refine blk_alloc ?_ _)); exact BK624.out) hb); have n3_ := Aside0.mk (below_step (by repeat (first | (with_reducible first | exact HB.out | apply below_alloc | apply pw_below_drewN | apply below_drew1 | refine below_set ?_ GE621.out | refine below_set ?_ GE624.out) | exact HB.out)) hb); clear HO_3; clear BK621; clear BK624; clear HB; have HO_3 := n0_; have BK621 := n1_; have BK624 := n2_; have HB := n3_; clear n0_ n1_ n2_ n3_; (try clear hb); (try clear hb2); (try clear hk); (try clear hi)))
            go_roundg k2
            case measure => have := HK1.out; have := HK2.out; omega
            case rel => exact ⟨(x3_2), (wrap64 (x19_2 + 1)), (by first | rfl | (simp; done) | (simp [*]; done)), H', ⟨by have := HK1.out; have := HK2.out; omega⟩, ⟨by (with_reducible repeat (first | apply Kd.R_alloc | apply Kd.R_drewN | apply Kd.R_drew)); exact Kd.R_mono HO_3.out (fun _ hk => trivial)⟩, ⟨by (with_reducible repeat (first | refine blk_drewN ?_ _ | refine blk_drew ?_ | refine blk_alloc ?_ _)); exact BK621.out⟩, ⟨by repeat (first | (with_reducible first | exact HB.out | apply below_alloc | apply pw_below_drewN | apply below_drew1 | refine below_set ?_ GE621.out | refine below_set ?_ GE624.out) | exact HB.out)⟩⟩
          ·rw [if_neg c10] at H
           exact absurd H (by simp)
         ·rw [if_neg c9] at H
          exact absurd H (by simp)
        ·rw [if_neg c8] at H
         have c8b0 : decide (x19_2 < (l0_1.length : Int)) = false := decide_eq_false c8
         clear c8
         have H' := Aside0.mk H
         clear H
         go_wp2
         go_roundg k2
         case measure => have := HK1.out; have := HK2.out; omega
         case rel => exact ⟨(x3_2), (wrap64 (x12_1 + 1)), (by first | rfl | (simp; done) | (simp [*]; done)), H', ⟨by have := HK1.out; have := HK2.out; omega⟩, ⟨by (with_reducible repeat (first | apply Kd.R_alloc | apply Kd.R_drewN | apply Kd.R_drew)); exact HO_3.out⟩, ⟨by (with_reducible repeat (first | refine blk_drewN ?_ _ | refine blk_drew ?_ | refine blk_alloc ?_ _)); exact BK621.out⟩, ⟨by repeat (first | (with_reducible first | exact HB.out | apply below_alloc | apply pw_below_drewN | apply below_drew1 | refine below_set ?_ GE621.out) | exact HB.out)⟩⟩
     ·rw [if_neg c6] at H
      exact absurd H (by simp)
    ·rw [if_neg c5] at H
     exact absurd H (by simp)
   ·rw [if_neg c4] at H
    have c4b0 : decide (x12_1 < (l0_1.length : Int)) = false := decide_eq_false c4
    clear c4
    obtain rfl := Option.some.inj H
    go_wp2
    go_ret
    exact ⟨_, by first | rfl | (simp [errW_none, errW_some] <;> rfl) | (simp [*, errW_none, errW_some] <;> rfl), by (with_reducible repeat (first | apply Kd.R_alloc | apply Kd.R_drewN | apply Kd.R_drew)); exact HO_3.out, by repeat (first | (with_reducible first | exact HB.out | apply below_alloc | apply pw_below_drewN | apply below_drew1 | refine below_set ?_ GE621.out) | exact HB.out)⟩

/-! ### impl_isValue: function 163 -/
def impl_isValue.f (a0 : Int) : Option (Bool) := (impl_within.f a0 (-1000) 1000).bind fun t629 => (some t629)
set_option maxHeartbeats 8000000 in
set_option maxRecDepth 100000 in
theorem impl_isValue.calls (a0 : Int) (r : Bool) (w : World) (h : impl_isValue.f a0 = some r) :
  Calls Try.prog 163 #[.int .i64 a0] w fun e w' => e = .returned (.bool r) ∧ Drawn0 w w' := by
 have H : ((impl_within.f a0 (-1000) 1000).bind fun t629 => (some t629)) = some r := h
 clear h
 replace H := Option.bind_eq_some_iff.mp H
 obtain ⟨t629, A20, H⟩ := H
 replace H : (some t629) = some r := H
 have A2 := Aside0.mk A20
 clear A20
 obtain rfl := Option.some.inj H
 go_enter Try.func163, Try.ntmps163
 go_wp2_with (first | ((with_reducible refine gate_callee (f := 144) rfl ?_); refine goesL_ (some 4) rfl rfl Try.func144 (by kernel_rfl) rfl #[.int .i64 a0, .int .i64 (-1000), .int .i64 1000] rfl (by (try simp only [List.map_toArray, List.map_cons, List.map_nil]); first | done | rfl | (simp only [List.length_drop, List.length_take]; rfl)) ?_; (with_reducible refine (impl_within.calls a0 (-1000) 1000 t629 _ A2.out).mono ?_); rintro e w' ⟨rfl, ⟨nd, rfl⟩⟩; refine ⟨_, rfl, ?_⟩))
 go_ret
 exact ⟨by first | rfl | (simp; done) | (simp [*]; done), by repeat (first | exact Drawn0.refl _ | apply Drawn0.step)⟩

end Go.Proofs.Ytniikppojffiaaa.Q
end

section
/- The reference's answers about Morse functions; all pairs of a complex. -/
namespace Go.Proofs.Ytniikppojffiaaa.K
open Go.RowKit Go.Shelf Go.Proofs.Ytniikppojffiaaa.Q Go.Proofs.YtniikppojffiaaaW.PrintWords Go.Proofs.YtniikppojffiaaaW.PrintLast Go.Proofs.YtniikppojffiaaaW.PrintMore
set_option linter.unusedVariables false
set_option linter.unusedSimpArgs false

theorem specIs04_loop (f : List Int) (hf : f.length ≤ 2097152) : ∀ (e i k : Nat), f.length - i = e → i ≤ f.length → e < k →
    spec_l04Is.l0 k f (i : Int) = some ((f.drop i).all isVal) := by
  intro e
  induction e with
  | zero =>
    intro i k he hi hk
    obtain ⟨k, rfl⟩ : ∃ m, k = m + 1 := ⟨k - 1, by omega⟩
    obtain rfl : i = f.length := by omega
    simp only [spec_l04Is.l0]
    rw [if_neg (by omega), List.drop_eq_nil_of_le (by omega)]
    rfl
  | succ e ih =>
    intro i k he hi hk
    obtain ⟨k, rfl⟩ : ∃ m, k = m + 1 := ⟨k - 1, by omega⟩
    have hil : i < f.length := by omega
    simp only [spec_l04Is.l0]
    rw [if_pos (by omega), if_pos (by omega), rd_nat f i hil, specIn_is, w64 ((i : Int) + 1) (by omega) (by omega), nat_succ, ih (i + 1) k (by omega) (by omega) (by omega), List.drop_eq_getElem_cons hil, List.all_cons]
    simp only [Option.bind_some]
    show (if isVal f[i] = true then _ else _) = _
    cases isVal f[i] <;> simp
theorem specIs04_is (n : Int) (l f : List Int) (hf : f.length ≤ 2097152) (k : Nat) (hk : f.length < k) : spec_l04Is.f k n l f = some (funB l f) := by
  unfold spec_l04Is.f funB
  have := specIs04_loop f hf f.length 0 k (by omega) (by omega) hk
  rw [show ((0 : Nat) : Int) = 0 from rfl, List.drop_zero] at this
  by_cases h : f.length = l.length
  · rw [if_pos (by omega), this]
    simp [h]
  · rw [if_neg (by omega)]
    simp [h]
theorem specCode04_loop (n : Int) (l : List Int) (fs : List (List Int)) (h2 : fs.length ≤ 2) (hf : ∀ f ∈ fs, f.length ≤ 2097152) : ∀ (e i k : Nat), fs.length - i = e → i ≤ fs.length → 2097152 + e + 1 < k →
    spec_l04Code.l0 k fs (i : Int) n l = some (if (fs.drop i).all (funB l) then 0 else 2) := by
  intro e
  induction e with
  | zero =>
    intro i k he hi hk
    obtain ⟨k, rfl⟩ : ∃ m, k = m + 1 := ⟨k - 1, by omega⟩
    obtain rfl : i = fs.length := by omega
    simp only [spec_l04Code.l0]
    rw [if_neg (by omega), List.drop_eq_nil_of_le (by omega)]
    rfl
  | succ e ih =>
    intro i k he hi hk
    obtain ⟨k, rfl⟩ : ∃ m, k = m + 1 := ⟨k - 1, by omega⟩
    have hil : i < fs.length := by omega
    have hrd : rd_L3 fs (i : Int) = fs[i] := by simp [rd_L3, hil]
    have hm := hf _ (List.getElem_mem hil)
    simp only [spec_l04Code.l0]
    rw [if_pos (by omega), if_pos (by omega), hrd, specIs04_is n l fs[i] hm k (by omega), w64 ((i : Int) + 1) (by omega) (by omega), nat_succ, ih (i + 1) k (by omega) (by omega) (by omega), List.drop_eq_getElem_cons hil, List.all_cons]
    simp only [Option.bind_some]
    cases funB l fs[i] <;> simp
theorem specCode04_is (n : Int) (l : List Int) (fs : List (List Int)) (h2 : fs.length ≤ 2) (hl : l.length ≤ 2097152) (hf : ∀ f ∈ fs, f.length ≤ 2097152) (k : Nat) (hk : isK l + 2097160 ≤ k) : spec_l04Code.f k n l fs = some (codeOf n l (fs.all (funB l))) := by
  unfold spec_l04Code.f codeOf
  rw [specIs_is n l hl k (by omega)]
  simp only [Option.bind_some]
  have := specCode04_loop n l fs h2 hf fs.length 0 k (by omega) (by omega) (by omega)
  rw [show ((0 : Nat) : Int) = 0 from rfl, List.drop_zero] at this
  rw [this]
  cases isC n l <;> cases (fs.all (funB l)) <;> rfl
def fK (l : List Int) : Nat := isK l + 20000000
theorem funB_len {l f : List Int} (h : funB l f = true) : f.length = l.length := by
  unfold funB at h
  simp only [Bool.and_eq_true, beq_iff_eq] at h
  exact h.1
theorem funB_val {l f : List Int} (h : funB l f = true) : ∀ x ∈ f, -1000 ≤ x ∧ x ≤ 1000 := by
  unfold funB at h
  simp only [Bool.and_eq_true, List.all_eq_true] at h
  intro x hx
  have := h.2 x hx
  unfold isVal at this
  exact of_decide_eq_true this
/-- The code of Morse functions. -/
def mcode (n : Int) (l : List Int) (b m : Bool) : Int := if codeOf n l b = 0 then (if m then 0 else 5) else codeOf n l b
theorem mcode_zero {n : Int} {l : List Int} {b m : Bool} (h : mcode n l b m = 0) : isC n l = true ∧ b = true ∧ m = true := by
  unfold mcode at h
  by_cases hz : codeOf n l b = 0
  · rw [if_pos hz] at h
    obtain ⟨h1, h2⟩ := codeOf_zero hz
    cases m
    · exact absurd h (by decide)
    · exact ⟨h1, h2, rfl⟩
  · rw [if_neg hz] at h
    exact absurd h hz
theorem fall_len {n : Int} {l f : List Int} (hi : isC n l = true) : (fallL l f).length ≤ 3969 := by
  have h63 := (isC_faces hi).2.2.2
  have : ∀ L : List Int, (L.flatMap fun a => (upC l f a).map fun b => (⟨a, b⟩ : PairT)).length ≤ L.length * 63 := by
    intro L
    induction L with
    | nil => simp
    | cons a L ih =>
      have h1 : (upC l f a).length ≤ l.length := by
        unfold upC
        exact Nat.le_trans (List.length_filter_le _ _) (List.length_filter_le _ _)
      rw [List.flatMap_cons, List.length_append, List.length_map, List.length_cons]
      omega
  rw [fall_flat]
  have := this l
  omega
/-- Two lists of pairs are the same. -/
def eqPL : List PairT → List PairT → Bool
  | [], [] => true
  | p :: q, r :: s => (p.f0 == r.f0 && p.f1 == r.f1) && eqPL q s
  | [], _ :: _ => false
  | _ :: _, [] => false
theorem eqPL_len : ∀ (q r : List PairT), q.length ≠ r.length → eqPL q r = false
  | [], [], h => absurd rfl h
  | [], _ :: _, _ => rfl
  | _ :: _, [], _ => rfl
  | p :: q, r :: s, h => by
    have := eqPL_len q s (by simpa using h)
    simp [eqPL, this]
theorem pairs_eq_loop (q r : List PairT) (hq : q.length ≤ 4000) (hqr : q.length = r.length) : ∀ (e i k : Nat), q.length - i = e → i ≤ q.length → e < k →
    spec_AreEquivalent.l0 k q r (i : Int) = some (eqPL (q.drop i) (r.drop i), 0) := by
  intro e
  induction e with
  | zero =>
    intro i k he hi hk
    obtain ⟨k, rfl⟩ : ∃ m, k = m + 1 := ⟨k - 1, by omega⟩
    obtain rfl : i = q.length := by omega
    simp only [spec_AreEquivalent.l0]
    rw [if_neg (by omega), List.drop_eq_nil_of_le (by omega), List.drop_eq_nil_of_le (by omega)]
    rfl
  | succ e ih =>
    intro i k he hi hk
    obtain ⟨k, rfl⟩ : ∃ m, k = m + 1 := ⟨k - 1, by omega⟩
    have hil : i < q.length := by omega
    have hir : i < r.length := by omega
    simp only [spec_AreEquivalent.l0]
    rw [if_pos (by omega), if_pos (by omega), if_pos (by omega), rdP q i hil, rdP r i hir, w64 ((i : Int) + 1) (by omega) (by omega), nat_succ, ih (i + 1) k (by omega) (by omega) (by omega), List.drop_eq_getElem_cons hil, List.drop_eq_getElem_cons hir]
    rw [eqPL]
    cases h1 : (q[i].f0 == r[i].f0) <;> cases h2 : (q[i].f1 == r[i].f1) <;> simp
def eqvA (n : Int) (l f g : List Int) : Bool := if mcode n l (funB l f && funB l g) (morseB l f && morseB l g) = 0 then eqPL (fallL l f) (fallL l g) else false
theorem specEqv_is (n : Int) (l f g : List Int) (hl : l.length ≤ 2097152) (hf : f.length ≤ 2097152) (hg : g.length ≤ 2097152) (k : Nat) (hk : fK l ≤ k) : spec_AreEquivalent.f k n l f g = some (eqvA n l f g, mcode n l (funB l f && funB l g) (morseB l f && morseB l g)) := by
  unfold fK at hk
  unfold spec_AreEquivalent.f eqvA mcode
  rw [specCode04_is n l [f, g] (by simp) hl (by simpa using ⟨hf, hg⟩) k (by omega)]
  simp only [Option.bind_some, List.all_cons, List.all_nil, Bool.and_true]
  by_cases hz : codeOf n l (funB l f && funB l g) = 0
  · obtain ⟨hi, hb⟩ := codeOf_zero hz
    simp only [Bool.and_eq_true] at hb
    have h1 := fall_len (f := f) hi
    have h2 := fall_len (f := g) hi
    rw [if_pos hz, if_pos hz, specPairs_is hi (funB_len hb.1) k (by omega), specPairs_is hi (funB_len hb.2) k (by omega)]
    simp only [Option.bind_some]
    obtain ⟨k, rfl⟩ : ∃ m, k = m + 1 := ⟨k - 1, by omega⟩
    have HJ : spec_AreEquivalent.j0 (k + 1) (fallL l f) (fallL l g) false = some (eqPL (fallL l f) (fallL l g), 0) := by
      simp only [spec_AreEquivalent.j0]
      rw [if_neg (by simp)]
      by_cases he : (fallL l f).length = (fallL l g).length
      · have := pairs_eq_loop (fallL l f) (fallL l g) (by omega) he (fallL l f).length 0 k (by omega) (by omega) (by omega)
        rw [show ((0 : Nat) : Int) = 0 from rfl, List.drop_zero, List.drop_zero] at this
        rw [if_pos (by omega), this]
      · rw [if_neg (by omega), eqPL_len _ _ he]
    have HT : spec_AreEquivalent.j0 (k + 1) (fallL l f) (fallL l g) true = some (false, 5) := by
      simp only [spec_AreEquivalent.j0, if_true]
    cases morseB l f <;> cases morseB l g <;> simp [HJ, HT]
  · rw [if_neg hz, if_neg hz, if_neg hz]
theorem isPair_le {n a b : Int} {l : List Int} {r : Bool} {m : Nat} (h : impl_Complex_isPair.f m n l a b = some r) : ∀ d, impl_Complex_isPair.f (m + d) n l a b = some r
  | 0 => h
  | d + 1 => impl_Complex_isPair.mono _ _ _ _ _ _ (isPair_le h d)
theorem pairs_l1 {n : Int} {l : List Int} (hi : isC n l = true) (a i : Int) (xs : List Int) : ∀ (e j k : Nat) (out : List PairT), l.length - j = e → j ≤ l.length → e + 100 < k → out.length + e ≤ 100000 →
    impl_Complex_pairs.l1 k out a xs (xs.length : Int) i l (l.length : Int) (j : Int) n l = impl_Complex_pairs.l0 (k - (e + 1)) (out ++ ((l.drop j).filter fun b => pairK l ⟨a, b⟩).map fun b => ⟨a, b⟩) xs (xs.length : Int) (wrap64 (i + 1)) n l := by
  have h63 := (isC_faces hi).2.2.2
  intro e
  induction e with
  | zero =>
    intro j k out he hj hk ho
    obtain ⟨k, rfl⟩ : ∃ m, k = m + 1 := ⟨k - 1, by omega⟩
    obtain rfl : j = l.length := by omega
    simp only [impl_Complex_pairs.l1]
    rw [if_neg (by omega), List.drop_eq_nil_of_le (by omega)]
    simp
  | succ e ih =>
    intro j k out he hj hk ho
    obtain ⟨k, rfl⟩ : ∃ m, k = m + 1 := ⟨k - 1, by omega⟩
    have hjl : j < l.length := by omega
    have hkk : k + 1 - (e + 1 + 1) = k - (e + 1) := by omega
    have HWj : Aside0 (wrap64 ((j : Int) + 1) = ((j + 1 : Nat) : Int)) := ⟨by rw [w64 _ (by omega) (by omega)]; omega⟩
    have HF : Aside0 (impl_Complex_isPair.f k n l a l[j] = some (pairK l ⟨a, l[j]⟩)) := ⟨by
      have := isPair_le (isPair_is hi a l[j]) (k - (l.length + 1))
      rwa [show l.length + 1 + (k - (l.length + 1)) = k by omega] at this⟩
    simp only [impl_Complex_pairs.l1]
    rw [if_pos (by omega), if_pos (by omega), if_pos (by omega), rd_nat l j hjl, HWj.out, HF.out, hkk, List.drop_eq_getElem_cons hjl, List.filter_cons]
    simp only [Option.bind_some]
    cases hb : pairK l ⟨a, l[j]⟩ with
    | true =>
      rw [if_pos rfl, if_pos (by omega), ih (j + 1) k _ (by omega) (by omega) (by omega) (by simp; omega), if_pos rfl, List.map_cons, List.append_assoc]
      rfl
    | false =>
      rw [if_neg (by simp), ih (j + 1) k _ (by omega) (by omega) (by omega) (by omega), if_neg (by simp)]
theorem pairs_l0 {n : Int} {l : List Int} (hi : isC n l = true) : ∀ (e i k : Nat) (out : List PairT), l.length - i = e → i ≤ l.length → e * 65 + 200 < k → out.length ≤ i * 63 →
    impl_Complex_pairs.l0 k out l (l.length : Int) (i : Int) n l = some (out ++ (l.drop i).flatMap fun a => (l.filter fun b => pairK l ⟨a, b⟩).map fun b => ⟨a, b⟩) := by
  have h63 := (isC_faces hi).2.2.2
  intro e
  induction e with
  | zero =>
    intro i k out he hj hk ho
    obtain ⟨k, rfl⟩ : ∃ m, k = m + 1 := ⟨k - 1, by omega⟩
    obtain rfl : i = l.length := by omega
    simp only [impl_Complex_pairs.l0]
    rw [if_neg (by omega), List.drop_eq_nil_of_le (by omega)]
    simp
  | succ e ih =>
    intro i k out he hj hk ho
    obtain ⟨k, rfl⟩ : ∃ m, k = m + 1 := ⟨k - 1, by omega⟩
    have hil : i < l.length := by omega
    have HWi : Aside0 (wrap64 ((i : Int) + 1) = ((i + 1 : Nat) : Int)) := ⟨by rw [w64 _ (by omega) (by omega)]; omega⟩
    have h1 := pairs_l1 hi l[i] (i : Int) l l.length 0 k out (by omega) (by omega) (by omega) (by omega)
    rw [show ((0 : Nat) : Int) = 0 from rfl, List.drop_zero, HWi.out] at h1
    have hfl := List.length_filter_le (fun b => pairK l ⟨l[i], b⟩) l
    simp only [impl_Complex_pairs.l0]
    rw [if_pos (by omega), if_pos (by omega), if_pos (by omega), rd_nat l i hil, h1, ih (i + 1) _ _ (by omega) (by omega) (by omega) (by rw [List.length_append, List.length_map]; omega), List.drop_eq_getElem_cons hil, List.flatMap_cons, List.append_assoc]
theorem pairs_is {n : Int} {l : List Int} (hi : isC n l = true) (k : Nat) (hk : 5000 ≤ k) : impl_Complex_pairs.f k n l = some (pairsL l) := by
  have h63 := (isC_faces hi).2.2.2
  unfold impl_Complex_pairs.f pairsL
  have := pairs_l0 hi l.length 0 k [] (by omega) (by omega) (by omega) (by simp)
  rw [show ((0 : Nat) : Int) = 0 from rfl, List.drop_zero, List.nil_append] at this
  exact this

end Go.Proofs.Ytniikppojffiaaa.K
end

section
/- Sets of numbers as maps from numbers to bools that the call makes. -/
namespace Go.Proofs.Ytniikppojffiaaa.K
open Go.RowKit Go.Shelf Go.Proofs.YtniikppojffiaaaW.PrintWords Go.Proofs.YtniikppojffiaaaW.PrintLast Go.Proofs.YtniikppojffiaaaW.PrintMore
open Go.Maps (Keyed IsMap)
set_option linter.unusedVariables false
set_option linter.unusedSimpArgs false

abbrev TMap : TypeId := 76
theorem keyLaw : Keyed Try.prog 2 := Go.Maps.int_keyed Try.underlying2
theorem zeroBool (w : World) : (zeroValue 4).run Try.prog w = .ok (.bool false) w := by kernel_rfl
/-- How the set changes where x is stored. -/
def upd (S : Int → Bool) (x : Int) (v : Bool) : Int → Bool := fun y => if y = x then v else S y

/-- Block b is a map of at most n entries that reads as the set S. -/
def SetM (w : World) (b n : Nat) (S : Int → Bool) : Prop :=
  ∃ D : DataW Unit, w.ownsMap Try.prog 2 (plainElem Try.prog 4) b n D ∧ IsMap D ∧ ∀ x, (Lit.int .i64 x).wf = true → D.atKey (.int .i64 x) (.lit (.bool false)) = .lit (.bool (S x))
theorem SetM_made (w : World) : SetM (w.alloc (.map #[] 0)) w.heap.size 0 (fun _ => false) := ⟨.map [], World.ownsMap_made _ _ _ _, Go.Maps.isMap_empty, fun x _ => rfl⟩
theorem SetM.lt {w : World} {b n : Nat} {S : Int → Bool} (h : SetM w b n S) : b < w.heap.size := by
  obtain ⟨D, ho, _⟩ := h
  exact ho.lt
theorem SetM.same {w w' : World} {b n : Nat} {S : Int → Bool} (h : SetM w b n S) (he : w'.heap[b]? = w.heap[b]?) : SetM w' b n S := by
  obtain ⟨D, ⟨es, clock, hb, F, hs, hD⟩, h2, h3⟩ := h
  exact ⟨D, ⟨es, clock, he.trans hb, F, hs, hD⟩, h2, h3⟩
theorem SetM.kept {w w' : World} {b n : Nat} {S : Int → Bool} {T : Nat → Prop} (h : SetM w b n S) (hk : Kept w w' T) (hb : ¬ T b) : SetM w' b n S := h.same (hk.2 b h.lt hb)
theorem SetM.later {w w' : World} {b n : Nat} {S : Int → Bool} (h : SetM w b n S) (hg : Grew w w') : SetM w' b n S := h.kept (Kept.of_below hg (fun _ => False)) (fun h => h)
theorem SetM.mono {w : World} {b n m : Nat} {S : Int → Bool} (h : SetM w b n S) (hn : n ≤ m) : SetM w b m S := by
  obtain ⟨D, ho, h2⟩ := h
  exact ⟨D, ho.mono hn, h2⟩
theorem SetM.cong {w : World} {b n : Nat} {S S' : Int → Bool} (h : SetM w b n S) (hs : ∀ x, (Lit.int .i64 x).wf = true → S x = S' x) : SetM w b n S' := by
  obtain ⟨D, ho, h2, h3⟩ := h
  exact ⟨D, ho, h2, fun x hx => by rw [h3 x hx, hs x hx]⟩
theorem boolElem_inv {H : Type} {P : Program} {e : TypeId} (he : P.underlying e = some .bool) {v : Value} {b : Bool} {ps : List MemPlace} (h : plainElem (H := H) P e v = some (.lit (.bool b), ps)) : v = .bool b := by
  unfold plainElem at h
  rw [he] at h
  cases v <;> simp at h
  rw [h.1]
theorem SetM.look {w : World} {b n : Nat} {S : Int → Bool} (h : SetM w b n S) (x : Int) (hx : (Lit.int .i64 x).wf = true) :
    (Instr.lookup TMap (.map (some b)) (I x) false).run Try.prog w = .ok (.bool (S x)) w := by
  obtain ⟨D, ho, _, h3⟩ := h
  obtain ⟨v, ps, hrun, hv⟩ := ho.lookup keyLaw Try.underlying76 (zeroBool w) (plainElem_bool Try.underlying4 false) (Go.Maps.keyOf_int_mk Try.underlying2 hx)
  rw [h3 x hx] at hv
  rw [hrun, boolElem_inv Try.underlying4 hv]
theorem SetM.store {w : World} {b n : Nat} {S : Int → Bool} (h : SetM w b n S) (hn : n < 1000000000) (x : Int) (hx : (Lit.int .i64 x).wf = true) (v : Bool) :
    ∃ w', (Instr.mapUpdate TMap (.map (some b)) (I x) (.bool v)).run Try.prog w = .ok () w' ∧ SetM w' b (n + 1) (upd S x v) ∧ w.grownBy w' (some b) := by
  obtain ⟨D, ho, hm, h3⟩ := h
  obtain ⟨w', hrun, ho', hg⟩ := ho.update keyLaw Try.underlying76 (by unfold maxLen; omega) (Go.Maps.keyOf_int_mk Try.underlying2 hx) (plainElem_bool Try.underlying4 v)
  refine ⟨w', hrun, ⟨_, ho', hm.put _ _, fun y hy => ?_⟩, hg⟩
  by_cases e : y = x
  · subst e
    rw [Go.Maps.atKey_put_same hm (by simp [WideAt.IsKeyLit])]
    simp [upd]
  · rw [Go.Maps.atKey_put_other (by simpa using e), h3 y hy]
    simp [upd, e]

section
variable {ops : Array Oper} {rest : List Oper} {o : Oper} {a : Act} {Q : Exit → Act → World → Prop}
end

end Go.Proofs.Ytniikppojffiaaa.K
end

section
/- Numbers at numbers as maps that the call makes. -/
namespace Go.Proofs.Ytniikppojffiaaa.K
open Go.RowKit Go.Shelf Go.Proofs.YtniikppojffiaaaW.PrintWords Go.Proofs.YtniikppojffiaaaW.PrintLast Go.Proofs.YtniikppojffiaaaW.PrintMore
open Go.Maps (Keyed IsMap)
set_option linter.unusedVariables false
set_option linter.unusedSimpArgs false

abbrev TMapI : TypeId := 97
theorem zeroInt (w : World) : (zeroValue 2).run Try.prog w = .ok (.int .i64 0) w := by kernel_rfl
/-- How the numbers change where v is stored at x. -/
def updI (S : Int → Int) (x v : Int) : Int → Int := fun y => if y = x then v else S y
/-- Block b is a map of at most n entries that reads as S. -/
def IntM (w : World) (b n : Nat) (S : Int → Int) : Prop :=
  ∃ D : DataW Unit, w.ownsMap Try.prog 2 (plainElem Try.prog 2) b n D ∧ IsMap D ∧ ∀ x, (Lit.int .i64 x).wf = true → D.atKey (.int .i64 x) (.lit (.int .i64 0)) = .lit (.int .i64 (S x))
theorem IntM_made (w : World) : IntM (w.alloc (.map #[] 0)) w.heap.size 0 (fun _ => 0) := ⟨.map [], World.ownsMap_made _ _ _ _, Go.Maps.isMap_empty, fun x _ => rfl⟩
theorem IntM.lt {w : World} {b n : Nat} {S : Int → Int} (h : IntM w b n S) : b < w.heap.size := by
  obtain ⟨D, ho, _⟩ := h
  exact ho.lt
theorem IntM.same {w w' : World} {b n : Nat} {S : Int → Int} (h : IntM w b n S) (he : w'.heap[b]? = w.heap[b]?) : IntM w' b n S := by
  obtain ⟨D, ⟨es, clock, hb, F, hs, hD⟩, h2, h3⟩ := h
  exact ⟨D, ⟨es, clock, he.trans hb, F, hs, hD⟩, h2, h3⟩
theorem IntM.kept {w w' : World} {b n : Nat} {S : Int → Int} {T : Nat → Prop} (h : IntM w b n S) (hk : Kept w w' T) (hb : ¬ T b) : IntM w' b n S := h.same (hk.2 b h.lt hb)
theorem IntM.later {w w' : World} {b n : Nat} {S : Int → Int} (h : IntM w b n S) (hg : Grew w w') : IntM w' b n S := h.kept (Kept.of_below hg (fun _ => False)) (fun h => h)
theorem IntM.cong {w : World} {b n : Nat} {S S' : Int → Int} (h : IntM w b n S) (hs : ∀ x, (Lit.int .i64 x).wf = true → S x = S' x) : IntM w b n S' := by
  obtain ⟨D, ho, h2, h3⟩ := h
  exact ⟨D, ho, h2, fun x hx => by rw [h3 x hx, hs x hx]⟩
theorem intElem_inv {H : Type} {P : Program} {e : TypeId} (he : P.underlying e = some (.int .i64)) {v : Value} {b : Int} {ps : List MemPlace} (h : plainElem (H := H) P e v = some (.lit (.int .i64 b), ps)) : v = .int .i64 b := by
  obtain ⟨c, rfl, hc, _⟩ := plainElem_int_inv he h
  injection hc with h1 h2
  injection h1 with h1
  injection h1 with h1 h3
  rw [h3]
theorem IntM.look {w : World} {b n : Nat} {S : Int → Int} (h : IntM w b n S) (x : Int) (hx : (Lit.int .i64 x).wf = true) :
    (Instr.lookup TMapI (.map (some b)) (I x) false).run Try.prog w = .ok (I (S x)) w := by
  obtain ⟨D, ho, _, h3⟩ := h
  obtain ⟨v, ps, hrun, hv⟩ := ho.lookup keyLaw Try.underlying97 (zeroInt w) (plainElem_int Try.underlying2 (a := 0) (by decide)) (Go.Maps.keyOf_int_mk Try.underlying2 hx)
  rw [h3 x hx] at hv
  rw [hrun, intElem_inv Try.underlying2 hv]
theorem IntM.store {w : World} {b n : Nat} {S : Int → Int} (h : IntM w b n S) (hn : n < 1000000000) (x : Int) (hx : (Lit.int .i64 x).wf = true) (v : Int) (hv : (Lit.int .i64 v).wf = true) :
    ∃ w', (Instr.mapUpdate TMapI (.map (some b)) (I x) (I v)).run Try.prog w = .ok () w' ∧ IntM w' b (n + 1) (updI S x v) ∧ w.grownBy w' (some b) := by
  obtain ⟨D, ho, hm, h3⟩ := h
  obtain ⟨w', hrun, ho', hg⟩ := ho.update keyLaw Try.underlying97 (by unfold maxLen; omega) (Go.Maps.keyOf_int_mk Try.underlying2 hx) (plainElem_int Try.underlying2 hv)
  refine ⟨w', hrun, ⟨_, ho', hm.put _ _, fun y hy => ?_⟩, hg⟩
  by_cases e : y = x
  · subst e
    rw [Go.Maps.atKey_put_same hm (by simp [WideAt.IsKeyLit])]
    simp [updI]
  · rw [Go.Maps.atKey_put_other (by simpa using e), h3 y hy]
    simp [updI, e]

section
variable {ops : Array Oper} {rest : List Oper} {o : Oper} {a : Act} {Q : Exit → Act → World → Prop}
end

end Go.Proofs.Ytniikppojffiaaa.K
end

section
/- slices.DeleteFunc over rows of pairs of the call's own. -/
namespace Go.Proofs.Ytniikppojffiaaa.K
open Go.RowKit Go.Shelf Go.Proofs.Ytniikppojffiaaa.Q Go.Proofs.YtniikppojffiaaaW.PrintWords Go.Proofs.YtniikppojffiaaaW.PrintLast Go.Proofs.YtniikppojffiaaaW.PrintMore
set_option linter.unusedVariables false
set_option linter.unusedSimpArgs false

theorem zeroCells_two (n : Nat) : (Builtin.zeroCells #[I 0, I 0] n).toList = List.replicate (2 * n) (I 0) := by
  unfold Builtin.zeroCells
  apply List.ext_getElem
  · simp; omega
  · intro i h1 h2
    simp only [Array.getElem_toList, Array.getElem_ofFn, List.getElem_replicate]
    have : i % 2 = 0 ∨ i % 2 = 1 := by omega
    rcases this with h | h <;> simp [h]
theorem run_clear_pairs (w : World) (ty : TypeId) (b o n c : Nat) (hn : 0 < n)
    (hc : ∀ j, j < 2 * n → (w.cell? ⟨b, o + j, none⟩).isSome = true) (hf : ∀ j, j < 2 * n → w.frozen? ⟨b, o + j, none⟩ = false) :
    (Builtin.clear_ #[32] ty #[.slice (some ⟨b, o, none⟩) n c]).run Try.prog w = .ok (.tuple #[]) (w.setCells b o (List.replicate (2 * n) (I 0))) := by
  have hv : ∀ w, (zeroValue 53).run Try.prog w = .ok (.agg #[I 0, I 0]) w := fun w => by kernel_rfl
  have hz : (Value.agg #[I 0, I 0]).cells = #[I 0, I 0] := by simp [Value.cells]
  have hst := run_storeCells_cells (P := Try.prog) b o (List.replicate (2 * n) (I 0)) 0 w (by simpa using hc) (by simpa using hf) (by intro v hv'; rw [List.eq_of_mem_replicate hv']; rfl)
  simp only [Nat.add_zero] at hst
  have hzc := zeroCells_two n
  obtain ⟨m, rfl⟩ : ∃ m, n = m + 1 := ⟨n - 1, by omega⟩
  simp [Builtin.clear_, run_underlying Try.underlying32, hv, hz, hzc, hst]
theorem Rq.clear {base : Nat} {ok : Nat → Prop} {G n c : Nat} : ∀ (m i : Nat) (W : World) (xs : List PairT), i + m ≤ xs.length → Kq.R 53 W base ok (.slice (some ⟨G, 0, none⟩) n c) xs →
    ∃ ys : List PairT, ys.take i = xs.take i ∧ ys.length = xs.length ∧ Kq.R 53 (W.setCells G (i * 2) (List.replicate (2 * m) (I 0))) base ok (.slice (some ⟨G, 0, none⟩) n c) ys
  | 0, i, W, xs, hl, h => ⟨xs, rfl, rfl, h⟩
  | m + 1, i, W, xs, hl, h => by
    have h1 := Kq_put0 h i (by omega) 0
    have h2 := Kq_put1 h1 i (by rw [List.length_set]; omega) 0
    rw [List.set_set] at h2
    obtain ⟨ys, e1, e2, e3⟩ := Rq.clear m (i + 1) _ _ (by rw [List.length_set]; omega) h2
    refine ⟨ys, ?_, by rw [e2, List.length_set], ?_⟩
    · have := congrArg (List.take i) e1
      rw [List.take_take, List.take_take, List.take_set, List.set_eq_of_length_le (by simp; omega)] at this
      simpa [Nat.min_eq_left (Nat.le_succ i)] using this
    · rw [Nat.succ_mul] at e3
      exact e3
theorem del_keepP (q : PairT → Bool) (l xs : List PairT) (i j : Nat) (hij : i < j) (hj : j < l.length) (hx : xs.length = l.length) (h1 : xs.take i = (l.take j).filter q) (h2 : xs.drop j = l.drop j) (hp : q l[j] = true) :
    (xs.set i l[j]).take (i + 1) = (l.take (j + 1)).filter q ∧ (xs.set i l[j]).drop (j + 1) = l.drop (j + 1) := by
  constructor
  · rw [List.take_succ_eq_append_getElem hj, List.filter_append, ← h1, List.take_set, List.take_succ_eq_append_getElem (show i < xs.length by omega), List.set_append_right _ _ (by simp; omega)]
    simp [hp]
    have : i - min i xs.length = 0 := by omega
    rw [this]
    rfl
  · rw [List.drop_set_of_lt (by omega)]
    have := congrArg (List.drop 1) h2
    simpa using this
theorem del_skipP (q : PairT → Bool) (l xs : List PairT) (i j : Nat) (hj : j < l.length) (h1 : xs.take i = (l.take j).filter q) (h2 : xs.drop j = l.drop j) (hp : q l[j] = false) :
    xs.take i = (l.take (j + 1)).filter q ∧ xs.drop (j + 1) = l.drop (j + 1) := by
  constructor
  · rw [List.take_succ_eq_append_getElem hj, List.filter_append, ← h1]
    simp [hp]
  · have := congrArg (List.drop 1) h2
    simpa using this
theorem del_getP (l xs : List PairT) (j : Nat) (hj : j < l.length) (hx : xs.length = l.length) (h2 : xs.drop j = l.drop j) : xs[j]'(by omega) = l[j] := by
  rw [List.drop_eq_getElem_cons hj, List.drop_eq_getElem_cons (show j < xs.length by omega)] at h2
  injection h2
theorem idx_someP {p : PairT → Bool} {l : List PairT} (h : idx p l ≠ -1) : ∃ i : Nat, idx p l = i ∧ ∃ hi : i < l.length, p l[i] = true ∧ ∀ j (hj : j < i), p (l[j]'(by omega)) = false := by
  unfold idx at h ⊢
  cases hf : l.findIdx? p with
  | none => rw [hf] at h; exact absurd rfl h
  | some i =>
    rw [List.findIdx?_eq_some_iff_getElem] at hf
    obtain ⟨hi, hp, hn⟩ := hf
    exact ⟨i, rfl, hi, hp, fun j hj => by have := hn j hj; simpa using this⟩
theorem idx_noneP {p : PairT → Bool} {l : List PairT} (h : idx p l = -1) : l.filter (fun x => !p x) = l := by
  unfold idx at h
  cases hf : l.findIdx? p with
  | some i => rw [hf] at h; have : ((i : Int)) = -1 := h; omega
  | none =>
    rw [List.findIdx?_eq_none_iff] at hf
    rw [List.filter_eq_self]
    intro x hx
    simp [hf x hx]
theorem del_startP {p : PairT → Bool} {l : List PairT} {i : Nat} (hi : i < l.length) (hp : p l[i] = true) (hn : ∀ j (hj : j < i), p (l[j]'(by omega)) = false) : l.take i = (l.take (i + 1)).filter (fun x => !p x) := by
  rw [List.take_succ_eq_append_getElem hi, List.filter_append]
  have : (l.take i).filter (fun x => !p x) = l.take i := by
    rw [List.filter_eq_self]
    intro x hx
    obtain ⟨j, hj, rfl⟩ := List.mem_iff_getElem.1 hx
    rw [List.length_take] at hj
    rw [List.getElem_take, hn j (by omega)]
    rfl
  rw [this]
  simp [hp]

set_option maxRecDepth 100000 in
set_option maxHeartbeats 4000000 in
theorem DeleteFunc_pair (p : PairT → Bool) (base : Nat) (v : Value) (l : List PairT) (g : Nat) (first caps : Array Value) (w : World) (hbase : base ≤ w.heap.size) (hR : Kq.R 53 w base (fun _ => True) v l) (hbig : l.length ≤ 1000000000) (eg : EntersG g)
    (hp : ∀ x, x ∈ l → ∀ W, Below base w W → Calls Try.prog g (first.push (.agg #[I x.f0, I x.f1]) ++ caps) W fun e w' => e = .returned (.bool (p x)) ∧ Grew W w') :
    Calls Try.prog 138 #[v, .func (.func g) first caps] w fun e w' => ∃ v', e = .returned v' ∧ Kq.R 53 w' base (fun _ => True) v' (l.filter fun x => !p x) ∧ Below base w w' := by
  obtain ⟨A, c, hv, hc, hC⟩ := Kd.R_reads hR
  subst hv
  have H := Aside0.mk (IndexFunc_pair p A c l g first caps w hC hc (by omega) eg (fun x hx W hW => hp x hx W (hW.mono hbase)))
  have HR := Aside0.mk hR
  have HP := Aside0.mk hp
  have HC := Aside0.mk hc
  clear hR hp hC hc
  by_cases hi : idx p l = -1
  · have HV := Aside0.mk (idx_noneP hi)
    rw [hi] at H
    rw [HV.out]
    go_enter Try.func138, Try.ntmps138
    go_wp2_with fail
    refine H.out.mono ?_
    rintro e w1 ⟨rfl, hG1⟩
    go_wp2_with fail
    go_ret
    exact ⟨_, rfl, Kd.R_below HR.out hG1, hG1.mono hbase⟩
  · obtain ⟨i0, he, hi0, hp0, hn0⟩ := idx_someP hi
    rw [he] at H hi
    have HS := Aside0.mk (del_startP hi0 hp0 hn0)
    clear hn0 hp0 he
    go_enter Try.func138, Try.ntmps138
    go_wp2_with fail
    refine H.out.mono ?_
    rintro e w1 ⟨rfl, hG1⟩
    have HR1 := Aside0.mk (Kd.R_below HR.out hG1)
    have HG1 : Aside0 (Below base w w1) := ⟨hG1.mono hbase⟩
    clear hG1 H HR
    obtain ⟨G, cc, eo, gb, gl, _⟩ := Kd.R_form HR1.out (by omega)
    injection eo with ea en ec
    subst ea ec
    clear en
    go_wp2_with fail
    go_loopg [5, 6] l.length (fun gg s5 s6 wr => ∃ (i j : Nat) (xs : List PairT), s5 = .int .i64 i ∧ s6 = .int .i64 j ∧ i < j ∧ j ≤ l.length ∧ l.length - j ≤ gg ∧ xs.length = l.length ∧
      Aside0 (xs.take i = (l.take j).filter (fun x => !p x)) ∧ Aside0 (xs.drop j = l.drop j) ∧ Aside0 (Kq.R 53 wr base (fun _ => True) (.slice (some ⟨G, 0, none⟩) l.length c) xs) ∧ Aside0 (Below base w wr))
    case atStart => exact ⟨i0, i0 + 1, l, rfl, by go_num, by omega, by omega, by omega, rfl, HS, ⟨rfl⟩, HR1, HG1⟩
    case round =>
      obtain ⟨i, j, xs, rfl, rfl, hij, hj, hg, hxl, HT, HD, HRr, HGr⟩ := hrel
      by_cases hlt : j < l.length
      · have hltz : (j : Int) < (l.length : Int) := by omega
        obtain ⟨hx, hx1, _, _⟩ := Kq_cells HRr.out j (by omega)
        have hrd : xs[j]'(by omega) = l[j] := del_getP l xs j hlt hxl HD.out
        rw [hrd] at hx hx1
        have hcall := HP.out l[j] (List.getElem_mem hlt)
        have HK := Aside0.mk (fun h => del_keepP (fun x => !p x) l xs i j hij hlt hxl HT.out HD.out h)
        have HS2 := Aside0.mk (fun h => del_skipP (fun x => !p x) l xs i j hlt HT.out HD.out h)
        clear hrd
        generalize l[j] = y at hx hx1 hcall HK HS2
        have HCL := Aside0.mk (fun W (h : Grew wr W) => hcall W (Below.trans HGr.out (h.mono (Nat.le_trans hbase HGr.out.size))))
        clear hcall
        cases hq : p y with
        | false =>
          rw [hq] at HCL
          have HK2 := Aside0.mk (HK.out (by simp [hq]))
          clear HK HS2
          go_wp2_with fail
          refine (HCL.out _ (below_alloc (Grew.refl wr) _)).mono ?_
          rintro e w2 ⟨rfl, hG2⟩
          have HP2 := Aside0.mk (blk_below (blk_new wr (.cells #[I y.f0, I y.f1] 53)) hG2)
          have b0 := blk_cell HP2.out 0
          have b1 := blk_cell HP2.out 1
          replace hG2 := Grew.trans (below_alloc (Grew.refl wr) (.cells #[I y.f0, I y.f1] 53)) hG2
          have HR2 := Aside0.mk (Kd.R_below HRr.out hG2)
          have HG2 := Aside0.mk (Below.trans HGr.out (hG2.mono (Nat.le_trans hbase HGr.out.size)))
          obtain ⟨hy, hy1, hf, hf1⟩ := Kq_cells HR2.out i (by omega)
          have HW := Aside0.mk (Kq_put1 (Kq_put0 HR2.out i (by omega) y.f0) i (by rw [List.length_set]; omega) y.f1)
          rw [List.set_set] at HW
          clear HCL hx hx1 hG2
          go_wp2_with fail
          go_roundg (l.length - (j + 1))
          case measure => omega
          case rel => exact ⟨i + 1, j + 1, xs.set i y, by go_num, by go_num, by omega, by omega, by omega, by rw [List.length_set]; exact hxl, ⟨HK2.out.1⟩, ⟨HK2.out.2⟩, ⟨by have := HW.out; simpa using this⟩, ⟨Below.setCell (Below.setCell HG2.out gb _) gb _⟩⟩
        | true =>
          rw [hq] at HCL
          have HK2 := Aside0.mk (HS2.out (by simp [hq]))
          clear HK HS2
          go_wp2_with fail
          refine (HCL.out _ (below_alloc (Grew.refl wr) _)).mono ?_
          rintro e w2 ⟨rfl, hG2⟩
          have HP2 := Aside0.mk (blk_below (blk_new wr (.cells #[I y.f0, I y.f1] 53)) hG2)
          have b0 := blk_cell HP2.out 0
          have b1 := blk_cell HP2.out 1
          replace hG2 := Grew.trans (below_alloc (Grew.refl wr) (.cells #[I y.f0, I y.f1] 53)) hG2
          have HR2 := Aside0.mk (Kd.R_below HRr.out hG2)
          have HG2 := Aside0.mk (Below.trans HGr.out (hG2.mono (Nat.le_trans hbase HGr.out.size)))
          clear HCL hx hx1 hG2
          go_wp2_with fail
          go_roundg (l.length - (j + 1))
          case measure => omega
          case rel => exact ⟨i, j + 1, xs, rfl, by go_num, by omega, by omega, by omega, hxl, ⟨HK2.out.1⟩, ⟨HK2.out.2⟩, HR2, HG2⟩
      · obtain rfl : j = l.length := by omega
        have hltz : ¬ (l.length : Int) < (l.length : Int) := by omega
        have HT2 : Aside0 (xs.take i = l.filter (fun x => !p x)) := ⟨by have := HT.out; rwa [List.take_length] at this⟩
        clear HT HD
        have hcl : ∀ ty, (Builtin.clear_ #[32] ty #[.slice (some ⟨G, i * 2, none⟩) (l.length - i) (c - i)]).run Try.prog wr = .ok (.tuple #[]) (wr.setCells G (i * 2) (List.replicate (2 * (l.length - i)) (I 0))) :=
          fun ty => run_clear_pairs wr ty G (i * 2) _ _ (by omega) (fun t ht => by
            obtain ⟨h1, h2, _, _⟩ := Kq_cells HRr.out (i + t / 2) (by omega)
            rcases Nat.mod_two_eq_zero_or_one t with h | h
            · rw [show i * 2 + t = (i + t / 2) * 2 by omega, h1]; rfl
            · rw [show i * 2 + t = (i + t / 2) * 2 + 1 by omega, h2]; rfl) (fun t ht => by
            obtain ⟨_, _, h1, h2⟩ := Kq_cells HRr.out (i + t / 2) (by omega)
            rcases Nat.mod_two_eq_zero_or_one t with h | h
            · rw [show i * 2 + t = (i + t / 2) * 2 by omega, h1]
            · rw [show i * 2 + t = (i + t / 2) * 2 + 1 by omega, h2])
        have hic : i < c := by have := HC.out; omega
        go_wp2_with fail
        go_ret
        obtain ⟨ys, h1, h2, h3⟩ := Rq.clear (l.length - i) i wr xs (by omega) HRr.out
        refine ⟨_, rfl, ?_, below_setCells gb _ _ _ HGr.out⟩
        have h4 := Kd.R_take h3 (m := i) (by omega)
        rw [h1, HT2.out] at h4
        exact h4


end Go.Proofs.Ytniikppojffiaaa.K
end

section
/- The values of a function by faces; the falling pairs. -/
namespace Go.Proofs.Ytniikppojffiaaa.K
open Go.RowKit Go.Shelf Go.Proofs.Ytniikppojffiaaa.Q Go.Proofs.YtniikppojffiaaaW.PrintWords Go.Proofs.YtniikppojffiaaaW.PrintLast Go.Proofs.YtniikppojffiaaaW.PrintMore
set_option linter.unusedVariables false
set_option linter.unusedSimpArgs false

/-- What the map holds behind i rounds. -/
def valI (l f : List Int) : Nat → Int → Int
  | 0 => fun _ => 0
  | i + 1 => updI (valI l f i) (l.getD i 0) (f.getD i 0)
theorem atV_app : ∀ (a b : List Int) (x0 y0 x : Int), b.length = a.length → x0 ∉ a → atV (a ++ [x0]) (b ++ [y0]) x = if x = x0 then y0 else atV a b x
  | [], [], x0, y0, x, _, _ => by
    simp only [List.nil_append, atV]
    by_cases h : x0 = x
    · rw [if_pos h, if_pos h.symm]
    · rw [if_neg h, if_neg (fun e => h e.symm)]
  | [], _ :: _, _, _, _, h, _ => by simp at h
  | _ :: _, [], _, _, _, h, _ => by simp at h
  | a :: xs, b :: ys, x0, y0, x, h, hn => by
    have hl : ys.length = xs.length := by simpa using h
    have hne : x0 ≠ a := fun e => hn (by rw [e]; exact List.mem_cons_self)
    have hn2 : x0 ∉ xs := fun e => hn (List.mem_cons_of_mem _ e)
    simp only [List.cons_append, atV]
    rw [atV_app xs ys x0 y0 x hl hn2]
    by_cases h1 : a = x
    · rw [if_pos h1, if_pos h1, if_neg (fun e => hne (by rw [h1, ← e]))]
    · rw [if_neg h1, if_neg h1]
theorem val_take (l f : List Int) (hs : l.Pairwise (· < ·)) (hl : f.length = l.length) : ∀ i, i ≤ l.length → ∀ x, valI l f i x = atV (l.take i) (f.take i) x
  | 0, _, x => by simp [valI, atV]
  | i + 1, h, x => by
    have hif : i < f.length := by omega
    rw [List.take_succ_eq_append_getElem (show i < l.length by omega), List.take_succ_eq_append_getElem hif, atV_app _ _ _ _ _ (by simp [hl]) (fun hm => by
      obtain ⟨j, hj, e⟩ := List.mem_iff_getElem.1 hm
      rw [List.length_take] at hj
      rw [List.getElem_take] at e
      have := List.pairwise_iff_getElem.1 hs j i (by omega) (by omega) (by omega)
      omega), ← val_take l f hs hl i (by omega) x]
    show (if x = l.getD i 0 then f.getD i 0 else valI l f i x) = _
    have e1 : l.getD i 0 = l[i] := by simp [show i < l.length by omega]
    have e2 : f.getD i 0 = f[i] := by simp [hif]
    rw [e1, e2]
theorem val_all (l f : List Int) (hs : l.Pairwise (· < ·)) (hl : f.length = l.length) (x : Int) : valI l f l.length x = atV l f x := by
  rw [val_take l f hs hl _ (Nat.le_refl _) x, List.take_length, ← hl, List.take_length]
set_option maxRecDepth 100000 in
set_option maxHeartbeats 4000000 in
theorem values_calls {n : Int} (A : Option Addr) (c : Nat) {l : List Int} (hi : isC n l = true) (A2 : Option Addr) (c2 : Nat) {f : List Int} (hf : funB l f = true) (w : World) (hk : Kx w A c l) (hr : Ki.C w A2 f.length f) (hc2 : f.length ≤ c2) :
    Calls Try.prog 98 #[.agg #[I n, .slice A l.length c], .slice A2 f.length c2] w fun e w' => ∃ b, e = .returned (.map (some b)) ∧ w.heap.size ≤ b ∧ (∃ m, IntM w' b m (atV l f)) ∧ Grew w w' := by
  obtain ⟨hn, hs, hrg, h63⟩ := isC_faces hi
  have hl := funB_len hf
  have hv := funB_val hf
  obtain ⟨W0, hW0⟩ : ∃ W0, W0 = (w.alloc (.cells #[I n, .slice A l.length c] 30)).alloc (.map #[] 0) := ⟨_, rfl⟩
  have hB : CB W0 w.heap.size n (.slice A l.length c) := by rw [hW0]; exact blk_alloc (blk_new w _) _
  have hS : IntM W0 (w.heap.size + 1) 0 (fun _ => 0) := by
    rw [hW0]
    have := IntM_made (w.alloc (.cells #[I n, .slice A l.length c] 30))
    rwa [World.size_alloc] at this
  have hg : Grew w W0 := by rw [hW0]; exact below_alloc (below_alloc (Grew.refl w) _) _
  have HK := Aside0.mk hk
  have HQ := Aside0.mk hr
  have HC2 := Aside0.mk hc2
  have HB := Aside0.mk hB
  have HS := Aside0.mk hS
  have HG := Aside0.mk hg
  have HL := Aside0.mk hl
  have HV := Aside0.mk hv
  have HAV := Aside0.mk (fun x => val_all l f hs hl x)
  have HRG := Aside0.mk hrg
  have hc := hk.c
  have k1 := hB.c1
  have hmm := @run_makeMap Try.prog
  have hlc : l.length ≤ 63 := h63
  clear hk hr hc2 hi hB hS hg hv hrg hs hf hl
  subst hW0
  go_enter Try.func98, Try.ntmps98
  go_wp2_with fail
  go_loopg [6, 7, 12] l.length (fun gg _ _ s12 wr => ∃ i : Nat, i ≤ l.length ∧ l.length - i ≤ gg ∧ s12 = .int .i64 i ∧ Aside0 (IntM wr (w.heap.size + 1) i (valI l f i)) ∧ Aside0 (Grew w wr))
  case atStart => exact ⟨0, Nat.zero_le _, by omega, rfl, HS, HG⟩
  case round =>
    obtain ⟨i, hi1, hgg, rfl, HSr, HGr⟩ := hrel
    by_cases hlt : i < l.length
    · have hltz : (i : Int) < (l.length : Int) := by omega
      have hif : i < f.length := by have := HL.out; omega
      have hifz : (i : Int) < (f.length : Int) := by omega
      obtain ⟨ad, e0, hx⟩ := Kd.at_int (Kd.C_below HK.out.r HGr.out) (i : Int) (by omega) (by omega)
      obtain ⟨ad2, e2, hy⟩ := Kd.at_int (Kd.C_below HQ.out HGr.out) (i : Int) (by omega) (by omega)
      cases e0
      cases e2
      have hrd : rd l (i : Int) = l[i] := by simp [rd, hlt]
      have hrd2 : rd f (i : Int) = f[i] := by simp [rd, hif]
      rw [hrd, Int.toNat_natCast] at hx
      rw [hrd2, Int.toNat_natCast] at hy
      have HVS : Aside0 (valI l f (i + 1) = updI (valI l f i) l[i] f[i]) := ⟨by
        show updI (valI l f i) (l.getD i 0) (f.getD i 0) = _
        simp [hlt, hif]⟩
      have HR1 := HRG.out _ (List.getElem_mem hlt)
      have HR2 := HV.out _ (List.getElem_mem hif)
      have HW1 := Aside0.mk (wf_face HR1.1 HR1.2.2)
      have HW2 : Aside0 ((Lit.int .i64 f[i]).wf = true) := ⟨WalkArith.wf_i64 (by omega)⟩
      clear hrd hrd2 HR1 HR2
      generalize l[i] = x at hx HVS HW1
      generalize f[i] = y at hy HVS HW2
      generalize valI l f i = S at HSr HVS
      obtain ⟨w5, hr5, hS5, hg5⟩ := HSr.out.store (by omega) x HW1.out y HW2.out
      have HS5 := Aside0.mk hS5
      have hbs := HSr.out.lt
      have HG5 := Aside0.mk (pw_below_grown HGr.out _ (HGr.out.size) hg5 (fun k hk => by cases hk; omega))
      clear hS5 hg5 hbs
      go_wp2_with fail
      go_roundg (l.length - (i + 1))
      case measure => omega
      case rel => exact ⟨i + 1, by omega, by omega, by go_num, ⟨by rw [HVS.out]; exact HS5.out⟩, HG5⟩
    · have hltz : ¬ (i : Int) < (l.length : Int) := by omega
      obtain rfl : i = l.length := by omega
      go_wp2_with fail
      go_ret
      exact ⟨_, rfl, by omega, ⟨_, HSr.out.cong (fun x _ => HAV.out x)⟩, HGr.out⟩

set_option maxHeartbeats 2000000 in
theorem falling1_calls (p : PairT) {Bm b m : Nat} {S : Int → Int} (w : World) (hb : w.cell? ⟨Bm, 0, none⟩ = some (.map (some b))) (hS : IntM w b m S) (h0 : 1 ≤ p.f0 ∧ p.f0 ≤ 63) (h1 : 1 ≤ p.f1 ∧ p.f1 ≤ 63) :
    Calls Try.prog 139 #[.agg #[I p.f0, I p.f1], .pointer (some ⟨Bm, 0, none⟩)] w fun e w' => e = .returned (.bool (decide (S p.f0 < S p.f1))) ∧ Grew w w' := by
  have hg : Grew w (w.alloc (.cells #[I p.f0, I p.f1] 53)) := below_alloc (Grew.refl w) _
  have HG := Aside0.mk hg
  have hS1 := hS.later hg
  have hl0 := hS1.look p.f0 (wf_face h0.1 h0.2)
  have hl1 := hS1.look p.f1 (wf_face h1.1 h1.2)
  have hlt := World.block_lt_of_cell? w _ hb
  have hb1 : (w.alloc (.cells #[I p.f0, I p.f1] 53)).cell? ⟨Bm, 0, none⟩ = some (.map (some b)) := (Below.cell hg (p := ⟨Bm, 0, none⟩) hlt).trans hb
  clear hS hS1 h0 h1 hg hb
  generalize S p.f0 = x at hl0 ⊢
  generalize S p.f1 = y at hl1 ⊢
  go_enter Try.func139, Try.ntmps139
  go_wp2_with fail
  go_ret
  exact ⟨rfl, HG.out⟩
set_option maxHeartbeats 2000000 in
theorem pairs_calls {n : Int} (A : Option Addr) (c : Nat) {l : List Int} (hi : isC n l = true) (w : World) (hk : Kx w A c l) :
    Calls Try.prog 84 #[.agg #[I n, .slice A l.length c]] w fun e w' => ∃ v, e = .returned v ∧ Kq.R 53 w' w.heap.size (fun _ => True) v (pairsL l) ∧ Grew w w' :=
  impl_Complex_pairs.calls 5000 n A c l (pairsL l) w hk.r hk.c (pairs_is hi 5000 (Nat.le_refl _))
theorem pairs_len {n : Int} {l : List Int} (hi : isC n l = true) : (pairsL l).length ≤ 3969 := by
  have h63 := (isC_faces hi).2.2.2
  have : ∀ L : List Int, (L.flatMap fun a => (l.filter fun b => pairK l ⟨a, b⟩).map fun b => (⟨a, b⟩ : PairT)).length ≤ L.length * 63 := by
    intro L
    induction L with
    | nil => simp
    | cons a L ih =>
      have h1 : (l.filter fun b => pairK l ⟨a, b⟩).length ≤ l.length := List.length_filter_le _ _
      rw [List.flatMap_cons, List.length_append, List.length_map, List.length_cons]
      omega
  have := this l
  unfold pairsL
  omega
set_option maxHeartbeats 2000000 in
theorem falling_calls {n : Int} (A : Option Addr) (c : Nat) {l : List Int} (hi : isC n l = true) (A2 : Option Addr) (c2 : Nat) {f : List Int} (hf : funB l f = true) (w : World) (hk : Kx w A c l) (hr : Ki.C w A2 f.length f) (hc2 : f.length ≤ c2) :
    Calls Try.prog 94 #[.agg #[I n, .slice A l.length c], .slice A2 f.length c2] w fun e w' => ∃ v, e = .returned v ∧ Kq.R 53 w' w.heap.size (fun _ => True) v (fallL l f) ∧ Grew w w' := by
  have hB : CB (w.alloc (.cells #[I n, .slice A l.length c] 30)) w.heap.size n (.slice A l.length c) := blk_new w _
  have hg : Grew w (w.alloc (.cells #[I n, .slice A l.length c] 30)) := below_alloc (Grew.refl w) _
  have k0 := hB.c0
  have k1 := hB.c1
  have HV := Aside0.mk (values_calls A c hi A2 c2 hf _ (hk.later hg) (Kd.C_below hr hg) hc2)
  have HK := Aside0.mk hk
  have HB := Aside0.mk hB
  have HG := Aside0.mk hg
  have HI := Aside0.mk hi
  clear hk hr hc2 hB hg hi
  go_enter Try.func94, Try.ntmps94
  go_wp2_with fail
  refine HV.out.mono ?_
  rintro e w1 ⟨b, rfl, hb0, ⟨m, hS⟩, hG1⟩
  have hb1 : b < w1.heap.size := hS.lt
  have hX := blk_new w1 (.cells #[.map (some b)] 97)
  have hgx : Grew w1 (w1.alloc (.cells #[.map (some b)] 97)) := below_alloc (Grew.refl w1) _
  have HX := Aside0.mk hX
  have hB2 : CB (w1.alloc (.cells #[.map (some b)] 97)) w.heap.size n (.slice A l.length c) := blk_below (blk_below HB.out hG1) hgx
  have HG2 := Aside0.mk (Grew.trans (Grew.trans HG.out hG1) hgx)
  have HS2 := Aside0.mk (hS.later hgx)
  have HP := Aside0.mk (pairs_calls A c HI.out _ (HK.out.later HG2.out))
  have hsz : (w1.alloc (.cells #[.map (some b)] 97)).heap.size = w1.heap.size + 1 := World.size_alloc _ _
  have HZ := Aside0.mk hsz
  have HB1 := Aside0.mk hb1
  clear k0 k1 hS hX hgx hG1 hb0 hb1 hsz
  have k0 := hB2.c0
  have k1 := hB2.c1
  go_wp2_with fail
  refine HP.out.mono ?_
  rintro e w3 ⟨v, rfl, hR, hG3⟩
  have hs3 := hG3.size
  have H := Aside0.mk (DeleteFunc_pair (fun p => decide (atV l f p.f0 < atV l f p.f1)) _ v (pairsL l) 139 #[] #[.pointer (some ⟨w1.heap.size, 0, none⟩)] w3 hs3 hR (Nat.le_trans (pairs_len HI.out) (by decide)) (enters_of Try.func139 (by kernel_rfl) rfl)
    (fun x hx W hW => by
      have hW2 := Grew.trans (hG3.mono (Nat.le_refl _)) (Grew.refl w3)
      have hk2 := Below.trans hG3 hW
      have hb := hk2.block w1.heap.size (by rw [HZ.out]; omega)
      have hbm := hk2.block b (by rw [HZ.out]; have := HB1.out; omega)
      have hm := mem_pairs.1 hx
      have hr0 := range63 HI.out _ hm.1
      have hr1 := range63 HI.out _ hm.2.1
      exact falling1_calls x W (blk_cell (hb.trans HX.out) 0) (HS2.out.same hbm) hr0 hr1))
  clear hR hs3
  have HG3 := Aside0.mk (Grew.trans HG2.out hG3)
  have HG3b := Aside0.mk hG3
  clear hG3 k0 k1
  go_wp2_with fail
  refine H.out.mono ?_
  rintro e w4 ⟨v4, rfl, hR4, hG4⟩
  go_wp2_with fail
  go_ret
  exact ⟨_, rfl, Kd.R_lower hR4 (by rw [HZ.out]; have := HG2.out.size; rw [HZ.out] at this; omega), Below.trans HG3.out (hG4.mono HG2.out.size)⟩

end Go.Proofs.Ytniikppojffiaaa.K
end

section
/- isMorse. -/
namespace Go.Proofs.Ytniikppojffiaaa.K
open Go.RowKit Go.Shelf Go.Proofs.Ytniikppojffiaaa.Q Go.Proofs.YtniikppojffiaaaW.PrintWords Go.Proofs.YtniikppojffiaaaW.PrintLast Go.Proofs.YtniikppojffiaaaW.PrintMore
set_option linter.unusedVariables false
set_option linter.unusedSimpArgs false

def lowS (q : List PairT) (i : Nat) (x : Int) : Bool := (q.take i).any fun r => r.f0 == x
def highS (q : List PairT) (i : Nat) (x : Int) : Bool := (q.take i).any fun r => r.f1 == x
theorem lowS_succ (q : List PairT) (i : Nat) (hi : i < q.length) (x : Int) : upd (lowS q i) q[i].f0 true x = lowS q (i + 1) x := by
  unfold lowS upd
  rw [List.take_succ_eq_append_getElem hi, List.any_append]
  by_cases h : x = q[i].f0
  · simp [h]
  · have : (q[i].f0 == x) = false := by simpa using fun e => h e.symm
    simp [h, this]
theorem highS_succ (q : List PairT) (i : Nat) (hi : i < q.length) (x : Int) : upd (highS q i) q[i].f1 true x = highS q (i + 1) x := by
  unfold highS upd
  rw [List.take_succ_eq_append_getElem hi, List.any_append]
  by_cases h : x = q[i].f1
  · simp [h]
  · have : (q[i].f1 == x) = false := by simpa using fun e => h e.symm
    simp [h, this]
theorem okM_eq (q : List PairT) (i : Nat) (p : PairT) : okM q i p = (!lowS q i p.f0 && !highS q i p.f1) := rfl
theorem morseQ_false {q : List PairT} {i : Nat} (hi : i < q.length) (h : okM q i q[i] = false) : morseQ q = false := by
  unfold morseQ
  rw [List.all_eq_false]
  refine ⟨i, List.mem_range.2 hi, ?_⟩
  have : q.getD i z53 = q[i] := by simp [hi]
  rw [this]
  simp [h]
theorem morseQ_true {q : List PairT} (h : ∀ i (hi : i < q.length), okM q i q[i] = true) : morseQ q = true := by
  unfold morseQ
  rw [List.all_eq_true]
  intro i hi
  have hi := List.mem_range.1 hi
  have : q.getD i z53 = q[i] := by simp [hi]
  rw [this]
  exact h i hi
set_option maxRecDepth 100000 in
set_option maxHeartbeats 8000000 in
theorem isMorse_calls {n : Int} (A : Option Addr) (c : Nat) {l : List Int} (hi : isC n l = true) (A2 : Option Addr) (c2 : Nat) {f : List Int} (hf : funB l f = true) (w : World) (hk : Kx w A c l) (hr : Ki.C w A2 f.length f) (hc2 : f.length ≤ c2) :
    Calls Try.prog 92 #[.agg #[I n, .slice A l.length c], .slice A2 f.length c2] w fun e w' => e = .returned (.bool (morseB l f)) ∧ Grew w w' := by
  obtain ⟨W0, hW0⟩ : ∃ W0, W0 = ((w.alloc (.cells #[I n, .slice A l.length c] 30)).alloc (.map #[] 0)).alloc (.map #[] 0) := ⟨_, rfl⟩
  have hB : CB W0 w.heap.size n (.slice A l.length c) := by rw [hW0]; exact blk_alloc (blk_alloc (blk_new w _) _) _
  have hSL : SetM W0 (w.heap.size + 1) 0 (fun _ => false) := by
    rw [hW0]
    have := (SetM_made (w.alloc (.cells #[I n, .slice A l.length c] 30))).later (below_alloc (Grew.refl _) (.map #[] 0))
    rwa [World.size_alloc] at this
  have hSH : SetM W0 (w.heap.size + 2) 0 (fun _ => false) := by
    rw [hW0]
    have := SetM_made ((w.alloc (.cells #[I n, .slice A l.length c] 30)).alloc (.map #[] 0))
    rwa [World.size_alloc, World.size_alloc] at this
  have hg : Grew w W0 := by rw [hW0]; exact below_alloc (below_alloc (below_alloc (Grew.refl w) _) _) _
  have hz : W0.heap.size = w.heap.size + 3 := by rw [hW0]; simp
  have HF := Aside0.mk (falling_calls A c hi A2 c2 hf W0 (hk.later hg) (Kd.C_below hr hg) hc2)
  have HLEN := Aside0.mk (fall_len (f := f) hi)
  have HMM : Aside0 (∀ x ∈ fallL l f, (1 ≤ x.f0 ∧ x.f0 ≤ 63) ∧ (1 ≤ x.f1 ∧ x.f1 ≤ 63)) := ⟨fun x hx => by
    have hm := (mem_fall.1 hx).1
    exact ⟨range63 hi _ hm.1, range63 hi _ hm.2.1⟩⟩
  have HSL := Aside0.mk hSL
  have HSH := Aside0.mk hSH
  have HG := Aside0.mk hg
  have HZ := Aside0.mk hz
  have HD : Aside0 (morseB l f = morseQ (fallL l f)) := ⟨rfl⟩
  rw [HD.out]
  have k0 := hB.c0
  have k1 := hB.c1
  have hmm := @run_makeMap Try.prog
  clear hk hr hc2 hi hB hSL hSH hg hz HD
  generalize fallL l f = q at HF HLEN HMM ⊢
  clear hf
  subst hW0
  go_enter Try.func92, Try.ntmps92
  go_wp2_with fail
  refine HF.out.mono ?_
  rintro e w1 ⟨v, rfl, hR, hG1⟩
  obtain ⟨A3, c3, hv, hc3, hC⟩ := Kd.R_reads hR
  subst hv
  have HC := Aside0.mk (Kd.C_kept_own (S := fun k => k = w.heap.size + 1 ∨ k = w.heap.size + 2) (Kd.R_mono (Kd.R_bound hR) (fun k hk => hk.2.1)) (fun k hk h => by rw [HZ.out] at hk; omega))
  have HSL1 := Aside0.mk (HSL.out.later hG1)
  have HSH1 := Aside0.mk (HSH.out.later hG1)
  have HG1 := Aside0.mk (Grew.trans HG.out hG1)
  have HC3 := Aside0.mk hc3
  have hl2 : q.length ≤ 3969 := HLEN.out
  have hs1 : w.heap.size + 3 ≤ w1.heap.size := by have := hG1.size; rw [HZ.out] at this; exact this
  have HS1 := Aside0.mk hs1
  clear hR hG1 hC hc3 k0 k1 hs1
  go_wp2_with fail
  go_loopg [8, 15] q.length (fun gg _ s15 wr => ∃ i : Nat, i ≤ q.length ∧ q.length - i ≤ gg ∧ s15 = .int .i64 i ∧ Aside0 (SetM wr (w.heap.size + 1) i (lowS q i)) ∧ Aside0 (SetM wr (w.heap.size + 2) i (highS q i)) ∧ Aside0 (Grew w wr) ∧ Aside0 (Kept w1 wr (fun k => k = w.heap.size + 1 ∨ k = w.heap.size + 2)) ∧ Aside0 (∀ j (hj : j < q.length), j < i → okM q j q[j] = true))
  case atStart => exact ⟨0, Nat.zero_le _, by omega, rfl, ⟨HSL1.out.cong (fun x _ => by simp [lowS])⟩, ⟨HSH1.out.cong (fun x _ => by simp [highS])⟩, HG1, ⟨Kept.refl _ _⟩, ⟨fun j _ hj => absurd hj (Nat.not_lt_zero _)⟩⟩
  case round =>
    obtain ⟨i, hi1, hgg, rfl, HSLr, HSHr, HGr, HKr, HO⟩ := hrel
    by_cases hlt : i < q.length
    · have hltz : (i : Int) < (q.length : Int) := by omega
      obtain ⟨ad, e0, hx0, hx1⟩ := Kq_read (HC.out wr HKr.out) i hlt rfl
      cases e0
      have HOK := Aside0.mk (okM_eq q i q[i])
      have HLS := Aside0.mk (lowS_succ q i hlt)
      have HHS := Aside0.mk (highS_succ q i hlt)
      have HPB : Aside0 (okM q i q[i] = false → morseQ q = false) := ⟨fun h => morseQ_false hlt h⟩
      have HPS : Aside0 (okM q i q[i] = true → ∀ j (hj : j < q.length), j < i + 1 → okM q j q[j] = true) := ⟨fun h j hj hj2 => by
        rcases Nat.lt_or_ge j i with h1 | h1
        · exact HO.out j hj h1
        · obtain rfl : j = i := by omega
          exact h⟩
      have HM := Aside0.mk (HMM.out _ (List.getElem_mem hlt))
      generalize q[i] = p at hx0 hx1 HOK HLS HHS HM HPB HPS
      have HW0 := Aside0.mk (wf_face HM.out.1.1 HM.out.1.2)
      have HW1 := Aside0.mk (wf_face HM.out.2.1 HM.out.2.2)
      obtain ⟨W1, hW1⟩ : ∃ W1, W1 = wr.alloc (.cells #[I p.f0, I p.f1] 53) := ⟨_, rfl⟩
      have HP1 : Aside0 (W1.heap[wr.heap.size]? = some (.cells #[I p.f0, I p.f1] 53 (0, 0))) := ⟨by rw [hW1]; exact blk_new wr _⟩
      have hG1 : Grew wr W1 := by rw [hW1]; exact below_alloc (Grew.refl wr) _
      have HSL2 := Aside0.mk (HSLr.out.later hG1)
      have HSH2 := Aside0.mk (HSHr.out.later hG1)
      have HGw := Aside0.mk (Grew.trans HGr.out hG1)
      have HKw := Aside0.mk (Kept.below HKr.out hG1)
      have hb1 := HSLr.out.lt
      have hb2 := HSHr.out.lt
      have hz1 : W1.heap.size = wr.heap.size + 1 := by rw [hW1]; simp
      have HZ1 := Aside0.mk hz1
      have HE1 := Aside0.mk hW1
      clear hG1 hW1 hz1
      cases hbl : lowS q i p.f0 with
      | true =>
        have hL0 := HSL2.out.look p.f0 HW0.out
        rw [hbl, HE1.out] at hL0
        have HPF := Aside0.mk (HPB.out (by rw [HOK.out, hbl]; rfl))
        have HGe := HGw.out
        rw [HE1.out] at HGe
        have HGE := Aside0.mk HGe
        clear HPB HPS HOK hbl HGe
        go_wp2_with fail
        go_ret
        exact ⟨by rw [HPF.out]; rfl, HGE.out⟩
      | false =>
        have hL0 := HSL2.out.look p.f0 HW0.out
        rw [hbl, HE1.out] at hL0
        have HL0 := Aside0.mk hbl
        clear hbl
        cases hbh : highS q i p.f1 with
        | true =>
          have hL1 := HSH2.out.look p.f1 HW1.out
          rw [hbh, HE1.out] at hL1
          have HPF := Aside0.mk (HPB.out (by rw [HOK.out, hbh]; simp))
          have HGe := HGw.out
          rw [HE1.out] at HGe
          have HGE := Aside0.mk HGe
          clear HPB HPS HOK hbh HGe
          go_wp2_with fail
          go_ret
          exact ⟨by rw [HPF.out]; rfl, HGE.out⟩
        | false =>
          have hL1 := HSH2.out.look p.f1 HW1.out
          rw [hbh, HE1.out] at hL1
          have HOK2 := Aside0.mk (HPS.out (by rw [HOK.out, HL0.out, hbh]; rfl))
          clear HPB HPS HOK hbh
          obtain ⟨w5, hr5, hS5, hg5⟩ := SetM.store (w := W1.drew) (HSL2.out.same rfl) (by omega) p.f0 HW0.out true
          have HP5 := Aside0.mk (blk_grown (blk_drew HP1.out) hg5 (by simp; omega))
          have hSH5 : SetM w5 (w.heap.size + 2) i (highS q i) := SetM.kept (w := W1.drew) (T := fun k => k = w.heap.size + 1) (HSH2.out.same rfl) (Kept.of_grown hg5 (Kept.refl _ _) (fun k hk => by cases hk; exact Or.inl rfl)) (by omega)
          obtain ⟨w6, hr6, hS6, hg6⟩ := SetM.store hSH5 (by omega) p.f1 HW1.out true
          have HP6 := Aside0.mk (blk_grown HP5.out hg6 (by simp; omega))
          have HSL6 : Aside0 (SetM w6 (w.heap.size + 1) (i + 1) (upd (lowS q i) p.f0 true)) := ⟨SetM.kept (T := fun k => k = w.heap.size + 2) hS5 (Kept.of_grown hg6 (Kept.refl _ _) (fun k hk => by cases hk; exact Or.inl rfl)) (by omega)⟩
          have HSH6 := Aside0.mk hS6
          have HK6 := Aside0.mk (Kept.of_grown hg6 (Kept.of_grown hg5 (Kept.drew HKw.out) (fun k hk => by cases hk; exact Or.inl (Or.inl rfl))) (fun k hk => by cases hk; exact Or.inl (Or.inr rfl)))
          have hzl := HGw.out.size
          have HG6 := Aside0.mk (pw_below_grown (pw_below_grown (below_drew HGw.out) _ (by simp; omega) hg5 (fun k hk => by cases hk; omega)) _ (by have := hg5.size; simp at this; omega) hg6 (fun k hk => by cases hk; omega))
          clear hS5 hS6 hg5 hg6 hzl hSH5
          go_wp2_with fail
          rw [← HE1.out]
          clear hL0 hL1
          refine start_ (n := 8) (S := fun w' => w'.cell? ⟨wr.heap.size, 0, none⟩ = some (I p.f0) ∧ w'.cell? ⟨wr.heap.size, 1, none⟩ = some (I p.f1)) (ds := []) #[O,O,O,O,O,O,O,O] (by kernel_rfl) rfl rfl ⟨blk_cell (blk_drew HP1.out) 0, blk_cell (blk_drew HP1.out) 1⟩ (fun hHeld => ?_)
          refine pure_ (i := 0) (N := some 29) (v := ?_) (a' := ?_) #[U,O,O,O,O,O,O,O] rfl rfl (by kernel_rfl) (fun _ _ _ h => h) (Or.inl ⟨by rfl, ?_⟩) ?_ ?_
          rotate_left
          · intro w'
            go_simp
            with_reducible rfl
          rotate_left
          · simp only [nm_]
            rfl
          refine pure_ (i := 1) (N := some 30) (v := ?_) (a' := ?_) #[U,U,O,O,O,O,O,O] rfl rfl (by kernel_rfl) (fun _ _ _ h => h) (Or.inl ⟨by rfl, ?_⟩) ?_ ?_
          rotate_left
          · intro w'
            go_simp
            with_reducible rfl
          rotate_left
          · simp only [nm_]
            rfl
          refine pure_ (i := 3) (N := some 32) (v := ?_) (a' := ?_) #[U,U,O,U,O,O,O,O] rfl rfl (by kernel_rfl) (fun _ _ _ h => h) (Or.inl ⟨by rfl, ?_⟩) ?_ ?_
          rotate_left
          · intro w'
            go_simp
            with_reducible rfl
          rotate_left
          · simp only [nm_]
            rfl
          refine pure_ (i := 4) (N := some 33) (v := ?_) (a' := ?_) #[U,U,O,U,U,O,O,O] rfl rfl (by kernel_rfl) (fun _ _ _ h => h) (Or.inl ⟨by rfl, ?_⟩) ?_ ?_
          rotate_left
          · intro w'
            go_simp
            with_reducible rfl
          rotate_left
          · simp only [nm_]
            rfl
          refine take_ (i := 2) (N := some 31) (v := ?_) (a' := ?_) #[U,U,U,U,U,O,O,O] rfl rfl (by kernel_rfl) (fun _ _ _ h => h) (Or.inl ⟨by rfl, ?_⟩) hHeld ?_ ?_
          rotate_left
          · rintro w' ⟨s0, s1⟩
            go_simp
            with_reducible rfl
          rotate_left
          · simp only [nm_]
            rfl
          refine take_ (i := 5) (N := some 34) (v := ?_) (a' := ?_) #[U,U,U,U,U,U,O,O] rfl rfl (by kernel_rfl) (fun _ _ _ h => h) (Or.inl ⟨by rfl, ?_⟩) hHeld ?_ ?_
          rotate_left
          · rintro w' ⟨s0, s1⟩
            go_simp
            with_reducible rfl
          rotate_left
          · simp only [nm_]
            rfl
          refine one_ (i := 6) (N := none) #[U,U,U,U,U,U,U,O] rfl rfl (by kernel_rfl) (by decide) (fun K hK => ?_)
          refine skip_ (w1 := w5) (by rfl) rfl ?_ ?_
          · simp only [execOp]
            go_simp
          refine hK.out _ _ ⟨blk_cell HP5.out 0, blk_cell HP5.out 1⟩ (fun hHeld => ?_)
          clear hK K
          refine one_ (i := 7) (N := none) #[U,U,U,U,U,U,U,U] rfl rfl (by kernel_rfl) (by decide) (fun K hK => ?_)
          refine skip_ (w1 := w6) (by rfl) rfl ?_ ?_
          · simp only [execOp]
            go_simp
          refine hK.out _ _ ⟨blk_cell HP6.out 0, blk_cell HP6.out 1⟩ (fun hHeld => ?_)
          clear hK K
          refine done_ (by kernel_rfl) ?_
          go_wp2_with fail
          go_roundg (q.length - (i + 1))
          case measure => omega
          case rel => exact ⟨i + 1, by omega, by omega, by go_num, ⟨HSL6.out.cong (fun x _ => HLS.out x)⟩, ⟨HSH6.out.cong (fun x _ => HHS.out x)⟩, HG6, HK6, HOK2⟩
    · have hltz : ¬ (i : Int) < (q.length : Int) := by omega
      have HT := Aside0.mk (morseQ_true (fun j hj => HO.out j hj (by omega)))
      go_wp2_with fail
      go_ret
      exact ⟨by rw [HT.out]; rfl, HGr.out⟩

end Go.Proofs.Ytniikppojffiaaa.K
end

section
/- Rows of numbers as elements of a slice: each is the slice, and what it holds. -/
namespace Go.Proofs.Ytniikppojffiaaa.K
open Go.RowKit Go.Shelf Go.Proofs.YtniikppojffiaaaW.PrintWords Go.Proofs.YtniikppojffiaaaW.PrintLast Go.Proofs.YtniikppojffiaaaW.PrintMore
set_option linter.unusedVariables false
/-- A row: its slice, and what it holds. -/
structure RowT where
  A : Option Addr
  c : Nat
  xs : List Int
def RowT.v (r : RowT) : Value := .slice r.A r.xs.length r.c
theorem RowT.one (r : RowT) : r.v.oneCell' = true := rfl
abbrev Kr : Kd RowT := Kd.scalar RowT.v RowT.one
def nilT : RowT := ⟨none, 0, []⟩
/-- What the rows hold lies in memory. -/
def RowsIn (w : World) (vs : List RowT) : Prop := ∀ x ∈ vs, Ki.C w x.A x.xs.length x.xs ∧ x.xs.length ≤ x.c ∧ x.xs.length ≤ 2097152
theorem RowsIn.later {w w' : World} {vs : List RowT} (h : RowsIn w vs) (hg : Grew w w') : RowsIn w' vs := fun x hx => ⟨Kd.C_below (h x hx).1 hg, (h x hx).2⟩
theorem Kr_read {W : World} {A : Option Addr} {vs : List RowT} (h : Kr.C W A vs.length vs) (i : Nat) (hi : i < vs.length) :
    ∃ ad : Addr, A = some ad ∧ W.cell? (ad.add i) = some vs[i].v := by
  obtain ⟨ad, e, hc⟩ := ReadsOf.at_ (Kd.reads_of_C (enc := RowT.v) (d := nilT) (h1 := RowT.one) h) (i : Int) (by omega) (by omega)
  refine ⟨ad, e, ?_⟩
  rw [Int.toNat_natCast] at hc
  rw [hc]
  simp [rdOf, hi]
theorem Kr_of {W : World} {vs : List RowT} (B : Nat) (t : TypeId) (hB : W.heap[B]? = some (.cells (vs.map RowT.v).toArray t (0, 0))) (hn : vs.length ≤ 9223372036854775807) : Kr.C W (some ⟨B, 0, none⟩) vs.length vs := by
  refine Kd.C_of_reads (d := nilT) ⟨rfl, hn, fun h0 => ⟨_, rfl, fun j hj => ?_⟩⟩
  have := blk_cell hB j
  have e : (⟨B, 0, none⟩ : Addr).add j = ⟨B, j, none⟩ := by simp only [Addr.add]; split <;> simp_all
  rw [e, this]
  simp [hj]
end Go.Proofs.Ytniikppojffiaaa.K
end

section
/- Contracts of the library's functions that take a function value, over rows of rows of numbers. -/
namespace Go.Proofs.Ytniikppojffiaaa.K
open Go.RowKit Go.Shelf Go.Proofs.YtniikppojffiaaaW.PrintWords Go.Proofs.YtniikppojffiaaaW.PrintLast Go.Proofs.YtniikppojffiaaaW.PrintMore
set_option linter.unusedVariables false
set_option linter.unusedSimpArgs false

set_option maxHeartbeats 2000000 in
theorem IndexFunc_v (p : RowT → Bool) (A : Option Addr) (c : Nat) (l : List RowT) (g : Nat) (first caps : Array Value) (w : World)
    (hr : Kr.C w A l.length l) (hc : l.length ≤ c) (hbig : l.length ≤ 9223372036854775807) (eg : EntersG g)
    (hp : ∀ x, x ∈ l → Answers w g (first.push x.v ++ caps) (.bool (p x))) :
    Calls Try.prog 181 #[.slice A l.length c, .func (.func g) first caps] w fun e w' => e = .returned (I (idx p l)) ∧ Grew w w' := by
  have HR := Aside0.mk hr
  have HC := Aside0.mk hc
  have HP := Aside0.mk hp
  clear hr hc hp
  go_enter Try.func181, Try.ntmps181
  go_wp2
  go_loopg [5, 8] l.length (fun gg _ s8 wr => ∃ kk : Nat, kk ≤ l.length ∧ l.length - kk ≤ gg ∧ s8 = .int .i64 kk ∧ Aside0 (Grew w wr) ∧ Aside0 (∀ j (h : j < l.length), j < kk → p l[j] = false))
  case atStart => exact ⟨0, Nat.zero_le _, by omega, rfl, ⟨Below.refl _ w⟩, ⟨fun j _ hj => absurd hj (Nat.not_lt_zero _)⟩⟩
  case round =>
    obtain ⟨kk, hkk, hg, rfl, BW, A0⟩ := hrel
    by_cases hlt : kk < l.length
    · have hltz : (kk : Int) < (l.length : Int) := by omega
      obtain ⟨ad, e0, hx⟩ := Kr_read (Kd.C_below HR.out BW.out) kk hlt
      cases e0
      have hcall := HP.out l[kk] (by simp) wr BW.out
      generalize hy : l[kk] = y at hx hcall
      have B := Aside0.mk hy
      clear hy
      cases hq : p y with
      | true =>
        rw [hq] at hcall
        go_wp2_with fail
        refine hcall.mono ?_
        rintro e w' ⟨rfl, hb'⟩
        clear hcall
        go_wp2_with fail
        go_ret
        refine ⟨?_, Grew.trans BW.out hb'⟩
        rw [idx_hit p l kk hlt (by rw [B.out]; exact hq) (fun j hj => A0.out j (by omega) hj)]
        rfl
      | false =>
        rw [hq] at hcall
        go_wp2_with fail
        refine hcall.mono ?_
        rintro e w' ⟨rfl, hb'⟩
        clear hcall
        go_wp2_with fail
        go_roundg (l.length - (kk + 1))
        case measure => omega
        case rel =>
          refine ⟨kk + 1, by omega, by omega, by go_num, ⟨Grew.trans BW.out hb'⟩, ⟨fun j h hj => ?_⟩⟩
          by_cases e : j = kk
          · subst e
            rw [B.out]; exact hq
          · exact A0.out j h (by omega)
    · have hltz : ¬ (kk : Int) < (l.length : Int) := by omega
      have e : kk = l.length := by omega
      have H := idx_miss p l (fun j hj => A0.out j hj (by omega))
      have HM := Aside0.mk H
      clear H e
      go_wp2
      go_ret
      exact ⟨by rw [HM.out]; rfl, BW.out⟩

set_option maxHeartbeats 2000000 in
theorem ContainsFunc_v (p : RowT → Bool) (A : Option Addr) (c : Nat) (l : List RowT) (g : Nat) (first caps : Array Value) (w : World)
    (hr : Kr.C w A l.length l) (hc : l.length ≤ c) (hbig : l.length ≤ 9223372036854775807) (eg : EntersG g)
    (hp : ∀ x, x ∈ l → Answers w g (first.push x.v ++ caps) (.bool (p x))) :
    Calls Try.prog 161 #[.slice A l.length c, .func (.func g) first caps] w fun e w' => e = .returned (.bool (l.any p)) ∧ Grew w w' := by
  rw [← idx_nonneg]
  have H := Aside0.mk (IndexFunc_v p A c l g first caps w hr hc hbig eg hp)
  clear hr hc hbig hp
  go_enter Try.func161, Try.ntmps161
  go_wp2_with fail
  refine H.out.mono ?_
  rintro e w' ⟨rfl, hb'⟩
  go_wp2_with fail
  go_ret
  exact ⟨by rfl, hb'⟩

set_option maxHeartbeats 1000000 in
theorem areAll1_v (b : Bool) (x : RowT) (B : Nat) (g : Nat) (first caps : Array Value) (w : World)
    (hB : w.cell? ⟨B, 0, none⟩ = some (.func (.func g) first caps)) (eg : EntersG g)
    (hp : Answers w g (first.push x.v ++ caps) (.bool b)) :
    Calls Try.prog 162 #[x.v, .pointer (some ⟨B, 0, none⟩)] w fun e w' => e = .returned (.bool (!b)) ∧ Grew w w' := by
  have HP := Aside0.mk hp
  clear hp
  go_enter Try.func162, Try.ntmps162
  go_wp2_with fail
  refine (HP.out _ (Grew.refl _)).mono ?_
  rintro e w' ⟨rfl, hb'⟩
  cases b <;> go_wp2_with fail
  all_goals go_ret
  all_goals exact ⟨by rfl, hb'⟩

set_option maxHeartbeats 1000000 in
theorem areAll_v (p : RowT → Bool) (A : Option Addr) (c : Nat) (l : List RowT) (g : Nat) (first caps : Array Value) (w : World)
    (hr : Kr.C w A l.length l) (hc : l.length ≤ c) (hbig : l.length ≤ 9223372036854775807) (eg : EntersG g)
    (hp : ∀ x, x ∈ l → Answers w g (first.push x.v ++ caps) (.bool (p x))) :
    Calls Try.prog 136 #[.slice A l.length c, .func (.func g) first caps] w fun e w' => e = .returned (.bool (l.all p)) ∧ Grew w w' := by
  have HR := Aside0.mk hr
  have HC := Aside0.mk hc
  have HP := Aside0.mk hp
  have hg : Grew w (w.alloc (.cells #[.func (.func g) first caps] 93)) := below_alloc (Below.refl _ _) _
  have H := Aside0.mk (ContainsFunc_v (fun x => !p x) A c l 162 #[] #[.pointer (some ⟨w.heap.size, 0, none⟩)] (w.alloc (.cells #[.func (.func g) first caps] 93))
    (Kd.C_below HR.out hg) hc hbig (enters_of Try.func162 (by kernel_rfl) rfl) (fun x hx W hW =>
      areAll1_v (p x) x w.heap.size g first caps W (blk_cell (blk_below (blk_new w _) hW) 0) eg (((HP.out x hx).later hg).later hW)))
  have hall : l.all p = !(l.any fun x => !p x) := by
    rw [List.not_any_eq_all_not]; simp
  rw [hall]
  clear hr hc hp hall
  generalize (l.any fun x => !p x) = b at H ⊢
  go_enter Try.func136, Try.ntmps136
  go_wp2_with fail
  refine H.out.mono ?_
  rintro e w' ⟨rfl, hb'⟩
  have HG := Aside0.mk (Grew.trans hg hb')
  clear hb' hg
  cases b <;> go_wp2_with fail
  all_goals go_ret
  all_goals exact ⟨by rfl, HG.out⟩

end Go.Proofs.Ytniikppojffiaaa.K
end

section
/- Functions on a complex: the code of functions. -/
namespace Go.Proofs.Ytniikppojffiaaa.K
open Go.RowKit Go.Shelf Go.Proofs.Ytniikppojffiaaa.Q Go.Proofs.YtniikppojffiaaaW.PrintWords Go.Proofs.YtniikppojffiaaaW.PrintLast Go.Proofs.YtniikppojffiaaaW.PrintMore
set_option linter.unusedVariables false
set_option linter.unusedSimpArgs false

theorem isValue_calls (x : Int) (w : World) : Calls Try.prog 163 #[I x] w fun e w' => e = .returned (.bool (isVal x)) ∧ Grew w w' :=
  (impl_isValue.calls x (isVal x) w (by unfold impl_isValue.f; rw [within_is]; rfl)).mono fun e w' ⟨he, hd⟩ => ⟨he, hd.below⟩
set_option maxHeartbeats 2000000 in
theorem isFunction_calls (n : Int) (A : Option Addr) (c : Nat) (l : List Int) (A2 : Option Addr) (c2 : Nat) (xs : List Int) (w : World) (hk : Kx w A c l) (hr : Ki.C w A2 xs.length xs) (hc : xs.length ≤ c2) :
    Calls Try.prog 137 #[.agg #[I n, .slice A l.length c], .slice A2 xs.length c2] w fun e w' => e = .returned (.bool (funB l xs)) ∧ Grew w w' := by
  have H := Aside0.mk (fun W (hW : Grew w W) => areAll_int isVal A2 c2 xs 163 #[] #[] W (Kd.C_below hr hW) hc (Kd.C_max hr) (enters_of Try.func163 (by kernel_rfl) rfl)
    (fun x hx W2 hW2 => isValue_calls x W2))
  have hB : CB (w.alloc (.cells #[I n, .slice A l.length c] 30)) w.heap.size n (.slice A l.length c) := blk_new w _
  have HG : Aside0 (Grew w (w.alloc (.cells #[I n, .slice A l.length c] 30))) := ⟨below_alloc (Grew.refl w) _⟩
  have k0 := hB.c0
  have k1 := hB.c1
  clear hk hr hc hB
  by_cases hl : xs.length = l.length
  · have HV : Aside0 (funB l xs = xs.all isVal) := ⟨by unfold funB; simp [hl]⟩
    rw [HV.out]
    clear HV
    have hlz : (xs.length : Int) = (l.length : Int) := by omega
    generalize xs.all isVal = r at H ⊢
    clear hl
    go_enter Try.func137, Try.ntmps137
    go_wp2_with fail
    refine (H.out _ HG.out).mono ?_
    rintro e w1 ⟨rfl, hG1⟩
    go_wp2_with fail
    go_ret
    exact ⟨rfl, Grew.trans HG.out hG1⟩
  · have HV : Aside0 (funB l xs = false) := ⟨by unfold funB; simp [hl]⟩
    rw [HV.out]
    clear HV
    have hlz : ¬ (xs.length : Int) = (l.length : Int) := by omega
    go_enter Try.func137, Try.ntmps137
    go_wp2_with fail
    go_ret
    exact ⟨rfl, HG.out⟩
set_option maxHeartbeats 2000000 in
theorem functionCode1_calls (b : Bool) {n : Int} (A : Option Addr) (c : Nat) {l : List Int} (A2 : Option Addr) (c2 : Nat) (vs : List RowT) {Bk Bq Bb : Nat} (w : World) (h0 : CB w Bk n (.slice A l.length c)) (h1 : w.cell? ⟨Bq, 0, none⟩ = some (.slice A2 vs.length c2)) (h2 : w.cell? ⟨Bb, 0, none⟩ = some (.bool b)) (hk : Kx w A c l) (hq : Kr.C w A2 vs.length vs) (hc2 : vs.length ≤ c2) (hv : RowsIn w vs) :
    Calls Try.prog 135 #[.pointer (some ⟨Bb, 0, none⟩), .pointer (some ⟨Bq, 0, none⟩), .pointer (some ⟨Bk, 0, none⟩)] w fun e w' => e = .returned (.bool (b && vs.all fun r => funB l r.xs)) ∧ Grew w w' := by
  have k0 := h0.c0
  have k1 := h0.c1
  have H := Aside0.mk (areAll_v (fun r => funB l r.xs) A2 c2 vs 137 #[.agg #[I n, .slice A l.length c]] #[] w hq hc2 (Kd.C_max hq) (enters_of Try.func137 (by kernel_rfl) rfl)
    (fun r hr W hW => isFunction_calls n A c l r.A r.c r.xs W (hk.later hW) (Kd.C_below (hv r hr).1 hW) (hv r hr).2.1))
  clear hk hq hc2 hv h0
  generalize (vs.all fun r => funB l r.xs) = r at H ⊢
  cases b with
  | false =>
    rw [Bool.false_and]
    go_enter Try.func135, Try.ntmps135
    go_wp2_with fail
    go_ret
    exact ⟨rfl, Grew.refl _⟩
  | true =>
    rw [Bool.true_and]
    go_enter Try.func135, Try.ntmps135
    go_wp2_with fail
    refine H.out.mono ?_
    rintro e w1 ⟨rfl, hG1⟩
    go_wp2_with fail
    go_ret
    exact ⟨rfl, hG1⟩
set_option maxHeartbeats 2000000 in
theorem functionCode_calls (b : Bool) (n : Int) (A : Option Addr) (c : Nat) (l : List Int) (A2 : Option Addr) (c2 : Nat) (vs : List RowT) (w : World) (hk : Kx w A c l) (hq : Kr.C w A2 vs.length vs) (hc2 : vs.length ≤ c2) (hv : RowsIn w vs) :
    Calls Try.prog 91 #[.agg #[I n, .slice A l.length c], .bool b, .slice A2 vs.length c2] w fun e w' => e = .returned (I (codeOf n l (b && vs.all fun r => funB l r.xs))) ∧ Grew w w' := by
  obtain ⟨W, hW⟩ : ∃ W, W = ((w.alloc (.cells #[I n, .slice A l.length c] 30)).alloc (.cells #[.bool b] 4)).alloc (.cells #[.slice A2 vs.length c2] 118) := ⟨_, rfl⟩
  have hB : CB W w.heap.size n (.slice A l.length c) := by rw [hW]; exact blk_alloc (blk_alloc (blk_new w _) _) _
  have hb : W.heap[w.heap.size + 1]? = some (.cells #[.bool b] 4 (0, 0)) := by
    rw [hW]
    have := blk_new (w.alloc (.cells #[I n, .slice A l.length c] 30)) (.cells #[.bool b] 4)
    rw [World.size_alloc] at this
    exact blk_alloc this _
  have hL : W.heap[w.heap.size + 2]? = some (.cells #[.slice A2 vs.length c2] 118 (0, 0)) := by
    rw [hW]
    have := blk_new ((w.alloc (.cells #[I n, .slice A l.length c] 30)).alloc (.cells #[.bool b] 4)) (.cells #[.slice A2 vs.length c2] 118)
    rwa [World.size_alloc, World.size_alloc] at this
  have hg : Grew w W := by rw [hW]; exact below_alloc (below_alloc (below_alloc (Grew.refl w) _) _) _
  have H := Aside0.mk (complexCode_calls (b && vs.all fun r => funB l r.xs) n A c l 135 #[] #[.pointer (some ⟨w.heap.size + 1, 0, none⟩), .pointer (some ⟨w.heap.size + 2, 0, none⟩), .pointer (some ⟨w.heap.size, 0, none⟩)] W (hk.later hg) (enters_of Try.func135 (by kernel_rfl) rfl)
    (fun hi W2 hW2 => by
      have := functionCode1_calls b A c A2 c2 vs W2 (blk_below hB hW2) (blk_cell (blk_below hL hW2) 0) (blk_cell (blk_below hb hW2) 0) (hk.later (Grew.trans hg hW2)) (Kd.C_below hq (Grew.trans hg hW2)) hc2 (hv.later (Grew.trans hg hW2))
      rw [Array.empty_append]
      exact this))
  have k0 := hB.c0
  have k1 := hB.c1
  have HG := Aside0.mk hg
  clear hk hq hc2 hB hL hg hv hb
  generalize codeOf n l (b && vs.all fun r => funB l r.xs) = cc at H ⊢
  subst hW
  go_enter Try.func91, Try.ntmps91
  go_wp2_with fail
  refine H.out.mono ?_
  rintro e w1 ⟨rfl, hG1⟩
  go_wp2_with fail
  go_ret
  exact ⟨rfl, Grew.trans HG.out hG1⟩

end Go.Proofs.Ytniikppojffiaaa.K
end

section
/- The code of Morse functions; IsMorseFunction, PairingOfFunction, IsFlat. -/
namespace Go.Proofs.Ytniikppojffiaaa.K
open Go.RowKit Go.Shelf Go.Proofs.Ytniikppojffiaaa.Q Go.Proofs.YtniikppojffiaaaW.PrintWords Go.Proofs.YtniikppojffiaaaW.PrintLast Go.Proofs.YtniikppojffiaaaW.PrintMore
set_option linter.unusedVariables false
set_option linter.unusedSimpArgs false

set_option maxHeartbeats 2000000 in
theorem morseCode_calls (n : Int) (A : Option Addr) (c : Nat) (l : List Int) (A2 : Option Addr) (c2 : Nat) (vs : List RowT) (w : World) (hk : Kx w A c l) (hq : Kr.C w A2 vs.length vs) (hc2 : vs.length ≤ c2) (hv : RowsIn w vs) :
    Calls Try.prog 93 #[.agg #[I n, .slice A l.length c], .slice A2 vs.length c2] w fun e w' => e = .returned (I (mcode n l (vs.all fun r => funB l r.xs) (vs.all fun r => morseB l r.xs))) ∧ Grew w w' := by
  have hB : CB (w.alloc (.cells #[I n, .slice A l.length c] 30)) w.heap.size n (.slice A l.length c) := blk_new w _
  have hg : Grew w (w.alloc (.cells #[I n, .slice A l.length c] 30)) := below_alloc (Grew.refl w) _
  have HC := Aside0.mk (functionCode_calls true n A c l A2 c2 vs _ (hk.later hg) (Kd.C_below hq hg) hc2 (hv.later hg))
  rw [Bool.true_and] at HC
  have HK := Aside0.mk hk
  have HQ := Aside0.mk hq
  have HC2 := Aside0.mk hc2
  have HV := Aside0.mk hv
  have HB := Aside0.mk hB
  have HG := Aside0.mk hg
  have k0 := hB.c0
  have k1 := hB.c1
  clear hk hq hc2 hB hg hv
  by_cases hz : codeOf n l (vs.all fun r => funB l r.xs) = 0
  · obtain ⟨hi, hb⟩ := codeOf_zero hz
    have HA : Aside0 (∀ W, Grew w W → Calls Try.prog 136 #[.slice A2 vs.length c2, .func (.func 92) #[.agg #[I n, .slice A l.length c]] #[]] W fun e w' => e = .returned (.bool (vs.all fun r => morseB l r.xs)) ∧ Grew W w') := ⟨fun W hW =>
      areAll_v (fun r => morseB l r.xs) A2 c2 vs 92 #[.agg #[I n, .slice A l.length c]] #[] W (Kd.C_below HQ.out hW) HC2.out (Kd.C_max HQ.out) (enters_of Try.func92 (by kernel_rfl) rfl)
        (fun r hr W2 hW2 => by
          rw [List.all_eq_true] at hb
          exact isMorse_calls A c hi r.A r.c (hb r hr) W2 (HK.out.later (Grew.trans hW hW2)) (Kd.C_below (HV.out r hr).1 (Grew.trans hW hW2)) (HV.out r hr).2.1)⟩
    have HM : Aside0 (mcode n l (vs.all fun r => funB l r.xs) (vs.all fun r => morseB l r.xs) = if (vs.all fun r => morseB l r.xs) then 0 else 5) := ⟨by unfold mcode; rw [if_pos hz]⟩
    rw [HM.out]
    rw [hz] at HC
    clear HM hz hi hb
    generalize (vs.all fun r => morseB l r.xs) = b at HA ⊢
    go_enter Try.func93, Try.ntmps93
    go_wp2_with fail
    refine HC.out.mono ?_
    rintro e w1 ⟨rfl, hG1⟩
    have hB1 := CB.later HB.out hG1
    have HG1 := Aside0.mk (Grew.trans HG.out hG1)
    clear hG1 k0 k1
    have k0 := hB1.c0
    have k1 := hB1.c1
    clear hB1
    go_wp2_with fail
    refine (HA.out _ HG1.out).mono ?_
    rintro e w2 ⟨rfl, hG2⟩
    cases b <;> go_wp2_with fail
    all_goals go_ret
    all_goals exact ⟨by rfl, Grew.trans HG1.out hG2⟩
  · have HM : Aside0 (mcode n l (vs.all fun r => funB l r.xs) (vs.all fun r => morseB l r.xs) = codeOf n l (vs.all fun r => funB l r.xs)) := ⟨by unfold mcode; rw [if_neg hz]⟩
    rw [HM.out]
    clear HM
    generalize codeOf n l (vs.all fun r => funB l r.xs) = cc at HC hz ⊢
    go_enter Try.func93, Try.ntmps93
    go_wp2_with fail
    refine HC.out.mono ?_
    rintro e w1 ⟨rfl, hG1⟩
    have HG1 := Aside0.mk (Grew.trans HG.out hG1)
    clear hG1 k0 k1
    go_wp2_with fail
    go_ret
    exact ⟨rfl, HG1.out⟩
theorem V_in {W : World} {A : Option Addr} {c : Nat} {xs : List Int} (h : Ki.C W A xs.length xs) (hc : xs.length ≤ c) : Kd.V (Kd.int .i64) 2 W W.heap.size (fun k => k < W.heap.size) (.slice A xs.length c) xs := Kd.V_mk hc (Kd.C_F (Kd.heap_int .i64) h)
end Go.Proofs.Ytniikppojffiaaa.K
end

section
/- Written by a program of this session (myprint.py over the kit's print). -/
namespace Go.Proofs.Ytniikppojffiaaa.Q
open Go.RowKit Go.Proofs.YtniikppojffiaaaW.PrintWords Go.Proofs.YtniikppojffiaaaW.PrintLast Go.Proofs.YtniikppojffiaaaW.PrintMore
attribute [local go_sem] max2_int min2_int max_two min_two max_three min_three max_four min_four   -- for this text's walks alone
set_option linter.unusedVariables false
set_option linter.unusedSimpArgs false

attribute [local go_sem high] eqA53
/-! ### impl_Pair: function 95 -/
def impl_Pair.l0 : Nat → List (S53) → List (S53) → Int → Int → Option (Bool)
  | 0, _, _, _, _ => none
  | k + 1, x0, x1, x12, x13 => if x13 < x12 then (if 0 ≤ x13 then (if x13 < (x0.length : Int) then (if x13 < (x1.length : Int) then (if (!(((rd_T53 x0 x13).f0) == ((rd_T53 x1 x13).f0)) || (!(((rd_T53 x0 x13).f1) == ((rd_T53 x1 x13).f1)))) = true then (some false) else (impl_Pair.l0 k x0 x1 x12 (wrap64 (x13 + 1)))) else (none)) else (none)) else (none)) else (some true)
def impl_Pair.f (k : Nat) (l0 : List (S53)) (l1 : List (S53)) : Option (Bool) := if (l0.length : Int) = (l1.length : Int) then (impl_Pair.l0 k l0 l1 (l0.length : Int) 0) else (some false)
theorem impl_Pair.mono_l : ∀ k, (∀ y0 y1 y2 y3, LeO (impl_Pair.l0 k y0 y1 y2 y3) (impl_Pair.l0 (k + 1) y0 y1 y2 y3))
  | 0 => fun _ _ _ _ r h => by simp [impl_Pair.l0] at h
  | k + 1 => by
    have ih0 := impl_Pair.mono_l k
    · intro y0 y1 y2 y3
      unfold impl_Pair.l0
      repeat' first
      | (with_reducible exact ih0 _ _ _ _)
      | (with_reducible exact LeO.refl _)
      | (with_reducible exact LeO.none _)
      | (with_reducible refine LeO.ite ?_ ?_)
      | (with_reducible refine LeO.bind ?_ (fun _ => ?_))
      | exact ih0 _ _ _ _
      | exact LeO.none _
      | refine LeO.ite ?_ ?_
      | refine LeO.bind ?_ (fun _ => ?_)
theorem impl_Pair.mono : ∀ a0 a1 k, LeO (impl_Pair.f k a0 a1) (impl_Pair.f (k + 1) a0 a1) := by
  intro a0 a1 k
  have ih0 := impl_Pair.mono_l k
  unfold impl_Pair.f
  repeat' first
      | (with_reducible exact ih0 _ _ _ _)
      | (with_reducible exact LeO.refl _)
      | (with_reducible exact LeO.none _)
      | (with_reducible refine LeO.ite ?_ ?_)
      | (with_reducible refine LeO.bind ?_ (fun _ => ?_))
      | exact ih0 _ _ _ _
      | exact LeO.none _
      | refine LeO.ite ?_ ?_
      | refine LeO.bind ?_ (fun _ => ?_)
set_option maxHeartbeats 8000000 in
set_option maxRecDepth 100000 in
theorem impl_Pair.calls (k : Nat) (A0 : Option Addr) (c0 : Nat) (l0 : List (S53)) (A1 : Option Addr) (c1 : Nat) (l1 : List (S53)) (r : Bool) (w : World) (hr0 : Kd.C k53 w A0 l0.length l0) (hc0 : l0.length ≤ c0) (hr1 : Kd.C k53 w A1 l1.length l1) (hc1 : l1.length ≤ c1) (h : impl_Pair.f k l0 l1 = some r) :
    Calls Try.prog 95 #[.slice A0 l0.length c0, .slice A1 l1.length c1] w fun e w' => e = .returned (.bool r) ∧ Drawn0 w w' := by
  have hu53 := Try.underlying53
  have HR0 := Aside0.mk hr0
  have HC0 := Aside0.mk hc0
  clear hr0 hc0
  have HR1 := Aside0.mk hr1
  have HC1 := Aside0.mk hc1
  clear hr1 hc1
  have H : (if (l0.length : Int) = (l1.length : Int) then (impl_Pair.l0 k l0 l1 (l0.length : Int) 0) else (some false)) = some r := h
  clear h
  by_cases c3 : (l0.length : Int) = (l1.length : Int)
  · rw [if_pos c3] at H
    have c3b0 : ((l0.length : Int) == (l1.length : Int)) = true := beq_iff_eq.mpr c3
    have c3b1 : ((l0.length : Int) != (l1.length : Int)) = false := bne_eq_false_iff_eq.mpr c3
    have c3b2 : (l0.length == l1.length) = true := by first | simpa using c3 | (simp at c3 ⊢; omega)
    clear c3
    have H' := Aside0.mk H
    clear H
    go_enter Try.func95, Try.ntmps95
    go_wp2
    repeat (go_quiet (fail); try go_wp2)
    go_loopg [13] k (fun kq v13 w' => ∃ (x13_1 : Int), v13 = .int .i64 x13_1 ∧ Aside0 (impl_Pair.l0 kq l0 l1 (l0.length : Int) x13_1 = some r) ∧ Aside0 (kq ≤ k) ∧ Drawn0 w w')
    case atStart => exact ⟨(0), (by first | rfl | (simp; done) | (simp [*]; done)), H', ⟨Nat.le_refl _⟩, by repeat (first | exact Drawn0.refl _ | apply Drawn0.step)⟩
    case round =>
      clear H'
      try clear c1
      try clear p2
      try clear c3
      try clear c3b0
      try clear c3b1
      try clear c3b2
      obtain ⟨x13_1, rfl, HA, HK1, ⟨m1, rfl⟩⟩ := hrel
      cases gk with
      | zero => exact absurd HA.out (by simp [impl_Pair.l0])
      | succ k1 =>
        have H := HA.out
        clear HA
        simp only [impl_Pair.l0] at H
        by_cases c4 : x13_1 < (l0.length : Int)
        · rw [if_pos c4] at H
          have c4b0 : decide (x13_1 < (l0.length : Int)) = true := decide_eq_true c4
          clear c4
          by_cases c5 : 0 ≤ x13_1
          · rw [if_pos c5] at H
            have c5b0 : decide (0 ≤ x13_1) = true := decide_eq_true c5
            clear c5
            by_cases c6 : x13_1 < (l0.length : Int)
            · rw [if_pos c6] at H
              have c6b0 : decide (x13_1 < (l0.length : Int)) = true := decide_eq_true c6
              clear c6
              by_cases c7 : x13_1 < (l1.length : Int)
              · rw [if_pos c7] at H
                have c7b0 : decide (x13_1 < (l1.length : Int)) = true := decide_eq_true c7
                clear c7
                by_cases c8 : (!(((rd_T53 l0 x13_1).f0) == ((rd_T53 l1 x13_1).f0)) || (!(((rd_T53 l0 x13_1).f1) == ((rd_T53 l1 x13_1).f1)))) = true
                · rw [if_pos c8] at H
                  have c8b0 : (!(((rd_T53 l0 x13_1).f0) == ((rd_T53 l1 x13_1).f0)) || (!(((rd_T53 l0 x13_1).f1) == ((rd_T53 l1 x13_1).f1)))) = true := c8
                  clear c8
                  obtain rfl := Option.some.inj H
                  have p630 : 0 ≤ (x13_1 : Int) := of_decide_eq_true (by first | (with_reducible assumption) | assumption)
                  have q630 : x13_1 < (l0.length : Int) := of_decide_eq_true (by first | (with_reducible assumption) | assumption)
                  obtain ⟨ad630, e630, hx630_0, hx630_1⟩ := at_T53 HR0.out x13_1 p630 q630
                  cases e630
                  replace p630 := eq_true p630
                  replace q630 := eq_true q630
                  have p631 : 0 ≤ (x13_1 : Int) := of_decide_eq_true (by first | (with_reducible assumption) | assumption)
                  have q631 : x13_1 < (l1.length : Int) := of_decide_eq_true (by first | (with_reducible assumption) | assumption)
                  obtain ⟨ad631, e631, hx631_0, hx631_1⟩ := at_T53 HR1.out x13_1 p631 q631
                  cases e631
                  replace p631 := eq_true p631
                  replace q631 := eq_true q631
                  go_wp2
                  repeat (go_quiet (fail); try go_wp2)
                  go_ret
                  exact ⟨by first | rfl | (simp; done) | (simp [*]; done), by repeat (first | exact Drawn0.refl _ | apply Drawn0.step)⟩
                · rw [if_neg c8] at H
                  have c8b0 : (!(((rd_T53 l0 x13_1).f0) == ((rd_T53 l1 x13_1).f0)) || (!(((rd_T53 l0 x13_1).f1) == ((rd_T53 l1 x13_1).f1)))) = false := by simpa using c8
                  clear c8
                  have H' := Aside0.mk H
                  clear H
                  have p630 : 0 ≤ (x13_1 : Int) := of_decide_eq_true (by first | (with_reducible assumption) | assumption)
                  have q630 : x13_1 < (l0.length : Int) := of_decide_eq_true (by first | (with_reducible assumption) | assumption)
                  obtain ⟨ad630, e630, hx630_0, hx630_1⟩ := at_T53 HR0.out x13_1 p630 q630
                  cases e630
                  replace p630 := eq_true p630
                  replace q630 := eq_true q630
                  have p631 : 0 ≤ (x13_1 : Int) := of_decide_eq_true (by first | (with_reducible assumption) | assumption)
                  have q631 : x13_1 < (l1.length : Int) := of_decide_eq_true (by first | (with_reducible assumption) | assumption)
                  obtain ⟨ad631, e631, hx631_0, hx631_1⟩ := at_T53 HR1.out x13_1 p631 q631
                  cases e631
                  replace p631 := eq_true p631
                  replace q631 := eq_true q631
                  go_wp2
                  repeat (go_quiet (fail); try go_wp2)
                  go_roundg k1
                  case measure => have := HK1.out; omega
                  case rel => exact ⟨(wrap64 (x13_1 + 1)), (by first | rfl | (simp; done) | (simp [*]; done)), H', ⟨by have := HK1.out; omega⟩, by repeat (first | exact Drawn0.refl _ | apply Drawn0.step)⟩
              · rw [if_neg c7] at H
                exact absurd H (by simp)
            · rw [if_neg c6] at H
              exact absurd H (by simp)
          · rw [if_neg c5] at H
            exact absurd H (by simp)
        · rw [if_neg c4] at H
          have c4b0 : decide (x13_1 < (l0.length : Int)) = false := decide_eq_false c4
          clear c4
          obtain rfl := Option.some.inj H
          go_wp2
          repeat (go_quiet (fail); try go_wp2)
          go_ret
          exact ⟨by first | rfl | (simp; done) | (simp [*]; done), by repeat (first | exact Drawn0.refl _ | apply Drawn0.step)⟩
  · rw [if_neg c3] at H
    have c3b0 : ((l0.length : Int) == (l1.length : Int)) = false := beq_eq_false_iff_ne.mpr c3
    have c3b1 : ((l0.length : Int) != (l1.length : Int)) = true := bne_iff_ne.mpr c3
    have c3b2 : (l0.length == l1.length) = false := by first | simpa using c3 | (simp at c3 ⊢; omega)
    obtain rfl := Option.some.inj H
    go_enter Try.func95, Try.ntmps95
    go_wp2
    repeat (go_quiet (fail); try go_wp2)
    go_ret
    exact ⟨by first | rfl | (simp; done) | (simp [*]; done), by repeat (first | exact Drawn0.refl _ | apply Drawn0.step)⟩

end Go.Proofs.Ytniikppojffiaaa.Q
end

section
/- AreEquivalent: the program's. -/
namespace Go.Proofs.Ytniikppojffiaaa.K
open Go.RowKit Go.Shelf Go.Proofs.Ytniikppojffiaaa.Q Go.Proofs.YtniikppojffiaaaW.PrintWords Go.Proofs.YtniikppojffiaaaW.PrintLast Go.Proofs.YtniikppojffiaaaW.PrintMore
set_option linter.unusedVariables false
set_option linter.unusedSimpArgs false

theorem pairs_eqI_loop (q r : List PairT) (hq : q.length ≤ 4000) (hqr : q.length = r.length) : ∀ (e i k : Nat), q.length - i = e → i ≤ q.length → e < k →
    impl_Pair.l0 k q r (q.length : Int) (i : Int) = some (eqPL (q.drop i) (r.drop i)) := by
  intro e
  induction e with
  | zero =>
    intro i k he hi hk
    obtain ⟨k, rfl⟩ : ∃ m, k = m + 1 := ⟨k - 1, by omega⟩
    obtain rfl : i = q.length := by omega
    simp only [impl_Pair.l0]
    rw [if_neg (by omega), List.drop_eq_nil_of_le (by omega), List.drop_eq_nil_of_le (by omega)]
    rfl
  | succ e ih =>
    intro i k he hi hk
    obtain ⟨k, rfl⟩ : ∃ m, k = m + 1 := ⟨k - 1, by omega⟩
    have hil : i < q.length := by omega
    have hir : i < r.length := by omega
    simp only [impl_Pair.l0]
    rw [if_pos (by omega), if_pos (by omega), if_pos (by omega), if_pos (by omega), rdP q i hil, rdP r i hir, w64 ((i : Int) + 1) (by omega) (by omega), nat_succ, ih (i + 1) k (by omega) (by omega) (by omega), List.drop_eq_getElem_cons hil, List.drop_eq_getElem_cons hir, eqPL]
    cases h1 : (q[i].f0 == r[i].f0) <;> cases h2 : (q[i].f1 == r[i].f1) <;> simp
theorem pairs_eqI (q r : List PairT) (hq : q.length ≤ 4000) (k : Nat) (hk : 4001 ≤ k) : impl_Pair.f k q r = some (eqPL q r) := by
  unfold impl_Pair.f
  by_cases he : q.length = r.length
  · have := pairs_eqI_loop q r hq he q.length 0 k (by omega) (by omega) (by omega)
    rw [show ((0 : Nat) : Int) = 0 from rfl, List.drop_zero, List.drop_zero] at this
    rw [if_pos (by omega), this]
  · rw [if_neg (by omega), eqPL_len _ _ he]
set_option maxRecDepth 100000 in
set_option maxHeartbeats 4000000 in
theorem Eqv_calls (n : Int) (A : Option Addr) (c : Nat) (l : List Int) (A2 : Option Addr) (c2 : Nat) (xs : List Int) (A5 : Option Addr) (c5 : Nat) (ys : List Int) (w : World) (hk : Kx w A c l) (hx : Ki.C w A2 xs.length xs) (hc2 : xs.length ≤ c2) (hx2 : xs.length ≤ 2097152) (hy : Ki.C w A5 ys.length ys) (hc5 : ys.length ≤ c5) (hy2 : ys.length ≤ 2097152) :
    Calls Try.prog 54 #[.agg #[I n, .slice A l.length c], .slice A2 xs.length c2, .slice A5 ys.length c5] w fun e w' => e = .returned (.tuple #[.bool (eqvA n l xs ys), I (mcode n l (funB l xs && funB l ys) (morseB l xs && morseB l ys))]) ∧ Grew w w' := by
  have hB : CB (w.alloc (.cells #[I n, .slice A l.length c] 30)) w.heap.size n (.slice A l.length c) := blk_new w _
  have HG : Aside0 (Grew w (w.alloc (.cells #[I n, .slice A l.length c] 30))) := ⟨below_alloc (Grew.refl w) _⟩
  have hL : ((w.alloc (.cells #[I n, .slice A l.length c] 30)).alloc (.cells #[.slice A2 xs.length c2, .slice A5 ys.length c5] 22)).heap[w.heap.size + 1]? = some (.cells #[.slice A2 xs.length c2, .slice A5 ys.length c5] 22 (0, 0)) := by
    have := blk_new (w.alloc (.cells #[I n, .slice A l.length c] 30)) (.cells #[.slice A2 xs.length c2, .slice A5 ys.length c5] 22)
    rwa [World.size_alloc] at this
  have h := morseCode_calls n A c l (some ⟨w.heap.size + 1, 0, none⟩) 2 [⟨A2, c2, xs⟩, ⟨A5, c5, ys⟩] _ (hk.later (below_alloc HG.out _)) (Kr_of (vs := [⟨A2, c2, xs⟩, ⟨A5, c5, ys⟩]) _ 22 hL (by simp)) (Nat.le_refl _) (fun r hr => by
    rcases List.mem_cons.1 hr with e | hr
    · rw [e]; exact ⟨Kd.C_below hx (below_alloc HG.out _), hc2, hx2⟩
    · rw [List.mem_singleton.1 hr]; exact ⟨Kd.C_below hy (below_alloc HG.out _), hc5, hy2⟩)
  simp only [List.all_cons, List.all_nil, Bool.and_true, List.length_cons, List.length_nil] at h
  have HC := Aside0.mk h
  have HK := Aside0.mk hk
  have HX := Aside0.mk hx
  have HY := Aside0.mk hy
  have HC2 := Aside0.mk hc2
  have HC5 := Aside0.mk hc5
  have HB := Aside0.mk hB
  have k0 := hB.c0
  have k1 := hB.c1
  clear hk hx hc2 hB hy hc5 hL h
  obtain ⟨cc, hcc⟩ : ∃ cc, cc = mcode n l (funB l xs && funB l ys) (morseB l xs && morseB l ys) := ⟨_, rfl⟩
  have HCC := Aside0.mk hcc
  rw [← hcc] at HC ⊢
  clear hcc
  by_cases hz : cc = 0
  · obtain ⟨hi, hb, hm⟩ := mcode_zero (by rw [← HCC.out]; exact hz)
    simp only [Bool.and_eq_true] at hb
    have HV : Aside0 (eqvA n l xs ys = eqPL (fallL l xs) (fallL l ys)) := ⟨by unfold eqvA; rw [← HCC.out, if_pos hz]⟩
    have HA1 : Aside0 (∀ W, Grew w W → Calls Try.prog 94 #[.agg #[I n, .slice A l.length c], .slice A2 xs.length c2] W fun e w' => ∃ v, e = .returned v ∧ Kq.R 53 w' W.heap.size (fun _ => True) v (fallL l xs) ∧ Grew W w') := ⟨fun W hW => falling_calls A c hi A2 c2 hb.1 W (HK.out.later hW) (Kd.C_below HX.out hW) HC2.out⟩
    have HA2 : Aside0 (∀ W, Grew w W → Calls Try.prog 94 #[.agg #[I n, .slice A l.length c], .slice A5 ys.length c5] W fun e w' => ∃ v, e = .returned v ∧ Kq.R 53 w' W.heap.size (fun _ => True) v (fallL l ys) ∧ Grew W w') := ⟨fun W hW => falling_calls A c hi A5 c5 hb.2 W (HK.out.later hW) (Kd.C_below HY.out hW) HC5.out⟩
    have HQ1 := Aside0.mk (Nat.le_trans (fall_len (f := xs) hi) (by decide : 3969 ≤ 4000))
    rw [HV.out]
    subst hz
    clear hi hb hm HV HCC
    generalize fallL l xs = q at HA1 HQ1 ⊢
    generalize fallL l ys = r at HA2 ⊢
    have HEQ : Aside0 (∀ A3 c3 A4 c4 W, Kq.C W A3 q.length q → q.length ≤ c3 → Kq.C W A4 r.length r → r.length ≤ c4 → Calls Try.prog 95 #[.slice A3 q.length c3, .slice A4 r.length c4] W fun e w' => e = .returned (.bool (eqPL q r)) ∧ Grew W w') := ⟨fun A3 c3 A4 c4 W h1 h2 h3 h4 => (impl_Pair.calls 4001 A3 c3 q A4 c4 r _ W h1 h2 h3 h4 (pairs_eqI q r HQ1.out _ (Nat.le_refl _))).mono fun e w' ⟨he, hd⟩ => ⟨he, hd.below⟩⟩
    generalize eqPL q r = b at HEQ ⊢
    go_enter Try.func54, Try.ntmps54
    go_wp2_with fail
    refine HC.out.mono ?_
    rintro e w1 ⟨rfl, hG1⟩
    have HB1 := Aside0.mk (CB.later (blk_alloc HB.out _) hG1)
    have HG1 := Aside0.mk (Grew.trans (below_alloc HG.out _) hG1)
    clear hG1 k0 k1
    have k0 := HB1.out.c0
    have k1 := HB1.out.c1
    have hl0 := World.block_lt_of_cell? w1 _ k0
    go_wp2_with fail
    refine start_ (n := 9) (S := fun w' => w'.cell? ⟨w.heap.size, 0, none⟩ = some (I n) ∧ w'.cell? ⟨w.heap.size, 1, none⟩ = some (.slice A l.length c)) (ds := []) #[O,O,O,O,O,O,O,O,O] (by kernel_rfl) rfl rfl ⟨(Below.cell (w := w1) (below_drew (Grew.refl w1)) (p := ⟨w.heap.size, 0, none⟩) hl0).trans k0, (Below.cell (w := w1) (below_drew (Grew.refl w1)) (p := ⟨w.heap.size, 1, none⟩) hl0).trans k1⟩ (fun hHeld => ?_)
    refine pure_ (i := 1) (N := some 18) (v := ?_) (a' := ?_) #[O,U,O,O,O,O,O,O,O] rfl rfl (by kernel_rfl) (fun _ _ _ h => h) (Or.inl ⟨by rfl, ?_⟩) ?_ ?_
    rotate_left
    · intro w'
      go_simp
      with_reducible rfl
    rotate_left
    · simp only [nm_]
      rfl
    refine pure_ (i := 4) (N := some 21) (v := ?_) (a' := ?_) #[O,U,O,O,U,O,O,O,O] rfl rfl (by kernel_rfl) (fun _ _ _ h => h) (Or.inl ⟨by rfl, ?_⟩) ?_ ?_
    rotate_left
    · intro w'
      go_simp
      with_reducible rfl
    rotate_left
    · simp only [nm_]
      rfl
    refine take_ (i := 0) (N := some 17) (v := ?_) (a' := ?_) #[U,U,O,O,U,O,O,O,O] rfl rfl (by kernel_rfl) (fun _ _ _ h => h) (Or.inl ⟨by rfl, ?_⟩) hHeld ?_ ?_
    rotate_left
    · rintro w' ⟨s0, s1⟩
      go_simp
      with_reducible rfl
    rotate_left
    · simp only [nm_]
      rfl
    refine take_ (i := 3) (N := some 20) (v := ?_) (a' := ?_) #[U,U,O,U,U,O,O,O,O] rfl rfl (by kernel_rfl) (fun _ _ _ h => h) (Or.inl ⟨by rfl, ?_⟩) hHeld ?_ ?_
    rotate_left
    · rintro w' ⟨s0, s1⟩
      go_simp
      with_reducible rfl
    rotate_left
    · simp only [nm_]
      rfl
    refine one_ (i := 2) (N := some 19) #[U,U,U,U,U,O,O,O,O] rfl rfl (by kernel_rfl) (by decide) (fun K hK => ?_)
    refine goes_ Try.func94 (by kernel_rfl) rfl #[.agg #[I n, .slice A l.length c], .slice A2 xs.length c2] (by rfl) rfl rfl (by simp only [List.map_toArray, List.map_cons, List.map_nil]; rfl) ?_
    with_reducible refine (HA1.out _ (Grew.trans HG1.out (below_drew (Grew.refl w1)))).mono ?_
    rintro e w3 ⟨v3, rfl, hR3, hGa⟩
    refine ⟨_, rfl, ?_⟩
    have HL := Aside0.mk (Grew.trans (below_drew (Grew.refl w1)) hGa)
    obtain ⟨A3, c3, hv3, hc3, hC3⟩ := Kd.R_reads hR3
    subst hv3
    have HR3 := Aside0.mk hC3
    have HC3 := Aside0.mk hc3
    clear hR3 hGa hC3 hc3
    refine hK.out _ _ ⟨(Below.cell (w := w1) HL.out (p := ⟨w.heap.size, 0, none⟩) hl0).trans k0, (Below.cell (w := w1) HL.out (p := ⟨w.heap.size, 1, none⟩) hl0).trans k1⟩ (fun hHeld => ?_)
    clear hK K
    refine norm_ (a' := ?_) ?_ ?_
    rotate_left
    · show Act.put _ (some 19) _ = _
      simp only [nm_]
      rfl
    refine one_ (i := 5) (N := some 22) #[U,U,U,U,U,U,O,O,O] rfl rfl (by kernel_rfl) (by decide) (fun K hK => ?_)
    refine goes_ Try.func94 (by kernel_rfl) rfl #[.agg #[I n, .slice A l.length c], .slice A5 ys.length c5] (by rfl) rfl rfl (by simp only [List.map_toArray, List.map_cons, List.map_nil]; rfl) ?_
    with_reducible refine (HA2.out _ (Grew.trans HG1.out HL.out)).mono ?_
    rintro e w4 ⟨v4, rfl, hR4, hGb⟩
    refine ⟨_, rfl, ?_⟩
    replace HL := Aside0.mk (Grew.trans HL.out hGb)
    replace HR3 := Aside0.mk (Kd.C_below HR3.out hGb)
    obtain ⟨A4, c4, hv4, hc4, hC4⟩ := Kd.R_reads hR4
    subst hv4
    have HR4 := Aside0.mk hC4
    have HC4 := Aside0.mk hc4
    clear hR4 hGb hC4 hc4
    refine hK.out _ _ ⟨(Below.cell (w := w1) HL.out (p := ⟨w.heap.size, 0, none⟩) hl0).trans k0, (Below.cell (w := w1) HL.out (p := ⟨w.heap.size, 1, none⟩) hl0).trans k1⟩ (fun hHeld => ?_)
    clear hK K
    refine norm_ (a' := ?_) ?_ ?_
    rotate_left
    · show Act.put _ (some 22) _ = _
      simp only [nm_]
      rfl
    refine one_ (i := 6) (N := some 23) #[U,U,U,U,U,U,U,O,O] rfl rfl (by kernel_rfl) (by decide) (fun K hK => ?_)
    refine goes_ Try.func95 (by kernel_rfl) rfl #[.slice A3 q.length c3, .slice A4 r.length c4] (by rfl) rfl rfl (by simp only [List.map_toArray, List.map_cons, List.map_nil]; rfl) ?_
    with_reducible refine (HEQ.out _ _ _ _ _ HR3.out HC3.out HR4.out HC4.out).mono ?_
    rintro e w5 ⟨rfl, hGc⟩
    refine ⟨_, rfl, ?_⟩
    replace HL := Aside0.mk (Grew.trans HL.out hGc)
    clear hGc
    refine hK.out _ _ ⟨(Below.cell (w := w1) HL.out (p := ⟨w.heap.size, 0, none⟩) hl0).trans k0, (Below.cell (w := w1) HL.out (p := ⟨w.heap.size, 1, none⟩) hl0).trans k1⟩ (fun hHeld => ?_)
    clear hK K
    refine norm_ (a' := ?_) ?_ ?_
    rotate_left
    · show Act.put _ (some 23) _ = _
      simp only [nm_]
      rfl
    refine pure_ (i := 7) (N := some 6) (v := ?_) (a' := ?_) #[U,U,U,U,U,U,U,U,O] rfl rfl (by kernel_rfl) (fun _ _ _ h => h) (Or.inl ⟨by rfl, ?_⟩) ?_ ?_
    rotate_left
    · intro w'
      go_simp
      with_reducible rfl
    rotate_left
    · simp only [nm_]
      rfl
    refine pure_ (i := 8) (N := some 7) (v := ?_) (a' := ?_) #[U,U,U,U,U,U,U,U,U] rfl rfl (by kernel_rfl) (fun _ _ _ h => h) (Or.inl ⟨by rfl, ?_⟩) ?_ ?_
    rotate_left
    · intro w'
      go_simp
      with_reducible rfl
    rotate_left
    · simp only [nm_]
      rfl
    refine done_ (by kernel_rfl) ?_
    go_wp2_with fail
    go_ret2
    exact ⟨rfl, Grew.trans HG1.out HL.out⟩
  · have HV : Aside0 (eqvA n l xs ys = false) := ⟨by unfold eqvA; rw [← HCC.out, if_neg hz]⟩
    rw [HV.out]
    clear HV HCC
    go_enter Try.func54, Try.ntmps54
    go_wp2_with fail
    refine HC.out.mono ?_
    rintro e w1 ⟨rfl, hG1⟩
    have HG1 := Aside0.mk (Grew.trans (below_alloc HG.out _) hG1)
    clear hG1 k0 k1
    go_wp2_with fail
    go_ret2
    exact ⟨rfl, HG1.out⟩

end Go.Proofs.Ytniikppojffiaaa.K
end

section
/- The walk through the law FnExactAreEquivalent. -/
namespace Go.Proofs.Ytniikppojffiaaa.K
open Go.RowKit Go.Shelf Go.Proofs.Ytniikppojffiaaa.Q Go.Proofs.YtniikppojffiaaaW.PrintWords Go.Proofs.YtniikppojffiaaaW.PrintLast Go.Proofs.YtniikppojffiaaaW.PrintMore
set_option linter.unusedVariables false
set_option linter.unusedSimpArgs false

set_option maxRecDepth 100000 in
set_option maxHeartbeats 8000000 in
theorem LAreEquivalent_i0 (n0 : Int) (A0 : Option Addr) (c0 : Nat) (l0 : List Int) (A1 : Option Addr) (c1 : Nat) (l1 : List Int) (A2 : Option Addr) (c2 : Nat) (l2 : List Int) (w : World) (hr0 : Ki.C w A0 l0.length l0) (hc0 : l0.length ≤ c0) (hr1 : Ki.C w A1 l1.length l1) (hc1 : l1.length ≤ c1) (hr2 : Ki.C w A2 l2.length l2) (hc2 : l2.length ≤ c2)  (hz : (1048576 : Int) < (l1.length : Int)) :
  Calls Try.prog 14 #[.agg #[I n0, .slice A0 l0.length c0], .slice A1 l1.length c1, .slice A2 l2.length c2] w fun e w' => e = .returned (.bool true) ∧ Grew w w' := by
 have hbig0 := hr0.2.1
 have HR0 := Aside0.mk hr0
 have HC0 := Aside0.mk hc0
 clear hr0 hc0
 have hbig1 := hr1.2.1
 have HR1 := Aside0.mk hr1
 have HC1 := Aside0.mk hc1
 clear hr1 hc1
 have hbig2 := hr2.2.1
 have HR2 := Aside0.mk hr2
 have HC2 := Aside0.mk hc2
 clear hr2 hc2
 obtain ⟨W0, hW0⟩ : ∃ W0, W0 = (w.alloc (.cells #[I n0, .slice A0 l0.length c0] 24)) := ⟨_, rfl⟩
 have hb_p0 : (Item.box w.heap.size 24 #[I n0, .slice A0 l0.length c0]).ok W0 := by
  rw [hW0]
  have := blk_new w (.cells #[I n0, .slice A0 l0.length c0] 24)
  exact this
 have HM0 : Aside0 (Mem W0 [.box w.heap.size 24 #[I n0, .slice A0 l0.length c0]]) := ⟨Mem.cons (it := .box w.heap.size 24 #[I n0, .slice A0 l0.length c0]) hb_p0 (Mem.nil _)⟩
 have HG0 : Aside0 (Grew w W0) := ⟨by rw [hW0]; exact below_alloc (Grew.refl w) _⟩
 have hs0 : W0.heap.size = w.heap.size + 1 := by rw [hW0]; simp
 clear hb_p0
 subst hW0
 go_enter Try.func14, Try.ntmps14
 go_wp2_with fail
 go_ret
 exact ⟨rfl, HG0.out⟩

set_option maxRecDepth 100000 in
set_option maxHeartbeats 8000000 in
theorem LAreEquivalent_i1 (n0 : Int) (A0 : Option Addr) (c0 : Nat) (l0 : List Int) (A1 : Option Addr) (c1 : Nat) (l1 : List Int) (A2 : Option Addr) (c2 : Nat) (l2 : List Int) (w : World) (hr0 : Ki.C w A0 l0.length l0) (hc0 : l0.length ≤ c0) (hr1 : Ki.C w A1 l1.length l1) (hc1 : l1.length ≤ c1) (hr2 : Ki.C w A2 l2.length l2) (hc2 : l2.length ≤ c2) (hn1 : ¬ (1048576 : Int) < (l1.length : Int)) (hz : (1048576 : Int) < (l2.length : Int)) :
  Calls Try.prog 14 #[.agg #[I n0, .slice A0 l0.length c0], .slice A1 l1.length c1, .slice A2 l2.length c2] w fun e w' => e = .returned (.bool true) ∧ Grew w w' := by
 have hbig0 := hr0.2.1
 have HR0 := Aside0.mk hr0
 have HC0 := Aside0.mk hc0
 clear hr0 hc0
 have hbig1 := hr1.2.1
 have HR1 := Aside0.mk hr1
 have HC1 := Aside0.mk hc1
 clear hr1 hc1
 have hbig2 := hr2.2.1
 have HR2 := Aside0.mk hr2
 have HC2 := Aside0.mk hc2
 clear hr2 hc2
 obtain ⟨W0, hW0⟩ : ∃ W0, W0 = (w.alloc (.cells #[I n0, .slice A0 l0.length c0] 24)) := ⟨_, rfl⟩
 have hb_p0 : (Item.box w.heap.size 24 #[I n0, .slice A0 l0.length c0]).ok W0 := by
  rw [hW0]
  have := blk_new w (.cells #[I n0, .slice A0 l0.length c0] 24)
  exact this
 have HM0 : Aside0 (Mem W0 [.box w.heap.size 24 #[I n0, .slice A0 l0.length c0]]) := ⟨Mem.cons (it := .box w.heap.size 24 #[I n0, .slice A0 l0.length c0]) hb_p0 (Mem.nil _)⟩
 have HG0 : Aside0 (Grew w W0) := ⟨by rw [hW0]; exact below_alloc (Grew.refl w) _⟩
 have hs0 : W0.heap.size = w.heap.size + 1 := by rw [hW0]; simp
 clear hb_p0
 subst hW0
 go_enter Try.func14, Try.ntmps14
 go_wp2_with fail
 go_ret
 exact ⟨rfl, HG0.out⟩

set_option maxRecDepth 100000 in
set_option maxHeartbeats 8000000 in
theorem LAreEquivalent_b0 (n0 : Int) (A0 : Option Addr) (c0 : Nat) (l0 : List Int) (A1 : Option Addr) (c1 : Nat) (l1 : List Int) (A2 : Option Addr) (c2 : Nat) (l2 : List Int) (w : World) (hr0 : Ki.C w A0 l0.length l0) (hc0 : l0.length ≤ c0) (hr1 : Ki.C w A1 l1.length l1) (hc1 : l1.length ≤ c1) (hr2 : Ki.C w A2 l2.length l2) (hc2 : l2.length ≤ c2) (hn1 : ¬ (1048576 : Int) < (l1.length : Int)) (hn2 : ¬ (1048576 : Int) < (l2.length : Int))  (hz : (1048576 : Int) < (l0.length : Int)) :
  Calls Try.prog 14 #[.agg #[I n0, .slice A0 l0.length c0], .slice A1 l1.length c1, .slice A2 l2.length c2] w fun e w' => e = .returned (.bool true) ∧ Grew w w' := by
 have hbig0 := hr0.2.1
 have HR0 := Aside0.mk hr0
 have HC0 := Aside0.mk hc0
 clear hr0 hc0
 have hbig1 := hr1.2.1
 have HR1 := Aside0.mk hr1
 have HC1 := Aside0.mk hc1
 clear hr1 hc1
 have hbig2 := hr2.2.1
 have HR2 := Aside0.mk hr2
 have HC2 := Aside0.mk hc2
 clear hr2 hc2
 obtain ⟨W0, hW0⟩ : ∃ W0, W0 = (w.alloc (.cells #[I n0, .slice A0 l0.length c0] 24)) := ⟨_, rfl⟩
 have hb_p0 : (Item.box w.heap.size 24 #[I n0, .slice A0 l0.length c0]).ok W0 := by
  rw [hW0]
  have := blk_new w (.cells #[I n0, .slice A0 l0.length c0] 24)
  exact this
 have HM0 : Aside0 (Mem W0 [.box w.heap.size 24 #[I n0, .slice A0 l0.length c0]]) := ⟨Mem.cons (it := .box w.heap.size 24 #[I n0, .slice A0 l0.length c0]) hb_p0 (Mem.nil _)⟩
 have HG0 : Aside0 (Grew w W0) := ⟨by rw [hW0]; exact below_alloc (Grew.refl w) _⟩
 have hs0 : W0.heap.size = w.heap.size + 1 := by rw [hW0]; simp
 clear hb_p0
 have H0 := Aside0.mk (szC_calls n0 A0 c0 l0 (1048576 : Int) (by omega) W0 (Kd.C_below HR0.out HG0.out) HC0.out)
 rw [if_pos (by omega)] at H0
 have p0_0 : W0.cell? ⟨w.heap.size, 0, none⟩ = some (I n0) := blk_cell HM0.out.head 0
 have p0_1 : W0.cell? ⟨w.heap.size, 1, none⟩ = some (.slice A0 l0.length c0) := blk_cell HM0.out.head 1
 subst hW0
 go_enter Try.func14, Try.ntmps14
 go_wp2_with fail
 refine H0.out.mono ?_
 rintro e w1 ⟨rfl, hG1⟩
 clear p0_0 p0_1
 have HM1 := Aside0.mk (HM0.out.grew hG1)
 have HG1 := Aside0.mk (Grew.trans HG0.out hG1)
 have hs1 := hG1.size
 try simp at hs1
 clear hG1 H0
 go_wp2_with fail
 go_ret
 exact ⟨rfl, HG1.out⟩

set_option maxRecDepth 100000 in
set_option maxHeartbeats 8000000 in
theorem LAreEquivalent_main (n0 : Int) (A0 : Option Addr) (c0 : Nat) (l0 : List Int) (A1 : Option Addr) (c1 : Nat) (l1 : List Int) (A2 : Option Addr) (c2 : Nat) (l2 : List Int) (w : World) (hr0 : Ki.C w A0 l0.length l0) (hc0 : l0.length ≤ c0) (hr1 : Ki.C w A1 l1.length l1) (hc1 : l1.length ≤ c1) (hr2 : Ki.C w A2 l2.length l2) (hc2 : l2.length ≤ c2) (hn1 : ¬ (1048576 : Int) < (l1.length : Int)) (hn2 : ¬ (1048576 : Int) < (l2.length : Int)) (hl0 : ¬ (1048576 : Int) < (l0.length : Int)) :
  Calls Try.prog 14 #[.agg #[I n0, .slice A0 l0.length c0], .slice A1 l1.length c1, .slice A2 l2.length c2] w fun e w' => e = .returned (.bool true) ∧ Grew w w' := by
  obtain ⟨r0, r1, HS, HI⟩ : ∃ (r0 : Bool) (r1 : Int), Aside0 (∀ W A0 c0 A1 c1 A2 c2, Ki.C W A0 l0.length l0 → l0.length ≤ c0 → Ki.C W A1 l1.length l1 → l1.length ≤ c1 → Ki.C W A2 l2.length l2 → l2.length ≤ c2 → Calls Try.prog 53 #[.agg #[I n0, .slice A0 l0.length c0], .slice A1 l1.length c1, .slice A2 l2.length c2] W fun e w' => e = .returned (.tuple #[.bool r0, I r1]) ∧ Grew W w') ∧ Aside0 (∀ W A0 c0 A1 c1 A2 c2, Ki.C W A0 l0.length l0 → l0.length ≤ c0 → Ki.C W A1 l1.length l1 → l1.length ≤ c1 → Ki.C W A2 l2.length l2 → l2.length ≤ c2 → Calls Try.prog 54 #[.agg #[I n0, .slice A0 l0.length c0], .slice A1 l1.length c1, .slice A2 l2.length c2] W fun e w' => e = .returned (.tuple #[.bool r0, I r1]) ∧ Grew W w') := by
   have hbig0 := hr0.2.1
   have hbig1 := hr1.2.1
   have hbig2 := hr2.2.1
   have hS := fun (W : World) (A0 : Option Addr) (c0 : Nat) (A1 : Option Addr) (c1 : Nat) (A2 : Option Addr) (c2 : Nat) (hr0 : Ki.C W A0 l0.length l0) (hc0 : l0.length ≤ c0) (hr1 : Ki.C W A1 l1.length l1) (hc1 : l1.length ≤ c1) (hr2 : Ki.C W A2 l2.length l2) (hc2 : l2.length ≤ c2) => spec_AreEquivalent.calls (fK l0) n0 A0 c0 l0 (fun k => k < W.heap.size) A1 c1 l1 (fun k => k < W.heap.size) A2 c2 l2 _ _ W hr0 hc0 (V_in hr1 hc1) (V_in hr2 hc2) (specEqv_is n0 l0 l1 l2 (by omega) (by omega) (by omega) _ (Nat.le_refl _))
   have hI := fun (W : World) (A0 : Option Addr) (c0 : Nat) (A1 : Option Addr) (c1 : Nat) (A2 : Option Addr) (c2 : Nat) (hr0 : Ki.C W A0 l0.length l0) (hc0 : l0.length ≤ c0) (hr1 : Ki.C W A1 l1.length l1) (hc1 : l1.length ≤ c1) (hr2 : Ki.C W A2 l2.length l2) (hc2 : l2.length ≤ c2) => Eqv_calls n0 A0 c0 l0 A1 c1 l1 A2 c2 l2 W ⟨hr0, hc0, by omega⟩ hr1 hc1 (by omega) hr2 hc2 (by omega)
   exact ⟨(eqvA n0 l0 l1 l2), (mcode n0 l0 (funB l0 l1 && funB l0 l2) (morseB l0 l1 && morseB l0 l2)), ⟨hS⟩, ⟨hI⟩⟩
  have hbig0 := hr0.2.1
  have HR0 := Aside0.mk hr0
  have HC0 := Aside0.mk hc0
  clear hr0 hc0
  have hbig1 := hr1.2.1
  have HR1 := Aside0.mk hr1
  have HC1 := Aside0.mk hc1
  clear hr1 hc1
  have hbig2 := hr2.2.1
  have HR2 := Aside0.mk hr2
  have HC2 := Aside0.mk hc2
  clear hr2 hc2
  obtain ⟨W0, hW0⟩ : ∃ W0, W0 = (w.alloc (.cells #[I n0, .slice A0 l0.length c0] 24)) := ⟨_, rfl⟩
  have hb_p0 : (Item.box w.heap.size 24 #[I n0, .slice A0 l0.length c0]).ok W0 := by
   rw [hW0]
   have := blk_new w (.cells #[I n0, .slice A0 l0.length c0] 24)
   exact this
  have HM0 : Aside0 (Mem W0 [.box w.heap.size 24 #[I n0, .slice A0 l0.length c0]]) := ⟨Mem.cons (it := .box w.heap.size 24 #[I n0, .slice A0 l0.length c0]) hb_p0 (Mem.nil _)⟩
  have HG0 : Aside0 (Grew w W0) := ⟨by rw [hW0]; exact below_alloc (Grew.refl w) _⟩
  have hs0 : W0.heap.size = w.heap.size + 1 := by rw [hW0]; simp
  clear hb_p0
  have H0 := Aside0.mk (szC_calls n0 A0 c0 l0 (1048576 : Int) (by omega) W0 (Kd.C_below HR0.out HG0.out) HC0.out)
  rw [if_neg (by omega)] at H0
  have p0_0 : W0.cell? ⟨w.heap.size, 0, none⟩ = some (I n0) := blk_cell HM0.out.head 0
  have p0_1 : W0.cell? ⟨w.heap.size, 1, none⟩ = some (.slice A0 l0.length c0) := blk_cell HM0.out.head 1
  subst hW0
  go_enter Try.func14, Try.ntmps14
  have hneg0 : ¬ (((1048576 : Int) - (l0.length : Int)) < 0) := by omega
  go_wp2_with fail
  refine H0.out.mono ?_
  rintro e w1 ⟨rfl, hG1⟩
  clear p0_0 p0_1
  have HM1 := Aside0.mk (HM0.out.grew hG1)
  have HG1 := Aside0.mk (Grew.trans HG0.out hG1)
  have hs1 := hG1.size
  try simp at hs1
  clear hG1 H0
  have p0_0 : w1.cell? ⟨w.heap.size, 0, none⟩ = some (I n0) := blk_cell HM1.out.head 0
  have p0_1 : w1.cell? ⟨w.heap.size, 1, none⟩ = some (.slice A0 l0.length c0) := blk_cell HM1.out.head 1
  go_wp2_with fail
  clear p0_0 p0_1
  refine (toC_calls n0 A0 c0 l0 w1 (Kd.C_below HR0.out HG1.out) HC0.out (by omega)).mono ?_
  rintro e w2 ⟨AS0, cS0, rfl, hR2, hG2⟩
  have HM2 : Aside0 (Mem w2 [.row w1.heap.size w2.heap.size (.slice AS0 l0.length cS0) l0, .box w.heap.size 24 #[I n0, .slice A0 l0.length c0]]) := ⟨Mem.cons (it := .row w1.heap.size w2.heap.size (.slice AS0 l0.length cS0) l0) (hR2) (HM1.out.grew hG2)⟩
  have HG2 := Aside0.mk (Grew.trans HG1.out hG2)
  have hs2 := hG2.size
  clear hG2 
  go_wp2_with fail
  refine (toI_calls A1 c1 l1 w2 (Kd.C_below HR1.out HG2.out) HC1.out (by omega)).mono ?_
  rintro e w3 ⟨AS1, cS1, rfl, hR3, hG3⟩
  have HM3 : Aside0 (Mem w3 [.row w2.heap.size w3.heap.size (.slice AS1 l1.length cS1) l1, .row w1.heap.size w2.heap.size (.slice AS0 l0.length cS0) l0, .box w.heap.size 24 #[I n0, .slice A0 l0.length c0]]) := ⟨Mem.cons (it := .row w2.heap.size w3.heap.size (.slice AS1 l1.length cS1) l1) (hR3) (HM2.out.grew hG3)⟩
  have HG3 := Aside0.mk (Grew.trans HG2.out hG3)
  have hs3 := hG3.size
  clear hG3 
  go_wp2_with fail
  refine (toI_calls A2 c2 l2 w3 (Kd.C_below HR2.out HG3.out) HC2.out (by omega)).mono ?_
  rintro e w4 ⟨AS2, cS2, rfl, hR4, hG4⟩
  have HM4 : Aside0 (Mem w4 [.row w3.heap.size w4.heap.size (.slice AS2 l2.length cS2) l2, .row w2.heap.size w3.heap.size (.slice AS1 l1.length cS1) l1, .row w1.heap.size w2.heap.size (.slice AS0 l0.length cS0) l0, .box w.heap.size 24 #[I n0, .slice A0 l0.length c0]]) := ⟨Mem.cons (it := .row w3.heap.size w4.heap.size (.slice AS2 l2.length cS2) l2) (hR4) (HM3.out.grew hG4)⟩
  have HG4 := Aside0.mk (Grew.trans HG3.out hG4)
  have hs4 := hG4.size
  clear hG4 
  go_wp2_with fail
  refine (HS.out w4 AS0 cS0 AS1 cS1 AS2 cS2 (Row.slice HM4.out.tail.tail.head).2.2 (Row.slice HM4.out.tail.tail.head).2.1 (Row.slice HM4.out.tail.head).2.2 (Row.slice HM4.out.tail.head).2.1 (Row.slice HM4.out.head).2.2 (Row.slice HM4.out.head).2.1).mono ?_
  rintro e w5 ⟨rfl, hG5⟩
  have HM5 := Aside0.mk (HM4.out.grew hG5)
  have HG5 := Aside0.mk (Grew.trans HG4.out hG5)
  have hs5 := hG5.size
  clear hG5
  have p0_0 : w5.cell? ⟨w.heap.size, 0, none⟩ = some (I n0) := blk_cell HM5.out.tail.tail.tail.head 0
  have p0_1 : w5.cell? ⟨w.heap.size, 1, none⟩ = some (.slice A0 l0.length c0) := blk_cell HM5.out.tail.tail.tail.head 1
  go_wp2_with fail
  clear p0_0 p0_1
  refine (toC_calls n0 A0 c0 l0 w5 (Kd.C_below HR0.out HG5.out) HC0.out (by omega)).mono ?_
  rintro e w6 ⟨Ax0, cx0, rfl, hR6, hG6⟩
  have HM6 : Aside0 (Mem w6 [.row w5.heap.size w6.heap.size (.slice Ax0 l0.length cx0) l0, .row w3.heap.size w4.heap.size (.slice AS2 l2.length cS2) l2, .row w2.heap.size w3.heap.size (.slice AS1 l1.length cS1) l1, .row w1.heap.size w2.heap.size (.slice AS0 l0.length cS0) l0, .box w.heap.size 24 #[I n0, .slice A0 l0.length c0]]) := ⟨Mem.cons (it := .row w5.heap.size w6.heap.size (.slice Ax0 l0.length cx0) l0) (hR6) (HM5.out.grew hG6)⟩
  have HG6 := Aside0.mk (Grew.trans HG5.out hG6)
  have hs6 := hG6.size
  clear hG6 
  have HM7 : Aside0 (Mem (w6.alloc (.cells #[I n0, .slice Ax0 l0.length cx0] 30)) [.box w6.heap.size 30 #[I n0, .slice Ax0 l0.length cx0], .row w5.heap.size w6.heap.size (.slice Ax0 l0.length cx0) l0, .row w3.heap.size w4.heap.size (.slice AS2 l2.length cS2) l2, .row w2.heap.size w3.heap.size (.slice AS1 l1.length cS1) l1, .row w1.heap.size w2.heap.size (.slice AS0 l0.length cS0) l0, .box w.heap.size 24 #[I n0, .slice A0 l0.length c0]]) := ⟨Mem.cons (blk_new w6 _) (HM6.out.grew (below_alloc (Grew.refl w6) _))⟩
  have HG7 : Aside0 (Grew w (w6.alloc (.cells #[I n0, .slice Ax0 l0.length cx0] 30))) := ⟨Grew.trans HG6.out (below_alloc (Grew.refl w6) _)⟩
  have hS7 : (w6.alloc (.cells #[I n0, .slice Ax0 l0.length cx0] 30)).heap.size = w6.heap.size + 1 := by simp
  go_wp2_with fail
  generalize (w6.alloc (.cells #[I n0, .slice Ax0 l0.length cx0] 30)) = W7 at HM7 HG7 hS7  ⊢
  refine (toI_calls A1 c1 l1 W7 (Kd.C_below HR1.out HG7.out) HC1.out (by omega)).mono ?_
  rintro e w8 ⟨Ax1, cx1, rfl, hR8, hG8⟩
  have HM8 : Aside0 (Mem w8 [.row W7.heap.size w8.heap.size (.slice Ax1 l1.length cx1) l1, .box w6.heap.size 30 #[I n0, .slice Ax0 l0.length cx0], .row w5.heap.size w6.heap.size (.slice Ax0 l0.length cx0) l0, .row w3.heap.size w4.heap.size (.slice AS2 l2.length cS2) l2, .row w2.heap.size w3.heap.size (.slice AS1 l1.length cS1) l1, .row w1.heap.size w2.heap.size (.slice AS0 l0.length cS0) l0, .box w.heap.size 24 #[I n0, .slice A0 l0.length c0]]) := ⟨Mem.cons (it := .row W7.heap.size w8.heap.size (.slice Ax1 l1.length cx1) l1) (hR8) (HM7.out.grew hG8)⟩
  have HG8 := Aside0.mk (Grew.trans HG7.out hG8)
  have hs8 := hG8.size
  clear hG8 
  go_wp2_with fail
  refine (toI_calls A2 c2 l2 w8 (Kd.C_below HR2.out HG8.out) HC2.out (by omega)).mono ?_
  rintro e w9 ⟨Ax2, cx2, rfl, hR9, hG9⟩
  have HM9 : Aside0 (Mem w9 [.row w8.heap.size w9.heap.size (.slice Ax2 l2.length cx2) l2, .row W7.heap.size w8.heap.size (.slice Ax1 l1.length cx1) l1, .box w6.heap.size 30 #[I n0, .slice Ax0 l0.length cx0], .row w5.heap.size w6.heap.size (.slice Ax0 l0.length cx0) l0, .row w3.heap.size w4.heap.size (.slice AS2 l2.length cS2) l2, .row w2.heap.size w3.heap.size (.slice AS1 l1.length cS1) l1, .row w1.heap.size w2.heap.size (.slice AS0 l0.length cS0) l0, .box w.heap.size 24 #[I n0, .slice A0 l0.length c0]]) := ⟨Mem.cons (it := .row w8.heap.size w9.heap.size (.slice Ax2 l2.length cx2) l2) (hR9) (HM8.out.grew hG9)⟩
  have HG9 := Aside0.mk (Grew.trans HG8.out hG9)
  have hs9 := hG9.size
  clear hG9 
  have bx0_0 : w9.cell? ⟨w6.heap.size, 0, none⟩ = some (I n0) := blk_cell HM9.out.tail.tail.head 0
  have bx0_1 : w9.cell? ⟨w6.heap.size, 1, none⟩ = some (.slice Ax0 l0.length cx0) := blk_cell HM9.out.tail.tail.head 1
  go_wp2_with fail
  clear bx0_0 bx0_1
  refine (HI.out w9 Ax0 cx0 Ax1 cx1 Ax2 cx2 (Row.slice HM9.out.tail.tail.tail.head).2.2 (Row.slice HM9.out.tail.tail.tail.head).2.1 (Row.slice HM9.out.tail.head).2.2 (Row.slice HM9.out.tail.head).2.1 (Row.slice HM9.out.head).2.2 (Row.slice HM9.out.head).2.1).mono ?_
  rintro e w10 ⟨rfl, hG10⟩
  have HM10 := Aside0.mk (HM9.out.grew hG10)
  have HG10 := Aside0.mk (Grew.trans HG9.out hG10)
  have hs10 := hG10.size
  clear hG10
  go_wp2_with fail
  have bx0_0 : w10.cell? ⟨w6.heap.size, 0, none⟩ = some (I n0) := blk_cell HM10.out.tail.tail.head 0
  have bx0_1 : w10.cell? ⟨w6.heap.size, 1, none⟩ = some (.slice Ax0 l0.length cx0) := blk_cell HM10.out.tail.tail.head 1
  have p0_0 : w10.cell? ⟨w.heap.size, 0, none⟩ = some (I n0) := blk_cell HM10.out.tail.tail.tail.tail.tail.tail.tail.head 0
  have p0_1 : w10.cell? ⟨w.heap.size, 1, none⟩ = some (.slice A0 l0.length c0) := blk_cell HM10.out.tail.tail.tail.tail.tail.tail.tail.head 1
  have hlx : w6.heap.size < w10.heap.size := World.block_lt_of_cell? w10 _ bx0_0
  have hlp : w.heap.size < w10.heap.size := World.block_lt_of_cell? w10 _ p0_0
  go_region_held3 (fun w' => w'.cell? ⟨w6.heap.size, 0, none⟩ = some (I n0) ∧ w'.cell? ⟨w6.heap.size, 1, none⟩ = some (.slice Ax0 l0.length cx0) ∧ w'.cell? ⟨w.heap.size, 0, none⟩ = some (I n0) ∧ w'.cell? ⟨w.heap.size, 1, none⟩ = some (.slice A0 l0.length c0))
   (first | exact ⟨(HDb.out.cell (p := ⟨w6.heap.size, 0, none⟩) hlx).trans bx0_0, (HDb.out.cell (p := ⟨w6.heap.size, 1, none⟩) hlx).trans bx0_1, (HDb.out.cell (p := ⟨w.heap.size, 0, none⟩) hlp).trans p0_0, (HDb.out.cell (p := ⟨w.heap.size, 1, none⟩) hlp).trans p0_1⟩ | exact ⟨(HDa.out.cell (p := ⟨w6.heap.size, 0, none⟩) hlx).trans bx0_0, (HDa.out.cell (p := ⟨w6.heap.size, 1, none⟩) hlx).trans bx0_1, (HDa.out.cell (p := ⟨w.heap.size, 0, none⟩) hlp).trans p0_0, (HDa.out.cell (p := ⟨w.heap.size, 1, none⟩) hlp).trans p0_1⟩ | go_keep)
   (first
    | (go_at_call 20; refine (toC_calls n0 A0 c0 l0 _ (Kd.C_below HR0.out (Below.trans HG10.out ((Below.refl _ w10).drew))) HC0.out (by omega)).mono ?_; rintro e w11 ⟨Aq0, cq0, rfl, hRa, hGa⟩; have HDa : Aside0 (Grew w10 w11) := ⟨Below.trans ((Below.refl _ w10).drew) hGa⟩; have HRa := Aside0.mk hRa; clear hRa hGa)
    | (go_at_call 23; refine (eqC_calls n0 l0 Ax0 Aq0 cx0 cq0 _ _ _ _ _ _ w11 (HM10.out.grew HDa.out).tail.tail.tail.head HRa.out).mono ?_; rintro e w12 ⟨rfl, hGb⟩; have HDb : Aside0 (Grew w10 w12) := ⟨Grew.trans HDa.out hGb⟩; clear hGb))
  clear bx0_0 bx0_1 p0_0 p0_1
  have hG12 := HDb.out
  clear hlx hlp HDa HDb HRa
  have HM12 := Aside0.mk (HM10.out.grew hG12)
  have HG12 := Aside0.mk (Grew.trans HG10.out hG12)
  have hs12 := hG12.size
  clear hG12
  go_wp2_with fail
  refine (toI_calls A1 c1 l1 w12 (Kd.C_below HR1.out HG12.out) HC1.out (by omega)).mono ?_
  rintro e w13 ⟨Ay1, cy1, rfl, hR13, hG13⟩
  have HM13 : Aside0 (Mem w13 [.row w12.heap.size w13.heap.size (.slice Ay1 l1.length cy1) l1, .row w8.heap.size w9.heap.size (.slice Ax2 l2.length cx2) l2, .row W7.heap.size w8.heap.size (.slice Ax1 l1.length cx1) l1, .box w6.heap.size 30 #[I n0, .slice Ax0 l0.length cx0], .row w5.heap.size w6.heap.size (.slice Ax0 l0.length cx0) l0, .row w3.heap.size w4.heap.size (.slice AS2 l2.length cS2) l2, .row w2.heap.size w3.heap.size (.slice AS1 l1.length cS1) l1, .row w1.heap.size w2.heap.size (.slice AS0 l0.length cS0) l0, .box w.heap.size 24 #[I n0, .slice A0 l0.length c0]]) := ⟨Mem.cons (it := .row w12.heap.size w13.heap.size (.slice Ay1 l1.length cy1) l1) (hR13) (HM12.out.grew hG13)⟩
  have HG13 := Aside0.mk (Grew.trans HG12.out hG13)
  have hs13 := hG13.size
  clear hG13 
  go_wp2_with fail
  refine (eqI_calls l1 Ax1 Ay1 cx1 cy1 _ _ _ _ _ _ w13 HM13.out.tail.tail.head HM13.out.head).mono ?_
  rintro e w14 ⟨rfl, hG14⟩
  have HM14 := Aside0.mk (HM13.out.grew hG14)
  have HG14 := Aside0.mk (Grew.trans HG13.out hG14)
  have hs14 := hG14.size
  clear hG14
  go_wp2_with fail
  refine (toI_calls A2 c2 l2 w14 (Kd.C_below HR2.out HG14.out) HC2.out (by omega)).mono ?_
  rintro e w15 ⟨Ay2, cy2, rfl, hR15, hG15⟩
  have HM15 : Aside0 (Mem w15 [.row w14.heap.size w15.heap.size (.slice Ay2 l2.length cy2) l2, .row w12.heap.size w13.heap.size (.slice Ay1 l1.length cy1) l1, .row w8.heap.size w9.heap.size (.slice Ax2 l2.length cx2) l2, .row W7.heap.size w8.heap.size (.slice Ax1 l1.length cx1) l1, .box w6.heap.size 30 #[I n0, .slice Ax0 l0.length cx0], .row w5.heap.size w6.heap.size (.slice Ax0 l0.length cx0) l0, .row w3.heap.size w4.heap.size (.slice AS2 l2.length cS2) l2, .row w2.heap.size w3.heap.size (.slice AS1 l1.length cS1) l1, .row w1.heap.size w2.heap.size (.slice AS0 l0.length cS0) l0, .box w.heap.size 24 #[I n0, .slice A0 l0.length c0]]) := ⟨Mem.cons (it := .row w14.heap.size w15.heap.size (.slice Ay2 l2.length cy2) l2) (hR15) (HM14.out.grew hG15)⟩
  have HG15 := Aside0.mk (Grew.trans HG14.out hG15)
  have hs15 := hG15.size
  clear hG15 
  go_wp2_with fail
  refine (eqI_calls l2 Ax2 Ay2 cx2 cy2 _ _ _ _ _ _ w15 HM15.out.tail.tail.head HM15.out.head).mono ?_
  rintro e w16 ⟨rfl, hG16⟩
  have HM16 := Aside0.mk (HM15.out.grew hG16)
  have HG16 := Aside0.mk (Grew.trans HG15.out hG16)
  have hs16 := hG16.size
  clear hG16
  go_wp2_with fail
  go_ret
  exact ⟨rfl, HG16.out⟩

theorem LAreEquivalent_calls (n0 : Int) (A0 : Option Addr) (c0 : Nat) (l0 : List Int) (A1 : Option Addr) (c1 : Nat) (l1 : List Int) (A2 : Option Addr) (c2 : Nat) (l2 : List Int) (w : World) (hr0 : Ki.C w A0 l0.length l0) (hc0 : l0.length ≤ c0) (hr1 : Ki.C w A1 l1.length l1) (hc1 : l1.length ≤ c1) (hr2 : Ki.C w A2 l2.length l2) (hc2 : l2.length ≤ c2) :
  Calls Try.prog 14 #[.agg #[I n0, .slice A0 l0.length c0], .slice A1 l1.length c1, .slice A2 l2.length c2] w fun e w' => e = .returned (.bool true) ∧ Grew w w' := by
 by_cases hn1 : (1048576 : Int) < (l1.length : Int)
 ·exact LAreEquivalent_i0 n0 A0 c0 l0 A1 c1 l1 A2 c2 l2 w hr0 hc0 hr1 hc1 hr2 hc2  hn1
 by_cases hn2 : (1048576 : Int) < (l2.length : Int)
 ·exact LAreEquivalent_i1 n0 A0 c0 l0 A1 c1 l1 A2 c2 l2 w hr0 hc0 hr1 hc1 hr2 hc2 hn1 hn2
 by_cases hl0 : (1048576 : Int) < (l0.length : Int)
 ·exact LAreEquivalent_b0 n0 A0 c0 l0 A1 c1 l1 A2 c2 l2 w hr0 hc0 hr1 hc1 hr2 hc2 hn1 hn2  hl0
 exact LAreEquivalent_main n0 A0 c0 l0 A1 c1 l1 A2 c2 l2 w hr0 hc0 hr1 hc1 hr2 hc2 hn1 hn2 hl0

end Go.Proofs.Ytniikppojffiaaa.K
end

section

namespace Go.Proofs.Ytniikppojffiaaa.fnExactAreEquivalent
open Go.ChangeShapes Go.WideShapes Go.ChangeAt Go.RowKit Go.Joins Go.Proofs.Ytniikppojffiaaa.K Go.Proofs.YtniikppojffiaaaW.PrintWords
open Go.ChangeMaps (open_string shut_string)
set_option linter.unusedVariables false
set_option maxRecDepth 100000 in
theorem lifted (os : Os) (started : os.Started) (H : Type) (enc : TypeId × Value → H) :
    ReturnsInHanded {} Try.checked os 14 .any (Rows.fnExactAreEquivalentSpec.pre6 enc Try.prog Try.f14 Rows.fnExactAreEquivalentRow.domain false) (Rows.fnExactAreEquivalentSpec.post enc Try.prog Try.f14 false true false false) := by
  refine returnsInHanded_of_change_sized (C := Try.checked) ownKnob_none started (by kernel_rfl) Try.func14
    (ChangeSpec.witness6 (enc := enc) (C := Try.checked) false ⟨#[], #[.agg #[.int .i64 0, .slice none 0 0], .slice none 0 0, .slice none 0 0], []⟩ 8 (by kernel_rfl) (by kernel_rfl) (by kernel_rfl) (by kernel_rfl)) ?_
  intro W base args ds gs before hval0 hW hcnd hsz0 _
  have hsz : (DataW.weightsEach Try.prog (Try.f14.params.toList ++ Rows.fnExactAreEquivalentSpec.plain.varTypes Try.prog) (ds ++ gs)).all (· ≤ reachBytes) = true := hsz0
  have hval : ∀ (j : Nat) t v, Try.f14.params[j]? = some t → args[j]? = some v → Value.okWide Try.prog W .any base t v := hval0
  have hW' := hW
  obtain ⟨p, q, hA0, hV, rfl, hfz, hnd⟩ := hW
  have hA : DataW.TrodAll enc Try.prog W 0 (fun _ => true) true Try.f14.params.toList args.toList ds p := hA0
  rw [Try.params14] at hA hval hsz
  obtain ⟨v0, vs0, d0, ds0, p0, q0, hargs, rfl, rfl, h0, r0⟩ := trodAll_cons hA
  obtain ⟨v1, vs1, d1, ds1, p1, q1, rfl, rfl, rfl, h1, r1⟩ := trodAll_cons r0
  obtain ⟨v2, vs2, d2, ds2, p2, q2, rfl, rfl, rfl, h2, r2⟩ := trodAll_cons r1
  obtain ⟨rfl, rfl, rfl⟩ := trodAll_nil r2
  obtain rfl : args = #[v0, v1, v2] := by cases args; simp_all
  obtain ⟨rfl, rfl⟩ := trodVars_none hV
  have k0 := h0
  have lt0 : ∀ x ∈ p0, x.block < W.heap.size := by obtain ⟨m, hm⟩ := k0; exact DataW.trod_lt m _ _ _ hm
  obtain ⟨x0, z0, y0_0, y1_0, m0, hv0, hd0, hp0, hy0_0, hy1_0⟩ := open_agg2 Try.underlying24 (by kernel_rfl) (show Try.prog.cellsOf 24 = 2 by kernel_rfl) (hval 0 24 v0 rfl rfl) h0
  obtain ⟨n0, e0_0, _, w0⟩ := DataW.trod_int Try.underlying2 hy0_0
  obtain ⟨A0, c0, l0, e1_0, hc0, hr0, _⟩ := ints_open hy1_0
  simp only [List.cons.injEq, and_true] at e0_0
  subst e0_0 e1_0
  subst hv0
  have k1 := h1
  have lt1 : ∀ x ∈ p1, x.block < W.heap.size := by obtain ⟨m, hm⟩ := k1; exact DataW.trod_lt m _ _ _ hm
  obtain ⟨a1, len1, cap1, hv1⟩ := okWide_slice Try.underlying22 (hval 1 22 v1 rfl rfl)
  obtain ⟨A1, c1, l1, e1, hc1, hr1, _⟩ : ∃ A c l, v1 = .slice A l.length c ∧ l.length ≤ c ∧ Ki.C W A l.length l ∧ ∀ n ∈ l, (Lit.int .i64 n).wf = true := by
    obtain ⟨fuel, hf⟩ := h1
    subst hv1
    exact ints_open hf
  subst e1
  have k2 := h2
  have lt2 : ∀ x ∈ p2, x.block < W.heap.size := by obtain ⟨m, hm⟩ := k2; exact DataW.trod_lt m _ _ _ hm
  obtain ⟨a2, len2, cap2, hv2⟩ := okWide_slice Try.underlying22 (hval 2 22 v2 rfl rfl)
  obtain ⟨A2, c2, l2, e2, hc2, hr2, _⟩ : ∃ A c l, v2 = .slice A l.length c ∧ l.length ≤ c ∧ Ki.C W A l.length l ∧ ∀ n ∈ l, (Lit.int .i64 n).wf = true := by
    obtain ⟨fuel, hf⟩ := h2
    subst hv2
    exact ints_open hf
  subst e2
  clear hA0 hval0 hsz0 hsz
  refine (K.LAreEquivalent_calls n0 A0 c0 l0 A1 c1 l1 A2 c2 l2 W hr0 hc0 hr1 hc1 hr2 hc2).mono fun e W' ⟨he, bel0⟩ => ?_
  have bel : Below W.heap.size W W' := bel0
  subst he
  exact ⟨_, rfl, _, _, _, [], _, [], hW', trodAll_mk1 (shut_bool Try.underlying4 _), (trodAll_cons_mk (Below.trod laidOut (by kernel_rfl) (of_decide_eq_true (by kernel_rfl)) k0 bel lt0) (trodAll_cons_mk (Below.trod laidOut (by kernel_rfl) (of_decide_eq_true (by kernel_rfl)) k1 bel lt1) (trodAll_cons_mk (Below.trod laidOut (by kernel_rfl) (of_decide_eq_true (by kernel_rfl)) k2 bel lt2) trodAll_mk0))), rfl, bel.frame _, fun h => by cases h⟩
set_option maxRecDepth 100000 in
theorem starts : ∃ r, behindMainWord (wordsSigns Try.prog.initOrder.toList) = "cut".toList :: r := by
  have h : Try.prog.initOrder = String.ofList _ := rfl
  rw [h, String.toList_ofList, signs_take 7 _ rfl rfl, signs_take 64 _ rfl rfl, signs_take 3 _ rfl rfl]
  generalize wordsSigns _ = r
  exact ⟨r, by kernel_rfl⟩
set_option maxRecDepth 100000 in
theorem closed : joinedFacts Try.prog 14 Try.f14 Rows.fnExactAreEquivalentSpec Rows.fnExactAreEquivalentRow = true := by
  obtain ⟨r, h⟩ := starts
  unfold joinedFacts
  rw [cut_enter _ r h (by kernel_rfl) (by kernel_rfl) (by kernel_rfl), cut_make _ r h, cut_lifts _ r h]
  exact of_decide_eq_true (by kernel_rfl)
theorem over : Rows.fnExactAreEquivalentRow.holds Try.pinned (OpenSpec.ofChange Rows.fnExactAreEquivalentSpec) :=
  OpenClaim.holds_of_wide 14 Try.f14 rfl rfl rfl rfl rfl rfl rfl ⟨rfl, rfl, rfl, rfl, rfl⟩ rfl rfl rfl rfl rfl (by kernel_rfl) Try.func14 closed
    (of_decide_eq_true (by kernel_rfl)) (by unfold Func.isWrapper; first | (rw [if_pos (by decide +kernel)]; kernel_rfl) | (rw [if_neg (by decide +kernel)]; exact ⟨rfl, rfl⟩))
    (fun os started H enc _ => lifted os started H enc)
theorem proved : Rows.FnExactAreEquivalentSaid := over
#print axioms proved
end Go.Proofs.Ytniikppojffiaaa.fnExactAreEquivalent
namespace Go.Proofs.Ytniikppojffiaaa
theorem fnExactAreEquivalent_holds : Rows.FnExactAreEquivalentSaid := fnExactAreEquivalent.proved
end Go.Proofs.Ytniikppojffiaaa
end
