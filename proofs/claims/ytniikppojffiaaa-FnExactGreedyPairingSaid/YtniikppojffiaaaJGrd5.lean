/- The row of the law FnExactGreedyPairing: for every input the law answers true, and the arguments read as before. No conditions. -/
import Derived.Test.YtniikppojffiaaaJGrd4
import Derived.Below
import Derived.Deep.Draws
import Derived.Deep.AppendLies
import Derived.Maps.AppendAt
import Derived.OwnWalk
import Derived.Laws.BytesArg
import Derived.Laws.MakeOwn
import Derived.Laws.OwnMore
import Derived.Deep.OwnRows
import Derived.Tactics
import Derived.Lib.ConvBytes
import Derived.Laws.Slices
import Derived.WalkKit
import Derived.KernelRfl
import Derived.RowKit3
import Derived.Deep.LoopGhost
import Derived.Deep.QuietTactic
import Derived.BigQuiet
import Derived.WideLaws
import Derived.Deep.DeepCutAuto
import Derived.Deep.CutBlock
import Derived.Deep.RegionHeld3
import Derived.Laws.Rows
import Derived.Lib.AppendStr
import Derived.ArgAppend
import Derived.Laws.IdiomCopy
import Derived.RowKit
import Derived.OrdersHeld
import Derived.Laws.BitsLemmas
import Derived.Laws.StructEq
import Derived.Test.YtniikppojffiaaaProg
import Derived.Shelf.Abstract
import Derived.LoopN
import Derived.RangeFuncBox
import Derived.RangeFuncLeaves
import Derived.OwnWalkIn
import Derived.TacticsInMore
import Derived.LoopNIn
import Derived.LoopIn
import Derived.Maps.OwnSet
import Derived.Lib.SliceRun
import Derived.Lib.SlKeysI
import Derived.Laws.CopyRow
import Derived.Shelf.Spec.SlicesInsertGrow
import Derived.ChangeKeysEq
import Derived.JoinedOf
import Derived.Test.YtniikppojffiaaaRows
import Derived.ProofKit
import Derived.OpenShut
import Derived.ShutString
import Derived.ChangeOld
import Derived.SizedLaws
import Derived.Lib.SmallJoins
section
/- Written by a program of this session (myprint.py over the kit's print). -/
namespace Go.Proofs.Ytniikppojffiaaa.Q
open Go.RowKit Go.Proofs.YtniikppojffiaaaW.PrintWords Go.Proofs.YtniikppojffiaaaW.PrintLast Go.Proofs.YtniikppojffiaaaW.PrintMore
attribute [local go_sem] max2_int min2_int max_two min_two max_three min_three max_four min_four   -- for this text's walks alone
set_option linter.unusedVariables false
set_option linter.unusedSimpArgs false

/-! ### spec_CriticalNumbers: function 32 -/
/-! ### spec_l02High: function 97 -/
def spec_l02High.l0 : Nat → List (S53) → Int → Int → Option (Int)
 | 0, _, _, _ => none
 | k + 1, x0, x1, x5 => if x5 < (x0.length : Int) then (if 0 ≤ x5 then (if ((rd_T53 x0 x5).f0) = x1 then (some ((rd_T53 x0 x5).f1)) else (spec_l02High.l0 k x0 x1 (wrap64 (x5 + 1)))) else (none)) else (some 0)
def spec_l02High.f (k : Nat) (l0 : List (S53)) (a1 : Int) : Option (Int) := spec_l02High.l0 k l0 a1 0
theorem spec_l02High.mono_l : ∀ k, (∀ y0 y1 y2, LeO (spec_l02High.l0 k y0 y1 y2) (spec_l02High.l0 (k + 1) y0 y1 y2))
 | 0 => fun _ _ _ r h => by simp [spec_l02High.l0] at h
 | k + 1 => by
  have ih0 := spec_l02High.mono_l k
  ·intro y0 y1 y2
   unfold spec_l02High.l0
   repeat' first
   | (with_reducible exact ih0 _ _ _)
   | (with_reducible exact LeO.refl _)
   | (with_reducible exact LeO.none _)
   | (with_reducible refine LeO.ite ?_ ?_)
   | (with_reducible refine LeO.bind ?_ (fun _ => ?_))
   | exact ih0 _ _ _
   | exact LeO.none _
   | refine LeO.ite ?_ ?_
   | refine LeO.bind ?_ (fun _ => ?_)
theorem spec_l02High.mono : ∀ a0 a1 k, LeO (spec_l02High.f k a0 a1) (spec_l02High.f (k + 1) a0 a1) := by
 intro a0 a1 k
 have ih0 := spec_l02High.mono_l k
 unfold spec_l02High.f
 repeat' first
   | (with_reducible exact ih0 _ _ _)
   | (with_reducible exact LeO.refl _)
   | (with_reducible exact LeO.none _)
   | (with_reducible refine LeO.ite ?_ ?_)
   | (with_reducible refine LeO.bind ?_ (fun _ => ?_))
   | exact ih0 _ _ _
   | exact LeO.none _
   | refine LeO.ite ?_ ?_
   | refine LeO.bind ?_ (fun _ => ?_)
set_option maxHeartbeats 8000000 in
set_option maxRecDepth 100000 in
theorem spec_l02High.calls (k : Nat) (A0 : Option Addr) (c0 : Nat) (l0 : List (S53)) (a1 : Int) (r : Int) (w : World) (hr0 : Kd.C k53 w A0 l0.length l0) (hc0 : l0.length ≤ c0) (h : spec_l02High.f k l0 a1 = some r) :
  Calls Try.prog 97 #[.slice A0 l0.length c0, .int .i64 a1] w fun e w' => e = .returned (.int .i64 r) ∧ Drawn0 w w' := by
 have HR0 := Aside0.mk hr0
 have HC0 := Aside0.mk hc0
 clear hr0 hc0
 have H : (spec_l02High.l0 k l0 a1 0) = some r := h
 clear h
 have H' := Aside0.mk H
 clear H
 go_enter Try.func97, Try.ntmps97
 go_wp2
 go_loopg [5] k (fun kq v5 w' => ∃ (x5_1 : Int), v5 = .int .i64 x5_1 ∧ Aside0 (spec_l02High.l0 kq l0 a1 x5_1 = some r) ∧ Aside0 (kq ≤ k) ∧ Drawn0 w w')
 case atStart => exact ⟨(0), (by first | rfl | (simp; done) | (simp [*]; done)), H', ⟨Nat.le_refl _⟩, by repeat (first | exact Drawn0.refl _ | apply Drawn0.step)⟩
 case round =>
  clear H'
  try clear p2
  obtain ⟨x5_1, rfl, HA, HK1, ⟨m1, rfl⟩⟩ := hrel
  cases gk with
  | zero => exact absurd HA.out (by simp [spec_l02High.l0])
  | succ k1 =>
   have H := HA.out
   clear HA
   simp only [spec_l02High.l0] at H
   by_cases c3 : x5_1 < (l0.length : Int)
   ·rw [if_pos c3] at H
    have c3b0 : decide (x5_1 < (l0.length : Int)) = true := decide_eq_true c3
    clear c3
    by_cases c4 : 0 ≤ x5_1
    ·rw [if_pos c4] at H
     have c4b0 : decide (0 ≤ x5_1) = true := decide_eq_true c4
     clear c4
     by_cases c5 : ((rd_T53 l0 x5_1).f0) = a1
     ·rw [if_pos c5] at H
      have c5b0 : (((rd_T53 l0 x5_1).f0) == a1) = true := beq_iff_eq.mpr c5
      have c5b1 : (((rd_T53 l0 x5_1).f0) != a1) = false := bne_eq_false_iff_eq.mpr c5
      clear c5
      obtain rfl := Option.some.inj H
      have p188 : 0 ≤ (x5_1 : Int) := of_decide_eq_true (by first | (with_reducible assumption) | assumption)
      have q188 : x5_1 < (l0.length : Int) := of_decide_eq_true (by first | (with_reducible assumption) | assumption)
      obtain ⟨ad188, e188, hx188_0, hx188_1⟩ := at_T53 HR0.out x5_1 p188 q188
      cases e188
      replace p188 := eq_true p188
      replace q188 := eq_true q188
      have p189 : 0 ≤ (x5_1 : Int) := of_decide_eq_true (by first | (with_reducible assumption) | assumption)
      have q189 : x5_1 < (l0.length : Int) := of_decide_eq_true (by first | (with_reducible assumption) | assumption)
      obtain ⟨ad189, e189, hx189_0, hx189_1⟩ := at_T53 HR0.out x5_1 p189 q189
      obtain rfl : ad188 = ad189 := (by injection e189)
      replace p189 := eq_true p189
      replace q189 := eq_true q189
      go_wp2
      go_ret
      exact ⟨by first | rfl | (simp; done) | (simp [*]; done), by repeat (first | exact Drawn0.refl _ | apply Drawn0.step)⟩
     ·rw [if_neg c5] at H
      have c5b0 : (((rd_T53 l0 x5_1).f0) == a1) = false := beq_eq_false_iff_ne.mpr c5
      have c5b1 : (((rd_T53 l0 x5_1).f0) != a1) = true := bne_iff_ne.mpr c5
      have H' := Aside0.mk H
      clear H
      have p188 : 0 ≤ (x5_1 : Int) := of_decide_eq_true (by first | (with_reducible assumption) | assumption)
      have q188 : x5_1 < (l0.length : Int) := of_decide_eq_true (by first | (with_reducible assumption) | assumption)
      obtain ⟨ad188, e188, hx188_0, hx188_1⟩ := at_T53 HR0.out x5_1 p188 q188
      cases e188
      replace p188 := eq_true p188
      replace q188 := eq_true q188
      go_wp2
      go_roundg k1
      case measure => have := HK1.out; omega
      case rel => exact ⟨(wrap64 (x5_1 + 1)), (by first | rfl | (simp; done) | (simp [*]; done)), H', ⟨by have := HK1.out; omega⟩, by repeat (first | exact Drawn0.refl _ | apply Drawn0.step)⟩
    ·rw [if_neg c4] at H
     exact absurd H (by simp)
   ·rw [if_neg c3] at H
    have c3b0 : decide (x5_1 < (l0.length : Int)) = false := decide_eq_false c3
    clear c3
    obtain rfl := Option.some.inj H
    go_wp2
    go_ret
    exact ⟨by first | rfl | (simp; done) | (simp [*]; done), by repeat (first | exact Drawn0.refl _ | apply Drawn0.step)⟩

/-! ### spec_l02Next: function 122 -/
def spec_l02Next.l0 : Nat → Int → List Int → List Int → Int → Option (List Int)
 | 0, _, _, _, _ => none
 | k + 1, x1, x6, x7, x8 => if x8 < (x7.length : Int) then (if 0 ≤ x8 then (if (rd x7 x8) = x1 then (spec_l02Next.l0 k x1 x6 x7 (wrap64 (x8 + 1))) else (if x6.length < 17592186044416 then (spec_l02Next.l0 k x1 (x6 ++ [rd x7 x8]) x7 (wrap64 (x8 + 1))) else (none))) else (none)) else (some x6)
def spec_l02Next.f (k : Nat) (l0 : List (S53)) (a1 : Int) : Option (List Int) := (spec_l02High.f k l0 a1).bind fun t190 => ((some (([] : List Int) : List Int)).bind fun y191 => (if t190 = 0 then (some y191) else ((spec_l01Below.f k t190).bind fun t194 => (spec_l02Next.l0 k a1 y191 t194 0))))
theorem spec_l02Next.mono_l : ∀ k, (∀ y0 y1 y2 y3, LeO (spec_l02Next.l0 k y0 y1 y2 y3) (spec_l02Next.l0 (k + 1) y0 y1 y2 y3))
 | 0 => fun _ _ _ _ r h => by simp [spec_l02Next.l0] at h
 | k + 1 => by
  have ih0 := spec_l02Next.mono_l k
  ·intro y0 y1 y2 y3
   unfold spec_l02Next.l0
   repeat' first
   | (with_reducible exact ih0 _ _ _ _)
   | (with_reducible exact spec_l01Below.mono _ _)
   | (with_reducible exact spec_l02High.mono _ _ _)
   | (with_reducible exact LeO.refl _)
   | (with_reducible exact LeO.none _)
   | (with_reducible refine LeO.ite ?_ ?_)
   | (with_reducible refine LeO.bind ?_ (fun _ => ?_))
   | exact ih0 _ _ _ _
   | exact spec_l01Below.mono _ _
   | exact spec_l02High.mono _ _ _
   | exact LeO.none _
   | refine LeO.ite ?_ ?_
   | refine LeO.bind ?_ (fun _ => ?_)
theorem spec_l02Next.mono : ∀ a0 a1 k, LeO (spec_l02Next.f k a0 a1) (spec_l02Next.f (k + 1) a0 a1) := by
 intro a0 a1 k
 have ih0 := spec_l02Next.mono_l k
 unfold spec_l02Next.f
 repeat' first
   | (with_reducible exact ih0 _ _ _ _)
   | (with_reducible exact spec_l01Below.mono _ _)
   | (with_reducible exact spec_l02High.mono _ _ _)
   | (with_reducible exact LeO.refl _)
   | (with_reducible exact LeO.none _)
   | (with_reducible refine LeO.ite ?_ ?_)
   | (with_reducible refine LeO.bind ?_ (fun _ => ?_))
   | exact ih0 _ _ _ _
   | exact spec_l01Below.mono _ _
   | exact spec_l02High.mono _ _ _
   | exact LeO.none _
   | refine LeO.ite ?_ ?_
   | refine LeO.bind ?_ (fun _ => ?_)
set_option maxHeartbeats 8000000 in
set_option maxRecDepth 100000 in
theorem spec_l02Next.calls (k : Nat) (A0 : Option Addr) (c0 : Nat) (l0 : List (S53)) (a1 : Int) (r : List Int) (w : World) (hr0 : Kd.C k53 w A0 l0.length l0) (hc0 : l0.length ≤ c0) (h : spec_l02Next.f k l0 a1 = some r) :
  Calls Try.prog 122 #[.slice A0 l0.length c0, .int .i64 a1] w fun e w' => ∃ v0_ : Value, e = .returned (v0_) ∧ Kd.R (Kd.int .i64) 2 w' w.heap.size (fun _ => True) v0_ r ∧ Below w.heap.size w w' := by
 have HR0 := Aside0.mk hr0
 have HC0 := Aside0.mk hc0
 clear hr0 hc0
 have HB := Aside0.mk (Below.refl w.heap.size w)
 have H : ((spec_l02High.f k l0 a1).bind fun t190 => ((some (([] : List Int) : List Int)).bind fun y191 => (if t190 = 0 then (some y191) else ((spec_l01Below.f k t190).bind fun t194 => (spec_l02Next.l0 k a1 y191 t194 0))))) = some r := h
 clear h
 replace H := Option.bind_eq_some_iff.mp H
 obtain ⟨t190, A30, H⟩ := H
 replace H : ((some (([] : List Int) : List Int)).bind fun y191 => (if t190 = 0 then (some y191) else ((spec_l01Below.f k t190).bind fun t194 => (spec_l02Next.l0 k a1 y191 t194 0)))) = some r := H
 have A3 := Aside0.mk A30
 clear A30
 obtain ⟨y191, hy191⟩ : ∃ y_ : List Int, y_ = (([] : List Int)) := ⟨_, rfl⟩
 replace H : (if t190 = 0 then (some y191) else ((spec_l01Below.f k t190).bind fun t194 => (spec_l02Next.l0 k a1 y191 t194 0))) = some r := by first | (rw [hy191]; with_reducible exact H) | (have H2_ := (Option.bind_some _ _).symm.trans H; rw [hy191]; with_reducible exact H2_) | (have H2_ := (Option.bind_some _ _).symm.trans H; with_reducible exact H2_) | with_reducible exact H | (rw [hy191]; exact H) | exact H
 have Ny191 := Aside0.mk hy191
 clear hy191
 by_cases c4 : t190 = 0
 ·rw [if_pos c4] at H
  have c4b0 : (t190 == 0) = true := beq_iff_eq.mpr c4
  have c4b1 : (t190 != 0) = false := bne_eq_false_iff_eq.mpr c4
  clear c4
  obtain rfl := Option.some.inj H
  go_enter Try.func122, Try.ntmps122
  go_wp2_with (first | ((with_reducible refine gate_callee (f := 97) rfl ?_); refine goesL_ (some 11) rfl rfl Try.func97 (by kernel_rfl) rfl #[.slice A0 l0.length c0, .int .i64 a1] rfl (by (try simp only [List.map_toArray, List.map_cons, List.map_nil]); first | done | rfl | (simp only [List.length_drop, List.length_take]; rfl)) ?_; (with_reducible refine (spec_l02High.calls k _ _ l0 a1 t190 _ ?side1 ?side2 A3.out).mono ?_); (case side1 => repeat (first | exact HR0.out | (with_reducible refine Kd.C_alloc ?_ _) | (with_reducible refine Kd.C_drewN ?_ _) | (with_reducible refine Kd.C_drew ?_))); (case side2 => exact HC0.out); rintro e w' ⟨rfl, ⟨nd, rfl⟩⟩; refine ⟨_, rfl, ?_⟩) | ((with_reducible refine gate_dst (N := 12) rfl ?_); refine Kd.R_lit (Kd.int .i64) _ 2 ?hg (N := 12) ?hd (xs := ([] : List Int)) (inner := []) (ok := fun _ => True) (okp := fun _ => True) ?hr ?hp (fun _ hk => hk) trivial (Below.refl _ _) (Nat.le_refl _) (by simp) ?_; (case hd => rfl); (case hg => rfl); (case hr => first | (go_simp; done) | (go_simp; rfl)); (case hp => exact (Reps.none _ _)); intro v192 w5 ho6 hb hg_ hnew_; clear hg_ hnew_; (first | rw [← Ny191.out] at ho6 | (simp only [Int.reduceToNat] at ho6; rw [← Ny191.out] at ho6)); have n0_ := Aside0.mk (Kd.R_lower ho6 (below_size (by repeat (first | (with_reducible first | exact HB.out | apply below_alloc | apply pw_below_drewN | apply below_drew1) | exact HB.out)))); have n1_ := Aside0.mk (below_step (by repeat (first | (with_reducible first | exact HB.out | apply below_alloc | apply pw_below_drewN | apply below_drew1) | exact HB.out)) hb); clear HB; have HO193 := n0_; have HB := n1_; clear n0_ n1_; clear hb ho6))
  go_ret
  exact ⟨_, by first | rfl | (simp [errW_none, errW_some] <;> rfl) | (simp [*, errW_none, errW_some] <;> rfl), by (with_reducible repeat (first | apply Kd.R_alloc | apply Kd.R_drewN | apply Kd.R_drew)); exact HO193.out, by repeat (first | (with_reducible first | exact HB.out | apply below_alloc | apply pw_below_drewN | apply below_drew1) | exact HB.out)⟩
 ·rw [if_neg c4] at H
  have c4b0 : (t190 == 0) = false := beq_eq_false_iff_ne.mpr c4
  have c4b1 : (t190 != 0) = true := bne_iff_ne.mpr c4
  replace H := Option.bind_eq_some_iff.mp H
  obtain ⟨t194, A70, H⟩ := H
  replace H : (spec_l02Next.l0 k a1 y191 t194 0) = some r := H
  have A7 := Aside0.mk A70
  clear A70
  have H' := Aside0.mk H
  clear H
  go_enter Try.func122, Try.ntmps122
  go_wp2_with (first | ((with_reducible refine gate_callee (f := 97) rfl ?_); refine goesL_ (some 11) rfl rfl Try.func97 (by kernel_rfl) rfl #[.slice A0 l0.length c0, .int .i64 a1] rfl (by (try simp only [List.map_toArray, List.map_cons, List.map_nil]); first | done | rfl | (simp only [List.length_drop, List.length_take]; rfl)) ?_; (with_reducible refine (spec_l02High.calls k _ _ l0 a1 t190 _ ?side1 ?side2 A3.out).mono ?_); (case side1 => repeat (first | exact HR0.out | (with_reducible refine Kd.C_alloc ?_ _) | (with_reducible refine Kd.C_drewN ?_ _) | (with_reducible refine Kd.C_drew ?_))); (case side2 => exact HC0.out); rintro e w' ⟨rfl, ⟨nd, rfl⟩⟩; refine ⟨_, rfl, ?_⟩) | ((with_reducible refine gate_dst (N := 12) rfl ?_); refine Kd.R_lit (Kd.int .i64) _ 2 ?hg (N := 12) ?hd (xs := ([] : List Int)) (inner := []) (ok := fun _ => True) (okp := fun _ => True) ?hr ?hp (fun _ hk => hk) trivial (Below.refl _ _) (Nat.le_refl _) (by simp) ?_; (case hd => rfl); (case hg => rfl); (case hr => first | (go_simp; done) | (go_simp; rfl)); (case hp => exact (Reps.none _ _)); intro v192 w8 ho9 hb hg_ hnew_; clear hg_ hnew_; (first | rw [← Ny191.out] at ho9 | (simp only [Int.reduceToNat] at ho9; rw [← Ny191.out] at ho9)); have n0_ := Aside0.mk (Kd.R_lower ho9 (below_size (by repeat (first | (with_reducible first | exact HB.out | apply below_alloc | apply pw_below_drewN | apply below_drew1) | exact HB.out)))); have n1_ := Aside0.mk (below_step (by repeat (first | (with_reducible first | exact HB.out | apply below_alloc | apply pw_below_drewN | apply below_drew1) | exact HB.out)) hb); clear HB; have HO193 := n0_; have HB := n1_; clear n0_ n1_; clear hb ho9) | ((with_reducible refine gate_callee (f := 106) rfl ?_); refine goesL_ (some 17) rfl rfl Try.func106 (by kernel_rfl) rfl #[.int .i64 t190] rfl (by (try simp only [List.map_toArray, List.map_cons, List.map_nil]); first | done | rfl | (simp only [List.length_drop, List.length_take]; rfl)) ?_; (with_reducible refine (spec_l01Below.calls k t190 t194 _ A7.out).mono ?_); rintro e w10 ⟨v195, rfl, ho0, hb⟩; refine ⟨_, rfl, ?_⟩; have n0_ := Aside0.mk (Kd.R_elder' (by (with_reducible repeat (first | apply Kd.R_alloc | apply Kd.R_drewN | apply Kd.R_drew)); exact HO193.out) (Kd.R_base ho0) hb); have n1_ := Aside0.mk (Kd.R_lower (Kd.R_new' ho0 (Kd.R_lt (by (with_reducible repeat (first | apply Kd.R_alloc | apply Kd.R_drewN | apply Kd.R_drew)); exact HO193.out))) (below_size (by repeat (first | (with_reducible first | exact HB.out | apply below_alloc | apply pw_below_drewN | apply below_drew1) | exact HB.out)))); have n2_ := Aside0.mk (below_step (by repeat (first | (with_reducible first | exact HB.out | apply below_alloc | apply pw_below_drewN | apply below_drew1) | exact HB.out)) hb); clear HO193; clear HB; have HO193 := n0_; have HO196 := n1_; have HB := n2_; clear n0_ n1_ n2_; (try clear hb); (try clear hb2); (try clear hk); (try clear hi); (try clear ho0)))
  go_loopg [6, 8] k (fun kq v6 v8 w' => ∃ (x6_1 : List Int) (x8_1 : Int), v8 = .int .i64 x8_1 ∧ Aside0 (spec_l02Next.l0 kq a1 x6_1 t194 x8_1 = some r) ∧ Aside0 (kq ≤ k) ∧ Aside0 (Kd.R (Kd.int .i64) 2 w' w.heap.size (fun k_ => some k_ ≠ (v195 : Value).ownBlock) v6 x6_1) ∧ Aside0 (Kd.R (Kd.int .i64) 2 w' w.heap.size (fun k_ => some k_ ≠ (v6 : Value).ownBlock) v195 t194) ∧ Aside0 (Below w.heap.size w w'))
  case atStart => exact ⟨(y191), (0), (by first | rfl | (simp; done) | (simp [*]; done)), H', ⟨Nat.le_refl _⟩, ⟨by (with_reducible repeat (first | apply Kd.R_alloc | apply Kd.R_drewN | apply Kd.R_drew)); exact Kd.R_mono HO193.out (fun _ hk => hk.2)⟩, ⟨by (with_reducible repeat (first | apply Kd.R_alloc | apply Kd.R_drewN | apply Kd.R_drew)); exact Kd.R_mono HO196.out (fun _ hk => hk.2)⟩, ⟨by repeat (first | (with_reducible first | exact HB.out | apply below_alloc | apply pw_below_drewN | apply below_drew1) | exact HB.out)⟩⟩
  case round =>
   clear H'
   try clear c1
   try clear p2
   try clear c4
   try clear c4b0
   try clear c4b1
   try clear c9
   try clear c10
   obtain ⟨x6_1, x8_1, rfl, HA, HK1, HO_6, HO_7, HB⟩ := hrel
   cases gk with
   | zero => exact absurd HA.out (by simp [spec_l02Next.l0])
   | succ k1 =>
    have H := HA.out
    clear HA
    simp only [spec_l02Next.l0] at H
    by_cases c11 : x8_1 < (t194.length : Int)
    ·rw [if_pos c11] at H
     have c11b0 : decide (x8_1 < (t194.length : Int)) = true := decide_eq_true c11
     clear c11
     by_cases c12 : 0 ≤ x8_1
     ·rw [if_pos c12] at H
      have c12b0 : decide (0 ≤ x8_1) = true := decide_eq_true c12
      clear c12
      by_cases c13 : (rd t194 x8_1) = a1
      ·rw [if_pos c13] at H
       have c13b0 : ((rd t194 x8_1) == a1) = true := beq_iff_eq.mpr c13
       have c13b1 : ((rd t194 x8_1) != a1) = false := bne_eq_false_iff_eq.mpr c13
       clear c13
       have H' := Aside0.mk H
       clear H
       obtain ⟨Ao14, co14, eo14⟩ := Kd.R_slice HO_7.out
       subst eo14
       have p197 : 0 ≤ (x8_1 : Int) := of_decide_eq_true (by first | (with_reducible assumption) | assumption)
       have q197 : x8_1 < (t194.length : Int) := of_decide_eq_true (by first | (with_reducible assumption) | assumption)
       obtain ⟨ad197, e197, hx197_0⟩ := Kd.at_int (Kd.R_reads' HO_7.out).2.2 x8_1 p197 q197
       cases e197
       replace p197 := eq_true p197
       replace q197 := eq_true q197
       go_wp2
       go_roundg k1
       case measure => have := HK1.out; omega
       case rel => exact ⟨(x6_1), (wrap64 (x8_1 + 1)), (by first | rfl | (simp; done) | (simp [*]; done)), H', ⟨by have := HK1.out; omega⟩, ⟨by (with_reducible repeat (first | apply Kd.R_alloc | apply Kd.R_drewN | apply Kd.R_drew)); exact HO_6.out⟩, ⟨by (with_reducible repeat (first | apply Kd.R_alloc | apply Kd.R_drewN | apply Kd.R_drew)); exact HO_7.out⟩, ⟨by repeat (first | (with_reducible first | exact HB.out | apply below_alloc | apply pw_below_drewN | apply below_drew1) | exact HB.out)⟩⟩
      ·rw [if_neg c13] at H
       have c13b0 : ((rd t194 x8_1) == a1) = false := beq_eq_false_iff_ne.mpr c13
       have c13b1 : ((rd t194 x8_1) != a1) = true := bne_iff_ne.mpr c13
       by_cases c15 : x6_1.length < 17592186044416
       ·rw [if_pos c15] at H
        have LMc15 := Aside0.mk c15
        clear c15
        obtain ⟨y199, hy199⟩ : ∃ y_ : List Int, y_ = (x6_1 ++ [rd t194 x8_1]) := ⟨_, rfl⟩
        replace H : (spec_l02Next.l0 k1 a1 y199 t194 (wrap64 (x8_1 + 1))) = some r := by first | (rw [hy199]; with_reducible exact H) | (have H2_ := (Option.bind_some _ _).symm.trans H; rw [hy199]; with_reducible exact H2_) | (have H2_ := (Option.bind_some _ _).symm.trans H; with_reducible exact H2_) | with_reducible exact H | (rw [hy199]; exact H) | exact H
        have Ny199 := Aside0.mk hy199
        clear hy199
        have H' := Aside0.mk H
        clear H
        obtain ⟨Ao16, co16, eo16⟩ := Kd.R_slice HO_7.out
        subst eo16
        have p197 : 0 ≤ (x8_1 : Int) := of_decide_eq_true (by first | (with_reducible assumption) | assumption)
        have q197 : x8_1 < (t194.length : Int) := of_decide_eq_true (by first | (with_reducible assumption) | assumption)
        obtain ⟨ad197, e197, hx197_0⟩ := Kd.at_int (Kd.R_reads' HO_7.out).2.2 x8_1 p197 q197
        cases e197
        replace p197 := eq_true p197
        replace q197 := eq_true q197
        have p198 : 0 ≤ (x8_1 : Int) := of_decide_eq_true (by first | (with_reducible assumption) | assumption)
        have q198 : x8_1 < (t194.length : Int) := of_decide_eq_true (by first | (with_reducible assumption) | assumption)
        obtain ⟨ad198, e198, hx198_0⟩ := Kd.at_int (Kd.R_reads' HO_7.out).2.2 x8_1 p198 q198
        obtain rfl : ad197 = ad198 := (by injection e198)
        replace p198 := eq_true p198
        replace q198 := eq_true q198
        go_wp2_with (first | ((with_reducible refine gate_builtin (b := .append) (xs := #[.tmp 30, .tmp 35]) rfl ?_); at_builtin; refine Kd.R_append (Kd.int .i64) (w0 := w) w.heap.size rfl (.tmp 30) (.tmp 35) 22 2 (.int .i64 0) 8 rfl Try.underlying22 info2 rfl (by decide) (by omega) u6 x6_1 (rd t194 x8_1) [.int .i64 (rd t194 x8_1)] (fun k_ => some k_ ≠ (.slice (some ad197) t194.length co16 : Value).ownBlock) (fun _ => False) rfl rfl ?aP (fun _ hk => hk.elim) ?aF ?aO ?aB ?aS ?aL ?_; (case aP => exact rfl); (case aB => exact (by repeat (first | (with_reducible first | exact HB.out | apply below_alloc | apply pw_below_drewN | apply below_drew1) | exact HB.out))); (case aF => exact (fun k_ hk => Kd.fresh' (Kd.R_lt (by (with_reducible repeat (first | apply Kd.R_alloc | apply Kd.R_drewN | apply Kd.R_drew)); exact HO_7.out)) k_ hk)); (case aO => exact (by (with_reducible repeat (first | apply Kd.R_alloc | apply Kd.R_drewN | apply Kd.R_drew)); exact HO_6.out)); (case aS => exact (below_size (by repeat (first | (with_reducible first | exact HB.out | apply below_alloc | apply pw_below_drewN | apply below_drew1) | exact HB.out)))); (case aL => have := LMc15.out; omega); intro v200 w17 ho hb hg hat; rw [← Ny199.out] at ho; have n0_ := Aside0.mk (Kd.R_after (ok := (fun _ => True)) (by (with_reducible repeat (first | apply Kd.R_alloc | apply Kd.R_drewN | apply Kd.R_drew)); exact Kd.R_mono HO_7.out (fun _ hk => ⟨trivial, hk⟩)) hg hat); have n1_ := Aside0.mk (hb); have n2_ := Aside0.mk (ho); clear HO_7; clear HB; clear HO_6; have HO_7 := n0_; have HB := n1_; have HO201 := n2_; clear n0_ n1_ n2_; clear ho hb hg hat))
        go_roundg k1
        case measure => have := HK1.out; omega
        case rel => exact ⟨(y199), (wrap64 (x8_1 + 1)), (by first | rfl | (simp; done) | (simp [*]; done)), H', ⟨by have := HK1.out; omega⟩, ⟨by (with_reducible repeat (first | apply Kd.R_alloc | apply Kd.R_drewN | apply Kd.R_drew)); exact HO201.out⟩, ⟨by (with_reducible repeat (first | apply Kd.R_alloc | apply Kd.R_drewN | apply Kd.R_drew)); exact Kd.R_mono HO_7.out (fun _ hk => hk.2)⟩, ⟨by repeat (first | (with_reducible first | exact HB.out | apply below_alloc | apply pw_below_drewN | apply below_drew1) | exact HB.out)⟩⟩
       ·rw [if_neg c15] at H
        exact absurd H (by simp)
     ·rw [if_neg c12] at H
      exact absurd H (by simp)
    ·rw [if_neg c11] at H
     have c11b0 : decide (x8_1 < (t194.length : Int)) = false := decide_eq_false c11
     clear c11
     obtain rfl := Option.some.inj H
     obtain ⟨Ao18, co18, eo18⟩ := Kd.R_slice HO_7.out
     subst eo18
     go_wp2
     go_ret
     exact ⟨_, by first | rfl | (simp [errW_none, errW_some] <;> rfl) | (simp [*, errW_none, errW_some] <;> rfl), by (with_reducible repeat (first | apply Kd.R_alloc | apply Kd.R_drewN | apply Kd.R_drew)); exact Kd.R_mono HO_6.out (fun _ hk => trivial), by repeat (first | (with_reducible first | exact HB.out | apply below_alloc | apply pw_below_drewN | apply below_drew1) | exact HB.out)⟩

end Go.Proofs.Ytniikppojffiaaa.Q
end

section
/- The high face of a pair, plain. -/
namespace Go.Proofs.Ytniikppojffiaaa.K
open Go.RowKit Go.Shelf Go.Proofs.Ytniikppojffiaaa.Q Go.Proofs.YtniikppojffiaaaW.PrintWords Go.Proofs.YtniikppojffiaaaW.PrintLast Go.Proofs.YtniikppojffiaaaW.PrintMore
set_option linter.unusedVariables false
set_option linter.unusedSimpArgs false

theorem specHigh_loop (q : List PairT) (hq : q.length ≤ 4000) (a : Int) : ∀ (e i k : Nat), q.length - i = e → i ≤ q.length → e < k → spec_l02High.l0 k q a (i : Int) = some (highL (q.drop i) a) := by
 intro e
 induction e with
 | zero =>
  intro i k he hi hk
  obtain ⟨k, rfl⟩ : ∃ m, k = m + 1 := ⟨k - 1, by omega⟩
  obtain rfl : i = q.length := by omega
  simp only [spec_l02High.l0]
  rw [if_neg (by omega), List.drop_eq_nil_of_le (by omega)]
  rfl
 | succ e ih =>
  intro i k he hi hk
  obtain ⟨k, rfl⟩ : ∃ m, k = m + 1 := ⟨k - 1, by omega⟩
  have hil : i < q.length := by omega
  simp only [spec_l02High.l0]
  rw [if_pos (by omega), if_pos (by omega), rdP q i hil, w64 ((i : Int) + 1) (by omega) (by omega), nat_succ, ih (i + 1) k (by omega) (by omega) (by omega), List.drop_eq_getElem_cons hil, highL]
  split <;> rfl
theorem specHigh_is (q : List PairT) (hq : q.length ≤ 4000) (a : Int) (k : Nat) (hk : 4001 ≤ k) : spec_l02High.f k q a = some (highL q a) := by
 unfold spec_l02High.f
 have := specHigh_loop q hq a q.length 0 k (by omega) (by omega) (by omega)
 rw [show ((0 : Nat) : Int) = 0 from rfl, List.drop_zero] at this
 exact this
end Go.Proofs.Ytniikppojffiaaa.K
end

section
/- Truths by number: a list that reads as a set. -/
namespace Go.Proofs.Ytniikppojffiaaa.K
open Go.RowKit Go.Shelf Go.Proofs.Ytniikppojffiaaa.Q Go.Proofs.YtniikppojffiaaaW.PrintWords Go.Proofs.YtniikppojffiaaaW.PrintLast Go.Proofs.YtniikppojffiaaaW.PrintMore
set_option linter.unusedVariables false
set_option linter.unusedSimpArgs false

/-- A list of 64 truths reads as the set. -/
structure MetL (met : List Bool) (S : Int → Bool) : Prop where
 len : met.length = 64
 at_ : ∀ x : Int, 0 ≤ x → x < 64 → rdOf false met x = S x
theorem MetL.start : MetL (List.replicate 64 false) (fun _ => false) := ⟨by simp, fun x h0 h1 => by
 obtain ⟨n, rfl⟩ : ∃ n : Nat, x = (n : Int) := ⟨x.toNat, by omega⟩
 have hn : n < 64 := by omega
 unfold rdOf
 rw [Int.toNat_natCast, List.getD_eq_getElem?_getD, List.getElem?_replicate, if_pos hn]
 rfl⟩
theorem MetL.set {met : List Bool} {S : Int → Bool} (h : MetL met S) (x : Int) (h0 : 0 ≤ x) (h1 : x < 64) : MetL (met.set x.toNat true) (upd S x true) := ⟨by rw [List.length_set]; exact h.len, fun y y0 y1 => by
 obtain ⟨n, rfl⟩ : ∃ n : Nat, x = (n : Int) := ⟨x.toNat, by omega⟩
 obtain ⟨m, rfl⟩ : ∃ m : Nat, y = (m : Int) := ⟨y.toNat, by omega⟩
 have hl := h.len
 have hy := h.at_ (m : Int) y0 y1
 unfold upd
 by_cases e : m = n
 ·subst e
  have hm : m < met.length := by omega
  rw [if_pos rfl]
  simp [rdOf, hm]
 ·rw [if_neg (by omega), ← hy]
  simp [rdOf, List.getElem?_set_ne (fun e' : n = m => e e'.symm)]⟩
theorem high_good {q : List PairT} (hg : GoodQ q) (a : Int) : highL q a = 0 ∨ (1 ≤ highL q a ∧ highL q a ≤ 63) := by
 rcases high_cases q a with ⟨h1, _⟩ | ⟨p, hp, _, h2⟩
 ·exact .inl h1
 ·have := hg.f1 p hp
  rw [h2] at this
  exact .inr this
end Go.Proofs.Ytniikppojffiaaa.K
end

section
/- Written by a program of this session (myprint.py over the kit's print). -/
namespace Go.Proofs.Ytniikppojffiaaa.Q
open Go.RowKit Go.Proofs.YtniikppojffiaaaW.PrintWords Go.Proofs.YtniikppojffiaaaW.PrintLast Go.Proofs.YtniikppojffiaaaW.PrintMore
attribute [local go_sem] max2_int min2_int max_two min_two max_three min_three max_four min_four   -- for this text's walks alone
set_option linter.unusedVariables false
set_option linter.unusedSimpArgs false

/-! ### spec_l02Reached: function 74 -/
def spec_l02Reached.l0 : Nat → List (S53) → List Bool → List Int → Option (List Bool)
 | 0, _, _, _ => none
 | k + 1, x0, x5, x6 => if (x6.length : Int) > 0 then (if 0 ≤ (wrap64 ((x6.length : Int) - 1)) then (if (wrap64 ((x6.length : Int) - 1)) < (x6.length : Int) then (if (wrap64 ((x6.length : Int) - 1)) ≤ (x6.length : Int) then ((some (x6.take ((wrap64 ((x6.length : Int) - 1)) : Int).toNat : List Int)).bind fun y209 => (if 0 ≤ (rd x6 (wrap64 ((x6.length : Int) - 1))) then (if (rd x6 (wrap64 ((x6.length : Int) - 1))) < (x5.length : Int) then (if rdOf false x5 (rd x6 (wrap64 ((x6.length : Int) - 1))) = true then (spec_l02Reached.l0 k x0 x5 y209) else ((spec_l02Next.f k x0 (rd x6 (wrap64 ((x6.length : Int) - 1)))).bind fun t214 => (if y209.length + t214.length < 17592186044416 then (spec_l02Reached.l0 k x0 (x5.set ((rd x6 (wrap64 ((x6.length : Int) - 1))) : Int).toNat true) (y209 ++ t214)) else (none)))) else (none)) else (none))) else (none)) else (none)) else (none)) else (some x5)
def spec_l02Reached.f (k : Nat) (l0 : List (S53)) (a1 : Int) : Option (List Bool) := if 64 ≤ 281474976710656 then ((spec_l02Next.f k l0 a1).bind fun t205 => (spec_l02Reached.l0 k l0 (List.replicate 64 false) t205)) else (none)
theorem spec_l02Reached.mono_l : ∀ k, (∀ y0 y1 y2, LeO (spec_l02Reached.l0 k y0 y1 y2) (spec_l02Reached.l0 (k + 1) y0 y1 y2))
 | 0 => fun _ _ _ r h => by simp [spec_l02Reached.l0] at h
 | k + 1 => by
  have ih0 := spec_l02Reached.mono_l k
  ·intro y0 y1 y2
   unfold spec_l02Reached.l0
   repeat' first
   | (with_reducible exact ih0 _ _ _)
   | (with_reducible exact spec_l02Next.mono _ _ _)
   | (with_reducible exact LeO.refl _)
   | (with_reducible exact LeO.none _)
   | (with_reducible refine LeO.ite ?_ ?_)
   | (with_reducible refine LeO.bind ?_ (fun _ => ?_))
   | exact ih0 _ _ _
   | exact spec_l02Next.mono _ _ _
   | exact LeO.none _
   | refine LeO.ite ?_ ?_
   | refine LeO.bind ?_ (fun _ => ?_)
theorem spec_l02Reached.mono : ∀ a0 a1 k, LeO (spec_l02Reached.f k a0 a1) (spec_l02Reached.f (k + 1) a0 a1) := by
 intro a0 a1 k
 have ih0 := spec_l02Reached.mono_l k
 unfold spec_l02Reached.f
 repeat' first
   | (with_reducible exact ih0 _ _ _)
   | (with_reducible exact spec_l02Next.mono _ _ _)
   | (with_reducible exact LeO.refl _)
   | (with_reducible exact LeO.none _)
   | (with_reducible refine LeO.ite ?_ ?_)
   | (with_reducible refine LeO.bind ?_ (fun _ => ?_))
   | exact ih0 _ _ _
   | exact spec_l02Next.mono _ _ _
   | exact LeO.none _
   | refine LeO.ite ?_ ?_
   | refine LeO.bind ?_ (fun _ => ?_)
set_option maxHeartbeats 8000000 in
set_option maxRecDepth 100000 in
theorem spec_l02Reached.calls (k : Nat) (A0 : Option Addr) (c0 : Nat) (l0 : List (S53)) (a1 : Int) (r : List Bool) (w : World) (hr0 : Kd.C k53 w A0 l0.length l0) (hc0 : l0.length ≤ c0) (h : spec_l02Reached.f k l0 a1 = some r) :
  Calls Try.prog 74 #[.slice A0 l0.length c0, .int .i64 a1] w fun e w' => ∃ v0_ : Value, e = .returned (v0_) ∧ Kd.R Kd.bool 4 w' w.heap.size (fun _ => True) v0_ r ∧ Below w.heap.size w w' := by
 have HR0 := Aside0.mk hr0
 have HC0 := Aside0.mk hc0
 clear hr0 hc0
 have HB := Aside0.mk (Below.refl w.heap.size w)
 have H : (if 64 ≤ 281474976710656 then ((spec_l02Next.f k l0 a1).bind fun t205 => (spec_l02Reached.l0 k l0 (List.replicate 64 false) t205)) else (none)) = some r := h
 clear h
 by_cases c3 : 64 ≤ 281474976710656
 ·rw [if_pos c3] at H
  have c3b0 := eq_true c3
  have c3b1 : decide (64 ≤ 281474976710656) = true := decide_eq_true c3
  clear c3
  obtain ⟨y202, hy202⟩ : ∃ y_ : List Bool, y_ = (List.replicate 64 false) := ⟨_, rfl⟩
  replace H : ((spec_l02Next.f k l0 a1).bind fun t205 => (spec_l02Reached.l0 k l0 y202 t205)) = some r := by first | (rw [hy202]; with_reducible exact H) | (have H2_ := (Option.bind_some _ _).symm.trans H; rw [hy202]; with_reducible exact H2_) | (have H2_ := (Option.bind_some _ _).symm.trans H; with_reducible exact H2_) | with_reducible exact H | (rw [hy202]; exact H) | exact H
  have Ny202 := Aside0.mk hy202
  clear hy202
  replace H := Option.bind_eq_some_iff.mp H
  obtain ⟨t205, A40, H⟩ := H
  replace H : (spec_l02Reached.l0 k l0 y202 t205) = some r := H
  have A4 := Aside0.mk A40
  clear A40
  have H' := Aside0.mk H
  clear H
  go_enter Try.func74, Try.ntmps74
  try go_wp2
  have n0_ := Aside0.mk (below_drew1 HB.out)
  clear HB
  have HB := n0_
  clear n0_
  refine start_ (n := 6) (S := fun w' => True) (ds := []) (ar 0 6) (by kernel_rfl) rfl rfl trivial (fun hHeld => ?_)
  generalize w.drew = w5 at HB hHeld ⊢
  refine pure_ (i := 1) (N := some 9) (v := ?_) (a' := ?_) #[O,U,O,O,O,O] rfl rfl (by kernel_rfl) hh_ (Or.inl ⟨by rfl, ?_⟩) ?_ ?_; rotate_left; (intro w'; go_simp; with_reducible rfl); rotate_left; · simp only [nm_]; rfl
  refine pure_ (i := 2) (N := some 10) (v := ?_) (a' := ?_) #[O,U,U,O,O,O] rfl rfl (by kernel_rfl) hh_ (Or.inl ⟨by rfl, ?_⟩) ?_ ?_; rotate_left; (intro w'; go_simp; with_reducible rfl); rotate_left; · simp only [nm_]; rfl
  refine join_ (σ := Value × Value) 2 (ar 4 2) (fun s_ => [(8, s_.1), (11, s_.2)]) (fun s_ w' => (Kd.R Kd.bool 4 w' w.heap.size (fun _ => True) s_.1 y202) ∧ (Kd.R (Kd.int .i64) 2 w' w.heap.size (fun _ => True) s_.2 t205) ∧ (Below w.heap.size w w')) ?_ ?_
  rotate_left
  ·intro hCont
   refine two_ (i := 0) (j := 3) (Ni := some 8) (Nj := some 11) (ar 3 3) #[O,U,U,U,O,O] rfl rfl rfl rfl (by kernel_rfl) (by decide) (by decide) (fun K hK => ?_) (fun K hK => ?_)
   ·skip
    refine Kd.R_make_step Kd.bool _ 4 (by rfl) (N := 8) rfl 73 _ _ rfl 64 rfl rfl Try.underlying73 (.bool false) 1 info4 rfl (by decide) (by omega) false (ok := fun _ => True) (okp := fun _ => True) rfl (fun _ hk => hk) trivial (by omega) (by omega) (Below.refl _ _) (Nat.le_refl _) ?_
    intro v203 w6 ho7 hb hg_ hnew_
    clear hg_ hnew_
    (first | rw [← Ny202.out] at ho7 | (simp only [Int.reduceToNat] at ho7; rw [← Ny202.out] at ho7))
    have n0_ := Aside0.mk (Kd.R_lower ho7 (below_size (by repeat (first | (with_reducible first | exact HB.out | apply below_alloc | apply pw_below_drewN | apply below_drew1) | exact HB.out))))
    have n1_ := Aside0.mk (below_step (by repeat (first | (with_reducible first | exact HB.out | apply below_alloc | apply pw_below_drewN | apply below_drew1) | exact HB.out)) hb)
    clear HB
    have HO204 := n0_
    have HB := n1_
    clear n0_ n1_
    clear hb ho7
    refine hK.out _ _ trivial (fun hHeld => ?_)
    clear hK K
    refine norm_ (a' := ?_) ?_ ?_
    rotate_left
    ·show Act.put _ (some 8) _ = _
     simp only [nm_]
     rfl
    refine one_ (i := 3) (N := some 11) (ar 4 2) rfl rfl (by kernel_rfl) (by decide) (fun K hK => ?_)
    refine goes_ Try.func122 (by kernel_rfl) rfl #[.slice A0 l0.length c0, .int .i64 a1] (by rfl) rfl rfl (by (try simp only [List.map_toArray, List.map_cons, List.map_nil]); first | done | rfl | (simp only [List.length_drop, List.length_take]; rfl)) ?_
    with_reducible refine (spec_l02Next.calls k _ _ l0 a1 t205 _ ?side1 ?side2 A4.out).mono ?_
    (case side1 => repeat (first | exact (Kd.C_below HR0.out HB.out) | (with_reducible refine Kd.C_alloc ?_ _) | (with_reducible refine Kd.C_drewN ?_ _) | (with_reducible refine Kd.C_drew ?_)))
    (case side2 => exact HC0.out)
    rintro e w8 ⟨v206, rfl, ho0, hb⟩
    refine ⟨_, rfl, ?_⟩
    have n0_ := Aside0.mk (Kd.R_below (by (with_reducible repeat (first | apply Kd.R_alloc | apply Kd.R_drewN | apply Kd.R_drew)); exact HO204.out) hb)
    have n1_ := Aside0.mk (Kd.R_lower ho0 (below_size (by repeat (first | (with_reducible first | exact HB.out | apply below_alloc | apply pw_below_drewN | apply below_drew1) | exact HB.out))))
    have n2_ := Aside0.mk (below_step (by repeat (first | (with_reducible first | exact HB.out | apply below_alloc | apply pw_below_drewN | apply below_drew1) | exact HB.out)) hb)
    clear HO204
    clear HB
    have HO204 := n0_
    have HO207 := n1_
    have HB := n2_
    clear n0_ n1_ n2_
    (try clear hb)
    (try clear hb2)
    (try clear hk)
    (try clear hi)
    (try clear ho0)
    refine hK.out _ _ trivial (fun hHeld => ?_)
    clear hK K
    refine norm_ (a' := ?_) ?_ ?_
    rotate_left
    ·show Act.put _ (some 11) _ = _
     simp only [nm_]
     rfl
    exact norm_ (by simp only [putAll, Act.put, List.setIfInBounds_toArray, List.set_cons_zero, List.set_cons_succ]) (hCont (v203, v206) _ ⟨(by (with_reducible repeat (first | apply Kd.R_alloc | apply Kd.R_drewN | apply Kd.R_drew)); exact HO204.out), (by (with_reducible repeat (first | apply Kd.R_alloc | apply Kd.R_drewN | apply Kd.R_drew)); exact HO207.out), (by repeat (first | (with_reducible first | exact HB.out | apply below_alloc | apply pw_below_drewN | apply below_drew1) | exact HB.out))⟩)
   ·skip
    refine goes_ Try.func122 (by kernel_rfl) rfl #[.slice A0 l0.length c0, .int .i64 a1] (by rfl) rfl rfl (by (try simp only [List.map_toArray, List.map_cons, List.map_nil]); first | done | rfl | (simp only [List.length_drop, List.length_take]; rfl)) ?_
    with_reducible refine (spec_l02Next.calls k _ _ l0 a1 t205 _ ?side1 ?side2 A4.out).mono ?_
    (case side1 => repeat (first | exact (Kd.C_below HR0.out HB.out) | (with_reducible refine Kd.C_alloc ?_ _) | (with_reducible refine Kd.C_drewN ?_ _) | (with_reducible refine Kd.C_drew ?_)))
    (case side2 => exact HC0.out)
    rintro e w6 ⟨v206, rfl, ho0, hb⟩
    refine ⟨_, rfl, ?_⟩
    have n0_ := Aside0.mk (Kd.R_lower ho0 (below_size (by repeat (first | (with_reducible first | exact HB.out | apply below_alloc | apply pw_below_drewN | apply below_drew1) | exact HB.out))))
    have n1_ := Aside0.mk (below_step (by repeat (first | (with_reducible first | exact HB.out | apply below_alloc | apply pw_below_drewN | apply below_drew1) | exact HB.out)) hb)
    clear HB
    have HO207 := n0_
    have HB := n1_
    clear n0_ n1_
    (try clear hb)
    (try clear hb2)
    (try clear hk)
    (try clear hi)
    (try clear ho0)
    refine hK.out _ _ trivial (fun hHeld => ?_)
    clear hK K
    refine norm_ (a' := ?_) ?_ ?_
    rotate_left
    ·show Act.put _ (some 11) _ = _
     simp only [nm_]
     rfl
    refine one_ (i := 0) (N := some 8) (ar 4 2) rfl rfl (by kernel_rfl) (by decide) (fun K hK => ?_)
    refine Kd.R_make_step Kd.bool _ 4 (by rfl) (N := 8) rfl 73 _ _ rfl 64 rfl rfl Try.underlying73 (.bool false) 1 info4 rfl (by decide) (by omega) false (ok := fun _ => True) (okp := fun _ => True) rfl (fun _ hk => hk) trivial (by omega) (by omega) (Below.refl _ _) (Nat.le_refl _) ?_
    intro v203 w7 ho8 hb hg_ hnew_
    clear hg_ hnew_
    (first | rw [← Ny202.out] at ho8 | (simp only [Int.reduceToNat] at ho8; rw [← Ny202.out] at ho8))
    have n0_ := Aside0.mk (Kd.R_below (by (with_reducible repeat (first | apply Kd.R_alloc | apply Kd.R_drewN | apply Kd.R_drew)); exact HO207.out) hb)
    have n1_ := Aside0.mk (Kd.R_lower ho8 (below_size (by repeat (first | (with_reducible first | exact HB.out | apply below_alloc | apply pw_below_drewN | apply below_drew1) | exact HB.out))))
    have n2_ := Aside0.mk (below_step (by repeat (first | (with_reducible first | exact HB.out | apply below_alloc | apply pw_below_drewN | apply below_drew1) | exact HB.out)) hb)
    clear HO207
    clear HB
    have HO207 := n0_
    have HO204 := n1_
    have HB := n2_
    clear n0_ n1_ n2_
    clear hb ho8
    refine hK.out _ _ trivial (fun hHeld => ?_)
    clear hK K
    refine norm_ (a' := ?_) ?_ ?_
    rotate_left
    ·show Act.put _ (some 8) _ = _
     simp only [nm_]
     rfl
    exact norm_ (by simp only [putAll, Act.put, List.setIfInBounds_toArray, List.set_cons_zero, List.set_cons_succ]) (hCont (v203, v206) _ ⟨(by (with_reducible repeat (first | apply Kd.R_alloc | apply Kd.R_drewN | apply Kd.R_drew)); exact HO204.out), (by (with_reducible repeat (first | apply Kd.R_alloc | apply Kd.R_drewN | apply Kd.R_drew)); exact HO207.out), (by repeat (first | (with_reducible first | exact HB.out | apply below_alloc | apply pw_below_drewN | apply below_drew1) | exact HB.out))⟩)
  rintro ⟨v203, v206⟩ w9 ⟨h0_, h1_, h2_⟩
  have n0_ : Aside0 (Kd.R Kd.bool 4 w9 w.heap.size (fun _ => True) v203 y202) := ⟨h0_⟩
  have n1_ : Aside0 (Kd.R (Kd.int .i64) 2 w9 w.heap.size (fun _ => True) v206 t205) := ⟨h1_⟩
  have n2_ : Aside0 (Below w.heap.size w w9) := ⟨h2_⟩
  clear HB
  clear h0_ h1_ h2_
  have HO204 := n0_
  have HO207 := n1_
  have HB := n2_
  clear n0_ n1_ n2_
  have hHeld := trivial
  refine norm_ (a' := ?_) ?_ ?_
  rotate_left; · simp only [putAll, Act.put, List.setIfInBounds_toArray, List.set_cons_zero, List.set_cons_succ]; rfl
  refine pure_ (i := 4) (N := some 5) (v := ?_) (a' := ?_) (ar 5 1) rfl rfl (by kernel_rfl) hh_ (Or.inl ⟨by rfl, ?_⟩) ?_ ?_; rotate_left; (intro w'; go_simp; with_reducible rfl); rotate_left; · simp only [nm_]; rfl
  refine pure_ (i := 5) (N := some 6) (v := ?_) (a' := ?_) (ar 6 0) rfl rfl (by kernel_rfl) hh_ (Or.inl ⟨by rfl, ?_⟩) ?_ ?_; rotate_left; (intro w'; go_simp; with_reducible rfl); rotate_left; · simp only [nm_]; rfl
  refine done_ (by kernel_rfl) ?_
  try go_wp2
  go_loopg [6] k (fun kq v6 w' => ∃ (x5_1 : List Bool) (x6_1 : List Int), Aside0 (spec_l02Reached.l0 kq l0 x5_1 x6_1 = some r) ∧ Aside0 (kq ≤ k) ∧ Aside0 (Kd.R Kd.bool 4 w' w.heap.size (fun _ => True) v203 x5_1) ∧ Aside0 (Kd.R (Kd.int .i64) 2 w' w.heap.size (fun _ => True) v6 x6_1) ∧ Aside0 (Below w.heap.size w w'))
  case atStart => exact ⟨(y202), (t205), H', ⟨Nat.le_refl _⟩, ⟨by (with_reducible repeat (first | apply Kd.R_alloc | apply Kd.R_drewN | apply Kd.R_drew)); exact HO204.out⟩, ⟨by (with_reducible repeat (first | apply Kd.R_alloc | apply Kd.R_drewN | apply Kd.R_drew)); exact HO207.out⟩, ⟨by repeat (first | (with_reducible first | exact HB.out | apply below_alloc | apply pw_below_drewN | apply below_drew1) | exact HB.out)⟩⟩
  case round =>
   clear H'
   try clear c1
   try clear p2
   try clear c3
   try clear c3b0
   try clear c3b1
   try clear c7
   obtain ⟨x5_1, x6_1, HA, HK1, HO_5, HO_6, HB⟩ := hrel
   cases gk with
   | zero => exact absurd HA.out (by simp [spec_l02Reached.l0])
   | succ k1 =>
    have H := HA.out
    clear HA
    simp only [spec_l02Reached.l0] at H
    by_cases c10 : (x6_1.length : Int) > 0
    ·rw [if_pos c10] at H
     have c10b0 : decide (0 < (x6_1.length : Int)) = true := decide_eq_true c10
     have c10b1 : decide (0 < x6_1.length) = true := decide_eq_true (by omega)
     clear c10
     obtain ⟨ji11, hji11⟩ : ∃ j_ : Int, (wrap64 ((x6_1.length : Int) - 1)) = j_ := ⟨_, rfl⟩
     replace H : (if 0 ≤ (ji11) then (if (ji11) < (x6_1.length : Int) then (if (ji11) ≤ (x6_1.length : Int) then ((some (x6_1.take ((ji11) : Int).toNat : List Int)).bind fun y209 => (if 0 ≤ (rd x6_1 (ji11)) then (if (rd x6_1 (ji11)) < (x5_1.length : Int) then (if rdOf false x5_1 (rd x6_1 (ji11)) = true then (spec_l02Reached.l0 k1 l0 x5_1 y209) else ((spec_l02Next.f k1 l0 (rd x6_1 (ji11))).bind fun t214 => (if y209.length + t214.length < 17592186044416 then (spec_l02Reached.l0 k1 l0 (x5_1.set ((rd x6_1 (ji11)) : Int).toNat true) (y209 ++ t214)) else (none)))) else (none)) else (none))) else (none)) else (none)) else (none)) = some r := by first | (rw [hji11] at H; exact H) | (simp only [hji11] at H ⊢; exact H)
     have hji11w : (IntKind.i64.wrap ((x6_1.length : Int) - 1)) = ji11 := (i64_w _).trans hji11
     by_cases c12 : 0 ≤ (ji11)
     ·rw [if_pos c12] at H
      have c12b0 : decide (0 ≤ (ji11)) = true := decide_eq_true c12
      clear c12
      by_cases c13 : (ji11) < (x6_1.length : Int)
      ·rw [if_pos c13] at H
       have c13b0 : decide ((ji11) < (x6_1.length : Int)) = true := decide_eq_true c13
       clear c13
       by_cases c14 : (ji11) ≤ (x6_1.length : Int)
       ·rw [if_pos c14] at H
        have c14b0 := eq_true c14
        have c14b1 : decide ((ji11) ≤ (x6_1.length : Int)) = true := decide_eq_true c14
        clear c14
        obtain ⟨y209, hy209⟩ : ∃ y_ : List Int, y_ = (x6_1.take ((ji11) : Int).toNat) := ⟨_, rfl⟩
        replace H : (if 0 ≤ (rd x6_1 (ji11)) then (if (rd x6_1 (ji11)) < (x5_1.length : Int) then (if rdOf false x5_1 (rd x6_1 (ji11)) = true then (spec_l02Reached.l0 k1 l0 x5_1 y209) else ((spec_l02Next.f k1 l0 (rd x6_1 (ji11))).bind fun t214 => (if y209.length + t214.length < 17592186044416 then (spec_l02Reached.l0 k1 l0 (x5_1.set ((rd x6_1 (ji11)) : Int).toNat true) (y209 ++ t214)) else (none)))) else (none)) else (none)) = some r := by first | (rw [hy209]; with_reducible exact H) | (have H2_ := (Option.bind_some _ _).symm.trans H; rw [hy209]; with_reducible exact H2_) | (have H2_ := (Option.bind_some _ _).symm.trans H; with_reducible exact H2_) | with_reducible exact H | (rw [hy209]; exact H) | exact H
        have Ny209 := Aside0.mk hy209
        clear hy209
        by_cases c15 : 0 ≤ (rd x6_1 (ji11))
        ·rw [if_pos c15] at H
         have c15b0 : decide (0 ≤ (rd x6_1 (ji11))) = true := decide_eq_true c15
         clear c15
         by_cases c16 : (rd x6_1 (ji11)) < (x5_1.length : Int)
         ·rw [if_pos c16] at H
          have c16b0 : decide ((rd x6_1 (ji11)) < (x5_1.length : Int)) = true := decide_eq_true c16
          clear c16
          obtain ⟨bq17, hbq17⟩ : ∃ b_ : Bool, b_ = (rdOf false x5_1 (rd x6_1 (ji11))) := ⟨_, rfl⟩
          replace H : (if bq17 = true then (spec_l02Reached.l0 k1 l0 x5_1 y209) else ((spec_l02Next.f k1 l0 (rd x6_1 (ji11))).bind fun t214 => (if y209.length + t214.length < 17592186044416 then (spec_l02Reached.l0 k1 l0 (x5_1.set ((rd x6_1 (ji11)) : Int).toNat true) (y209 ++ t214)) else (none)))) = some r := by rw [← hbq17] at H; exact H
          have Nbq17 := Aside0.mk hbq17
          clear hbq17
          by_cases c18 : bq17 = true
          ·subst c18
           have H1 : (spec_l02Reached.l0 k1 l0 x5_1 y209) = some r := by rw [if_pos rfl] at H; exact H
           clear H
           have H := H1
           clear H1
           have H' := Aside0.mk H
           clear H
           obtain ⟨Ao19, co19, eo19⟩ := Kd.R_slice HO_6.out
           subst eo19
           have p208 : 0 ≤ ((ji11) : Int) := of_decide_eq_true (by first | (with_reducible assumption) | assumption)
           have q208 : (ji11) < (x6_1.length : Int) := of_decide_eq_true (by first | (with_reducible assumption) | assumption)
           obtain ⟨ad208, e208, hx208_0⟩ := Kd.at_int (Kd.R_reads' HO_6.out).2.2 (ji11) p208 q208
           cases e208
           replace p208 := eq_true p208
           replace q208 := eq_true q208
           have q20 : ((ji11) : Int) ≤ ((x6_1.length : Int) : Int) := of_decide_eq_true (by first | (with_reducible assumption) | assumption)
           obtain ⟨i020, hi020, _, hsz20, _⟩ := info_parts info2
           have hcut20 := cut_to (P := Try.prog) 22 2 .i64 Try.underlying22 hi020 (some ad208) x6_1.length co19 (ji11) (of_decide_eq_true (by first | (with_reducible assumption) | assumption)) q20 (Kd.R_reads' HO_6.out).2.1
           have hr20 := Kd.R_take (m := ((ji11) : Int).toNat) HO_6.out (by omega)
           have hy20 : y209.length = ((ji11) : Int).toNat := (by rw [Ny209.out, List.length_take]; omega)
           rw [← Ny209.out] at hr20
           rw [← hy20] at hr20 hcut20
           clear hy20 hi020 hsz20 HO_6
           have HO211 := Aside0.mk hr20
           clear hr20
           replace q20 := eq_true q20
           obtain ⟨Ao21, co21, eo21⟩ := Kd.R_slice HO_5.out
           subst eo21
           have p212 : 0 ≤ ((rd x6_1 (ji11)) : Int) := of_decide_eq_true (by first | (with_reducible assumption) | assumption)
           have q212 : (rd x6_1 (ji11)) < (x5_1.length : Int) := of_decide_eq_true (by first | (with_reducible assumption) | assumption)
           obtain ⟨ad212, e212, hx212_0⟩ := Kd.at_bool (Kd.R_reads' HO_5.out).2.2 (rd x6_1 (ji11)) p212 q212
           (try rw [← Nbq17.out] at hx212_0)
           cases e212
           replace p212 := eq_true p212
           replace q212 := eq_true q212
           go_wp2
           go_roundg k1
           case measure => have := HK1.out; omega
           case rel => exact ⟨(x5_1), (y209), H', ⟨by have := HK1.out; omega⟩, ⟨by (with_reducible repeat (first | apply Kd.R_alloc | apply Kd.R_drewN | apply Kd.R_drew)); exact HO_5.out⟩, ⟨by (with_reducible repeat (first | apply Kd.R_alloc | apply Kd.R_drewN | apply Kd.R_drew)); exact HO211.out⟩, ⟨by repeat (first | (with_reducible first | exact HB.out | apply below_alloc | apply pw_below_drewN | apply below_drew1) | exact HB.out)⟩⟩
          ·replace c18 := Bool.eq_false_iff.mpr c18
           subst c18
           have H1 : ((spec_l02Next.f k1 l0 (rd x6_1 (ji11))).bind fun t214 => (if y209.length + t214.length < 17592186044416 then (spec_l02Reached.l0 k1 l0 (x5_1.set ((rd x6_1 (ji11)) : Int).toNat true) (y209 ++ t214)) else (none))) = some r := by rw [if_neg (show ¬ (false = true) by decide)] at H; exact H
           clear H
           have H := H1
           clear H1
           obtain ⟨y213, hy213⟩ : ∃ y_ : List Bool, y_ = (x5_1.set ((rd x6_1 (ji11)) : Int).toNat true) := ⟨_, rfl⟩
           replace H : ((spec_l02Next.f k1 l0 (rd x6_1 (ji11))).bind fun t214 => (if y209.length + t214.length < 17592186044416 then (spec_l02Reached.l0 k1 l0 y213 (y209 ++ t214)) else (none))) = some r := by first | (rw [hy213]; with_reducible exact H) | (have H2_ := (Option.bind_some _ _).symm.trans H; rw [hy213]; with_reducible exact H2_) | (have H2_ := (Option.bind_some _ _).symm.trans H; with_reducible exact H2_) | with_reducible exact H | (rw [hy213]; exact H) | exact H
           have Ny213 := Aside0.mk hy213
           clear hy213
           replace H := Option.bind_eq_some_iff.mp H
           obtain ⟨t214, A230, H⟩ := H
           replace H : (if y209.length + t214.length < 17592186044416 then (spec_l02Reached.l0 k1 l0 y213 (y209 ++ t214)) else (none)) = some r := H
           have A23 := Aside0.mk A230
           clear A230
           by_cases c24 : y209.length + t214.length < 17592186044416
           ·rw [if_pos c24] at H
            have LMc24 := Aside0.mk c24
            clear c24
            obtain ⟨y217, hy217⟩ : ∃ y_ : List Int, y_ = (y209 ++ t214) := ⟨_, rfl⟩
            replace H : (spec_l02Reached.l0 k1 l0 y213 y217) = some r := by first | (rw [hy217]; with_reducible exact H) | (have H2_ := (Option.bind_some _ _).symm.trans H; rw [hy217]; with_reducible exact H2_) | (have H2_ := (Option.bind_some _ _).symm.trans H; with_reducible exact H2_) | with_reducible exact H | (rw [hy217]; exact H) | exact H
            have Ny217 := Aside0.mk hy217
            clear hy217
            have H' := Aside0.mk H
            clear H
            obtain ⟨Ao25, co25, eo25⟩ := Kd.R_slice HO_6.out
            subst eo25
            have p208 : 0 ≤ ((ji11) : Int) := of_decide_eq_true (by first | (with_reducible assumption) | assumption)
            have q208 : (ji11) < (x6_1.length : Int) := of_decide_eq_true (by first | (with_reducible assumption) | assumption)
            obtain ⟨ad208, e208, hx208_0⟩ := Kd.at_int (Kd.R_reads' HO_6.out).2.2 (ji11) p208 q208
            cases e208
            replace p208 := eq_true p208
            replace q208 := eq_true q208
            have q26 : ((ji11) : Int) ≤ ((x6_1.length : Int) : Int) := of_decide_eq_true (by first | (with_reducible assumption) | assumption)
            obtain ⟨i026, hi026, _, hsz26, _⟩ := info_parts info2
            have hcut26 := cut_to (P := Try.prog) 22 2 .i64 Try.underlying22 hi026 (some ad208) x6_1.length co25 (ji11) (of_decide_eq_true (by first | (with_reducible assumption) | assumption)) q26 (Kd.R_reads' HO_6.out).2.1
            have hr26 := Kd.R_take (m := ((ji11) : Int).toNat) HO_6.out (by omega)
            have hy26 : y209.length = ((ji11) : Int).toNat := (by rw [Ny209.out, List.length_take]; omega)
            rw [← Ny209.out] at hr26
            rw [← hy26] at hr26 hcut26
            clear hy26 hi026 hsz26 HO_6
            have HO211 := Aside0.mk hr26
            clear hr26
            replace q26 := eq_true q26
            obtain ⟨Ao27, co27, eo27⟩ := Kd.R_slice HO_5.out
            subst eo27
            have p212 : 0 ≤ ((rd x6_1 (ji11)) : Int) := of_decide_eq_true (by first | (with_reducible assumption) | assumption)
            have q212 : (rd x6_1 (ji11)) < (x5_1.length : Int) := of_decide_eq_true (by first | (with_reducible assumption) | assumption)
            obtain ⟨ad212, e212, hx212_0⟩ := Kd.at_bool (Kd.R_reads' HO_5.out).2.2 (rd x6_1 (ji11)) p212 q212
            (try rw [← Nbq17.out] at hx212_0)
            cases e212
            replace p212 := eq_true p212
            replace q212 := eq_true q212
            have p22 : 0 ≤ ((rd x6_1 (ji11)) : Int) := of_decide_eq_true (by first | (with_reducible assumption) | assumption)
            have q22 : ((rd x6_1 (ji11)) : Int) < ((x5_1.length : Int) : Int) := of_decide_eq_true (by first | (with_reducible assumption) | assumption)
            obtain ⟨go22, co22, eo22, gb22, gl22, cl22, HG22⟩ := Kd.R_form HO_5.out (by omega)
            (first | cases eo22 | (injection eo22 with ea_ en_ ec_; (first | subst ea_ | (injection ea_ with ea_; subst ea_)); subst ec_; clear en_))
            have GB22 := Aside0.mk gb22
            have GG22 := Aside0.mk HG22
            clear gb22 gl22 HG22
            (first | simp only [add_plain] at hx212_0 | skip)
            obtain ⟨hx22_0, hf22_0⟩ := Kd.R_celln false HO_5.out ((rd x6_1 (ji11)) : Int) p22 q22
            replace p22 := eq_true p22
            replace q22 := eq_true q22
            have HP28 := Kd.R_putg HO_5.out ((rd x6_1 (ji11)) : Int) true
            go_wp2_with (first | ((with_reducible refine gate_store (t := 4) (p := 32) rfl ?_); refine store_event (t := 4) (p := 32) (v := ?vo_w29) (w1 := (wr.setCell ⟨go22, ((rd x6_1 (ji11)) : Int).toNat, none⟩ (.bool true))) ?hg ?ho ?hn ?hr ?_; (case ho => rfl); (case hg => rfl); (case hn => rfl); (case hr => first | (go_simp; done) | (go_simp; rfl)); intro w29 hw; have hg : wr.grownBy w29 (some go22) := (by rw [hw]; exact HP28.2); have hp_ : Kd.R Kd.bool 4 w29 w.heap.size (fun _ => True) (.slice (some ⟨go22, 0, none⟩) x5_1.length co27) y213 := (by rw [hw, Ny213.out]; exact HP28.1); clear HP28; have n0_ := Aside0.mk (hp_); have n1_ := Aside0.mk (Kd.R_over' (v := (.slice (some ⟨go22, 0, none⟩) x5_1.length co27)) (by (with_reducible repeat (first | apply Kd.R_alloc | apply Kd.R_drewN | apply Kd.R_drew)); exact HO211.out) (Kd.R_typed HO_5.out) (by decide) hg); have n2_ := Aside0.mk ((by rw [hw]; exact below_set (HB.out) GB22.out : Below w.heap.size w w29)); clear HO_5; clear HO211; clear HB; have HO_5 := n0_; have HO211 := n1_; have HB := n2_; clear n0_ n1_ n2_; clear hg hw hp_) | ((with_reducible refine gate_callee (f := 122) rfl ?_); refine goesL_ (some 36) rfl rfl Try.func122 (by kernel_rfl) rfl #[.slice A0 l0.length c0, .int .i64 (rd x6_1 (ji11))] rfl (by (try simp only [List.map_toArray, List.map_cons, List.map_nil]); first | done | (simp only [hji11]; rfl) | rfl | (simp only [List.length_drop, List.length_take]; rfl)) ?_; (with_reducible refine (spec_l02Next.calls k1 _ _ l0 (rd x6_1 (ji11)) t214 _ ?side1 ?side2 A23.out).mono ?_); (case side1 => repeat (first | exact (Kd.C_below HR0.out HB.out) | (with_reducible refine Kd.C_alloc ?_ _) | (with_reducible refine Kd.C_drewN ?_ _) | (with_reducible refine Kd.C_drew ?_))); (case side2 => exact HC0.out); rintro e w30 ⟨v215, rfl, ho0, hb⟩; refine ⟨_, rfl, ?_⟩; have n0_ := Aside0.mk (Kd.R_below (by (with_reducible repeat (first | apply Kd.R_alloc | apply Kd.R_drewN | apply Kd.R_drew)); exact HO_5.out) hb); have n1_ := Aside0.mk (Kd.R_elder' (by (with_reducible repeat (first | apply Kd.R_alloc | apply Kd.R_drewN | apply Kd.R_drew)); exact HO211.out) (Kd.R_base ho0) hb); have n2_ := Aside0.mk (Kd.R_lower (Kd.R_new' ho0 (Kd.R_lt (by (with_reducible repeat (first | apply Kd.R_alloc | apply Kd.R_drewN | apply Kd.R_drew)); exact HO211.out))) (below_size (by repeat (first | (with_reducible first | exact HB.out | apply below_alloc | apply pw_below_drewN | apply below_drew1) | exact HB.out)))); have n3_ := Aside0.mk (below_step (by repeat (first | (with_reducible first | exact HB.out | apply below_alloc | apply pw_below_drewN | apply below_drew1) | exact HB.out)) hb); clear HO_5; clear HO211; clear HB; have HO_5 := n0_; have HO211 := n1_; have HO216 := n2_; have HB := n3_; clear n0_ n1_ n2_ n3_; (try clear hb); (try clear hb2); (try clear hk); (try clear hi); (try clear ho0); obtain ⟨Ao32, co32, eo32⟩ := Kd.R_slice HO216.out; subst eo32) | ((with_reducible refine gate_builtin (b := .append) (xs := #[.tmp 33, .tmp 36]) rfl ?_); at_builtin; refine Kd.R_append_rows (Kd.int .i64) (w0 := w) w.heap.size rfl (.tmp 33) (.tmp 36) 22 2 (.int .i64 0) 8 rfl Try.underlying22 info2 rfl (by decide) (by omega) (.slice (some ad208) y209.length co25) y209 t214 _ _ _ (fun k_ => some k_ ≠ (.slice Ao32 t214.length co32 : Value).ownBlock) (fun _ => False) rfl rfl ?aO ?aR (fun _ _ h => h) (fun _ h => h.elim) ?aF ?aB ?aS ?aL ?_; (case aR => repeat (first | exact (Kd.R_reads' HO216.out).2.2 | (with_reducible refine Kd.C_alloc ?_ _) | (with_reducible refine Kd.C_drewN ?_ _) | (with_reducible refine Kd.C_drew ?_))); (case aB => exact (by repeat (first | (with_reducible first | exact HB.out | apply below_alloc | apply pw_below_drewN | apply below_drew1) | exact HB.out))); (case aF => exact (fun k_ hk => Kd.fresh' (Kd.R_lt (by (with_reducible repeat (first | apply Kd.R_alloc | apply Kd.R_drewN | apply Kd.R_drew)); exact HO216.out)) k_ hk)); (case aO => exact (by (with_reducible repeat (first | apply Kd.R_alloc | apply Kd.R_drewN | apply Kd.R_drew)); exact Kd.R_mono HO211.out (fun _ hk => hk.2))); (case aS => exact (below_size (by repeat (first | (with_reducible first | exact HB.out | apply below_alloc | apply pw_below_drewN | apply below_drew1) | exact HB.out)))); (case aL => have := LMc24.out; omega); intro v218 w31 ho hb hg hat; rw [← Ny217.out] at ho; have n0_ := Aside0.mk (Kd.R_over' (by (with_reducible repeat (first | apply Kd.R_alloc | apply Kd.R_drewN | apply Kd.R_drew)); exact HO_5.out) (Kd.R_typed (by (with_reducible repeat (first | apply Kd.R_alloc | apply Kd.R_drewN | apply Kd.R_drew)); exact HO211.out)) (by decide) hg); have n1_ := Aside0.mk (Kd.R_after (ok := (fun _ => True)) (by (with_reducible repeat (first | apply Kd.R_alloc | apply Kd.R_drewN | apply Kd.R_drew)); exact HO216.out) hg hat); have n2_ := Aside0.mk (hb); have n3_ := Aside0.mk (ho); clear HO_5; clear HO216; clear HB; clear HO211; have HO_5 := n0_; have HO216 := n1_; have HB := n2_; have HO219 := n3_; clear n0_ n1_ n2_ n3_; clear ho hb hg hat))
            go_roundg k1
            case measure => have := HK1.out; omega
            case rel => exact ⟨(y213), (y217), H', ⟨by have := HK1.out; omega⟩, ⟨by (with_reducible repeat (first | apply Kd.R_alloc | apply Kd.R_drewN | apply Kd.R_drew)); exact HO_5.out⟩, ⟨by (with_reducible repeat (first | apply Kd.R_alloc | apply Kd.R_drewN | apply Kd.R_drew)); exact Kd.R_mono HO219.out (fun _ hk => trivial)⟩, ⟨by repeat (first | (with_reducible first | exact HB.out | apply below_alloc | apply pw_below_drewN | apply below_drew1) | exact HB.out)⟩⟩
           ·rw [if_neg c24] at H
            exact absurd H (by simp)
         ·rw [if_neg c16] at H
          exact absurd H (by simp)
        ·rw [if_neg c15] at H
         exact absurd H (by simp)
       ·rw [if_neg c14] at H
        exact absurd H (by simp)
      ·rw [if_neg c13] at H
       exact absurd H (by simp)
     ·rw [if_neg c12] at H
      exact absurd H (by simp)
    ·rw [if_neg c10] at H
     have c10b0 : decide (0 < (x6_1.length : Int)) = false := decide_eq_false c10
     have c10b1 : decide (0 < x6_1.length) = false := decide_eq_false (by omega)
     clear c10
     obtain rfl := Option.some.inj H
     obtain ⟨Ao33, co33, eo33⟩ := Kd.R_slice HO_6.out
     subst eo33
     go_wp2
     go_ret
     exact ⟨_, by first | rfl | (simp [errW_none, errW_some] <;> rfl) | (simp [*, errW_none, errW_some] <;> rfl), by (with_reducible repeat (first | apply Kd.R_alloc | apply Kd.R_drewN | apply Kd.R_drew)); exact HO_5.out, by repeat (first | (with_reducible first | exact HB.out | apply below_alloc | apply pw_below_drewN | apply below_drew1) | exact HB.out)⟩
 ·rw [if_neg c3] at H
  exact absurd H (by simp)

end Go.Proofs.Ytniikppojffiaaa.Q
end

section
/- What the reference's steps and ways compute. -/
namespace Go.Proofs.Ytniikppojffiaaa.K
open Go.RowKit Go.Shelf Go.Proofs.Ytniikppojffiaaa.Q Go.Proofs.YtniikppojffiaaaW.PrintWords Go.Proofs.YtniikppojffiaaaW.PrintLast Go.Proofs.YtniikppojffiaaaW.PrintMore
set_option linter.unusedVariables false
set_option linter.unusedSimpArgs false

theorem specNext_loop (a : Int) (bs : List Int) (hb : bs.length ≤ 1000) : ∀ (e i k : Nat) (acc : List Int), bs.length - i = e → i ≤ bs.length → e < k → acc.length + e ≤ 2000 →
  spec_l02Next.l0 k a acc bs (i : Int) = some (acc ++ (bs.drop i).filter fun f => !(f == a)) := by
 intro e
 induction e with
 | zero =>
  intro i k acc he hi hk ha
  obtain ⟨k, rfl⟩ : ∃ m, k = m + 1 := ⟨k - 1, by omega⟩
  obtain rfl : i = bs.length := by omega
  simp only [spec_l02Next.l0]
  rw [if_neg (by omega), List.drop_eq_nil_of_le (by omega)]
  simp
 | succ e ih =>
  intro i k acc he hi hk ha
  obtain ⟨k, rfl⟩ : ∃ m, k = m + 1 := ⟨k - 1, by omega⟩
  have hil : i < bs.length := by omega
  simp only [spec_l02Next.l0]
  rw [if_pos (by omega), if_pos (by omega), rd_nat bs i hil, w64 ((i : Int) + 1) (by omega) (by omega), nat_succ, List.drop_eq_getElem_cons hil, List.filter_cons]
  by_cases h : bs[i] = a
  ·rw [if_pos h, ih (i + 1) k acc (by omega) (by omega) (by omega) (by omega), if_neg (by simp [h])]
  ·rw [if_neg h, if_pos (by omega), ih (i + 1) k _ (by omega) (by omega) (by omega) (by simp; omega), if_pos (by simp [h]), List.append_assoc]
   rfl
theorem specNext_is {q : List PairT} (hg : GoodQ q) (a : Int) (k : Nat) (hk : 4001 ≤ k) : spec_l02Next.f k q a = some (stepsL q a) := by
 unfold spec_l02Next.f stepsL
 rw [specHigh_is q (by have := hg.len; omega) a k hk]
 simp only [Option.bind_some]
 rcases high_good hg a with h | ⟨h1, h2⟩
 ·rw [if_pos h, if_pos h]
 ·rw [if_neg (by omega), if_neg (by omega), specBelow_is _ h1 h2 k (by omega)]
  simp only [Option.bind_some]
  have hl := bords_length (highL q a)
  have := specNext_loop a (bords (highL q a)) (by omega) (bords (highL q a)).length 0 k [] (by omega) (by omega) (by omega) (by simp; omega)
  rw [show ((0 : Nat) : Int) = 0 from rfl, List.drop_zero, List.nil_append] at this
  exact this

theorem specReached_loop {q : List PairT} (hg : GoodQ q) (a : Int) : ∀ (M k : Nat) (met : List Bool) (st : List Int) (S : Int → Bool), MetL met S → (∀ x ∈ st, 1 ≤ x ∧ x ≤ 63) → Dfs (stepsL q) a S st → st.length + 7 * (64 - cnt S) ≤ M → M + 4010 ≤ k → M ≤ 1000 →
  ∃ met', spec_l02Reached.l0 k q met st = some met' ∧ MetL met' (reachB (stepsL q) a) := by
 intro M
 induction M with
 | zero =>
  intro k met st S hm hst hd hM hk _
  obtain ⟨k, rfl⟩ : ∃ m, k = m + 1 := ⟨k - 1, by omega⟩
  obtain rfl : st = [] := List.eq_nil_of_length_eq_zero (by omega)
  refine ⟨met, ?_, hm.len, fun x h0 h1 => by rw [hm.at_ x h0 h1]; exact reachB_of (Dfs.done hd) x⟩
  simp [spec_l02Reached.l0]
 | succ M ih =>
  intro k met st S hm hst hd hM hk hM2
  obtain ⟨k, rfl⟩ : ∃ m, k = m + 1 := ⟨k - 1, by omega⟩
  rcases List.eq_nil_or_concat st with rfl | ⟨st, x, rfl⟩
  ·refine ⟨met, ?_, hm.len, fun x h0 h1 => by rw [hm.at_ x h0 h1]; exact reachB_of (Dfs.done hd) x⟩
   simp [spec_l02Reached.l0]
  ·rw [List.concat_eq_append] at *
   have hl : (st ++ [x]).length = st.length + 1 := by simp
   have hx := hst x (by simp)
   have HW : Aside0 (wrap64 (((st ++ [x]).length : Int) - 1) = (st.length : Int)) := ⟨by rw [hl, w64 _ (by omega) (by omega)]; omega⟩
   have hr : rd (st ++ [x]) (st.length : Int) = x := by simp [rd]
   have ht : (st ++ [x]).take st.length = st := by simp
   have h1 := hm.at_ x (by omega) (by omega)
   have hml := hm.len
   rw [hl] at hM
   simp only [spec_l02Reached.l0]
   rw [HW.out, hr, Int.toNat_natCast, ht, if_pos (by omega), if_pos (by omega), if_pos (by omega), if_pos (by omega)]
   simp only [Option.bind_some]
   rw [if_pos (by omega), if_pos (by omega), h1]
   cases hs : S x with
   | true =>
    rw [if_pos rfl]
    exact ih k met st S hm (fun y hy => hst y (List.mem_append_left _ hy)) (hd.skip hs) (by omega) (by omega) (by omega)
   | false =>
    have hc := cnt_upd S x (by omega) (by omega) hs
    have h64 := cnt_le (upd S x true)
    have hsl := steps_len (q := q) x
    rw [if_neg (by simp), specNext_is hg x k (by omega)]
    simp only [Option.bind_some]
    rw [if_pos (by omega)]
    refine ih k _ _ _ (hm.set x (by omega) (by omega)) (fun y hy => ?_) hd.new (by rw [List.length_append]; omega) (by omega) (by omega)
    rcases List.mem_append.1 hy with hy | hy
    ·exact hst y (List.mem_append_left _ hy)
    ·exact steps_mem hg hy
theorem specReached_is {q : List PairT} (hg : GoodQ q) (a : Int) (k : Nat) (hk : 5000 ≤ k) : ∃ met, spec_l02Reached.f k q a = some met ∧ MetL met (reachB (stepsL q) a) := by
 have hsl := steps_len (q := q) a
 have h := specReached_loop hg a ((stepsL q a).length + 7 * 64) k (List.replicate 64 false) (stepsL q a) (fun _ => false) MetL.start (fun x hx => steps_mem hg hx) (Dfs.start _ _) (by rw [cnt_none]; omega) (by omega) (by omega)
 unfold spec_l02Reached.f
 rw [if_pos (by decide), specNext_is hg a k (by omega)]
 exact h

end Go.Proofs.Ytniikppojffiaaa.K
end

section
/- Acyclic pairings: the reference's, by hand. -/
namespace Go.Proofs.Ytniikppojffiaaa.K
open Go.RowKit Go.Shelf Go.Proofs.Ytniikppojffiaaa.Q Go.Proofs.YtniikppojffiaaaW.PrintWords Go.Proofs.YtniikppojffiaaaW.PrintLast Go.Proofs.YtniikppojffiaaaW.PrintMore
set_option linter.unusedVariables false
set_option linter.unusedSimpArgs false

theorem sReached_calls (A2 : Option Addr) (c2 : Nat) {q : List PairT} (a : Int) (w : World) (hq : Kq.C w A2 q.length q) (hc2 : q.length ≤ c2) (hgq : GoodQ q) :
  Calls Try.prog 74 #[.slice A2 q.length c2, I a] w fun e w' => ∃ (ad : Addr) (c5 : Nat), e = .returned (.slice (some ad) 64 c5) ∧ 64 ≤ c5 ∧ (∀ x : Nat, x < 64 → w'.cell? (ad.add x) = some (.bool (reachB (stepsL q) a (x : Int)))) ∧ Grew w w' := by
 obtain ⟨met, hf, hm⟩ := specReached_is hgq a 5000 (Nat.le_refl _)
 refine (spec_l02Reached.calls 5000 A2 c2 q a met w hq hc2 hf).mono ?_
 rintro e w' ⟨v, rfl, hR, hG⟩
 obtain ⟨A5, c5, rfl, hc5, hC5⟩ := Kd.R_reads hR
 rw [hm.len] at hc5
 obtain ⟨ad, e0, _⟩ := Kd.at_bool hC5 0 (by omega) (by rw [hm.len]; decide)
 subst e0
 refine ⟨ad, c5, by rw [hm.len], hc5, fun x hx => ?_, hG⟩
 obtain ⟨ad2, e2, h2⟩ := Kd.at_bool hC5 (x : Int) (by omega) (by rw [hm.len]; omega)
 cases e2
 rw [Int.toNat_natCast, hm.at_ _ (by omega) (by omega)] at h2
 exact h2
theorem acyc_false {q : List PairT} {i : Nat} (hi : i < q.length) (h : reachB (stepsL q) q[i].f0 q[i].f0 = true) : acycB q = false := by
 unfold acycB
 rw [List.all_eq_false]
 exact ⟨q[i], List.getElem_mem hi, by simp [h]⟩
theorem acyc_true {q : List PairT} (h : ∀ i (hi : i < q.length), reachB (stepsL q) q[i].f0 q[i].f0 = false) : acycB q = true := by
 unfold acycB
 rw [List.all_eq_true]
 intro p hp
 obtain ⟨i, hi, rfl⟩ := List.mem_iff_getElem.1 hp
 simp [h i hi]
set_option maxRecDepth 100000 in
set_option maxHeartbeats 8000000 in
theorem sAcyclic_calls (A2 : Option Addr) (c2 : Nat) {q : List PairT} (w : World) (hq : Kq.C w A2 q.length q) (hc2 : q.length ≤ c2) (hgq : GoodQ q) :
  Calls Try.prog 72 #[.slice A2 q.length c2] w fun e w' => e = .returned (.bool (acycB q)) ∧ Grew w w' := by
 have HQ := Aside0.mk hq
 have HF := Aside0.mk hgq.f0
 have HSR := Aside0.mk (fun (a : Int) (W : World) (h : Grew w W) => sReached_calls A2 c2 a W (Kd.C_below hq h) hc2 hgq)
 have hlq := hgq.len
 clear hq hgq
 go_enter Try.func72, Try.ntmps72
 go_wp2_with fail
 go_loopg [3] q.length (fun gg s3 wr => ∃ i : Nat, i ≤ q.length ∧ q.length - i ≤ gg ∧ s3 = .int .i64 i ∧ Aside0 (Grew w wr) ∧ Aside0 (∀ j (hj : j < q.length), j < i → reachB (stepsL q) q[j].f0 q[j].f0 = false))
 case atStart => exact ⟨0, Nat.zero_le _, by omega, rfl, ⟨Grew.refl w⟩, ⟨fun j _ hj => absurd hj (Nat.not_lt_zero _)⟩⟩
 case round =>
  obtain ⟨i, hi1, hgg, rfl, HGr, HO⟩ := hrel
  by_cases hlt : i < q.length
  ·have hltz : (i : Int) < (q.length : Int) := by omega
   obtain ⟨ad, e0, hx, _⟩ := Kq_read (Kd.C_below HQ.out HGr.out) i hlt rfl
   cases e0
   have hf := HF.out _ (List.getElem_mem hlt)
   have HT : Aside0 (reachB (stepsL q) q[i].f0 q[i].f0 = true → acycB q = false) := ⟨acyc_false hlt⟩
   have HFJ : Aside0 (reachB (stepsL q) q[i].f0 q[i].f0 = false → ∀ j (hj : j < q.length), j < i + 1 → reachB (stepsL q) q[j].f0 q[j].f0 = false) := ⟨fun h j hj hj2 => by
    rcases Nat.lt_or_ge j i with h1 | h1
    ·exact HO.out j hj h1
    ·obtain rfl : j = i := by omega
     exact h⟩
   have HRE := Aside0.mk (fun (W : World) (h : Grew wr W) => HSR.out q[i].f0 W (Grew.trans HGr.out h))
   generalize q[i].f0 = x at hx hf HT HFJ HRE
   obtain ⟨x, rfl⟩ : ∃ m : Nat, x = (m : Int) := ⟨x.toNat, by omega⟩
   have hx64 : x < 64 := by omega
   have hx64z : (x : Int) < 64 := by omega
   have HXN : Aside0 (∀ ad5 : Addr, ∀ W : World, (∀ x : Nat, x < 64 → W.cell? (ad5.add x) = some (.bool (reachB (stepsL q) ((x : Nat) : Int) ((x : Nat) : Int)))) → True) := ⟨fun _ _ _ => trivial⟩
   have hlx := World.block_lt_of_cell? wr _ hx
   generalize hb : reachB (stepsL q) (x : Int) = R at HT HFJ HRE
   clear hb HXN hf
   cases hR : R (x : Int) with
   | true =>
    have HT2 := Aside0.mk (HT.out hR)
    go_wp2_with fail
    refine start_ (n := 14) (S := fun w' => w'.cell? (ad.add (i * 2)) = some (I (x : Int))) (ds := []) (ar 0 14) (by kernel_rfl) rfl rfl ((Below.cell (w := wr) (below_drew (Grew.refl wr)) (p := ad.add (i * 2)) hlx).trans hx) (fun hHeld => ?_)
    refine pure_ (i := 0) (N := some 10) (v := ?_) (a' := ?_) (ar 1 13) rfl rfl (by kernel_rfl) hh_ (Or.inl ⟨by rfl, ?_⟩) ?_ ?_; rotate_left; (intro w'; go_simp; with_reducible rfl); rotate_left; · simp only [nm_]; rfl
    refine pure_ (i := 1) (N := some 11) (v := ?_) (a' := ?_) (ar 2 12) rfl rfl (by kernel_rfl) hh_ (Or.inl ⟨by rfl, ?_⟩) ?_ ?_; rotate_left; (intro w'; go_simp; with_reducible rfl); rotate_left; · simp only [nm_]; rfl
    refine pure_ (i := 2) (N := some 12) (v := ?_) (a' := ?_) (ar 3 11) rfl rfl (by kernel_rfl) hh_ (Or.inl ⟨by rfl, ?_⟩) ?_ ?_; rotate_left; (intro w'; go_simp; with_reducible rfl); rotate_left; · simp only [nm_]; rfl
    refine pure_ (i := 3) (N := some 13) (v := ?_) (a' := ?_) (ar 4 10) rfl rfl (by kernel_rfl) hh_ (Or.inl ⟨by rfl, ?_⟩) ?_ ?_; rotate_left; (intro w'; go_simp; with_reducible rfl); rotate_left; · simp only [nm_]; rfl
    refine pure_ (i := 4) (N := some 14) (v := ?_) (a' := ?_) (ar 5 9) rfl rfl (by kernel_rfl) hh_ (Or.inl ⟨by rfl, ?_⟩) ?_ ?_; rotate_left; (intro w'; go_simp; with_reducible rfl); rotate_left; · simp only [nm_]; rfl
    refine pure_ (i := 7) (N := some 17) (v := ?_) (a' := ?_) #[U,U,U,U,U,O,O,U,O,O,O,O,O,O] rfl rfl (by kernel_rfl) hh_ (Or.inl ⟨by rfl, ?_⟩) ?_ ?_; rotate_left; (intro w'; go_simp; with_reducible rfl); rotate_left; · simp only [nm_]; rfl
    refine pure_ (i := 8) (N := some 18) (v := ?_) (a' := ?_) #[U,U,U,U,U,O,O,U,U,O,O,O,O,O] rfl rfl (by kernel_rfl) hh_ (Or.inl ⟨by rfl, ?_⟩) ?_ ?_; rotate_left; (intro w'; go_simp; with_reducible rfl); rotate_left; · simp only [nm_]; rfl
    refine pure_ (i := 9) (N := some 19) (v := ?_) (a' := ?_) #[U,U,U,U,U,O,O,U,U,U,O,O,O,O] rfl rfl (by kernel_rfl) hh_ (Or.inl ⟨by rfl, ?_⟩) ?_ ?_; rotate_left; (intro w'; go_simp; with_reducible rfl); rotate_left; · simp only [nm_]; rfl
    refine pure_ (i := 10) (N := some 20) (v := ?_) (a' := ?_) #[U,U,U,U,U,O,O,U,U,U,U,O,O,O] rfl rfl (by kernel_rfl) hh_ (Or.inl ⟨by rfl, ?_⟩) ?_ ?_; rotate_left; (intro w'; go_simp; with_reducible rfl); rotate_left; · simp only [nm_]; rfl
    refine take_ (i := 5) (N := some 15) (v := ?_) (a' := ?_) #[U,U,U,U,U,U,O,U,U,U,U,O,O,O] rfl rfl (by kernel_rfl) hh_ (Or.inl ⟨by rfl, ?_⟩) hHeld ?_ ?_
    rotate_left; · intro w' s0; go_simp; with_reducible rfl
    rotate_left; · simp only [nm_]; rfl
    refine take_ (i := 11) (N := some 21) (v := ?_) (a' := ?_) #[U,U,U,U,U,U,O,U,U,U,U,U,O,O] rfl rfl (by kernel_rfl) hh_ (Or.inl ⟨by rfl, ?_⟩) hHeld ?_ ?_
    rotate_left; · intro w' s0; go_simp; with_reducible rfl
    rotate_left; · simp only [nm_]; rfl
    refine one_ (i := 6) (N := some 16) (ar 12 2) rfl rfl (by kernel_rfl) (by decide) (fun K hK => ?_)
    refine goes_ Try.func74 (by kernel_rfl) rfl #[.slice (some ad) q.length c2, I (x : Int)] (by rfl) rfl rfl (by simp only [List.map_toArray, List.map_cons, List.map_nil]; rfl) ?_
    with_reducible refine (HRE.out _ (below_drew (Grew.refl wr))).mono ?_
    rintro e w3 ⟨ad5, c5, rfl, hc5, hcell, hGa⟩
    refine ⟨_, rfl, ?_⟩
    have HL := Aside0.mk (Grew.trans (below_drew (Grew.refl wr)) hGa)
    have hcx := hcell x hx64
    rw [hR] at hcx
    clear hGa hcell
    refine hK.out _ _ ((Below.cell (w := wr) HL.out (p := ad.add (i * 2)) hlx).trans hx) (fun hHeld => ?_)
    clear hK K
    refine norm_ (a' := ?_) ?_ ?_
    rotate_left
    ·show Act.put _ (some 16) _ = _
     simp only [nm_]
     rfl
    refine pure_ (i := 12) (N := some 22) (v := ?_) (a' := ?_) (ar 13 1) rfl rfl (by kernel_rfl) hh_ (Or.inl ⟨by rfl, ?_⟩) ?_ ?_; rotate_left; (intro w'; go_simp; with_reducible rfl); rotate_left; · simp only [nm_]; rfl
    refine one_ (i := 13) (N := some 23) (ar 14 0) rfl rfl (by kernel_rfl) (by decide) (fun K hK => ?_)
    refine value_ (w1 := ?_) (v := ?_) (by rfl) rfl ?_ ?_
    rotate_left 2
    ·go_simp
     constructor
     ·rfl
     ·rfl
    refine hK.out _ _ ((Below.cell (w := wr) HL.out (p := ad.add (i * 2)) hlx).trans hx) (fun hHeld => ?_)
    clear hK K
    refine norm_ (a' := ?_) ?_ ?_
    rotate_left
    ·show Act.put _ (some 23) _ = _
     simp only [nm_]
     rfl
    refine done_ (by kernel_rfl) ?_
    go_wp2_with fail
    go_ret
    exact ⟨by rw [HT2.out]; rfl, Grew.trans HGr.out HL.out⟩
   | false =>
    have HF2 := Aside0.mk (HFJ.out hR)
    go_wp2_with fail
    refine start_ (n := 14) (S := fun w' => w'.cell? (ad.add (i * 2)) = some (I (x : Int))) (ds := []) (ar 0 14) (by kernel_rfl) rfl rfl ((Below.cell (w := wr) (below_drew (Grew.refl wr)) (p := ad.add (i * 2)) hlx).trans hx) (fun hHeld => ?_)
    refine pure_ (i := 0) (N := some 10) (v := ?_) (a' := ?_) (ar 1 13) rfl rfl (by kernel_rfl) hh_ (Or.inl ⟨by rfl, ?_⟩) ?_ ?_; rotate_left; (intro w'; go_simp; with_reducible rfl); rotate_left; · simp only [nm_]; rfl
    refine pure_ (i := 1) (N := some 11) (v := ?_) (a' := ?_) (ar 2 12) rfl rfl (by kernel_rfl) hh_ (Or.inl ⟨by rfl, ?_⟩) ?_ ?_; rotate_left; (intro w'; go_simp; with_reducible rfl); rotate_left; · simp only [nm_]; rfl
    refine pure_ (i := 2) (N := some 12) (v := ?_) (a' := ?_) (ar 3 11) rfl rfl (by kernel_rfl) hh_ (Or.inl ⟨by rfl, ?_⟩) ?_ ?_; rotate_left; (intro w'; go_simp; with_reducible rfl); rotate_left; · simp only [nm_]; rfl
    refine pure_ (i := 3) (N := some 13) (v := ?_) (a' := ?_) (ar 4 10) rfl rfl (by kernel_rfl) hh_ (Or.inl ⟨by rfl, ?_⟩) ?_ ?_; rotate_left; (intro w'; go_simp; with_reducible rfl); rotate_left; · simp only [nm_]; rfl
    refine pure_ (i := 4) (N := some 14) (v := ?_) (a' := ?_) (ar 5 9) rfl rfl (by kernel_rfl) hh_ (Or.inl ⟨by rfl, ?_⟩) ?_ ?_; rotate_left; (intro w'; go_simp; with_reducible rfl); rotate_left; · simp only [nm_]; rfl
    refine pure_ (i := 7) (N := some 17) (v := ?_) (a' := ?_) #[U,U,U,U,U,O,O,U,O,O,O,O,O,O] rfl rfl (by kernel_rfl) hh_ (Or.inl ⟨by rfl, ?_⟩) ?_ ?_; rotate_left; (intro w'; go_simp; with_reducible rfl); rotate_left; · simp only [nm_]; rfl
    refine pure_ (i := 8) (N := some 18) (v := ?_) (a' := ?_) #[U,U,U,U,U,O,O,U,U,O,O,O,O,O] rfl rfl (by kernel_rfl) hh_ (Or.inl ⟨by rfl, ?_⟩) ?_ ?_; rotate_left; (intro w'; go_simp; with_reducible rfl); rotate_left; · simp only [nm_]; rfl
    refine pure_ (i := 9) (N := some 19) (v := ?_) (a' := ?_) #[U,U,U,U,U,O,O,U,U,U,O,O,O,O] rfl rfl (by kernel_rfl) hh_ (Or.inl ⟨by rfl, ?_⟩) ?_ ?_; rotate_left; (intro w'; go_simp; with_reducible rfl); rotate_left; · simp only [nm_]; rfl
    refine pure_ (i := 10) (N := some 20) (v := ?_) (a' := ?_) #[U,U,U,U,U,O,O,U,U,U,U,O,O,O] rfl rfl (by kernel_rfl) hh_ (Or.inl ⟨by rfl, ?_⟩) ?_ ?_; rotate_left; (intro w'; go_simp; with_reducible rfl); rotate_left; · simp only [nm_]; rfl
    refine take_ (i := 5) (N := some 15) (v := ?_) (a' := ?_) #[U,U,U,U,U,U,O,U,U,U,U,O,O,O] rfl rfl (by kernel_rfl) hh_ (Or.inl ⟨by rfl, ?_⟩) hHeld ?_ ?_
    rotate_left; · intro w' s0; go_simp; with_reducible rfl
    rotate_left; · simp only [nm_]; rfl
    refine take_ (i := 11) (N := some 21) (v := ?_) (a' := ?_) #[U,U,U,U,U,U,O,U,U,U,U,U,O,O] rfl rfl (by kernel_rfl) hh_ (Or.inl ⟨by rfl, ?_⟩) hHeld ?_ ?_
    rotate_left; · intro w' s0; go_simp; with_reducible rfl
    rotate_left; · simp only [nm_]; rfl
    refine one_ (i := 6) (N := some 16) (ar 12 2) rfl rfl (by kernel_rfl) (by decide) (fun K hK => ?_)
    refine goes_ Try.func74 (by kernel_rfl) rfl #[.slice (some ad) q.length c2, I (x : Int)] (by rfl) rfl rfl (by simp only [List.map_toArray, List.map_cons, List.map_nil]; rfl) ?_
    with_reducible refine (HRE.out _ (below_drew (Grew.refl wr))).mono ?_
    rintro e w3 ⟨ad5, c5, rfl, hc5, hcell, hGa⟩
    refine ⟨_, rfl, ?_⟩
    have HL := Aside0.mk (Grew.trans (below_drew (Grew.refl wr)) hGa)
    have hcx := hcell x hx64
    rw [hR] at hcx
    clear hGa hcell
    refine hK.out _ _ ((Below.cell (w := wr) HL.out (p := ad.add (i * 2)) hlx).trans hx) (fun hHeld => ?_)
    clear hK K
    refine norm_ (a' := ?_) ?_ ?_
    rotate_left
    ·show Act.put _ (some 16) _ = _
     simp only [nm_]
     rfl
    refine pure_ (i := 12) (N := some 22) (v := ?_) (a' := ?_) (ar 13 1) rfl rfl (by kernel_rfl) hh_ (Or.inl ⟨by rfl, ?_⟩) ?_ ?_; rotate_left; (intro w'; go_simp; with_reducible rfl); rotate_left; · simp only [nm_]; rfl
    refine one_ (i := 13) (N := some 23) (ar 14 0) rfl rfl (by kernel_rfl) (by decide) (fun K hK => ?_)
    refine value_ (w1 := ?_) (v := ?_) (by rfl) rfl ?_ ?_
    rotate_left 2
    ·go_simp
     constructor
     ·rfl
     ·rfl
    refine hK.out _ _ ((Below.cell (w := wr) HL.out (p := ad.add (i * 2)) hlx).trans hx) (fun hHeld => ?_)
    clear hK K
    refine norm_ (a' := ?_) ?_ ?_
    rotate_left
    ·show Act.put _ (some 23) _ = _
     simp only [nm_]
     rfl
    refine done_ (by kernel_rfl) ?_
    go_wp2_with fail
    go_roundg (q.length - (i + 1))
    case measure => omega
    case rel => exact ⟨i + 1, by omega, by omega, by go_num, ⟨Grew.trans HGr.out HL.out⟩, HF2⟩
  ·have hltz : ¬ (i : Int) < (q.length : Int) := by omega
   have HT := Aside0.mk (acyc_true (q := q) fun j hj => HO.out j hj (by omega))
   go_wp2_with fail
   go_ret
   exact ⟨by rw [HT.out]; rfl, HGr.out⟩

end Go.Proofs.Ytniikppojffiaaa.K
end

section
/- Rows of pairs as rows of cells; a clone; copies. -/
namespace Go.Proofs.Ytniikppojffiaaa.K
open Go.RowKit Go.Shelf Go.Proofs.Ytniikppojffiaaa.Q Go.Proofs.YtniikppojffiaaaW.PrintWords Go.Proofs.YtniikppojffiaaaW.PrintLast Go.Proofs.YtniikppojffiaaaW.PrintMore
set_option linter.unusedVariables false
set_option linter.unusedSimpArgs false

theorem infoP : (Try.prog.info? 53).map (fun i => (i.zero, i.size, i.bytes)) = some (some (.agg #[I 0, I 0]), 2, 16) := by kernel_rfl
/-- The cells of a list of pairs. -/
def pc : List PairT → List Value
 | [] => []
 | p :: q => I p.f0 :: I p.f1 :: pc q
theorem pc_app : ∀ a b : List PairT, pc (a ++ b) = pc a ++ pc b
 | [], b => rfl
 | p :: a, b => by simp [pc, pc_app a b]
theorem pc_len : ∀ q : List PairT, (pc q).length = q.length * 2
 | [] => rfl
 | p :: q => by simp [pc, pc_len q]; omega
theorem pc_take (q : List PairT) (i : Nat) (hi : i ≤ q.length) : (pc q).take (i * 2) = pc (q.take i) := by
 have h := pc_app (q.take i) (q.drop i)
 rw [List.take_append_drop] at h
 rw [h, List.take_left' (by rw [pc_len, List.length_take]; omega)]
theorem pc_drop (q : List PairT) (i : Nat) (hi : i ≤ q.length) : (pc q).drop (i * 2) = pc (q.drop i) := by
 have h := pc_app (q.take i) (q.drop i)
 rw [List.take_append_drop] at h
 rw [h, List.drop_left' (by rw [pc_len, List.length_take]; omega)]
theorem pc_one : ∀ (q : List PairT), ∀ v ∈ pc q, v.oneCell' = true
 | [], v, h => by cases h
 | p :: q, v, h => by
  simp only [pc, List.mem_cons] at h
  rcases h with rfl | rfl | h
  ·rfl
  ·rfl
  ·exact pc_one q v h
theorem pc_reps (w : World) (base : Nat) (ok : Nat → Prop) : ∀ q : List PairT, Reps (Kq.M w base ok) 2 q (pc q) := by
 intro q
 refine ⟨pc_len q, fun j p hj => ?_⟩
 have hjl : j < q.length := (List.getElem?_eq_some_iff.1 hj).1
 have hp : q[j] = p := (List.getElem?_eq_some_iff.1 hj).2
 rw [pc_drop q j (by omega), List.drop_eq_getElem_cons hjl, hp]
 exact k53_mkM w base ok p
theorem pc_of {w : World} {base : Nat} {ok : Nat → Prop} : ∀ {q : List PairT} {inner : List Value}, Reps (Kq.M w base ok) 2 q inner → inner = pc q
 | [], inner, h => List.eq_nil_of_length_eq_zero (by simpa using h.1)
 | p :: q, inner, h => by
  have h0 := k53_openM (h.2 0 p rfl)
  simp only [Nat.zero_mul, List.drop_zero] at h0
  have h1 : Reps (Kq.M w base ok) 2 q (inner.drop 2) := ⟨by have := h.1; simp at this; simp; omega, fun j r hj => by
   have := h.2 (j + 1) r (by simpa using hj)
   rw [show (j + 1) * 2 = 2 + j * 2 by omega, ← List.drop_drop] at this
   exact this⟩
  have h2 := pc_of h1
  rw [← List.take_append_drop 2 inner, h0, h2]
  rfl
theorem Rq_own {w : World} {base : Nat} {ok : Nat → Prop} {v : Value} {q : List PairT} (h : Kq.R 53 w base ok v q) : w.ownsRow base 53 2 v q.length (pc q) := by
 obtain ⟨_, inner, ho, hr⟩ := h
 rw [← pc_of hr]
 exact ho
theorem Rq_of {w : World} {base : Nat} {ok : Nat → Prop} {v : Value} {q : List PairT} (h : w.ownsRow base 53 2 v q.length (pc q)) (hok : ∀ k, v.ownBlock = some k → ok k) : Kq.R 53 w base ok v q := ⟨hok, pc q, h, pc_reps _ _ _ q⟩
theorem Rq.empty (w : World) (base : Nat) (hb : base ≤ w.heap.size) : Kq.R 53 (w.alloc (.cells #[] 53)) base (fun _ => True) (.slice (some ⟨w.heap.size, 0, none⟩) 0 0) [] :=
 Rq_of (q := []) (World.ownsRow_lit (base := base) (e := 53) (size := 2) w #[] 0 hb (by decide) rfl) (fun _ _ => trivial)
/-- A block that holds one pair, as a row. -/
theorem Rq_block {w : World} {g : Nat} {p : PairT} (h : w.heap[g]? = some (.cells #[I p.f0, I p.f1] 53 (0, 0))) : Kq.R 53 w 0 (fun _ => True) (.slice (some ⟨g, 0, none⟩) 1 1) [p] :=
 Rq_of (q := [p]) ⟨rfl, .inr ⟨g, 1, #[I p.f0, I p.f1], rfl, Nat.zero_le _, h, Nat.le_refl _, by decide, rfl, rfl⟩⟩ (fun _ _ => trivial)
section
variable {ops : Array Oper} {rest : List Oper} {o : Oper} {a : Act} {Q : Exit → Act → World → Prop}
/-- 'append' of a row of pairs to a row of the call's own. -/
theorem append_pairs {W : World} (base : Nat) (hgd : o.guard = none) (s x : Operand)
  (ho : o.op = .call { callee := .builtin .append, args := #[s, x], argTypes := #[32, 32] })
  (v : Value) (xs ys : List PairT) (A : Option Addr) (c : Nat) (hs : a.eval s = v) (hx : a.eval x = .slice A ys.length c)
  (HO : Kq.R 53 W base (fun _ => True) v xs) (HR : Kq.C W A ys.length ys) (hbase : base ≤ W.heap.size) (hl : xs.length + ys.length ≤ 1000000000000)
  (h : ∀ A' c' w1, Kq.R 53 w1 base (fun _ => True) (.slice A' (xs.length + ys.length) c') (xs ++ ys) → Below base W w1 → W.grownBy w1 v.ownBlock → wpList Try.prog ops Q rest (a.put o.dst (.slice A' (xs.length + ys.length) c')) w1) :
  wpList Try.prog ops Q (o :: rest) a W := by
 refine Kd.R_append_rows Kq (w0 := W) base hgd s x 32 53 (.agg #[I 0, I 0]) 16 ho Try.underlying32 infoP rfl (by decide) (by omega) v xs ys A ys.length c (fun _ => True) (fun _ => False) hs hx HO HR (fun x cs h => by
  rw [k53_open h]
  exact k53_mkM W base (fun _ => False) x) (fun _ h => h.elim) (fun _ _ => trivial) (Below.refl _ _) hbase (by omega) ?_
 intro v1 w1 hR hB hg _
 obtain ⟨A', c', e⟩ := Kd.R_slice hR
 rw [List.length_append] at e
 subst e
 exact h A' c' w1 hR hB hg
end
set_option maxHeartbeats 2000000 in
theorem ClonePair_calls (A : Option Addr) (c : Nat) (l : List PairT) (w : World) (hr : Kq.C w A l.length l) (hc : l.length ≤ c) (hl : l.length ≤ 1000000000) :
  Calls Try.prog 131 #[.slice A l.length c] w fun e w' => ∃ v, e = .returned v ∧ Kq.R 53 w' w.heap.size (fun _ => True) v l ∧ Grew w w' := by
 have hq : ∀ (w : World) (a : Option Addr) (n c n' c' : Nat), (binOp .eql 32 (.slice a n c) (.slice none n' c')).run Try.prog w = .ok (.bool a.isNone) w := fun w a n c n' c' => Lib.run_eql_slice_nil w _ _ a n c n' c' Try.underlying32
 cases A with
 | none =>
  have h0 : l.length = 0 := by
   rcases Nat.eq_zero_or_pos l.length with h | h
   ·exact h
   ·obtain ⟨a, ha, _⟩ := hr.2.2 h
    cases ha
  have HL : Aside0 (l = []) := ⟨List.length_eq_zero_iff.1 h0⟩
  clear hr
  go_enter Try.func131, Try.ntmps131
  go_wp2_with fail
  go_ret
  exact ⟨_, rfl, by rw [HL.out]; exact Kd.R_nil _ _ _ _ _, Grew.refl w⟩
 | some ad =>
  have HR := Aside0.mk hr
  have HG : Aside0 (Grew w (w.alloc (.cells #[] 53))) := ⟨below_alloc (Grew.refl w) _⟩
  clear hr
  go_enter Try.func131, Try.ntmps131
  go_wp2_with (at_builtin; refine append_pairs w.heap.size rfl (.tmp 5) (.tmp 6) rfl _ [] l (some ad) c rfl rfl (Rq.empty w _ (Nat.le_refl _)) (Kd.C_below HR.out HG.out) HG.out.size (by simp; omega) ?_; intro A3 c3 w3 hR3 hB3 hg3; have HR3 := Aside0.mk hR3; have HG3 : Aside0 (Below w.heap.size w w3) := ⟨Below.trans HG.out hB3⟩; clear hR3 hB3 hg3)
  go_ret
  refine ⟨_, rfl, ?_, HG3.out⟩
  have := HR3.out
  rw [List.length_nil, Nat.zero_add, List.nil_append] at this
  exact this

end Go.Proofs.Ytniikppojffiaaa.K
end

section
/- slices.Insert of one pair into a row of pairs of the call's own. -/
namespace Go.Proofs.Ytniikppojffiaaa.K
open Go.RowKit Go.Lib Go.Shelf Go.Proofs.Ytniikppojffiaaa.Q Go.Proofs.YtniikppojffiaaaW.PrintWords Go.Proofs.YtniikppojffiaaaW.PrintLast Go.Proofs.YtniikppojffiaaaW.PrintMore
set_option linter.unusedVariables false
set_option linter.unusedSimpArgs false

abbrev TP : TypeId := 53
abbrev TPs : TypeId := 32
/-- 'copy' of rows of two cells an element. -/
theorem run_copyP (w : World) (ty : TypeId) (g o dLen dCap : Nat) (a : Addr) (sLen sCap : Nat) (cur : Array Value) (t : TypeId) (cs : List Value)
  (hg : w.heap[g]? = some (.cells cur t (0, 0))) (hn : cs.length = Nat.min sLen dLen * 2)
  (hsrc : ∀ j v, cs[j]? = some v → w.cell? (a.add j) = some v) (hfit : o + cs.length ≤ cur.size) (h1 : ∀ v ∈ cs, v.oneCell' = true) :
  (Builtin.copy_ #[TPs, TPs] ty #[.slice (some ⟨g, o, none⟩) dLen dCap, .slice (some a) sLen sCap]).run Try.prog w =
   .ok (goInt (Nat.min sLen dLen)) (w.setRow g (cur.toList.take o ++ cs ++ cur.toList.drop (o + cs.length)).toArray) := by
 have hl := run_loadCells_list (P := Try.prog) w a cs hsrc
 have hst := run_storeCells_at Try.prog g o t cs 0 cur w hg (by simpa using hfit) h1
 obtain ⟨i0, hi0, _, hsz, _⟩ := info_parts infoP
 simp only [Nat.add_zero] at hst
 simp [Builtin.copy_, run_underlying Try.underlying32, Builtin.lenOf, Builtin.firstCells, sizeOf, typeInfo, hi0, hsz, ← hn, hl, hst]
theorem setRow_below {base : Nat} {w : World} {g : Nat} (hb : base ≤ g) (cs : Array Value) : Below base w (w.setRow g cs) := ⟨rfl, rfl, rfl, by simp, fun k hk => setRow_other w g k cs (by omega)⟩
theorem cutP (A : Option Addr) (n c : Nat) (j : Int) (h0 : 0 ≤ j) (hm : j ≤ n) : ∀ W : World, (Instr.slice TPs (.slice A n c) (some (.int .i64 j)) none none).run Try.prog W = .ok (.slice (if c = j.toNat then A else A.map (·.add (j.toNat * 2))) (n - j.toNat) (c - j.toNat)) W := by
 obtain ⟨i0, hi0, _, hsz, _⟩ := info_parts infoP
 exact cut_from (P := Try.prog) TPs TP .i64 Try.underlying32 hi0 2 hsz A n c j h0 hm

set_option maxHeartbeats 4000000 in
set_option maxRecDepth 100000 in
theorem insEnd_calls {base : Nat} (sv : Value) (q : List PairT) (g2 : Nat) (p : PairT) (w : World) (hR : Kq.R TP w base (fun _ => True) sv q) (hbase : base ≤ w.heap.size) (hv : w.heap[g2]? = some (.cells #[I p.f0, I p.f1] TP (0, 0))) (hl : q.length ≤ 1000) :
  Calls Try.prog 130 #[sv, I q.length, .slice (some ⟨g2, 0, none⟩) 1 1] w fun e w' => ∃ v', e = .returned v' ∧ Kq.R TP w' base (fun _ => True) v' (q ++ [p]) ∧ Below base w w' := by
 obtain ⟨A, c, rfl, hc, _⟩ := Kd.R_reads hR
 obtain ⟨vc, hcut⟩ : ∃ vc, ∀ W : World, (Instr.slice TPs (.slice A q.length c) (some (.int .i64 (q.length : Int))) none none).run Try.prog W = .ok vc W := ⟨_, cutP A q.length c (q.length : Int) (by omega) (by omega)⟩
 have HR := Aside0.mk hR
 have HC : Aside0 (Kq.C w (some ⟨g2, 0, none⟩) [p].length [p]) := ⟨(Kd.R_reads' (Rq_block hv)).2.2⟩
 have hml : q.length + [p].length ≤ 1000000000000 := by simp; omega
 clear hR hv
 go_enter Try.func130, Try.ntmps130
 go_wp2_with (at_builtin; refine append_pairs base rfl (.tmp 23) (.tmp 24) rfl _ q [p] (some ⟨g2, 0, none⟩) 1 rfl rfl HR.out HC.out hbase hml ?_; intro A3 c3 w3 hR3 hB3 hg3; have HR3 := Aside0.mk hR3; have HB3 := Aside0.mk hB3; clear hR3 hB3 hg3)
 go_ret
 exact ⟨_, rfl, HR3.out, HB3.out⟩

set_option maxHeartbeats 4000000 in
set_option maxRecDepth 100000 in
theorem insShift_calls {base g c i : Nat} (cur : Array Value) (q : List PairT) (g2 : Nat) (p : PairT) (w : World) (hg : w.heap[g]? = some (.cells cur TP (0, 0))) (hcs : cur.size = c * 2) (hcq : cur.toList.take (q.length * 2) = pc q) (hi : i < q.length) (hroom : q.length + 1 ≤ c) (hcm : c ≤ maxLen) (hb : base ≤ g) (hv : w.heap[g2]? = some (.cells #[I p.f0, I p.f1] TP (0, 0))) (hne : g2 ≠ g) :
  Calls Try.prog 130 #[.slice (some ⟨g, 0, none⟩) q.length c, I i, .slice (some ⟨g2, 0, none⟩) 1 1] w fun e w' => ∃ v', e = .returned v' ∧ Kq.R TP w' base (fun _ => True) v' (q.take i ++ p :: q.drop i) ∧ Below base w w' := by
 obtain ⟨n, hn⟩ : ∃ n, n = q.length := ⟨_, rfl⟩
 rw [← hn] at hcq hi hroom ⊢
 have hc63 : c ≤ 9223372036854775807 := by unfold maxLen at hcm; omega
 obtain ⟨cur1, hcur1⟩ : ∃ cur1, cur1 = (cur.toList.take ((i + 1) * 2) ++ pc (q.drop i) ++ cur.toList.drop ((i + 1) * 2 + (pc (q.drop i)).length)).toArray := ⟨_, rfl⟩
 have hdl : (pc (q.drop i)).length = (n - i) * 2 := by rw [pc_len, List.length_drop, hn]
 have hfit : (i + 1) * 2 + (pc (q.drop i)).length ≤ cur.size := by rw [hdl, hcs]; omega
 have hs1 : cur1.size = c * 2 := by rw [hcur1]; simp [hdl, hcs]; omega
 obtain ⟨cur2, hcur2⟩ : ∃ cur2, cur2 = (cur1.toList.take (i * 2) ++ pc [p] ++ cur1.toList.drop (i * 2 + (pc [p]).length)).toArray := ⟨_, rfl⟩
 have hs2 : cur2.size = c * 2 := by rw [hcur2]; simp [pc, hs1]; omega
 have hread : ∀ (W : World), W.heap[g]? = some (.cells cur TP (0, 0)) → ∀ j v, (pc (q.drop i))[j]? = some v → W.cell? ((⟨g, i * 2, none⟩ : Addr).add j) = some v := by
  intro W hW j v hj
  rw [← pc_drop q i (by omega), List.getElem?_drop, ← hcq, List.getElem?_take] at hj
  split at hj
  ·rw [Addr.add_lit]
   simp only [World.cell?, hW]
   simpa using hj
  ·cases hj
 have hcp1 : ∀ ty dc sc, (Builtin.copy_ #[TPs, TPs] ty #[.slice (some ⟨g, (i + 1) * 2, none⟩) (n - i) dc, .slice (some ⟨g, i * 2, none⟩) (n + 1 - i) sc]).run Try.prog w.drew = .ok (goInt (Nat.min (n + 1 - i) (n - i))) (w.drew.setRow g cur1) := fun ty dc sc => by
  rw [hcur1]
  exact run_copyP w.drew ty g ((i + 1) * 2) (n - i) dc ⟨g, i * 2, none⟩ (n + 1 - i) sc cur TP (pc (q.drop i)) hg (by rw [hdl, show Nat.min (n + 1 - i) (n - i) = n - i from by show min _ _ = _; omega]) (hread _ hg) hfit (pc_one _)
 have hg1 : (w.drew.setRow g cur1).heap[g]? = some (.cells cur1 TP (0, 0)) := setRow_heap w.drew g cur cur1 TP (0, 0) hg
 have hcp2 : ∀ ty dc, (Builtin.copy_ #[TPs, TPs] ty #[.slice (some ⟨g, i * 2, none⟩) (n + 1 - i) dc, .slice (some ⟨g2, 0, none⟩) 1 1]).run Try.prog (w.drew.setRow g cur1) = .ok (goInt (Nat.min 1 (n + 1 - i))) ((w.drew.setRow g cur1).setRow g cur2) := fun ty dc => by
  rw [hcur2]
  refine run_copyP (w.drew.setRow g cur1) ty g (i * 2) (n + 1 - i) dc ⟨g2, 0, none⟩ 1 1 cur1 TP (pc [p]) hg1 (by simp only [pc, List.length_cons, List.length_nil, Nat.min_def]; split <;> omega) (fun j v hj => ?_) (by rw [hs1]; simp [pc]; omega) (pc_one _)
  have hv1 : (w.drew.setRow g cur1).heap[g2]? = some (.cells #[I p.f0, I p.f1] TP (0, 0)) := (setRow_other w.drew g g2 cur1 hne).trans hv
  rw [Addr.add_lit]
  simp only [World.cell?, hv1]
  simpa [pc] using hj
 have hfin : cur2.toList.take ((q.take i ++ p :: q.drop i).length * 2) = pc (q.take i ++ p :: q.drop i) := by
  have e1 : cur1.toList.take (i * 2) = pc (q.take i) := by
   rw [hcur1, ← pc_take q i (by omega), ← hcq]
   simp only [List.toList_toArray]
   rw [List.append_assoc, List.take_append_of_le_length (by simp [hcs]; omega), List.take_take, List.take_take]
   congr 1
   omega
  have e2 : cur1.toList.drop (i * 2 + (pc [p]).length) = pc (q.drop i) ++ cur.toList.drop ((i + 1) * 2 + (pc (q.drop i)).length) := by
   rw [hcur1]
   simp only [List.toList_toArray]
   rw [List.append_assoc, List.drop_left' (by simp [pc, hcs]; omega)]
  rw [hcur2]
  simp only [List.toList_toArray]
  rw [e1, e2, pc_app, show pc (p :: q.drop i) = pc [p] ++ pc (q.drop i) from rfl, List.append_assoc, ← List.append_assoc (pc [p]), ← List.append_assoc (pc (q.take i)), List.take_left' (by simp [pc_len, pc]; omega)]
 have hw1 : IntKind.i64.wrap ((n : Int) + 1) = (n : Int) + 1 := by rw [IntKind.wrap_i64]; omega
 have hw2 : IntKind.i64.wrap ((i : Int) + 1) = (i : Int) + 1 := by rw [IntKind.wrap_i64]; omega
 have hb1 : (0 : Int) ≤ (i : Int) + 1 := by omega
 have hin : i ≤ n := by omega
 have htn : ((i : Int) + 1).toNat = i + 1 := by omega
 have htn2 : ((n : Int) + 1).toNat = n + 1 := by omega
 have hb2 : ¬ (c = i + 1) := by omega
 have hb3 : (i : Int) ≤ (n : Int) + 1 := by omega
 have hb4 : ¬ (c = i) := by omega
 have hmx : Try.prog.follows Departure.mixedOrders = true := by kernel_rfl
 have hov : ∀ lb cb, (callFunc 158 #[.slice (some ⟨g2, 0, none⟩) 1 1, .slice (some ⟨g, (i + 1) * 2, none⟩) lb cb]).run Try.prog w = .ok (.value (.bool false)) w := fun lb cb => by
  obtain ⟨i0, hi0, _, hsz, _⟩ := info_parts infoP
  rw [run_callFunc_extern Try.func158 (by kernel_rfl) (by kernel_rfl) (by kernel_rfl) (e := Extern.SlicesOverlaps.overlaps #[TPs, TPs] #[4]) (by kernel_rfl),
   Lib.run_overlaps_apart w TPs 4 TP Try.underlying32 2 (fun W => by simp [sizeOf, typeInfo, hi0, hsz]) ⟨g2, 0, none⟩ ⟨g, (i + 1) * 2, none⟩ 1 1 lb cb hne TP TP 2 (c * 2) (by simp [World.shape?, hv]) (by simp [World.shape?, hg, hcs]) (by omega) (by simp [World.frozen?, hv]) (by simp [World.frozen?, hv])]
  rfl
 have hni : ¬ ((i : Int) = (n : Int)) := by omega
 have hroomz : ¬ ((c : Int) < (n : Int) + 1) := by omega
 have HF := Aside0.mk hfin
 have HS2 := Aside0.mk hs2
 have HG1 := Aside0.mk hg1
 have HLN : Aside0 ((q.take i ++ p :: q.drop i).length = n + 1) := ⟨by simp; omega⟩
 clear hread hfin hs1 hs2 hfit hdl hg1 hcs hcq hn
 clear hcur1 hcur2
 go_enter Try.func130, Try.ntmps130
 go_wp2_with (simp only [hov])
 go_region_law_o (refine step_copy_runI rfl _ _ TPs TPs rfl _ _ (by simp [Act.eval, Act.put]) (by simp [Act.eval, Act.put]) (hcp1 _ _ _) ?_)
 go_wp2_with (at_builtin; refine wpList_copy_runI _ rfl _ _ TPs TPs rfl _ _ rfl rfl (hcp2 _ _) ?_)
 go_ret
 refine ⟨_, rfl, Rq_of ⟨pc_len _, .inr ⟨g, c, cur2, ?_, hb, setRow_heap _ g cur1 cur2 TP (0, 0) HG1.out, ?_, hcm, HS2.out, HF.out⟩⟩ (fun _ _ => trivial), ?_⟩
 ·rw [HLN.out]; rfl
 ·rw [HLN.out]; exact hroom
 ·exact Below.trans (Below.trans (Below.drew (Below.refl base w)) (setRow_below hb cur1)) (setRow_below hb cur2)

set_option maxHeartbeats 4000000 in
set_option maxRecDepth 100000 in
theorem insGrow_calls {base g c i : Nat} (cur : Array Value) (q : List PairT) (g2 : Nat) (p : PairT) (w : World) (hg : w.heap[g]? = some (.cells cur TP (0, 0))) (hcq : cur.toList.take (q.length * 2) = pc q) (hi : i < q.length) (hnc : q.length ≤ c) (hroom : c < q.length + 1) (hbase : base ≤ w.heap.size) (hv : w.heap[g2]? = some (.cells #[I p.f0, I p.f1] TP (0, 0))) (hl : q.length ≤ 1000) :
  Calls Try.prog 130 #[.slice (some ⟨g, 0, none⟩) q.length c, I i, .slice (some ⟨g2, 0, none⟩) 1 1] w fun e w' => ∃ v', e = .returned v' ∧ Kq.R TP w' base (fun _ => True) v' (q.take i ++ p :: q.drop i) ∧ Below base w w' := by
 obtain ⟨n, hn⟩ : ∃ n, n = q.length := ⟨_, rfl⟩
 rw [← hn] at hcq hi hnc hroom hl ⊢
 obtain ⟨i0, hi0, hz0, hzs, hzb⟩ := info_parts infoP
 have hgw : g < w.heap.size := (Array.getElem?_eq_some_iff.1 hg).1
 have hg2w : g2 < w.heap.size := (Array.getElem?_eq_some_iff.1 hv).1
 have hik : i + (n + 1 - i) = n + 1 := by omega
 have hread : ∀ (W : World), W.heap[g]? = some (.cells cur TP (0, 0)) → ∀ j v, (pc (q.drop i))[j]? = some v → W.cell? ((⟨g, i * 2, none⟩ : Addr).add j) = some v := by
  intro W hW j v hj
  rw [← pc_drop q i (by omega), List.getElem?_drop, ← hcq, List.getElem?_take] at hj
  split at hj
  ·rw [Addr.add_lit]
   simp only [World.cell?, hW]
   simpa using hj
  ·cases hj
 have hold : (Builtin.firstCells i0.size i (.slice (some ⟨g, 0, none⟩) i c)).run Try.prog w.drew = .ok (pc (q.take i)).toArray w.drew := by
  rw [hzs]
  refine run_firstCells_some (w := w.drew) 2 i ⟨g, 0, none⟩ i c (pc (q.take i)) (by rw [pc_len, List.length_take]; omega) (fun j v hj => ?_)
  rw [← pc_take q i (by omega), List.getElem?_take, ← hcq] at hj
  split at hj
  ·rw [List.getElem?_take] at hj
   split at hj
   ·rw [Addr.add_lit]
    have hd : w.drew.heap[g]? = some (.cells cur TP (0, 0)) := hg
    simp only [World.cell?, hd]
    simpa using hj
   ·cases hj
  ·cases hj
 have hkk : (n : Int) + 1 - (i : Int) = ((n + 1 - i : Nat) : Int) := by omega
 have hrz : ∀ ty, (Builtin.append_ #[TPs, 3] ty #[.slice (some ⟨g, 0, none⟩) i c, .int .i64 ((n : Int) + 1 - (i : Int))]).run Try.prog w =
   .ok (.slice (some ⟨w.heap.size, 0, none⟩) (n + 1) (grownCap w (n + 1) c TP)) (w.drew.alloc (.cells ((pc (q.take i)).toArray ++ Builtin.zeroCells (Value.agg #[I 0, I 0]).cells (n + 1 - i) ++ Builtin.zeroCells (Value.agg #[I 0, I 0]).cells (grownCap w (n + 1) c TP - (n + 1))) TP)) := fun ty => by
  have h := Lib.run_append_grow_zeros w TPs 3 ty TP i0 _ .i64 .i64 Try.underlying32 Try.underlying3 hi0 hz0 (some ⟨g, 0, none⟩) i c (pc (q.take i)) hold (n + 1 - i) (by omega) (by omega) (by omega) (by omega) (by rw [hzb]; omega) (by rw [hzb, hik]; exact growslice_fits hroom (by omega))
  rw [hik] at h
  rw [hkk]
  exact h
 obtain ⟨G, hG⟩ : ∃ G, G = grownCap w (n + 1) c TP := ⟨_, rfl⟩
 obtain ⟨ROW, hROW⟩ : ∃ ROW : Array Value, ROW = (pc (q.take i)).toArray ++ Builtin.zeroCells (Value.agg #[I 0, I 0]).cells (n + 1 - i) ++ Builtin.zeroCells (Value.agg #[I 0, I 0]).cells (G - (n + 1)) := ⟨_, rfl⟩
 rw [← hG] at hrz
 rw [← hROW] at hrz
 have hGn : n + 1 ≤ G := by rw [hG]; exact grownCap_ge w _ _ _
 have hGm : G ≤ maxLen := by
  rw [hG]
  exact grownCap_le_maxLen w (n + 1) c TP (by unfold maxLen; omega)
 have hRs : ROW.size = G * 2 := by
  rw [hROW]
  simp [Builtin.zeroCells, Value.cells, pc_len]
  omega
 have hRt : ROW.toList.take (i * 2) = pc (q.take i) := by
  rw [hROW]
  simp only [Array.toList_append, List.toList_toArray]
  rw [List.append_assoc, List.take_left' (by rw [pc_len, List.length_take]; omega)]
 obtain ⟨N, hN⟩ : ∃ N, N = w.heap.size := ⟨_, rfl⟩
 obtain ⟨W1, hW1⟩ : ∃ W1, W1 = w.drew.alloc (.cells ROW TP) := ⟨_, rfl⟩
 have hbN : g ≠ N := by omega
 have hb2N : g2 ≠ N := by omega
 have hW1N : W1.heap[N]? = some (.cells ROW TP (0, 0)) := by rw [hW1, hN]; exact blk_new w.drew _
 have hW1g : W1.heap[g]? = some (.cells cur TP (0, 0)) := by rw [hW1]; exact (Below.heap_alloc w.drew _ g hgw).trans hg
 have hW1v : W1.heap[g2]? = some (.cells #[I p.f0, I p.f1] TP (0, 0)) := by rw [hW1]; exact (Below.heap_alloc w.drew _ g2 hg2w).trans hv
 obtain ⟨cur1, hcur1⟩ : ∃ cur1, cur1 = (ROW.toList.take (i * 2) ++ pc [p] ++ ROW.toList.drop (i * 2 + (pc [p]).length)).toArray := ⟨_, rfl⟩
 have hs1 : cur1.size = G * 2 := by rw [hcur1]; simp [pc, hRs]; omega
 have hdl : (pc (q.drop i)).length = (n - i) * 2 := by rw [pc_len, List.length_drop, hn]
 obtain ⟨cur2, hcur2⟩ : ∃ cur2, cur2 = (cur1.toList.take ((i + 1) * 2) ++ pc (q.drop i) ++ cur1.toList.drop ((i + 1) * 2 + (pc (q.drop i)).length)).toArray := ⟨_, rfl⟩
 have hs2 : cur2.size = G * 2 := by rw [hcur2]; simp [hdl, hs1]; omega
 have hcpA : ∀ (W : World), W.heap = W1.heap → ∀ ty dc, (Builtin.copy_ #[TPs, TPs] ty #[.slice (some ⟨N, i * 2, none⟩) (n + 1 - i) dc, .slice (some ⟨g2, 0, none⟩) 1 1]).run Try.prog W = .ok (goInt (Nat.min 1 (n + 1 - i))) (W.setRow N cur1) := fun W hW ty dc => by
  rw [hcur1]
  refine run_copyP W ty N (i * 2) (n + 1 - i) dc ⟨g2, 0, none⟩ 1 1 ROW TP (pc [p]) (by rw [hW]; exact hW1N) (by simp only [pc, List.length_cons, List.length_nil, Nat.min_def]; split <;> omega) (fun j v hj => ?_) (by rw [hRs]; simp [pc]; omega) (pc_one _)
  have hv1 : W.heap[g2]? = some (.cells #[I p.f0, I p.f1] TP (0, 0)) := by rw [hW]; exact hW1v
  rw [Addr.add_lit]
  simp only [World.cell?, hv1]
  simpa [pc] using hj
 have hcpB : ∀ (W : World), W.heap = (W1.setRow N cur1).heap → ∀ ty dc sc, (Builtin.copy_ #[TPs, TPs] ty #[.slice (some ⟨N, (i + 1) * 2, none⟩) (n - i) dc, .slice (some ⟨g, i * 2, none⟩) (n - i) sc]).run Try.prog W = .ok (goInt (Nat.min (n - i) (n - i))) (W.setRow N cur2) := fun W hW ty dc sc => by
  rw [hcur2]
  exact run_copyP W ty N ((i + 1) * 2) (n - i) dc ⟨g, i * 2, none⟩ (n - i) sc cur1 TP (pc (q.drop i)) (by rw [hW]; exact setRow_heap W1 N ROW cur1 TP (0, 0) hW1N) (by rw [hdl, show Nat.min (n - i) (n - i) = n - i from by show min _ _ = _; omega]) (hread W (by rw [hW]; exact (setRow_other W1 N g cur1 hbN).trans hW1g)) (by rw [hs1, hdl]; omega) (pc_one _)
 have hfin : cur2.toList.take ((q.take i ++ p :: q.drop i).length * 2) = pc (q.take i ++ p :: q.drop i) := by
  have e1 : cur1.toList.take ((i + 1) * 2) = pc (q.take i) ++ pc [p] := by
   rw [hcur1]
   simp only [List.toList_toArray]
   rw [hRt, List.take_left' (by simp [pc_len, pc]; omega)]
  rw [hcur2]
  simp only [List.toList_toArray]
  rw [e1, pc_app, show pc (p :: q.drop i) = pc [p] ++ pc (q.drop i) from rfl, ← List.append_assoc (pc (q.take i)), List.take_left' (by simp [pc_len, pc]; omega)]
 have HF := Aside0.mk hfin
 have HS2 := Aside0.mk hs2
 have HLN : Aside0 ((q.take i ++ p :: q.drop i).length = n + 1) := ⟨by simp; omega⟩
 have HGm := Aside0.mk hGm
 have HNN := Aside0.mk hN
 have HBN : Aside0 (base ≤ N) := ⟨by rw [hN]; exact hbase⟩
 have HW1N := Aside0.mk hW1N
 have hw1 : IntKind.i64.wrap ((n : Int) + 1) = (n : Int) + 1 := by rw [IntKind.wrap_i64]; omega
 have hw2 : IntKind.i64.wrap ((i : Int) + 1) = (i : Int) + 1 := by rw [IntKind.wrap_i64]; omega
 have hw3 : IntKind.i64.wrap ((n : Int) + 1 - (i : Int)) = (n : Int) + 1 - (i : Int) := by rw [IntKind.wrap_i64]; omega
 have hb1 : (0 : Int) ≤ (i : Int) + 1 := by omega
 have hin : i ≤ n := by omega
 have htn : ((i : Int) + 1).toNat = i + 1 := by omega
 have hb2 : ¬ (G = i + 1) := by omega
 have hb3 : ¬ (G = i) := by omega
 have hb4 : ¬ (c = i) := by omega
 have hb5 : (i : Int) ≤ (n : Int) + 1 := by omega
 have hb6 : (i : Int) ≤ (n : Int) := by omega
 have hni : ¬ ((i : Int) = (n : Int)) := by omega
 have hroomz : (c : Int) < (n : Int) + 1 := by omega
 have hG63 : G ≤ 9223372036854775807 := by unfold maxLen at hGm; omega
 have hmx : Try.prog.follows Departure.mixedOrders = true := by kernel_rfl
 rw [← hN] at hrz
 subst hW1
 have hA2 := hcpA ((w.alloc (.cells ROW TP)).drew) rfl
 have hB2 := hcpB (((w.alloc (.cells ROW TP)).drew.setRow N cur1).drew) rfl
 clear hcpA hcpB hread hold hkk hik hG hROW hRs hRt hcur1 hs1 hdl hcur2 hs2 hfin hn hcq hW1N hW1g hW1v hGm hg hv hN
 go_enter Try.func130, Try.ntmps130
 go_wp2_with (first
  | (at_builtin; refine Lib.wpList_append_run _ rfl _ _ _ _ rfl _ _ rfl rfl _ _ (hrz _) ?_)
  | (at_builtin; refine wpList_copy_runI _ rfl _ _ TPs TPs rfl _ _ rfl rfl (hA2 _ _) ?_))
 go_region_law_o (refine step_copy_runI rfl _ _ TPs TPs rfl (.slice (some ⟨N, (i + 1) * 2, none⟩) (n - i) (G - (i + 1))) (.slice (some ⟨g, i * 2, none⟩) (n - i) (c - i)) (by simp [Act.eval, Act.put]) (by simp [Act.eval, Act.put]) (hB2 _ (G - (i + 1)) (c - i)) ?_)
 go_wp2
 go_ret
 refine ⟨_, rfl, Rq_of ⟨pc_len _, .inr ⟨N, G, cur2, ?_, HBN.out, setRow_heap _ N cur1 cur2 TP (0, 0) (setRow_heap _ N ROW cur1 TP (0, 0) HW1N.out), ?_, HGm.out, HS2.out, HF.out⟩⟩ (fun _ _ => trivial), ?_⟩
 ·rw [HLN.out]; rfl
 ·rw [HLN.out]; exact hGn
 ·exact Below.trans (Below.drew (Below.trans (Below.drew (Below.mono (below_alloc (Grew.refl w) _) hbase)) (setRow_below HBN.out cur1))) (setRow_below HBN.out cur2)
theorem InsP_calls {base : Nat} (sv : Value) (q : List PairT) (i : Nat) (hi : i ≤ q.length) (g2 : Nat) (p : PairT) (w : World) (hR : Kq.R TP w base (fun k => k ≠ g2) sv q) (hbase : base ≤ w.heap.size) (hv : w.heap[g2]? = some (.cells #[I p.f0, I p.f1] TP (0, 0))) (hl : q.length ≤ 1000) :
  Calls Try.prog 130 #[sv, I i, .slice (some ⟨g2, 0, none⟩) 1 1] w fun e w' => ∃ v', e = .returned v' ∧ Kq.R TP w' base (fun _ => True) v' (q.take i ++ p :: q.drop i) ∧ Below base w w' := by
 rcases Nat.lt_or_ge i q.length with h | h
 ·have hne : ∀ k, sv.ownBlock = some k → k ≠ g2 := hR.1
  rcases (Rq_own hR).2 with ⟨_, h0⟩ | ⟨g, cap, cur, rfl, hb, hg, hnc, hcm, hcs, hcq⟩
  ·omega
  ·have hgg : g2 ≠ g := fun e => hne g rfl e.symm
   rcases Nat.lt_or_ge cap (q.length + 1) with hr | hr
   ·exact insGrow_calls cur q g2 p w hg hcq h hnc hr hbase hv hl
   ·exact insShift_calls cur q g2 p w hg hcs hcq h hr hcm hb hv hgg
 ·obtain rfl : i = q.length := by omega
  rw [List.take_length, List.drop_eq_nil_of_le (Nat.le_refl _)]
  exact insEnd_calls sv q g2 p w (Kd.R_mono hR (fun _ _ => trivial)) hbase hv hl

end Go.Proofs.Ytniikppojffiaaa.K
end

section
/- A pairing with a pair more, and whether it is an acyclic pairing. -/
namespace Go.Proofs.Ytniikppojffiaaa.K
open Go.RowKit Go.Shelf Go.Proofs.Ytniikppojffiaaa.Q Go.Proofs.YtniikppojffiaaaW.PrintWords Go.Proofs.YtniikppojffiaaaW.PrintLast Go.Proofs.YtniikppojffiaaaW.PrintMore
set_option linter.unusedVariables false
set_option linter.unusedSimpArgs false

theorem CB_two {w : World} {g : Nat} {p : PairT} (h : w.heap[g]? = some (.cells #[I p.f0, I p.f1] TP (0, 0))) : w.cell? ⟨g, 0, none⟩ = some (I p.f0) ∧ w.cell? ⟨g, 1, none⟩ = some (I p.f1) := ⟨blk_cell h 0, blk_cell h 1⟩
set_option maxRecDepth 100000 in
set_option maxHeartbeats 16000000 in
theorem With_calls {n : Int} {l : List Int} (hi : isC n l = true) (A : Option Addr) (c : Nat) (A2 : Option Addr) (c2 : Nat) (q : List PairT) (p : PairT) (w : World) (hk : Kx w A c l) (hq : Kq.C w A2 q.length q) (hc2 : q.length ≤ c2) (hp : pingB l q = true) :
  Calls Try.prog 85 #[.agg #[I n, .slice A l.length c], .slice A2 q.length c2, .agg #[I p.f0, I p.f1]] w fun e w' => ∃ v, e = .returned (.tuple #[v, .bool (withB l q p)]) ∧ Kq.R TP w' w.heap.size (fun _ => True) v (insQ p q) ∧ Grew w w' := by
 have hlq : q.length ≤ 63 := (ping_good hi hp).len
 obtain ⟨W1, hW1⟩ : ∃ W1, W1 = (w.alloc (.cells #[I n, .slice A l.length c] 30)).alloc (.cells #[I p.f0, I p.f1] TP) := ⟨_, rfl⟩
 have hB : CB W1 w.heap.size n (.slice A l.length c) := by rw [hW1]; exact blk_alloc (blk_new w _) _
 have hBp : W1.heap[w.heap.size + 1]? = some (.cells #[I p.f0, I p.f1] TP (0, 0)) := by
  rw [hW1]
  have := blk_new (w.alloc (.cells #[I n, .slice A l.length c] 30)) (.cells #[I p.f0, I p.f1] TP)
  rwa [World.size_alloc] at this
 have hG1 : Grew w W1 := by rw [hW1]; exact below_alloc (below_alloc (Grew.refl w) _) _
 obtain ⟨NB, hNB⟩ : ∃ NB, NB = W1.heap.size := ⟨_, rfl⟩
 have HNB : Aside0 (w.heap.size ≤ NB) := ⟨by rw [hNB]; exact hG1.size⟩
 have HBS := Aside0.mk (BsP_calls A2 c2 q p W1 (Kd.C_below hq hG1) hc2 (by omega) (asc_mono (ping_ascQ hp) p))
 have HCL := Aside0.mk (fun (W : World) (h : Grew W1 W) => ClonePair_calls A2 c2 q W (Kd.C_below hq (Grew.trans hG1 h)) hc2 (by omega))
 have HPI := Aside0.mk (fun (W : World) (h : Grew W1 W) (A3 : Option Addr) (c3 : Nat) (h3 : Kq.C W A3 (insQ p q).length (insQ p q)) (h4 : (insQ p q).length ≤ c3) => isPairing_calls A c hi A3 c3 (insQ p q) W (hk.later (Grew.trans hG1 h)) h3 h4 (by rw [insQ_len]; omega))
 have HAC := Aside0.mk (fun (W : World) (A3 : Option Addr) (c3 : Nat) (h3 : Kq.C W A3 (insQ p q).length (insQ p q)) (h4 : (insQ p q).length ≤ c3) (h5 : pingB l (insQ p q) = true) => isAcyclic_calls A3 c3 n A c l W h3 h4 (ping_good hi h5))
 have HB := Aside0.mk hB
 have HBP := Aside0.mk hBp
 have HG1 := Aside0.mk hG1
 have HE1 := Aside0.mk hW1
 have HEN := Aside0.mk hNB
 have HLQ : Aside0 (q.length ≤ 1000) := ⟨by omega⟩
 obtain ⟨pb, hpb⟩ : ∃ pb, pb = pingB l (insQ p q) := ⟨_, rfl⟩
 have HPB := Aside0.mk hpb
 clear hq hk hB hBp hG1 hW1 hp hc2 hpb hNB
 go_enter Try.func85, Try.ntmps85
 go_wp2_with fail
 rw [← HE1.out]
 refine HBS.out.mono ?_
 rintro e w2 ⟨i, ⟨fv, rfl⟩, hil, hlo, hhi, hG2⟩
 have HIN := Aside0.mk (insQ_at p q i hil hlo (fun t ht h1 => by have := hhi t ht h1; unfold ltP; omega))
 have HIL := Aside0.mk hil
 have HG2 := Aside0.mk hG2
 have kp := CB_two (blk_below HBP.out HG2.out)
 have kp0 := kp.1
 have kp1 := kp.2
 have hlp := World.block_lt_of_cell? w2 _ kp0
 clear kp hlo hhi hG2 hil
 go_wp2_with fail
 have HSZ : Aside0 (NB ≤ w2.heap.size) := ⟨by rw [HEN.out]; exact HG2.out.size⟩
 refine start_ (n := 7) (S := fun w' => w'.cell? ⟨w.heap.size + 1, 0, none⟩ = some (I p.f0) ∧ w'.cell? ⟨w.heap.size + 1, 1, none⟩ = some (I p.f1)) (ds := []) (ar 0 7) (by kernel_rfl) rfl rfl ⟨(Below.cell (w := w2) (below_drew (Grew.refl w2)) (p := ⟨w.heap.size + 1, 0, none⟩) hlp).trans kp0, (Below.cell (w := w2) (below_drew (Grew.refl w2)) (p := ⟨w.heap.size + 1, 1, none⟩) hlp).trans kp1⟩ (fun hHeld => ?_)
 refine pure_ (i := 0) (N := some 17) (v := ?_) (a' := ?_) (ar 1 6) rfl rfl (by kernel_rfl) hh_ (Or.inl ⟨by rfl, ?_⟩) ?_ ?_; rotate_left; (intro w'; go_simp; with_reducible rfl); rotate_left; · simp only [nm_]; rfl
 refine pure_ (i := 2) (N := some 19) (v := ?_) (a' := ?_) #[U,O,U,O,O,O,O] rfl rfl (by kernel_rfl) hh_ (Or.inl ⟨by rfl, ?_⟩) ?_ ?_; rotate_left; (intro w'; go_simp; with_reducible rfl); rotate_left; · simp only [nm_]; rfl
 refine take_ (i := 3) (N := some 20) (v := ?_) (a' := ?_) #[U,O,U,U,O,O,O] rfl rfl (by kernel_rfl) hh_ (Or.inl ⟨by rfl, ?_⟩) hHeld ?_ ?_
 rotate_left; · rintro w' ⟨s0, s1⟩; go_simp; with_reducible rfl
 rotate_left; · simp only [nm_]; rfl
 refine join_ (σ := Value × Nat) 2 (ar 5 2) (fun s => [(18, s.1), (21, .slice (some ⟨s.2, 0, none⟩) 1 1)]) (fun s w' => Kq.R TP w' NB (fun k => k ≠ s.2) s.1 q ∧ w'.heap[s.2]? = some (.cells #[I p.f0, I p.f1] TP (0, 0)) ∧ Grew w2 w') ?_ ?_
 rotate_left
 ·intro hCont
  refine two_ (i := 1) (j := 4) (Ni := some 18) (Nj := some 21) (ar 4 3) #[U,O,U,U,U,O,O] rfl rfl rfl rfl (by kernel_rfl) (by decide) (by decide) (fun K hK => ?_) (fun K hK => ?_)
  ·skip
   refine goes_ Try.func131 (by kernel_rfl) rfl #[.slice A2 q.length c2] (by rfl) rfl rfl (by simp only [List.map_toArray, List.map_cons, List.map_nil]; rfl) ?_
   with_reducible refine (HCL.out _ (Grew.trans HG2.out (below_drew (Grew.refl w2)))).mono ?_
   rintro e w3 ⟨v3, rfl, hR3, hG3⟩
   refine ⟨_, rfl, ?_⟩
   have HR3 : Aside0 (Kq.R TP w3 NB (fun k => k ≠ w3.heap.size) v3 q) := ⟨Kd.R_lower (Kd.R_mono (Kd.R_bound hR3) (fun k hk => by have := hk.2.2.1; omega)) HSZ.out⟩
   have HL := Aside0.mk (Grew.trans (below_drew (Grew.refl w2)) hG3)
   clear hR3 hG3
   refine hK.out _ _ ⟨(Below.cell (w := w2) HL.out (p := ⟨w.heap.size + 1, 0, none⟩) hlp).trans kp0, (Below.cell (w := w2) HL.out (p := ⟨w.heap.size + 1, 1, none⟩) hlp).trans kp1⟩ (fun hHeld => ?_)
   clear hK K
   refine norm_ (a' := ?_) ?_ ?_
   rotate_left
   ·show Act.put _ (some 18) _ = _
    simp only [nm_]
    rfl
   refine one_ (i := 4) (N := some 21) (ar 5 2) rfl rfl (by kernel_rfl) (by decide) (fun K hK => ?_)
   refine value_ (w1 := ?_) (v := ?_) (by rfl) rfl ?_ ?_
   rotate_left 2
   ·go_simp
    constructor
    ·rfl
    ·rfl
   obtain ⟨w4, hw4⟩ : ∃ w4, w4 = w3.alloc (.cells #[I p.f0, I p.f1] 53) := ⟨_, rfl⟩
   have HBV : Aside0 (w4.heap[w3.heap.size]? = some (.cells #[I p.f0, I p.f1] TP (0, 0))) := ⟨by rw [hw4]; exact blk_new _ _⟩
   have HL0 := HL
   replace HL : Aside0 (Grew w2 w4) := ⟨by rw [hw4]; exact below_alloc HL0.out _⟩
   replace HR3 : Aside0 (Kq.R TP w4 NB (fun k => k ≠ w3.heap.size) v3 q) := ⟨by rw [hw4]; exact Kd.R_alloc HR3.out _⟩
   rw [← hw4]
   clear hw4
   refine hK.out _ _ ⟨(Below.cell (w := w2) HL.out (p := ⟨w.heap.size + 1, 0, none⟩) hlp).trans kp0, (Below.cell (w := w2) HL.out (p := ⟨w.heap.size + 1, 1, none⟩) hlp).trans kp1⟩ (fun hHeld => ?_)
   clear hK K
   refine norm_ (a' := ?_) ?_ ?_
   rotate_left
   ·show Act.put _ (some 21) _ = _
    simp only [nm_]
    rfl
   exact norm_ (by first | (simp only [Go.Proofs.YtniikppojffiaaaW.PrintLast.putAll, Act.put, List.setIfInBounds_toArray, List.set_cons_zero, List.set_cons_succ]; done) | rfl) (hCont (v3, w3.heap.size) _ ⟨HR3.out, HBV.out, HL.out⟩)
  ·skip
   refine value_ (w1 := ?_) (v := ?_) (by rfl) rfl ?_ ?_
   rotate_left 2
   ·go_simp
    constructor
    ·rfl
    ·rfl
   obtain ⟨w4, hw4⟩ : ∃ w4, w4 = (w2.alloc (.cells #[I p.f0, I p.f1] 53)).drew := ⟨_, rfl⟩
   have HBV : Aside0 (w4.heap[w2.heap.size]? = some (.cells #[I p.f0, I p.f1] TP (0, 0))) := ⟨by rw [hw4]; exact blk_new _ _⟩
   have HL : Aside0 (Grew w2 w4) := ⟨by rw [hw4]; exact below_drew (below_alloc (Grew.refl w2) _)⟩
   have HZ : Aside0 (w2.heap.size < w4.heap.size) := ⟨by rw [hw4]; show w2.heap.size < (w2.alloc _).heap.size; rw [World.size_alloc]; omega⟩
   rw [← hw4]
   clear hw4
   refine hK.out _ _ ⟨(Below.cell (w := w2) HL.out (p := ⟨w.heap.size + 1, 0, none⟩) hlp).trans kp0, (Below.cell (w := w2) HL.out (p := ⟨w.heap.size + 1, 1, none⟩) hlp).trans kp1⟩ (fun hHeld => ?_)
   clear hK K
   refine norm_ (a' := ?_) ?_ ?_
   rotate_left
   ·show Act.put _ (some 21) _ = _
    simp only [nm_]
    rfl
   refine one_ (i := 1) (N := some 18) (ar 5 2) rfl rfl (by kernel_rfl) (by decide) (fun K hK => ?_)
   refine goes_ Try.func131 (by kernel_rfl) rfl #[.slice A2 q.length c2] (by rfl) rfl rfl (by simp only [List.map_toArray, List.map_cons, List.map_nil]; rfl) ?_
   with_reducible refine (HCL.out _ (Grew.trans HG2.out HL.out)).mono ?_
   rintro e w3 ⟨v3, rfl, hR3, hG3⟩
   refine ⟨_, rfl, ?_⟩
   have HBV := Aside0.mk (blk_below HBV.out hG3)
   have HR3 : Aside0 (Kq.R TP w3 NB (fun k => k ≠ w2.heap.size) v3 q) := ⟨Kd.R_lower (Kd.R_mono (Kd.R_bound hR3) (fun k hk => by have := hk.2.1; have := HZ.out; omega)) (Nat.le_trans HSZ.out HL.out.size)⟩
   replace HL := Aside0.mk (Grew.trans HL.out hG3)
   clear hR3 hG3
   refine hK.out _ _ ⟨(Below.cell (w := w2) HL.out (p := ⟨w.heap.size + 1, 0, none⟩) hlp).trans kp0, (Below.cell (w := w2) HL.out (p := ⟨w.heap.size + 1, 1, none⟩) hlp).trans kp1⟩ (fun hHeld => ?_)
   clear hK K
   refine norm_ (a' := ?_) ?_ ?_
   rotate_left
   ·show Act.put _ (some 18) _ = _
    simp only [nm_]
    rfl
   exact norm_ (by first | (simp only [Go.Proofs.YtniikppojffiaaaW.PrintLast.putAll, Act.put, List.setIfInBounds_toArray, List.set_cons_zero, List.set_cons_succ]; done) | rfl) (hCont (v3, w2.heap.size) _ ⟨HR3.out, HBV.out, HL.out⟩)
 rintro ⟨v5, g5⟩ w5 ⟨hR5, hv5, hG5⟩
 have HL := Aside0.mk hG5
 have HR5 := Aside0.mk hR5
 have HV5 := Aside0.mk hv5
 have HB5 : Aside0 (NB ≤ w5.heap.size) := ⟨by rw [HEN.out]; exact Nat.le_trans HG2.out.size HL.out.size⟩
 clear hR5 hv5 hG5
 have hHeld : w5.cell? ⟨w.heap.size + 1, 0, none⟩ = some (I p.f0) ∧ w5.cell? ⟨w.heap.size + 1, 1, none⟩ = some (I p.f1) := ⟨(Below.cell (w := w2) HL.out (p := ⟨w.heap.size + 1, 0, none⟩) hlp).trans kp0, (Below.cell (w := w2) HL.out (p := ⟨w.heap.size + 1, 1, none⟩) hlp).trans kp1⟩
 refine norm_ (a' := ?_) ?_ ?_
 rotate_left; · simp only [Go.Proofs.YtniikppojffiaaaW.PrintLast.putAll, Act.put, List.setIfInBounds_toArray, List.set_cons_zero, List.set_cons_succ]; rfl
 refine one_ (i := 5) (N := some 22) (ar 6 1) rfl rfl (by kernel_rfl) (by decide) (fun K hK => ?_)
 refine goes_ Try.func130 (by kernel_rfl) rfl #[v5, I i, .slice (some ⟨g5, 0, none⟩) 1 1] (by rfl) rfl rfl (by simp only [List.map_toArray, List.map_cons, List.map_nil]; rfl) ?_
 with_reducible refine (InsP_calls v5 q i HIL.out g5 p w5 HR5.out HB5.out HV5.out HLQ.out).mono ?_
 rintro e w6 ⟨v6, rfl, hR6, hB6⟩
 refine ⟨_, rfl, ?_⟩
 have HB6 := Aside0.mk hB6
 have HR6 : Aside0 (Kq.R TP w6 NB (fun _ => True) v6 (insQ p q)) := ⟨by rw [← HIN.out]; exact hR6⟩
 have HG6 : Aside0 (Grew W1 w6) := ⟨Below.trans (Grew.trans HG2.out HL.out) (by rw [← HEN.out]; exact HB6.out)⟩
 clear hB6 hR6
 refine hK.out _ _ ⟨(CB_two (blk_below HBP.out HG6.out)).1, (CB_two (blk_below HBP.out HG6.out)).2⟩ (fun hHeld => ?_)
 clear hK K
 refine norm_ (a' := ?_) ?_ ?_
 rotate_left
 ·show Act.put _ (some 22) _ = _
  simp only [nm_]
  rfl
 refine pure_ (i := 6) (N := some 10) (v := ?_) (a' := ?_) (ar 7 0) rfl rfl (by kernel_rfl) hh_ (Or.inl ⟨by rfl, ?_⟩) ?_ ?_; rotate_left; (intro w'; go_simp; with_reducible rfl); rotate_left; · simp only [nm_]; rfl
 refine done_ (by kernel_rfl) ?_
 obtain ⟨A6, c6, rfl, hc6, hC6⟩ := Kd.R_reads HR6.out
 have HC6 := Aside0.mk hC6
 have HCC := Aside0.mk hc6
 have HB6c := Aside0.mk (blk_below HB.out HG6.out)
 have k0 : w6.cell? ⟨w.heap.size, 0, none⟩ = some (I n) := blk_cell HB6c.out 0
 have k1 : w6.cell? ⟨w.heap.size, 1, none⟩ = some (.slice A l.length c) := blk_cell HB6c.out 1
 clear hC6 hc6 hHeld
 cases pb with
 | true =>
  go_wp2_with fail
  refine (HPI.out _ HG6.out _ _ HC6.out HCC.out).mono ?_
  rintro e w7 ⟨rfl, hG7⟩
  rw [← HPB.out]
  have HG7 := Aside0.mk hG7
  have HB7 := Aside0.mk (blk_below HB6c.out HG7.out)
  have j0 : w7.cell? ⟨w.heap.size, 0, none⟩ = some (I n) := blk_cell HB7.out 0
  have j1 : w7.cell? ⟨w.heap.size, 1, none⟩ = some (.slice A l.length c) := blk_cell HB7.out 1
  clear hG7
  go_wp2_with fail
  refine (HAC.out _ _ _ (Kd.C_below HC6.out HG7.out) HCC.out HPB.out.symm).mono ?_
  rintro e w8 ⟨rfl, hG8⟩
  have HG8 := Aside0.mk hG8
  clear hG8
  go_wp2_with fail
  go_ret2
  refine ⟨_, ?_, Kd.R_lower (Kd.R_below (Kd.R_below HR6.out HG7.out) HG8.out) HNB.out, Grew.trans HG1.out (Grew.trans HG6.out (Grew.trans HG7.out HG8.out))⟩
  unfold withB
  rw [← HPB.out]
  rfl
 | false =>
  go_wp2_with fail
  refine (HPI.out _ HG6.out _ _ HC6.out HCC.out).mono ?_
  rintro e w7 ⟨rfl, hG7⟩
  rw [← HPB.out]
  have HG7 := Aside0.mk hG7
  clear hG7
  go_wp2_with fail
  go_ret2
  refine ⟨_, ?_, Kd.R_lower (Kd.R_below HR6.out HG7.out) HNB.out, Grew.trans HG1.out (Grew.trans HG6.out HG7.out)⟩
  unfold withB
  rw [← HPB.out]
  rfl

end Go.Proofs.Ytniikppojffiaaa.K
end

section
/- Written by a program of this session (myprint.py over the kit's print). -/
namespace Go.Proofs.Ytniikppojffiaaa.Q
open Go.RowKit Go.Proofs.YtniikppojffiaaaW.PrintWords Go.Proofs.YtniikppojffiaaaW.PrintLast Go.Proofs.YtniikppojffiaaaW.PrintMore
attribute [local go_sem] max2_int min2_int max_two min_two max_three min_three max_four min_four   -- for this text's walks alone
set_option linter.unusedVariables false
set_option linter.unusedSimpArgs false

/-! ### impl_Complex_pairs: function 84 -/
mutual
def impl_Complex_pairs.l0 : Nat → List (S53) → List Int → Int → Int → Int → List Int → Option ((List (S53)))
 | 0, _, _, _, _, _, _ => none
 | k + 1, x3, x10, x11, x12, x622000, x622001 => if x12 < x11 then (if 0 ≤ x12 then (if x12 < (x10.length : Int) then (impl_Complex_pairs.l1 k x3 (rd x10 x12) x10 x11 x12 x622001 (x622001.length : Int) 0 x622000 x622001) else (none)) else (none)) else (some x3)
def impl_Complex_pairs.l1 : Nat → List (S53) → Int → List Int → Int → Int → List Int → Int → Int → Int → List Int → Option ((List (S53)))
 | 0, _, _, _, _, _, _, _, _, _, _ => none
 | k + 1, x3, x5, x10, x11, x12, x17, x18, x19, x622000, x622001 => if x19 < x18 then (if 0 ≤ x19 then (if x19 < (x17.length : Int) then ((impl_Complex_isPair.f k x622000 x622001 x5 (rd x17 x19)).bind fun t625 => (if t625 = true then (if x3.length < 8796093022208 then (impl_Complex_pairs.l1 k (x3 ++ [(⟨x5, rd x17 x19⟩ : S53)]) x5 x10 x11 x12 x17 x18 (wrap64 (x19 + 1)) x622000 x622001) else (none)) else (impl_Complex_pairs.l1 k x3 x5 x10 x11 x12 x17 x18 (wrap64 (x19 + 1)) x622000 x622001))) else (none)) else (none)) else (impl_Complex_pairs.l0 k x3 x10 x11 (wrap64 (x12 + 1)) x622000 x622001)
end
def impl_Complex_pairs.f (k : Nat) (a0_0 : Int) (l0_1 : List Int) : Option ((List (S53))) := impl_Complex_pairs.l0 k ([] : List (S53)) l0_1 (l0_1.length : Int) 0 a0_0 l0_1
theorem impl_Complex_pairs.mono_l : ∀ k, (∀ y0 y1 y2 y3 y4 y5, LeO (impl_Complex_pairs.l0 k y0 y1 y2 y3 y4 y5) (impl_Complex_pairs.l0 (k + 1) y0 y1 y2 y3 y4 y5)) ∧ (∀ y0 y1 y2 y3 y4 y5 y6 y7 y8 y9, LeO (impl_Complex_pairs.l1 k y0 y1 y2 y3 y4 y5 y6 y7 y8 y9) (impl_Complex_pairs.l1 (k + 1) y0 y1 y2 y3 y4 y5 y6 y7 y8 y9))
 | 0 => ⟨fun _ _ _ _ _ _ r h => by simp [impl_Complex_pairs.l0] at h, fun _ _ _ _ _ _ _ _ _ _ r h => by simp [impl_Complex_pairs.l1] at h⟩
 | k + 1 => by
  obtain ⟨ih0, ih1⟩ := impl_Complex_pairs.mono_l k
  refine ⟨?_, ?_⟩
  ·intro y0 y1 y2 y3 y4 y5
   unfold impl_Complex_pairs.l0
   repeat' first
   | (with_reducible exact ih0 _ _ _ _ _ _)
   | (with_reducible exact ih1 _ _ _ _ _ _ _ _ _ _)
   | (with_reducible exact impl_Complex_isPair.mono _ _ _ _ _)
   | (with_reducible exact LeO.refl _)
   | (with_reducible exact LeO.none _)
   | (with_reducible refine LeO.ite ?_ ?_)
   | (with_reducible refine LeO.bind ?_ (fun _ => ?_))
   | exact ih0 _ _ _ _ _ _
   | exact ih1 _ _ _ _ _ _ _ _ _ _
   | exact impl_Complex_isPair.mono _ _ _ _ _
   | exact LeO.none _
   | refine LeO.ite ?_ ?_
   | refine LeO.bind ?_ (fun _ => ?_)
  ·intro y0 y1 y2 y3 y4 y5 y6 y7 y8 y9
   unfold impl_Complex_pairs.l1
   repeat' first
   | (with_reducible exact ih0 _ _ _ _ _ _)
   | (with_reducible exact ih1 _ _ _ _ _ _ _ _ _ _)
   | (with_reducible exact impl_Complex_isPair.mono _ _ _ _ _)
   | (with_reducible exact LeO.refl _)
   | (with_reducible exact LeO.none _)
   | (with_reducible refine LeO.ite ?_ ?_)
   | (with_reducible refine LeO.bind ?_ (fun _ => ?_))
   | exact ih0 _ _ _ _ _ _
   | exact ih1 _ _ _ _ _ _ _ _ _ _
   | exact impl_Complex_isPair.mono _ _ _ _ _
   | exact LeO.none _
   | refine LeO.ite ?_ ?_
   | refine LeO.bind ?_ (fun _ => ?_)
theorem impl_Complex_pairs.mono : ∀ a0 a1 k, LeO (impl_Complex_pairs.f k a0 a1) (impl_Complex_pairs.f (k + 1) a0 a1) := by
 intro a0 a1 k
 obtain ⟨ih0, ih1⟩ := impl_Complex_pairs.mono_l k
 unfold impl_Complex_pairs.f
 repeat' first
   | (with_reducible exact ih0 _ _ _ _ _ _)
   | (with_reducible exact ih1 _ _ _ _ _ _ _ _ _ _)
   | (with_reducible exact impl_Complex_isPair.mono _ _ _ _ _)
   | (with_reducible exact LeO.refl _)
   | (with_reducible exact LeO.none _)
   | (with_reducible refine LeO.ite ?_ ?_)
   | (with_reducible refine LeO.bind ?_ (fun _ => ?_))
   | exact ih0 _ _ _ _ _ _
   | exact ih1 _ _ _ _ _ _ _ _ _ _
   | exact impl_Complex_isPair.mono _ _ _ _ _
   | exact LeO.none _
   | refine LeO.ite ?_ ?_
   | refine LeO.bind ?_ (fun _ => ?_)
set_option maxHeartbeats 8000000 in
set_option maxRecDepth 100000 in
theorem impl_Complex_pairs.calls (k : Nat) (a0_0 : Int) (A0_1 : Option Addr) (c0_1 : Nat) (l0_1 : List Int) (r : List (S53)) (w : World) (hr0_1 : Kd.C (Kd.int .i64) w A0_1 l0_1.length l0_1) (hc0_1 : l0_1.length ≤ c0_1) (h : impl_Complex_pairs.f k a0_0 l0_1 = some r) :
  Calls Try.prog 84 #[.agg #[.int .i64 a0_0, .slice A0_1 l0_1.length c0_1]] w fun e w' => ∃ v0_ : Value, e = .returned (v0_) ∧ Kd.R k53 53 w' w.heap.size (fun _ => True) v0_ r ∧ Below w.heap.size w w' := by
 have hu30 := Try.underlying30
 have hu53 := Try.underlying53
 have HR0_1 := Aside0.mk hr0_1
 have HC0_1 := Aside0.mk hc0_1
 clear hr0_1 hc0_1
 have HB := Aside0.mk (Below.refl w.heap.size w)
 have H : (impl_Complex_pairs.l0 k ([] : List (S53)) l0_1 (l0_1.length : Int) 0 a0_0 l0_1) = some r := h
 clear h
 have H' := Aside0.mk H
 clear H
 go_enter Try.func84, Try.ntmps84
 go_wp2_with (first | ((with_reducible refine gate_dst (N := 1) rfl ?_); refine box_event ?hg (N := 1) ?hd (cs := #[.int .i64 a0_0, .slice A0_1 l0_1.length c0_1]) (t := 30) ?hr ?_; (case hd => rfl); (case hg => rfl); (case hr => first | (go_simp; done) | (go_simp; rfl)); intro gb621 hg w2 hbox hb; have n0_ := Aside0.mk (below_step (by repeat (first | (with_reducible first | exact HB.out | apply below_alloc | apply pw_below_drewN | apply below_drew1) | exact HB.out)) hb); have n1_ := Aside0.mk (hbox); have n2_ := Aside0.mk ((by rw [hg]; exact (below_size (by repeat (first | (with_reducible first | exact HB.out | apply below_alloc | apply pw_below_drewN | apply below_drew1) | exact HB.out))) : w.heap.size ≤ gb621)); have n3_ := Aside0.mk ((by rw [hg]; exact (below_size (by repeat (first | (with_reducible first | exact HB.out | apply below_alloc | apply pw_below_drewN | apply below_drew1) | exact HB.out))) : w.heap.size ≤ gb621)); clear HB; have HB := n0_; have BK621 := n1_; have GW621 := n2_; have GE621 := n3_; clear n0_ n1_ n2_ n3_; clear hb hbox hg; have hcz3_0 : w2.cell? ⟨gb621, 0, none⟩ = some (.int .i64 a0_0) := (blk_cell BK621.out 0).trans rfl; have hcz3_1 : w2.cell? ⟨gb621, 1, none⟩ = some (.slice A0_1 l0_1.length c0_1) := (blk_cell BK621.out 1).trans rfl; have hfz3_0 := blk_frozen BK621.out 0; have hfz3_1 := blk_frozen BK621.out 1))
 go_loopg [3, 12] k (fun kq v3 v12 w' => ∃ (x3_1 : List (S53)) (x12_1 : Int), v12 = .int .i64 x12_1 ∧ Aside0 (impl_Complex_pairs.l0 kq x3_1 l0_1 (l0_1.length : Int) x12_1 a0_0 l0_1 = some r) ∧ Aside0 (kq ≤ k) ∧ Aside0 (Kd.R k53 53 w' w.heap.size (fun _ => True) v3 x3_1) ∧ Aside0 (w'.heap[gb621]? = some (.cells #[.int .i64 a0_0, (.slice A0_1 l0_1.length c0_1)] 30 (0, 0))) ∧ Aside0 (Below w.heap.size w w'))
 case atStart => exact ⟨(([] : List (S53))), (0), (by first | rfl | (simp; done) | (simp [*]; done)), H', ⟨Nat.le_refl _⟩, ⟨by first | exact Kd.R_nil _ _ _ _ _ | exact Kd.N_nil _ _ _ _ _ | exact Kd.V_nil _ _ _ _ _ | exact Kd.Q_nil _ _ _ _ _ | exact Kd.S_nil _ _ _ _ _⟩, ⟨by (with_reducible repeat (first | refine blk_drewN ?_ _ | refine blk_drew ?_ | refine blk_alloc ?_ _)); exact BK621.out⟩, ⟨by repeat (first | (with_reducible first | exact HB.out | apply below_alloc | apply pw_below_drewN | apply below_drew1 | refine below_set ?_ GE621.out) | exact HB.out)⟩⟩
 case round =>
  clear H'
  try clear p2
  try clear hcz3_0
  try clear hcz3_1
  try clear hfz3_0
  try clear hfz3_1
  obtain ⟨x3_1, x12_1, rfl, HA, HK1, HO_3, BK621, HB⟩ := hrel
  cases gk with
  | zero => exact absurd HA.out (by simp [impl_Complex_pairs.l0])
  | succ k1 =>
   have H := HA.out
   clear HA
   simp only [impl_Complex_pairs.l0] at H
   by_cases c4 : x12_1 < (l0_1.length : Int)
   ·rw [if_pos c4] at H
    have c4b0 : decide (x12_1 < (l0_1.length : Int)) = true := decide_eq_true c4
    clear c4
    by_cases c5 : 0 ≤ x12_1
    ·rw [if_pos c5] at H
     have c5b0 : decide (0 ≤ x12_1) = true := decide_eq_true c5
     clear c5
     by_cases c6 : x12_1 < (l0_1.length : Int)
     ·rw [if_pos c6] at H
      have c6b0 : decide (x12_1 < (l0_1.length : Int)) = true := decide_eq_true c6
      clear c6
      have H' := Aside0.mk H
      clear H
      have p622 : 0 ≤ (x12_1 : Int) := of_decide_eq_true (by first | (with_reducible assumption) | assumption)
      have q622 : x12_1 < (l0_1.length : Int) := of_decide_eq_true (by first | (with_reducible assumption) | assumption)
      obtain ⟨ad622, e622, hx622_0⟩ := Kd.at_int HR0_1.out x12_1 p622 q622
      cases e622
      replace hx622_0 := (HB.out.cell (World.block_lt_of_cell? w _ hx622_0)).trans hx622_0
      replace p622 := eq_true p622
      replace q622 := eq_true q622
      have hcz7_0 : wr.cell? ⟨gb621, 0, none⟩ = some (.int .i64 a0_0) := (blk_cell BK621.out 0).trans rfl
      have hcz7_1 : wr.cell? ⟨gb621, 1, none⟩ = some (.slice (some ad622) l0_1.length c0_1) := (blk_cell BK621.out 1).trans rfl
      have hfz7_0 := blk_frozen BK621.out 0
      have hfz7_1 := blk_frozen BK621.out 1
      go_wp2
      go_loopg [3, 19] k1 (fun kq v3 v19 w' => ∃ (x3_2 : List (S53)) (x19_2 : Int), v19 = .int .i64 x19_2 ∧ Aside0 (impl_Complex_pairs.l1 kq x3_2 (rd l0_1 x12_1) l0_1 (l0_1.length : Int) x12_1 l0_1 (l0_1.length : Int) x19_2 a0_0 l0_1 = some r) ∧ Aside0 (kq ≤ k1) ∧ Aside0 (Kd.R k53 53 w' w.heap.size (fun _ => True) v3 x3_2) ∧ Aside0 (w'.heap[gb621]? = some (.cells #[.int .i64 a0_0, (.slice (some ad622) l0_1.length c0_1)] 30 (0, 0))) ∧ Aside0 (Below w.heap.size w w'))
      case atStart => exact ⟨(x3_1), (0), (by first | rfl | (simp; done) | (simp [*]; done)), H', ⟨Nat.le_refl _⟩, ⟨by (with_reducible repeat (first | apply Kd.R_alloc | apply Kd.R_drewN | apply Kd.R_drew)); exact HO_3.out⟩, ⟨by (with_reducible repeat (first | refine blk_drewN ?_ _ | refine blk_drew ?_ | refine blk_alloc ?_ _)); exact BK621.out⟩, ⟨by repeat (first | (with_reducible first | exact HB.out | apply below_alloc | apply pw_below_drewN | apply below_drew1 | refine below_set ?_ GE621.out) | exact HB.out)⟩⟩
      case round =>
       clear H'
       try clear p2
       try clear c4
       try clear c4b0
       try clear c5
       try clear c5b0
       try clear c6
       try clear c6b0
       try clear p6
       try clear q6
       try clear hx6
       try clear hcz3_0
       try clear hcz3_1
       try clear hcz7_0
       try clear hcz7_1
       try clear hfz3_0
       try clear hfz3_1
       try clear hfz7_0
       try clear hfz7_1
       try clear hx622_0
       try clear p2
       try clear p622
       try clear q622
       obtain ⟨x3_2, x19_2, rfl, HA, HK2, HO_3, BK621, HB⟩ := hrel
       cases gk with
       | zero => exact absurd HA.out (by simp [impl_Complex_pairs.l1])
       | succ k2 =>
        have H := HA.out
        clear HA
        simp only [impl_Complex_pairs.l1] at H
        by_cases c8 : x19_2 < (l0_1.length : Int)
        ·rw [if_pos c8] at H
         have c8b0 : decide (x19_2 < (l0_1.length : Int)) = true := decide_eq_true c8
         clear c8
         by_cases c9 : 0 ≤ x19_2
         ·rw [if_pos c9] at H
          have c9b0 : decide (0 ≤ x19_2) = true := decide_eq_true c9
          clear c9
          by_cases c10 : x19_2 < (l0_1.length : Int)
          ·rw [if_pos c10] at H
           have c10b0 : decide (x19_2 < (l0_1.length : Int)) = true := decide_eq_true c10
           clear c10
           replace H := Option.bind_eq_some_iff.mp H
           obtain ⟨t625, A110, H⟩ := H
           replace H : (if t625 = true then (if x3_2.length < 8796093022208 then (impl_Complex_pairs.l1 k2 (x3_2 ++ [(⟨(rd l0_1 x12_1), rd l0_1 x19_2⟩ : S53)]) (rd l0_1 x12_1) l0_1 (l0_1.length : Int) x12_1 l0_1 (l0_1.length : Int) (wrap64 (x19_2 + 1)) a0_0 l0_1) else (none)) else (impl_Complex_pairs.l1 k2 x3_2 (rd l0_1 x12_1) l0_1 (l0_1.length : Int) x12_1 l0_1 (l0_1.length : Int) (wrap64 (x19_2 + 1)) a0_0 l0_1)) = some r := H
           have A11 := Aside0.mk A110
           clear A110
           by_cases c12 : t625 = true
           ·subst c12
            have H1 : (if x3_2.length < 8796093022208 then (impl_Complex_pairs.l1 k2 (x3_2 ++ [(⟨(rd l0_1 x12_1), rd l0_1 x19_2⟩ : S53)]) (rd l0_1 x12_1) l0_1 (l0_1.length : Int) x12_1 l0_1 (l0_1.length : Int) (wrap64 (x19_2 + 1)) a0_0 l0_1) else (none)) = some r := by rw [if_pos rfl] at H; exact H
            clear H
            have H := H1
            clear H1
            by_cases c13 : x3_2.length < 8796093022208
            ·rw [if_pos c13] at H
             have LMc13 := Aside0.mk c13
             clear c13
             obtain ⟨y626, hy626⟩ : ∃ y_ : List (S53), y_ = (x3_2 ++ [(⟨(rd l0_1 x12_1), rd l0_1 x19_2⟩ : S53)]) := ⟨_, rfl⟩
             replace H : (impl_Complex_pairs.l1 k2 y626 (rd l0_1 x12_1) l0_1 (l0_1.length : Int) x12_1 l0_1 (l0_1.length : Int) (wrap64 (x19_2 + 1)) a0_0 l0_1) = some r := by first | (rw [hy626]; with_reducible exact H) | (have H2_ := (Option.bind_some _ _).symm.trans H; rw [hy626]; with_reducible exact H2_) | (have H2_ := (Option.bind_some _ _).symm.trans H; with_reducible exact H2_) | with_reducible exact H | (rw [hy626]; exact H) | exact H
             have Ny626 := Aside0.mk hy626
             clear hy626
             have H' := Aside0.mk H
             clear H
             have p623 : 0 ≤ (x19_2 : Int) := of_decide_eq_true (by first | (with_reducible assumption) | assumption)
             have q623 : x19_2 < (l0_1.length : Int) := of_decide_eq_true (by first | (with_reducible assumption) | assumption)
             obtain ⟨ad623, e623, hx623_0⟩ := Kd.at_int HR0_1.out x19_2 p623 q623
             obtain rfl : ad622 = ad623 := (by injection e623)
             replace hx623_0 := (HB.out.cell (World.block_lt_of_cell? w _ hx623_0)).trans hx623_0
             replace p623 := eq_true p623
             replace q623 := eq_true q623
             go_wp2_with (first | ((with_reducible refine gate_dst (N := 8) rfl ?_); refine box_event ?hg (N := 8) ?hd (cs := #[.int .i64 0, .int .i64 0]) (t := 53) ?hr ?_; (case hd => rfl); (case hg => rfl); (case hr => first | (go_simp; done) | (go_simp; rfl)); intro gb624 hg w14 hbox hb; have n0_ := Aside0.mk (Kd.R_below (Kd.R_elderB (by (with_reducible repeat (first | apply Kd.R_alloc | apply Kd.R_drewN | apply Kd.R_drew)); exact HO_3.out) gb624 (Nat.le_of_eq hg.symm)) hb); have n1_ := Aside0.mk (blk_below (g := gb621) (o := .cells #[.int .i64 a0_0, .slice (some ad622) l0_1.length c0_1] 30 (0, 0)) (by (with_reducible repeat (first | refine blk_drewN ?_ _ | refine blk_drew ?_ | refine blk_alloc ?_ _)); exact BK621.out) hb); have n2_ := Aside0.mk (below_step (by repeat (first | (with_reducible first | exact HB.out | apply below_alloc | apply pw_below_drewN | apply below_drew1 | refine below_set ?_ GE621.out) | exact HB.out)) hb); have n3_ := Aside0.mk (hbox); have n4_ := Aside0.mk ((by rw [hg]; exact (below_size (by repeat (first | (with_reducible first | exact HB.out | apply below_alloc | apply pw_below_drewN | apply below_drew1 | refine below_set ?_ GE621.out) | exact HB.out))) : w.heap.size ≤ gb624)); have n5_ := Aside0.mk ((by rw [hg]; exact (below_size (by repeat (first | (with_reducible first | exact HB.out | apply below_alloc | apply pw_below_drewN | apply below_drew1 | refine below_set ?_ GE621.out) | exact HB.out))) : w.heap.size ≤ gb624)); have n6_ := Aside0.mk ((by rw [hg]; exact Nat.ne_of_lt (blk_lt (g := gb621) (o := .cells #[.int .i64 a0_0, .slice (some ad622) l0_1.length c0_1] 30 (0, 0)) (by (with_reducible repeat (first | refine blk_drewN ?_ _ | refine blk_drew ?_ | refine blk_alloc ?_ _)); exact BK621.out)) : gb621 ≠ gb624)); have n7_ := Aside0.mk ((by rw [hg]; exact Nat.ne_of_gt (blk_lt (g := gb621) (o := .cells #[.int .i64 a0_0, .slice (some ad622) l0_1.length c0_1] 30 (0, 0)) (by (with_reducible repeat (first | refine blk_drewN ?_ _ | refine blk_drew ?_ | refine blk_alloc ?_ _)); exact BK621.out)) : gb624 ≠ gb621)); clear HO_3; clear BK621; clear HB; have HO_3 := n0_; have BK621 := n1_; have HB := n2_; have BK624 := n3_; have GW624 := n4_; have GE624 := n5_; have NB621_624 := n6_; have NB624_621 := n7_; clear n0_ n1_ n2_ n3_ n4_ n5_ n6_ n7_; clear hb hbox hg; have hnb15 := NB624_621.out; have hnc15 := NB621_624.out; have hcz16_0 : w14.cell? ⟨gb624, 0, none⟩ = some (.int .i64 0) := (blk_cell BK624.out 0).trans rfl; have hcz16_1 : w14.cell? ⟨gb624, 1, none⟩ = some (.int .i64 0) := (blk_cell BK624.out 1).trans rfl; have hfz16_0 := blk_frozen BK624.out 0; have hfz16_1 := blk_frozen BK624.out 1; have hcz17_0 : w14.cell? ⟨gb621, 0, none⟩ = some (.int .i64 a0_0) := (blk_cell BK621.out 0).trans rfl; have hcz17_1 : w14.cell? ⟨gb621, 1, none⟩ = some (.slice (some ad622) l0_1.length c0_1) := (blk_cell BK621.out 1).trans rfl; have hfz17_0 := blk_frozen BK621.out 0; have hfz17_1 := blk_frozen BK621.out 1) | ((with_reducible refine gate_callee (f := 88) rfl ?_); refine goesL_ (some 28) rfl rfl Try.func88 (by kernel_rfl) rfl #[.agg #[.int .i64 a0_0, .slice (some ad622) l0_1.length c0_1], .agg #[.int .i64 (rd l0_1 x12_1), .int .i64 (rd l0_1 x19_2)]] rfl (by (try simp only [List.map_toArray, List.map_cons, List.map_nil]); first | done | rfl | (simp only [List.length_drop, List.length_take]; rfl)) ?_; (with_reducible refine (impl_Complex_isPair.calls k2 a0_0 _ _ l0_1 (rd l0_1 x12_1) (rd l0_1 x19_2) true _ ?side1 ?side2 A11.out).mono ?_); (case side1 => exact Kd.C_below HR0_1.out (by repeat (first | (with_reducible first | exact HB.out | apply below_alloc | apply pw_below_drewN | apply below_drew1 | refine below_set ?_ GE621.out | refine below_set ?_ GE624.out) | exact HB.out))); (case side2 => exact HC0_1.out); rintro e w18 ⟨rfl, hb⟩; refine ⟨_, rfl, ?_⟩; have n0_ := Aside0.mk (Kd.R_below (by (with_reducible repeat (first | apply Kd.R_alloc | apply Kd.R_drewN | apply Kd.R_drew)); exact (Kd.R_mono (Kd.R_far (p := ⟨gb624, 1, none⟩) (Kd.R_far (p := ⟨gb624, 0, none⟩) (Kd.R_mono HO_3.out (fun k_ hk => (⟨hk, hk.2⟩ : _ ∧ k_ ≠ gb624))) (fun _ hk => hk.2) (.int .i64 (rd l0_1 x12_1))) (fun _ hk => hk.2) (.int .i64 (rd l0_1 x19_2))) (fun _ h_ => h_.1))) hb); have n1_ := Aside0.mk (blk_below (g := gb621) (o := .cells #[.int .i64 a0_0, .slice (some ad622) l0_1.length c0_1] 30 (0, 0)) (by (with_reducible repeat (first | refine blk_drewN ?_ _ | refine blk_drew ?_ | refine blk_alloc ?_ _)); refine blk_far ?_ NB621_624.out _; (with_reducible repeat (first | refine blk_drewN ?_ _ | refine blk_drew ?_ | refine blk_alloc ?_ _)); refine blk_far ?_ NB621_624.out _; (with_reducible repeat (first | refine blk_drewN ?_ _ | refine blk_drew ?_ | refine blk_alloc ?_ _)); exact BK621.out) hb); have n2_ := Aside0.mk (blk_below (g := gb624) (o := .cells #[.int .i64 (rd l0_1 x12_1), .int .i64 (rd l0_1 x19_2)] 53 (0, 0)) (by (with_reducible repeat (first | refine blk_drewN ?_ _ | refine blk_drew ?_ | refine blk_alloc ?_ _)); refine blk_put (cs := #[.int .i64 (rd l0_1 x12_1), .int .i64 0]) ?_ 1 _ rfl; (with_reducible repeat (first | refine blk_drewN ?_ _ | refine blk_drew ?_ | refine blk_alloc ?_ _)); refine blk_put (cs := #[.int .i64 0, .int .i64 0]) ?_ 0 _ rfl; (with_reducible repeat (first | refine blk_drewN ?_ _ | refine blk_drew ?_ | refine blk_alloc ?_ _)); exact BK624.out) hb); have n3_ := Aside0.mk (below_step (by repeat (first | (with_reducible first | exact HB.out | apply below_alloc | apply pw_below_drewN | apply below_drew1 | refine below_set ?_ GE621.out | refine below_set ?_ GE624.out) | exact HB.out)) hb); clear HO_3; clear BK621; clear BK624; clear HB; have HO_3 := n0_; have BK621 := n1_; have BK624 := n2_; have HB := n3_; clear n0_ n1_ n2_ n3_; (try clear hb); (try clear hb2); (try clear hk); (try clear hi); have hcz19_0 : w18.cell? ⟨gb624, 0, none⟩ = some (.int .i64 (rd l0_1 x12_1)) := (blk_cell BK624.out 0).trans rfl; have hcz19_1 : w18.cell? ⟨gb624, 1, none⟩ = some (.int .i64 (rd l0_1 x19_2)) := (blk_cell BK624.out 1).trans rfl; have hfz19_0 := blk_frozen BK624.out 0; have hfz19_1 := blk_frozen BK624.out 1) | ((with_reducible refine gate_builtin (b := .append) (xs := #[.tmp 29, .tmp 31]) rfl ?_); at_builtin; refine Kd.R_append k53 (w0 := w) w.heap.size rfl (.tmp 29) (.tmp 31) 32 53 (.agg #[(.int .i64 0), (.int .i64 0)]) 16 rfl Try.underlying32 info53 rfl (by decide) (by omega) u3 x3_2 (⟨(rd l0_1 x12_1), rd l0_1 x19_2⟩ : S53) [.int .i64 (rd l0_1 x12_1), .int .i64 (rd l0_1 x19_2)] (fun k_ => k_ ≠ gb624) (fun _ => False) rfl rfl ?aP (fun _ hk => hk.elim) ?aF ?aO ?aB ?aS ?aL ?_; (case aP => exact k53_mkM _ _ _ (⟨(rd l0_1 x12_1), rd l0_1 x19_2⟩ : S53)); (case aB => exact (by repeat (first | (with_reducible first | exact HB.out | apply below_alloc | apply pw_below_drewN | apply below_drew1 | refine below_set ?_ GE621.out | refine below_set ?_ GE624.out) | exact HB.out))); (case aF => exact (fun k_ hk => Kd.freshB (g := gb624) (o := .cells #[.int .i64 (rd l0_1 x12_1), .int .i64 (rd l0_1 x19_2)] 53 (0, 0)) (by (with_reducible repeat (first | refine blk_drewN ?_ _ | refine blk_drew ?_ | refine blk_alloc ?_ _)); exact BK624.out) k_ hk)); (case aO => exact (by (with_reducible repeat (first | apply Kd.R_alloc | apply Kd.R_drewN | apply Kd.R_drew)); exact Kd.R_mono HO_3.out (fun _ hk => hk.2))); (case aS => exact (below_size (by repeat (first | (with_reducible first | exact HB.out | apply below_alloc | apply pw_below_drewN | apply below_drew1 | refine below_set ?_ GE621.out | refine below_set ?_ GE624.out) | exact HB.out)))); (case aL => have := LMc13.out; omega); intro v627 w20 ho hb hg hat; rw [← Ny626.out] at ho; have n0_ := Aside0.mk (blk_grown (g := gb621) (o := .cells #[.int .i64 a0_0, .slice (some ad622) l0_1.length c0_1] 30 (0, 0)) (by (with_reducible repeat (first | refine blk_drewN ?_ _ | refine blk_drew ?_ | refine blk_alloc ?_ _)); exact BK621.out) hg (Kd.R_ne HO_3.out BK621.out (by decide))); have n1_ := Aside0.mk (blk_grown (g := gb624) (o := .cells #[.int .i64 (rd l0_1 x12_1), .int .i64 (rd l0_1 x19_2)] 53 (0, 0)) (by (with_reducible repeat (first | refine blk_drewN ?_ _ | refine blk_drew ?_ | refine blk_alloc ?_ _)); exact BK624.out) hg (Kd.R_away HO_3.out (fun _ hk => hk.2))); have n2_ := Aside0.mk (hb); have n3_ := Aside0.mk (ho); clear BK621; clear BK624; clear HB; clear HO_3; have BK621 := n0_; have BK624 := n1_; have HB := n2_; have HO628 := n3_; clear n0_ n1_ n2_ n3_; clear ho hb hg hat))
             go_roundg k2
             case measure => have := HK1.out; have := HK2.out; omega
             case rel => exact ⟨(y626), (wrap64 (x19_2 + 1)), (by first | rfl | (simp; done) | (simp [*]; done)), H', ⟨by have := HK1.out; have := HK2.out; omega⟩, ⟨by (with_reducible repeat (first | apply Kd.R_alloc | apply Kd.R_drewN | apply Kd.R_drew)); exact Kd.R_mono HO628.out (fun _ hk => trivial)⟩, ⟨by (with_reducible repeat (first | refine blk_drewN ?_ _ | refine blk_drew ?_ | refine blk_alloc ?_ _)); exact BK621.out⟩, ⟨by repeat (first | (with_reducible first | exact HB.out | apply below_alloc | apply pw_below_drewN | apply below_drew1 | refine below_set ?_ GE621.out | refine below_set ?_ GE624.out) | exact HB.out)⟩⟩
            ·rw [if_neg c13] at H
             exact absurd H (by simp)
           ·replace c12 := Bool.eq_false_iff.mpr c12
            subst c12
            have H1 : (impl_Complex_pairs.l1 k2 x3_2 (rd l0_1 x12_1) l0_1 (l0_1.length : Int) x12_1 l0_1 (l0_1.length : Int) (wrap64 (x19_2 + 1)) a0_0 l0_1) = some r := by rw [if_neg (show ¬ (false = true) by decide)] at H; exact H
            clear H
            have H := H1
            clear H1
            have H' := Aside0.mk H
            clear H
            have p623 : 0 ≤ (x19_2 : Int) := of_decide_eq_true (by first | (with_reducible assumption) | assumption)
            have q623 : x19_2 < (l0_1.length : Int) := of_decide_eq_true (by first | (with_reducible assumption) | assumption)
            obtain ⟨ad623, e623, hx623_0⟩ := Kd.at_int HR0_1.out x19_2 p623 q623
            obtain rfl : ad622 = ad623 := (by injection e623)
            replace hx623_0 := (HB.out.cell (World.block_lt_of_cell? w _ hx623_0)).trans hx623_0
            replace p623 := eq_true p623
            replace q623 := eq_true q623
            go_wp2_with (first | ((with_reducible refine gate_dst (N := 8) rfl ?_); refine box_event ?hg (N := 8) ?hd (cs := #[.int .i64 0, .int .i64 0]) (t := 53) ?hr ?_; (case hd => rfl); (case hg => rfl); (case hr => first | (go_simp; done) | (go_simp; rfl)); intro gb624 hg w21 hbox hb; have n0_ := Aside0.mk (Kd.R_below (Kd.R_elderB (by (with_reducible repeat (first | apply Kd.R_alloc | apply Kd.R_drewN | apply Kd.R_drew)); exact HO_3.out) gb624 (Nat.le_of_eq hg.symm)) hb); have n1_ := Aside0.mk (blk_below (g := gb621) (o := .cells #[.int .i64 a0_0, .slice (some ad622) l0_1.length c0_1] 30 (0, 0)) (by (with_reducible repeat (first | refine blk_drewN ?_ _ | refine blk_drew ?_ | refine blk_alloc ?_ _)); exact BK621.out) hb); have n2_ := Aside0.mk (below_step (by repeat (first | (with_reducible first | exact HB.out | apply below_alloc | apply pw_below_drewN | apply below_drew1 | refine below_set ?_ GE621.out) | exact HB.out)) hb); have n3_ := Aside0.mk (hbox); have n4_ := Aside0.mk ((by rw [hg]; exact (below_size (by repeat (first | (with_reducible first | exact HB.out | apply below_alloc | apply pw_below_drewN | apply below_drew1 | refine below_set ?_ GE621.out) | exact HB.out))) : w.heap.size ≤ gb624)); have n5_ := Aside0.mk ((by rw [hg]; exact (below_size (by repeat (first | (with_reducible first | exact HB.out | apply below_alloc | apply pw_below_drewN | apply below_drew1 | refine below_set ?_ GE621.out) | exact HB.out))) : w.heap.size ≤ gb624)); have n6_ := Aside0.mk ((by rw [hg]; exact Nat.ne_of_lt (blk_lt (g := gb621) (o := .cells #[.int .i64 a0_0, .slice (some ad622) l0_1.length c0_1] 30 (0, 0)) (by (with_reducible repeat (first | refine blk_drewN ?_ _ | refine blk_drew ?_ | refine blk_alloc ?_ _)); exact BK621.out)) : gb621 ≠ gb624)); have n7_ := Aside0.mk ((by rw [hg]; exact Nat.ne_of_gt (blk_lt (g := gb621) (o := .cells #[.int .i64 a0_0, .slice (some ad622) l0_1.length c0_1] 30 (0, 0)) (by (with_reducible repeat (first | refine blk_drewN ?_ _ | refine blk_drew ?_ | refine blk_alloc ?_ _)); exact BK621.out)) : gb624 ≠ gb621)); clear HO_3; clear BK621; clear HB; have HO_3 := n0_; have BK621 := n1_; have HB := n2_; have BK624 := n3_; have GW624 := n4_; have GE624 := n5_; have NB621_624 := n6_; have NB624_621 := n7_; clear n0_ n1_ n2_ n3_ n4_ n5_ n6_ n7_; clear hb hbox hg; have hnb22 := NB624_621.out; have hnc22 := NB621_624.out; have hcz23_0 : w21.cell? ⟨gb624, 0, none⟩ = some (.int .i64 0) := (blk_cell BK624.out 0).trans rfl; have hcz23_1 : w21.cell? ⟨gb624, 1, none⟩ = some (.int .i64 0) := (blk_cell BK624.out 1).trans rfl; have hfz23_0 := blk_frozen BK624.out 0; have hfz23_1 := blk_frozen BK624.out 1; have hcz24_0 : w21.cell? ⟨gb621, 0, none⟩ = some (.int .i64 a0_0) := (blk_cell BK621.out 0).trans rfl; have hcz24_1 : w21.cell? ⟨gb621, 1, none⟩ = some (.slice (some ad622) l0_1.length c0_1) := (blk_cell BK621.out 1).trans rfl; have hfz24_0 := blk_frozen BK621.out 0; have hfz24_1 := blk_frozen BK621.out 1) | ((with_reducible refine gate_callee (f := 88) rfl ?_); refine goesL_ (some 28) rfl rfl Try.func88 (by kernel_rfl) rfl #[.agg #[.int .i64 a0_0, .slice (some ad622) l0_1.length c0_1], .agg #[.int .i64 (rd l0_1 x12_1), .int .i64 (rd l0_1 x19_2)]] rfl (by (try simp only [List.map_toArray, List.map_cons, List.map_nil]); first | done | rfl | (simp only [List.length_drop, List.length_take]; rfl)) ?_; (with_reducible refine (impl_Complex_isPair.calls k2 a0_0 _ _ l0_1 (rd l0_1 x12_1) (rd l0_1 x19_2) false _ ?side1 ?side2 A11.out).mono ?_); (case side1 => exact Kd.C_below HR0_1.out (by repeat (first | (with_reducible first | exact HB.out | apply below_alloc | apply pw_below_drewN | apply below_drew1 | refine below_set ?_ GE621.out | refine below_set ?_ GE624.out) | exact HB.out))); (case side2 => exact HC0_1.out); rintro e w25 ⟨rfl, hb⟩; refine ⟨_, rfl, ?_⟩; have n0_ := Aside0.mk (Kd.R_below (by (with_reducible repeat (first | apply Kd.R_alloc | apply Kd.R_drewN | apply Kd.R_drew)); exact (Kd.R_mono (Kd.R_far (p := ⟨gb624, 1, none⟩) (Kd.R_far (p := ⟨gb624, 0, none⟩) (Kd.R_mono HO_3.out (fun k_ hk => (⟨hk, hk.2⟩ : _ ∧ k_ ≠ gb624))) (fun _ hk => hk.2) (.int .i64 (rd l0_1 x12_1))) (fun _ hk => hk.2) (.int .i64 (rd l0_1 x19_2))) (fun _ h_ => h_.1))) hb); have n1_ := Aside0.mk (blk_below (g := gb621) (o := .cells #[.int .i64 a0_0, .slice (some ad622) l0_1.length c0_1] 30 (0, 0)) (by (with_reducible repeat (first | refine blk_drewN ?_ _ | refine blk_drew ?_ | refine blk_alloc ?_ _)); refine blk_far ?_ NB621_624.out _; (with_reducible repeat (first | refine blk_drewN ?_ _ | refine blk_drew ?_ | refine blk_alloc ?_ _)); refine blk_far ?_ NB621_624.out _; (with_reducible repeat (first | refine blk_drewN ?_ _ | refine blk_drew ?_ | refine blk_alloc ?_ _)); exact BK621.out) hb); have n2_ := Aside0.mk (blk_below (g := gb624) (o := .cells #[.int .i64 (rd l0_1 x12_1), .int .i64 (rd l0_1 x19_2)] 53 (0, 0)) (by (with_reducible repeat (first | refine blk_drewN ?_ _ | refine blk_drew ?_ | refine blk_alloc ?_ _)); refine blk_put (cs := #[.int .i64 (rd l0_1 x12_1), .int .i64 0]) ?_ 1 _ rfl; (with_reducible repeat (first | refine blk_drewN ?_ _ | refine blk_drew ?_ | refine blk_alloc ?_ _)); refine blk_put (cs := #[.int .i64 0, .int .i64 0]) ?_ 0 _ rfl; (with_reducible repeat (first | refine blk_drewN ?_ _ | refine blk_drew ?_ | refine blk_alloc ?_ _)); exact BK624.out) hb); have n3_ := Aside0.mk (below_step (by repeat (first | (with_reducible first | exact HB.out | apply below_alloc | apply pw_below_drewN | apply below_drew1 | refine below_set ?_ GE621.out | refine below_set ?_ GE624.out) | exact HB.out)) hb); clear HO_3; clear BK621; clear BK624; clear HB; have HO_3 := n0_; have BK621 := n1_; have BK624 := n2_; have HB := n3_; clear n0_ n1_ n2_ n3_; (try clear hb); (try clear hb2); (try clear hk); (try clear hi)))
            go_roundg k2
            case measure => have := HK1.out; have := HK2.out; omega
            case rel => exact ⟨(x3_2), (wrap64 (x19_2 + 1)), (by first | rfl | (simp; done) | (simp [*]; done)), H', ⟨by have := HK1.out; have := HK2.out; omega⟩, ⟨by (with_reducible repeat (first | apply Kd.R_alloc | apply Kd.R_drewN | apply Kd.R_drew)); exact Kd.R_mono HO_3.out (fun _ hk => trivial)⟩, ⟨by (with_reducible repeat (first | refine blk_drewN ?_ _ | refine blk_drew ?_ | refine blk_alloc ?_ _)); exact BK621.out⟩, ⟨by repeat (first | (with_reducible first | exact HB.out | apply below_alloc | apply pw_below_drewN | apply below_drew1 | refine below_set ?_ GE621.out | refine below_set ?_ GE624.out) | exact HB.out)⟩⟩
          ·rw [if_neg c10] at H
           exact absurd H (by simp)
         ·rw [if_neg c9] at H
          exact absurd H (by simp)
        ·rw [if_neg c8] at H
         have c8b0 : decide (x19_2 < (l0_1.length : Int)) = false := decide_eq_false c8
         clear c8
         have H' := Aside0.mk H
         clear H
         go_wp2
         go_roundg k2
         case measure => have := HK1.out; have := HK2.out; omega
         case rel => exact ⟨(x3_2), (wrap64 (x12_1 + 1)), (by first | rfl | (simp; done) | (simp [*]; done)), H', ⟨by have := HK1.out; have := HK2.out; omega⟩, ⟨by (with_reducible repeat (first | apply Kd.R_alloc | apply Kd.R_drewN | apply Kd.R_drew)); exact HO_3.out⟩, ⟨by (with_reducible repeat (first | refine blk_drewN ?_ _ | refine blk_drew ?_ | refine blk_alloc ?_ _)); exact BK621.out⟩, ⟨by repeat (first | (with_reducible first | exact HB.out | apply below_alloc | apply pw_below_drewN | apply below_drew1 | refine below_set ?_ GE621.out) | exact HB.out)⟩⟩
     ·rw [if_neg c6] at H
      exact absurd H (by simp)
    ·rw [if_neg c5] at H
     exact absurd H (by simp)
   ·rw [if_neg c4] at H
    have c4b0 : decide (x12_1 < (l0_1.length : Int)) = false := decide_eq_false c4
    clear c4
    obtain rfl := Option.some.inj H
    go_wp2
    go_ret
    exact ⟨_, by first | rfl | (simp [errW_none, errW_some] <;> rfl) | (simp [*, errW_none, errW_some] <;> rfl), by (with_reducible repeat (first | apply Kd.R_alloc | apply Kd.R_drewN | apply Kd.R_drew)); exact HO_3.out, by repeat (first | (with_reducible first | exact HB.out | apply below_alloc | apply pw_below_drewN | apply below_drew1 | refine below_set ?_ GE621.out) | exact HB.out)⟩

/-! ### impl_isValue: function 163 -/
end Go.Proofs.Ytniikppojffiaaa.Q
end

section
/- The reference's answers about Morse functions; all pairs of a complex. -/
namespace Go.Proofs.Ytniikppojffiaaa.K
open Go.RowKit Go.Shelf Go.Proofs.Ytniikppojffiaaa.Q Go.Proofs.YtniikppojffiaaaW.PrintWords Go.Proofs.YtniikppojffiaaaW.PrintLast Go.Proofs.YtniikppojffiaaaW.PrintMore
set_option linter.unusedVariables false
set_option linter.unusedSimpArgs false

theorem isPair_le {n a b : Int} {l : List Int} {r : Bool} {m : Nat} (h : impl_Complex_isPair.f m n l a b = some r) : ∀ d, impl_Complex_isPair.f (m + d) n l a b = some r
 | 0 => h
 | d + 1 => impl_Complex_isPair.mono _ _ _ _ _ _ (isPair_le h d)
theorem pairs_l1 {n : Int} {l : List Int} (hi : isC n l = true) (a i : Int) (xs : List Int) : ∀ (e j k : Nat) (out : List PairT), l.length - j = e → j ≤ l.length → e + 100 < k → out.length + e ≤ 100000 →
  impl_Complex_pairs.l1 k out a xs (xs.length : Int) i l (l.length : Int) (j : Int) n l = impl_Complex_pairs.l0 (k - (e + 1)) (out ++ ((l.drop j).filter fun b => pairK l ⟨a, b⟩).map fun b => ⟨a, b⟩) xs (xs.length : Int) (wrap64 (i + 1)) n l := by
 have h63 := (isC_faces hi).2.2.2
 intro e
 induction e with
 | zero =>
  intro j k out he hj hk ho
  obtain ⟨k, rfl⟩ : ∃ m, k = m + 1 := ⟨k - 1, by omega⟩
  obtain rfl : j = l.length := by omega
  simp only [impl_Complex_pairs.l1]
  rw [if_neg (by omega), List.drop_eq_nil_of_le (by omega)]
  simp
 | succ e ih =>
  intro j k out he hj hk ho
  obtain ⟨k, rfl⟩ : ∃ m, k = m + 1 := ⟨k - 1, by omega⟩
  have hjl : j < l.length := by omega
  have hkk : k + 1 - (e + 1 + 1) = k - (e + 1) := by omega
  have HWj : Aside0 (wrap64 ((j : Int) + 1) = ((j + 1 : Nat) : Int)) := ⟨by rw [w64 _ (by omega) (by omega)]; omega⟩
  have HF : Aside0 (impl_Complex_isPair.f k n l a l[j] = some (pairK l ⟨a, l[j]⟩)) := ⟨by
   have := isPair_le (isPair_is hi a l[j]) (k - (l.length + 1))
   rwa [show l.length + 1 + (k - (l.length + 1)) = k by omega] at this⟩
  simp only [impl_Complex_pairs.l1]
  rw [if_pos (by omega), if_pos (by omega), if_pos (by omega), rd_nat l j hjl, HWj.out, HF.out, hkk, List.drop_eq_getElem_cons hjl, List.filter_cons]
  simp only [Option.bind_some]
  cases hb : pairK l ⟨a, l[j]⟩ with
  | true =>
   rw [if_pos rfl, if_pos (by omega), ih (j + 1) k _ (by omega) (by omega) (by omega) (by simp; omega), if_pos rfl, List.map_cons, List.append_assoc]
   rfl
  | false =>
   rw [if_neg (by simp), ih (j + 1) k _ (by omega) (by omega) (by omega) (by omega), if_neg (by simp)]
theorem pairs_l0 {n : Int} {l : List Int} (hi : isC n l = true) : ∀ (e i k : Nat) (out : List PairT), l.length - i = e → i ≤ l.length → e * 65 + 200 < k → out.length ≤ i * 63 →
  impl_Complex_pairs.l0 k out l (l.length : Int) (i : Int) n l = some (out ++ (l.drop i).flatMap fun a => (l.filter fun b => pairK l ⟨a, b⟩).map fun b => ⟨a, b⟩) := by
 have h63 := (isC_faces hi).2.2.2
 intro e
 induction e with
 | zero =>
  intro i k out he hj hk ho
  obtain ⟨k, rfl⟩ : ∃ m, k = m + 1 := ⟨k - 1, by omega⟩
  obtain rfl : i = l.length := by omega
  simp only [impl_Complex_pairs.l0]
  rw [if_neg (by omega), List.drop_eq_nil_of_le (by omega)]
  simp
 | succ e ih =>
  intro i k out he hj hk ho
  obtain ⟨k, rfl⟩ : ∃ m, k = m + 1 := ⟨k - 1, by omega⟩
  have hil : i < l.length := by omega
  have HWi : Aside0 (wrap64 ((i : Int) + 1) = ((i + 1 : Nat) : Int)) := ⟨by rw [w64 _ (by omega) (by omega)]; omega⟩
  have h1 := pairs_l1 hi l[i] (i : Int) l l.length 0 k out (by omega) (by omega) (by omega) (by omega)
  rw [show ((0 : Nat) : Int) = 0 from rfl, List.drop_zero, HWi.out] at h1
  have hfl := List.length_filter_le (fun b => pairK l ⟨l[i], b⟩) l
  simp only [impl_Complex_pairs.l0]
  rw [if_pos (by omega), if_pos (by omega), if_pos (by omega), rd_nat l i hil, h1, ih (i + 1) _ _ (by omega) (by omega) (by omega) (by rw [List.length_append, List.length_map]; omega), List.drop_eq_getElem_cons hil, List.flatMap_cons, List.append_assoc]
theorem pairs_is {n : Int} {l : List Int} (hi : isC n l = true) (k : Nat) (hk : 5000 ≤ k) : impl_Complex_pairs.f k n l = some (pairsL l) := by
 have h63 := (isC_faces hi).2.2.2
 unfold impl_Complex_pairs.f pairsL
 have := pairs_l0 hi l.length 0 k [] (by omega) (by omega) (by omega) (by simp)
 rw [show ((0 : Nat) : Int) = 0 from rfl, List.drop_zero, List.nil_append] at this
 exact this

end Go.Proofs.Ytniikppojffiaaa.K
end

section
/- GreedyPairing of the program. -/
namespace Go.Proofs.Ytniikppojffiaaa.K
open Go.RowKit Go.Shelf Go.Proofs.Ytniikppojffiaaa.Q Go.Proofs.YtniikppojffiaaaW.PrintWords Go.Proofs.YtniikppojffiaaaW.PrintLast Go.Proofs.YtniikppojffiaaaW.PrintMore
set_option linter.unusedVariables false
set_option linter.unusedSimpArgs false

noncomputable def stepQ (l : List Int) (q : List PairT) (p : PairT) : List PairT := if withB l q p = true then insQ p q else q
/-- The pairing that takes each pair that it can. -/
noncomputable def greedyL (l : List Int) : List PairT := (pairsL l).foldl (stepQ l) []
theorem ping_nil (l : List Int) : pingB l [] = true := rfl
theorem stepQ_ping {l : List Int} {q : List PairT} (p : PairT) (h : pingB l q = true) : pingB l (stepQ l q p) = true := by
 unfold stepQ
 split
 ·rename_i h1
  unfold withB at h1
  simp only [Bool.and_eq_true] at h1
  exact h1.1
 ·exact h
theorem fold_ping {l : List Int} : ∀ (ps q : List PairT), pingB l q = true → pingB l (ps.foldl (stepQ l) q) = true
 | [], q, h => h
 | p :: ps, q, h => fold_ping ps _ (stepQ_ping p h)
theorem greedy_len {n : Int} {l : List Int} (hi : isC n l = true) : (greedyL l).length ≤ 63 := (ping_good hi (fold_ping (pairsL l) [] (ping_nil l))).len
theorem pairs_len2 {n : Int} {l : List Int} (hi : isC n l = true) : (pairsL l).length ≤ 3969 := by
 have h63 := (isC_faces hi).2.2.2
 have : ∀ L : List Int, (L.flatMap fun a => (l.filter fun b => pairK l ⟨a, b⟩).map fun b => (⟨a, b⟩ : PairT)).length ≤ L.length * 63 := by
  intro L
  induction L with
  | nil => simp
  | cons a L ih =>
   have h1 : (l.filter fun b => pairK l ⟨a, b⟩).length ≤ l.length := List.length_filter_le _ _
   rw [List.flatMap_cons, List.length_append, List.length_map, List.length_cons]
   omega
 have := this l
 unfold pairsL
 omega
set_option maxRecDepth 100000 in
set_option maxHeartbeats 8000000 in
theorem GreedyPairing_calls (n : Int) (A : Option Addr) (c : Nat) (l : List Int) (w : World) (hk : Kx w A c l) :
  Calls Try.prog 43 #[.agg #[I n, .slice A l.length c]] w fun e w' => ∃ v, e = .returned (.tuple #[v, I (codeOf n l true)]) ∧ Kq.R 53 w' w.heap.size (fun _ => True) v (if codeOf n l true = 0 then greedyL l else []) ∧ Grew w w' := by
 obtain ⟨W3, hW3⟩ : ∃ W3, W3 = w.alloc (.cells #[I n, .slice A l.length c] 30) := ⟨_, rfl⟩
 have hB : CB W3 w.heap.size n (.slice A l.length c) := by rw [hW3]; exact blk_new w _
 have hg : Grew w W3 := by rw [hW3]; exact below_alloc (Grew.refl w) _
 have H := Aside0.mk (complexCode_calls true n A c l 63 #[] #[] W3 (hk.later hg) (enters_of Try.func63 (by kernel_rfl) rfl) (fun _ => always_answers _))
 have k_0 := hB.c0
 have k_1 := hB.c1
 have HK := Aside0.mk hk
 have HB := Aside0.mk hB
 have HG := Aside0.mk hg
 clear hk hB hg
 obtain ⟨cc, hcc⟩ : ∃ cc, cc = codeOf n l true := ⟨_, rfl⟩
 rw [← hcc] at H ⊢
 by_cases hz : cc = 0
 ·subst hz
  have hi := (codeOf_zero hcc.symm).1
  have HI := Aside0.mk hi
  have HPL : Aside0 ((pairsL l).length ≤ 3969) := ⟨pairs_len2 hi⟩
  have HPC := Aside0.mk (fun (W : World) (h : Grew w W) => impl_Complex_pairs.calls 5000 n A c l (pairsL l) W (HK.out.later h).r (HK.out.later h).c (pairs_is hi 5000 (Nat.le_refl _)))
  have HW := Aside0.mk (fun (W : World) (h : Grew w W) (A5 : Option Addr) (c5 : Nat) (q : List PairT) (p : PairT) (hq : Kq.C W A5 q.length q) (hc : q.length ≤ c5) (hp : pingB l q = true) => With_calls hi A c A5 c5 q p W (HK.out.later h) hq hc hp)
  have hx0 : ∀ {α : Type} (a b : α), (if (0 : Int) = 0 then a else b) = a := fun a b => if_pos rfl
  simp only [hx0]
  have HGL : Aside0 ((pairsL l).foldl (stepQ l) [] = greedyL l) := ⟨rfl⟩
  obtain ⟨ps, hps⟩ : ∃ ps, ps = pairsL l := ⟨_, rfl⟩
  rw [← hps] at HPL HPC HGL
  clear hcc hx0 hi hps
  subst hW3
  go_enter Try.func43, Try.ntmps43
  go_wp2_with fail
  refine H.out.mono ?_
  rintro e w1 ⟨rfl, hG1⟩
  have HB1 : Aside0 (CB w1 w.heap.size n (.slice A l.length c)) := ⟨blk_below HB.out hG1⟩
  have HG1 := Aside0.mk (Grew.trans HG.out hG1)
  clear hG1 k_0 k_1
  have k_0 := HB1.out.c0
  have k_1 := HB1.out.c1
  go_wp2_with fail
  refine (HPC.out _ HG1.out).mono ?_
  rintro e w2 ⟨vp, rfl, hRp, hG2⟩
  obtain ⟨Ap, cp, rfl, hcp, hCp⟩ := Kd.R_reads hRp
  have HCp := Aside0.mk hCp
  have HB2 : Aside0 (CB w2 w.heap.size n (.slice A l.length c)) := ⟨blk_below HB1.out hG2⟩
  have HG2 := Aside0.mk (Grew.trans HG1.out hG2)
  clear hG2 k_0 k_1 hRp hcp hCp
  go_wp2_with fail
  go_loopg [5, 7, 8, 9, 18] ps.length (fun gg s5 _ _ _ s18 wr => ∃ (i : Nat) (A5 : Option Addr) (c5 : Nat) (q : List PairT), i ≤ ps.length ∧ ps.length - i ≤ gg ∧ s18 = .int .i64 i ∧ s5 = .slice A5 q.length c5 ∧ Aside0 (Kq.R 53 wr w2.heap.size (fun _ => True) (.slice A5 q.length c5) q) ∧ Aside0 (pingB l q = true) ∧ Aside0 ((ps.drop i).foldl (stepQ l) q = greedyL l) ∧ Aside0 (Grew w2 wr))
  case atStart => exact ⟨0, none, 0, [], Nat.zero_le _, by omega, rfl, rfl, ⟨Kd.R_nil _ _ _ _ _⟩, ⟨ping_nil l⟩, ⟨by rw [List.drop_zero]; exact HGL.out⟩, ⟨Grew.refl w2⟩⟩
  case round =>
   obtain ⟨i, A5, c5, q, hil, hgg, rfl, rfl, HR5, HP5, HF5, HGr⟩ := hrel
   by_cases hlt : i < ps.length
   ·have hltz : (i : Int) < (ps.length : Int) := by omega
    obtain ⟨ad, e0, hx0, hx1⟩ := Kq_read (Kd.C_below HCp.out HGr.out) i hlt rfl
    cases e0
    have HF6 : Aside0 ((ps.drop (i + 1)).foldl (stepQ l) (stepQ l q ps[i]) = greedyL l) := ⟨by rw [← HF5.out, List.drop_eq_getElem_cons hlt]; rfl⟩
    generalize ps[i] = p at hx0 hx1 HF6
    obtain ⟨W1, hW1⟩ : ∃ W1, W1 = wr.alloc (.cells #[I p.f0, I p.f1] 53) := ⟨_, rfl⟩
    have hp : W1.heap[wr.heap.size]? = some (.cells #[I p.f0, I p.f1] 53 (0, 0)) := by rw [hW1]; exact blk_new wr _
    have hGw : Grew wr W1 := by rw [hW1]; exact below_alloc (Grew.refl wr) _
    have HB3 : Aside0 (CB W1 w.heap.size n (.slice A l.length c)) := ⟨blk_below HB2.out (Grew.trans HGr.out hGw)⟩
    have HGw := Aside0.mk (Grew.trans HGr.out hGw)
    have HR6 := Aside0.mk (Kd.R_below HR5.out hGw)
    have HC6 := Aside0.mk (Kd.R_reads' HR6.out)
    have HWC := Aside0.mk (HW.out W1 (Grew.trans HG2.out HGw.out) A5 c5 q p HC6.out.2.2 HC6.out.2.1 HP5.out)
    have HSZ : Aside0 (w2.heap.size ≤ W1.heap.size) := ⟨HGw.out.size⟩
    have k_0 := HB3.out.c0
    have k_1 := HB3.out.c1
    have hp0 : W1.cell? ⟨wr.heap.size, 0, none⟩ = some (I p.f0) := blk_cell hp 0
    have hp1 : W1.cell? ⟨wr.heap.size, 1, none⟩ = some (I p.f1) := blk_cell hp 1
    have HST : Aside0 (stepQ l q p = if withB l q p = true then insQ p q else q) := ⟨rfl⟩
    have HPP := Aside0.mk (stepQ_ping p HP5.out)
    generalize withB l q p = wb at HWC HST
    clear hp hGw
    subst hW1
    go_wp2_with fail
    refine HWC.out.mono ?_
    rintro e w3 ⟨v3, rfl, hR3, hG3⟩
    obtain ⟨A3, c3, rfl, _, _⟩ := Kd.R_reads hR3
    have HR3 := Aside0.mk (Kd.R_lower hR3 HSZ.out)
    have HR7 := Aside0.mk (Kd.R_below HR6.out hG3)
    have HG3 := Aside0.mk (Grew.trans HGw.out hG3)
    clear hR3 hG3 k_0 k_1 hp0 hp1 hx0 hx1
    cases wb with
    | true =>
     have e : stepQ l q p = insQ p q := by rw [HST.out, if_pos rfl]
     have HF7 : Aside0 ((ps.drop (i + 1)).foldl (stepQ l) (insQ p q) = greedyL l) := ⟨by rw [← e]; exact HF6.out⟩
     have HP7 : Aside0 (pingB l (insQ p q) = true) := ⟨by rw [← e]; exact HPP.out⟩
     clear e
     have hpl := HPL.out
     go_wp2_with fail
     go_roundg (ps.length - (i + 1))
     case measure => omega
     case rel => exact ⟨i + 1, A3, c3, insQ p q, by omega, Nat.le_refl _, by go_num, rfl, HR3, HP7, HF7, HG3⟩
    | false =>
     have e : stepQ l q p = q := by rw [HST.out, if_neg (by simp)]
     have HF7 : Aside0 ((ps.drop (i + 1)).foldl (stepQ l) q = greedyL l) := ⟨by rw [← e]; rw [e]; have := HF6.out; rw [e] at this; exact this⟩
     clear e
     have hpl := HPL.out
     go_wp2_with fail
     go_roundg (ps.length - (i + 1))
     case measure => omega
     case rel => exact ⟨i + 1, A5, c5, q, by omega, Nat.le_refl _, by go_num, rfl, HR7, HP5, HF7, HG3⟩
   ·have hie : i = ps.length := by omega
    have HFE : Aside0 (q = greedyL l) := ⟨by have := HF5.out; rw [List.drop_eq_nil_of_le (by omega)] at this; exact this⟩
    have hltz : ¬ (i : Int) < (ps.length : Int) := by omega
    clear hie
    go_wp2_with fail
    go_ret2
    exact ⟨_, rfl, by rw [← HFE.out]; exact Kd.R_lower HR5.out HG2.out.size, Grew.trans HG2.out HGr.out⟩
 ·have HV : Aside0 (∀ {α : Type} (a b : α), (if cc = 0 then a else b) = b) := ⟨fun a b => if_neg hz⟩
  simp only [HV.out]
  clear hcc
  subst hW3
  go_enter Try.func43, Try.ntmps43
  go_wp2_with fail
  refine H.out.mono ?_
  rintro e w1 ⟨rfl, hG1⟩
  have HG1 := Aside0.mk (Grew.trans HG.out hG1)
  clear hG1 k_0 k_1
  go_wp2_with fail
  go_ret2
  exact ⟨_, rfl, Kd.R_nil _ _ _ _ _, HG1.out⟩

end Go.Proofs.Ytniikppojffiaaa.K
end

section
/- The reference's GreedyPairing. -/
namespace Go.Proofs.Ytniikppojffiaaa.K
open Go.RowKit Go.Shelf Go.Proofs.Ytniikppojffiaaa.Q Go.Proofs.YtniikppojffiaaaW.PrintWords Go.Proofs.YtniikppojffiaaaW.PrintLast Go.Proofs.YtniikppojffiaaaW.PrintMore
set_option linter.unusedVariables false
set_option linter.unusedSimpArgs false

set_option maxRecDepth 100000 in
set_option maxHeartbeats 8000000 in
theorem sFill_calls {n : Int} {l : List Int} (hi : isC n l = true) (A : Option Addr) (c : Nat) (A1 : Option Addr) (c1 : Nat) (q0 : List PairT) (base : Nat) (w : World) (hk : Kx w A c l) (hR : Kq.R TP w base (fun _ => True) (.slice A1 q0.length c1) q0) (hbase : base ≤ w.heap.size) (hp0 : pingB l q0 = true) :
  Calls Try.prog 83 #[.agg #[I n, .slice A l.length c], .slice A1 q0.length c1] w fun e w' => ∃ v, e = .returned v ∧ Kq.R TP w' base (fun _ => True) v ((pairsL l).foldl (stepQ l) q0) ∧ Grew w w' := by
 obtain ⟨W3, hW3⟩ : ∃ W3, W3 = w.alloc (.cells #[I n, .slice A l.length c] 30) := ⟨_, rfl⟩
 have hB : CB W3 w.heap.size n (.slice A l.length c) := by rw [hW3]; exact blk_new w _
 have hg : Grew w W3 := by rw [hW3]; exact below_alloc (Grew.refl w) _
 have k_0 := hB.c0
 have k_1 := hB.c1
 have HK := Aside0.mk hk
 have HB := Aside0.mk hB
 have HG := Aside0.mk hg
 have HI := Aside0.mk hi
 have HP0 := Aside0.mk hp0
 have HBS := Aside0.mk hbase
 have HR0 := Aside0.mk (Kd.R_below hR hg)
 have HPL : Aside0 ((pairsL l).length ≤ 3969) := ⟨pairs_len2 hi⟩
 have HPC := Aside0.mk (fun (W : World) (h : Grew w W) => spec_l02All.calls 17010000 n A c l (pairsL l) W (HK.out.later h).r (HK.out.later h).c (specPairsAll_is hi 17010000 (Nat.le_refl _)))
 have HW := Aside0.mk (fun (W : World) (h : Grew w W) (A5 : Option Addr) (c5 : Nat) (q : List PairT) (p : PairT) (hq : Kq.C W A5 q.length q) (hc : q.length ≤ c5) (hp : pingB l q = true) => spec_l02With.calls 17001000 n A c l A5 c5 q p.f0 p.f1 (insQ p q) (pingB l (insQ p q)) W (HK.out.later h).r (HK.out.later h).c hq hc (specWith_is hi hp p 17001000 (Nat.le_refl _)))
 have HAC := Aside0.mk (fun (W : World) (A5 : Option Addr) (c5 : Nat) (q : List PairT) (hq : Kq.C W A5 q.length q) (hc : q.length ≤ c5) (hp : pingB l q = true) => sAcyclic_calls A5 c5 W hq hc (ping_good hi hp))
 obtain ⟨ps, hps⟩ : ∃ ps, ps = pairsL l := ⟨_, rfl⟩
 rw [← hps] at HPL HPC ⊢
 obtain ⟨gl, hgl⟩ : ∃ gl, gl = ps.foldl (stepQ l) q0 := ⟨_, rfl⟩
 have HGL := Aside0.mk hgl
 rw [← hgl]
 clear hi hps hk hB hg hR hbase hp0 hgl
 subst hW3
 go_enter Try.func83, Try.ntmps83
 go_wp2_with fail
 refine (HPC.out _ HG.out).mono ?_
 rintro e w2 ⟨vp, rfl, hRp, hG2⟩
 obtain ⟨Ap, cp, rfl, hcp, hCp⟩ := Kd.R_reads hRp
 have HCp := Aside0.mk hCp
 have HB2 : Aside0 (CB w2 w.heap.size n (.slice A l.length c)) := ⟨blk_below HB.out hG2⟩
 have HR2 := Aside0.mk (Kd.R_below HR0.out hG2)
 have HG2 := Aside0.mk (Grew.trans HG.out hG2)
 clear hG2 k_0 k_1 hRp hcp hCp
 go_wp2_with fail
 go_loopg [1, 6, 7, 8] ps.length (fun gg s1 s6 _ _ wr => ∃ (i : Nat) (A5 : Option Addr) (c5 : Nat) (q : List PairT), i ≤ ps.length ∧ ps.length - i ≤ gg ∧ s6 = .int .i64 i ∧ s1 = .slice A5 q.length c5 ∧ Aside0 (Kq.R TP wr base (fun _ => True) (.slice A5 q.length c5) q) ∧ Aside0 (pingB l q = true) ∧ Aside0 ((ps.drop i).foldl (stepQ l) q = gl) ∧ Aside0 (Grew w2 wr))
 case atStart => exact ⟨0, A1, c1, q0, Nat.zero_le _, by omega, rfl, rfl, HR2, HP0, ⟨by rw [List.drop_zero]; exact HGL.out.symm⟩, ⟨Grew.refl w2⟩⟩
 case round =>
  obtain ⟨i, A5, c5, q, hil, hgg, rfl, rfl, HR5, HP5, HF5, HGr⟩ := hrel
  by_cases hlt : i < ps.length
  ·have hltz : (i : Int) < (ps.length : Int) := by omega
   obtain ⟨ad, e0, hx0, hx1⟩ := Kq_read (Kd.C_below HCp.out HGr.out) i hlt rfl
   cases e0
   have HF6 : Aside0 ((ps.drop (i + 1)).foldl (stepQ l) (stepQ l q ps[i]) = gl) := ⟨by rw [← HF5.out, List.drop_eq_getElem_cons hlt]; rfl⟩
   generalize ps[i] = p at hx0 hx1 HF6
   have HB3 : Aside0 (CB wr w.heap.size n (.slice A l.length c)) := ⟨blk_below HB2.out HGr.out⟩
   have HC6 := Aside0.mk (Kd.R_reads' HR5.out)
   have HWC := Aside0.mk (HW.out wr.drew (Grew.trans HG2.out (Grew.trans HGr.out (below_drew (Grew.refl wr)))) A5 c5 q p (Kd.C_drew HC6.out.2.2) HC6.out.2.1 HP5.out)
   have HSZ : Aside0 (base ≤ wr.drew.heap.size) := ⟨Nat.le_trans HBS.out (Grew.trans HG2.out HGr.out).size⟩
   have k_0 := HB3.out.c0
   have k_1 := HB3.out.c1
   have HST : Aside0 (stepQ l q p = if (pingB l (insQ p q) && acycB (insQ p q)) = true then insQ p q else q) := ⟨rfl⟩
   have HPP := Aside0.mk (stepQ_ping p HP5.out)
   obtain ⟨pb, hpb⟩ : ∃ pb, pb = pingB l (insQ p q) := ⟨_, rfl⟩
   obtain ⟨ab, hab⟩ : ∃ ab, ab = acycB (insQ p q) := ⟨_, rfl⟩
   rw [← hpb] at HWC HST
   rw [← hab] at HST
   have HPB := Aside0.mk hpb
   have HAB := Aside0.mk hab
   clear hpb hab
   have hpl := HPL.out
   have hnx : wrap64 ((i : Int) + 1) = ((i + 1 : Nat) : Int) := by rw [w64 _ (by omega) (by omega)]; omega
   have HNX := Aside0.mk hnx
   clear hnx
   have hl0 := World.block_lt_of_cell? wr _ k_0
   have hlx := World.block_lt_of_cell? wr _ hx0
   go_wp2_with fail
   refine start_ (n := 12) (S := fun w' => w'.cell? ⟨w.heap.size, 0, none⟩ = some (I n) ∧ w'.cell? ⟨w.heap.size, 1, none⟩ = some (.slice A l.length c) ∧ w'.cell? (ad.add (i * 2)) = some (I p.f0) ∧ w'.cell? ⟨(ad.add (i * 2)).block, (ad.add (i * 2)).off + 1, none⟩ = some (I p.f1)) (ds := []) (ar 0 12) (by kernel_rfl) rfl rfl ⟨(Below.cell (w := wr) (below_drew (Grew.refl wr)) (p := ⟨w.heap.size, 0, none⟩) hl0).trans k_0, (Below.cell (w := wr) (below_drew (Grew.refl wr)) (p := ⟨w.heap.size, 1, none⟩) hl0).trans k_1, (Below.cell (w := wr) (below_drew (Grew.refl wr)) (p := ad.add (i * 2)) hlx).trans hx0, (Below.cell (w := wr) (below_drew (Grew.refl wr)) (p := ⟨(ad.add (i * 2)).block, (ad.add (i * 2)).off + 1, none⟩) hlx).trans hx1⟩ (fun hHeld => ?_)
   refine pure_ (i := 1) (N := some 19) (v := ?_) (a' := ?_) #[O,U,O,O,O,O,O,O,O,O,O,O] rfl rfl (by kernel_rfl) hh_ (Or.inl ⟨by rfl, ?_⟩) ?_ ?_; rotate_left; (intro w'; go_simp; with_reducible rfl); rotate_left; · simp only [nm_]; rfl
   refine pure_ (i := 2) (N := some 20) (v := ?_) (a' := ?_) #[O,U,U,O,O,O,O,O,O,O,O,O] rfl rfl (by kernel_rfl) hh_ (Or.inl ⟨by rfl, ?_⟩) ?_ ?_; rotate_left; (intro w'; go_simp; with_reducible rfl); rotate_left; · simp only [nm_]; rfl
   refine pure_ (i := 3) (N := some 21) (v := ?_) (a' := ?_) #[O,U,U,U,O,O,O,O,O,O,O,O] rfl rfl (by kernel_rfl) hh_ (Or.inl ⟨by rfl, ?_⟩) ?_ ?_; rotate_left; (intro w'; go_simp; with_reducible rfl); rotate_left; · simp only [nm_]; rfl
   refine pure_ (i := 4) (N := some 22) (v := ?_) (a' := ?_) #[O,U,U,U,U,O,O,O,O,O,O,O] rfl rfl (by kernel_rfl) hh_ (Or.inl ⟨by rfl, ?_⟩) ?_ ?_; rotate_left; (intro w'; go_simp; with_reducible rfl); rotate_left; · simp only [nm_]; rfl
   refine take_ (i := 0) (N := some 18) (v := ?_) (a' := ?_) (ar 5 7) rfl rfl (by kernel_rfl) hh_ (Or.inl ⟨by rfl, ?_⟩) hHeld ?_ ?_
   rotate_left; · rintro w' ⟨s0, s1, s2, s3⟩; go_simp; with_reducible rfl
   rotate_left; · simp only [nm_]; rfl
   refine take_ (i := 5) (N := some 23) (v := ?_) (a' := ?_) (ar 6 6) rfl rfl (by kernel_rfl) hh_ (Or.inl ⟨by rfl, ?_⟩) hHeld ?_ ?_
   rotate_left; · rintro w' ⟨s0, s1, s2, s3⟩; go_simp; with_reducible rfl
   rotate_left; · simp only [nm_]; rfl
   refine one_ (i := 6) (N := some 24) (ar 7 5) rfl rfl (by kernel_rfl) (by decide) (fun K hK => ?_)
   refine goes_ Try.func87 (by kernel_rfl) rfl #[.agg #[I n, .slice A l.length c], .slice A5 q.length c5, .agg #[I p.f0, I p.f1]] (by rfl) rfl rfl (by simp only [List.map_toArray, List.map_cons, List.map_nil]; rfl) ?_
   with_reducible refine (HWC.out).mono ?_
   rintro e w3 ⟨v3, rfl, hR3, hGa⟩
   refine ⟨_, rfl, ?_⟩
   have HG3w := Aside0.mk (Grew.trans (below_drew (Grew.refl wr)) hGa)
   clear hGa
   refine hK.out _ _ ⟨(Below.cell (w := wr) HG3w.out (p := ⟨w.heap.size, 0, none⟩) hl0).trans k_0, (Below.cell (w := wr) HG3w.out (p := ⟨w.heap.size, 1, none⟩) hl0).trans k_1, (Below.cell (w := wr) HG3w.out (p := ad.add (i * 2)) hlx).trans hx0, (Below.cell (w := wr) HG3w.out (p := ⟨(ad.add (i * 2)).block, (ad.add (i * 2)).off + 1, none⟩) hlx).trans hx1⟩ (fun hHeld => ?_)
   clear hK K
   refine norm_ (a' := ?_) ?_ ?_
   rotate_left
   ·show Act.put _ (some 24) _ = _
    simp only [nm_]
    rfl
   refine pure_ (i := 7) (N := some 17) (v := ?_) (a' := ?_) (ar 8 4) rfl rfl (by kernel_rfl) hh_ (Or.inl ⟨by rfl, ?_⟩) ?_ ?_; rotate_left; (intro w'; go_simp; with_reducible rfl); rotate_left; · simp only [nm_]; rfl
   refine pure_ (i := 8) (N := some 25) (v := ?_) (a' := ?_) (ar 9 3) rfl rfl (by kernel_rfl) hh_ (Or.inl ⟨by rfl, ?_⟩) ?_ ?_; rotate_left; (intro w'; go_simp; with_reducible rfl); rotate_left; · simp only [nm_]; rfl
   refine pure_ (i := 9) (N := some 26) (v := ?_) (a' := ?_) (ar 10 2) rfl rfl (by kernel_rfl) hh_ (Or.inl ⟨by rfl, ?_⟩) ?_ ?_; rotate_left; (intro w'; go_simp; with_reducible rfl); rotate_left; · simp only [nm_]; rfl
   refine pure_ (i := 10) (N := some 7) (v := ?_) (a' := ?_) (ar 11 1) rfl rfl (by kernel_rfl) hh_ (Or.inl ⟨by rfl, ?_⟩) ?_ ?_; rotate_left; (intro w'; go_simp; with_reducible rfl); rotate_left; · simp only [nm_]; rfl
   refine pure_ (i := 11) (N := some 8) (v := ?_) (a' := ?_) (ar 12 0) rfl rfl (by kernel_rfl) hh_ (Or.inl ⟨by rfl, ?_⟩) ?_ ?_; rotate_left; (intro w'; go_simp; with_reducible rfl); rotate_left; · simp only [nm_]; rfl
   refine done_ (by kernel_rfl) ?_
   have hG3 := HG3w.out
   obtain ⟨A3, c3, rfl, hc3, hC3⟩ := Kd.R_reads hR3
   have HR3 := Aside0.mk (Kd.R_lower hR3 HSZ.out)
   have HR7 := Aside0.mk (Kd.R_below HR5.out hG3)
   have HG3 := Aside0.mk (Grew.trans HGr.out hG3)
   have HC3 := Aside0.mk hC3
   have HCC3 := Aside0.mk hc3
   clear hR3 hG3 k_0 k_1 hx0 hx1 hC3 hc3
   cases pb with
   | true =>
    go_wp2_with fail
    refine (HAC.out w3 A3 c3 (insQ p q) HC3.out HCC3.out HPB.out.symm).mono ?_
    rintro e w4 ⟨rfl, hG4⟩
    rw [← HAB.out]
    have HR8 := Aside0.mk (Kd.R_below HR3.out hG4)
    have HR9 := Aside0.mk (Kd.R_below HR7.out hG4)
    have HG4 := Aside0.mk (Grew.trans HG3.out hG4)
    clear hG4
    cases ab with
    | true =>
     have e : stepQ l q p = insQ p q := by rw [HST.out]; rfl
     have HF7 : Aside0 ((ps.drop (i + 1)).foldl (stepQ l) (insQ p q) = gl) := ⟨by rw [← e]; exact HF6.out⟩
     have HP7 : Aside0 (pingB l (insQ p q) = true) := ⟨by rw [← e]; exact HPP.out⟩
     clear e
     go_wp2_with fail
     go_roundg (ps.length - (i + 1))
     case measure => omega
     case rel => exact ⟨i + 1, A3, c3, insQ p q, by omega, Nat.le_refl _, by go_num, rfl, HR8, HP7, HF7, HG4⟩
    | false =>
     have e : stepQ l q p = q := by rw [HST.out]; rfl
     have HF7 : Aside0 ((ps.drop (i + 1)).foldl (stepQ l) q = gl) := ⟨by have := HF6.out; rw [e] at this; exact this⟩
     clear e
     go_wp2_with fail
     go_roundg (ps.length - (i + 1))
     case measure => omega
     case rel => exact ⟨i + 1, A5, c5, q, by omega, Nat.le_refl _, by go_num, rfl, HR9, HP5, HF7, HG4⟩
   | false =>
    have e : stepQ l q p = q := by rw [HST.out]; rfl
    have HF7 : Aside0 ((ps.drop (i + 1)).foldl (stepQ l) q = gl) := ⟨by have := HF6.out; rw [e] at this; exact this⟩
    clear e
    go_wp2_with fail
    go_roundg (ps.length - (i + 1))
    case measure => omega
    case rel => exact ⟨i + 1, A5, c5, q, by omega, Nat.le_refl _, by go_num, rfl, HR7, HP5, HF7, HG3⟩
  ·have HFE : Aside0 (q = gl) := ⟨by have := HF5.out; rw [List.drop_eq_nil_of_le (by omega)] at this; exact this⟩
   have hltz : ¬ (i : Int) < (ps.length : Int) := by omega
   go_wp2_with fail
   go_ret
   exact ⟨_, rfl, by rw [← HFE.out]; exact HR5.out, Grew.trans HG2.out HGr.out⟩
set_option maxRecDepth 100000 in
set_option maxHeartbeats 4000000 in
theorem sGreedy_calls (n : Int) (A : Option Addr) (c : Nat) (l : List Int) (w : World) (hk : Kx w A c l) (hl : l.length ≤ 2097152) :
  Calls Try.prog 42 #[.agg #[I n, .slice A l.length c]] w fun e w' => ∃ v, e = .returned (.tuple #[v, I (codeOf n l true)]) ∧ Kq.R TP w' w.heap.size (fun _ => True) v (if codeOf n l true = 0 then greedyL l else []) ∧ Grew w w' := by
 obtain ⟨W3, hW3⟩ : ∃ W3, W3 = w.alloc (.cells #[I n, .slice A l.length c] 30) := ⟨_, rfl⟩
 have hB : CB W3 w.heap.size n (.slice A l.length c) := by rw [hW3]; exact blk_new w _
 have hg : Grew w W3 := by rw [hW3]; exact below_alloc (Grew.refl w) _
 have k_0 := hB.c0
 have k_1 := hB.c1
 have HK := Aside0.mk hk
 have HB := Aside0.mk hB
 have HG := Aside0.mk hg
 have H := Aside0.mk (fun (W : World) (h : Grew w W) => spec_l01Is.calls (isK l) n A c l (isC n l) W (HK.out.later h).r (HK.out.later h).c (specIs_is n l hl (isK l) (Nat.le_refl _)))
 have HF := Aside0.mk (fun (hi : isC n l = true) (W : World) (h : Grew w W) (A1 : Option Addr) (c1 : Nat) (hR : Kq.R TP W w.heap.size (fun _ => True) (.slice A1 ([] : List PairT).length c1) []) => sFill_calls hi A c A1 c1 [] w.heap.size W (HK.out.later h) hR h.size (ping_nil l))
 have HC : Aside0 (codeOf n l true = if isC n l = true then 0 else 1) := ⟨by unfold codeOf; cases isC n l <;> rfl⟩
 have HGL : Aside0 ((pairsL l).foldl (stepQ l) [] = greedyL l) := ⟨rfl⟩
 obtain ⟨ib, hib⟩ : ∃ ib, ib = isC n l := ⟨_, rfl⟩
 rw [← hib] at H HC HF
 clear hk hB hg
 subst hW3
 cases ib with
 | true =>
  have e : codeOf n l true = 0 := by rw [HC.out, if_pos rfl]
  rw [e]
  have hx0 : ∀ {α : Type} (a b : α), (if (0 : Int) = 0 then a else b) = a := fun a b => if_pos rfl
  simp only [hx0]
  clear e hx0 hib
  go_enter Try.func42, Try.ntmps42
  go_wp2_with fail
  refine (H.out _ HG.out).mono ?_
  rintro e w2 ⟨rfl, hG2⟩
  have HB2 : Aside0 (CB w2 w.heap.size n (.slice A l.length c)) := ⟨blk_below HB.out hG2⟩
  have HG2 := Aside0.mk (Grew.trans HG.out hG2)
  clear hG2 k_0 k_1
  have k_0 := HB2.out.c0
  have k_1 := HB2.out.c1
  have HR2 := Aside0.mk (Rq.empty w2 w.heap.size HG2.out.size)
  have HG3 : Aside0 (Grew w (w2.alloc (.cells #[] TP))) := ⟨below_alloc HG2.out _⟩
  go_wp2_with fail
  refine (HF.out (by trivial) _ HG3.out _ _ HR2.out).mono ?_
  rintro e w4 ⟨v, rfl, hR4, hG4⟩
  have HR4 := Aside0.mk hR4
  have HG4 := Aside0.mk (Grew.trans HG3.out hG4)
  clear hR4 hG4 k_0 k_1
  go_wp2_with fail
  go_ret2
  exact ⟨_, rfl, by rw [← HGL.out]; exact HR4.out, HG4.out⟩
 | false =>
  have e : codeOf n l true = 1 := by rw [HC.out, if_neg (by simp)]
  rw [e]
  have hx0 : ∀ {α : Type} (a b : α), (if (1 : Int) = 0 then a else b) = b := fun a b => if_neg (by decide)
  simp only [hx0]
  clear e hx0 hib
  go_enter Try.func42, Try.ntmps42
  go_wp2_with fail
  refine (H.out _ HG.out).mono ?_
  rintro e w2 ⟨rfl, hG2⟩
  have HG2 := Aside0.mk (Grew.trans HG.out hG2)
  clear hG2 k_0 k_1
  go_wp2_with fail
  go_ret2
  exact ⟨_, rfl, Kd.R_nil _ _ _ _ _, HG2.out⟩
theorem greedyA_len {n : Int} {l : List Int} : (if codeOf n l true = 0 then greedyL l else []).length ≤ 63 := by
 split
 ·rename_i h
  exact greedy_len (codeOf_zero h).1
 ·simp

end Go.Proofs.Ytniikppojffiaaa.K
end

section
/- The walk through the law FnExactGreedyPairing. -/
namespace Go.Proofs.Ytniikppojffiaaa.K
open Go.RowKit Go.Shelf Go.Proofs.Ytniikppojffiaaa.Q Go.Proofs.YtniikppojffiaaaW.PrintWords Go.Proofs.YtniikppojffiaaaW.PrintLast Go.Proofs.YtniikppojffiaaaW.PrintMore
set_option linter.unusedVariables false
set_option linter.unusedSimpArgs false

set_option maxRecDepth 100000 in
set_option maxHeartbeats 8000000 in
theorem LGreedyPairing_b0 (n0 : Int) (A0 : Option Addr) (c0 : Nat) (l0 : List Int) (w : World) (hr0 : Ki.C w A0 l0.length l0) (hc0 : l0.length ≤ c0)   (hz : (1048576 : Int) < (l0.length : Int)) :
  Calls Try.prog 10 #[.agg #[I n0, .slice A0 l0.length c0]] w fun e w' => e = .returned (.bool true) ∧ Grew w w' := by
 have hbig0 := hr0.2.1
 have HR0 := Aside0.mk hr0
 have HC0 := Aside0.mk hc0
 clear hr0 hc0
 obtain ⟨W0, hW0⟩ : ∃ W0, W0 = (w.alloc (.cells #[I n0, .slice A0 l0.length c0] 24)) := ⟨_, rfl⟩
 have hb_p0 : (Item.box w.heap.size 24 #[I n0, .slice A0 l0.length c0]).ok W0 := by
  rw [hW0]
  have := blk_new w (.cells #[I n0, .slice A0 l0.length c0] 24)
  exact this
 have HM0 : Aside0 (Mem W0 [.box w.heap.size 24 #[I n0, .slice A0 l0.length c0]]) := ⟨Mem.cons (it := .box w.heap.size 24 #[I n0, .slice A0 l0.length c0]) hb_p0 (Mem.nil _)⟩
 have HG0 : Aside0 (Grew w W0) := ⟨by rw [hW0]; exact below_alloc (Grew.refl w) _⟩
 have hs0 : W0.heap.size = w.heap.size + 1 := by rw [hW0]; simp
 clear hb_p0
 have H0 := Aside0.mk (szC_calls n0 A0 c0 l0 (1048576 : Int) (by omega) W0 (Kd.C_below HR0.out HG0.out) HC0.out)
 rw [if_pos (by omega)] at H0
 have p0_0 : W0.cell? ⟨w.heap.size, 0, none⟩ = some (I n0) := blk_cell HM0.out.head 0
 have p0_1 : W0.cell? ⟨w.heap.size, 1, none⟩ = some (.slice A0 l0.length c0) := blk_cell HM0.out.head 1
 subst hW0
 go_enter Try.func10, Try.ntmps10
 go_wp2_with fail
 refine H0.out.mono ?_
 rintro e w1 ⟨rfl, hG1⟩
 clear p0_0 p0_1
 have HM1 := Aside0.mk (HM0.out.grew hG1)
 have HG1 := Aside0.mk (Grew.trans HG0.out hG1)
 have hs1 := hG1.size
 try simp at hs1
 clear hG1 H0
 go_wp2_with fail
 go_ret
 exact ⟨rfl, HG1.out⟩

set_option maxRecDepth 100000 in
set_option maxHeartbeats 8000000 in
theorem LGreedyPairing_main (n0 : Int) (A0 : Option Addr) (c0 : Nat) (l0 : List Int) (w : World) (hr0 : Ki.C w A0 l0.length l0) (hc0 : l0.length ≤ c0)  (hl0 : ¬ (1048576 : Int) < (l0.length : Int)) :
  Calls Try.prog 10 #[.agg #[I n0, .slice A0 l0.length c0]] w fun e w' => e = .returned (.bool true) ∧ Grew w w' := by
  obtain ⟨r0, r1, HS, HI, hlen0⟩ : ∃ (r0 : List S53) (r1 : Int), Aside0 (∀ W A0 c0, Ki.C W A0 l0.length l0 → l0.length ≤ c0 → Calls Try.prog 42 #[.agg #[I n0, .slice A0 l0.length c0]] W fun e w' => ∃ v0, e = .returned (.tuple #[v0, I r1]) ∧ Kq.R 53 w' W.heap.size (fun _ => True) v0 r0 ∧ Grew W w') ∧ Aside0 (∀ W A0 c0, Ki.C W A0 l0.length l0 → l0.length ≤ c0 → Calls Try.prog 43 #[.agg #[I n0, .slice A0 l0.length c0]] W fun e w' => ∃ v0, e = .returned (.tuple #[v0, I r1]) ∧ Kq.R 53 w' W.heap.size (fun _ => True) v0 r0 ∧ Grew W w') ∧ r0.length ≤ 1000000 := by
   have hbig0 := hr0.2.1
   have hS := fun (W : World) (A0 : Option Addr) (c0 : Nat) (hr0 : Ki.C W A0 l0.length l0) (hc0 : l0.length ≤ c0) => sGreedy_calls n0 A0 c0 l0 W ⟨hr0, hc0, by omega⟩ (by omega)
   have hI := fun (W : World) (A0 : Option Addr) (c0 : Nat) (hr0 : Ki.C W A0 l0.length l0) (hc0 : l0.length ≤ c0) => GreedyPairing_calls n0 A0 c0 l0 W ⟨hr0, hc0, by omega⟩
   have hlen0 := greedyA_len (n := n0) (l := l0)
   exact ⟨(if codeOf n0 l0 true = 0 then greedyL l0 else []), (codeOf n0 l0 true), ⟨hS⟩, ⟨hI⟩, Nat.le_trans hlen0 (by decide)⟩
  have hbig0 := hr0.2.1
  have HR0 := Aside0.mk hr0
  have HC0 := Aside0.mk hc0
  clear hr0 hc0
  obtain ⟨W0, hW0⟩ : ∃ W0, W0 = (w.alloc (.cells #[I n0, .slice A0 l0.length c0] 24)) := ⟨_, rfl⟩
  have hb_p0 : (Item.box w.heap.size 24 #[I n0, .slice A0 l0.length c0]).ok W0 := by
   rw [hW0]
   have := blk_new w (.cells #[I n0, .slice A0 l0.length c0] 24)
   exact this
  have HM0 : Aside0 (Mem W0 [.box w.heap.size 24 #[I n0, .slice A0 l0.length c0]]) := ⟨Mem.cons (it := .box w.heap.size 24 #[I n0, .slice A0 l0.length c0]) hb_p0 (Mem.nil _)⟩
  have HG0 : Aside0 (Grew w W0) := ⟨by rw [hW0]; exact below_alloc (Grew.refl w) _⟩
  have hs0 : W0.heap.size = w.heap.size + 1 := by rw [hW0]; simp
  clear hb_p0
  have H0 := Aside0.mk (szC_calls n0 A0 c0 l0 (1048576 : Int) (by omega) W0 (Kd.C_below HR0.out HG0.out) HC0.out)
  rw [if_neg (by omega)] at H0
  have p0_0 : W0.cell? ⟨w.heap.size, 0, none⟩ = some (I n0) := blk_cell HM0.out.head 0
  have p0_1 : W0.cell? ⟨w.heap.size, 1, none⟩ = some (.slice A0 l0.length c0) := blk_cell HM0.out.head 1
  subst hW0
  go_enter Try.func10, Try.ntmps10
  have hneg0 : ¬ (((1048576 : Int) - (l0.length : Int)) < 0) := by omega
  go_wp2_with fail
  refine H0.out.mono ?_
  rintro e w1 ⟨rfl, hG1⟩
  clear p0_0 p0_1
  have HM1 := Aside0.mk (HM0.out.grew hG1)
  have HG1 := Aside0.mk (Grew.trans HG0.out hG1)
  have hs1 := hG1.size
  try simp at hs1
  clear hG1 H0
  have p0_0 : w1.cell? ⟨w.heap.size, 0, none⟩ = some (I n0) := blk_cell HM1.out.head 0
  have p0_1 : w1.cell? ⟨w.heap.size, 1, none⟩ = some (.slice A0 l0.length c0) := blk_cell HM1.out.head 1
  go_wp2_with fail
  clear p0_0 p0_1
  refine (toC_calls n0 A0 c0 l0 w1 (Kd.C_below HR0.out HG1.out) HC0.out (by omega)).mono ?_
  rintro e w2 ⟨AS0, cS0, rfl, hR2, hG2⟩
  have HM2 : Aside0 (Mem w2 [.row w1.heap.size w2.heap.size (.slice AS0 l0.length cS0) l0, .box w.heap.size 24 #[I n0, .slice A0 l0.length c0]]) := ⟨Mem.cons (it := .row w1.heap.size w2.heap.size (.slice AS0 l0.length cS0) l0) (hR2) (HM1.out.grew hG2)⟩
  have HG2 := Aside0.mk (Grew.trans HG1.out hG2)
  have hs2 := hG2.size
  clear hG2 
  go_wp2_with fail
  refine (HS.out w2 AS0 cS0 (Row.slice HM2.out.head).2.2 (Row.slice HM2.out.head).2.1).mono ?_
  rintro e w3 ⟨vw0, rfl, hRw0, hG3⟩
  obtain ⟨Aw0, cw0, rfl⟩ := Kd.R_slice hRw0
  have HM3 : Aside0 (Mem w3 [.prow w2.heap.size w3.heap.size (.slice Aw0 r0.length cw0) r0, .row w1.heap.size w2.heap.size (.slice AS0 l0.length cS0) l0, .box w.heap.size 24 #[I n0, .slice A0 l0.length c0]]) := ⟨Mem.cons (it := .prow w2.heap.size w3.heap.size (.slice Aw0 r0.length cw0) r0) (PRow.of_R hRw0) (HM2.out.grew hG3)⟩
  have HG3 := Aside0.mk (Grew.trans HG2.out hG3)
  have hs3 := hG3.size
  clear hG3 
  have p0_0 : w3.cell? ⟨w.heap.size, 0, none⟩ = some (I n0) := blk_cell HM3.out.tail.tail.head 0
  have p0_1 : w3.cell? ⟨w.heap.size, 1, none⟩ = some (.slice A0 l0.length c0) := blk_cell HM3.out.tail.tail.head 1
  go_wp2_with fail
  clear p0_0 p0_1
  refine (toC_calls n0 A0 c0 l0 w3 (Kd.C_below HR0.out HG3.out) HC0.out (by omega)).mono ?_
  rintro e w4 ⟨Ax0, cx0, rfl, hR4, hG4⟩
  have HM4 : Aside0 (Mem w4 [.row w3.heap.size w4.heap.size (.slice Ax0 l0.length cx0) l0, .prow w2.heap.size w3.heap.size (.slice Aw0 r0.length cw0) r0, .row w1.heap.size w2.heap.size (.slice AS0 l0.length cS0) l0, .box w.heap.size 24 #[I n0, .slice A0 l0.length c0]]) := ⟨Mem.cons (it := .row w3.heap.size w4.heap.size (.slice Ax0 l0.length cx0) l0) (hR4) (HM3.out.grew hG4)⟩
  have HG4 := Aside0.mk (Grew.trans HG3.out hG4)
  have hs4 := hG4.size
  clear hG4 
  have HM5 : Aside0 (Mem (w4.alloc (.cells #[I n0, .slice Ax0 l0.length cx0] 30)) [.box w4.heap.size 30 #[I n0, .slice Ax0 l0.length cx0], .row w3.heap.size w4.heap.size (.slice Ax0 l0.length cx0) l0, .prow w2.heap.size w3.heap.size (.slice Aw0 r0.length cw0) r0, .row w1.heap.size w2.heap.size (.slice AS0 l0.length cS0) l0, .box w.heap.size 24 #[I n0, .slice A0 l0.length c0]]) := ⟨Mem.cons (blk_new w4 _) (HM4.out.grew (below_alloc (Grew.refl w4) _))⟩
  have HG5 : Aside0 (Grew w (w4.alloc (.cells #[I n0, .slice Ax0 l0.length cx0] 30))) := ⟨Grew.trans HG4.out (below_alloc (Grew.refl w4) _)⟩
  have hS5 : (w4.alloc (.cells #[I n0, .slice Ax0 l0.length cx0] 30)).heap.size = w4.heap.size + 1 := by simp
  have bx0_0 : (w4.alloc (.cells #[I n0, .slice Ax0 l0.length cx0] 30)).cell? ⟨w4.heap.size, 0, none⟩ = some (I n0) := blk_cell HM5.out.head 0
  have bx0_1 : (w4.alloc (.cells #[I n0, .slice Ax0 l0.length cx0] 30)).cell? ⟨w4.heap.size, 1, none⟩ = some (.slice Ax0 l0.length cx0) := blk_cell HM5.out.head 1
  go_wp2_with fail
  generalize (w4.alloc (.cells #[I n0, .slice Ax0 l0.length cx0] 30)) = W5 at HM5 HG5 hS5 bx0_0 bx0_1 ⊢
  clear bx0_0 bx0_1
  refine (HI.out W5 Ax0 cx0 (Row.slice HM5.out.tail.head).2.2 (Row.slice HM5.out.tail.head).2.1).mono ?_
  rintro e w6 ⟨vg0, rfl, hRg0, hG6⟩
  obtain ⟨Ag0, cg0, rfl⟩ := Kd.R_slice hRg0
  have HM6 : Aside0 (Mem w6 [.prow W5.heap.size w6.heap.size (.slice Ag0 r0.length cg0) r0, .box w4.heap.size 30 #[I n0, .slice Ax0 l0.length cx0], .row w3.heap.size w4.heap.size (.slice Ax0 l0.length cx0) l0, .prow w2.heap.size w3.heap.size (.slice Aw0 r0.length cw0) r0, .row w1.heap.size w2.heap.size (.slice AS0 l0.length cS0) l0, .box w.heap.size 24 #[I n0, .slice A0 l0.length c0]]) := ⟨Mem.cons (it := .prow W5.heap.size w6.heap.size (.slice Ag0 r0.length cg0) r0) (PRow.of_R hRg0) (HM5.out.grew hG6)⟩
  have HG6 := Aside0.mk (Grew.trans HG5.out hG6)
  have hs6 := hG6.size
  clear hG6 
  go_wp2_with fail
  refine (eqP_calls r0 Ag0 Aw0 cg0 cw0 _ _ _ _ _ _ w6 HM6.out.head HM6.out.tail.tail.tail.head).mono ?_
  rintro e w7 ⟨rfl, hG7⟩
  have HM7 := Aside0.mk (HM6.out.grew hG7)
  have HG7 := Aside0.mk (Grew.trans HG6.out hG7)
  have hs7 := hG7.size
  clear hG7
  go_wp2_with fail
  have bx0_0 : w7.cell? ⟨w4.heap.size, 0, none⟩ = some (I n0) := blk_cell HM7.out.tail.head 0
  have bx0_1 : w7.cell? ⟨w4.heap.size, 1, none⟩ = some (.slice Ax0 l0.length cx0) := blk_cell HM7.out.tail.head 1
  have p0_0 : w7.cell? ⟨w.heap.size, 0, none⟩ = some (I n0) := blk_cell HM7.out.tail.tail.tail.tail.tail.head 0
  have p0_1 : w7.cell? ⟨w.heap.size, 1, none⟩ = some (.slice A0 l0.length c0) := blk_cell HM7.out.tail.tail.tail.tail.tail.head 1
  have hlx : w4.heap.size < w7.heap.size := World.block_lt_of_cell? w7 _ bx0_0
  have hlp : w.heap.size < w7.heap.size := World.block_lt_of_cell? w7 _ p0_0
  go_region_held3 (fun w' => w'.cell? ⟨w4.heap.size, 0, none⟩ = some (I n0) ∧ w'.cell? ⟨w4.heap.size, 1, none⟩ = some (.slice Ax0 l0.length cx0) ∧ w'.cell? ⟨w.heap.size, 0, none⟩ = some (I n0) ∧ w'.cell? ⟨w.heap.size, 1, none⟩ = some (.slice A0 l0.length c0))
   (first | exact ⟨(HDb.out.cell (p := ⟨w4.heap.size, 0, none⟩) hlx).trans bx0_0, (HDb.out.cell (p := ⟨w4.heap.size, 1, none⟩) hlx).trans bx0_1, (HDb.out.cell (p := ⟨w.heap.size, 0, none⟩) hlp).trans p0_0, (HDb.out.cell (p := ⟨w.heap.size, 1, none⟩) hlp).trans p0_1⟩ | exact ⟨(HDa.out.cell (p := ⟨w4.heap.size, 0, none⟩) hlx).trans bx0_0, (HDa.out.cell (p := ⟨w4.heap.size, 1, none⟩) hlx).trans bx0_1, (HDa.out.cell (p := ⟨w.heap.size, 0, none⟩) hlp).trans p0_0, (HDa.out.cell (p := ⟨w.heap.size, 1, none⟩) hlp).trans p0_1⟩ | go_keep)
   (first
    | (go_at_call 20; refine (toC_calls n0 A0 c0 l0 _ (Kd.C_below HR0.out (Below.trans HG7.out ((Below.refl _ w7).drew))) HC0.out (by omega)).mono ?_; rintro e w8 ⟨Aq0, cq0, rfl, hRa, hGa⟩; have HDa : Aside0 (Grew w7 w8) := ⟨Below.trans ((Below.refl _ w7).drew) hGa⟩; have HRa := Aside0.mk hRa; clear hRa hGa)
    | (go_at_call 23; refine (eqC_calls n0 l0 Ax0 Aq0 cx0 cq0 _ _ _ _ _ _ w8 (HM7.out.grew HDa.out).tail.tail.head HRa.out).mono ?_; rintro e w9 ⟨rfl, hGb⟩; have HDb : Aside0 (Grew w7 w9) := ⟨Grew.trans HDa.out hGb⟩; clear hGb))
  clear bx0_0 bx0_1 p0_0 p0_1
  have hG9 := HDb.out
  clear hlx hlp HDa HDb HRa
  have HM9 := Aside0.mk (HM7.out.grew hG9)
  have HG9 := Aside0.mk (Grew.trans HG7.out hG9)
  have hs9 := hG9.size
  clear hG9
  have bx0_0 : w9.cell? ⟨w4.heap.size, 0, none⟩ = some (I n0) := blk_cell HM9.out.tail.head 0
  have bx0_1 : w9.cell? ⟨w4.heap.size, 1, none⟩ = some (.slice Ax0 l0.length cx0) := blk_cell HM9.out.tail.head 1
  go_wp2_with fail
  clear bx0_0 bx0_1
  refine (markC_calls n0 Ax0 l0.length cx0 l0 1 (by omega) (by omega) _ _ w w9 HG9.out (by omega) HM9.out.tail.tail.head).mono ?_
  rintro e w10 ⟨rfl, hX10, hB10, hK10⟩
  have HM10 : Aside0 (Mem w10 [.prow W5.heap.size w6.heap.size (.slice Ag0 r0.length cg0) r0, .box w4.heap.size 30 #[I n0, .slice Ax0 l0.length cx0], .prow w2.heap.size w3.heap.size (.slice Aw0 r0.length cw0) r0, .row w1.heap.size w2.heap.size (.slice AS0 l0.length cS0) l0, .box w.heap.size 24 #[I n0, .slice A0 l0.length c0]]) := ⟨Mem.kept (Mem.cons (it := .prow W5.heap.size w6.heap.size (.slice Ag0 r0.length cg0) r0) HM9.out.head (Mem.cons (it := .box w4.heap.size 30 #[I n0, .slice Ax0 l0.length cx0]) HM9.out.tail.head (Mem.cons (it := .prow w2.heap.size w3.heap.size (.slice Aw0 r0.length cw0) r0) HM9.out.tail.tail.tail.head (Mem.cons (it := .row w1.heap.size w2.heap.size (.slice AS0 l0.length cS0) l0) HM9.out.tail.tail.tail.tail.head (Mem.cons (it := .box w.heap.size 24 #[I n0, .slice A0 l0.length c0]) HM9.out.tail.tail.tail.tail.tail.head (Mem.nil _)))))) hK10 (by intro it hit k hk; simp only [List.mem_cons, List.not_mem_nil, or_false] at hit; rcases hit with rfl | rfl | rfl | rfl | rfl <;> (simp only [Item.at_] at hk; omega))⟩
  have HG10 := Aside0.mk hB10
  have hs10 := hK10.1
  clear hX10 hB10 hK10
  have hneg : ¬ ((1 + (l0.length : Int)) < 0) := by omega
  go_wp2_with fail
  refine (eqP_calls r0 Ag0 Aw0 cg0 cw0 _ _ _ _ _ _ w10 HM10.out.head HM10.out.tail.tail.head).mono ?_
  rintro e w11 ⟨rfl, hG11⟩
  have HM11 := Aside0.mk (HM10.out.grew hG11)
  have HG11 := Aside0.mk (Grew.trans HG10.out hG11)
  have hs11 := hG11.size
  clear hG11
  clear hneg
  go_wp2_with fail
  refine (markP_calls Ag0 r0.length cg0 r0 1 (by omega) (by omega) _ _ w w11 HG11.out (by omega) HM11.out.head).mono ?_
  rintro e w12 ⟨rfl, hX12, hB12, hK12⟩
  have HM12 : Aside0 (Mem w12 [.prow W5.heap.size w6.heap.size (.slice Ag0 r0.length cg0) (pmarks 1 r0.length), .box w4.heap.size 30 #[I n0, .slice Ax0 l0.length cx0], .prow w2.heap.size w3.heap.size (.slice Aw0 r0.length cw0) r0, .row w1.heap.size w2.heap.size (.slice AS0 l0.length cS0) l0, .box w.heap.size 24 #[I n0, .slice A0 l0.length c0]]) := ⟨Mem.cons (it := .prow W5.heap.size w6.heap.size (.slice Ag0 r0.length cg0) (pmarks 1 r0.length)) hX12 (Mem.kept (Mem.cons (it := .box w4.heap.size 30 #[I n0, .slice Ax0 l0.length cx0]) HM11.out.tail.head (Mem.cons (it := .prow w2.heap.size w3.heap.size (.slice Aw0 r0.length cw0) r0) HM11.out.tail.tail.head (Mem.cons (it := .row w1.heap.size w2.heap.size (.slice AS0 l0.length cS0) l0) HM11.out.tail.tail.tail.head (Mem.cons (it := .box w.heap.size 24 #[I n0, .slice A0 l0.length c0]) HM11.out.tail.tail.tail.tail.head (Mem.nil _))))) hK12 (by intro it hit k hk; simp only [List.mem_cons, List.not_mem_nil, or_false] at hit; rcases hit with rfl | rfl | rfl | rfl <;> (simp only [Item.at_] at hk; omega)))⟩
  have HG12 := Aside0.mk hB12
  have hs12 := hK12.1
  clear hX12 hB12 hK12
  have hneg0 : ¬ ((1 + 2 * (r0.length : Int)) < 0) := by omega
  go_wp2_with fail
  refine (heldP_calls Ag0 r0.length r0.length cg0 _ _ 1 (by omega) (by omega) w12 HM12.out.head).mono ?_
  rintro e w13 ⟨rfl, hG13⟩
  have HM13 := Aside0.mk (HM12.out.grew hG13)
  have HG13 := Aside0.mk (Grew.trans HG12.out hG13)
  have hs13 := hG13.size
  clear hG13
  have p0_0 : w13.cell? ⟨w.heap.size, 0, none⟩ = some (I n0) := blk_cell HM13.out.tail.tail.tail.tail.head 0
  have p0_1 : w13.cell? ⟨w.heap.size, 1, none⟩ = some (.slice A0 l0.length c0) := blk_cell HM13.out.tail.tail.tail.tail.head 1
  go_wp2_with fail
  clear p0_0 p0_1
  refine (toC_calls n0 A0 c0 l0 w13 (Kd.C_below HR0.out HG13.out) HC0.out (by omega)).mono ?_
  rintro e w14 ⟨Az0, cz0, rfl, hR14, hG14⟩
  have HM14 : Aside0 (Mem w14 [.row w13.heap.size w14.heap.size (.slice Az0 l0.length cz0) l0, .prow W5.heap.size w6.heap.size (.slice Ag0 r0.length cg0) (pmarks 1 r0.length), .box w4.heap.size 30 #[I n0, .slice Ax0 l0.length cx0], .prow w2.heap.size w3.heap.size (.slice Aw0 r0.length cw0) r0, .row w1.heap.size w2.heap.size (.slice AS0 l0.length cS0) l0, .box w.heap.size 24 #[I n0, .slice A0 l0.length c0]]) := ⟨Mem.cons (it := .row w13.heap.size w14.heap.size (.slice Az0 l0.length cz0) l0) (hR14) (HM13.out.grew hG14)⟩
  have HG14 := Aside0.mk (Grew.trans HG13.out hG14)
  have hs14 := hG14.size
  clear hG14 
  go_wp2_with fail
  refine (HI.out w14 Az0 cz0 (Row.slice HM14.out.head).2.2 (Row.slice HM14.out.head).2.1).mono ?_
  rintro e w15 ⟨vh0, rfl, hRh0, hG15⟩
  obtain ⟨Ah0, ch0, rfl⟩ := Kd.R_slice hRh0
  have HM15 : Aside0 (Mem w15 [.prow w14.heap.size w15.heap.size (.slice Ah0 r0.length ch0) r0, .row w13.heap.size w14.heap.size (.slice Az0 l0.length cz0) l0, .prow W5.heap.size w6.heap.size (.slice Ag0 r0.length cg0) (pmarks 1 r0.length), .box w4.heap.size 30 #[I n0, .slice Ax0 l0.length cx0], .prow w2.heap.size w3.heap.size (.slice Aw0 r0.length cw0) r0, .row w1.heap.size w2.heap.size (.slice AS0 l0.length cS0) l0, .box w.heap.size 24 #[I n0, .slice A0 l0.length c0]]) := ⟨Mem.cons (it := .prow w14.heap.size w15.heap.size (.slice Ah0 r0.length ch0) r0) (PRow.of_R hRh0) (HM14.out.grew hG15)⟩
  have HG15 := Aside0.mk (Grew.trans HG14.out hG15)
  have hs15 := hG15.size
  clear hG15 
  go_wp2_with fail
  refine (eqP_calls r0 Ah0 Aw0 ch0 cw0 _ _ _ _ _ _ w15 HM15.out.head HM15.out.tail.tail.tail.tail.head).mono ?_
  rintro e w16 ⟨rfl, hG16⟩
  have HM16 := Aside0.mk (HM15.out.grew hG16)
  have HG16 := Aside0.mk (Grew.trans HG15.out hG16)
  have hs16 := hG16.size
  clear hG16
  clear hneg0
  have hneg0 : ¬ ((1 + 2 * (r0.length : Int)) < 0) := by omega
  go_wp2_with fail
  refine (heldP_calls Ag0 r0.length r0.length cg0 _ _ 1 (by omega) (by omega) w16 HM16.out.tail.tail.head).mono ?_
  rintro e w17 ⟨rfl, hG17⟩
  have HM17 := Aside0.mk (HM16.out.grew hG17)
  have HG17 := Aside0.mk (Grew.trans HG16.out hG17)
  have hs17 := hG17.size
  clear hG17
  go_wp2_with fail
  go_ret
  exact ⟨rfl, HG17.out⟩

theorem LGreedyPairing_calls (n0 : Int) (A0 : Option Addr) (c0 : Nat) (l0 : List Int) (w : World) (hr0 : Ki.C w A0 l0.length l0) (hc0 : l0.length ≤ c0) :
  Calls Try.prog 10 #[.agg #[I n0, .slice A0 l0.length c0]] w fun e w' => e = .returned (.bool true) ∧ Grew w w' := by
 by_cases hl0 : (1048576 : Int) < (l0.length : Int)
 ·exact LGreedyPairing_b0 n0 A0 c0 l0 w hr0 hc0   hl0
 exact LGreedyPairing_main n0 A0 c0 l0 w hr0 hc0  hl0

end Go.Proofs.Ytniikppojffiaaa.K
end

section

namespace Go.Proofs.Ytniikppojffiaaa.fnExactGreedyPairing
open Go.ChangeShapes Go.WideShapes Go.ChangeAt Go.RowKit Go.Joins Go.Proofs.Ytniikppojffiaaa.K Go.Proofs.YtniikppojffiaaaW.PrintWords
open Go.ChangeMaps (open_string shut_string)
set_option linter.unusedVariables false
set_option maxRecDepth 100000 in
theorem lifted (os : Os) (started : os.Started) (H : Type) (enc : TypeId × Value → H) :
  ReturnsInHanded {} Try.checked os 10 .any (Rows.fnExactGreedyPairingSpec.pre6 enc Try.prog Try.f10 Rows.fnExactGreedyPairingRow.domain false) (Rows.fnExactGreedyPairingSpec.post enc Try.prog Try.f10 false true false false) := by
 refine returnsInHanded_of_change_sized (C := Try.checked) ownKnob_none started (by kernel_rfl) Try.func10
  (ChangeSpec.witness6 (enc := enc) (C := Try.checked) false ⟨#[], #[.agg #[.int .i64 0, .slice none 0 0]], []⟩ 8 (by kernel_rfl) (by kernel_rfl) (by kernel_rfl) (by kernel_rfl)) ?_
 intro W base args ds gs before hval0 hW hcnd hsz0 _
 have hsz : (DataW.weightsEach Try.prog (Try.f10.params.toList ++ Rows.fnExactGreedyPairingSpec.plain.varTypes Try.prog) (ds ++ gs)).all (· ≤ reachBytes) = true := hsz0
 have hval : ∀ (j : Nat) t v, Try.f10.params[j]? = some t → args[j]? = some v → Value.okWide Try.prog W .any base t v := hval0
 have hW' := hW
 obtain ⟨p, q, hA0, hV, rfl, hfz, hnd⟩ := hW
 have hA : DataW.TrodAll enc Try.prog W 0 (fun _ => true) true Try.f10.params.toList args.toList ds p := hA0
 rw [Try.params10] at hA hval hsz
 obtain ⟨v0, vs0, d0, ds0, p0, q0, hargs, rfl, rfl, h0, r0⟩ := trodAll_cons hA
 obtain ⟨rfl, rfl, rfl⟩ := trodAll_nil r0
 obtain rfl : args = #[v0] := by cases args; simp_all
 obtain ⟨rfl, rfl⟩ := trodVars_none hV
 have k0 := h0
 have lt0 : ∀ x ∈ p0, x.block < W.heap.size := by obtain ⟨m, hm⟩ := k0; exact DataW.trod_lt m _ _ _ hm
 obtain ⟨x0, z0, y0_0, y1_0, m0, hv0, hd0, hp0, hy0_0, hy1_0⟩ := open_agg2 Try.underlying24 (by kernel_rfl) (show Try.prog.cellsOf 24 = 2 by kernel_rfl) (hval 0 24 v0 rfl rfl) h0
 obtain ⟨n0, e0_0, _, w0⟩ := DataW.trod_int Try.underlying2 hy0_0
 obtain ⟨A0, c0, l0, e1_0, hc0, hr0, _⟩ := ints_open hy1_0
 simp only [List.cons.injEq, and_true] at e0_0
 subst e0_0 e1_0
 subst hv0
 clear hA0 hval0 hsz0 hsz
 refine (K.LGreedyPairing_calls n0 A0 c0 l0 W hr0 hc0).mono fun e W' ⟨he, bel0⟩ => ?_
 have bel : Below W.heap.size W W' := bel0
 subst he
 exact ⟨_, rfl, _, _, _, [], _, [], hW', trodAll_mk1 (shut_bool Try.underlying4 _), (trodAll_cons_mk (Below.trod laidOut (by kernel_rfl) (of_decide_eq_true (by kernel_rfl)) k0 bel lt0) trodAll_mk0), rfl, bel.frame _, fun h => by cases h⟩
set_option maxRecDepth 100000 in
theorem starts : ∃ r, behindMainWord (wordsSigns Try.prog.initOrder.toList) = "cut".toList :: r := by
 have h : Try.prog.initOrder = String.ofList _ := rfl
 rw [h, String.toList_ofList, signs_take 7 _ rfl rfl, signs_take 64 _ rfl rfl, signs_take 3 _ rfl rfl]
 generalize wordsSigns _ = r
 exact ⟨r, by kernel_rfl⟩
set_option maxRecDepth 100000 in
theorem closed : joinedFacts Try.prog 10 Try.f10 Rows.fnExactGreedyPairingSpec Rows.fnExactGreedyPairingRow = true := by
 obtain ⟨r, h⟩ := starts
 unfold joinedFacts
 rw [cut_enter _ r h (by kernel_rfl) (by kernel_rfl) (by kernel_rfl), cut_make _ r h, cut_lifts _ r h]
 exact of_decide_eq_true (by kernel_rfl)
theorem over : Rows.fnExactGreedyPairingRow.holds Try.pinned (OpenSpec.ofChange Rows.fnExactGreedyPairingSpec) :=
 OpenClaim.holds_of_wide 10 Try.f10 rfl rfl rfl rfl rfl rfl rfl ⟨rfl, rfl, rfl, rfl, rfl⟩ rfl rfl rfl rfl rfl (by kernel_rfl) Try.func10 closed
  (of_decide_eq_true (by kernel_rfl)) (by unfold Func.isWrapper; first | (rw [if_pos (by decide +kernel)]; kernel_rfl) | (rw [if_neg (by decide +kernel)]; exact ⟨rfl, rfl⟩))
  (fun os started H enc _ => lifted os started H enc)
theorem proved : Rows.FnExactGreedyPairingSaid := over
#print axioms proved
end Go.Proofs.Ytniikppojffiaaa.fnExactGreedyPairing
namespace Go.Proofs.Ytniikppojffiaaa
theorem fnExactGreedyPairing_holds : Rows.FnExactGreedyPairingSaid := fnExactGreedyPairing.proved
end Go.Proofs.Ytniikppojffiaaa
end
