/- The row of the law FnExactCountGradientWays: for every input the law answers true, and the arguments read as before. No conditions. -/
import Derived.Test.YtniikppojffiaaaJCgw4
import Derived.Below
import Derived.Deep.Draws
import Derived.Deep.AppendLies
import Derived.Maps.AppendAt
import Derived.OwnWalk
import Derived.Laws.BytesArg
import Derived.Laws.MakeOwn
import Derived.Laws.OwnMore
import Derived.Deep.OwnRows
import Derived.Tactics
import Derived.Lib.ConvBytes
import Derived.Laws.Slices
import Derived.WalkKit
import Derived.KernelRfl
import Derived.RowKit3
import Derived.Deep.LoopGhost
import Derived.Deep.QuietTactic
import Derived.BigQuiet
import Derived.WideLaws
import Derived.Deep.DeepCutAuto
import Derived.Deep.CutBlock
import Derived.Deep.RegionHeld3
import Derived.Laws.Rows
import Derived.Lib.AppendStr
import Derived.ArgAppend
import Derived.Laws.IdiomCopy
import Derived.RowKit
import Derived.OrdersHeld
import Derived.Laws.BitsLemmas
import Derived.Laws.StructEq
import Derived.Test.YtniikppojffiaaaProg
import Derived.Shelf.Abstract
import Derived.Lib.SliceRun
import Derived.RangeFuncBox
import Derived.RangeFuncLeaves
import Derived.OwnWalkIn
import Derived.TacticsInMore
import Derived.LoopNIn
import Derived.LoopIn
import Derived.LoopN
import Derived.Maps.OwnSet
import Derived.ChangeKeysEq
import Derived.JoinedOf
import Derived.Test.YtniikppojffiaaaRows
import Derived.ProofKit
import Derived.OpenShut
import Derived.ShutString
import Derived.ChangeOld
import Derived.SizedLaws
import Derived.Lib.SmallJoins
import Derived.Deep.Slices
section
/- Written by a program of this session (myprint.py over the kit's print). -/
namespace Go.Proofs.Ytniikppojffiaaa.H
open Go.RowKit Go.Proofs.Ytniikppojffiaaa.Q Go.Proofs.Ytniikppojffiaaa.X Go.Proofs.YtniikppojffiaaaW.PrintWords Go.Proofs.YtniikppojffiaaaW.PrintLast Go.Proofs.YtniikppojffiaaaW.PrintMore
attribute [local go_sem] max2_int min2_int max_two min_two max_three min_three max_four min_four   -- for this text's walks alone
set_option linter.unusedVariables false
set_option linter.unusedSimpArgs false

/-! ### impl_CountGradientWays: function 41 -/
def impl_CountGradientWays.f (k : Nat) (a0_0 : Int) (l0_1 : List Int) (l1 : List (S53)) (a2 : Int) (a3 : Int) : Option (Int × Int) := (impl_Complex_has.f k a0_0 l0_1 a2).bind fun t107 => (if t107 = true then ((impl_Complex_has.f k a0_0 l0_1 a3).bind fun t108 => ((impl_acyclicCode.f a0_0 l0_1 l1 t108).bind fun t109 => (if t109 = 0 then ((impl_countWays.f k l1 a2 a3).bind fun t110 => (some (t110, 0))) else (some (0, t109))))) else ((impl_acyclicCode.f a0_0 l0_1 l1 false).bind fun t111 => (if t111 = 0 then ((impl_countWays.f k l1 a2 a3).bind fun t112 => (some (t112, 0))) else (some (0, t111)))))
theorem impl_CountGradientWays.mono : ∀ a0 a1 a2 a3 a4 k, LeO (impl_CountGradientWays.f k a0 a1 a2 a3 a4) (impl_CountGradientWays.f (k + 1) a0 a1 a2 a3 a4) := by
 intro a0 a1 a2 a3 a4 k
 unfold impl_CountGradientWays.f
 repeat' first
   | (with_reducible exact impl_Complex_has.mono _ _ _ _)
   | (with_reducible exact impl_countWays.mono _ _ _ _)
   | (with_reducible exact LeO.refl _)
   | (with_reducible exact LeO.none _)
   | (with_reducible refine LeO.ite ?_ ?_)
   | (with_reducible refine LeO.bind ?_ (fun _ => ?_))
   | exact impl_Complex_has.mono _ _ _ _
   | exact impl_countWays.mono _ _ _ _
   | exact LeO.none _
   | refine LeO.ite ?_ ?_
   | refine LeO.bind ?_ (fun _ => ?_)
def impl_CountGradientWays.T1 : Bool × List (List Nat × List Nat) := (true, [([], []), ([], []), ([], []), ([], []), ([2, 3], [2, 3]), ([4, 4], [4]), ([5], [5]), ([5], [5]), ([6, 7, 5, 5], [5, 6, 7]), ([5, 8], [5, 8]), ([0, 1, 9, 8], [0, 1, 9]), ([10, 10, 0, 1, 2, 3, 4, 5, 6, 7, 8, 9, 10], [10])])
def impl_CountGradientWays.B1 : List Nat := [0, 0, 0, 0, 12, 28, 60, 60, 252, 508, 1023, 2047]
theorem impl_CountGradientWays.tab1 : rtab .any (opsOf Try.f41 1) = impl_CountGradientWays.T1 := by kernel_rfl
theorem impl_CountGradientWays.bits1 : waitsOk impl_CountGradientWays.T1.2 impl_CountGradientWays.B1 = true := by kernel_rfl
set_option maxHeartbeats 8000000 in
set_option maxRecDepth 100000 in
theorem impl_CountGradientWays.calls (k : Nat) (a0_0 : Int) (A0_1 : Option Addr) (c0_1 : Nat) (l0_1 : List Int) (A1 : Option Addr) (c1 : Nat) (l1 : List (S53)) (a2 : Int) (a3 : Int) (r1 : Int) (r2 : Int) (w : World) (hr0_1 : Kd.C (Kd.int .i64) w A0_1 l0_1.length l0_1) (hc0_1 : l0_1.length ≤ c0_1) (hr1 : Kd.C k53 w A1 l1.length l1) (hc1 : l1.length ≤ c1) (h : impl_CountGradientWays.f k a0_0 l0_1 l1 a2 a3 = some (r1, r2)) :
  Calls Try.prog 41 #[.agg #[.int .i64 a0_0, .slice A0_1 l0_1.length c0_1], .slice A1 l1.length c1, .int .i64 a2, .int .i64 a3] w fun e w' => e = .returned (.tuple #[.int .i64 r1, .int .i64 r2]) ∧ Below w.heap.size w w' := by
 have hu30 := Try.underlying30
 have HR0_1 := Aside0.mk hr0_1
 have HC0_1 := Aside0.mk hc0_1
 clear hr0_1 hc0_1
 have HR1 := Aside0.mk hr1
 have HC1 := Aside0.mk hc1
 clear hr1 hc1
 have HB := Aside0.mk (Below.refl w.heap.size w)
 have H : ((impl_Complex_has.f k a0_0 l0_1 a2).bind fun t107 => (if t107 = true then ((impl_Complex_has.f k a0_0 l0_1 a3).bind fun t108 => ((impl_acyclicCode.f a0_0 l0_1 l1 t108).bind fun t109 => (if t109 = 0 then ((impl_countWays.f k l1 a2 a3).bind fun t110 => (some (t110, 0))) else (some (0, t109))))) else ((impl_acyclicCode.f a0_0 l0_1 l1 false).bind fun t111 => (if t111 = 0 then ((impl_countWays.f k l1 a2 a3).bind fun t112 => (some (t112, 0))) else (some (0, t111)))))) = some (r1, r2) := h
 clear h
 replace H := Option.bind_eq_some_iff.mp H
 obtain ⟨t107, A50, H⟩ := H
 replace H : (if t107 = true then ((impl_Complex_has.f k a0_0 l0_1 a3).bind fun t108 => ((impl_acyclicCode.f a0_0 l0_1 l1 t108).bind fun t109 => (if t109 = 0 then ((impl_countWays.f k l1 a2 a3).bind fun t110 => (some (t110, 0))) else (some (0, t109))))) else ((impl_acyclicCode.f a0_0 l0_1 l1 false).bind fun t111 => (if t111 = 0 then ((impl_countWays.f k l1 a2 a3).bind fun t112 => (some (t112, 0))) else (some (0, t111))))) = some (r1, r2) := H
 have A5 := Aside0.mk A50
 clear A50
 by_cases c6 : t107 = true
 ·subst c6
  have H1 : ((impl_Complex_has.f k a0_0 l0_1 a3).bind fun t108 => ((impl_acyclicCode.f a0_0 l0_1 l1 t108).bind fun t109 => (if t109 = 0 then ((impl_countWays.f k l1 a2 a3).bind fun t110 => (some (t110, 0))) else (some (0, t109))))) = some (r1, r2) := by rw [if_pos rfl] at H; exact H
  clear H
  have H := H1
  clear H1
  replace H := Option.bind_eq_some_iff.mp H
  obtain ⟨t108, A70, H⟩ := H
  replace H : ((impl_acyclicCode.f a0_0 l0_1 l1 t108).bind fun t109 => (if t109 = 0 then ((impl_countWays.f k l1 a2 a3).bind fun t110 => (some (t110, 0))) else (some (0, t109)))) = some (r1, r2) := H
  have A7 := Aside0.mk A70
  clear A70
  replace H := Option.bind_eq_some_iff.mp H
  obtain ⟨t109, A80, H⟩ := H
  replace H : (if t109 = 0 then ((impl_countWays.f k l1 a2 a3).bind fun t110 => (some (t110, 0))) else (some (0, t109))) = some (r1, r2) := H
  have A8 := Aside0.mk A80
  clear A80
  by_cases c9 : t109 = 0
  ·rw [if_pos c9] at H
   have c9b0 : (t109 == 0) = true := beq_iff_eq.mpr c9
   have c9b1 : (t109 != 0) = false := bne_eq_false_iff_eq.mpr c9
   clear c9
   replace H := Option.bind_eq_some_iff.mp H
   obtain ⟨t110, A100, H⟩ := H
   replace H : (some (t110, 0)) = some (r1, r2) := H
   have A10 := Aside0.mk A100
   clear A100
   simp only [Option.some.injEq, Prod.mk.injEq] at H
   obtain ⟨rfl, rfl⟩ := H
   go_enter Try.func41, Try.ntmps41
   try go_wp2_with (first | ((with_reducible refine gate_dst (N := 4) rfl ?_); refine box_event ?hg (N := 4) ?hd (cs := #[.int .i64 a0_0, .slice A0_1 l0_1.length c0_1]) (t := 30) ?hr ?_; (case hd => rfl); (case hg => rfl); (case hr => first | (go_simp; done) | (go_simp; rfl)); intro gb106 hg w11 hbox hb; have n0_ := Aside0.mk (below_step (by repeat (first | (with_reducible first | exact HB.out | apply below_alloc | apply pw_below_drewN | apply below_drew1) | exact HB.out)) hb); have n1_ := Aside0.mk (hbox); have n2_ := Aside0.mk ((by rw [hg]; exact (below_size (by repeat (first | (with_reducible first | exact HB.out | apply below_alloc | apply pw_below_drewN | apply below_drew1) | exact HB.out))) : w.heap.size ≤ gb106)); have n3_ := Aside0.mk ((by rw [hg]; exact (below_size (by repeat (first | (with_reducible first | exact HB.out | apply below_alloc | apply pw_below_drewN | apply below_drew1) | exact HB.out))) : w.heap.size ≤ gb106)); clear HB; have HB := n0_; have BK106 := n1_; have GW106 := n2_; have GE106 := n3_; clear n0_ n1_ n2_ n3_; clear hb hbox hg))
   have n0_ := Aside0.mk (blk_drew BK106.out)
   have n1_ := Aside0.mk (below_drew1 HB.out)
   clear BK106
   clear HB
   have BK106 := n0_
   have HB := n1_
   clear n0_ n1_
   refine start_ (n := 12) (S := fun w' => w'.cell? ⟨gb106, 0, none⟩ = some (.int .i64 a0_0) ∧ w'.cell? ⟨gb106, 1, none⟩ = some (.slice A0_1 l0_1.length c0_1)) (ds := []) (ar 0 12) (by kernel_rfl) rfl rfl ⟨(blk_cell BK106.out 0).trans rfl, (blk_cell BK106.out 1).trans rfl⟩ (fun hHeld => ?_); refine with_tabW impl_CountGradientWays.tab1 impl_CountGradientWays.bits1 (fun HT_ HW_ => ?_)
   generalize w11.drew = w12 at BK106 HB hHeld ⊢
   refine pure_ (i := 1) (N := some 12) (v := ?_) (a' := ?_) #[O,U,O,O,O,O,O,O,O,O,O,O] rfl rfl (any_of HT_.out (by kernel_rfl)) (fun _ _ _ h => h) (Or.inl ⟨by rfl, ?_⟩) ?_ ?_; rotate_left; (intro w'; go_simp; with_reducible rfl); rotate_left; · simp only [nm_]; rfl
   refine pure_ (i := 3) (N := some 14) (v := ?_) (a' := ?_) #[O,U,O,U,O,O,O,O,O,O,O,O] rfl rfl (any_of HT_.out (by kernel_rfl)) (fun _ _ _ h => h) (Or.inl ⟨by rfl, ?_⟩) ?_ ?_; rotate_left; (intro w'; go_simp; with_reducible rfl); rotate_left; · simp only [nm_]; rfl
   refine take_ (i := 0) (N := some 11) (v := ?_) (a' := ?_) #[U,U,O,U,O,O,O,O,O,O,O,O] rfl rfl (take_ofW HT_.out HW_.out (by kernel_rfl)) (fun _ _ _ h => h) (Or.inl ⟨by rfl, ?_⟩) hHeld ?_ ?_
   rotate_left; · rintro w' ⟨s0, s1⟩; go_simp; with_reducible rfl
   rotate_left; · simp only [nm_]; rfl
   refine take_ (i := 2) (N := some 13) (v := ?_) (a' := ?_) (ar 4 8) rfl rfl (take_ofW HT_.out HW_.out (by kernel_rfl)) (fun _ _ _ h => h) (Or.inl ⟨by rfl, ?_⟩) hHeld ?_ ?_
   rotate_left; · rintro w' ⟨s0, s1⟩; go_simp; with_reducible rfl
   rotate_left; · simp only [nm_]; rfl
   refine one_ (i := 4) (N := some 15) (ar 5 7) rfl rfl (one_of HT_.out (by kernel_rfl)) (by decide) (fun K hK => ?_)
   refine goes_ Try.func76 (by kernel_rfl) rfl #[.agg #[.int .i64 a0_0, .slice A0_1 l0_1.length c0_1], .int .i64 a2] (by rfl) rfl rfl (by (try simp only [List.map_toArray, List.map_cons, List.map_nil]); first | done | rfl | (simp only [List.length_drop, List.length_take]; rfl)) ?_
   with_reducible refine (impl_Complex_has.calls k a0_0 _ _ l0_1 a2 true _ ?side1 ?side2 A5.out).mono ?_
   (case side1 => repeat (first | exact (Kd.C_below HR0_1.out HB.out) | (with_reducible refine Kd.C_alloc ?_ _) | (with_reducible refine Kd.C_drewN ?_ _) | (with_reducible refine Kd.C_drew ?_)))
   (case side2 => exact HC0_1.out)
   rintro e w13 ⟨rfl, hb⟩
   refine ⟨_, rfl, ?_⟩
   have n0_ := Aside0.mk (blk_below (g := gb106) (o := .cells #[.int .i64 a0_0, .slice A0_1 l0_1.length c0_1] 30 (0, 0)) (by (with_reducible repeat (first | refine blk_drewN ?_ _ | refine blk_drew ?_ | refine blk_alloc ?_ _)); exact BK106.out) hb)
   have n1_ := Aside0.mk (below_step (by repeat (first | (with_reducible first | exact HB.out | apply below_alloc | apply pw_below_drewN | apply below_drew1 | refine below_set ?_ GE106.out) | exact HB.out)) hb)
   clear BK106
   clear HB
   have BK106 := n0_
   have HB := n1_
   clear n0_ n1_
   (try clear hb)
   (try clear hb2)
   (try clear hk)
   (try clear hi)
   refine hK.out _ _ ⟨(blk_cell BK106.out 0).trans rfl, (blk_cell BK106.out 1).trans rfl⟩ (fun hHeld => ?_)
   clear hK K
   refine norm_ (a' := ?_) ?_ ?_
   rotate_left
   ·show Act.put _ (some 15) _ = _
    simp only [nm_]
    rfl
   refine pure_ (i := 5) (N := some 16) (v := ?_) (a' := ?_) (ar 6 6) rfl rfl (any_of HT_.out (by kernel_rfl)) (fun _ _ _ h => h) (Or.inl ⟨by rfl, ?_⟩) ?_ ?_; rotate_left; (intro w'; go_simp; with_reducible rfl); rotate_left; · simp only [nm_]; rfl
   refine pure_ (i := 7) (N := some 18) (v := ?_) (a' := ?_) #[U,U,U,U,U,U,O,U,O,O,O,O] rfl rfl (any_of HT_.out (by kernel_rfl)) (fun _ _ _ h => h) (Or.inl ⟨by rfl, ?_⟩) ?_ ?_; rotate_left; (intro w'; go_simp; with_reducible rfl); rotate_left; · simp only [nm_]; rfl
   refine take_ (i := 6) (N := some 17) (v := ?_) (a' := ?_) (ar 8 4) rfl rfl (take_ofW HT_.out HW_.out (by kernel_rfl)) (fun _ _ _ h => h) (Or.inl ⟨by rfl, ?_⟩) hHeld ?_ ?_
   rotate_left; · rintro w' ⟨s0, s1⟩; go_simp; with_reducible rfl
   rotate_left; · simp only [nm_]; rfl
   refine one_ (i := 8) (N := some 19) (ar 9 3) rfl rfl (one_of HT_.out (by kernel_rfl)) (by decide) (fun K hK => ?_)
   refine goes_ Try.func76 (by kernel_rfl) rfl #[.agg #[.int .i64 a0_0, .slice A0_1 l0_1.length c0_1], .int .i64 a3] (by rfl) rfl rfl (by (try simp only [List.map_toArray, List.map_cons, List.map_nil]); first | done | rfl | (simp only [List.length_drop, List.length_take]; rfl)) ?_
   with_reducible refine (impl_Complex_has.calls k a0_0 _ _ l0_1 a3 t108 _ ?side1 ?side2 A7.out).mono ?_
   (case side1 => repeat (first | exact (Kd.C_below HR0_1.out HB.out) | (with_reducible refine Kd.C_alloc ?_ _) | (with_reducible refine Kd.C_drewN ?_ _) | (with_reducible refine Kd.C_drew ?_)))
   (case side2 => exact HC0_1.out)
   rintro e w14 ⟨rfl, hb⟩
   refine ⟨_, rfl, ?_⟩
   have n0_ := Aside0.mk (blk_below (g := gb106) (o := .cells #[.int .i64 a0_0, .slice A0_1 l0_1.length c0_1] 30 (0, 0)) (by (with_reducible repeat (first | refine blk_drewN ?_ _ | refine blk_drew ?_ | refine blk_alloc ?_ _)); exact BK106.out) hb)
   have n1_ := Aside0.mk (below_step (by repeat (first | (with_reducible first | exact HB.out | apply below_alloc | apply pw_below_drewN | apply below_drew1 | refine below_set ?_ GE106.out) | exact HB.out)) hb)
   clear BK106
   clear HB
   have BK106 := n0_
   have HB := n1_
   clear n0_ n1_
   (try clear hb)
   (try clear hb2)
   (try clear hk)
   (try clear hi)
   refine hK.out _ _ ⟨(blk_cell BK106.out 0).trans rfl, (blk_cell BK106.out 1).trans rfl⟩ (fun hHeld => ?_)
   clear hK K
   refine norm_ (a' := ?_) ?_ ?_
   rotate_left
   ·show Act.put _ (some 19) _ = _
    simp only [nm_]
    rfl
   refine pure_ (i := 9) (N := some 20) (v := ?_) (a' := ?_) (ar 10 2) rfl rfl (any_of HT_.out (by kernel_rfl)) (fun _ _ _ h => h) (Or.inl ⟨by rfl, ?_⟩) ?_ ?_; rotate_left; (intro w'; go_simp; with_reducible rfl); rotate_left; · simp only [nm_]; rfl
   refine one_ (i := 10) (N := some 21) (ar 11 1) rfl rfl (one_of HT_.out (by kernel_rfl)) (by decide) (fun K hK => ?_)
   refine goes_ Try.func81 (by kernel_rfl) rfl #[.agg #[.int .i64 a0_0, .slice A0_1 l0_1.length c0_1], .slice A1 l1.length c1, .bool t108] (by rfl) rfl rfl (by (try simp only [List.map_toArray, List.map_cons, List.map_nil]); first | done | rfl | (simp only [List.length_drop, List.length_take]; rfl)) ?_
   with_reducible refine (impl_acyclicCode.calls a0_0 _ _ l0_1 _ _ l1 t108 t109 _ ?side1 ?side2 ?side3 ?side4 A8.out).mono ?_
   (case side1 => repeat (first | exact (Kd.C_below HR0_1.out HB.out) | (with_reducible refine Kd.C_alloc ?_ _) | (with_reducible refine Kd.C_drewN ?_ _) | (with_reducible refine Kd.C_drew ?_)))
   (case side2 => exact HC0_1.out)
   (case side3 => repeat (first | exact (Kd.C_below HR1.out HB.out) | (with_reducible refine Kd.C_alloc ?_ _) | (with_reducible refine Kd.C_drewN ?_ _) | (with_reducible refine Kd.C_drew ?_)))
   (case side4 => exact HC1.out)
   rintro e w15 ⟨rfl, hb⟩
   refine ⟨_, rfl, ?_⟩
   have n0_ := Aside0.mk (blk_below (g := gb106) (o := .cells #[.int .i64 a0_0, .slice A0_1 l0_1.length c0_1] 30 (0, 0)) (by (with_reducible repeat (first | refine blk_drewN ?_ _ | refine blk_drew ?_ | refine blk_alloc ?_ _)); exact BK106.out) hb)
   have n1_ := Aside0.mk (below_step (by repeat (first | (with_reducible first | exact HB.out | apply below_alloc | apply pw_below_drewN | apply below_drew1 | refine below_set ?_ GE106.out) | exact HB.out)) hb)
   clear BK106
   clear HB
   have BK106 := n0_
   have HB := n1_
   clear n0_ n1_
   (try clear hb)
   (try clear hb2)
   (try clear hk)
   (try clear hi)
   refine hK.out _ _ ⟨(blk_cell BK106.out 0).trans rfl, (blk_cell BK106.out 1).trans rfl⟩ (fun hHeld => ?_)
   clear hK K
   refine norm_ (a' := ?_) ?_ ?_
   rotate_left
   ·show Act.put _ (some 21) _ = _
    simp only [nm_]
    rfl
   refine pure_ (i := 11) (N := some 10) (v := ?_) (a' := ?_) (ar 12 0) rfl rfl (any_of HT_.out (by kernel_rfl)) (fun _ _ _ h => h) (Or.inl ⟨by rfl, ?_⟩) ?_ ?_; rotate_left; (intro w'; go_simp; with_reducible rfl); rotate_left; · simp only [nm_]; rfl
   refine done_ (done_of HT_.out (by kernel_rfl)) ?_
   try go_wp2_with (first | ((with_reducible refine gate_callee (f := 82) rfl ?_); refine goesL_ (some 28) rfl rfl Try.func82 (by kernel_rfl) rfl #[.slice A1 l1.length c1, .int .i64 a2, .int .i64 a3] rfl (by (try simp only [List.map_toArray, List.map_cons, List.map_nil]); first | done | rfl | (simp only [List.length_drop, List.length_take]; rfl)) ?_; (with_reducible refine (impl_countWays.calls k _ _ l1 a2 a3 t110 _ ?side1 ?side2 A10.out).mono ?_); (case side1 => repeat (first | exact (Kd.C_below HR1.out HB.out) | (with_reducible refine Kd.C_alloc ?_ _) | (with_reducible refine Kd.C_drewN ?_ _) | (with_reducible refine Kd.C_drew ?_))); (case side2 => exact HC1.out); rintro e w16 ⟨rfl, hb⟩; refine ⟨_, rfl, ?_⟩; have n0_ := Aside0.mk (blk_below (g := gb106) (o := .cells #[.int .i64 a0_0, .slice A0_1 l0_1.length c0_1] 30 (0, 0)) (by (with_reducible repeat (first | refine blk_drewN ?_ _ | refine blk_drew ?_ | refine blk_alloc ?_ _)); exact BK106.out) hb); have n1_ := Aside0.mk (below_step (by repeat (first | (with_reducible first | exact HB.out | apply below_alloc | apply pw_below_drewN | apply below_drew1 | refine below_set ?_ GE106.out) | exact HB.out)) hb); clear BK106; clear HB; have BK106 := n0_; have HB := n1_; clear n0_ n1_; (try clear hb); (try clear hb2); (try clear hk); (try clear hi)))
   go_ret2
   exact ⟨by first | rfl | (simp [errW_none, errW_some] <;> rfl) | (simp [*, errW_none, errW_some] <;> rfl), by repeat (first | (with_reducible first | exact HB.out | apply below_alloc | apply pw_below_drewN | apply below_drew1 | refine below_set ?_ GE106.out) | exact HB.out)⟩
  ·rw [if_neg c9] at H
   have c9b0 : (t109 == 0) = false := beq_eq_false_iff_ne.mpr c9
   have c9b1 : (t109 != 0) = true := bne_iff_ne.mpr c9
   simp only [Option.some.injEq, Prod.mk.injEq] at H
   obtain ⟨rfl, rfl⟩ := H
   go_enter Try.func41, Try.ntmps41
   try go_wp2_with (first | ((with_reducible refine gate_dst (N := 4) rfl ?_); refine box_event ?hg (N := 4) ?hd (cs := #[.int .i64 a0_0, .slice A0_1 l0_1.length c0_1]) (t := 30) ?hr ?_; (case hd => rfl); (case hg => rfl); (case hr => first | (go_simp; done) | (go_simp; rfl)); intro gb106 hg w17 hbox hb; have n0_ := Aside0.mk (below_step (by repeat (first | (with_reducible first | exact HB.out | apply below_alloc | apply pw_below_drewN | apply below_drew1) | exact HB.out)) hb); have n1_ := Aside0.mk (hbox); have n2_ := Aside0.mk ((by rw [hg]; exact (below_size (by repeat (first | (with_reducible first | exact HB.out | apply below_alloc | apply pw_below_drewN | apply below_drew1) | exact HB.out))) : w.heap.size ≤ gb106)); have n3_ := Aside0.mk ((by rw [hg]; exact (below_size (by repeat (first | (with_reducible first | exact HB.out | apply below_alloc | apply pw_below_drewN | apply below_drew1) | exact HB.out))) : w.heap.size ≤ gb106)); clear HB; have HB := n0_; have BK106 := n1_; have GW106 := n2_; have GE106 := n3_; clear n0_ n1_ n2_ n3_; clear hb hbox hg))
   have n0_ := Aside0.mk (blk_drew BK106.out)
   have n1_ := Aside0.mk (below_drew1 HB.out)
   clear BK106
   clear HB
   have BK106 := n0_
   have HB := n1_
   clear n0_ n1_
   refine start_ (n := 12) (S := fun w' => w'.cell? ⟨gb106, 0, none⟩ = some (.int .i64 a0_0) ∧ w'.cell? ⟨gb106, 1, none⟩ = some (.slice A0_1 l0_1.length c0_1)) (ds := []) (ar 0 12) (by kernel_rfl) rfl rfl ⟨(blk_cell BK106.out 0).trans rfl, (blk_cell BK106.out 1).trans rfl⟩ (fun hHeld => ?_); refine with_tabW impl_CountGradientWays.tab1 impl_CountGradientWays.bits1 (fun HT_ HW_ => ?_)
   generalize w17.drew = w18 at BK106 HB hHeld ⊢
   refine pure_ (i := 1) (N := some 12) (v := ?_) (a' := ?_) #[O,U,O,O,O,O,O,O,O,O,O,O] rfl rfl (any_of HT_.out (by kernel_rfl)) (fun _ _ _ h => h) (Or.inl ⟨by rfl, ?_⟩) ?_ ?_; rotate_left; (intro w'; go_simp; with_reducible rfl); rotate_left; · simp only [nm_]; rfl
   refine pure_ (i := 3) (N := some 14) (v := ?_) (a' := ?_) #[O,U,O,U,O,O,O,O,O,O,O,O] rfl rfl (any_of HT_.out (by kernel_rfl)) (fun _ _ _ h => h) (Or.inl ⟨by rfl, ?_⟩) ?_ ?_; rotate_left; (intro w'; go_simp; with_reducible rfl); rotate_left; · simp only [nm_]; rfl
   refine take_ (i := 0) (N := some 11) (v := ?_) (a' := ?_) #[U,U,O,U,O,O,O,O,O,O,O,O] rfl rfl (take_ofW HT_.out HW_.out (by kernel_rfl)) (fun _ _ _ h => h) (Or.inl ⟨by rfl, ?_⟩) hHeld ?_ ?_
   rotate_left; · rintro w' ⟨s0, s1⟩; go_simp; with_reducible rfl
   rotate_left; · simp only [nm_]; rfl
   refine take_ (i := 2) (N := some 13) (v := ?_) (a' := ?_) (ar 4 8) rfl rfl (take_ofW HT_.out HW_.out (by kernel_rfl)) (fun _ _ _ h => h) (Or.inl ⟨by rfl, ?_⟩) hHeld ?_ ?_
   rotate_left; · rintro w' ⟨s0, s1⟩; go_simp; with_reducible rfl
   rotate_left; · simp only [nm_]; rfl
   refine one_ (i := 4) (N := some 15) (ar 5 7) rfl rfl (one_of HT_.out (by kernel_rfl)) (by decide) (fun K hK => ?_)
   refine goes_ Try.func76 (by kernel_rfl) rfl #[.agg #[.int .i64 a0_0, .slice A0_1 l0_1.length c0_1], .int .i64 a2] (by rfl) rfl rfl (by (try simp only [List.map_toArray, List.map_cons, List.map_nil]); first | done | rfl | (simp only [List.length_drop, List.length_take]; rfl)) ?_
   with_reducible refine (impl_Complex_has.calls k a0_0 _ _ l0_1 a2 true _ ?side1 ?side2 A5.out).mono ?_
   (case side1 => repeat (first | exact (Kd.C_below HR0_1.out HB.out) | (with_reducible refine Kd.C_alloc ?_ _) | (with_reducible refine Kd.C_drewN ?_ _) | (with_reducible refine Kd.C_drew ?_)))
   (case side2 => exact HC0_1.out)
   rintro e w19 ⟨rfl, hb⟩
   refine ⟨_, rfl, ?_⟩
   have n0_ := Aside0.mk (blk_below (g := gb106) (o := .cells #[.int .i64 a0_0, .slice A0_1 l0_1.length c0_1] 30 (0, 0)) (by (with_reducible repeat (first | refine blk_drewN ?_ _ | refine blk_drew ?_ | refine blk_alloc ?_ _)); exact BK106.out) hb)
   have n1_ := Aside0.mk (below_step (by repeat (first | (with_reducible first | exact HB.out | apply below_alloc | apply pw_below_drewN | apply below_drew1 | refine below_set ?_ GE106.out) | exact HB.out)) hb)
   clear BK106
   clear HB
   have BK106 := n0_
   have HB := n1_
   clear n0_ n1_
   (try clear hb)
   (try clear hb2)
   (try clear hk)
   (try clear hi)
   refine hK.out _ _ ⟨(blk_cell BK106.out 0).trans rfl, (blk_cell BK106.out 1).trans rfl⟩ (fun hHeld => ?_)
   clear hK K
   refine norm_ (a' := ?_) ?_ ?_
   rotate_left
   ·show Act.put _ (some 15) _ = _
    simp only [nm_]
    rfl
   refine pure_ (i := 5) (N := some 16) (v := ?_) (a' := ?_) (ar 6 6) rfl rfl (any_of HT_.out (by kernel_rfl)) (fun _ _ _ h => h) (Or.inl ⟨by rfl, ?_⟩) ?_ ?_; rotate_left; (intro w'; go_simp; with_reducible rfl); rotate_left; · simp only [nm_]; rfl
   refine pure_ (i := 7) (N := some 18) (v := ?_) (a' := ?_) #[U,U,U,U,U,U,O,U,O,O,O,O] rfl rfl (any_of HT_.out (by kernel_rfl)) (fun _ _ _ h => h) (Or.inl ⟨by rfl, ?_⟩) ?_ ?_; rotate_left; (intro w'; go_simp; with_reducible rfl); rotate_left; · simp only [nm_]; rfl
   refine take_ (i := 6) (N := some 17) (v := ?_) (a' := ?_) (ar 8 4) rfl rfl (take_ofW HT_.out HW_.out (by kernel_rfl)) (fun _ _ _ h => h) (Or.inl ⟨by rfl, ?_⟩) hHeld ?_ ?_
   rotate_left; · rintro w' ⟨s0, s1⟩; go_simp; with_reducible rfl
   rotate_left; · simp only [nm_]; rfl
   refine one_ (i := 8) (N := some 19) (ar 9 3) rfl rfl (one_of HT_.out (by kernel_rfl)) (by decide) (fun K hK => ?_)
   refine goes_ Try.func76 (by kernel_rfl) rfl #[.agg #[.int .i64 a0_0, .slice A0_1 l0_1.length c0_1], .int .i64 a3] (by rfl) rfl rfl (by (try simp only [List.map_toArray, List.map_cons, List.map_nil]); first | done | rfl | (simp only [List.length_drop, List.length_take]; rfl)) ?_
   with_reducible refine (impl_Complex_has.calls k a0_0 _ _ l0_1 a3 t108 _ ?side1 ?side2 A7.out).mono ?_
   (case side1 => repeat (first | exact (Kd.C_below HR0_1.out HB.out) | (with_reducible refine Kd.C_alloc ?_ _) | (with_reducible refine Kd.C_drewN ?_ _) | (with_reducible refine Kd.C_drew ?_)))
   (case side2 => exact HC0_1.out)
   rintro e w20 ⟨rfl, hb⟩
   refine ⟨_, rfl, ?_⟩
   have n0_ := Aside0.mk (blk_below (g := gb106) (o := .cells #[.int .i64 a0_0, .slice A0_1 l0_1.length c0_1] 30 (0, 0)) (by (with_reducible repeat (first | refine blk_drewN ?_ _ | refine blk_drew ?_ | refine blk_alloc ?_ _)); exact BK106.out) hb)
   have n1_ := Aside0.mk (below_step (by repeat (first | (with_reducible first | exact HB.out | apply below_alloc | apply pw_below_drewN | apply below_drew1 | refine below_set ?_ GE106.out) | exact HB.out)) hb)
   clear BK106
   clear HB
   have BK106 := n0_
   have HB := n1_
   clear n0_ n1_
   (try clear hb)
   (try clear hb2)
   (try clear hk)
   (try clear hi)
   refine hK.out _ _ ⟨(blk_cell BK106.out 0).trans rfl, (blk_cell BK106.out 1).trans rfl⟩ (fun hHeld => ?_)
   clear hK K
   refine norm_ (a' := ?_) ?_ ?_
   rotate_left
   ·show Act.put _ (some 19) _ = _
    simp only [nm_]
    rfl
   refine pure_ (i := 9) (N := some 20) (v := ?_) (a' := ?_) (ar 10 2) rfl rfl (any_of HT_.out (by kernel_rfl)) (fun _ _ _ h => h) (Or.inl ⟨by rfl, ?_⟩) ?_ ?_; rotate_left; (intro w'; go_simp; with_reducible rfl); rotate_left; · simp only [nm_]; rfl
   refine one_ (i := 10) (N := some 21) (ar 11 1) rfl rfl (one_of HT_.out (by kernel_rfl)) (by decide) (fun K hK => ?_)
   refine goes_ Try.func81 (by kernel_rfl) rfl #[.agg #[.int .i64 a0_0, .slice A0_1 l0_1.length c0_1], .slice A1 l1.length c1, .bool t108] (by rfl) rfl rfl (by (try simp only [List.map_toArray, List.map_cons, List.map_nil]); first | done | rfl | (simp only [List.length_drop, List.length_take]; rfl)) ?_
   with_reducible refine (impl_acyclicCode.calls a0_0 _ _ l0_1 _ _ l1 t108 t109 _ ?side1 ?side2 ?side3 ?side4 A8.out).mono ?_
   (case side1 => repeat (first | exact (Kd.C_below HR0_1.out HB.out) | (with_reducible refine Kd.C_alloc ?_ _) | (with_reducible refine Kd.C_drewN ?_ _) | (with_reducible refine Kd.C_drew ?_)))
   (case side2 => exact HC0_1.out)
   (case side3 => repeat (first | exact (Kd.C_below HR1.out HB.out) | (with_reducible refine Kd.C_alloc ?_ _) | (with_reducible refine Kd.C_drewN ?_ _) | (with_reducible refine Kd.C_drew ?_)))
   (case side4 => exact HC1.out)
   rintro e w21 ⟨rfl, hb⟩
   refine ⟨_, rfl, ?_⟩
   have n0_ := Aside0.mk (blk_below (g := gb106) (o := .cells #[.int .i64 a0_0, .slice A0_1 l0_1.length c0_1] 30 (0, 0)) (by (with_reducible repeat (first | refine blk_drewN ?_ _ | refine blk_drew ?_ | refine blk_alloc ?_ _)); exact BK106.out) hb)
   have n1_ := Aside0.mk (below_step (by repeat (first | (with_reducible first | exact HB.out | apply below_alloc | apply pw_below_drewN | apply below_drew1 | refine below_set ?_ GE106.out) | exact HB.out)) hb)
   clear BK106
   clear HB
   have BK106 := n0_
   have HB := n1_
   clear n0_ n1_
   (try clear hb)
   (try clear hb2)
   (try clear hk)
   (try clear hi)
   refine hK.out _ _ ⟨(blk_cell BK106.out 0).trans rfl, (blk_cell BK106.out 1).trans rfl⟩ (fun hHeld => ?_)
   clear hK K
   refine norm_ (a' := ?_) ?_ ?_
   rotate_left
   ·show Act.put _ (some 21) _ = _
    simp only [nm_]
    rfl
   refine pure_ (i := 11) (N := some 10) (v := ?_) (a' := ?_) (ar 12 0) rfl rfl (any_of HT_.out (by kernel_rfl)) (fun _ _ _ h => h) (Or.inl ⟨by rfl, ?_⟩) ?_ ?_; rotate_left; (intro w'; go_simp; with_reducible rfl); rotate_left; · simp only [nm_]; rfl
   refine done_ (done_of HT_.out (by kernel_rfl)) ?_
   try go_wp2
   go_ret2
   exact ⟨by first | rfl | (simp [errW_none, errW_some] <;> rfl) | (simp [*, errW_none, errW_some] <;> rfl), by repeat (first | (with_reducible first | exact HB.out | apply below_alloc | apply pw_below_drewN | apply below_drew1 | refine below_set ?_ GE106.out) | exact HB.out)⟩
 ·replace c6 := Bool.eq_false_iff.mpr c6
  subst c6
  have H1 : ((impl_acyclicCode.f a0_0 l0_1 l1 false).bind fun t111 => (if t111 = 0 then ((impl_countWays.f k l1 a2 a3).bind fun t112 => (some (t112, 0))) else (some (0, t111)))) = some (r1, r2) := by rw [if_neg (show ¬ (false = true) by decide)] at H; exact H
  clear H
  have H := H1
  clear H1
  replace H := Option.bind_eq_some_iff.mp H
  obtain ⟨t111, A220, H⟩ := H
  replace H : (if t111 = 0 then ((impl_countWays.f k l1 a2 a3).bind fun t112 => (some (t112, 0))) else (some (0, t111))) = some (r1, r2) := H
  have A22 := Aside0.mk A220
  clear A220
  by_cases c23 : t111 = 0
  ·rw [if_pos c23] at H
   have c23b0 : (t111 == 0) = true := beq_iff_eq.mpr c23
   have c23b1 : (t111 != 0) = false := bne_eq_false_iff_eq.mpr c23
   clear c23
   replace H := Option.bind_eq_some_iff.mp H
   obtain ⟨t112, A240, H⟩ := H
   replace H : (some (t112, 0)) = some (r1, r2) := H
   have A24 := Aside0.mk A240
   clear A240
   simp only [Option.some.injEq, Prod.mk.injEq] at H
   obtain ⟨rfl, rfl⟩ := H
   go_enter Try.func41, Try.ntmps41
   try go_wp2_with (first | ((with_reducible refine gate_dst (N := 4) rfl ?_); refine box_event ?hg (N := 4) ?hd (cs := #[.int .i64 a0_0, .slice A0_1 l0_1.length c0_1]) (t := 30) ?hr ?_; (case hd => rfl); (case hg => rfl); (case hr => first | (go_simp; done) | (go_simp; rfl)); intro gb106 hg w25 hbox hb; have n0_ := Aside0.mk (below_step (by repeat (first | (with_reducible first | exact HB.out | apply below_alloc | apply pw_below_drewN | apply below_drew1) | exact HB.out)) hb); have n1_ := Aside0.mk (hbox); have n2_ := Aside0.mk ((by rw [hg]; exact (below_size (by repeat (first | (with_reducible first | exact HB.out | apply below_alloc | apply pw_below_drewN | apply below_drew1) | exact HB.out))) : w.heap.size ≤ gb106)); have n3_ := Aside0.mk ((by rw [hg]; exact (below_size (by repeat (first | (with_reducible first | exact HB.out | apply below_alloc | apply pw_below_drewN | apply below_drew1) | exact HB.out))) : w.heap.size ≤ gb106)); clear HB; have HB := n0_; have BK106 := n1_; have GW106 := n2_; have GE106 := n3_; clear n0_ n1_ n2_ n3_; clear hb hbox hg))
   have n0_ := Aside0.mk (blk_drew BK106.out)
   have n1_ := Aside0.mk (below_drew1 HB.out)
   clear BK106
   clear HB
   have BK106 := n0_
   have HB := n1_
   clear n0_ n1_
   refine start_ (n := 12) (S := fun w' => w'.cell? ⟨gb106, 0, none⟩ = some (.int .i64 a0_0) ∧ w'.cell? ⟨gb106, 1, none⟩ = some (.slice A0_1 l0_1.length c0_1)) (ds := []) (ar 0 12) (by kernel_rfl) rfl rfl ⟨(blk_cell BK106.out 0).trans rfl, (blk_cell BK106.out 1).trans rfl⟩ (fun hHeld => ?_); refine with_tabW impl_CountGradientWays.tab1 impl_CountGradientWays.bits1 (fun HT_ HW_ => ?_)
   generalize w25.drew = w26 at BK106 HB hHeld ⊢
   refine pure_ (i := 1) (N := some 12) (v := ?_) (a' := ?_) #[O,U,O,O,O,O,O,O,O,O,O,O] rfl rfl (any_of HT_.out (by kernel_rfl)) (fun _ _ _ h => h) (Or.inl ⟨by rfl, ?_⟩) ?_ ?_; rotate_left; (intro w'; go_simp; with_reducible rfl); rotate_left; · simp only [nm_]; rfl
   refine pure_ (i := 3) (N := some 14) (v := ?_) (a' := ?_) #[O,U,O,U,O,O,O,O,O,O,O,O] rfl rfl (any_of HT_.out (by kernel_rfl)) (fun _ _ _ h => h) (Or.inl ⟨by rfl, ?_⟩) ?_ ?_; rotate_left; (intro w'; go_simp; with_reducible rfl); rotate_left; · simp only [nm_]; rfl
   refine take_ (i := 0) (N := some 11) (v := ?_) (a' := ?_) #[U,U,O,U,O,O,O,O,O,O,O,O] rfl rfl (take_ofW HT_.out HW_.out (by kernel_rfl)) (fun _ _ _ h => h) (Or.inl ⟨by rfl, ?_⟩) hHeld ?_ ?_
   rotate_left; · rintro w' ⟨s0, s1⟩; go_simp; with_reducible rfl
   rotate_left; · simp only [nm_]; rfl
   refine take_ (i := 2) (N := some 13) (v := ?_) (a' := ?_) (ar 4 8) rfl rfl (take_ofW HT_.out HW_.out (by kernel_rfl)) (fun _ _ _ h => h) (Or.inl ⟨by rfl, ?_⟩) hHeld ?_ ?_
   rotate_left; · rintro w' ⟨s0, s1⟩; go_simp; with_reducible rfl
   rotate_left; · simp only [nm_]; rfl
   refine one_ (i := 4) (N := some 15) (ar 5 7) rfl rfl (one_of HT_.out (by kernel_rfl)) (by decide) (fun K hK => ?_)
   refine goes_ Try.func76 (by kernel_rfl) rfl #[.agg #[.int .i64 a0_0, .slice A0_1 l0_1.length c0_1], .int .i64 a2] (by rfl) rfl rfl (by (try simp only [List.map_toArray, List.map_cons, List.map_nil]); first | done | rfl | (simp only [List.length_drop, List.length_take]; rfl)) ?_
   with_reducible refine (impl_Complex_has.calls k a0_0 _ _ l0_1 a2 false _ ?side1 ?side2 A5.out).mono ?_
   (case side1 => repeat (first | exact (Kd.C_below HR0_1.out HB.out) | (with_reducible refine Kd.C_alloc ?_ _) | (with_reducible refine Kd.C_drewN ?_ _) | (with_reducible refine Kd.C_drew ?_)))
   (case side2 => exact HC0_1.out)
   rintro e w27 ⟨rfl, hb⟩
   refine ⟨_, rfl, ?_⟩
   have n0_ := Aside0.mk (blk_below (g := gb106) (o := .cells #[.int .i64 a0_0, .slice A0_1 l0_1.length c0_1] 30 (0, 0)) (by (with_reducible repeat (first | refine blk_drewN ?_ _ | refine blk_drew ?_ | refine blk_alloc ?_ _)); exact BK106.out) hb)
   have n1_ := Aside0.mk (below_step (by repeat (first | (with_reducible first | exact HB.out | apply below_alloc | apply pw_below_drewN | apply below_drew1 | refine below_set ?_ GE106.out) | exact HB.out)) hb)
   clear BK106
   clear HB
   have BK106 := n0_
   have HB := n1_
   clear n0_ n1_
   (try clear hb)
   (try clear hb2)
   (try clear hk)
   (try clear hi)
   refine hK.out _ _ ⟨(blk_cell BK106.out 0).trans rfl, (blk_cell BK106.out 1).trans rfl⟩ (fun hHeld => ?_)
   clear hK K
   refine norm_ (a' := ?_) ?_ ?_
   rotate_left
   ·show Act.put _ (some 15) _ = _
    simp only [nm_]
    rfl
   refine pure_ (i := 5) (N := some 16) (v := ?_) (a' := ?_) (ar 6 6) rfl rfl (any_of HT_.out (by kernel_rfl)) (fun _ _ _ h => h) (Or.inl ⟨by rfl, ?_⟩) ?_ ?_; rotate_left; (intro w'; go_simp; with_reducible rfl); rotate_left; · simp only [nm_]; rfl
   refine pure_ (i := 6) (N := some 17) (v := undef) (a' := ?_) (ar 7 5) rfl rfl (any_of HT_.out (by kernel_rfl)) (fun _ _ _ h => h) (Or.inr ⟨by rfl, rfl⟩) ?_ ?_; rotate_left; · simp only [nm_]; rfl
   refine pure_ (i := 7) (N := some 18) (v := undef) (a' := ?_) (ar 8 4) rfl rfl (any_of HT_.out (by kernel_rfl)) (fun _ _ _ h => h) (Or.inr ⟨by rfl, rfl⟩) ?_ ?_; rotate_left; · simp only [nm_]; rfl
   refine pure_ (i := 8) (N := some 19) (v := undef) (a' := ?_) (ar 9 3) rfl rfl (any_of HT_.out (by kernel_rfl)) (fun _ _ _ h => h) (Or.inr ⟨by rfl, rfl⟩) ?_ ?_; rotate_left; · simp only [nm_]; rfl
   refine pure_ (i := 9) (N := some 20) (v := ?_) (a' := ?_) (ar 10 2) rfl rfl (any_of HT_.out (by kernel_rfl)) (fun _ _ _ h => h) (Or.inl ⟨by rfl, ?_⟩) ?_ ?_; rotate_left; (intro w'; go_simp; with_reducible rfl); rotate_left; · simp only [nm_]; rfl
   refine one_ (i := 10) (N := some 21) (ar 11 1) rfl rfl (one_of HT_.out (by kernel_rfl)) (by decide) (fun K hK => ?_)
   refine goes_ Try.func81 (by kernel_rfl) rfl #[.agg #[.int .i64 a0_0, .slice A0_1 l0_1.length c0_1], .slice A1 l1.length c1, .bool false] (by rfl) rfl rfl (by (try simp only [List.map_toArray, List.map_cons, List.map_nil]); first | done | rfl | (simp only [List.length_drop, List.length_take]; rfl)) ?_
   with_reducible refine (impl_acyclicCode.calls a0_0 _ _ l0_1 _ _ l1 false t111 _ ?side1 ?side2 ?side3 ?side4 A22.out).mono ?_
   (case side1 => repeat (first | exact (Kd.C_below HR0_1.out HB.out) | (with_reducible refine Kd.C_alloc ?_ _) | (with_reducible refine Kd.C_drewN ?_ _) | (with_reducible refine Kd.C_drew ?_)))
   (case side2 => exact HC0_1.out)
   (case side3 => repeat (first | exact (Kd.C_below HR1.out HB.out) | (with_reducible refine Kd.C_alloc ?_ _) | (with_reducible refine Kd.C_drewN ?_ _) | (with_reducible refine Kd.C_drew ?_)))
   (case side4 => exact HC1.out)
   rintro e w28 ⟨rfl, hb⟩
   refine ⟨_, rfl, ?_⟩
   have n0_ := Aside0.mk (blk_below (g := gb106) (o := .cells #[.int .i64 a0_0, .slice A0_1 l0_1.length c0_1] 30 (0, 0)) (by (with_reducible repeat (first | refine blk_drewN ?_ _ | refine blk_drew ?_ | refine blk_alloc ?_ _)); exact BK106.out) hb)
   have n1_ := Aside0.mk (below_step (by repeat (first | (with_reducible first | exact HB.out | apply below_alloc | apply pw_below_drewN | apply below_drew1 | refine below_set ?_ GE106.out) | exact HB.out)) hb)
   clear BK106
   clear HB
   have BK106 := n0_
   have HB := n1_
   clear n0_ n1_
   (try clear hb)
   (try clear hb2)
   (try clear hk)
   (try clear hi)
   refine hK.out _ _ ⟨(blk_cell BK106.out 0).trans rfl, (blk_cell BK106.out 1).trans rfl⟩ (fun hHeld => ?_)
   clear hK K
   refine norm_ (a' := ?_) ?_ ?_
   rotate_left
   ·show Act.put _ (some 21) _ = _
    simp only [nm_]
    rfl
   refine pure_ (i := 11) (N := some 10) (v := ?_) (a' := ?_) (ar 12 0) rfl rfl (any_of HT_.out (by kernel_rfl)) (fun _ _ _ h => h) (Or.inl ⟨by rfl, ?_⟩) ?_ ?_; rotate_left; (intro w'; go_simp; with_reducible rfl); rotate_left; · simp only [nm_]; rfl
   refine done_ (done_of HT_.out (by kernel_rfl)) ?_
   try go_wp2_with (first | ((with_reducible refine gate_callee (f := 82) rfl ?_); refine goesL_ (some 28) rfl rfl Try.func82 (by kernel_rfl) rfl #[.slice A1 l1.length c1, .int .i64 a2, .int .i64 a3] rfl (by (try simp only [List.map_toArray, List.map_cons, List.map_nil]); first | done | rfl | (simp only [List.length_drop, List.length_take]; rfl)) ?_; (with_reducible refine (impl_countWays.calls k _ _ l1 a2 a3 t112 _ ?side1 ?side2 A24.out).mono ?_); (case side1 => repeat (first | exact (Kd.C_below HR1.out HB.out) | (with_reducible refine Kd.C_alloc ?_ _) | (with_reducible refine Kd.C_drewN ?_ _) | (with_reducible refine Kd.C_drew ?_))); (case side2 => exact HC1.out); rintro e w29 ⟨rfl, hb⟩; refine ⟨_, rfl, ?_⟩; have n0_ := Aside0.mk (blk_below (g := gb106) (o := .cells #[.int .i64 a0_0, .slice A0_1 l0_1.length c0_1] 30 (0, 0)) (by (with_reducible repeat (first | refine blk_drewN ?_ _ | refine blk_drew ?_ | refine blk_alloc ?_ _)); exact BK106.out) hb); have n1_ := Aside0.mk (below_step (by repeat (first | (with_reducible first | exact HB.out | apply below_alloc | apply pw_below_drewN | apply below_drew1 | refine below_set ?_ GE106.out) | exact HB.out)) hb); clear BK106; clear HB; have BK106 := n0_; have HB := n1_; clear n0_ n1_; (try clear hb); (try clear hb2); (try clear hk); (try clear hi)))
   go_ret2
   exact ⟨by first | rfl | (simp [errW_none, errW_some] <;> rfl) | (simp [*, errW_none, errW_some] <;> rfl), by repeat (first | (with_reducible first | exact HB.out | apply below_alloc | apply pw_below_drewN | apply below_drew1 | refine below_set ?_ GE106.out) | exact HB.out)⟩
  ·rw [if_neg c23] at H
   have c23b0 : (t111 == 0) = false := beq_eq_false_iff_ne.mpr c23
   have c23b1 : (t111 != 0) = true := bne_iff_ne.mpr c23
   simp only [Option.some.injEq, Prod.mk.injEq] at H
   obtain ⟨rfl, rfl⟩ := H
   go_enter Try.func41, Try.ntmps41
   try go_wp2_with (first | ((with_reducible refine gate_dst (N := 4) rfl ?_); refine box_event ?hg (N := 4) ?hd (cs := #[.int .i64 a0_0, .slice A0_1 l0_1.length c0_1]) (t := 30) ?hr ?_; (case hd => rfl); (case hg => rfl); (case hr => first | (go_simp; done) | (go_simp; rfl)); intro gb106 hg w30 hbox hb; have n0_ := Aside0.mk (below_step (by repeat (first | (with_reducible first | exact HB.out | apply below_alloc | apply pw_below_drewN | apply below_drew1) | exact HB.out)) hb); have n1_ := Aside0.mk (hbox); have n2_ := Aside0.mk ((by rw [hg]; exact (below_size (by repeat (first | (with_reducible first | exact HB.out | apply below_alloc | apply pw_below_drewN | apply below_drew1) | exact HB.out))) : w.heap.size ≤ gb106)); have n3_ := Aside0.mk ((by rw [hg]; exact (below_size (by repeat (first | (with_reducible first | exact HB.out | apply below_alloc | apply pw_below_drewN | apply below_drew1) | exact HB.out))) : w.heap.size ≤ gb106)); clear HB; have HB := n0_; have BK106 := n1_; have GW106 := n2_; have GE106 := n3_; clear n0_ n1_ n2_ n3_; clear hb hbox hg))
   have n0_ := Aside0.mk (blk_drew BK106.out)
   have n1_ := Aside0.mk (below_drew1 HB.out)
   clear BK106
   clear HB
   have BK106 := n0_
   have HB := n1_
   clear n0_ n1_
   refine start_ (n := 12) (S := fun w' => w'.cell? ⟨gb106, 0, none⟩ = some (.int .i64 a0_0) ∧ w'.cell? ⟨gb106, 1, none⟩ = some (.slice A0_1 l0_1.length c0_1)) (ds := []) (ar 0 12) (by kernel_rfl) rfl rfl ⟨(blk_cell BK106.out 0).trans rfl, (blk_cell BK106.out 1).trans rfl⟩ (fun hHeld => ?_); refine with_tabW impl_CountGradientWays.tab1 impl_CountGradientWays.bits1 (fun HT_ HW_ => ?_)
   generalize w30.drew = w31 at BK106 HB hHeld ⊢
   refine pure_ (i := 1) (N := some 12) (v := ?_) (a' := ?_) #[O,U,O,O,O,O,O,O,O,O,O,O] rfl rfl (any_of HT_.out (by kernel_rfl)) (fun _ _ _ h => h) (Or.inl ⟨by rfl, ?_⟩) ?_ ?_; rotate_left; (intro w'; go_simp; with_reducible rfl); rotate_left; · simp only [nm_]; rfl
   refine pure_ (i := 3) (N := some 14) (v := ?_) (a' := ?_) #[O,U,O,U,O,O,O,O,O,O,O,O] rfl rfl (any_of HT_.out (by kernel_rfl)) (fun _ _ _ h => h) (Or.inl ⟨by rfl, ?_⟩) ?_ ?_; rotate_left; (intro w'; go_simp; with_reducible rfl); rotate_left; · simp only [nm_]; rfl
   refine take_ (i := 0) (N := some 11) (v := ?_) (a' := ?_) #[U,U,O,U,O,O,O,O,O,O,O,O] rfl rfl (take_ofW HT_.out HW_.out (by kernel_rfl)) (fun _ _ _ h => h) (Or.inl ⟨by rfl, ?_⟩) hHeld ?_ ?_
   rotate_left; · rintro w' ⟨s0, s1⟩; go_simp; with_reducible rfl
   rotate_left; · simp only [nm_]; rfl
   refine take_ (i := 2) (N := some 13) (v := ?_) (a' := ?_) (ar 4 8) rfl rfl (take_ofW HT_.out HW_.out (by kernel_rfl)) (fun _ _ _ h => h) (Or.inl ⟨by rfl, ?_⟩) hHeld ?_ ?_
   rotate_left; · rintro w' ⟨s0, s1⟩; go_simp; with_reducible rfl
   rotate_left; · simp only [nm_]; rfl
   refine one_ (i := 4) (N := some 15) (ar 5 7) rfl rfl (one_of HT_.out (by kernel_rfl)) (by decide) (fun K hK => ?_)
   refine goes_ Try.func76 (by kernel_rfl) rfl #[.agg #[.int .i64 a0_0, .slice A0_1 l0_1.length c0_1], .int .i64 a2] (by rfl) rfl rfl (by (try simp only [List.map_toArray, List.map_cons, List.map_nil]); first | done | rfl | (simp only [List.length_drop, List.length_take]; rfl)) ?_
   with_reducible refine (impl_Complex_has.calls k a0_0 _ _ l0_1 a2 false _ ?side1 ?side2 A5.out).mono ?_
   (case side1 => repeat (first | exact (Kd.C_below HR0_1.out HB.out) | (with_reducible refine Kd.C_alloc ?_ _) | (with_reducible refine Kd.C_drewN ?_ _) | (with_reducible refine Kd.C_drew ?_)))
   (case side2 => exact HC0_1.out)
   rintro e w32 ⟨rfl, hb⟩
   refine ⟨_, rfl, ?_⟩
   have n0_ := Aside0.mk (blk_below (g := gb106) (o := .cells #[.int .i64 a0_0, .slice A0_1 l0_1.length c0_1] 30 (0, 0)) (by (with_reducible repeat (first | refine blk_drewN ?_ _ | refine blk_drew ?_ | refine blk_alloc ?_ _)); exact BK106.out) hb)
   have n1_ := Aside0.mk (below_step (by repeat (first | (with_reducible first | exact HB.out | apply below_alloc | apply pw_below_drewN | apply below_drew1 | refine below_set ?_ GE106.out) | exact HB.out)) hb)
   clear BK106
   clear HB
   have BK106 := n0_
   have HB := n1_
   clear n0_ n1_
   (try clear hb)
   (try clear hb2)
   (try clear hk)
   (try clear hi)
   refine hK.out _ _ ⟨(blk_cell BK106.out 0).trans rfl, (blk_cell BK106.out 1).trans rfl⟩ (fun hHeld => ?_)
   clear hK K
   refine norm_ (a' := ?_) ?_ ?_
   rotate_left
   ·show Act.put _ (some 15) _ = _
    simp only [nm_]
    rfl
   refine pure_ (i := 5) (N := some 16) (v := ?_) (a' := ?_) (ar 6 6) rfl rfl (any_of HT_.out (by kernel_rfl)) (fun _ _ _ h => h) (Or.inl ⟨by rfl, ?_⟩) ?_ ?_; rotate_left; (intro w'; go_simp; with_reducible rfl); rotate_left; · simp only [nm_]; rfl
   refine pure_ (i := 6) (N := some 17) (v := undef) (a' := ?_) (ar 7 5) rfl rfl (any_of HT_.out (by kernel_rfl)) (fun _ _ _ h => h) (Or.inr ⟨by rfl, rfl⟩) ?_ ?_; rotate_left; · simp only [nm_]; rfl
   refine pure_ (i := 7) (N := some 18) (v := undef) (a' := ?_) (ar 8 4) rfl rfl (any_of HT_.out (by kernel_rfl)) (fun _ _ _ h => h) (Or.inr ⟨by rfl, rfl⟩) ?_ ?_; rotate_left; · simp only [nm_]; rfl
   refine pure_ (i := 8) (N := some 19) (v := undef) (a' := ?_) (ar 9 3) rfl rfl (any_of HT_.out (by kernel_rfl)) (fun _ _ _ h => h) (Or.inr ⟨by rfl, rfl⟩) ?_ ?_; rotate_left; · simp only [nm_]; rfl
   refine pure_ (i := 9) (N := some 20) (v := ?_) (a' := ?_) (ar 10 2) rfl rfl (any_of HT_.out (by kernel_rfl)) (fun _ _ _ h => h) (Or.inl ⟨by rfl, ?_⟩) ?_ ?_; rotate_left; (intro w'; go_simp; with_reducible rfl); rotate_left; · simp only [nm_]; rfl
   refine one_ (i := 10) (N := some 21) (ar 11 1) rfl rfl (one_of HT_.out (by kernel_rfl)) (by decide) (fun K hK => ?_)
   refine goes_ Try.func81 (by kernel_rfl) rfl #[.agg #[.int .i64 a0_0, .slice A0_1 l0_1.length c0_1], .slice A1 l1.length c1, .bool false] (by rfl) rfl rfl (by (try simp only [List.map_toArray, List.map_cons, List.map_nil]); first | done | rfl | (simp only [List.length_drop, List.length_take]; rfl)) ?_
   with_reducible refine (impl_acyclicCode.calls a0_0 _ _ l0_1 _ _ l1 false t111 _ ?side1 ?side2 ?side3 ?side4 A22.out).mono ?_
   (case side1 => repeat (first | exact (Kd.C_below HR0_1.out HB.out) | (with_reducible refine Kd.C_alloc ?_ _) | (with_reducible refine Kd.C_drewN ?_ _) | (with_reducible refine Kd.C_drew ?_)))
   (case side2 => exact HC0_1.out)
   (case side3 => repeat (first | exact (Kd.C_below HR1.out HB.out) | (with_reducible refine Kd.C_alloc ?_ _) | (with_reducible refine Kd.C_drewN ?_ _) | (with_reducible refine Kd.C_drew ?_)))
   (case side4 => exact HC1.out)
   rintro e w33 ⟨rfl, hb⟩
   refine ⟨_, rfl, ?_⟩
   have n0_ := Aside0.mk (blk_below (g := gb106) (o := .cells #[.int .i64 a0_0, .slice A0_1 l0_1.length c0_1] 30 (0, 0)) (by (with_reducible repeat (first | refine blk_drewN ?_ _ | refine blk_drew ?_ | refine blk_alloc ?_ _)); exact BK106.out) hb)
   have n1_ := Aside0.mk (below_step (by repeat (first | (with_reducible first | exact HB.out | apply below_alloc | apply pw_below_drewN | apply below_drew1 | refine below_set ?_ GE106.out) | exact HB.out)) hb)
   clear BK106
   clear HB
   have BK106 := n0_
   have HB := n1_
   clear n0_ n1_
   (try clear hb)
   (try clear hb2)
   (try clear hk)
   (try clear hi)
   refine hK.out _ _ ⟨(blk_cell BK106.out 0).trans rfl, (blk_cell BK106.out 1).trans rfl⟩ (fun hHeld => ?_)
   clear hK K
   refine norm_ (a' := ?_) ?_ ?_
   rotate_left
   ·show Act.put _ (some 21) _ = _
    simp only [nm_]
    rfl
   refine pure_ (i := 11) (N := some 10) (v := ?_) (a' := ?_) (ar 12 0) rfl rfl (any_of HT_.out (by kernel_rfl)) (fun _ _ _ h => h) (Or.inl ⟨by rfl, ?_⟩) ?_ ?_; rotate_left; (intro w'; go_simp; with_reducible rfl); rotate_left; · simp only [nm_]; rfl
   refine done_ (done_of HT_.out (by kernel_rfl)) ?_
   try go_wp2
   go_ret2
   exact ⟨by first | rfl | (simp [errW_none, errW_some] <;> rfl) | (simp [*, errW_none, errW_some] <;> rfl), by repeat (first | (with_reducible first | exact HB.out | apply below_alloc | apply pw_below_drewN | apply below_drew1 | refine below_set ?_ GE106.out) | exact HB.out)⟩

end Go.Proofs.Ytniikppojffiaaa.H
end

section
/- The numbers of gradient ways, plain. -/
namespace Go.Proofs.Ytniikppojffiaaa.K
open Go.RowKit Go.Shelf Go.Proofs.Ytniikppojffiaaa.Q Go.Proofs.Ytniikppojffiaaa.X Go.Proofs.Ytniikppojffiaaa.G Go.Proofs.Ytniikppojffiaaa.H Go.Proofs.YtniikppojffiaaaW.PrintWords Go.Proofs.YtniikppojffiaaaW.PrintLast Go.Proofs.YtniikppojffiaaaW.PrintMore
set_option linter.unusedVariables false
set_option linter.unusedSimpArgs false

theorem cnt_mono {S T : Int → Bool} (h : ∀ x, S x = true → T x = true) : cnt S ≤ cnt T := by
 unfold cnt
 exact List.countP_mono_left (fun i _ hi => h _ hi)
theorem cnt_lt {S T : Int → Bool} (h : ∀ x, S x = true → T x = true) (y : Int) (h0 : 0 ≤ y) (h1 : y < 64) (hs : S y = false) (ht : T y = true) : cnt S < cnt T := by
 have h2 := cnt_upd S y h0 h1 hs
 have h3 : cnt (upd S y true) ≤ cnt T := cnt_mono fun x hx => by
  rcases upd_or hx with rfl | hx
  ·exact ht
  ·exact h x hx
 omega
theorem reachB_true {nx : Int → List Int} {a x : Int} : reachB nx a x = true ↔ Reach nx a x := by
 unfold reachB
 simp
theorem reachB_false {nx : Int → List Int} {a x : Int} (h : ¬ Reach nx a x) : reachB nx a x = false := by
 cases hb : reachB nx a x with
 | false => rfl
 | true => exact absurd (reachB_true.1 hb) h
theorem Reach.first {nx : Int → List Int} {a x : Int} (h : Reach nx a x) : ∃ y, y ∈ nx a := by
 induction h with
 | one h => exact ⟨_, h⟩
 | more _ _ ih => exact ih
theorem acyc_no {q : List PairT} (h : acycB q = true) (x : Int) : ¬ Reach (stepsL q) x x := by
 intro hr
 obtain ⟨y, hy⟩ := hr.first
 unfold stepsL at hy
 split at hy
 ·cases hy
 ·rename_i hz
  rcases high_cases q x with ⟨h1, _⟩ | ⟨p, hp, h1, _⟩
  ·exact hz h1
  ·unfold acycB at h
   have := List.all_eq_true.1 h p hp
   rw [h1, reachB_true.2 hr] at this
   simp at this
theorem rank_step {q : List PairT} (hg : GoodQ q) (hac : ∀ x, ¬ Reach (stepsL q) x x) {a y : Int} (hy : y ∈ stepsL q a) : cnt (reachB (stepsL q) y) < cnt (reachB (stepsL q) a) := by
 have hb := steps_mem hg hy
 refine cnt_lt (fun x hx => reachB_true.2 (Reach.trans (.one hy) (reachB_true.1 hx))) y (by omega) (by omega) (reachB_false (hac y)) (reachB_true.2 (.one hy))
def sumV (V : Int → Int) (acc : Int) (L : List Int) : Int := L.foldl (fun c y => wrap64 (c + V y)) acc
theorem sumV_cons (V : Int → Int) (acc y : Int) (L : List Int) : sumV V acc (y :: L) = sumV V (wrap64 (acc + V y)) L := rfl
theorem sumV_zero (V : Int → Int) (acc : Int) (h0 : 0 ≤ acc ∧ acc ≤ 1) : ∀ L : List Int, (∀ y ∈ L, V y = 0) → sumV V acc L = acc
 | [], _ => rfl
 | y :: L, h => by
  rw [sumV_cons, h y (by simp), w64 _ (by omega) (by omega), Int.add_zero]
  exact sumV_zero V acc h0 L (fun z hz => h z (List.mem_cons_of_mem _ hz))
theorem specWays_loop (q : List PairT) (b : Int) (V : Int → Int) (K : Nat) (L : List Int) (hL : L.length ≤ 6) (hV : ∀ y ∈ L, ∀ k, K ≤ k → spec_l02Ways.f k q y b = some (V y)) : ∀ (e i k : Nat) (acc : Int), L.length - i = e → i ≤ L.length → K + e < k →
  spec_l02Ways.l0 k q b acc L (i : Int) = some (sumV V acc (L.drop i)) := by
 intro e
 induction e with
 | zero =>
  intro i k acc he hi hk
  obtain ⟨k, rfl⟩ : ∃ m, k = m + 1 := ⟨k - 1, by omega⟩
  obtain rfl : i = L.length := by omega
  simp only [spec_l02Ways.l0]
  rw [if_neg (by omega), List.drop_eq_nil_of_le (by omega)]
  rfl
 | succ e ih =>
  intro i k acc he hi hk
  obtain ⟨k, rfl⟩ : ∃ m, k = m + 1 := ⟨k - 1, by omega⟩
  have hil : i < L.length := by omega
  have HW : Aside0 (wrap64 ((i : Int) + 1) = ((i + 1 : Nat) : Int)) := ⟨by rw [w64 _ (by omega) (by omega)]; omega⟩
  simp only [spec_l02Ways.l0]
  rw [if_pos (by omega), if_pos (by omega), rd_nat L i hil, hV _ (List.getElem_mem hil) k (by omega), HW.out]
  simp only [Option.bind_some]
  rw [ih (i + 1) k _ (by omega) (by omega) (by omega), List.drop_eq_getElem_cons hil, sumV_cons]
theorem implWays_loop (q : List PairT) (b : Int) (V : Int → Int) (K : Nat) (L : List Int) (hL : L.length ≤ 6) (hV : ∀ y ∈ L, ∀ k, K ≤ k → impl_countWays.f k q y b = some (V y)) : ∀ (e i k : Nat) (acc : Int), L.length - i = e → i ≤ L.length → K + e < k →
  impl_countWays.l0 k q b acc L (L.length : Int) (i : Int) = some (sumV V acc (L.drop i)) := by
 intro e
 induction e with
 | zero =>
  intro i k acc he hi hk
  obtain ⟨k, rfl⟩ : ∃ m, k = m + 1 := ⟨k - 1, by omega⟩
  obtain rfl : i = L.length := by omega
  simp only [impl_countWays.l0]
  rw [if_neg (by omega), List.drop_eq_nil_of_le (by omega)]
  rfl
 | succ e ih =>
  intro i k acc he hi hk
  obtain ⟨k, rfl⟩ : ∃ m, k = m + 1 := ⟨k - 1, by omega⟩
  have hil : i < L.length := by omega
  have HW : Aside0 (wrap64 ((i : Int) + 1) = ((i + 1 : Nat) : Int)) := ⟨by rw [w64 _ (by omega) (by omega)]; omega⟩
  simp only [impl_countWays.l0]
  rw [if_pos (by omega), if_pos (by omega), if_pos (by omega), rd_nat L i hil, hV _ (List.getElem_mem hil) k (by omega), HW.out]
  simp only [Option.bind_some]
  rw [ih (i + 1) k _ (by omega) (by omega) (by omega), List.drop_eq_getElem_cons hil, sumV_cons]
theorem ways_is {q : List PairT} (hg : GoodQ q) (hac : ∀ x, ¬ Reach (stepsL q) x x) (b : Int) : ∀ (H : Nat) (a : Int), cnt (reachB (stepsL q) a) < H →
  ∃ r, (∀ k, 5000 + 10 * H ≤ k → impl_countWays.f k q a b = some r) ∧ (∀ k, 5000 + 10 * H ≤ k → spec_l02Ways.f k q a b = some r) ∧ (a ≠ b → ¬ Reach (stepsL q) a b → r = 0) := by
 intro H
 induction H with
 | zero =>
  intro a h
  omega
 | succ H ih =>
  intro a h
  obtain ⟨V, hVd⟩ : ∃ V : Int → Int, V = fun y => (impl_countWays.f (5000 + 10 * H) q y b).getD 0 := ⟨_, rfl⟩
  have hI : ∀ y ∈ stepsL q a, (∀ k, 5000 + 10 * H ≤ k → impl_countWays.f k q y b = some (V y)) ∧ (∀ k, 5000 + 10 * H ≤ k → spec_l02Ways.f k q y b = some (V y)) ∧ (y ≠ b → ¬ Reach (stepsL q) y b → V y = 0) := by
   intro y hy
   have hr := rank_step hg hac hy
   obtain ⟨r, h1, h2, h3⟩ := ih y (by omega)
   have e : V y = r := by rw [hVd]; simp only [h1 _ (Nat.le_refl _)]; rfl
   rw [e]
   exact ⟨h1, h2, h3⟩
  have hL := steps_len (q := q) a
  have h1 := fun acc k (hk : 5000 + 10 * H + (stepsL q a).length < k) => implWays_loop q b V (5000 + 10 * H) (stepsL q a) hL (fun y hy => (hI y hy).1) (stepsL q a).length 0 k acc (by omega) (by omega) (by omega)
  have h2 := fun acc k (hk : 5000 + 10 * H + (stepsL q a).length < k) => specWays_loop q b V (5000 + 10 * H) (stepsL q a) hL (fun y hy => (hI y hy).2.1) (stepsL q a).length 0 k acc (by omega) (by omega) (by omega)
  simp only [List.drop_zero] at h1 h2
  by_cases hab : a = b
  ·refine ⟨1, fun k hk => ?_, fun k hk => ?_, fun hne => absurd hab hne⟩
   ·obtain ⟨k, rfl⟩ : ∃ m, k = m + 1 := ⟨k - 1, by omega⟩
    simp only [impl_countWays.f]
    rw [if_pos hab]
   ·obtain ⟨k, rfl⟩ : ∃ m, k = m + 2 := ⟨k - 2, by omega⟩
    simp only [spec_l02Ways.f, spec_l02Ways.j0]
    rw [if_pos hab, specNext_is hg a k (by omega)]
    simp only [Option.bind_some]
    have h3 := h2 1 k (by omega)
    rw [show ((0 : Nat) : Int) = 0 from rfl, sumV_zero V 1 (by omega) _ (fun y hy => (hI y hy).2.2 (fun e => hac a (by rw [← hab] at e; rw [e] at hy; exact .one hy)) (fun hr => hac a (Reach.trans (.one hy) (by rw [hab]; exact hr))))] at h3
    exact h3
  ·refine ⟨sumV V 0 (stepsL q a), fun k hk => ?_, fun k hk => ?_, fun _ hr => ?_⟩
   ·obtain ⟨k, rfl⟩ : ∃ m, k = m + 1 := ⟨k - 1, by omega⟩
    simp only [impl_countWays.f]
    rw [if_neg hab, impl_steps.is hg a]
    exact h1 0 k (by omega)
   ·obtain ⟨k, rfl⟩ : ∃ m, k = m + 2 := ⟨k - 2, by omega⟩
    simp only [spec_l02Ways.f, spec_l02Ways.j0]
    rw [if_neg hab, specNext_is hg a k (by omega)]
    exact h2 0 k (by omega)
   ·exact sumV_zero V 0 (by omega) _ (fun y hy => (hI y hy).2.2 (fun e => hr (by rw [e] at hy; exact .one hy)) (fun h => hr (Reach.trans (.one hy) h)))
def waysV (q : List PairT) (a b : Int) : Int := (impl_countWays.f 6000 q a b).getD 0
theorem ways_both {q : List PairT} (hg : GoodQ q) (hac : acycB q = true) (a b : Int) (k : Nat) (hk : 6000 ≤ k) : impl_countWays.f k q a b = some (waysV q a b) ∧ spec_l02Ways.f k q a b = some (waysV q a b) := by
 have hc := cnt_le (reachB (stepsL q) a)
 obtain ⟨r, h1, h2, _⟩ := ways_is hg (acyc_no hac) b 65 a (by omega)
 have e : waysV q a b = r := by unfold waysV; rw [h1 6000 (by omega)]; rfl
 rw [e]
 exact ⟨h1 k (by omega), h2 k (by omega)⟩
theorem implHas_is (n : Int) (l : List Int) (f : Int) (hl : l.length ≤ 2097152) (k : Nat) (hk : l.length + 1 ≤ k) : impl_Complex_has.f k n l f = some (hasB l f) := by
 have h : ∀ d, impl_Complex_has.f (l.length + 1 + d) n l f = some (hasB l f) := by
  intro d
  induction d with
  | zero => unfold impl_Complex_has.f; rw [bs_is l f (by omega)]; rfl
  | succ d ih => exact impl_Complex_has.mono _ _ _ _ _ ih
 have := h (k - (l.length + 1))
 rwa [show l.length + 1 + (k - (l.length + 1)) = k by omega] at this
noncomputable def cgwC (n : Int) (l : List Int) (q : List PairT) (a b : Int) : Int := acode n l q (hasB l a && hasB l b)
noncomputable def cgwA (n : Int) (l : List Int) (q : List PairT) (a b : Int) : Int := if cgwC n l q a b = 0 then waysV q a b else 0
theorem specCGW_is (n : Int) (l : List Int) (q : List PairT) (a b : Int) (hl : l.length ≤ 2097152) (hq : q.length ≤ 2097152) (k : Nat) (hk : isK l + pgK l q + 7000 ≤ k) :
  spec_CountGradientWays.f k n l q a b = some (cgwA n l q a b, cgwC n l q a b) := by
 unfold spec_CountGradientWays.f cgwA cgwC acode
 have hb : (pingB l q && [a, b].all (hasB l)) = ((hasB l a && hasB l b) && pingB l q) := by
  simp only [List.all_cons, List.all_nil, Bool.and_true]
  rw [Bool.and_comm]
 rw [specCode02_is n l q [a, b] (by simp) hl hq k (by omega), hb]
 simp only [Option.bind_some]
 by_cases hz : codeOf n l ((hasB l a && hasB l b) && pingB l q) = 0
 ·obtain ⟨h1, h2⟩ := codeOf_zero hz
  simp only [Bool.and_eq_true] at h2
  have hg := ping_good h1 h2.2
  rw [if_pos hz, if_pos hz, spec_l02Acyclic.is hg]
  simp only [Option.bind_some]
  cases hac : acycB q with
  | true =>
   rw [if_pos rfl, (ways_both hg hac a b k (by omega)).2]
   simp
  | false => simp
 ·rw [if_neg hz, if_neg hz, if_neg hz]
theorem implCGW_is (n : Int) (l : List Int) (q : List PairT) (a b : Int) (hl : l.length ≤ 2097152) (hq : q.length ≤ 2097152) (k : Nat) (hk : isK l + pgK l q + 7000 + l.length ≤ k) :
  impl_CountGradientWays.f k n l q a b = some (cgwA n l q a b, cgwC n l q a b) := by
 unfold impl_CountGradientWays.f cgwA cgwC
 rw [implHas_is n l a hl k (by omega), implHas_is n l b hl k (by omega)]
 simp only [Option.bind_some]
 have hm : ∀ c, c = (hasB l a && hasB l b) → ((impl_acyclicCode.f n l q c).bind fun t109 => (if t109 = 0 then ((impl_countWays.f k q a b).bind fun t110 => (some (t110, 0))) else (some (0, t109)))) = some (if acode n l q (hasB l a && hasB l b) = 0 then waysV q a b else 0, acode n l q (hasB l a && hasB l b)) := by
  intro c hc
  rw [hc, impl_acyclicCode.is n l q _ hl hq]
  simp only [Option.bind_some]
  by_cases hz : acode n l q (hasB l a && hasB l b) = 0
  ·obtain ⟨h1, _, h3, h4⟩ := acode_zero hz
   rw [if_pos hz, if_pos hz, (ways_both (ping_good h1 h3) h4 a b k (by omega)).1, hz]
   rfl
  ·rw [if_neg hz, if_neg hz]
 cases ha : hasB l a with
 | true =>
  rw [ha] at hm
  rw [if_pos rfl]
  exact hm _ (by simp)
 | false =>
  rw [ha] at hm
  rw [if_neg (by simp)]
  exact hm _ (by simp)

end Go.Proofs.Ytniikppojffiaaa.K
end

section
/- The walk through the law FnExactCountGradientWays. -/
namespace Go.Proofs.Ytniikppojffiaaa.K
open Go.RowKit Go.Shelf Go.Proofs.Ytniikppojffiaaa.Q Go.Proofs.Ytniikppojffiaaa.G Go.Proofs.Ytniikppojffiaaa.H Go.Proofs.Ytniikppojffiaaa.X Go.Proofs.YtniikppojffiaaaW.PrintWords Go.Proofs.YtniikppojffiaaaW.PrintLast Go.Proofs.YtniikppojffiaaaW.PrintMore
set_option linter.unusedVariables false
set_option linter.unusedSimpArgs false

set_option maxRecDepth 100000 in
set_option maxHeartbeats 8000000 in
theorem LCountGradientWays_b0 (n0 : Int) (A0 : Option Addr) (c0 : Nat) (l0 : List Int) (A1 : Option Addr) (c1 : Nat) (l1 : List S53) (n2 : Int) (n3 : Int) (w : World) (hr0 : Ki.C w A0 l0.length l0) (hc0 : l0.length ≤ c0) (hr1 : Kq.C w A1 l1.length l1) (hc1 : l1.length ≤ c1)   (hz : (1048576 : Int) < (l0.length : Int)) :
  Calls Try.prog 9 #[.agg #[I n0, .slice A0 l0.length c0], .slice A1 l1.length c1, I n2, I n3] w fun e w' => e = .returned (.bool true) ∧ Grew w w' := by
 have hbig0 := hr0.2.1
 have HR0 := Aside0.mk hr0
 have HC0 := Aside0.mk hc0
 clear hr0 hc0
 have hbig1 := hr1.2.1
 have HR1 := Aside0.mk hr1
 have HC1 := Aside0.mk hc1
 clear hr1 hc1
 obtain ⟨W0, hW0⟩ : ∃ W0, W0 = (w.alloc (.cells #[I n0, .slice A0 l0.length c0] 24)) := ⟨_, rfl⟩
 have hb_p0 : (Item.box w.heap.size 24 #[I n0, .slice A0 l0.length c0]).ok W0 := by
  rw [hW0]
  have := blk_new w (.cells #[I n0, .slice A0 l0.length c0] 24)
  exact this
 have HM0 : Aside0 (Mem W0 [.box w.heap.size 24 #[I n0, .slice A0 l0.length c0]]) := ⟨Mem.cons (it := .box w.heap.size 24 #[I n0, .slice A0 l0.length c0]) hb_p0 (Mem.nil _)⟩
 have HG0 : Aside0 (Grew w W0) := ⟨by rw [hW0]; exact below_alloc (Grew.refl w) _⟩
 have hs0 : W0.heap.size = w.heap.size + 1 := by rw [hW0]; simp
 clear hb_p0
 have H0 := Aside0.mk (szC_calls n0 A0 c0 l0 (1048576 : Int) (by omega) W0 (Kd.C_below HR0.out HG0.out) HC0.out)
 rw [if_pos (by omega)] at H0
 have p0_0 : W0.cell? ⟨w.heap.size, 0, none⟩ = some (I n0) := blk_cell HM0.out.head 0
 have p0_1 : W0.cell? ⟨w.heap.size, 1, none⟩ = some (.slice A0 l0.length c0) := blk_cell HM0.out.head 1
 subst hW0
 go_enter Try.func9, Try.ntmps9
 go_wp2_with fail
 refine H0.out.mono ?_
 rintro e w1 ⟨rfl, hG1⟩
 clear p0_0 p0_1
 have HM1 := Aside0.mk (HM0.out.grew hG1)
 have HG1 := Aside0.mk (Grew.trans HG0.out hG1)
 have hs1 := hG1.size
 try simp at hs1
 clear hG1 H0
 go_wp2_with fail
 go_ret
 exact ⟨rfl, HG1.out⟩

set_option maxRecDepth 100000 in
set_option maxHeartbeats 8000000 in
theorem LCountGradientWays_b1 (n0 : Int) (A0 : Option Addr) (c0 : Nat) (l0 : List Int) (A1 : Option Addr) (c1 : Nat) (l1 : List S53) (n2 : Int) (n3 : Int) (w : World) (hr0 : Ki.C w A0 l0.length l0) (hc0 : l0.length ≤ c0) (hr1 : Kq.C w A1 l1.length l1) (hc1 : l1.length ≤ c1)  (hl0 : ¬ (1048576 : Int) < (l0.length : Int)) (hz : ((1048576 : Int) - (l0.length : Int)) < (l1.length : Int)) :
  Calls Try.prog 9 #[.agg #[I n0, .slice A0 l0.length c0], .slice A1 l1.length c1, I n2, I n3] w fun e w' => e = .returned (.bool true) ∧ Grew w w' := by
 have hbig0 := hr0.2.1
 have HR0 := Aside0.mk hr0
 have HC0 := Aside0.mk hc0
 clear hr0 hc0
 have hbig1 := hr1.2.1
 have HR1 := Aside0.mk hr1
 have HC1 := Aside0.mk hc1
 clear hr1 hc1
 obtain ⟨W0, hW0⟩ : ∃ W0, W0 = (w.alloc (.cells #[I n0, .slice A0 l0.length c0] 24)) := ⟨_, rfl⟩
 have hb_p0 : (Item.box w.heap.size 24 #[I n0, .slice A0 l0.length c0]).ok W0 := by
  rw [hW0]
  have := blk_new w (.cells #[I n0, .slice A0 l0.length c0] 24)
  exact this
 have HM0 : Aside0 (Mem W0 [.box w.heap.size 24 #[I n0, .slice A0 l0.length c0]]) := ⟨Mem.cons (it := .box w.heap.size 24 #[I n0, .slice A0 l0.length c0]) hb_p0 (Mem.nil _)⟩
 have HG0 : Aside0 (Grew w W0) := ⟨by rw [hW0]; exact below_alloc (Grew.refl w) _⟩
 have hs0 : W0.heap.size = w.heap.size + 1 := by rw [hW0]; simp
 clear hb_p0
 have H0 := Aside0.mk (szC_calls n0 A0 c0 l0 (1048576 : Int) (by omega) W0 (Kd.C_below HR0.out HG0.out) HC0.out)
 rw [if_neg (by omega)] at H0
 have p0_0 : W0.cell? ⟨w.heap.size, 0, none⟩ = some (I n0) := blk_cell HM0.out.head 0
 have p0_1 : W0.cell? ⟨w.heap.size, 1, none⟩ = some (.slice A0 l0.length c0) := blk_cell HM0.out.head 1
 subst hW0
 go_enter Try.func9, Try.ntmps9
 have hneg0 : ¬ (((1048576 : Int) - (l0.length : Int)) < 0) := by omega
 go_wp2_with fail
 refine H0.out.mono ?_
 rintro e w1 ⟨rfl, hG1⟩
 clear p0_0 p0_1
 have HM1 := Aside0.mk (HM0.out.grew hG1)
 have HG1 := Aside0.mk (Grew.trans HG0.out hG1)
 have hs1 := hG1.size
 try simp at hs1
 clear hG1 H0
 have H1 := Aside0.mk (szP_calls A1 c1 l1 ((1048576 : Int) - (l0.length : Int)) (by omega) w1 (Kd.C_below HR1.out HG1.out) HC1.out)
 rw [if_pos (by omega)] at H1
 go_wp2_with fail
 refine H1.out.mono ?_
 rintro e w2 ⟨rfl, hG2⟩
 have HM2 := Aside0.mk (HM1.out.grew hG2)
 have HG2 := Aside0.mk (Grew.trans HG1.out hG2)
 have hs2 := hG2.size
 clear hG2 H1
 go_wp2_with fail
 go_ret
 exact ⟨rfl, HG2.out⟩

set_option maxRecDepth 100000 in
set_option maxHeartbeats 8000000 in
theorem LCountGradientWays_main (n0 : Int) (A0 : Option Addr) (c0 : Nat) (l0 : List Int) (A1 : Option Addr) (c1 : Nat) (l1 : List S53) (n2 : Int) (n3 : Int) (w : World) (hr0 : Ki.C w A0 l0.length l0) (hc0 : l0.length ≤ c0) (hr1 : Kq.C w A1 l1.length l1) (hc1 : l1.length ≤ c1)  (hl0 : ¬ (1048576 : Int) < (l0.length : Int)) (hl1 : ¬ ((1048576 : Int) - (l0.length : Int)) < (l1.length : Int)) :
  Calls Try.prog 9 #[.agg #[I n0, .slice A0 l0.length c0], .slice A1 l1.length c1, I n2, I n3] w fun e w' => e = .returned (.bool true) ∧ Grew w w' := by
  obtain ⟨r0, r1, HS, HI⟩ : ∃ (r0 : Int) (r1 : Int), Aside0 (∀ W A0 c0 A1 c1, Ki.C W A0 l0.length l0 → l0.length ≤ c0 → Kq.C W A1 l1.length l1 → l1.length ≤ c1 → Calls Try.prog 40 #[.agg #[I n0, .slice A0 l0.length c0], .slice A1 l1.length c1, I n2, I n3] W fun e w' => e = .returned (.tuple #[I r0, I r1]) ∧ Grew W w') ∧ Aside0 (∀ W A0 c0 A1 c1, Ki.C W A0 l0.length l0 → l0.length ≤ c0 → Kq.C W A1 l1.length l1 → l1.length ≤ c1 → Calls Try.prog 41 #[.agg #[I n0, .slice A0 l0.length c0], .slice A1 l1.length c1, I n2, I n3] W fun e w' => e = .returned (.tuple #[I r0, I r1]) ∧ Grew W w') := by
   have hbig0 := hr0.2.1
   have hbig1 := hr1.2.1
   have hS := fun (W : World) (A0 : Option Addr) (c0 : Nat) (A1 : Option Addr) (c1 : Nat) (hr0 : Ki.C W A0 l0.length l0) (hc0 : l0.length ≤ c0) (hr1 : Kq.C W A1 l1.length l1) (hc1 : l1.length ≤ c1) => spec_CountGradientWays.calls (isK l0 + pgK l0 l1 + 7000) n0 A0 c0 l0 A1 c1 l1 n2 n3 _ _ W hr0 hc0 hr1 hc1 (specCGW_is n0 l0 l1 n2 n3 (by omega) (by omega) _ (Nat.le_refl _))
   have hI := fun (W : World) (A0 : Option Addr) (c0 : Nat) (A1 : Option Addr) (c1 : Nat) (hr0 : Ki.C W A0 l0.length l0) (hc0 : l0.length ≤ c0) (hr1 : Kq.C W A1 l1.length l1) (hc1 : l1.length ≤ c1) => impl_CountGradientWays.calls (isK l0 + pgK l0 l1 + 7000 + l0.length) n0 A0 c0 l0 A1 c1 l1 n2 n3 _ _ W hr0 hc0 hr1 hc1 (implCGW_is n0 l0 l1 n2 n3 (by omega) (by omega) _ (Nat.le_refl _))
   exact ⟨(cgwA n0 l0 l1 n2 n3), (cgwC n0 l0 l1 n2 n3), ⟨hS⟩, ⟨hI⟩⟩
  have hbig0 := hr0.2.1
  have HR0 := Aside0.mk hr0
  have HC0 := Aside0.mk hc0
  clear hr0 hc0
  have hbig1 := hr1.2.1
  have HR1 := Aside0.mk hr1
  have HC1 := Aside0.mk hc1
  clear hr1 hc1
  obtain ⟨W0, hW0⟩ : ∃ W0, W0 = (w.alloc (.cells #[I n0, .slice A0 l0.length c0] 24)) := ⟨_, rfl⟩
  have hb_p0 : (Item.box w.heap.size 24 #[I n0, .slice A0 l0.length c0]).ok W0 := by
   rw [hW0]
   have := blk_new w (.cells #[I n0, .slice A0 l0.length c0] 24)
   exact this
  have HM0 : Aside0 (Mem W0 [.box w.heap.size 24 #[I n0, .slice A0 l0.length c0]]) := ⟨Mem.cons (it := .box w.heap.size 24 #[I n0, .slice A0 l0.length c0]) hb_p0 (Mem.nil _)⟩
  have HG0 : Aside0 (Grew w W0) := ⟨by rw [hW0]; exact below_alloc (Grew.refl w) _⟩
  have hs0 : W0.heap.size = w.heap.size + 1 := by rw [hW0]; simp
  clear hb_p0
  have H0 := Aside0.mk (szC_calls n0 A0 c0 l0 (1048576 : Int) (by omega) W0 (Kd.C_below HR0.out HG0.out) HC0.out)
  rw [if_neg (by omega)] at H0
  have p0_0 : W0.cell? ⟨w.heap.size, 0, none⟩ = some (I n0) := blk_cell HM0.out.head 0
  have p0_1 : W0.cell? ⟨w.heap.size, 1, none⟩ = some (.slice A0 l0.length c0) := blk_cell HM0.out.head 1
  subst hW0
  go_enter Try.func9, Try.ntmps9
  have hneg0 : ¬ (((1048576 : Int) - (l0.length : Int)) < 0) := by omega
  go_wp2_with fail
  refine H0.out.mono ?_
  rintro e w1 ⟨rfl, hG1⟩
  clear p0_0 p0_1
  have HM1 := Aside0.mk (HM0.out.grew hG1)
  have HG1 := Aside0.mk (Grew.trans HG0.out hG1)
  have hs1 := hG1.size
  try simp at hs1
  clear hG1 H0
  have H1 := Aside0.mk (szP_calls A1 c1 l1 ((1048576 : Int) - (l0.length : Int)) (by omega) w1 (Kd.C_below HR1.out HG1.out) HC1.out)
  rw [if_neg (by omega)] at H1
  have hneg1 : ¬ ((((1048576 : Int) - (l0.length : Int)) - (l1.length : Int)) < 0) := by omega
  go_wp2_with fail
  refine H1.out.mono ?_
  rintro e w2 ⟨rfl, hG2⟩
  have HM2 := Aside0.mk (HM1.out.grew hG2)
  have HG2 := Aside0.mk (Grew.trans HG1.out hG2)
  have hs2 := hG2.size
  clear hG2 H1
  have p0_0 : w2.cell? ⟨w.heap.size, 0, none⟩ = some (I n0) := blk_cell HM2.out.head 0
  have p0_1 : w2.cell? ⟨w.heap.size, 1, none⟩ = some (.slice A0 l0.length c0) := blk_cell HM2.out.head 1
  go_wp2_with fail
  clear p0_0 p0_1
  refine (toC_calls n0 A0 c0 l0 w2 (Kd.C_below HR0.out HG2.out) HC0.out (by omega)).mono ?_
  rintro e w3 ⟨AS0, cS0, rfl, hR3, hG3⟩
  have HM3 : Aside0 (Mem w3 [.row w2.heap.size w3.heap.size (.slice AS0 l0.length cS0) l0, .box w.heap.size 24 #[I n0, .slice A0 l0.length c0]]) := ⟨Mem.cons (it := .row w2.heap.size w3.heap.size (.slice AS0 l0.length cS0) l0) (hR3) (HM2.out.grew hG3)⟩
  have HG3 := Aside0.mk (Grew.trans HG2.out hG3)
  have hs3 := hG3.size
  clear hG3 
  go_wp2_with fail
  refine (toP_calls A1 c1 l1 w3 (Kd.C_below HR1.out HG3.out) HC1.out (by omega)).mono ?_
  rintro e w4 ⟨AS1, cS1, rfl, hR4, hG4⟩
  have HM4 : Aside0 (Mem w4 [.prow w3.heap.size w4.heap.size (.slice AS1 l1.length cS1) l1, .row w2.heap.size w3.heap.size (.slice AS0 l0.length cS0) l0, .box w.heap.size 24 #[I n0, .slice A0 l0.length c0]]) := ⟨Mem.cons (it := .prow w3.heap.size w4.heap.size (.slice AS1 l1.length cS1) l1) (hR4) (HM3.out.grew hG4)⟩
  have HG4 := Aside0.mk (Grew.trans HG3.out hG4)
  have hs4 := hG4.size
  clear hG4 
  go_wp2_with fail
  refine (HS.out w4 AS0 cS0 AS1 cS1 (Row.slice HM4.out.tail.head).2.2 (Row.slice HM4.out.tail.head).2.1 (PRow.slice HM4.out.head).2.2 (PRow.slice HM4.out.head).2.1).mono ?_
  rintro e w5 ⟨rfl, hG5⟩
  have HM5 := Aside0.mk (HM4.out.grew hG5)
  have HG5 := Aside0.mk (Grew.trans HG4.out hG5)
  have hs5 := hG5.size
  clear hG5
  have p0_0 : w5.cell? ⟨w.heap.size, 0, none⟩ = some (I n0) := blk_cell HM5.out.tail.tail.head 0
  have p0_1 : w5.cell? ⟨w.heap.size, 1, none⟩ = some (.slice A0 l0.length c0) := blk_cell HM5.out.tail.tail.head 1
  go_wp2_with fail
  clear p0_0 p0_1
  refine (toC_calls n0 A0 c0 l0 w5 (Kd.C_below HR0.out HG5.out) HC0.out (by omega)).mono ?_
  rintro e w6 ⟨Ax0, cx0, rfl, hR6, hG6⟩
  have HM6 : Aside0 (Mem w6 [.row w5.heap.size w6.heap.size (.slice Ax0 l0.length cx0) l0, .prow w3.heap.size w4.heap.size (.slice AS1 l1.length cS1) l1, .row w2.heap.size w3.heap.size (.slice AS0 l0.length cS0) l0, .box w.heap.size 24 #[I n0, .slice A0 l0.length c0]]) := ⟨Mem.cons (it := .row w5.heap.size w6.heap.size (.slice Ax0 l0.length cx0) l0) (hR6) (HM5.out.grew hG6)⟩
  have HG6 := Aside0.mk (Grew.trans HG5.out hG6)
  have hs6 := hG6.size
  clear hG6 
  have HM7 : Aside0 (Mem (w6.alloc (.cells #[I n0, .slice Ax0 l0.length cx0] 30)) [.box w6.heap.size 30 #[I n0, .slice Ax0 l0.length cx0], .row w5.heap.size w6.heap.size (.slice Ax0 l0.length cx0) l0, .prow w3.heap.size w4.heap.size (.slice AS1 l1.length cS1) l1, .row w2.heap.size w3.heap.size (.slice AS0 l0.length cS0) l0, .box w.heap.size 24 #[I n0, .slice A0 l0.length c0]]) := ⟨Mem.cons (blk_new w6 _) (HM6.out.grew (below_alloc (Grew.refl w6) _))⟩
  have HG7 : Aside0 (Grew w (w6.alloc (.cells #[I n0, .slice Ax0 l0.length cx0] 30))) := ⟨Grew.trans HG6.out (below_alloc (Grew.refl w6) _)⟩
  have hS7 : (w6.alloc (.cells #[I n0, .slice Ax0 l0.length cx0] 30)).heap.size = w6.heap.size + 1 := by simp
  go_wp2_with fail
  generalize (w6.alloc (.cells #[I n0, .slice Ax0 l0.length cx0] 30)) = W7 at HM7 HG7 hS7  ⊢
  refine (toP_calls A1 c1 l1 W7 (Kd.C_below HR1.out HG7.out) HC1.out (by omega)).mono ?_
  rintro e w8 ⟨Ax1, cx1, rfl, hR8, hG8⟩
  have HM8 : Aside0 (Mem w8 [.prow W7.heap.size w8.heap.size (.slice Ax1 l1.length cx1) l1, .box w6.heap.size 30 #[I n0, .slice Ax0 l0.length cx0], .row w5.heap.size w6.heap.size (.slice Ax0 l0.length cx0) l0, .prow w3.heap.size w4.heap.size (.slice AS1 l1.length cS1) l1, .row w2.heap.size w3.heap.size (.slice AS0 l0.length cS0) l0, .box w.heap.size 24 #[I n0, .slice A0 l0.length c0]]) := ⟨Mem.cons (it := .prow W7.heap.size w8.heap.size (.slice Ax1 l1.length cx1) l1) (hR8) (HM7.out.grew hG8)⟩
  have HG8 := Aside0.mk (Grew.trans HG7.out hG8)
  have hs8 := hG8.size
  clear hG8 
  have bx0_0 : w8.cell? ⟨w6.heap.size, 0, none⟩ = some (I n0) := blk_cell HM8.out.tail.head 0
  have bx0_1 : w8.cell? ⟨w6.heap.size, 1, none⟩ = some (.slice Ax0 l0.length cx0) := blk_cell HM8.out.tail.head 1
  go_wp2_with fail
  clear bx0_0 bx0_1
  refine (HI.out w8 Ax0 cx0 Ax1 cx1 (Row.slice HM8.out.tail.tail.head).2.2 (Row.slice HM8.out.tail.tail.head).2.1 (PRow.slice HM8.out.head).2.2 (PRow.slice HM8.out.head).2.1).mono ?_
  rintro e w9 ⟨rfl, hG9⟩
  have HM9 := Aside0.mk (HM8.out.grew hG9)
  have HG9 := Aside0.mk (Grew.trans HG8.out hG9)
  have hs9 := hG9.size
  clear hG9
  go_wp2_with fail
  have bx0_0 : w9.cell? ⟨w6.heap.size, 0, none⟩ = some (I n0) := blk_cell HM9.out.tail.head 0
  have bx0_1 : w9.cell? ⟨w6.heap.size, 1, none⟩ = some (.slice Ax0 l0.length cx0) := blk_cell HM9.out.tail.head 1
  have p0_0 : w9.cell? ⟨w.heap.size, 0, none⟩ = some (I n0) := blk_cell HM9.out.tail.tail.tail.tail.tail.head 0
  have p0_1 : w9.cell? ⟨w.heap.size, 1, none⟩ = some (.slice A0 l0.length c0) := blk_cell HM9.out.tail.tail.tail.tail.tail.head 1
  have hlx : w6.heap.size < w9.heap.size := World.block_lt_of_cell? w9 _ bx0_0
  have hlp : w.heap.size < w9.heap.size := World.block_lt_of_cell? w9 _ p0_0
  go_region_held3 (fun w' => w'.cell? ⟨w6.heap.size, 0, none⟩ = some (I n0) ∧ w'.cell? ⟨w6.heap.size, 1, none⟩ = some (.slice Ax0 l0.length cx0) ∧ w'.cell? ⟨w.heap.size, 0, none⟩ = some (I n0) ∧ w'.cell? ⟨w.heap.size, 1, none⟩ = some (.slice A0 l0.length c0))
   (first | exact ⟨(HDb.out.cell (p := ⟨w6.heap.size, 0, none⟩) hlx).trans bx0_0, (HDb.out.cell (p := ⟨w6.heap.size, 1, none⟩) hlx).trans bx0_1, (HDb.out.cell (p := ⟨w.heap.size, 0, none⟩) hlp).trans p0_0, (HDb.out.cell (p := ⟨w.heap.size, 1, none⟩) hlp).trans p0_1⟩ | exact ⟨(HDa.out.cell (p := ⟨w6.heap.size, 0, none⟩) hlx).trans bx0_0, (HDa.out.cell (p := ⟨w6.heap.size, 1, none⟩) hlx).trans bx0_1, (HDa.out.cell (p := ⟨w.heap.size, 0, none⟩) hlp).trans p0_0, (HDa.out.cell (p := ⟨w.heap.size, 1, none⟩) hlp).trans p0_1⟩ | go_keep)
   (first
    | (go_at_call 20; refine (toC_calls n0 A0 c0 l0 _ (Kd.C_below HR0.out (Below.trans HG9.out ((Below.refl _ w9).drew))) HC0.out (by omega)).mono ?_; rintro e w10 ⟨Aq0, cq0, rfl, hRa, hGa⟩; have HDa : Aside0 (Grew w9 w10) := ⟨Below.trans ((Below.refl _ w9).drew) hGa⟩; have HRa := Aside0.mk hRa; clear hRa hGa)
    | (go_at_call 23; refine (eqC_calls n0 l0 Ax0 Aq0 cx0 cq0 _ _ _ _ _ _ w10 (HM9.out.grew HDa.out).tail.tail.head HRa.out).mono ?_; rintro e w11 ⟨rfl, hGb⟩; have HDb : Aside0 (Grew w9 w11) := ⟨Grew.trans HDa.out hGb⟩; clear hGb))
  clear bx0_0 bx0_1 p0_0 p0_1
  have hG11 := HDb.out
  clear hlx hlp HDa HDb HRa
  have HM11 := Aside0.mk (HM9.out.grew hG11)
  have HG11 := Aside0.mk (Grew.trans HG9.out hG11)
  have hs11 := hG11.size
  clear hG11
  go_wp2_with fail
  refine (toP_calls A1 c1 l1 w11 (Kd.C_below HR1.out HG11.out) HC1.out (by omega)).mono ?_
  rintro e w12 ⟨Ay1, cy1, rfl, hR12, hG12⟩
  have HM12 : Aside0 (Mem w12 [.prow w11.heap.size w12.heap.size (.slice Ay1 l1.length cy1) l1, .prow W7.heap.size w8.heap.size (.slice Ax1 l1.length cx1) l1, .box w6.heap.size 30 #[I n0, .slice Ax0 l0.length cx0], .row w5.heap.size w6.heap.size (.slice Ax0 l0.length cx0) l0, .prow w3.heap.size w4.heap.size (.slice AS1 l1.length cS1) l1, .row w2.heap.size w3.heap.size (.slice AS0 l0.length cS0) l0, .box w.heap.size 24 #[I n0, .slice A0 l0.length c0]]) := ⟨Mem.cons (it := .prow w11.heap.size w12.heap.size (.slice Ay1 l1.length cy1) l1) (hR12) (HM11.out.grew hG12)⟩
  have HG12 := Aside0.mk (Grew.trans HG11.out hG12)
  have hs12 := hG12.size
  clear hG12 
  go_wp2_with fail
  refine (eqP_calls l1 Ax1 Ay1 cx1 cy1 _ _ _ _ _ _ w12 HM12.out.tail.head HM12.out.head).mono ?_
  rintro e w13 ⟨rfl, hG13⟩
  have HM13 := Aside0.mk (HM12.out.grew hG13)
  have HG13 := Aside0.mk (Grew.trans HG12.out hG13)
  have hs13 := hG13.size
  clear hG13
  go_wp2_with fail
  go_ret
  exact ⟨rfl, HG13.out⟩

theorem LCountGradientWays_calls (n0 : Int) (A0 : Option Addr) (c0 : Nat) (l0 : List Int) (A1 : Option Addr) (c1 : Nat) (l1 : List S53) (n2 : Int) (n3 : Int) (w : World) (hr0 : Ki.C w A0 l0.length l0) (hc0 : l0.length ≤ c0) (hr1 : Kq.C w A1 l1.length l1) (hc1 : l1.length ≤ c1) :
  Calls Try.prog 9 #[.agg #[I n0, .slice A0 l0.length c0], .slice A1 l1.length c1, I n2, I n3] w fun e w' => e = .returned (.bool true) ∧ Grew w w' := by
 by_cases hl0 : (1048576 : Int) < (l0.length : Int)
 ·exact LCountGradientWays_b0 n0 A0 c0 l0 A1 c1 l1 n2 n3 w hr0 hc0 hr1 hc1   hl0
 by_cases hl1 : ((1048576 : Int) - (l0.length : Int)) < (l1.length : Int)
 ·exact LCountGradientWays_b1 n0 A0 c0 l0 A1 c1 l1 n2 n3 w hr0 hc0 hr1 hc1  hl0 hl1
 exact LCountGradientWays_main n0 A0 c0 l0 A1 c1 l1 n2 n3 w hr0 hc0 hr1 hc1  hl0 hl1

end Go.Proofs.Ytniikppojffiaaa.K
end

section

namespace Go.Proofs.Ytniikppojffiaaa.fnExactCountGradientWays
open Go.ChangeShapes Go.WideShapes Go.ChangeAt Go.RowKit Go.Joins Go.Proofs.Ytniikppojffiaaa.K Go.Proofs.YtniikppojffiaaaW.PrintWords
open Go.ChangeMaps (open_string shut_string)
set_option linter.unusedVariables false
set_option maxRecDepth 100000 in
theorem lifted (os : Os) (started : os.Started) (H : Type) (enc : TypeId × Value → H) :
  ReturnsInHanded {} Try.checked os 9 .any (Rows.fnExactCountGradientWaysSpec.pre6 enc Try.prog Try.f9 Rows.fnExactCountGradientWaysRow.domain false) (Rows.fnExactCountGradientWaysSpec.post enc Try.prog Try.f9 false true false false) := by
 refine returnsInHanded_of_change_sized (C := Try.checked) ownKnob_none started (by kernel_rfl) Try.func9
  (ChangeSpec.witness6 (enc := enc) (C := Try.checked) false ⟨#[], #[.agg #[.int .i64 0, .slice none 0 0], .slice none 0 0, .int .i64 0, .int .i64 0], []⟩ 8 (by kernel_rfl) (by kernel_rfl) (by kernel_rfl) (by kernel_rfl)) ?_
 intro W base args ds gs before hval0 hW hcnd hsz0 _
 have hsz : (DataW.weightsEach Try.prog (Try.f9.params.toList ++ Rows.fnExactCountGradientWaysSpec.plain.varTypes Try.prog) (ds ++ gs)).all (· ≤ reachBytes) = true := hsz0
 have hval : ∀ (j : Nat) t v, Try.f9.params[j]? = some t → args[j]? = some v → Value.okWide Try.prog W .any base t v := hval0
 have hW' := hW
 obtain ⟨p, q, hA0, hV, rfl, hfz, hnd⟩ := hW
 have hA : DataW.TrodAll enc Try.prog W 0 (fun _ => true) true Try.f9.params.toList args.toList ds p := hA0
 rw [Try.params9] at hA hval hsz
 obtain ⟨v0, vs0, d0, ds0, p0, q0, hargs, rfl, rfl, h0, r0⟩ := trodAll_cons hA
 obtain ⟨v1, vs1, d1, ds1, p1, q1, rfl, rfl, rfl, h1, r1⟩ := trodAll_cons r0
 obtain ⟨v2, vs2, d2, ds2, p2, q2, rfl, rfl, rfl, h2, r2⟩ := trodAll_cons r1
 obtain ⟨v3, vs3, d3, ds3, p3, q3, rfl, rfl, rfl, h3, r3⟩ := trodAll_cons r2
 obtain ⟨rfl, rfl, rfl⟩ := trodAll_nil r3
 obtain rfl : args = #[v0, v1, v2, v3] := by cases args; simp_all
 obtain ⟨rfl, rfl⟩ := trodVars_none hV
 have k0 := h0
 have lt0 : ∀ x ∈ p0, x.block < W.heap.size := by obtain ⟨m, hm⟩ := k0; exact DataW.trod_lt m _ _ _ hm
 obtain ⟨x0, z0, y0_0, y1_0, m0, hv0, hd0, hp0, hy0_0, hy1_0⟩ := open_agg2 Try.underlying24 (by kernel_rfl) (show Try.prog.cellsOf 24 = 2 by kernel_rfl) (hval 0 24 v0 rfl rfl) h0
 obtain ⟨n0, e0_0, _, w0⟩ := DataW.trod_int Try.underlying2 hy0_0
 obtain ⟨A0, c0, l0, e1_0, hc0, hr0, _⟩ := ints_open hy1_0
 simp only [List.cons.injEq, and_true] at e0_0
 subst e0_0 e1_0
 subst hv0
 have k1 := h1
 have lt1 : ∀ x ∈ p1, x.block < W.heap.size := by obtain ⟨m, hm⟩ := k1; exact DataW.trod_lt m _ _ _ hm
 obtain ⟨a1, len1, cap1, hv1⟩ := okWide_slice Try.underlying25 (hval 1 25 v1 rfl rfl)
 obtain ⟨A1, c1, l1, e1, hc1, hr1⟩ : ∃ A c l, v1 = .slice A l.length c ∧ l.length ≤ c ∧ Kq.C W A l.length l := by
  obtain ⟨fuel, hf⟩ := h1
  subst hv1
  exact pairs_open hf
 subst e1
 obtain ⟨n2, rfl, rfl, rfl, w2⟩ := open_int Try.underlying2 (hval 2 2 v2 rfl rfl) h2
 obtain ⟨n3, rfl, rfl, rfl, w3⟩ := open_int Try.underlying2 (hval 3 2 v3 rfl rfl) h3
 clear hA0 hval0 hsz0 hsz
 refine (K.LCountGradientWays_calls n0 A0 c0 l0 A1 c1 l1 n2 n3 W hr0 hc0 hr1 hc1).mono fun e W' ⟨he, bel0⟩ => ?_
 have bel : Below W.heap.size W W' := bel0
 subst he
 exact ⟨_, rfl, _, _, _, [], _, [], hW', trodAll_mk1 (shut_bool Try.underlying4 _), (trodAll_cons_mk (Below.trod laidOut (by kernel_rfl) (of_decide_eq_true (by kernel_rfl)) k0 bel lt0) (trodAll_cons_mk (Below.trod laidOut (by kernel_rfl) (of_decide_eq_true (by kernel_rfl)) k1 bel lt1) (trodAll_cons_mk (shut_int Try.underlying2 w2) (trodAll_cons_mk (shut_int Try.underlying2 w3) trodAll_mk0)))), rfl, bel.frame _, fun h => by cases h⟩
set_option maxRecDepth 100000 in
theorem starts : ∃ r, behindMainWord (wordsSigns Try.prog.initOrder.toList) = "cut".toList :: r := by
 have h : Try.prog.initOrder = String.ofList _ := rfl
 rw [h, String.toList_ofList, signs_take 7 _ rfl rfl, signs_take 64 _ rfl rfl, signs_take 3 _ rfl rfl]
 generalize wordsSigns _ = r
 exact ⟨r, by kernel_rfl⟩
set_option maxRecDepth 100000 in
theorem closed : joinedFacts Try.prog 9 Try.f9 Rows.fnExactCountGradientWaysSpec Rows.fnExactCountGradientWaysRow = true := by
 obtain ⟨r, h⟩ := starts
 unfold joinedFacts
 rw [cut_enter _ r h (by kernel_rfl) (by kernel_rfl) (by kernel_rfl), cut_make _ r h, cut_lifts _ r h]
 exact of_decide_eq_true (by kernel_rfl)
theorem over : Rows.fnExactCountGradientWaysRow.holds Try.pinned (OpenSpec.ofChange Rows.fnExactCountGradientWaysSpec) :=
 OpenClaim.holds_of_wide 9 Try.f9 rfl rfl rfl rfl rfl rfl rfl ⟨rfl, rfl, rfl, rfl, rfl⟩ rfl rfl rfl rfl rfl (by kernel_rfl) Try.func9 closed
  (of_decide_eq_true (by kernel_rfl)) (by unfold Func.isWrapper; first | (rw [if_pos (by decide +kernel)]; kernel_rfl) | (rw [if_neg (by decide +kernel)]; exact ⟨rfl, rfl⟩))
  (fun os started H enc _ => lifted os started H enc)
theorem proved : Rows.FnExactCountGradientWaysSaid := over
#print axioms proved
end Go.Proofs.Ytniikppojffiaaa.fnExactCountGradientWays
namespace Go.Proofs.Ytniikppojffiaaa
theorem fnExactCountGradientWays_holds : Rows.FnExactCountGradientWaysSaid := fnExactCountGradientWays.proved
end Go.Proofs.Ytniikppojffiaaa
end
