/- The row of the law FnExactComponentsOf: for every input the law answers true, and the arguments read as before. No conditions. -/
import Derived.Test.YthganpmmhfoodaaGComponentsOf2
import Derived.Below
import Derived.Deep.Draws
import Derived.Deep.AppendLies
import Derived.Maps.AppendAt
import Derived.OwnWalk
import Derived.Laws.BytesArg
import Derived.Laws.MakeOwn
import Derived.Laws.OwnMore
import Derived.Deep.OwnRows
import Derived.Tactics
import Derived.Lib.ConvBytes
import Derived.Laws.Slices
import Derived.WalkKit
import Derived.KernelRfl
import Derived.RowKit3
import Derived.Deep.LoopGhost
import Derived.Deep.QuietTactic
import Derived.BigQuiet
import Derived.WideLaws
import Derived.Deep.DeepCutAuto
import Derived.Deep.CutBlock
import Derived.Deep.RegionHeld3
import Derived.Laws.Rows
import Derived.Lib.AppendStr
import Derived.ArgAppend
import Derived.Laws.IdiomCopy
import Derived.RowKit
import Derived.OrdersHeld
import Derived.Laws.BitsLemmas
import Derived.Laws.StructEq
import Derived.Test.YthganpmmhfoodaaProg
import Derived.Shelf.Abstract
import Derived.RangeFuncBox
import Derived.RangeFuncLeaves
import Derived.OwnWalkIn
import Derived.TacticsInMore
import Derived.LoopNIn
import Derived.LoopIn
import Derived.Lib.SliceRun
import Derived.Test.YthganpmmhfoodaaRows
import Derived.ProofKit
import Derived.OpenShut
import Derived.ShutString
import Derived.ChangeOld
import Derived.SizedLaws
import Derived.Lib.SmallJoins
section
/- Written by a program of this session (myprint.py over the kit's print). -/
namespace Go.Proofs.Ythganpmmhfoodaa.Q
open Go.RowKit Go.Proofs.YthganpmmhfoodaaW.PrintWords Go.Proofs.YthganpmmhfoodaaW.PrintLast Go.Proofs.YthganpmmhfoodaaW.PrintMore
attribute [local go_sem] max2_int min2_int max_two min_two max_three min_three max_four min_four   -- for this text's walks alone
set_option linter.unusedVariables false
set_option linter.unusedSimpArgs false

/-! ### spec_ComponentsOf: function 30 -/
def spec_ComponentsOf.f (k : Nat) (a0_0 : Int) (l0_1 : List Int) : Option (List Int × Int) := (spec_l01Is.f k a0_0 l0_1).bind fun t195 => (if t195 = true then ((spec_l01Components.f k a0_0 l0_1).bind fun t196 => (some (t196, 0))) else (some (([] : List Int), 1)))
theorem spec_ComponentsOf.mono : ∀ a0 a1 k, LeO (spec_ComponentsOf.f k a0 a1) (spec_ComponentsOf.f (k + 1) a0 a1) := by
  intro a0 a1 k
  unfold spec_ComponentsOf.f
  repeat' first
      | (with_reducible exact spec_l01Components.mono _ _ _)
      | (with_reducible exact spec_l01Is.mono _ _ _)
      | (with_reducible exact LeO.refl _)
      | (with_reducible exact LeO.none _)
      | (with_reducible refine LeO.ite ?_ ?_)
      | (with_reducible refine LeO.bind ?_ (fun _ => ?_))
      | exact spec_l01Components.mono _ _ _
      | exact spec_l01Is.mono _ _ _
      | exact LeO.none _
      | refine LeO.ite ?_ ?_
      | refine LeO.bind ?_ (fun _ => ?_)
set_option maxHeartbeats 8000000 in
set_option maxRecDepth 100000 in
theorem spec_ComponentsOf.calls (k : Nat) (a0_0 : Int) (A0_1 : Option Addr) (c0_1 : Nat) (l0_1 : List Int) (r1 : List Int) (r2 : Int) (w : World) (hr0_1 : Kd.C (Kd.int .i64) w A0_1 l0_1.length l0_1) (hc0_1 : l0_1.length ≤ c0_1) (h : spec_ComponentsOf.f k a0_0 l0_1 = some (r1, r2)) :
    Calls Try.prog 30 #[.agg #[.int .i64 a0_0, .slice A0_1 l0_1.length c0_1]] w fun e w' => ∃ v0_ : Value, e = .returned (.tuple #[v0_, .int .i64 r2]) ∧ Kd.R (Kd.int .i64) 2 w' w.heap.size (fun _ => True) v0_ r1 ∧ Below w.heap.size w w' := by
  have hu28 := Try.underlying28
  have HR0_1 := Aside0.mk hr0_1
  have HC0_1 := Aside0.mk hc0_1
  clear hr0_1 hc0_1
  have HB := Aside0.mk (Below.refl w.heap.size w)
  have H : ((spec_l01Is.f k a0_0 l0_1).bind fun t195 => (if t195 = true then ((spec_l01Components.f k a0_0 l0_1).bind fun t196 => (some (t196, 0))) else (some (([] : List Int), 1)))) = some (r1, r2) := h
  clear h
  replace H := Option.bind_eq_some_iff.mp H
  obtain ⟨t195, A20, H⟩ := H
  replace H : (if t195 = true then ((spec_l01Components.f k a0_0 l0_1).bind fun t196 => (some (t196, 0))) else (some (([] : List Int), 1))) = some (r1, r2) := H
  have A2 := Aside0.mk A20
  clear A20
  by_cases c3 : t195 = true
  · subst c3
    have H1 : ((spec_l01Components.f k a0_0 l0_1).bind fun t196 => (some (t196, 0))) = some (r1, r2) := by rw [if_pos rfl] at H; exact H
    clear H
    have H := H1
    clear H1
    replace H := Option.bind_eq_some_iff.mp H
    obtain ⟨t196, A40, H⟩ := H
    replace H : (some (t196, 0)) = some (r1, r2) := H
    have A4 := Aside0.mk A40
    clear A40
    simp only [Option.some.injEq, Prod.mk.injEq] at H
    obtain ⟨rfl, rfl⟩ := H
    go_enter Try.func30, Try.ntmps30
    go_wp2_with (first | ((with_reducible refine gate_dst (N := 1) rfl ?_); refine box_event ?hg (N := 1) ?hd (cs := #[.int .i64 a0_0, .slice A0_1 l0_1.length c0_1]) (t := 28) ?hr ?_; (case hd => rfl); (case hg => rfl); (case hr => first | (go_simp; done) | (go_simp; rfl)); intro gb194 hg w5 hbox hb; have n0_ := Aside0.mk (below_step (by repeat (first | (with_reducible first | exact HB.out | apply below_alloc | apply pw_below_drewN | apply below_drew1) | exact HB.out)) hb); have n1_ := Aside0.mk (hbox); have n2_ := Aside0.mk ((by rw [hg]; exact (below_size (by repeat (first | (with_reducible first | exact HB.out | apply below_alloc | apply pw_below_drewN | apply below_drew1) | exact HB.out))) : w.heap.size ≤ gb194)); have n3_ := Aside0.mk ((by rw [hg]; exact (below_size (by repeat (first | (with_reducible first | exact HB.out | apply below_alloc | apply pw_below_drewN | apply below_drew1) | exact HB.out))) : w.heap.size ≤ gb194)); clear HB; have HB := n0_; have BK194 := n1_; have GW194 := n2_; have GE194 := n3_; clear n0_ n1_ n2_ n3_; clear hb hbox hg; have hcz6_0 : w5.cell? ⟨gb194, 0, none⟩ = some (.int .i64 a0_0) := (blk_cell BK194.out 0).trans rfl; have hcz6_1 : w5.cell? ⟨gb194, 1, none⟩ = some (.slice A0_1 l0_1.length c0_1) := (blk_cell BK194.out 1).trans rfl; have hfz6_0 := blk_frozen BK194.out 0; have hfz6_1 := blk_frozen BK194.out 1) | ((with_reducible refine gate_callee (f := 52) rfl ?_); refine goesL_ (some 5) rfl rfl Try.func52 (by kernel_rfl) rfl #[.agg #[.int .i64 a0_0, .slice A0_1 l0_1.length c0_1]] rfl (by (try simp only [List.map_toArray, List.map_cons, List.map_nil]); first | done | rfl | (simp only [List.length_drop, List.length_take]; rfl)) ?_; (with_reducible refine (spec_l01Is.calls k a0_0 _ _ l0_1 true _ ?side1 ?side2 A2.out).mono ?_); (case side1 => repeat (first | exact (Kd.C_below HR0_1.out HB.out) | (with_reducible refine Kd.C_alloc ?_ _) | (with_reducible refine Kd.C_drewN ?_ _) | (with_reducible refine Kd.C_drew ?_))); (case side2 => exact HC0_1.out); rintro e w7 ⟨rfl, hb⟩; refine ⟨_, rfl, ?_⟩; have n0_ := Aside0.mk (blk_below (g := gb194) (o := .cells #[.int .i64 a0_0, .slice A0_1 l0_1.length c0_1] 28 (0, 0)) (by (with_reducible repeat (first | refine blk_drewN ?_ _ | refine blk_drew ?_ | refine blk_alloc ?_ _)); exact BK194.out) hb); have n1_ := Aside0.mk (below_step (by repeat (first | (with_reducible first | exact HB.out | apply below_alloc | apply pw_below_drewN | apply below_drew1 | refine below_set ?_ GE194.out) | exact HB.out)) hb); clear BK194; clear HB; have BK194 := n0_; have HB := n1_; clear n0_ n1_; (try clear hb); (try clear hb2); (try clear hk); (try clear hi); have hcz8_0 : w7.cell? ⟨gb194, 0, none⟩ = some (.int .i64 a0_0) := (blk_cell BK194.out 0).trans rfl; have hcz8_1 : w7.cell? ⟨gb194, 1, none⟩ = some (.slice A0_1 l0_1.length c0_1) := (blk_cell BK194.out 1).trans rfl; have hfz8_0 := blk_frozen BK194.out 0; have hfz8_1 := blk_frozen BK194.out 1) | ((with_reducible refine gate_callee (f := 67) rfl ?_); refine goesL_ (some 8) rfl rfl Try.func67 (by kernel_rfl) rfl #[.agg #[.int .i64 a0_0, .slice A0_1 l0_1.length c0_1]] rfl (by (try simp only [List.map_toArray, List.map_cons, List.map_nil]); first | done | rfl | (simp only [List.length_drop, List.length_take]; rfl)) ?_; (with_reducible refine (spec_l01Components.calls k a0_0 _ _ l0_1 t196 _ ?side1 ?side2 A4.out).mono ?_); (case side1 => repeat (first | exact (Kd.C_below HR0_1.out HB.out) | (with_reducible refine Kd.C_alloc ?_ _) | (with_reducible refine Kd.C_drewN ?_ _) | (with_reducible refine Kd.C_drew ?_))); (case side2 => exact HC0_1.out); rintro e w9 ⟨v197, rfl, ho0, hb⟩; refine ⟨_, rfl, ?_⟩; have n0_ := Aside0.mk (Kd.R_lower ho0 (below_size (by repeat (first | (with_reducible first | exact HB.out | apply below_alloc | apply pw_below_drewN | apply below_drew1 | refine below_set ?_ GE194.out) | exact HB.out)))); have n1_ := Aside0.mk (blk_below (g := gb194) (o := .cells #[.int .i64 a0_0, .slice A0_1 l0_1.length c0_1] 28 (0, 0)) (by (with_reducible repeat (first | refine blk_drewN ?_ _ | refine blk_drew ?_ | refine blk_alloc ?_ _)); exact BK194.out) hb); have n2_ := Aside0.mk (below_step (by repeat (first | (with_reducible first | exact HB.out | apply below_alloc | apply pw_below_drewN | apply below_drew1 | refine below_set ?_ GE194.out) | exact HB.out)) hb); clear BK194; clear HB; have HO198 := n0_; have BK194 := n1_; have HB := n2_; clear n0_ n1_ n2_; (try clear hb); (try clear hb2); (try clear hk); (try clear hi); (try clear ho0)))
    go_ret2
    exact ⟨_, by first | rfl | (simp [errW_none, errW_some] <;> rfl) | (simp [*, errW_none, errW_some] <;> rfl), by (with_reducible repeat (first | apply Kd.R_alloc | apply Kd.R_drewN | apply Kd.R_drew)); exact HO198.out, by repeat (first | (with_reducible first | exact HB.out | apply below_alloc | apply pw_below_drewN | apply below_drew1 | refine below_set ?_ GE194.out) | exact HB.out)⟩
  · replace c3 := Bool.eq_false_iff.mpr c3
    subst c3
    have H1 : (some (([] : List Int), 1)) = some (r1, r2) := by rw [if_neg (show ¬ (false = true) by decide)] at H; exact H
    clear H
    have H := H1
    clear H1
    simp only [Option.some.injEq, Prod.mk.injEq] at H
    obtain ⟨rfl, rfl⟩ := H
    go_enter Try.func30, Try.ntmps30
    go_wp2_with (first | ((with_reducible refine gate_dst (N := 1) rfl ?_); refine box_event ?hg (N := 1) ?hd (cs := #[.int .i64 a0_0, .slice A0_1 l0_1.length c0_1]) (t := 28) ?hr ?_; (case hd => rfl); (case hg => rfl); (case hr => first | (go_simp; done) | (go_simp; rfl)); intro gb194 hg w10 hbox hb; have n0_ := Aside0.mk (below_step (by repeat (first | (with_reducible first | exact HB.out | apply below_alloc | apply pw_below_drewN | apply below_drew1) | exact HB.out)) hb); have n1_ := Aside0.mk (hbox); have n2_ := Aside0.mk ((by rw [hg]; exact (below_size (by repeat (first | (with_reducible first | exact HB.out | apply below_alloc | apply pw_below_drewN | apply below_drew1) | exact HB.out))) : w.heap.size ≤ gb194)); have n3_ := Aside0.mk ((by rw [hg]; exact (below_size (by repeat (first | (with_reducible first | exact HB.out | apply below_alloc | apply pw_below_drewN | apply below_drew1) | exact HB.out))) : w.heap.size ≤ gb194)); clear HB; have HB := n0_; have BK194 := n1_; have GW194 := n2_; have GE194 := n3_; clear n0_ n1_ n2_ n3_; clear hb hbox hg; have hcz11_0 : w10.cell? ⟨gb194, 0, none⟩ = some (.int .i64 a0_0) := (blk_cell BK194.out 0).trans rfl; have hcz11_1 : w10.cell? ⟨gb194, 1, none⟩ = some (.slice A0_1 l0_1.length c0_1) := (blk_cell BK194.out 1).trans rfl; have hfz11_0 := blk_frozen BK194.out 0; have hfz11_1 := blk_frozen BK194.out 1) | ((with_reducible refine gate_callee (f := 52) rfl ?_); refine goesL_ (some 5) rfl rfl Try.func52 (by kernel_rfl) rfl #[.agg #[.int .i64 a0_0, .slice A0_1 l0_1.length c0_1]] rfl (by (try simp only [List.map_toArray, List.map_cons, List.map_nil]); first | done | rfl | (simp only [List.length_drop, List.length_take]; rfl)) ?_; (with_reducible refine (spec_l01Is.calls k a0_0 _ _ l0_1 false _ ?side1 ?side2 A2.out).mono ?_); (case side1 => repeat (first | exact (Kd.C_below HR0_1.out HB.out) | (with_reducible refine Kd.C_alloc ?_ _) | (with_reducible refine Kd.C_drewN ?_ _) | (with_reducible refine Kd.C_drew ?_))); (case side2 => exact HC0_1.out); rintro e w12 ⟨rfl, hb⟩; refine ⟨_, rfl, ?_⟩; have n0_ := Aside0.mk (blk_below (g := gb194) (o := .cells #[.int .i64 a0_0, .slice A0_1 l0_1.length c0_1] 28 (0, 0)) (by (with_reducible repeat (first | refine blk_drewN ?_ _ | refine blk_drew ?_ | refine blk_alloc ?_ _)); exact BK194.out) hb); have n1_ := Aside0.mk (below_step (by repeat (first | (with_reducible first | exact HB.out | apply below_alloc | apply pw_below_drewN | apply below_drew1 | refine below_set ?_ GE194.out) | exact HB.out)) hb); clear BK194; clear HB; have BK194 := n0_; have HB := n1_; clear n0_ n1_; (try clear hb); (try clear hb2); (try clear hk); (try clear hi)))
    go_ret2
    exact ⟨_, by first | rfl | (simp [errW_none, errW_some] <;> rfl) | (simp [*, errW_none, errW_some] <;> rfl), by first | exact Kd.R_nil _ _ _ _ _ | exact Kd.N_nil _ _ _ _ _ | exact Kd.V_nil _ _ _ _ _ | exact Kd.Q_nil _ _ _ _ _ | exact Kd.S_nil _ _ _ _ _, by repeat (first | (with_reducible first | exact HB.out | apply below_alloc | apply pw_below_drewN | apply below_drew1 | refine below_set ?_ GE194.out) | exact HB.out)⟩

/-! ### spec_l03Code: function 69 -/
def spec_l03Code.f (k : Nat) (a0_0 : Int) (l0_1 : List Int) (a1 : Int) : Option (Int) := (spec_l01Is.f k a0_0 l0_1).bind fun t200 => (if t200 = true then (if a1 = 2 then (some 0) else (if a1 = 3 then (some 0) else (some 2))) else (some 1))
theorem spec_l03Code.mono : ∀ a0 a1 a2 k, LeO (spec_l03Code.f k a0 a1 a2) (spec_l03Code.f (k + 1) a0 a1 a2) := by
  intro a0 a1 a2 k
  unfold spec_l03Code.f
  repeat' first
      | (with_reducible exact spec_l01Is.mono _ _ _)
      | (with_reducible exact LeO.refl _)
      | (with_reducible exact LeO.none _)
      | (with_reducible refine LeO.ite ?_ ?_)
      | (with_reducible refine LeO.bind ?_ (fun _ => ?_))
      | exact spec_l01Is.mono _ _ _
      | exact LeO.none _
      | refine LeO.ite ?_ ?_
      | refine LeO.bind ?_ (fun _ => ?_)
set_option maxHeartbeats 8000000 in
set_option maxRecDepth 100000 in
theorem spec_l03Code.calls (k : Nat) (a0_0 : Int) (A0_1 : Option Addr) (c0_1 : Nat) (l0_1 : List Int) (a1 : Int) (r : Int) (w : World) (hr0_1 : Kd.C (Kd.int .i64) w A0_1 l0_1.length l0_1) (hc0_1 : l0_1.length ≤ c0_1) (h : spec_l03Code.f k a0_0 l0_1 a1 = some r) :
    Calls Try.prog 69 #[.agg #[.int .i64 a0_0, .slice A0_1 l0_1.length c0_1], .int .i64 a1] w fun e w' => e = .returned (.int .i64 r) ∧ Below w.heap.size w w' := by
  have hu28 := Try.underlying28
  have HR0_1 := Aside0.mk hr0_1
  have HC0_1 := Aside0.mk hc0_1
  clear hr0_1 hc0_1
  have HB := Aside0.mk (Below.refl w.heap.size w)
  have H : ((spec_l01Is.f k a0_0 l0_1).bind fun t200 => (if t200 = true then (if a1 = 2 then (some 0) else (if a1 = 3 then (some 0) else (some 2))) else (some 1))) = some r := h
  clear h
  replace H := Option.bind_eq_some_iff.mp H
  obtain ⟨t200, A30, H⟩ := H
  replace H : (if t200 = true then (if a1 = 2 then (some 0) else (if a1 = 3 then (some 0) else (some 2))) else (some 1)) = some r := H
  have A3 := Aside0.mk A30
  clear A30
  by_cases c4 : t200 = true
  · subst c4
    have H1 : (if a1 = 2 then (some 0) else (if a1 = 3 then (some 0) else (some 2))) = some r := by rw [if_pos rfl] at H; exact H
    clear H
    have H := H1
    clear H1
    by_cases c5 : a1 = 2
    · rw [if_pos c5] at H
      have c5b0 : (a1 == 2) = true := beq_iff_eq.mpr c5
      have c5b1 : (a1 != 2) = false := bne_eq_false_iff_eq.mpr c5
      clear c5
      obtain rfl := Option.some.inj H
      go_enter Try.func69, Try.ntmps69
      go_wp2_with (first | ((with_reducible refine gate_dst (N := 2) rfl ?_); refine box_event ?hg (N := 2) ?hd (cs := #[.int .i64 a0_0, .slice A0_1 l0_1.length c0_1]) (t := 28) ?hr ?_; (case hd => rfl); (case hg => rfl); (case hr => first | (go_simp; done) | (go_simp; rfl)); intro gb199 hg w6 hbox hb; have n0_ := Aside0.mk (below_step (by repeat (first | (with_reducible first | exact HB.out | apply below_alloc | apply pw_below_drewN | apply below_drew1) | exact HB.out)) hb); have n1_ := Aside0.mk (hbox); have n2_ := Aside0.mk ((by rw [hg]; exact (below_size (by repeat (first | (with_reducible first | exact HB.out | apply below_alloc | apply pw_below_drewN | apply below_drew1) | exact HB.out))) : w.heap.size ≤ gb199)); have n3_ := Aside0.mk ((by rw [hg]; exact (below_size (by repeat (first | (with_reducible first | exact HB.out | apply below_alloc | apply pw_below_drewN | apply below_drew1) | exact HB.out))) : w.heap.size ≤ gb199)); clear HB; have HB := n0_; have BK199 := n1_; have GW199 := n2_; have GE199 := n3_; clear n0_ n1_ n2_ n3_; clear hb hbox hg; have hcz7_0 : w6.cell? ⟨gb199, 0, none⟩ = some (.int .i64 a0_0) := (blk_cell BK199.out 0).trans rfl; have hcz7_1 : w6.cell? ⟨gb199, 1, none⟩ = some (.slice A0_1 l0_1.length c0_1) := (blk_cell BK199.out 1).trans rfl; have hfz7_0 := blk_frozen BK199.out 0; have hfz7_1 := blk_frozen BK199.out 1) | ((with_reducible refine gate_callee (f := 52) rfl ?_); refine goesL_ (some 7) rfl rfl Try.func52 (by kernel_rfl) rfl #[.agg #[.int .i64 a0_0, .slice A0_1 l0_1.length c0_1]] rfl (by (try simp only [List.map_toArray, List.map_cons, List.map_nil]); first | done | rfl | (simp only [List.length_drop, List.length_take]; rfl)) ?_; (with_reducible refine (spec_l01Is.calls k a0_0 _ _ l0_1 true _ ?side1 ?side2 A3.out).mono ?_); (case side1 => repeat (first | exact (Kd.C_below HR0_1.out HB.out) | (with_reducible refine Kd.C_alloc ?_ _) | (with_reducible refine Kd.C_drewN ?_ _) | (with_reducible refine Kd.C_drew ?_))); (case side2 => exact HC0_1.out); rintro e w8 ⟨rfl, hb⟩; refine ⟨_, rfl, ?_⟩; have n0_ := Aside0.mk (blk_below (g := gb199) (o := .cells #[.int .i64 a0_0, .slice A0_1 l0_1.length c0_1] 28 (0, 0)) (by (with_reducible repeat (first | refine blk_drewN ?_ _ | refine blk_drew ?_ | refine blk_alloc ?_ _)); exact BK199.out) hb); have n1_ := Aside0.mk (below_step (by repeat (first | (with_reducible first | exact HB.out | apply below_alloc | apply pw_below_drewN | apply below_drew1 | refine below_set ?_ GE199.out) | exact HB.out)) hb); clear BK199; clear HB; have BK199 := n0_; have HB := n1_; clear n0_ n1_; (try clear hb); (try clear hb2); (try clear hk); (try clear hi)))
      go_ret
      exact ⟨by first | rfl | (simp [errW_none, errW_some] <;> rfl) | (simp [*, errW_none, errW_some] <;> rfl), by repeat (first | (with_reducible first | exact HB.out | apply below_alloc | apply pw_below_drewN | apply below_drew1 | refine below_set ?_ GE199.out) | exact HB.out)⟩
    · rw [if_neg c5] at H
      have c5b0 : (a1 == 2) = false := beq_eq_false_iff_ne.mpr c5
      have c5b1 : (a1 != 2) = true := bne_iff_ne.mpr c5
      by_cases c9 : a1 = 3
      · rw [if_pos c9] at H
        have c9b0 : (a1 == 3) = true := beq_iff_eq.mpr c9
        have c9b1 : (a1 != 3) = false := bne_eq_false_iff_eq.mpr c9
        clear c9
        obtain rfl := Option.some.inj H
        go_enter Try.func69, Try.ntmps69
        go_wp2_with (first | ((with_reducible refine gate_dst (N := 2) rfl ?_); refine box_event ?hg (N := 2) ?hd (cs := #[.int .i64 a0_0, .slice A0_1 l0_1.length c0_1]) (t := 28) ?hr ?_; (case hd => rfl); (case hg => rfl); (case hr => first | (go_simp; done) | (go_simp; rfl)); intro gb199 hg w10 hbox hb; have n0_ := Aside0.mk (below_step (by repeat (first | (with_reducible first | exact HB.out | apply below_alloc | apply pw_below_drewN | apply below_drew1) | exact HB.out)) hb); have n1_ := Aside0.mk (hbox); have n2_ := Aside0.mk ((by rw [hg]; exact (below_size (by repeat (first | (with_reducible first | exact HB.out | apply below_alloc | apply pw_below_drewN | apply below_drew1) | exact HB.out))) : w.heap.size ≤ gb199)); have n3_ := Aside0.mk ((by rw [hg]; exact (below_size (by repeat (first | (with_reducible first | exact HB.out | apply below_alloc | apply pw_below_drewN | apply below_drew1) | exact HB.out))) : w.heap.size ≤ gb199)); clear HB; have HB := n0_; have BK199 := n1_; have GW199 := n2_; have GE199 := n3_; clear n0_ n1_ n2_ n3_; clear hb hbox hg; have hcz11_0 : w10.cell? ⟨gb199, 0, none⟩ = some (.int .i64 a0_0) := (blk_cell BK199.out 0).trans rfl; have hcz11_1 : w10.cell? ⟨gb199, 1, none⟩ = some (.slice A0_1 l0_1.length c0_1) := (blk_cell BK199.out 1).trans rfl; have hfz11_0 := blk_frozen BK199.out 0; have hfz11_1 := blk_frozen BK199.out 1) | ((with_reducible refine gate_callee (f := 52) rfl ?_); refine goesL_ (some 7) rfl rfl Try.func52 (by kernel_rfl) rfl #[.agg #[.int .i64 a0_0, .slice A0_1 l0_1.length c0_1]] rfl (by (try simp only [List.map_toArray, List.map_cons, List.map_nil]); first | done | rfl | (simp only [List.length_drop, List.length_take]; rfl)) ?_; (with_reducible refine (spec_l01Is.calls k a0_0 _ _ l0_1 true _ ?side1 ?side2 A3.out).mono ?_); (case side1 => repeat (first | exact (Kd.C_below HR0_1.out HB.out) | (with_reducible refine Kd.C_alloc ?_ _) | (with_reducible refine Kd.C_drewN ?_ _) | (with_reducible refine Kd.C_drew ?_))); (case side2 => exact HC0_1.out); rintro e w12 ⟨rfl, hb⟩; refine ⟨_, rfl, ?_⟩; have n0_ := Aside0.mk (blk_below (g := gb199) (o := .cells #[.int .i64 a0_0, .slice A0_1 l0_1.length c0_1] 28 (0, 0)) (by (with_reducible repeat (first | refine blk_drewN ?_ _ | refine blk_drew ?_ | refine blk_alloc ?_ _)); exact BK199.out) hb); have n1_ := Aside0.mk (below_step (by repeat (first | (with_reducible first | exact HB.out | apply below_alloc | apply pw_below_drewN | apply below_drew1 | refine below_set ?_ GE199.out) | exact HB.out)) hb); clear BK199; clear HB; have BK199 := n0_; have HB := n1_; clear n0_ n1_; (try clear hb); (try clear hb2); (try clear hk); (try clear hi)))
        go_ret
        exact ⟨by first | rfl | (simp [errW_none, errW_some] <;> rfl) | (simp [*, errW_none, errW_some] <;> rfl), by repeat (first | (with_reducible first | exact HB.out | apply below_alloc | apply pw_below_drewN | apply below_drew1 | refine below_set ?_ GE199.out) | exact HB.out)⟩
      · rw [if_neg c9] at H
        have c9b0 : (a1 == 3) = false := beq_eq_false_iff_ne.mpr c9
        have c9b1 : (a1 != 3) = true := bne_iff_ne.mpr c9
        obtain rfl := Option.some.inj H
        go_enter Try.func69, Try.ntmps69
        go_wp2_with (first | ((with_reducible refine gate_dst (N := 2) rfl ?_); refine box_event ?hg (N := 2) ?hd (cs := #[.int .i64 a0_0, .slice A0_1 l0_1.length c0_1]) (t := 28) ?hr ?_; (case hd => rfl); (case hg => rfl); (case hr => first | (go_simp; done) | (go_simp; rfl)); intro gb199 hg w13 hbox hb; have n0_ := Aside0.mk (below_step (by repeat (first | (with_reducible first | exact HB.out | apply below_alloc | apply pw_below_drewN | apply below_drew1) | exact HB.out)) hb); have n1_ := Aside0.mk (hbox); have n2_ := Aside0.mk ((by rw [hg]; exact (below_size (by repeat (first | (with_reducible first | exact HB.out | apply below_alloc | apply pw_below_drewN | apply below_drew1) | exact HB.out))) : w.heap.size ≤ gb199)); have n3_ := Aside0.mk ((by rw [hg]; exact (below_size (by repeat (first | (with_reducible first | exact HB.out | apply below_alloc | apply pw_below_drewN | apply below_drew1) | exact HB.out))) : w.heap.size ≤ gb199)); clear HB; have HB := n0_; have BK199 := n1_; have GW199 := n2_; have GE199 := n3_; clear n0_ n1_ n2_ n3_; clear hb hbox hg; have hcz14_0 : w13.cell? ⟨gb199, 0, none⟩ = some (.int .i64 a0_0) := (blk_cell BK199.out 0).trans rfl; have hcz14_1 : w13.cell? ⟨gb199, 1, none⟩ = some (.slice A0_1 l0_1.length c0_1) := (blk_cell BK199.out 1).trans rfl; have hfz14_0 := blk_frozen BK199.out 0; have hfz14_1 := blk_frozen BK199.out 1) | ((with_reducible refine gate_callee (f := 52) rfl ?_); refine goesL_ (some 7) rfl rfl Try.func52 (by kernel_rfl) rfl #[.agg #[.int .i64 a0_0, .slice A0_1 l0_1.length c0_1]] rfl (by (try simp only [List.map_toArray, List.map_cons, List.map_nil]); first | done | rfl | (simp only [List.length_drop, List.length_take]; rfl)) ?_; (with_reducible refine (spec_l01Is.calls k a0_0 _ _ l0_1 true _ ?side1 ?side2 A3.out).mono ?_); (case side1 => repeat (first | exact (Kd.C_below HR0_1.out HB.out) | (with_reducible refine Kd.C_alloc ?_ _) | (with_reducible refine Kd.C_drewN ?_ _) | (with_reducible refine Kd.C_drew ?_))); (case side2 => exact HC0_1.out); rintro e w15 ⟨rfl, hb⟩; refine ⟨_, rfl, ?_⟩; have n0_ := Aside0.mk (blk_below (g := gb199) (o := .cells #[.int .i64 a0_0, .slice A0_1 l0_1.length c0_1] 28 (0, 0)) (by (with_reducible repeat (first | refine blk_drewN ?_ _ | refine blk_drew ?_ | refine blk_alloc ?_ _)); exact BK199.out) hb); have n1_ := Aside0.mk (below_step (by repeat (first | (with_reducible first | exact HB.out | apply below_alloc | apply pw_below_drewN | apply below_drew1 | refine below_set ?_ GE199.out) | exact HB.out)) hb); clear BK199; clear HB; have BK199 := n0_; have HB := n1_; clear n0_ n1_; (try clear hb); (try clear hb2); (try clear hk); (try clear hi)))
        go_ret
        exact ⟨by first | rfl | (simp [errW_none, errW_some] <;> rfl) | (simp [*, errW_none, errW_some] <;> rfl), by repeat (first | (with_reducible first | exact HB.out | apply below_alloc | apply pw_below_drewN | apply below_drew1 | refine below_set ?_ GE199.out) | exact HB.out)⟩
  · replace c4 := Bool.eq_false_iff.mpr c4
    subst c4
    have H1 : (some 1) = some r := by rw [if_neg (show ¬ (false = true) by decide)] at H; exact H
    clear H
    have H := H1
    clear H1
    obtain rfl := Option.some.inj H
    go_enter Try.func69, Try.ntmps69
    go_wp2_with (first | ((with_reducible refine gate_dst (N := 2) rfl ?_); refine box_event ?hg (N := 2) ?hd (cs := #[.int .i64 a0_0, .slice A0_1 l0_1.length c0_1]) (t := 28) ?hr ?_; (case hd => rfl); (case hg => rfl); (case hr => first | (go_simp; done) | (go_simp; rfl)); intro gb199 hg w16 hbox hb; have n0_ := Aside0.mk (below_step (by repeat (first | (with_reducible first | exact HB.out | apply below_alloc | apply pw_below_drewN | apply below_drew1) | exact HB.out)) hb); have n1_ := Aside0.mk (hbox); have n2_ := Aside0.mk ((by rw [hg]; exact (below_size (by repeat (first | (with_reducible first | exact HB.out | apply below_alloc | apply pw_below_drewN | apply below_drew1) | exact HB.out))) : w.heap.size ≤ gb199)); have n3_ := Aside0.mk ((by rw [hg]; exact (below_size (by repeat (first | (with_reducible first | exact HB.out | apply below_alloc | apply pw_below_drewN | apply below_drew1) | exact HB.out))) : w.heap.size ≤ gb199)); clear HB; have HB := n0_; have BK199 := n1_; have GW199 := n2_; have GE199 := n3_; clear n0_ n1_ n2_ n3_; clear hb hbox hg; have hcz17_0 : w16.cell? ⟨gb199, 0, none⟩ = some (.int .i64 a0_0) := (blk_cell BK199.out 0).trans rfl; have hcz17_1 : w16.cell? ⟨gb199, 1, none⟩ = some (.slice A0_1 l0_1.length c0_1) := (blk_cell BK199.out 1).trans rfl; have hfz17_0 := blk_frozen BK199.out 0; have hfz17_1 := blk_frozen BK199.out 1) | ((with_reducible refine gate_callee (f := 52) rfl ?_); refine goesL_ (some 7) rfl rfl Try.func52 (by kernel_rfl) rfl #[.agg #[.int .i64 a0_0, .slice A0_1 l0_1.length c0_1]] rfl (by (try simp only [List.map_toArray, List.map_cons, List.map_nil]); first | done | rfl | (simp only [List.length_drop, List.length_take]; rfl)) ?_; (with_reducible refine (spec_l01Is.calls k a0_0 _ _ l0_1 false _ ?side1 ?side2 A3.out).mono ?_); (case side1 => repeat (first | exact (Kd.C_below HR0_1.out HB.out) | (with_reducible refine Kd.C_alloc ?_ _) | (with_reducible refine Kd.C_drewN ?_ _) | (with_reducible refine Kd.C_drew ?_))); (case side2 => exact HC0_1.out); rintro e w18 ⟨rfl, hb⟩; refine ⟨_, rfl, ?_⟩; have n0_ := Aside0.mk (blk_below (g := gb199) (o := .cells #[.int .i64 a0_0, .slice A0_1 l0_1.length c0_1] 28 (0, 0)) (by (with_reducible repeat (first | refine blk_drewN ?_ _ | refine blk_drew ?_ | refine blk_alloc ?_ _)); exact BK199.out) hb); have n1_ := Aside0.mk (below_step (by repeat (first | (with_reducible first | exact HB.out | apply below_alloc | apply pw_below_drewN | apply below_drew1 | refine below_set ?_ GE199.out) | exact HB.out)) hb); clear BK199; clear HB; have BK199 := n0_; have HB := n1_; clear n0_ n1_; (try clear hb); (try clear hb2); (try clear hk); (try clear hi)))
    go_ret
    exact ⟨by first | rfl | (simp [errW_none, errW_some] <;> rfl) | (simp [*, errW_none, errW_some] <;> rfl), by repeat (first | (with_reducible first | exact HB.out | apply below_alloc | apply pw_below_drewN | apply below_drew1 | refine below_set ?_ GE199.out) | exact HB.out)⟩

-- NOT PRINTED: function 101 (spec_l03Rank)

/-! ### spec_l03Place: function 107 -/
def spec_l03Place.l0 : Nat → List Int → Int → Int → Option (Int)
  | 0, _, _, _ => none
  | k + 1, x0, x1, x5 => if x5 < (x0.length : Int) then (if 0 ≤ x5 then (if (rd x0 x5) = x1 then (some x5) else (spec_l03Place.l0 k x0 x1 (wrap64 (x5 + 1)))) else (none)) else (some (-1))
def spec_l03Place.f (k : Nat) (l0 : List Int) (a1 : Int) : Option (Int) := spec_l03Place.l0 k l0 a1 0
theorem spec_l03Place.mono_l : ∀ k, (∀ y0 y1 y2, LeO (spec_l03Place.l0 k y0 y1 y2) (spec_l03Place.l0 (k + 1) y0 y1 y2))
  | 0 => fun _ _ _ r h => by simp [spec_l03Place.l0] at h
  | k + 1 => by
    have ih0 := spec_l03Place.mono_l k
    · intro y0 y1 y2
      unfold spec_l03Place.l0
      repeat' first
      | (with_reducible exact ih0 _ _ _)
      | (with_reducible exact LeO.refl _)
      | (with_reducible exact LeO.none _)
      | (with_reducible refine LeO.ite ?_ ?_)
      | (with_reducible refine LeO.bind ?_ (fun _ => ?_))
      | exact ih0 _ _ _
      | exact LeO.none _
      | refine LeO.ite ?_ ?_
      | refine LeO.bind ?_ (fun _ => ?_)
theorem spec_l03Place.mono : ∀ a0 a1 k, LeO (spec_l03Place.f k a0 a1) (spec_l03Place.f (k + 1) a0 a1) := by
  intro a0 a1 k
  have ih0 := spec_l03Place.mono_l k
  unfold spec_l03Place.f
  repeat' first
      | (with_reducible exact ih0 _ _ _)
      | (with_reducible exact LeO.refl _)
      | (with_reducible exact LeO.none _)
      | (with_reducible refine LeO.ite ?_ ?_)
      | (with_reducible refine LeO.bind ?_ (fun _ => ?_))
      | exact ih0 _ _ _
      | exact LeO.none _
      | refine LeO.ite ?_ ?_
      | refine LeO.bind ?_ (fun _ => ?_)
set_option maxHeartbeats 8000000 in
set_option maxRecDepth 100000 in
theorem spec_l03Place.calls (k : Nat) (A0 : Option Addr) (c0 : Nat) (l0 : List Int) (a1 : Int) (r : Int) (w : World) (hr0 : Kd.C (Kd.int .i64) w A0 l0.length l0) (hc0 : l0.length ≤ c0) (h : spec_l03Place.f k l0 a1 = some r) :
    Calls Try.prog 107 #[.slice A0 l0.length c0, .int .i64 a1] w fun e w' => e = .returned (.int .i64 r) ∧ Drawn0 w w' := by
  have HR0 := Aside0.mk hr0
  have HC0 := Aside0.mk hc0
  clear hr0 hc0
  have H : (spec_l03Place.l0 k l0 a1 0) = some r := h
  clear h
  have H' := Aside0.mk H
  clear H
  go_enter Try.func107, Try.ntmps107
  go_wp2
  go_loopg [5] k (fun kq v5 w' => ∃ (x5_1 : Int), v5 = .int .i64 x5_1 ∧ Aside0 (spec_l03Place.l0 kq l0 a1 x5_1 = some r) ∧ Aside0 (kq ≤ k) ∧ Drawn0 w w')
  case atStart => exact ⟨(0), (by first | rfl | (simp; done) | (simp [*]; done)), H', ⟨Nat.le_refl _⟩, by repeat (first | exact Drawn0.refl _ | apply Drawn0.step)⟩
  case round =>
    clear H'
    try clear c1
    try clear p2
    obtain ⟨x5_1, rfl, HA, HK1, ⟨m1, rfl⟩⟩ := hrel
    cases gk with
    | zero => exact absurd HA.out (by simp [spec_l03Place.l0])
    | succ k1 =>
      have H := HA.out
      clear HA
      simp only [spec_l03Place.l0] at H
      by_cases c3 : x5_1 < (l0.length : Int)
      · rw [if_pos c3] at H
        have c3b0 : decide (x5_1 < (l0.length : Int)) = true := decide_eq_true c3
        clear c3
        by_cases c4 : 0 ≤ x5_1
        · rw [if_pos c4] at H
          have c4b0 : decide (0 ≤ x5_1) = true := decide_eq_true c4
          clear c4
          by_cases c5 : (rd l0 x5_1) = a1
          · rw [if_pos c5] at H
            have c5b0 : ((rd l0 x5_1) == a1) = true := beq_iff_eq.mpr c5
            have c5b1 : ((rd l0 x5_1) != a1) = false := bne_eq_false_iff_eq.mpr c5
            clear c5
            obtain rfl := Option.some.inj H
            have p206 : 0 ≤ (x5_1 : Int) := of_decide_eq_true (by first | (with_reducible assumption) | assumption)
            have q206 : x5_1 < (l0.length : Int) := of_decide_eq_true (by first | (with_reducible assumption) | assumption)
            obtain ⟨ad206, e206, hx206_0⟩ := Kd.at_int HR0.out x5_1 p206 q206
            cases e206
            replace p206 := eq_true p206
            replace q206 := eq_true q206
            go_wp2
            go_ret
            exact ⟨by first | rfl | (simp; done) | (simp [*]; done), by repeat (first | exact Drawn0.refl _ | apply Drawn0.step)⟩
          · rw [if_neg c5] at H
            have c5b0 : ((rd l0 x5_1) == a1) = false := beq_eq_false_iff_ne.mpr c5
            have c5b1 : ((rd l0 x5_1) != a1) = true := bne_iff_ne.mpr c5
            have H' := Aside0.mk H
            clear H
            have p206 : 0 ≤ (x5_1 : Int) := of_decide_eq_true (by first | (with_reducible assumption) | assumption)
            have q206 : x5_1 < (l0.length : Int) := of_decide_eq_true (by first | (with_reducible assumption) | assumption)
            obtain ⟨ad206, e206, hx206_0⟩ := Kd.at_int HR0.out x5_1 p206 q206
            cases e206
            replace p206 := eq_true p206
            replace q206 := eq_true q206
            go_wp2
            go_roundg k1
            case measure => have := HK1.out; omega
            case rel => exact ⟨(wrap64 (x5_1 + 1)), (by first | rfl | (simp; done) | (simp [*]; done)), H', ⟨by have := HK1.out; omega⟩, by repeat (first | exact Drawn0.refl _ | apply Drawn0.step)⟩
        · rw [if_neg c4] at H
          exact absurd H (by simp)
      · rw [if_neg c3] at H
        have c3b0 : decide (x5_1 < (l0.length : Int)) = false := decide_eq_false c3
        clear c3
        obtain rfl := Option.some.inj H
        go_wp2
        go_ret
        exact ⟨by first | rfl | (simp; done) | (simp [*]; done), by repeat (first | exact Drawn0.refl _ | apply Drawn0.step)⟩

end Go.Proofs.Ythganpmmhfoodaa.Q
end

section
/- The reference's ComponentsOf comes to what the program's comes to. -/
namespace Go.Proofs.Ythganpmmhfoodaa.K
open Go.RowKit Go.Shelf Go.Proofs.Ythganpmmhfoodaa.Q Go.Proofs.YthganpmmhfoodaaW.PrintWords Go.Proofs.YthganpmmhfoodaaW.PrintLast Go.Proofs.YthganpmmhfoodaaW.PrintMore
set_option linter.unusedVariables false
set_option linter.unusedSimpArgs false

/-- The vertices that are faces, as a set. -/
def leftAt (l : List Int) (m : Nat) : Int := (List.range m).foldl (fun o v => if (2 : Int) ^ v ∈ l then Go.bits .or .i64 o ((2 : Int) ^ v) else o) 0
theorem leftAt_succ (l : List Int) (m : Nat) : leftAt l (m + 1) = if (2 : Int) ^ m ∈ l then Go.bits .or .i64 (leftAt l m) ((2 : Int) ^ m) else leftAt l m := by
  unfold leftAt
  rw [List.range_succ, List.foldl_append]
  rfl
theorem bt_zero (u : Nat) : bt 0 u = false := by simp [bt]
theorem left_facts (l : List Int) : ∀ m : Nat, m ≤ 6 → (0 ≤ leftAt l m ∧ leftAt l m ≤ 63) ∧ ∀ u, u < 6 → bt (leftAt l m) u = (decide (u < m) && decide ((2 : Int) ^ u ∈ l)) := by
  intro m
  induction m with
  | zero => exact fun _ => ⟨by rw [show leftAt l 0 = 0 from rfl]; omega, fun u hu => by rw [show leftAt l 0 = 0 from rfl, bt_zero]; simp⟩
  | succ m ih =>
    intro hm
    obtain ⟨h1, h2⟩ := ih (by omega)
    have hp := pow_range m (by omega)
    rw [leftAt_succ]
    by_cases h : (2 : Int) ^ m ∈ l
    · rw [if_pos h]
      obtain ⟨k1, k2, k3⟩ := or_bt (leftAt l m) ((2 : Int) ^ m) h1 (by omega)
      refine ⟨⟨by omega, k3⟩, fun u hu => ?_⟩
      rw [k1 u hu, h2 u hu, bt_pow u m hu (by omega)]
      by_cases e : u = m
      · subst e; simp [h]
      · have : decide (u < m + 1) = decide (u < m) := decide_eq_decide.2 (by omega)
        rw [this]; simp [e]
    · rw [if_neg h]
      refine ⟨h1, fun u hu => ?_⟩
      rw [h2 u hu]
      by_cases e : u = m
      · subst e; simp [h]
      · have : decide (u < m + 1) = decide (u < m) := decide_eq_decide.2 (by omega)
        rw [this]
theorem specComps_l0 (n : Int) (hn : 1 ≤ n ∧ n ≤ 6) (l : List Int) (hl : l.length ≤ 63) (R : Nat) (r : List Int) (hnext : ∀ k, R ≤ k → spec_l01Components.l1 k [] (leftAt l n.toNat) n l = some r) : ∀ (d v k : Nat), n.toNat - v = d → v ≤ n.toNat → R + d + 66 ≤ k →
    spec_l01Components.l0 k [] (leftAt l v) (v : Int) n l = some r := by
  intro d
  induction d with
  | zero =>
    intro v k hd hv hk
    obtain ⟨k, rfl⟩ : ∃ m, k = m + 1 := ⟨k - 1, by omega⟩
    obtain rfl : v = n.toNat := by omega
    simp only [spec_l01Components.l0]
    rw [if_neg (by omega)]
    exact hnext k (by omega)
  | succ d ih =>
    intro v k hd hv hk
    obtain ⟨k, rfl⟩ : ∃ m, k = m + 1 := ⟨k - 1, by omega⟩
    have hs := shl_one (v : Int) (by omega) (by omega)
    rw [Int.toNat_natCast] at hs
    simp only [spec_l01Components.l0]
    rw [if_pos (by omega), u64_id (v : Int) (by omega) (by omega), if_pos (by omega), hs, specHas_is n _ l (by omega) k (by omega), w64 ((v : Int) + 1) (by omega) (by omega), nat_succ]
    simp only [Option.bind_some]
    have h3 := ih (v + 1) k (by omega) (by omega) (by omega)
    rw [leftAt_succ] at h3
    by_cases h : (2 : Int) ^ v ∈ l
    · rw [if_pos h] at h3
      rw [if_pos (decide_eq_true h)]
      exact h3
    · rw [if_neg h] at h3
      rw [if_neg (by simp [h])]
      exact h3
theorem specComps_l3 (n : Int) (l out : List Int) (left : Int) (hl : l.length ≤ 63) (hr : ∀ x ∈ l, 0 ≤ x ∧ x ≤ 63) (R : Nat) (r : List Int) (s0 : Int × Bool)
    (hnext : ∀ k, R ≤ k → spec_l01Components.l2 k out left (passF l s0).1 (passF l s0).2 n l = some r) : ∀ (d j k : Nat) (s : Int × Bool), 0 ≤ s.1 ∧ s.1 ≤ 63 → l.length - j = d → j ≤ l.length → R + d + 1 ≤ k → passF (l.drop j) s = passF l s0 →
    spec_l01Components.l3 k out left s.1 s.2 (j : Int) n l = some r := by
  intro d
  induction d with
  | zero =>
    intro j k s hs hd hj hk hp
    obtain ⟨k, rfl⟩ : ∃ m, k = m + 1 := ⟨k - 1, by omega⟩
    obtain rfl : j = l.length := by omega
    simp only [spec_l01Components.l3]
    rw [List.drop_length] at hp
    have hp2 : s = passF l s0 := hp
    rw [if_neg (by omega), hp2]
    exact hnext k (by omega)
  | succ d ih =>
    intro j k s hs hd hj hk hp
    obtain ⟨k, rfl⟩ : ∃ m, k = m + 1 := ⟨k - 1, by omega⟩
    have hjl : j < l.length := by omega
    have hx := hr _ (List.getElem_mem hjl)
    rw [List.drop_eq_getElem_cons hjl] at hp
    have hp2 : passF (l.drop (j + 1)) (stepF s l[j]) = passF l s0 := hp
    have hib := inB_is l[j] s.1 hx hs
    obtain ⟨k1, k2, k3⟩ := or_bt s.1 l[j] hs hx
    simp only [spec_l01Components.l3]
    rw [if_pos (by omega), if_pos (by omega), rd_nat l j hjl, w64 ((j : Int) + 1) (by omega) (by omega), nat_succ]
    unfold stepF at hp2
    rw [hib] at hp2
    by_cases h0 : Go.bits .and .i64 l[j] s.1 = 0
    · rw [if_pos h0] at hp2 ⊢
      exact ih (j + 1) k s hs (by omega) (by omega) (by omega) hp2
    · rw [if_neg h0] at hp2 ⊢
      by_cases h1 : Go.bits .and .i64 l[j] s.1 = l[j]
      · rw [if_pos (decide_eq_true h1)] at hp2
        rw [if_pos h1]
        exact ih (j + 1) k s hs (by omega) (by omega) (by omega) hp2
      · rw [if_neg (by simp [h1])] at hp2
        rw [if_neg h1]
        exact ih (j + 1) k _ ⟨by show 0 ≤ Go.bits .or .i64 s.1 l[j]; omega, k3⟩ (by omega) (by omega) (by omega) hp2
theorem specComps_l2 (n : Int) (l out : List Int) (left : Int) (hl : l.length ≤ 63) (hr : ∀ x ∈ l, 0 ≤ x ∧ x ≤ 63) (R : Nat) (r : List Int) : ∀ (m k : Nat) (o : Int), 0 ≤ o ∧ o ≤ 63 → 64 - o ≤ m → R + m * 66 ≤ k →
    (∀ k, R ≤ k → spec_l01Components.l2 k out left (growF l o) false n l = some r) → spec_l01Components.l2 k out left o true n l = some r := by
  intro m
  induction m with
  | zero => intro k o ho h1; omega
  | succ m ih =>
    intro k o ho h1 hk hnext
    obtain ⟨k, rfl⟩ : ∃ q, k = q + 1 := ⟨k - 1, by omega⟩
    simp only [spec_l01Components.l2]
    rw [if_pos trivial]
    obtain ⟨a1, a2, a3, a4, a5⟩ := pass_facts l hr (o, false) ho
    simp only at a1 a4
    have hst := grow_step l hr o ho
    refine specComps_l3 n l out left hl hr (R + m * 66) r (o, false) ?_ l.length 0 k (o, false) ho (by omega) (by omega) (by omega) rfl
    intro k hk
    cases h : (passF l (o, false)).2 with
    | true =>
      rw [if_pos h] at hst
      rcases a4 h with h4 | h4
      · cases h4
      · exact ih k _ ⟨by omega, a1.2⟩ (by omega) hk (by rw [← hst]; exact hnext)
    | false =>
      rw [if_neg (by rw [h]; simp)] at hst
      rw [← hst]
      exact hnext k (by omega)
theorem low_64 : ∀ a : Fin 64, a.val ≠ 0 → (List.range 6).any (fun v => decide ((a.val : Int) - Go.bits .and .i64 (a.val : Int) ((a.val : Int) - 1) = (2 : Int) ^ v) && (bt (a.val : Int) v && (List.range v).all (fun u => !(bt (a.val : Int) u)))) = true := by decide +kernel
theorem low_is (a : Int) (h0 : 0 < a) (h1 : a ≤ 63) : ∃ v, v < 6 ∧ a - Go.bits .and .i64 a (a - 1) = (2 : Int) ^ v ∧ bt a v = true ∧ ∀ u, u < v → bt a u = false := by
  obtain ⟨m, rfl⟩ := Int.eq_ofNat_of_zero_le (show 0 ≤ a by omega)
  obtain ⟨v, hv, h⟩ := List.any_eq_true.1 (low_64 ⟨m, by omega⟩ (by show m ≠ 0; omega))
  rw [Bool.and_eq_true, Bool.and_eq_true, decide_eq_true_eq, List.all_eq_true] at h
  exact ⟨v, List.mem_range.1 hv, h.1, h.2.1, fun u hu => by simpa using h.2.2 u (List.mem_range.2 hu)⟩
theorem pow_mono_64 : ∀ u v : Fin 6, u ≤ v → (2 : Int) ^ u.val ≤ (2 : Int) ^ v.val := by decide +kernel
theorem pow_inj (u v : Nat) (hu : u < 6) (hv : v < 6) (h : (2 : Int) ^ u = (2 : Int) ^ v) : u = v := by
  have h1 := bt_pow u u hu hu
  rw [h, bt_pow u v hu hv] at h1
  simpa using h1

set_option maxRecDepth 100000 in
theorem specComps_l1 {n : Int} {l : List Int} (hi : isC n l = true) : ∀ (fs : List Int) (seen left : Int) (out : List Int) (k : Nat), fs.Pairwise (· < ·) → (∀ f ∈ fs, ∃ v, v < 6 ∧ f = (2 : Int) ^ v) → 0 ≤ seen ∧ seen ≤ 63 → 0 ≤ left ∧ left ≤ 63 →
    (∀ u, u < 6 → bt left u = (decide ((2 : Int) ^ u ∈ fs) && !(bt seen u))) → out.length + fs.length ≤ 100 → fs.length * 4400 + 1 ≤ k →
    spec_l01Components.l1 k out left n l = some (compsI (ofL l 1) fs seen out) := by
  obtain ⟨hn, hs, hr, h63⟩ := isC_faces hi
  have hl := isC_of hi
  intro fs
  induction fs with
  | nil =>
    intro seen left out k _ _ hse hle H ho hk
    obtain ⟨k, rfl⟩ : ∃ m, k = m + 1 := ⟨k - 1, by omega⟩
    have h0 : left = 0 := ext_bt left 0 hle ⟨by omega, by omega⟩ fun v hv => by rw [H v hv, bt_zero]; simp
    simp only [spec_l01Components.l1]
    rw [if_neg (by omega)]
    rfl
  | cons f fs ih =>
    intro seen left out k hp hf hse hle H ho hk
    rw [List.length_cons] at ho hk
    rw [List.pairwise_cons] at hp
    obtain ⟨v, hv, hfv⟩ := hf f List.mem_cons_self
    have hpv := pow_range v hv
    have hmem : ∀ u, u < 6 → u ≠ v → decide ((2 : Int) ^ u ∈ f :: fs) = decide ((2 : Int) ^ u ∈ fs) := fun u hu hne => decide_eq_decide.2 (by
      rw [List.mem_cons]
      constructor
      · rintro (h | h)
        · exact absurd (pow_inj u v hu hv (h.trans hfv)) hne
        · exact h
      · exact .inr)
    have hfs := fun x hx => hf x (List.mem_cons_of_mem _ hx)
    simp only [compsI]
    by_cases hin : inB f seen = true
    · rw [if_pos hin]
      have hsv : bt seen v = true := (inB_iff f seen (by omega) hse).1 hin v hv (by rw [hfv, bt_pow v v hv hv]; simp)
      refine ih seen left out k hp.2 hfs hse hle (fun u hu => ?_) (by omega) (by omega)
      rw [H u hu]
      by_cases e : u = v
      · rw [e, hsv]; simp
      · rw [hmem u hu e]
    · rw [if_neg hin]
      have hsv : bt seen v = false := by
        cases h : bt seen v
        · rfl
        · exfalso
          refine hin ((inB_iff f seen (by omega) hse).2 fun u hu h2 => ?_)
          rw [hfv, bt_pow u v hu hv] at h2
          have : u = v := by simpa using h2
          rw [this]; exact h
      have hlv : bt left v = true := by rw [H v hv, hsv, hfv]; simp
      have hpos : 0 < left := by
        rcases Int.lt_or_eq_of_le hle.1 with h | h
        · exact h
        · rw [← h, bt_zero] at hlv; cases hlv
      obtain ⟨v', hv', hlow, h1, h2⟩ := low_is left hpos hle.2
      have hle' : v' ≤ v := by
        rcases Nat.lt_or_ge v v' with h | h
        · rw [h2 v h] at hlv; cases hlv
        · exact h
      have hvv : v' = v := by
        have h3 := H v' hv'
        rw [h1] at h3
        have h4 := h3.symm
        rw [Bool.and_eq_true, decide_eq_true_eq, List.mem_cons] at h4
        rcases h4.1 with h5 | h5
        · exact pow_inj v' v hv' hv (h5.trans hfv)
        · have h6 := hp.1 _ h5
          have h7 := pow_mono_64 ⟨v', hv'⟩ ⟨v, hv⟩ hle'
          simp only at h7
          omega
      rw [hvv] at hlow
      rw [← hfv] at hlow
      have hg := grow_same hi f (by omega)
      obtain ⟨g1, g2, g3, g4⟩ := grow_facts l hl f (by omega)
      rw [← hg]
      generalize hG : growF l f = g at g1 g2
      obtain ⟨k, rfl⟩ : ∃ m, k = m + 1 := ⟨k - 1, by omega⟩
      simp only [spec_l01Components.l1]
      rw [if_pos (by omega), w64 (left - 1) (by omega) (by omega), hlow, w64 f (by omega) (by omega)]
      refine specComps_l2 n l out left h63 hl (fs.length * 4400 + 2) _ 64 k f (by omega) (by omega) (by omega) ?_
      rw [hG]
      intro k hk
      obtain ⟨k, rfl⟩ : ∃ m, k = m + 1 := ⟨k - 1, by omega⟩
      obtain ⟨d1, d2, d3⟩ := diff_bt left g hle g1
      obtain ⟨o1, o2, o3⟩ := or_bt seen g hse g1
      have hgv : bt g v = true := (inB_iff f g (by omega) g1).1 g2 v hv (by rw [hfv, bt_pow v v hv hv]; simp)
      simp only [spec_l01Components.l2]
      rw [if_neg (by simp), if_pos (by omega), w64 _ (by omega) (by omega)]
      refine ih (Go.bits .or .i64 seen g) _ (out ++ [g]) k hp.2 hfs ⟨by omega, o3⟩ ⟨d2, d3⟩ (fun u hu => ?_) (by rw [List.length_append]; simp; omega) (by omega)
      rw [d1 u hu, o1 u hu, H u hu]
      by_cases e : u = v
      · rw [e, hgv]; simp
      · rw [hmem u hu e]
        cases decide ((2 : Int) ^ u ∈ fs) <;> cases bt seen u <;> cases bt g u <;> rfl
theorem dim0_64 : ∀ m : Fin 64, dimI (m.val : Int) = 0 → m.val ≠ 0 → (List.range 6).any (fun v => decide ((m.val : Int) = (2 : Int) ^ v)) = true := by decide +kernel
theorem dim0_pow : ∀ v : Fin 6, dimI ((2 : Int) ^ v.val) = 0 := by decide +kernel

set_option maxRecDepth 100000 in
theorem specComps_is {n : Int} {l : List Int} (hi : isC n l = true) (k : Nat) (hk : 278000 ≤ k) : spec_l01Components.f k n l = some (componentsL l) := by
  obtain ⟨hn, hs, hr, h63⟩ := isC_faces hi
  have h0 := of_length l 0
  obtain ⟨f1, f2⟩ := left_facts l n.toNat (by omega)
  unfold spec_l01Components.f
  refine specComps_l0 n hn l h63 277500 _ (fun k hk => ?_) n.toNat 0 k (by omega) (by omega) (by omega)
  refine specComps_l1 hi (ofL l 0) 0 _ [] k (hs.filter _) (fun f hf => ?_) ⟨by omega, by omega⟩ f1 (fun u hu => ?_) (by simp; omega) (by omega)
  · obtain ⟨h1, h2⟩ := List.mem_filter.1 hf
    have h3 := hr f h1
    obtain ⟨m, rfl⟩ := Int.eq_ofNat_of_zero_le (show 0 ≤ f by omega)
    obtain ⟨v, hv, h4⟩ := List.any_eq_true.1 (dim0_64 ⟨m, by omega⟩ (by simpa [bne] using h2) (by show m ≠ 0; omega))
    exact ⟨v, List.mem_range.1 hv, of_decide_eq_true h4⟩
  · rw [f2 u hu, bt_zero]
    have h5 : decide ((2 : Int) ^ u ∈ ofL l 0) = decide ((2 : Int) ^ u ∈ l) := decide_eq_decide.2 (by
      unfold ofL
      rw [List.mem_filter]
      have h6 := dim0_pow ⟨u, hu⟩
      simp only at h6
      rw [h6]
      simp)
    rw [h5]
    by_cases h : (2 : Int) ^ u ∈ l
    · have h7 := (hr _ h).2.1
      have h8 : u < n.toNat := by
        rcases Nat.lt_or_ge u n.toNat with h9 | h9
        · exact h9
        · exfalso
          have h10 := two_pow n.toNat u h9
          unfold fullOf at h7
          omega
      simp [h, h8]
    · simp [h]
theorem specComponentsOf_is (n : Int) (l : List Int) (hl : l.length ≤ 2097152) (k : Nat) (hk : isK l + 278000 ≤ k) :
    spec_ComponentsOf.f k n l = some ((if codeOf n l true = 0 then componentsL l else []), codeOf n l true) := by
  unfold spec_ComponentsOf.f
  rw [specIs_is n l hl k (by omega)]
  simp only [Option.bind_some]
  cases hi : isC n l with
  | false => simp [codeOf, hi]
  | true =>
    rw [if_pos rfl, specComps_is hi k (by omega)]
    simp [codeOf, hi]
theorem compsL_length (l : List Int) : (componentsL l).length ≤ l.length := by
  have h1 := comps_length (ofL l 1) (ofL l 0) 0 []
  have h2 := of_length l 0
  unfold componentsL
  simp at h1
  omega
theorem comps_len (n : Int) (l : List Int) (cd : Int) (hi : cd = 0 → l.length ≤ 63) : (if cd = 0 then componentsL l else []).length ≤ 63 := by
  split
  · have := compsL_length l
    have := hi (by assumption)
    omega
  · simp

end Go.Proofs.Ythganpmmhfoodaa.K
end

section
/- of (the faces of a dimension) in the form that the printed texts take. -/
namespace Go.Proofs.Ythganpmmhfoodaa.X
open Go.RowKit Go.Shelf Go.Proofs.Ythganpmmhfoodaa.K Go.Proofs.YthganpmmhfoodaaW.PrintWords Go.Proofs.YthganpmmhfoodaaW.PrintLast Go.Proofs.YthganpmmhfoodaaW.PrintMore
set_option linter.unusedVariables false
set_option linter.unusedSimpArgs false

def impl_Complex_of.f (a0_0 : Int) (l0_1 : List Int) (a1 : Int) : Option (List Int) := if l0_1.length ≤ 63 ∧ ∀ x ∈ l0_1, 0 ≤ x ∧ x ≤ 63 then some (ofL l0_1 a1) else none
theorem impl_Complex_of.calls (a0_0 : Int) (A0_1 : Option Addr) (c0_1 : Nat) (l0_1 : List Int) (a1 : Int) (r : List Int) (w : World) (hr0_1 : Kd.C (Kd.int .i64) w A0_1 l0_1.length l0_1) (hc0_1 : l0_1.length ≤ c0_1) (h : impl_Complex_of.f a0_0 l0_1 a1 = some r) :
    Calls Try.prog 66 #[.agg #[.int .i64 a0_0, .slice A0_1 l0_1.length c0_1], .int .i64 a1] w fun e w' => ∃ v0_ : Value, e = .returned (v0_) ∧ Kd.R (Kd.int .i64) 2 w' w.heap.size (fun _ => True) v0_ r ∧ Below w.heap.size w w' := by
  unfold impl_Complex_of.f at h
  by_cases hl : l0_1.length ≤ 63 ∧ ∀ x ∈ l0_1, 0 ≤ x ∧ x ≤ 63
  · rw [if_pos hl] at h
    injection h with h
    subst h
    exact of_calls a0_0 A0_1 c0_1 l0_1 a1 w ⟨hr0_1, hc0_1, by omega⟩ (by omega) hl.2
  · rw [if_neg hl] at h
    cases h

end Go.Proofs.Ythganpmmhfoodaa.X
end

section
/- Written by a program of this session (myprint.py over the kit's print). -/
namespace Go.Proofs.Ythganpmmhfoodaa.C
open Go.RowKit Go.Proofs.Ythganpmmhfoodaa.Q Go.Proofs.Ythganpmmhfoodaa.X Go.Proofs.YthganpmmhfoodaaW.PrintWords Go.Proofs.YthganpmmhfoodaaW.PrintLast Go.Proofs.YthganpmmhfoodaaW.PrintMore
attribute [local go_sem] max2_int min2_int max_two min_two max_three min_three max_four min_four   -- for this text's walks alone
set_option linter.unusedVariables false
set_option linter.unusedSimpArgs false



def errW : Option Int → Value
  | none => .nilIface
  | some c => .iface 0 (.int .i64 c)
theorem errW_none : errW none = .nilIface := rfl
theorem errW_some (c : Int) : errW (some c) = .iface 0 (.int .i64 c) := rfl

theorem info2 : (Try.prog.info? 2).map (fun i => (i.zero, i.size, i.bytes)) = some (some (.int .i64 0), 1, 8) := by kernel_rfl
-- the values' own types

end Go.Proofs.Ythganpmmhfoodaa.C
end

section
/- Written by a program of this session (myprint.py over the kit's print). -/
namespace Go.Proofs.Ythganpmmhfoodaa.C
open Go.RowKit Go.Proofs.Ythganpmmhfoodaa.Q Go.Proofs.Ythganpmmhfoodaa.X Go.Proofs.YthganpmmhfoodaaW.PrintWords Go.Proofs.YthganpmmhfoodaaW.PrintLast Go.Proofs.YthganpmmhfoodaaW.PrintMore
attribute [local go_sem] max2_int min2_int max_two min_two max_three min_three max_four min_four   -- for this text's walks alone
set_option linter.unusedVariables false
set_option linter.unusedSimpArgs false

/-! ### impl_Complex_components: function 68 -/
mutual
def impl_Complex_components.l0 : Nat → List Int → Int → List Int → Int → Int → Int → List Int → Option (List Int)
  | 0, _, _, _, _, _, _, _ => none
  | k + 1, x3, x4, x12, x13, x14, x102000, x102001 => if x14 < x13 then (if 0 ≤ x14 then (if x14 < (x12.length : Int) then ((impl_isIn.f (rd x12 x14) x4).bind fun t106 => (if t106 = true then (impl_Complex_components.l0 k x3 x4 x12 x13 (wrap64 (x14 + 1)) x102000 x102001) else (impl_Complex_components.l1 k x3 x4 (rd x12 x14) true x12 x13 x14 x102000 x102001))) else (none)) else (none)) else (some x3)
def impl_Complex_components.l1 : Nat → List Int → Int → Int → Bool → List Int → Int → Int → Int → List Int → Option (List Int)
  | 0, _, _, _, _, _, _, _, _, _ => none
  | k + 1, x3, x4, x7, x8, x12, x13, x14, x102000, x102001 => if x8 = true then ((impl_Complex_of.f x102000 x102001 1).bind fun t110 => (impl_Complex_components.l2 k x3 x4 x7 false x12 x13 x14 t110 (t110.length : Int) 0 x102000 x102001)) else (if x3.length < 17592186044416 then (impl_Complex_components.l0 k (x3 ++ [x7]) (Go.bits .or .i64 x4 x7) x12 x13 (wrap64 (x14 + 1)) x102000 x102001) else (none))
def impl_Complex_components.l2 : Nat → List Int → Int → Int → Bool → List Int → Int → Int → List Int → Int → Int → Int → List Int → Option (List Int)
  | 0, _, _, _, _, _, _, _, _, _, _, _, _ => none
  | k + 1, x3, x4, x7, x8, x12, x13, x14, x24, x25, x26, x102000, x102001 => if x26 < x25 then (if 0 ≤ x26 then (if x26 < (x24.length : Int) then (if (Go.bits .and .i64 (rd x24 x26) x7) = 0 then (impl_Complex_components.l2 k x3 x4 x7 x8 x12 x13 x14 x24 x25 (wrap64 (x26 + 1)) x102000 x102001) else ((impl_isIn.f (rd x24 x26) x7).bind fun t114 => (if t114 = true then (impl_Complex_components.l2 k x3 x4 x7 x8 x12 x13 x14 x24 x25 (wrap64 (x26 + 1)) x102000 x102001) else (impl_Complex_components.l2 k x3 x4 (Go.bits .or .i64 x7 (rd x24 x26)) true x12 x13 x14 x24 x25 (wrap64 (x26 + 1)) x102000 x102001)))) else (none)) else (none)) else (impl_Complex_components.l1 k x3 x4 x7 x8 x12 x13 x14 x102000 x102001)
end
def impl_Complex_components.f (k : Nat) (a0_0 : Int) (l0_1 : List Int) : Option (List Int) := (impl_Complex_of.f a0_0 l0_1 0).bind fun t102 => (impl_Complex_components.l0 k ([] : List Int) 0 t102 (t102.length : Int) 0 a0_0 l0_1)
theorem impl_Complex_components.mono_l : ∀ k, (∀ y0 y1 y2 y3 y4 y5 y6, LeO (impl_Complex_components.l0 k y0 y1 y2 y3 y4 y5 y6) (impl_Complex_components.l0 (k + 1) y0 y1 y2 y3 y4 y5 y6)) ∧ (∀ y0 y1 y2 y3 y4 y5 y6 y7 y8, LeO (impl_Complex_components.l1 k y0 y1 y2 y3 y4 y5 y6 y7 y8) (impl_Complex_components.l1 (k + 1) y0 y1 y2 y3 y4 y5 y6 y7 y8)) ∧ (∀ y0 y1 y2 y3 y4 y5 y6 y7 y8 y9 y10 y11, LeO (impl_Complex_components.l2 k y0 y1 y2 y3 y4 y5 y6 y7 y8 y9 y10 y11) (impl_Complex_components.l2 (k + 1) y0 y1 y2 y3 y4 y5 y6 y7 y8 y9 y10 y11))
  | 0 => ⟨fun _ _ _ _ _ _ _ r h => by simp [impl_Complex_components.l0] at h, fun _ _ _ _ _ _ _ _ _ r h => by simp [impl_Complex_components.l1] at h, fun _ _ _ _ _ _ _ _ _ _ _ _ r h => by simp [impl_Complex_components.l2] at h⟩
  | k + 1 => by
    obtain ⟨ih0, ih1, ih2⟩ := impl_Complex_components.mono_l k
    refine ⟨?_, ?_, ?_⟩
    · intro y0 y1 y2 y3 y4 y5 y6
      unfold impl_Complex_components.l0
      repeat' first
      | (with_reducible exact ih0 _ _ _ _ _ _ _)
      | (with_reducible exact ih1 _ _ _ _ _ _ _ _ _)
      | (with_reducible exact ih2 _ _ _ _ _ _ _ _ _ _ _ _)
      | (with_reducible exact LeO.refl _)
      | (with_reducible exact LeO.none _)
      | (with_reducible refine LeO.ite ?_ ?_)
      | (with_reducible refine LeO.bind ?_ (fun _ => ?_))
      | exact ih0 _ _ _ _ _ _ _
      | exact ih1 _ _ _ _ _ _ _ _ _
      | exact ih2 _ _ _ _ _ _ _ _ _ _ _ _
      | exact LeO.none _
      | refine LeO.ite ?_ ?_
      | refine LeO.bind ?_ (fun _ => ?_)
    · intro y0 y1 y2 y3 y4 y5 y6 y7 y8
      unfold impl_Complex_components.l1
      repeat' first
      | (with_reducible exact ih0 _ _ _ _ _ _ _)
      | (with_reducible exact ih1 _ _ _ _ _ _ _ _ _)
      | (with_reducible exact ih2 _ _ _ _ _ _ _ _ _ _ _ _)
      | (with_reducible exact LeO.refl _)
      | (with_reducible exact LeO.none _)
      | (with_reducible refine LeO.ite ?_ ?_)
      | (with_reducible refine LeO.bind ?_ (fun _ => ?_))
      | exact ih0 _ _ _ _ _ _ _
      | exact ih1 _ _ _ _ _ _ _ _ _
      | exact ih2 _ _ _ _ _ _ _ _ _ _ _ _
      | exact LeO.none _
      | refine LeO.ite ?_ ?_
      | refine LeO.bind ?_ (fun _ => ?_)
    · intro y0 y1 y2 y3 y4 y5 y6 y7 y8 y9 y10 y11
      unfold impl_Complex_components.l2
      repeat' first
      | (with_reducible exact ih0 _ _ _ _ _ _ _)
      | (with_reducible exact ih1 _ _ _ _ _ _ _ _ _)
      | (with_reducible exact ih2 _ _ _ _ _ _ _ _ _ _ _ _)
      | (with_reducible exact LeO.refl _)
      | (with_reducible exact LeO.none _)
      | (with_reducible refine LeO.ite ?_ ?_)
      | (with_reducible refine LeO.bind ?_ (fun _ => ?_))
      | exact ih0 _ _ _ _ _ _ _
      | exact ih1 _ _ _ _ _ _ _ _ _
      | exact ih2 _ _ _ _ _ _ _ _ _ _ _ _
      | exact LeO.none _
      | refine LeO.ite ?_ ?_
      | refine LeO.bind ?_ (fun _ => ?_)
theorem impl_Complex_components.mono : ∀ a0 a1 k, LeO (impl_Complex_components.f k a0 a1) (impl_Complex_components.f (k + 1) a0 a1) := by
  intro a0 a1 k
  obtain ⟨ih0, ih1, ih2⟩ := impl_Complex_components.mono_l k
  unfold impl_Complex_components.f
  repeat' first
      | (with_reducible exact ih0 _ _ _ _ _ _ _)
      | (with_reducible exact ih1 _ _ _ _ _ _ _ _ _)
      | (with_reducible exact ih2 _ _ _ _ _ _ _ _ _ _ _ _)
      | (with_reducible exact LeO.refl _)
      | (with_reducible exact LeO.none _)
      | (with_reducible refine LeO.ite ?_ ?_)
      | (with_reducible refine LeO.bind ?_ (fun _ => ?_))
      | exact ih0 _ _ _ _ _ _ _
      | exact ih1 _ _ _ _ _ _ _ _ _
      | exact ih2 _ _ _ _ _ _ _ _ _ _ _ _
      | exact LeO.none _
      | refine LeO.ite ?_ ?_
      | refine LeO.bind ?_ (fun _ => ?_)
set_option maxHeartbeats 8000000 in
set_option maxRecDepth 100000 in
theorem impl_Complex_components.calls (k : Nat) (a0_0 : Int) (A0_1 : Option Addr) (c0_1 : Nat) (l0_1 : List Int) (r : List Int) (w : World) (hr0_1 : Kd.C (Kd.int .i64) w A0_1 l0_1.length l0_1) (hc0_1 : l0_1.length ≤ c0_1) (h : impl_Complex_components.f k a0_0 l0_1 = some r) :
    Calls Try.prog 68 #[.agg #[.int .i64 a0_0, .slice A0_1 l0_1.length c0_1]] w fun e w' => ∃ v0_ : Value, e = .returned (v0_) ∧ Kd.R (Kd.int .i64) 2 w' w.heap.size (fun _ => True) v0_ r ∧ Below w.heap.size w w' := by
  have hu28 := Try.underlying28
  have HR0_1 := Aside0.mk hr0_1
  have HC0_1 := Aside0.mk hc0_1
  clear hr0_1 hc0_1
  have HB := Aside0.mk (Below.refl w.heap.size w)
  have H : ((impl_Complex_of.f a0_0 l0_1 0).bind fun t102 => (impl_Complex_components.l0 k ([] : List Int) 0 t102 (t102.length : Int) 0 a0_0 l0_1)) = some r := h
  clear h
  replace H := Option.bind_eq_some_iff.mp H
  obtain ⟨t102, A20, H⟩ := H
  replace H : (impl_Complex_components.l0 k ([] : List Int) 0 t102 (t102.length : Int) 0 a0_0 l0_1) = some r := H
  have A2 := Aside0.mk A20
  clear A20
  have H' := Aside0.mk H
  clear H
  go_enter Try.func68, Try.ntmps68
  go_wp2_with (first | ((with_reducible refine gate_dst (N := 1) rfl ?_); refine box_event ?hg (N := 1) ?hd (cs := #[.int .i64 a0_0, .slice A0_1 l0_1.length c0_1]) (t := 28) ?hr ?_; (case hd => rfl); (case hg => rfl); (case hr => first | (go_simp; done) | (go_simp; rfl)); intro gb101 hg w3 hbox hb; have n0_ := Aside0.mk (below_step (by repeat (first | (with_reducible first | exact HB.out | apply below_alloc | apply pw_below_drewN | apply below_drew1) | exact HB.out)) hb); have n1_ := Aside0.mk (hbox); have n2_ := Aside0.mk ((by rw [hg]; exact (below_size (by repeat (first | (with_reducible first | exact HB.out | apply below_alloc | apply pw_below_drewN | apply below_drew1) | exact HB.out))) : w.heap.size ≤ gb101)); have n3_ := Aside0.mk ((by rw [hg]; exact (below_size (by repeat (first | (with_reducible first | exact HB.out | apply below_alloc | apply pw_below_drewN | apply below_drew1) | exact HB.out))) : w.heap.size ≤ gb101)); clear HB; have HB := n0_; have BK101 := n1_; have GW101 := n2_; have GE101 := n3_; clear n0_ n1_ n2_ n3_; clear hb hbox hg; have hcz4_0 : w3.cell? ⟨gb101, 0, none⟩ = some (.int .i64 a0_0) := (blk_cell BK101.out 0).trans rfl; have hcz4_1 : w3.cell? ⟨gb101, 1, none⟩ = some (.slice A0_1 l0_1.length c0_1) := (blk_cell BK101.out 1).trans rfl; have hfz4_0 := blk_frozen BK101.out 0; have hfz4_1 := blk_frozen BK101.out 1) | ((with_reducible refine gate_callee (f := 66) rfl ?_); refine goesL_ (some 12) rfl rfl Try.func66 (by kernel_rfl) rfl #[.agg #[.int .i64 a0_0, .slice A0_1 l0_1.length c0_1], .int .i64 0] rfl (by (try simp only [List.map_toArray, List.map_cons, List.map_nil]); first | done | rfl | (simp only [List.length_drop, List.length_take]; rfl)) ?_; (with_reducible refine (impl_Complex_of.calls a0_0 _ _ l0_1 0 t102 _ ?side1 ?side2 A2.out).mono ?_); (case side1 => repeat (first | exact (Kd.C_below HR0_1.out HB.out) | (with_reducible refine Kd.C_alloc ?_ _) | (with_reducible refine Kd.C_drewN ?_ _) | (with_reducible refine Kd.C_drew ?_))); (case side2 => exact HC0_1.out); rintro e w5 ⟨v103, rfl, ho0, hb⟩; refine ⟨_, rfl, ?_⟩; have n0_ := Aside0.mk (Kd.R_lower ho0 (below_size (by repeat (first | (with_reducible first | exact HB.out | apply below_alloc | apply pw_below_drewN | apply below_drew1 | refine below_set ?_ GE101.out) | exact HB.out)))); have n1_ := Aside0.mk (blk_below (g := gb101) (o := .cells #[.int .i64 a0_0, .slice A0_1 l0_1.length c0_1] 28 (0, 0)) (by (with_reducible repeat (first | refine blk_drewN ?_ _ | refine blk_drew ?_ | refine blk_alloc ?_ _)); exact BK101.out) hb); have n2_ := Aside0.mk (below_step (by repeat (first | (with_reducible first | exact HB.out | apply below_alloc | apply pw_below_drewN | apply below_drew1 | refine below_set ?_ GE101.out) | exact HB.out)) hb); clear BK101; clear HB; have HO104 := n0_; have BK101 := n1_; have HB := n2_; clear n0_ n1_ n2_; (try clear hb); (try clear hb2); (try clear hk); (try clear hi); (try clear ho0); obtain ⟨Ao6, co6, eo6⟩ := Kd.R_slice HO104.out; subst eo6))
  go_loopg [3, 4, 14] k (fun kq v3 v4 v14 w' => ∃ (x3_1 : List Int) (x4_1 : Int) (x14_1 : Int), v4 = .int .i64 x4_1 ∧ v14 = .int .i64 x14_1 ∧ Aside0 (impl_Complex_components.l0 kq x3_1 x4_1 t102 (t102.length : Int) x14_1 a0_0 l0_1 = some r) ∧ Aside0 (kq ≤ k) ∧ Aside0 (Kd.R (Kd.int .i64) 2 w' w.heap.size (fun k_ => some k_ ≠ ((.slice Ao6 t102.length co6) : Value).ownBlock) v3 x3_1) ∧ Aside0 (Kd.R (Kd.int .i64) 2 w' w.heap.size (fun k_ => some k_ ≠ (v3 : Value).ownBlock) (.slice Ao6 t102.length co6) t102) ∧ Aside0 (w'.heap[gb101]? = some (.cells #[.int .i64 a0_0, (.slice A0_1 l0_1.length c0_1)] 28 (0, 0))) ∧ Aside0 (Below w.heap.size w w'))
  case atStart => exact ⟨(([] : List Int)), (0), (0), (by first | rfl | (simp; done) | (simp [*]; done)), (by first | rfl | (simp; done) | (simp [*]; done)), H', ⟨Nat.le_refl _⟩, ⟨by first | exact Kd.R_nil _ _ _ _ _ | exact Kd.N_nil _ _ _ _ _ | exact Kd.V_nil _ _ _ _ _ | exact Kd.Q_nil _ _ _ _ _ | exact Kd.S_nil _ _ _ _ _⟩, ⟨by (with_reducible repeat (first | apply Kd.R_alloc | apply Kd.R_drewN | apply Kd.R_drew)); exact Kd.R_mono HO104.out (fun _ hk => (by simp [Value.ownBlock]))⟩, ⟨by (with_reducible repeat (first | refine blk_drewN ?_ _ | refine blk_drew ?_ | refine blk_alloc ?_ _)); exact BK101.out⟩, ⟨by repeat (first | (with_reducible first | exact HB.out | apply below_alloc | apply pw_below_drewN | apply below_drew1 | refine below_set ?_ GE101.out) | exact HB.out)⟩⟩
  case round =>
    clear H'
    try clear p2
    try clear c6
    try clear hcz4_0
    try clear hcz4_1
    try clear hfz4_0
    try clear hfz4_1
    obtain ⟨x3_1, x4_1, x14_1, rfl, rfl, HA, HK1, HO_3, HO_12, BK101, HB⟩ := hrel
    cases gk with
    | zero => exact absurd HA.out (by simp [impl_Complex_components.l0])
    | succ k1 =>
      have H := HA.out
      clear HA
      simp only [impl_Complex_components.l0] at H
      by_cases c7 : x14_1 < (t102.length : Int)
      · rw [if_pos c7] at H
        have c7b0 : decide (x14_1 < (t102.length : Int)) = true := decide_eq_true c7
        clear c7
        by_cases c8 : 0 ≤ x14_1
        · rw [if_pos c8] at H
          have c8b0 : decide (0 ≤ x14_1) = true := decide_eq_true c8
          clear c8
          by_cases c9 : x14_1 < (t102.length : Int)
          · rw [if_pos c9] at H
            have c9b0 : decide (x14_1 < (t102.length : Int)) = true := decide_eq_true c9
            clear c9
            replace H := Option.bind_eq_some_iff.mp H
            obtain ⟨t106, A100, H⟩ := H
            replace H : (if t106 = true then (impl_Complex_components.l0 k1 x3_1 x4_1 t102 (t102.length : Int) (wrap64 (x14_1 + 1)) a0_0 l0_1) else (impl_Complex_components.l1 k1 x3_1 x4_1 (rd t102 x14_1) true t102 (t102.length : Int) x14_1 a0_0 l0_1)) = some r := H
            have A10 := Aside0.mk A100
            clear A100
            by_cases c11 : t106 = true
            · subst c11
              have H1 : (impl_Complex_components.l0 k1 x3_1 x4_1 t102 (t102.length : Int) (wrap64 (x14_1 + 1)) a0_0 l0_1) = some r := by rw [if_pos rfl] at H; exact H
              clear H
              have H := H1
              clear H1
              have H' := Aside0.mk H
              clear H
              have p105 : 0 ≤ (x14_1 : Int) := of_decide_eq_true (by first | (with_reducible assumption) | assumption)
              have q105 : x14_1 < (t102.length : Int) := of_decide_eq_true (by first | (with_reducible assumption) | assumption)
              obtain ⟨ad105, e105, hx105_0⟩ := Kd.at_int (Kd.R_reads' HO_12.out).2.2 x14_1 p105 q105
              cases e105
              replace p105 := eq_true p105
              replace q105 := eq_true q105
              go_wp2_with (first | ((with_reducible refine gate_callee (f := 100) rfl ?_); refine goesL_ (some 20) rfl rfl Try.func100 (by kernel_rfl) rfl #[.int .i64 (rd t102 x14_1), .int .i64 x4_1] rfl (by (try simp only [List.map_toArray, List.map_cons, List.map_nil]); first | done | rfl | (simp only [List.length_drop, List.length_take]; rfl)) ?_; (with_reducible refine (impl_isIn.calls (rd t102 x14_1) x4_1 true _ A10.out).mono ?_); rintro e w' ⟨rfl, ⟨nd, rfl⟩⟩; refine ⟨_, rfl, ?_⟩))
              go_roundg k1
              case measure => have := HK1.out; omega
              case rel => exact ⟨(x3_1), (x4_1), (wrap64 (x14_1 + 1)), (by first | rfl | (simp; done) | (simp [*]; done)), (by first | rfl | (simp; done) | (simp [*]; done)), H', ⟨by have := HK1.out; omega⟩, ⟨by (with_reducible repeat (first | apply Kd.R_alloc | apply Kd.R_drewN | apply Kd.R_drew)); exact HO_3.out⟩, ⟨by (with_reducible repeat (first | apply Kd.R_alloc | apply Kd.R_drewN | apply Kd.R_drew)); exact HO_12.out⟩, ⟨by (with_reducible repeat (first | refine blk_drewN ?_ _ | refine blk_drew ?_ | refine blk_alloc ?_ _)); exact BK101.out⟩, ⟨by repeat (first | (with_reducible first | exact HB.out | apply below_alloc | apply pw_below_drewN | apply below_drew1 | refine below_set ?_ GE101.out) | exact HB.out)⟩⟩
            · replace c11 := Bool.eq_false_iff.mpr c11
              subst c11
              have H1 : (impl_Complex_components.l1 k1 x3_1 x4_1 (rd t102 x14_1) true t102 (t102.length : Int) x14_1 a0_0 l0_1) = some r := by rw [if_neg (show ¬ (false = true) by decide)] at H; exact H
              clear H
              have H := H1
              clear H1
              have H' := Aside0.mk H
              clear H
              have p105 : 0 ≤ (x14_1 : Int) := of_decide_eq_true (by first | (with_reducible assumption) | assumption)
              have q105 : x14_1 < (t102.length : Int) := of_decide_eq_true (by first | (with_reducible assumption) | assumption)
              obtain ⟨ad105, e105, hx105_0⟩ := Kd.at_int (Kd.R_reads' HO_12.out).2.2 x14_1 p105 q105
              cases e105
              replace p105 := eq_true p105
              replace q105 := eq_true q105
              go_wp2_with (first | ((with_reducible refine gate_callee (f := 100) rfl ?_); refine goesL_ (some 20) rfl rfl Try.func100 (by kernel_rfl) rfl #[.int .i64 (rd t102 x14_1), .int .i64 x4_1] rfl (by (try simp only [List.map_toArray, List.map_cons, List.map_nil]); first | done | rfl | (simp only [List.length_drop, List.length_take]; rfl)) ?_; (with_reducible refine (impl_isIn.calls (rd t102 x14_1) x4_1 false _ A10.out).mono ?_); rintro e w' ⟨rfl, ⟨nd, rfl⟩⟩; refine ⟨_, rfl, ?_⟩))
              go_loopg [7, 8] k1 (fun kq v7 v8 w' => ∃ (x7_2 : Int) (x8_2 : Bool), v7 = .int .i64 x7_2 ∧ v8 = .bool x8_2 ∧ Aside0 (impl_Complex_components.l1 kq x3_1 x4_1 x7_2 x8_2 t102 (t102.length : Int) x14_1 a0_0 l0_1 = some r) ∧ Aside0 (kq ≤ k1) ∧ Aside0 (Kd.R (Kd.int .i64) 2 w' w.heap.size (fun k_ => some k_ ≠ ((.slice (some ad105) t102.length co6) : Value).ownBlock) u3 x3_1) ∧ Aside0 (Kd.R (Kd.int .i64) 2 w' w.heap.size (fun k_ => some k_ ≠ (u3 : Value).ownBlock) (.slice (some ad105) t102.length co6) t102) ∧ Aside0 (w'.heap[gb101]? = some (.cells #[.int .i64 a0_0, (.slice A0_1 l0_1.length c0_1)] 28 (0, 0))) ∧ Aside0 (Below w.heap.size w w'))
              case atStart => exact ⟨(rd t102 x14_1), (true), (by first | rfl | (simp; done) | (simp [*]; done)), (by first | rfl | (simp; done) | (simp [*]; done)), H', ⟨Nat.le_refl _⟩, ⟨by (with_reducible repeat (first | apply Kd.R_alloc | apply Kd.R_drewN | apply Kd.R_drew)); exact HO_3.out⟩, ⟨by (with_reducible repeat (first | apply Kd.R_alloc | apply Kd.R_drewN | apply Kd.R_drew)); exact HO_12.out⟩, ⟨by (with_reducible repeat (first | refine blk_drewN ?_ _ | refine blk_drew ?_ | refine blk_alloc ?_ _)); exact BK101.out⟩, ⟨by repeat (first | (with_reducible first | exact HB.out | apply below_alloc | apply pw_below_drewN | apply below_drew1 | refine below_set ?_ GE101.out) | exact HB.out)⟩⟩
              case round =>
                clear H'
                try clear c1
                try clear p1
                try clear q1
                try clear hx1
                try clear p2
                try clear c6
                try clear p6
                try clear c7
                try clear c7b0
                try clear c8
                try clear c8b0
                try clear c9
                try clear c9b0
                try clear c10
                try clear p10
                try clear q10
                try clear hx10
                try clear c11
                try clear hcz4_0
                try clear hcz4_1
                try clear hfz4_0
                try clear hfz4_1
                try clear hx105_0
                try clear p105
                try clear p2
                try clear q105
                obtain ⟨x7_2, x8_2, rfl, rfl, HA, HK2, HO_3, HO_12, BK101, HB⟩ := hrel
                cases gk with
                | zero => exact absurd HA.out (by simp [impl_Complex_components.l1])
                | succ k2 =>
                  have H := HA.out
                  clear HA
                  simp only [impl_Complex_components.l1] at H
                  by_cases c12 : x8_2 = true
                  · subst c12
                    have H1 : ((impl_Complex_of.f a0_0 l0_1 1).bind fun t110 => (impl_Complex_components.l2 k2 x3_1 x4_1 x7_2 false t102 (t102.length : Int) x14_1 t110 (t110.length : Int) 0 a0_0 l0_1)) = some r := by rw [if_pos rfl] at H; exact H
                    clear H
                    have H := H1
                    clear H1
                    replace H := Option.bind_eq_some_iff.mp H
                    obtain ⟨t110, A130, H⟩ := H
                    replace H : (impl_Complex_components.l2 k2 x3_1 x4_1 x7_2 false t102 (t102.length : Int) x14_1 t110 (t110.length : Int) 0 a0_0 l0_1) = some r := H
                    have A13 := Aside0.mk A130
                    clear A130
                    have H' := Aside0.mk H
                    clear H
                    have hcz14_0 : wr.cell? ⟨gb101, 0, none⟩ = some (.int .i64 a0_0) := (blk_cell BK101.out 0).trans rfl
                    have hcz14_1 : wr.cell? ⟨gb101, 1, none⟩ = some (.slice A0_1 l0_1.length c0_1) := (blk_cell BK101.out 1).trans rfl
                    have hfz14_0 := blk_frozen BK101.out 0
                    have hfz14_1 := blk_frozen BK101.out 1
                    go_wp2_with (first | ((with_reducible refine gate_callee (f := 66) rfl ?_); refine goesL_ (some 24) rfl rfl Try.func66 (by kernel_rfl) rfl #[.agg #[.int .i64 a0_0, .slice A0_1 l0_1.length c0_1], .int .i64 1] rfl (by (try simp only [List.map_toArray, List.map_cons, List.map_nil]); first | done | rfl | (simp only [List.length_drop, List.length_take]; rfl)) ?_; (with_reducible refine (impl_Complex_of.calls a0_0 _ _ l0_1 1 t110 _ ?side1 ?side2 A13.out).mono ?_); (case side1 => repeat (first | exact (Kd.C_below HR0_1.out HB.out) | (with_reducible refine Kd.C_alloc ?_ _) | (with_reducible refine Kd.C_drewN ?_ _) | (with_reducible refine Kd.C_drew ?_))); (case side2 => exact HC0_1.out); rintro e w15 ⟨v111, rfl, ho0, hb⟩; refine ⟨_, rfl, ?_⟩; have n0_ := Aside0.mk (Kd.R_elder' (by (with_reducible repeat (first | apply Kd.R_alloc | apply Kd.R_drewN | apply Kd.R_drew)); exact HO_3.out) (Kd.R_base ho0) hb); have n1_ := Aside0.mk (Kd.R_elder' (by (with_reducible repeat (first | apply Kd.R_alloc | apply Kd.R_drewN | apply Kd.R_drew)); exact HO_12.out) (Kd.R_base ho0) hb); have n2_ := Aside0.mk (Kd.R_lower (Kd.R_new' (Kd.R_new' ho0 (Kd.R_lt (by (with_reducible repeat (first | apply Kd.R_alloc | apply Kd.R_drewN | apply Kd.R_drew)); exact HO_3.out))) (Kd.R_lt (by (with_reducible repeat (first | apply Kd.R_alloc | apply Kd.R_drewN | apply Kd.R_drew)); exact HO_12.out))) (below_size (by repeat (first | (with_reducible first | exact HB.out | apply below_alloc | apply pw_below_drewN | apply below_drew1 | refine below_set ?_ GE101.out) | exact HB.out)))); have n3_ := Aside0.mk (blk_below (g := gb101) (o := .cells #[.int .i64 a0_0, .slice A0_1 l0_1.length c0_1] 28 (0, 0)) (by (with_reducible repeat (first | refine blk_drewN ?_ _ | refine blk_drew ?_ | refine blk_alloc ?_ _)); exact BK101.out) hb); have n4_ := Aside0.mk (below_step (by repeat (first | (with_reducible first | exact HB.out | apply below_alloc | apply pw_below_drewN | apply below_drew1 | refine below_set ?_ GE101.out) | exact HB.out)) hb); clear HO_3; clear HO_12; clear BK101; clear HB; have HO_3 := n0_; have HO_12 := n1_; have HO112 := n2_; have BK101 := n3_; have HB := n4_; clear n0_ n1_ n2_ n3_ n4_; (try clear hb); (try clear hb2); (try clear hk); (try clear hi); (try clear ho0); obtain ⟨Ao16, co16, eo16⟩ := Kd.R_slice HO112.out; subst eo16))
                    go_loopg [7, 8, 26] k2 (fun kq v7 v8 v26 w' => ∃ (x7_3 : Int) (x8_3 : Bool) (x26_3 : Int), v7 = .int .i64 x7_3 ∧ v8 = .bool x8_3 ∧ v26 = .int .i64 x26_3 ∧ Aside0 (impl_Complex_components.l2 kq x3_1 x4_1 x7_3 x8_3 t102 (t102.length : Int) x14_1 t110 (t110.length : Int) x26_3 a0_0 l0_1 = some r) ∧ Aside0 (kq ≤ k2) ∧ Aside0 (Kd.R (Kd.int .i64) 2 w' w.heap.size (fun k_ => some k_ ≠ ((.slice (some ad105) t102.length co6) : Value).ownBlock ∧ some k_ ≠ ((.slice Ao16 t110.length co16) : Value).ownBlock) u3 x3_1) ∧ Aside0 (Kd.R (Kd.int .i64) 2 w' w.heap.size (fun k_ => some k_ ≠ (u3 : Value).ownBlock ∧ some k_ ≠ ((.slice Ao16 t110.length co16) : Value).ownBlock) (.slice (some ad105) t102.length co6) t102) ∧ Aside0 (Kd.R (Kd.int .i64) 2 w' w.heap.size (fun k_ => some k_ ≠ (u3 : Value).ownBlock ∧ some k_ ≠ ((.slice (some ad105) t102.length co6) : Value).ownBlock) (.slice Ao16 t110.length co16) t110) ∧ Aside0 (w'.heap[gb101]? = some (.cells #[.int .i64 a0_0, (.slice A0_1 l0_1.length c0_1)] 28 (0, 0))) ∧ Aside0 (Below w.heap.size w w'))
                    case atStart => exact ⟨(x7_2), (false), (0), (by first | rfl | (simp; done) | (simp [*]; done)), (by first | rfl | (simp; done) | (simp [*]; done)), (by first | rfl | (simp; done) | (simp [*]; done)), H', ⟨Nat.le_refl _⟩, ⟨by (with_reducible repeat (first | apply Kd.R_alloc | apply Kd.R_drewN | apply Kd.R_drew)); exact HO_3.out⟩, ⟨by (with_reducible repeat (first | apply Kd.R_alloc | apply Kd.R_drewN | apply Kd.R_drew)); exact HO_12.out⟩, ⟨by (with_reducible repeat (first | apply Kd.R_alloc | apply Kd.R_drewN | apply Kd.R_drew)); exact Kd.R_mono HO112.out (fun _ hk => ⟨hk.1.2, hk.2⟩)⟩, ⟨by (with_reducible repeat (first | refine blk_drewN ?_ _ | refine blk_drew ?_ | refine blk_alloc ?_ _)); exact BK101.out⟩, ⟨by repeat (first | (with_reducible first | exact HB.out | apply below_alloc | apply pw_below_drewN | apply below_drew1 | refine below_set ?_ GE101.out) | exact HB.out)⟩⟩
                    case round =>
                      clear H'
                      try clear c1
                      try clear p1
                      try clear q1
                      try clear hx1
                      try clear p2
                      try clear c6
                      try clear p6
                      try clear c7
                      try clear c7b0
                      try clear c8
                      try clear c8b0
                      try clear c9
                      try clear c9b0
                      try clear c10
                      try clear p10
                      try clear q10
                      try clear hx10
                      try clear c11
                      try clear c12
                      try clear hcz14_0
                      try clear hcz14_1
                      try clear hcz4_0
                      try clear hcz4_1
                      try clear hfz14_0
                      try clear hfz14_1
                      try clear hfz4_0
                      try clear hfz4_1
                      try clear hx105_0
                      try clear p1
                      try clear p10
                      try clear p105
                      try clear p2
                      try clear p6
                      try clear q1
                      try clear q10
                      try clear q105
                      obtain ⟨x7_3, x8_3, x26_3, rfl, rfl, rfl, HA, HK3, HO_3, HO_12, HO_24, BK101, HB⟩ := hrel
                      cases gk with
                      | zero => exact absurd HA.out (by simp [impl_Complex_components.l2])
                      | succ k3 =>
                        have H := HA.out
                        clear HA
                        simp only [impl_Complex_components.l2] at H
                        by_cases c17 : x26_3 < (t110.length : Int)
                        · rw [if_pos c17] at H
                          have c17b0 : decide (x26_3 < (t110.length : Int)) = true := decide_eq_true c17
                          clear c17
                          by_cases c18 : 0 ≤ x26_3
                          · rw [if_pos c18] at H
                            have c18b0 : decide (0 ≤ x26_3) = true := decide_eq_true c18
                            clear c18
                            by_cases c19 : x26_3 < (t110.length : Int)
                            · rw [if_pos c19] at H
                              have c19b0 : decide (x26_3 < (t110.length : Int)) = true := decide_eq_true c19
                              clear c19
                              by_cases c20 : (Go.bits .and .i64 (rd t110 x26_3) x7_3) = 0
                              · rw [if_pos c20] at H
                                have c20b0 : ((Go.bits .and .i64 (rd t110 x26_3) x7_3) == 0) = true := beq_iff_eq.mpr c20
                                have c20b1 : ((Go.bits .and .i64 (rd t110 x26_3) x7_3) != 0) = false := bne_eq_false_iff_eq.mpr c20
                                clear c20
                                have H' := Aside0.mk H
                                clear H
                                have p113 : 0 ≤ (x26_3 : Int) := of_decide_eq_true (by first | (with_reducible assumption) | assumption)
                                have q113 : x26_3 < (t110.length : Int) := of_decide_eq_true (by first | (with_reducible assumption) | assumption)
                                obtain ⟨ad113, e113, hx113_0⟩ := Kd.at_int (Kd.R_reads' HO_24.out).2.2 x26_3 p113 q113
                                cases e113
                                replace p113 := eq_true p113
                                replace q113 := eq_true q113
                                go_wp2
                                go_roundg k3
                                case measure => have := HK1.out; have := HK2.out; have := HK3.out; omega
                                case rel => exact ⟨(x7_3), (x8_3), (wrap64 (x26_3 + 1)), (by first | rfl | (simp; done) | (simp [*]; done)), (by first | rfl | (simp; done) | (simp [*]; done)), (by first | rfl | (simp; done) | (simp [*]; done)), H', ⟨by have := HK1.out; have := HK2.out; have := HK3.out; omega⟩, ⟨by (with_reducible repeat (first | apply Kd.R_alloc | apply Kd.R_drewN | apply Kd.R_drew)); exact HO_3.out⟩, ⟨by (with_reducible repeat (first | apply Kd.R_alloc | apply Kd.R_drewN | apply Kd.R_drew)); exact HO_12.out⟩, ⟨by (with_reducible repeat (first | apply Kd.R_alloc | apply Kd.R_drewN | apply Kd.R_drew)); exact HO_24.out⟩, ⟨by (with_reducible repeat (first | refine blk_drewN ?_ _ | refine blk_drew ?_ | refine blk_alloc ?_ _)); exact BK101.out⟩, ⟨by repeat (first | (with_reducible first | exact HB.out | apply below_alloc | apply pw_below_drewN | apply below_drew1 | refine below_set ?_ GE101.out) | exact HB.out)⟩⟩
                              · rw [if_neg c20] at H
                                have c20b0 : ((Go.bits .and .i64 (rd t110 x26_3) x7_3) == 0) = false := beq_eq_false_iff_ne.mpr c20
                                have c20b1 : ((Go.bits .and .i64 (rd t110 x26_3) x7_3) != 0) = true := bne_iff_ne.mpr c20
                                replace H := Option.bind_eq_some_iff.mp H
                                obtain ⟨t114, A210, H⟩ := H
                                replace H : (if t114 = true then (impl_Complex_components.l2 k3 x3_1 x4_1 x7_3 x8_3 t102 (t102.length : Int) x14_1 t110 (t110.length : Int) (wrap64 (x26_3 + 1)) a0_0 l0_1) else (impl_Complex_components.l2 k3 x3_1 x4_1 (Go.bits .or .i64 x7_3 (rd t110 x26_3)) true t102 (t102.length : Int) x14_1 t110 (t110.length : Int) (wrap64 (x26_3 + 1)) a0_0 l0_1)) = some r := H
                                have A21 := Aside0.mk A210
                                clear A210
                                by_cases c22 : t114 = true
                                · subst c22
                                  have H1 : (impl_Complex_components.l2 k3 x3_1 x4_1 x7_3 x8_3 t102 (t102.length : Int) x14_1 t110 (t110.length : Int) (wrap64 (x26_3 + 1)) a0_0 l0_1) = some r := by rw [if_pos rfl] at H; exact H
                                  clear H
                                  have H := H1
                                  clear H1
                                  have H' := Aside0.mk H
                                  clear H
                                  have p113 : 0 ≤ (x26_3 : Int) := of_decide_eq_true (by first | (with_reducible assumption) | assumption)
                                  have q113 : x26_3 < (t110.length : Int) := of_decide_eq_true (by first | (with_reducible assumption) | assumption)
                                  obtain ⟨ad113, e113, hx113_0⟩ := Kd.at_int (Kd.R_reads' HO_24.out).2.2 x26_3 p113 q113
                                  cases e113
                                  replace p113 := eq_true p113
                                  replace q113 := eq_true q113
                                  go_wp2_with (first | (go_at_call 100; (with_reducible refine (impl_isIn.calls (rd t110 x26_3) x7_3 true _ A21.out).mono ?_); rintro e w' ⟨rfl, ⟨nd, rfl⟩⟩))
                                  go_roundg k3
                                  case measure => have := HK1.out; have := HK2.out; have := HK3.out; omega
                                  case rel => exact ⟨(x7_3), (x8_3), (wrap64 (x26_3 + 1)), (by first | rfl | (simp; done) | (simp [*]; done)), (by first | rfl | (simp; done) | (simp [*]; done)), (by first | rfl | (simp; done) | (simp [*]; done)), H', ⟨by have := HK1.out; have := HK2.out; have := HK3.out; omega⟩, ⟨by (with_reducible repeat (first | apply Kd.R_alloc | apply Kd.R_drewN | apply Kd.R_drew)); exact HO_3.out⟩, ⟨by (with_reducible repeat (first | apply Kd.R_alloc | apply Kd.R_drewN | apply Kd.R_drew)); exact HO_12.out⟩, ⟨by (with_reducible repeat (first | apply Kd.R_alloc | apply Kd.R_drewN | apply Kd.R_drew)); exact HO_24.out⟩, ⟨by (with_reducible repeat (first | refine blk_drewN ?_ _ | refine blk_drew ?_ | refine blk_alloc ?_ _)); exact BK101.out⟩, ⟨by repeat (first | (with_reducible first | exact HB.out | apply below_alloc | apply pw_below_drewN | apply below_drew1 | refine below_set ?_ GE101.out) | exact HB.out)⟩⟩
                                · replace c22 := Bool.eq_false_iff.mpr c22
                                  subst c22
                                  have H1 : (impl_Complex_components.l2 k3 x3_1 x4_1 (Go.bits .or .i64 x7_3 (rd t110 x26_3)) true t102 (t102.length : Int) x14_1 t110 (t110.length : Int) (wrap64 (x26_3 + 1)) a0_0 l0_1) = some r := by rw [if_neg (show ¬ (false = true) by decide)] at H; exact H
                                  clear H
                                  have H := H1
                                  clear H1
                                  have H' := Aside0.mk H
                                  clear H
                                  have p113 : 0 ≤ (x26_3 : Int) := of_decide_eq_true (by first | (with_reducible assumption) | assumption)
                                  have q113 : x26_3 < (t110.length : Int) := of_decide_eq_true (by first | (with_reducible assumption) | assumption)
                                  obtain ⟨ad113, e113, hx113_0⟩ := Kd.at_int (Kd.R_reads' HO_24.out).2.2 x26_3 p113 q113
                                  cases e113
                                  replace p113 := eq_true p113
                                  replace q113 := eq_true q113
                                  go_wp2_with (first | (go_at_call 100; (with_reducible refine (impl_isIn.calls (rd t110 x26_3) x7_3 false _ A21.out).mono ?_); rintro e w' ⟨rfl, ⟨nd, rfl⟩⟩))
                                  go_roundg k3
                                  case measure => have := HK1.out; have := HK2.out; have := HK3.out; omega
                                  case rel => exact ⟨(Go.bits .or .i64 x7_3 (rd t110 x26_3)), (true), (wrap64 (x26_3 + 1)), (by first | rfl | (simp; done) | (simp [*]; done)), (by first | rfl | (simp; done) | (simp [*]; done)), (by first | rfl | (simp; done) | (simp [*]; done)), H', ⟨by have := HK1.out; have := HK2.out; have := HK3.out; omega⟩, ⟨by (with_reducible repeat (first | apply Kd.R_alloc | apply Kd.R_drewN | apply Kd.R_drew)); exact HO_3.out⟩, ⟨by (with_reducible repeat (first | apply Kd.R_alloc | apply Kd.R_drewN | apply Kd.R_drew)); exact HO_12.out⟩, ⟨by (with_reducible repeat (first | apply Kd.R_alloc | apply Kd.R_drewN | apply Kd.R_drew)); exact HO_24.out⟩, ⟨by (with_reducible repeat (first | refine blk_drewN ?_ _ | refine blk_drew ?_ | refine blk_alloc ?_ _)); exact BK101.out⟩, ⟨by repeat (first | (with_reducible first | exact HB.out | apply below_alloc | apply pw_below_drewN | apply below_drew1 | refine below_set ?_ GE101.out) | exact HB.out)⟩⟩
                            · rw [if_neg c19] at H
                              exact absurd H (by simp)
                          · rw [if_neg c18] at H
                            exact absurd H (by simp)
                        · rw [if_neg c17] at H
                          have c17b0 : decide (x26_3 < (t110.length : Int)) = false := decide_eq_false c17
                          clear c17
                          have H' := Aside0.mk H
                          clear H
                          go_wp2
                          go_roundg k3
                          case measure => have := HK1.out; have := HK2.out; have := HK3.out; omega
                          case rel => exact ⟨(x7_3), (x8_3), (by first | rfl | (simp; done) | (simp [*]; done)), (by first | rfl | (simp; done) | (simp [*]; done)), H', ⟨by have := HK1.out; have := HK2.out; have := HK3.out; omega⟩, ⟨by (with_reducible repeat (first | apply Kd.R_alloc | apply Kd.R_drewN | apply Kd.R_drew)); exact Kd.R_mono HO_3.out (fun _ hk => hk.1)⟩, ⟨by (with_reducible repeat (first | apply Kd.R_alloc | apply Kd.R_drewN | apply Kd.R_drew)); exact Kd.R_mono HO_12.out (fun _ hk => hk.1)⟩, ⟨by (with_reducible repeat (first | refine blk_drewN ?_ _ | refine blk_drew ?_ | refine blk_alloc ?_ _)); exact BK101.out⟩, ⟨by repeat (first | (with_reducible first | exact HB.out | apply below_alloc | apply pw_below_drewN | apply below_drew1 | refine below_set ?_ GE101.out) | exact HB.out)⟩⟩
                  · replace c12 := Bool.eq_false_iff.mpr c12
                    subst c12
                    have H1 : (if x3_1.length < 17592186044416 then (impl_Complex_components.l0 k2 (x3_1 ++ [x7_2]) (Go.bits .or .i64 x4_1 x7_2) t102 (t102.length : Int) (wrap64 (x14_1 + 1)) a0_0 l0_1) else (none)) = some r := by rw [if_neg (show ¬ (false = true) by decide)] at H; exact H
                    clear H
                    have H := H1
                    clear H1
                    by_cases c23 : x3_1.length < 17592186044416
                    · rw [if_pos c23] at H
                      have LMc23 := Aside0.mk c23
                      clear c23
                      obtain ⟨y107, hy107⟩ : ∃ y_ : List Int, y_ = (x3_1 ++ [x7_2]) := ⟨_, rfl⟩
                      replace H : (impl_Complex_components.l0 k2 y107 (Go.bits .or .i64 x4_1 x7_2) t102 (t102.length : Int) (wrap64 (x14_1 + 1)) a0_0 l0_1) = some r := by first | (rw [hy107]; with_reducible exact H) | (have H2_ := (Option.bind_some _ _).symm.trans H; rw [hy107]; with_reducible exact H2_) | (have H2_ := (Option.bind_some _ _).symm.trans H; with_reducible exact H2_) | with_reducible exact H | (rw [hy107]; exact H) | exact H
                      have Ny107 := Aside0.mk hy107
                      clear hy107
                      have H' := Aside0.mk H
                      clear H
                      go_wp2_with (first | ((with_reducible refine gate_builtin (b := .append) (xs := #[.tmp 47, .tmp 49]) rfl ?_); at_builtin; refine Kd.R_append (Kd.int .i64) (w0 := w) w.heap.size rfl (.tmp 47) (.tmp 49) 22 2 (.int .i64 0) 8 rfl Try.underlying22 info2 rfl (by decide) (by omega) u3 x3_1 x7_2 [.int .i64 x7_2] (fun k_ => some k_ ≠ (.slice (some ad105) t102.length co6 : Value).ownBlock) (fun _ => False) rfl rfl ?aP (fun _ hk => hk.elim) ?aF ?aO ?aB ?aS ?aL ?_; (case aP => exact rfl); (case aB => exact (by repeat (first | (with_reducible first | exact HB.out | apply below_alloc | apply pw_below_drewN | apply below_drew1 | refine below_set ?_ GE101.out) | exact HB.out))); (case aF => exact (fun k_ hk => Kd.fresh' (Kd.R_lt (by (with_reducible repeat (first | apply Kd.R_alloc | apply Kd.R_drewN | apply Kd.R_drew)); exact HO_12.out)) k_ hk)); (case aO => exact (by (with_reducible repeat (first | apply Kd.R_alloc | apply Kd.R_drewN | apply Kd.R_drew)); exact HO_3.out)); (case aS => exact (below_size (by repeat (first | (with_reducible first | exact HB.out | apply below_alloc | apply pw_below_drewN | apply below_drew1 | refine below_set ?_ GE101.out) | exact HB.out)))); (case aL => have := LMc23.out; omega); intro v108 w24 ho hb hg hat; rw [← Ny107.out] at ho; have n0_ := Aside0.mk (Kd.R_after (ok := (fun _ => True)) (by (with_reducible repeat (first | apply Kd.R_alloc | apply Kd.R_drewN | apply Kd.R_drew)); exact Kd.R_mono HO_12.out (fun _ hk => ⟨trivial, hk⟩)) hg hat); have n1_ := Aside0.mk (blk_grown (g := gb101) (o := .cells #[.int .i64 a0_0, .slice A0_1 l0_1.length c0_1] 28 (0, 0)) (by (with_reducible repeat (first | refine blk_drewN ?_ _ | refine blk_drew ?_ | refine blk_alloc ?_ _)); exact BK101.out) hg (Kd.R_ne HO_3.out BK101.out (by decide))); have n2_ := Aside0.mk (hb); have n3_ := Aside0.mk (ho); clear HO_12; clear BK101; clear HB; clear HO_3; have HO_12 := n0_; have BK101 := n1_; have HB := n2_; have HO109 := n3_; clear n0_ n1_ n2_ n3_; clear ho hb hg hat))
                      go_roundg k2
                      case measure => have := HK1.out; have := HK2.out; omega
                      case rel => exact ⟨(y107), (Go.bits .or .i64 x4_1 x7_2), (wrap64 (x14_1 + 1)), (by first | rfl | (simp; done) | (simp [*]; done)), (by first | rfl | (simp; done) | (simp [*]; done)), H', ⟨by have := HK1.out; have := HK2.out; omega⟩, ⟨by (with_reducible repeat (first | apply Kd.R_alloc | apply Kd.R_drewN | apply Kd.R_drew)); exact HO109.out⟩, ⟨by (with_reducible repeat (first | apply Kd.R_alloc | apply Kd.R_drewN | apply Kd.R_drew)); exact Kd.R_mono HO_12.out (fun _ hk => hk.2)⟩, ⟨by (with_reducible repeat (first | refine blk_drewN ?_ _ | refine blk_drew ?_ | refine blk_alloc ?_ _)); exact BK101.out⟩, ⟨by repeat (first | (with_reducible first | exact HB.out | apply below_alloc | apply pw_below_drewN | apply below_drew1 | refine below_set ?_ GE101.out) | exact HB.out)⟩⟩
                    · rw [if_neg c23] at H
                      exact absurd H (by simp)
          · rw [if_neg c9] at H
            exact absurd H (by simp)
        · rw [if_neg c8] at H
          exact absurd H (by simp)
      · rw [if_neg c7] at H
        have c7b0 : decide (x14_1 < (t102.length : Int)) = false := decide_eq_false c7
        clear c7
        obtain rfl := Option.some.inj H
        go_wp2
        go_ret
        exact ⟨_, by first | rfl | (simp [errW_none, errW_some] <;> rfl) | (simp [*, errW_none, errW_some] <;> rfl), by (with_reducible repeat (first | apply Kd.R_alloc | apply Kd.R_drewN | apply Kd.R_drew)); exact Kd.R_mono HO_3.out (fun _ hk => trivial), by repeat (first | (with_reducible first | exact HB.out | apply below_alloc | apply pw_below_drewN | apply below_drew1 | refine below_set ?_ GE101.out) | exact HB.out)⟩

end Go.Proofs.Ythganpmmhfoodaa.C
end

section
/- components, ComponentsOf. -/
namespace Go.Proofs.Ythganpmmhfoodaa.K
open Go.RowKit Go.Shelf Go.Proofs.Ythganpmmhfoodaa.Q Go.Proofs.Ythganpmmhfoodaa.C Go.Proofs.Ythganpmmhfoodaa Go.Proofs.YthganpmmhfoodaaW.PrintWords Go.Proofs.YthganpmmhfoodaaW.PrintLast Go.Proofs.YthganpmmhfoodaaW.PrintMore
set_option linter.unusedVariables false
set_option linter.unusedSimpArgs false

theorem isIn_is (a b : Int) : impl_isIn.f a b = some (inB a b) := rfl
theorem X_of_is (n : Int) (l : List Int) (d : Int) (hl : l.length ≤ 63) (hr : ∀ x ∈ l, 0 ≤ x ∧ x ≤ 63) : X.impl_Complex_of.f n l d = some (ofL l d) := by
  unfold X.impl_Complex_of.f
  rw [if_pos ⟨hl, hr⟩]
theorem compI_l2 (n : Int) (l es V out : List Int) (seen i : Int) (he : es.length ≤ 63) (R : Nat) (r : List Int) (s0 : Int × Bool)
    (hnext : ∀ k, R ≤ k → impl_Complex_components.l1 k out seen (passF es s0).1 (passF es s0).2 V (V.length : Int) i n l = some r) : ∀ (d j k : Nat) (s : Int × Bool), es.length - j = d → j ≤ es.length → R + d + 1 ≤ k → passF (es.drop j) s = passF es s0 →
    impl_Complex_components.l2 k out seen s.1 s.2 V (V.length : Int) i es (es.length : Int) (j : Int) n l = some r := by
  intro d
  induction d with
  | zero =>
    intro j k s hd hj hk hp
    obtain ⟨k, rfl⟩ : ∃ m, k = m + 1 := ⟨k - 1, by omega⟩
    obtain rfl : j = es.length := by omega
    simp only [impl_Complex_components.l2]
    rw [List.drop_length] at hp
    have hp2 : s = passF es s0 := hp
    rw [if_neg (by omega), hp2]
    exact hnext k (by omega)
  | succ d ih =>
    intro j k s hd hj hk hp
    obtain ⟨k, rfl⟩ : ∃ m, k = m + 1 := ⟨k - 1, by omega⟩
    have hjl : j < es.length := by omega
    rw [List.drop_eq_getElem_cons hjl] at hp
    have hp2 : passF (es.drop (j + 1)) (stepF s es[j]) = passF es s0 := hp
    simp only [impl_Complex_components.l2]
    rw [if_pos (by omega), if_pos (by omega), if_pos (by omega), rd_nat es j hjl, isIn_is, w64 ((j : Int) + 1) (by omega) (by omega), nat_succ]
    simp only [Option.bind_some]
    unfold stepF at hp2
    by_cases h0 : Go.bits .and .i64 es[j] s.1 = 0
    · rw [if_pos h0] at hp2 ⊢
      exact ih (j + 1) k s (by omega) (by omega) (by omega) hp2
    · rw [if_neg h0] at hp2 ⊢
      by_cases h1 : inB es[j] s.1 = true
      · rw [if_pos h1] at hp2 ⊢
        exact ih (j + 1) k s (by omega) (by omega) (by omega) hp2
      · rw [if_neg h1] at hp2 ⊢
        exact ih (j + 1) k _ (by omega) (by omega) (by omega) hp2
theorem compI_l1 (n : Int) (l V out : List Int) (seen i : Int) (hl : l.length ≤ 63) (hr : ∀ x ∈ l, 0 ≤ x ∧ x ≤ 63) (R : Nat) (r : List Int) : ∀ (m k : Nat) (o : Int), 0 ≤ o ∧ o ≤ 63 → 64 - o ≤ m → R + m * 66 ≤ k →
    (∀ k, R ≤ k → impl_Complex_components.l1 k out seen (growF (ofL l 1) o) false V (V.length : Int) i n l = some r) → impl_Complex_components.l1 k out seen o true V (V.length : Int) i n l = some r := by
  have hes : ∀ x ∈ ofL l 1, 0 ≤ x ∧ x ≤ 63 := fun x hx => hr x (List.mem_filter.1 hx).1
  have hel := of_length l 1
  intro m
  induction m with
  | zero => intro k o ho h1; omega
  | succ m ih =>
    intro k o ho h1 hk hnext
    obtain ⟨k, rfl⟩ : ∃ q, k = q + 1 := ⟨k - 1, by omega⟩
    simp only [impl_Complex_components.l1]
    rw [if_pos trivial, X_of_is n l 1 hl hr]
    simp only [Option.bind_some]
    obtain ⟨a1, a2, a3, a4, a5⟩ := pass_facts (ofL l 1) hes (o, false) ho
    simp only at a1 a4
    have hst := grow_step (ofL l 1) hes o ho
    refine compI_l2 n l (ofL l 1) V out seen i (by omega) (R + m * 66) r (o, false) ?_ (ofL l 1).length 0 k (o, false) (by omega) (by omega) (by omega) rfl
    intro k hk
    cases h : (passF (ofL l 1) (o, false)).2 with
    | true =>
      rw [if_pos h] at hst
      rcases a4 h with h4 | h4
      · cases h4
      · exact ih k _ ⟨by omega, a1.2⟩ (by omega) hk (by rw [← hst]; exact hnext)
    | false =>
      rw [if_neg (by rw [h]; simp)] at hst
      rw [← hst]
      exact hnext k (by omega)
set_option maxRecDepth 100000 in
theorem compI_l0 (n : Int) (l V : List Int) (hl : l.length ≤ 63) (hr : ∀ x ∈ l, 0 ≤ x ∧ x ≤ 63) (hV : V.length ≤ 63) (hVr : ∀ x ∈ V, 0 ≤ x ∧ x ≤ 63) : ∀ (d i k : Nat) (seen : Int) (out : List Int), V.length - i = d → i ≤ V.length → d * 4300 + 1 ≤ k → out.length ≤ i →
    impl_Complex_components.l0 k out seen V (V.length : Int) (i : Int) n l = some (compsI (ofL l 1) (V.drop i) seen out) := by
  intro d
  induction d with
  | zero =>
    intro i k seen out hd hi hk ho
    obtain ⟨k, rfl⟩ : ∃ m, k = m + 1 := ⟨k - 1, by omega⟩
    obtain rfl : i = V.length := by omega
    simp only [impl_Complex_components.l0]
    rw [if_neg (by omega), List.drop_length]
    rfl
  | succ d ih =>
    intro i k seen out hd hi hk ho
    obtain ⟨k, rfl⟩ : ∃ m, k = m + 1 := ⟨k - 1, by omega⟩
    have hil : i < V.length := by omega
    have hx := hVr _ (List.getElem_mem hil)
    simp only [impl_Complex_components.l0]
    rw [if_pos (by omega), if_pos (by omega), if_pos (by omega), rd_nat V i hil, isIn_is, w64 ((i : Int) + 1) (by omega) (by omega), nat_succ, List.drop_eq_getElem_cons hil]
    simp only [Option.bind_some, compsI]
    by_cases h : inB V[i] seen = true
    · rw [if_pos h, if_pos h]
      exact ih (i + 1) k seen out (by omega) (by omega) (by omega) (by omega)
    · rw [if_neg h, if_neg h]
      refine compI_l1 n l V out seen i hl hr (d * 4300 + 2) _ 64 k V[i] hx (by omega) (by omega) ?_
      intro k hk
      obtain ⟨k, rfl⟩ : ∃ m, k = m + 1 := ⟨k - 1, by omega⟩
      simp only [impl_Complex_components.l1]
      rw [if_neg (by simp), if_pos (by omega), w64 ((i : Int) + 1) (by omega) (by omega), nat_succ]
      exact ih (i + 1) k _ _ (by omega) (by omega) (by omega) (by rw [List.length_append]; simp; omega)
theorem compI_is (n : Int) (l : List Int) (hl : l.length ≤ 63) (hr : ∀ x ∈ l, 0 ≤ x ∧ x ≤ 63) (k : Nat) (hk : 275000 ≤ k) : impl_Complex_components.f k n l = some (componentsL l) := by
  unfold impl_Complex_components.f
  rw [X_of_is n l 0 hl hr]
  simp only [Option.bind_some]
  have h0 := of_length l 0
  have := compI_l0 n l (ofL l 0) hl hr (by omega) (fun x hx => hr x (List.mem_filter.1 hx).1) (ofL l 0).length 0 k 0 [] (by omega) (by omega) (by omega) (by simp)
  rw [show ((0 : Nat) : Int) = 0 from rfl, List.drop_zero] at this
  exact this
theorem components_calls (n : Int) (A : Option Addr) (c : Nat) (l : List Int) (w : World) (hk : Kx w A c l) (hl : l.length ≤ 63) (hr : ∀ x ∈ l, 0 ≤ x ∧ x ≤ 63) :
    Calls Try.prog 68 #[.agg #[I n, .slice A l.length c]] w fun e w' => ∃ v, e = .returned v ∧ Ki.R 2 w' w.heap.size (fun _ => True) v (componentsL l) ∧ Grew w w' :=
  impl_Complex_components.calls 275000 n A c l (componentsL l) w hk.r hk.c (compI_is n l hl hr 275000 (Nat.le_refl _))

set_option maxRecDepth 100000 in
set_option maxHeartbeats 4000000 in
theorem ComponentsOf_calls (n : Int) (A : Option Addr) (c : Nat) (l : List Int) (w : World) (hk : Kx w A c l) :
    Calls Try.prog 31 #[.agg #[I n, .slice A l.length c]] w fun e w' => ∃ v0, e = .returned (.tuple #[v0, I (codeOf n l (true))]) ∧ Ki.R 2 w' w.heap.size (fun _ => True) v0 (if (codeOf n l (true)) = 0 then (componentsL l) else []) ∧ Grew w w' := by
  obtain ⟨W3, hW3⟩ : ∃ W3, W3 = (w.alloc (.cells #[I n, .slice A l.length c] 28)) := ⟨_, rfl⟩
  have hB : CB W3 w.heap.size n (.slice A l.length c) := by rw [hW3]; exact blk_new w _
  have hg : Grew w W3 := by rw [hW3]; exact below_alloc (Grew.refl w) _
  have H := Aside0.mk (complexCode_calls true n A c l 62 #[] #[] W3 (hk.later hg) (enters_of Try.func62 (by kernel_rfl) rfl) (fun _ => always_answers _))
  have k_0 := hB.c0
  have k_1 := hB.c1
  have HK := Aside0.mk hk
  have HB := Aside0.mk hB
  have HG := Aside0.mk hg
  clear hk hB hg 
  obtain ⟨cc, hcc⟩ : ∃ cc, cc = codeOf n l (true) := ⟨_, rfl⟩
  rw [← hcc] at H ⊢
  by_cases hz : cc = 0
  · subst hz
    have hb := codeOf_zero hcc.symm
    have HI := Aside0.mk hb.1
    have HBt : Aside0 ((true) = true) := ⟨hb.2⟩
    have HZ := Aside0.mk hcc
    have hx0 : ∀ {α : Type} (a b : α), (if (0 : Int) = 0 then a else b) = a := fun a b => if_pos rfl
    simp only [hx0]
    clear hcc hb hx0
    subst hW3
    go_enter Try.func31, Try.ntmps31
    go_wp2_with fail
    refine H.out.mono ?_
    rintro e w1 ⟨rfl, hG1⟩
    have HB1 : Aside0 (CB w1 w.heap.size n (.slice A l.length c)) := ⟨blk_below HB.out hG1⟩
    have HG1 := Aside0.mk (Grew.trans HG.out hG1)
    clear hG1 k_0 k_1
    have k_0 := HB1.out.c0
    have k_1 := HB1.out.c1
    have hb := isC_faces HI.out
    have H2 := Aside0.mk (components_calls n A c l w1 (HK.out.later HG1.out) hb.2.2.2 (isC_of HI.out))
    clear hb
    go_wp2_with fail
    refine H2.out.mono ?_
    rintro e w2 ⟨v, rfl, hR2, hG2⟩
    go_wp2_with fail
    go_ret2
    exact ⟨_, rfl, Kd.R_lower hR2 HG1.out.size, Grew.trans HG1.out hG2⟩
  · have HV : Aside0 (∀ {α : Type} (a b : α), (if cc = 0 then a else b) = b) := ⟨fun a b => if_neg hz⟩
    simp only [HV.out]
    clear hcc
    subst hW3
    go_enter Try.func31, Try.ntmps31
    go_wp2_with fail
    refine H.out.mono ?_
    rintro e w1 ⟨rfl, hG1⟩
    have HG1 := Aside0.mk (Grew.trans HG.out hG1)
    clear hG1 k_0 k_1
    go_wp2_with fail
    go_ret2
    exact ⟨_, rfl, Kd.R_nil _ _ _ _ _, HG1.out⟩

end Go.Proofs.Ythganpmmhfoodaa.K
end

section
/- The reference's FacesOf and CountFaces come to what the program's come to. -/
namespace Go.Proofs.Ythganpmmhfoodaa.K
open Go.RowKit Go.Shelf Go.Proofs.Ythganpmmhfoodaa.Q Go.Proofs.YthganpmmhfoodaaW.PrintWords Go.Proofs.YthganpmmhfoodaaW.PrintLast Go.Proofs.YthganpmmhfoodaaW.PrintMore
set_option linter.unusedVariables false
set_option linter.unusedSimpArgs false

theorem code_len {n : Int} {l : List Int} {b : Bool} (h : codeOf n l b = 0) : l.length ≤ 63 := (isC_faces (codeOf_zero h).1).2.2.2

end Go.Proofs.Ythganpmmhfoodaa.K
end

section
/- The walk through the law FnExactComponentsOf. -/
namespace Go.Proofs.Ythganpmmhfoodaa.K
open Go.RowKit Go.Shelf Go.Proofs.Ythganpmmhfoodaa.Q Go.Proofs.YthganpmmhfoodaaW.PrintWords Go.Proofs.YthganpmmhfoodaaW.PrintLast Go.Proofs.YthganpmmhfoodaaW.PrintMore
set_option linter.unusedVariables false
set_option linter.unusedSimpArgs false

set_option maxRecDepth 100000 in
set_option maxHeartbeats 4000000 in
theorem LComponentsOf_calls (n0 : Int) (A0 : Option Addr) (c0 : Nat) (l0 : List Int) (w : World) (hr0 : Ki.C w A0 l0.length l0) (hc0 : l0.length ≤ c0) :
    Calls Try.prog 7 #[.agg #[I n0, .slice A0 l0.length c0]] w fun e w' => e = .returned (.bool true) ∧ Grew w w' := by
  have hbig0 := hr0.2.1
  have HR0 := Aside0.mk hr0
  have HC0 := Aside0.mk hc0
  clear hr0 hc0
  have hg0 : Grew w (w.alloc (.cells #[I n0, .slice A0 l0.length c0] 24)) := below_alloc (Grew.refl w) _
  have H0 := Aside0.mk (szC_calls n0 A0 c0 l0 1048576 (by omega) _ (Kd.C_below HR0.out hg0) HC0.out)
  have HM0 := Aside0.mk (Mem.cons (it := .box w.heap.size 24 #[I n0, .slice A0 l0.length c0]) (blk_new w _) (Mem.nil _))
  have HG0 := Aside0.mk hg0
  clear hg0
  by_cases hl0 : 1048576 < (l0.length : Int)
  · rw [if_pos (by omega)] at H0
    go_enter Try.func7, Try.ntmps7
    go_wp2_with fail
    refine H0.out.mono ?_
    rintro e w1 ⟨rfl, hG1⟩
    go_wp2_with fail
    go_ret
    exact ⟨rfl, Grew.trans HG0.out hG1⟩
  · rw [if_neg (by omega)] at H0
    have hcmp : ¬ ((1048576 : Int) - l0.length < 0) := by omega
    obtain ⟨r0, r1, HS, HI, hlen0⟩ : ∃ (r0 : List Int) (r1 : Int), Aside0 (∀ W A0 c0, Ki.C W A0 l0.length l0 → l0.length ≤ c0 → Calls Try.prog 30 #[.agg #[I n0, .slice A0 l0.length c0]] W fun e w' => ∃ v0, e = .returned (.tuple #[v0, I r1]) ∧ Ki.R 2 w' W.heap.size (fun _ => True) v0 r0 ∧ Grew W w') ∧ Aside0 (∀ W A0 c0, Ki.C W A0 l0.length l0 → l0.length ≤ c0 → Calls Try.prog 31 #[.agg #[I n0, .slice A0 l0.length c0]] W fun e w' => ∃ v0, e = .returned (.tuple #[v0, I r1]) ∧ Ki.R 2 w' W.heap.size (fun _ => True) v0 r0 ∧ Grew W w') ∧ r0.length ≤ 1000000 := by
      have hS := fun (W : World) (A0 : Option Addr) (c0 : Nat) => fun (hr0 : Ki.C W A0 l0.length l0) (hc0 : l0.length ≤ c0) => spec_ComponentsOf.calls (isK l0 + 278000) n0 A0 c0 l0 _ _ W hr0 hc0 (specComponentsOf_is n0 l0 (by omega) _ (Nat.le_refl _))
      have hI := fun (W : World) (A0 : Option Addr) (c0 : Nat) => fun (hr0 : Ki.C W A0 l0.length l0) (hc0 : l0.length ≤ c0) => ComponentsOf_calls n0 A0 c0 l0 W ⟨hr0, hc0, by omega⟩
      have hlen0 := comps_len n0 l0 (codeOf n0 l0 true) code_len
      exact ⟨(if codeOf n0 l0 true = 0 then componentsL l0 else []), (codeOf n0 l0 true), ⟨hS⟩, ⟨hI⟩, Nat.le_trans hlen0 (by decide)⟩
    go_enter Try.func7, Try.ntmps7
    go_wp2_with fail
    refine H0.out.mono ?_
    rintro e w1 ⟨rfl, hG1⟩
    clear H0
    have HM1 := Aside0.mk (HM0.out.grew hG1)
    have HG1 := Aside0.mk (Grew.trans HG0.out hG1)
    have hs0 : w.heap.size + 1 ≤ w1.heap.size := by have := hG1.size; simpa using this
    clear hG1 HM0 HG0
    have p0_0 : w1.cell? ⟨w.heap.size, 0, none⟩ = some (I n0) := blk_cell HM1.out.head 0
    have p0_1 : w1.cell? ⟨w.heap.size, 1, none⟩ = some (.slice A0 l0.length c0) := blk_cell HM1.out.head 1
    go_wp2_with fail
    clear p0_0 p0_1
    refine (toC_calls n0 A0 c0 l0 w1 (Kd.C_below HR0.out HG1.out) HC0.out (by omega)).mono ?_
    rintro e w2 ⟨AS0, cS0, rfl, hR2, hG2⟩
    have HM2 : Aside0 (Mem w2 [.row w1.heap.size w2.heap.size (.slice AS0 l0.length cS0) l0, .box w.heap.size 24 #[I n0, .slice A0 l0.length c0]]) := ⟨Mem.cons (it := .row w1.heap.size w2.heap.size (.slice AS0 l0.length cS0) l0) (hR2) (HM1.out.grew hG2)⟩
    have HG2 := Aside0.mk (Grew.trans HG1.out hG2)
    have hs2 := hG2.size
    clear hG2 
    go_wp2_with fail
    refine (HS.out w2 AS0 cS0 (Row.slice HM2.out.head).2.2 (Row.slice HM2.out.head).2.1).mono ?_
    rintro e w3 ⟨vw0, rfl, hRw0, hG3⟩
    obtain ⟨Aw0, cw0, rfl⟩ := Kd.R_slice hRw0
    have HM3 : Aside0 (Mem w3 [.row w2.heap.size w3.heap.size (.slice Aw0 r0.length cw0) r0, .row w1.heap.size w2.heap.size (.slice AS0 l0.length cS0) l0, .box w.heap.size 24 #[I n0, .slice A0 l0.length c0]]) := ⟨Mem.cons (it := .row w2.heap.size w3.heap.size (.slice Aw0 r0.length cw0) r0) (Row.of_R hRw0) (HM2.out.grew hG3)⟩
    have HG3 := Aside0.mk (Grew.trans HG2.out hG3)
    have hs3 := hG3.size
    clear hG3 
    have p0_0 : w3.cell? ⟨w.heap.size, 0, none⟩ = some (I n0) := blk_cell HM3.out.tail.tail.head 0
    have p0_1 : w3.cell? ⟨w.heap.size, 1, none⟩ = some (.slice A0 l0.length c0) := blk_cell HM3.out.tail.tail.head 1
    go_wp2_with fail
    clear p0_0 p0_1
    refine (toC_calls n0 A0 c0 l0 w3 (Kd.C_below HR0.out HG3.out) HC0.out (by omega)).mono ?_
    rintro e w4 ⟨Ax0, cx0, rfl, hR4, hG4⟩
    have HM4 : Aside0 (Mem w4 [.row w3.heap.size w4.heap.size (.slice Ax0 l0.length cx0) l0, .row w2.heap.size w3.heap.size (.slice Aw0 r0.length cw0) r0, .row w1.heap.size w2.heap.size (.slice AS0 l0.length cS0) l0, .box w.heap.size 24 #[I n0, .slice A0 l0.length c0]]) := ⟨Mem.cons (it := .row w3.heap.size w4.heap.size (.slice Ax0 l0.length cx0) l0) (hR4) (HM3.out.grew hG4)⟩
    have HG4 := Aside0.mk (Grew.trans HG3.out hG4)
    have hs4 := hG4.size
    clear hG4 
    have HM5 : Aside0 (Mem (w4.alloc (.cells #[I n0, .slice Ax0 l0.length cx0] 28)) [.box w4.heap.size 28 #[I n0, .slice Ax0 l0.length cx0], .row w3.heap.size w4.heap.size (.slice Ax0 l0.length cx0) l0, .row w2.heap.size w3.heap.size (.slice Aw0 r0.length cw0) r0, .row w1.heap.size w2.heap.size (.slice AS0 l0.length cS0) l0, .box w.heap.size 24 #[I n0, .slice A0 l0.length c0]]) := ⟨Mem.cons (blk_new w4 _) (HM4.out.grew (below_alloc (Grew.refl w4) _))⟩
    have HG5 : Aside0 (Grew w (w4.alloc (.cells #[I n0, .slice Ax0 l0.length cx0] 28))) := ⟨Grew.trans HG4.out (below_alloc (Grew.refl w4) _)⟩
    have hS5 : (w4.alloc (.cells #[I n0, .slice Ax0 l0.length cx0] 28)).heap.size = w4.heap.size + 1 := by simp
    have bx0_0 : (w4.alloc (.cells #[I n0, .slice Ax0 l0.length cx0] 28)).cell? ⟨w4.heap.size, 0, none⟩ = some (I n0) := blk_cell HM5.out.head 0
    have bx0_1 : (w4.alloc (.cells #[I n0, .slice Ax0 l0.length cx0] 28)).cell? ⟨w4.heap.size, 1, none⟩ = some (.slice Ax0 l0.length cx0) := blk_cell HM5.out.head 1
    go_wp2_with fail
    generalize (w4.alloc (.cells #[I n0, .slice Ax0 l0.length cx0] 28)) = W5 at HM5 HG5 hS5 bx0_0 bx0_1 ⊢
    clear bx0_0 bx0_1
    refine (HI.out W5 Ax0 cx0 (Row.slice HM5.out.tail.head).2.2 (Row.slice HM5.out.tail.head).2.1).mono ?_
    rintro e w6 ⟨vg0, rfl, hRg0, hG6⟩
    obtain ⟨Ag0, cg0, rfl⟩ := Kd.R_slice hRg0
    have HM6 : Aside0 (Mem w6 [.row W5.heap.size w6.heap.size (.slice Ag0 r0.length cg0) r0, .box w4.heap.size 28 #[I n0, .slice Ax0 l0.length cx0], .row w3.heap.size w4.heap.size (.slice Ax0 l0.length cx0) l0, .row w2.heap.size w3.heap.size (.slice Aw0 r0.length cw0) r0, .row w1.heap.size w2.heap.size (.slice AS0 l0.length cS0) l0, .box w.heap.size 24 #[I n0, .slice A0 l0.length c0]]) := ⟨Mem.cons (it := .row W5.heap.size w6.heap.size (.slice Ag0 r0.length cg0) r0) (Row.of_R hRg0) (HM5.out.grew hG6)⟩
    have HG6 := Aside0.mk (Grew.trans HG5.out hG6)
    have hs6 := hG6.size
    clear hG6 
    go_wp2_with fail
    refine (eqI_calls r0 Ag0 Aw0 cg0 cw0 _ _ _ _ _ _ w6 HM6.out.head HM6.out.tail.tail.tail.head).mono ?_
    rintro e w7 ⟨rfl, hG7⟩
    have HM7 := Aside0.mk (HM6.out.grew hG7)
    have HG7 := Aside0.mk (Grew.trans HG6.out hG7)
    have hs7 := hG7.size
    clear hG7
    go_wp2_with fail
    have bx0_0 : w7.cell? ⟨w4.heap.size, 0, none⟩ = some (I n0) := blk_cell HM7.out.tail.head 0
    have bx0_1 : w7.cell? ⟨w4.heap.size, 1, none⟩ = some (.slice Ax0 l0.length cx0) := blk_cell HM7.out.tail.head 1
    have p0_0 : w7.cell? ⟨w.heap.size, 0, none⟩ = some (I n0) := blk_cell HM7.out.tail.tail.tail.tail.tail.head 0
    have p0_1 : w7.cell? ⟨w.heap.size, 1, none⟩ = some (.slice A0 l0.length c0) := blk_cell HM7.out.tail.tail.tail.tail.tail.head 1
    have hlx : w4.heap.size < w7.heap.size := World.block_lt_of_cell? w7 _ bx0_0
    have hlp : w.heap.size < w7.heap.size := World.block_lt_of_cell? w7 _ p0_0
    go_region_held3 (fun w' => w'.cell? ⟨w4.heap.size, 0, none⟩ = some (I n0) ∧ w'.cell? ⟨w4.heap.size, 1, none⟩ = some (.slice Ax0 l0.length cx0) ∧ w'.cell? ⟨w.heap.size, 0, none⟩ = some (I n0) ∧ w'.cell? ⟨w.heap.size, 1, none⟩ = some (.slice A0 l0.length c0))
      (first | exact ⟨(HDb.out.cell (p := ⟨w4.heap.size, 0, none⟩) hlx).trans bx0_0, (HDb.out.cell (p := ⟨w4.heap.size, 1, none⟩) hlx).trans bx0_1, (HDb.out.cell (p := ⟨w.heap.size, 0, none⟩) hlp).trans p0_0, (HDb.out.cell (p := ⟨w.heap.size, 1, none⟩) hlp).trans p0_1⟩ | exact ⟨(HDa.out.cell (p := ⟨w4.heap.size, 0, none⟩) hlx).trans bx0_0, (HDa.out.cell (p := ⟨w4.heap.size, 1, none⟩) hlx).trans bx0_1, (HDa.out.cell (p := ⟨w.heap.size, 0, none⟩) hlp).trans p0_0, (HDa.out.cell (p := ⟨w.heap.size, 1, none⟩) hlp).trans p0_1⟩ | go_keep)
      (first
        | (go_at_call 16; refine (toC_calls n0 A0 c0 l0 _ (Kd.C_below HR0.out (Below.trans HG7.out ((Below.refl _ w7).drew))) HC0.out (by omega)).mono ?_; rintro e w8 ⟨Aq0, cq0, rfl, hRa, hGa⟩; have HDa : Aside0 (Grew w7 w8) := ⟨Below.trans ((Below.refl _ w7).drew) hGa⟩; have HRa := Aside0.mk hRa; clear hRa hGa)
        | (go_at_call 19; refine (eqC_calls n0 l0 Ax0 Aq0 cx0 cq0 _ _ _ _ _ _ w8 (HM7.out.grew HDa.out).tail.tail.head HRa.out).mono ?_; rintro e w9 ⟨rfl, hGb⟩; have HDb : Aside0 (Grew w7 w9) := ⟨Grew.trans HDa.out hGb⟩; clear hGb))
    clear bx0_0 bx0_1 p0_0 p0_1
    have hG9 := HDb.out
    clear hlx hlp HDa HDb HRa
    have HM9 := Aside0.mk (HM7.out.grew hG9)
    have HG9 := Aside0.mk (Grew.trans HG7.out hG9)
    have hs9 := hG9.size
    clear hG9
    have bx0_0 : w9.cell? ⟨w4.heap.size, 0, none⟩ = some (I n0) := blk_cell HM9.out.tail.head 0
    have bx0_1 : w9.cell? ⟨w4.heap.size, 1, none⟩ = some (.slice Ax0 l0.length cx0) := blk_cell HM9.out.tail.head 1
    go_wp2_with fail
    clear bx0_0 bx0_1
    refine (markC_calls n0 Ax0 l0.length cx0 l0 1 (by omega) (by omega) _ _ w w9 HG9.out (by omega) HM9.out.tail.tail.head).mono ?_
    rintro e w10 ⟨rfl, hX10, hB10, hK10⟩
    have HM10 : Aside0 (Mem w10 [.row W5.heap.size w6.heap.size (.slice Ag0 r0.length cg0) r0, .box w4.heap.size 28 #[I n0, .slice Ax0 l0.length cx0], .row w2.heap.size w3.heap.size (.slice Aw0 r0.length cw0) r0, .row w1.heap.size w2.heap.size (.slice AS0 l0.length cS0) l0, .box w.heap.size 24 #[I n0, .slice A0 l0.length c0]]) := ⟨Mem.kept (Mem.cons (it := .row W5.heap.size w6.heap.size (.slice Ag0 r0.length cg0) r0) HM9.out.head (Mem.cons (it := .box w4.heap.size 28 #[I n0, .slice Ax0 l0.length cx0]) HM9.out.tail.head (Mem.cons (it := .row w2.heap.size w3.heap.size (.slice Aw0 r0.length cw0) r0) HM9.out.tail.tail.tail.head (Mem.cons (it := .row w1.heap.size w2.heap.size (.slice AS0 l0.length cS0) l0) HM9.out.tail.tail.tail.tail.head (Mem.cons (it := .box w.heap.size 24 #[I n0, .slice A0 l0.length c0]) HM9.out.tail.tail.tail.tail.tail.head (Mem.nil _)))))) hK10 (by intro it hit k hk; simp only [List.mem_cons, List.not_mem_nil, or_false] at hit; rcases hit with rfl | rfl | rfl | rfl | rfl <;> (simp only [Item.at_] at hk; omega))⟩
    have HG10 := Aside0.mk hB10
    have hs10 := hK10.1
    clear hX10 hB10 hK10
    have hneg : ¬ ((1 + (l0.length : Int)) < 0) := by omega
    go_wp2_with fail
    refine (eqI_calls r0 Ag0 Aw0 cg0 cw0 _ _ _ _ _ _ w10 HM10.out.head HM10.out.tail.tail.head).mono ?_
    rintro e w11 ⟨rfl, hG11⟩
    have HM11 := Aside0.mk (HM10.out.grew hG11)
    have HG11 := Aside0.mk (Grew.trans HG10.out hG11)
    have hs11 := hG11.size
    clear hG11
    clear hneg
    go_wp2_with fail
    refine (markI_calls Ag0 r0.length cg0 r0 1 (by omega) (by omega) _ _ w w11 HG11.out (by omega) HM11.out.head).mono ?_
    rintro e w12 ⟨rfl, hX12, hB12, hK12⟩
    have HM12 : Aside0 (Mem w12 [.row W5.heap.size w6.heap.size (.slice Ag0 r0.length cg0) (marks 1 r0.length), .box w4.heap.size 28 #[I n0, .slice Ax0 l0.length cx0], .row w2.heap.size w3.heap.size (.slice Aw0 r0.length cw0) r0, .row w1.heap.size w2.heap.size (.slice AS0 l0.length cS0) l0, .box w.heap.size 24 #[I n0, .slice A0 l0.length c0]]) := ⟨Mem.cons (it := .row W5.heap.size w6.heap.size (.slice Ag0 r0.length cg0) (marks 1 r0.length)) hX12 (Mem.kept (Mem.cons (it := .box w4.heap.size 28 #[I n0, .slice Ax0 l0.length cx0]) HM11.out.tail.head (Mem.cons (it := .row w2.heap.size w3.heap.size (.slice Aw0 r0.length cw0) r0) HM11.out.tail.tail.head (Mem.cons (it := .row w1.heap.size w2.heap.size (.slice AS0 l0.length cS0) l0) HM11.out.tail.tail.tail.head (Mem.cons (it := .box w.heap.size 24 #[I n0, .slice A0 l0.length c0]) HM11.out.tail.tail.tail.tail.head (Mem.nil _))))) hK12 (by intro it hit k hk; simp only [List.mem_cons, List.not_mem_nil, or_false] at hit; rcases hit with rfl | rfl | rfl | rfl <;> (simp only [Item.at_] at hk; omega)))⟩
    have HG12 := Aside0.mk hB12
    have hs12 := hK12.1
    clear hX12 hB12 hK12
    have hneg0 : ¬ (1 + (r0.length : Int) < 0) := by omega
    go_wp2_with fail
    refine (heldI_calls Ag0 r0.length r0.length cg0 _ _ 1 (by omega) (by omega) w12 HM12.out.head).mono ?_
    rintro e w13 ⟨rfl, hG13⟩
    have HM13 := Aside0.mk (HM12.out.grew hG13)
    have HG13 := Aside0.mk (Grew.trans HG12.out hG13)
    have hs13 := hG13.size
    clear hG13
    have p0_0 : w13.cell? ⟨w.heap.size, 0, none⟩ = some (I n0) := blk_cell HM13.out.tail.tail.tail.tail.head 0
    have p0_1 : w13.cell? ⟨w.heap.size, 1, none⟩ = some (.slice A0 l0.length c0) := blk_cell HM13.out.tail.tail.tail.tail.head 1
    go_wp2_with fail
    clear p0_0 p0_1
    refine (toC_calls n0 A0 c0 l0 w13 (Kd.C_below HR0.out HG13.out) HC0.out (by omega)).mono ?_
    rintro e w14 ⟨Az0, cz0, rfl, hR14, hG14⟩
    have HM14 : Aside0 (Mem w14 [.row w13.heap.size w14.heap.size (.slice Az0 l0.length cz0) l0, .row W5.heap.size w6.heap.size (.slice Ag0 r0.length cg0) (marks 1 r0.length), .box w4.heap.size 28 #[I n0, .slice Ax0 l0.length cx0], .row w2.heap.size w3.heap.size (.slice Aw0 r0.length cw0) r0, .row w1.heap.size w2.heap.size (.slice AS0 l0.length cS0) l0, .box w.heap.size 24 #[I n0, .slice A0 l0.length c0]]) := ⟨Mem.cons (it := .row w13.heap.size w14.heap.size (.slice Az0 l0.length cz0) l0) (hR14) (HM13.out.grew hG14)⟩
    have HG14 := Aside0.mk (Grew.trans HG13.out hG14)
    have hs14 := hG14.size
    clear hG14 
    go_wp2_with fail
    refine (HI.out w14 Az0 cz0 (Row.slice HM14.out.head).2.2 (Row.slice HM14.out.head).2.1).mono ?_
    rintro e w15 ⟨vh0, rfl, hRh0, hG15⟩
    obtain ⟨Ah0, ch0, rfl⟩ := Kd.R_slice hRh0
    have HM15 : Aside0 (Mem w15 [.row w14.heap.size w15.heap.size (.slice Ah0 r0.length ch0) r0, .row w13.heap.size w14.heap.size (.slice Az0 l0.length cz0) l0, .row W5.heap.size w6.heap.size (.slice Ag0 r0.length cg0) (marks 1 r0.length), .box w4.heap.size 28 #[I n0, .slice Ax0 l0.length cx0], .row w2.heap.size w3.heap.size (.slice Aw0 r0.length cw0) r0, .row w1.heap.size w2.heap.size (.slice AS0 l0.length cS0) l0, .box w.heap.size 24 #[I n0, .slice A0 l0.length c0]]) := ⟨Mem.cons (it := .row w14.heap.size w15.heap.size (.slice Ah0 r0.length ch0) r0) (Row.of_R hRh0) (HM14.out.grew hG15)⟩
    have HG15 := Aside0.mk (Grew.trans HG14.out hG15)
    have hs15 := hG15.size
    clear hG15 
    go_wp2_with fail
    refine (eqI_calls r0 Ah0 Aw0 ch0 cw0 _ _ _ _ _ _ w15 HM15.out.head HM15.out.tail.tail.tail.tail.head).mono ?_
    rintro e w16 ⟨rfl, hG16⟩
    have HM16 := Aside0.mk (HM15.out.grew hG16)
    have HG16 := Aside0.mk (Grew.trans HG15.out hG16)
    have hs16 := hG16.size
    clear hG16
    clear hneg0
    have hneg0 : ¬ (1 + (r0.length : Int) < 0) := by omega
    go_wp2_with fail
    refine (heldI_calls Ag0 r0.length r0.length cg0 _ _ 1 (by omega) (by omega) w16 HM16.out.tail.tail.head).mono ?_
    rintro e w17 ⟨rfl, hG17⟩
    have HM17 := Aside0.mk (HM16.out.grew hG17)
    have HG17 := Aside0.mk (Grew.trans HG16.out hG17)
    have hs17 := hG17.size
    clear hG17
    go_wp2_with fail
    go_ret
    exact ⟨rfl, HG17.out⟩

end Go.Proofs.Ythganpmmhfoodaa.K
end

section

namespace Go.Proofs.Ythganpmmhfoodaa.fnExactComponentsOf
open Go.ChangeShapes Go.WideShapes Go.ChangeAt Go.RowKit Go.Joins Go.Proofs.Ythganpmmhfoodaa.K Go.Proofs.YthganpmmhfoodaaW.PrintWords
open Go.ChangeMaps (open_string shut_string)
set_option linter.unusedVariables false
set_option maxRecDepth 100000 in
theorem lifted (os : Os) (started : os.Started) (H : Type) (enc : TypeId × Value → H) :
    ReturnsInHanded {} Try.checked os 7 .any (Rows.fnExactComponentsOfSpec.pre6 enc Try.prog Try.f7 Rows.fnExactComponentsOfRow.domain false) (Rows.fnExactComponentsOfSpec.post enc Try.prog Try.f7 false true false false) := by
  refine returnsInHanded_of_change_sized (C := Try.checked) ownKnob_none started (by kernel_rfl) Try.func7
    (ChangeSpec.witness6 (enc := enc) (C := Try.checked) false ⟨#[], #[.agg #[.int .i64 0, .slice none 0 0]], []⟩ 8 (by kernel_rfl) (by kernel_rfl) (by kernel_rfl) (by kernel_rfl)) ?_
  intro W base args ds gs before hval0 hW hcnd hsz0 _
  have hsz : (DataW.weightsEach Try.prog (Try.f7.params.toList ++ Rows.fnExactComponentsOfSpec.plain.varTypes Try.prog) (ds ++ gs)).all (· ≤ reachBytes) = true := hsz0
  have hval : ∀ (j : Nat) t v, Try.f7.params[j]? = some t → args[j]? = some v → Value.okWide Try.prog W .any base t v := hval0
  have hW' := hW
  obtain ⟨p, q, hA0, hV, rfl, hfz, hnd⟩ := hW
  have hA : DataW.TrodAll enc Try.prog W 0 (fun _ => true) true Try.f7.params.toList args.toList ds p := hA0
  rw [Try.params7] at hA hval hsz
  obtain ⟨v0, vs0, d0, ds0, p0, q0, hargs, rfl, rfl, h0, r0⟩ := trodAll_cons hA
  obtain ⟨rfl, rfl, rfl⟩ := trodAll_nil r0
  obtain rfl : args = #[v0] := by cases args; simp_all
  obtain ⟨rfl, rfl⟩ := trodVars_none hV
  have k0 := h0
  have lt0 : ∀ x ∈ p0, x.block < W.heap.size := by obtain ⟨m, hm⟩ := k0; exact DataW.trod_lt m _ _ _ hm
  obtain ⟨x0, z0, y0_0, y1_0, m0, hv0, hd0, hp0, hy0_0, hy1_0⟩ := open_agg2 Try.underlying24 (by kernel_rfl) (show Try.prog.cellsOf 24 = 2 by kernel_rfl) (hval 0 24 v0 rfl rfl) h0
  obtain ⟨n0, e0_0, _, w0⟩ := DataW.trod_int Try.underlying2 hy0_0
  obtain ⟨A0, c0, l0, e1_0, hc0, hr0, _⟩ := ints_open hy1_0
  simp only [List.cons.injEq, and_true] at e0_0
  subst e0_0 e1_0
  subst hv0
  clear hA0 hval0 hsz0 hsz
  refine (K.LComponentsOf_calls n0 A0 c0 l0 W hr0 hc0).mono fun e W' ⟨he, bel0⟩ => ?_
  have bel : Below W.heap.size W W' := bel0
  subst he
  exact ⟨_, rfl, _, _, _, [], _, [], hW', trodAll_mk1 (shut_bool Try.underlying4 _), (trodAll_cons_mk (Below.trod laidOut (by kernel_rfl) (of_decide_eq_true (by kernel_rfl)) k0 bel lt0) trodAll_mk0), rfl, bel.frame _, fun h => by cases h⟩
theorem over : Rows.fnExactComponentsOfRow.holds Try.pinned (OpenSpec.ofChange Rows.fnExactComponentsOfSpec) :=
  OpenClaim.holds_of_wide 7 Try.f7 rfl rfl rfl rfl rfl rfl rfl ⟨rfl, rfl, rfl, rfl, rfl⟩ rfl rfl rfl rfl rfl (by kernel_rfl) Try.func7 (by kernel_rfl)
    (of_decide_eq_true (by kernel_rfl)) (by unfold Func.isWrapper; first | (rw [if_pos (by decide +kernel)]; kernel_rfl) | (rw [if_neg (by decide +kernel)]; exact ⟨rfl, rfl⟩))
    (fun os started H enc _ => lifted os started H enc)
theorem proved : Rows.FnExactComponentsOfSaid := over
#print axioms proved
end Go.Proofs.Ythganpmmhfoodaa.fnExactComponentsOf
namespace Go.Proofs.Ythganpmmhfoodaa
theorem fnExactComponentsOf_holds : Rows.FnExactComponentsOfSaid := fnExactComponentsOf.proved
end Go.Proofs.Ythganpmmhfoodaa
end
