/- The row of the law FnExactNamedComplex: for every input the law answers true, and the arguments read as before. No conditions. -/
import Derived.Test.YtaeabbackmnioaaDoorJNam1
import Derived.Below
import Derived.Deep.Draws
import Derived.Deep.AppendLies
import Derived.Maps.AppendAt
import Derived.OwnWalk
import Derived.Laws.BytesArg
import Derived.Laws.MakeOwn
import Derived.Laws.OwnMore
import Derived.Deep.OwnRows
import Derived.Tactics
import Derived.Lib.ConvBytes
import Derived.Laws.Slices
import Derived.WalkKit
import Derived.KernelRfl
import Derived.RowKit3
import Derived.Deep.LoopGhost
import Derived.Deep.QuietTactic
import Derived.BigQuiet
import Derived.WideLaws
import Derived.Deep.DeepCutAuto
import Derived.Deep.CutBlock
import Derived.Deep.RegionHeld3
import Derived.Laws.Rows
import Derived.Lib.AppendStr
import Derived.ArgAppend
import Derived.Laws.IdiomCopy
import Derived.RowKit
import Derived.OrdersHeld
import Derived.Laws.BitsLemmas
import Derived.Laws.StructEq
import Derived.Test.YtaeabbackmnioaaDoorProg
import Derived.Shelf.Abstract
import Derived.Test.YtaeabbackmnioaaDoorChecked
import Derived.Shelf.Strings.SplitShaped
import Derived.Lib.SmallJoins
import Derived.Lib.SplitLaws
import Derived.RangeFuncBox
import Derived.RangeFuncLeaves
import Derived.OwnWalkIn
import Derived.TacticsInMore
import Derived.LoopNIn
import Derived.LoopIn
import Derived.JoinedOf
import Derived.Test.YtaeabbackmnioaaDoorRows
import Derived.ProofKit
import Derived.OpenShut
import Derived.ShutString
import Derived.ChangeOld
import Derived.SizedLaws
import Derived.Test.YtaeabbackmnioaaDoorTie
import Derived.Test.YtaeabbackmnioaaDoorCards
import Derived.LaidMore
import Derived.Lay
import Derived.SevenTiedAt
import Derived.Stop.Joined
import Derived.HandedShaped
section
/- Written by a program of this session (myprint.py over the kit's print). -/
namespace Go.Proofs.YtaeabbackmnioaaDoor.Q
open Go.RowKit Go.Proofs.YtaeabbackmnioaaDoorW.PrintWords Go.Proofs.YtaeabbackmnioaaDoorW.PrintLast Go.Proofs.YtaeabbackmnioaaDoorW.PrintMore
attribute [local go_sem] max2_int min2_int max_two min_two max_three min_three max_four min_four   -- for this text's walks alone
set_option linter.unusedVariables false
set_option linter.unusedSimpArgs false

/-! ### spec_NamedComplex: function 11 -/
def spec_NamedComplex.f (k : Nat) (a0 : ByteArray) : Option (Int × List Int × Int) := (spec_l01Named.f k a0).bind fun bt154 => (if bt154.2.2 = true then (some (bt154.1, bt154.2.1, 0)) else (some (0, ([] : List Int), 4)))
theorem spec_NamedComplex.mono : ∀ a0 k, LeO (spec_NamedComplex.f k a0) (spec_NamedComplex.f (k + 1) a0) := by
 intro a0 k
 unfold spec_NamedComplex.f
 repeat' first
   | (with_reducible exact spec_l01Named.mono _ _)
   | (with_reducible exact LeO.refl _)
   | (with_reducible exact LeO.none _)
   | (with_reducible refine LeO.ite ?_ ?_)
   | (with_reducible refine LeO.bind ?_ (fun _ => ?_))
   | exact spec_l01Named.mono _ _
   | exact LeO.none _
   | refine LeO.ite ?_ ?_
   | refine LeO.bind ?_ (fun _ => ?_)
set_option maxHeartbeats 8000000 in
set_option maxRecDepth 100000 in
theorem spec_NamedComplex.calls (k : Nat) (a0 : ByteArray) (r1 : Int) (r2 : List Int) (r3 : Int) (w : World) (h : spec_NamedComplex.f k a0 = some (r1, r2, r3)) :
  Calls Tryd.prog 11 #[.string a0] w fun e w' => ∃ v1_ : Value, e = .returned (.tuple #[.agg #[.int .i64 r1, v1_], .int .i64 r3]) ∧ Kd.R (Kd.int .i64) 2 w' w.heap.size (fun _ => True) v1_ r2 ∧ Below w.heap.size w w' := by
 have hu24 := Tryd.underlying24
 have HB := Aside0.mk (Below.refl w.heap.size w)
 have H : ((spec_l01Named.f k a0).bind fun bt154 => (if bt154.2.2 = true then (some (bt154.1, bt154.2.1, 0)) else (some (0, ([] : List Int), 4)))) = some (r1, r2, r3) := h
 clear h
 replace H := Option.bind_eq_some_iff.mp H
 obtain ⟨⟨t154, t155, t158⟩, A20, H⟩ := H
 replace H : (if t158 = true then (some (t154, t155, 0)) else (some (0, ([] : List Int), 4))) = some (r1, r2, r3) := H
 have A2 := Aside0.mk A20
 clear A20
 by_cases c3 : t158 = true
 ·subst c3
  have H1 : (some (t154, t155, 0)) = some (r1, r2, r3) := by rw [if_pos rfl] at H; exact H
  clear H
  have H := H1
  clear H1
  simp only [Option.some.injEq, Prod.mk.injEq] at H
  obtain ⟨rfl, rfl, rfl⟩ := H
  go_enter Tryd.func11, Tryd.ntmps11
  go_wp2_with (first | ((with_reducible refine gate_dst (N := 2) rfl ?_); refine box_event ?hg (N := 2) ?hd (cs := #[.int .i64 0, .slice none 0 0]) (t := 24) ?hr ?_; (case hd => rfl); (case hg => rfl); (case hr => first | (go_simp; done) | (go_simp; rfl)); intro gb153 hg w4 hbox hb; have n0_ := Aside0.mk (below_step (by repeat (first | (with_reducible first | exact HB.out | apply below_alloc | apply pw_below_drewN | apply below_drew1) | exact HB.out)) hb); have n1_ := Aside0.mk (hbox); have n2_ := Aside0.mk ((by rw [hg]; exact (below_size (by repeat (first | (with_reducible first | exact HB.out | apply below_alloc | apply pw_below_drewN | apply below_drew1) | exact HB.out))) : w.heap.size ≤ gb153)); have n3_ := Aside0.mk ((by rw [hg]; exact (below_size (by repeat (first | (with_reducible first | exact HB.out | apply below_alloc | apply pw_below_drewN | apply below_drew1) | exact HB.out))) : w.heap.size ≤ gb153)); clear HB; have HB := n0_; have BK153 := n1_; have GW153 := n2_; have GE153 := n3_; clear n0_ n1_ n2_ n3_; clear hb hbox hg) | ((with_reducible refine gate_callee (f := 27) rfl ?_); refine goesL_ (some 8) rfl rfl Tryd.func27 (by kernel_rfl) rfl #[.string a0] rfl (by (try simp only [List.map_toArray, List.map_cons, List.map_nil]); first | done | rfl | (simp only [List.length_drop, List.length_take]; rfl)) ?_; (with_reducible refine (spec_l01Named.calls k a0 t154 t155 true _ A2.out).mono ?_); rintro e w5 ⟨v156, rfl, ho0, hb⟩; refine ⟨_, rfl, ?_⟩; have n0_ := Aside0.mk (Kd.R_lower ho0 (below_size (by repeat (first | (with_reducible first | exact HB.out | apply below_alloc | apply pw_below_drewN | apply below_drew1 | refine below_set ?_ GE153.out) | exact HB.out)))); have n1_ := Aside0.mk (blk_below (g := gb153) (o := .cells #[.int .i64 0, .slice none 0 0] 24 (0, 0)) (by (with_reducible repeat (first | refine blk_drewN ?_ _ | refine blk_drew ?_ | refine blk_alloc ?_ _)); exact BK153.out) hb); have n2_ := Aside0.mk (below_step (by repeat (first | (with_reducible first | exact HB.out | apply below_alloc | apply pw_below_drewN | apply below_drew1 | refine below_set ?_ GE153.out) | exact HB.out)) hb); clear BK153; clear HB; have HO157 := n0_; have BK153 := n1_; have HB := n2_; clear n0_ n1_ n2_; (try clear hb); (try clear hb2); (try clear hk); (try clear hi); (try clear ho0)) | ((with_reducible refine gate_dst (N := 4) rfl ?_); refine box_event ?hg (N := 4) ?hd (cs := #[.int .i64 0, .slice none 0 0]) (t := 24) ?hr ?_; (case hd => rfl); (case hg => rfl); (case hr => first | (go_simp; done) | (go_simp; rfl)); intro gb159 hg w6 hbox hb; have n0_ := Aside0.mk (Kd.R_below (by (with_reducible repeat (first | apply Kd.R_alloc | apply Kd.R_drewN | apply Kd.R_drew)); exact HO157.out) hb); have n1_ := Aside0.mk (blk_below (g := gb153) (o := .cells #[.int .i64 0, .slice none 0 0] 24 (0, 0)) (by (with_reducible repeat (first | refine blk_drewN ?_ _ | refine blk_drew ?_ | refine blk_alloc ?_ _)); exact BK153.out) hb); have n2_ := Aside0.mk (below_step (by repeat (first | (with_reducible first | exact HB.out | apply below_alloc | apply pw_below_drewN | apply below_drew1 | refine below_set ?_ GE153.out) | exact HB.out)) hb); have n3_ := Aside0.mk (hbox); have n4_ := Aside0.mk ((by rw [hg]; exact (below_size (by repeat (first | (with_reducible first | exact HB.out | apply below_alloc | apply pw_below_drewN | apply below_drew1 | refine below_set ?_ GE153.out) | exact HB.out))) : w.heap.size ≤ gb159)); have n5_ := Aside0.mk ((by rw [hg]; exact (below_size (by repeat (first | (with_reducible first | exact HB.out | apply below_alloc | apply pw_below_drewN | apply below_drew1 | refine below_set ?_ GE153.out) | exact HB.out))) : w.heap.size ≤ gb159)); have n6_ := Aside0.mk ((by rw [hg]; exact Nat.ne_of_lt (blk_lt (g := gb153) (o := .cells #[.int .i64 0, .slice none 0 0] 24 (0, 0)) (by (with_reducible repeat (first | refine blk_drewN ?_ _ | refine blk_drew ?_ | refine blk_alloc ?_ _)); exact BK153.out)) : gb153 ≠ gb159)); have n7_ := Aside0.mk ((by rw [hg]; exact Nat.ne_of_gt (blk_lt (g := gb153) (o := .cells #[.int .i64 0, .slice none 0 0] 24 (0, 0)) (by (with_reducible repeat (first | refine blk_drewN ?_ _ | refine blk_drew ?_ | refine blk_alloc ?_ _)); exact BK153.out)) : gb159 ≠ gb153)); clear HO157; clear BK153; clear HB; have HO157 := n0_; have BK153 := n1_; have HB := n2_; have BK159 := n3_; have GW159 := n4_; have GE159 := n5_; have NB153_159 := n6_; have NB159_153 := n7_; clear n0_ n1_ n2_ n3_ n4_ n5_ n6_ n7_; clear hb hbox hg; have hnb7 := NB159_153.out; have hnc7 := NB153_159.out; have hcz8_0 : w6.cell? ⟨gb159, 0, none⟩ = some (.int .i64 0) := (blk_cell BK159.out 0).trans rfl; have hcz8_1 : w6.cell? ⟨gb159, 1, none⟩ = some (.slice none 0 0) := (blk_cell BK159.out 1).trans rfl; have hfz8_0 := blk_frozen BK159.out 0; have hfz8_1 := blk_frozen BK159.out 1; obtain ⟨Ao9, co9, eo9⟩ := Kd.R_slice HO157.out; subst eo9; have hcz10_0 : w6.cell? ⟨gb153, 0, none⟩ = some (.int .i64 0) := (blk_cell BK153.out 0).trans rfl; have hcz10_1 : w6.cell? ⟨gb153, 1, none⟩ = some (.slice none 0 0) := (blk_cell BK153.out 1).trans rfl; have hfz10_0 := blk_frozen BK153.out 0; have hfz10_1 := blk_frozen BK153.out 1))
  refine bodyPost_ret (results_ct rfl _ _ gb153 24 #[.int .i64 t154, .slice Ao9 t155.length co9] (0, 0) _ rfl (by (with_reducible repeat (first | refine blk_drewN ?_ _ | refine blk_drew ?_ | refine blk_alloc ?_ _)); refine blk_put (cs := #[.int .i64 t154, .slice none 0 0]) ?_ 1 _ rfl; (with_reducible repeat (first | refine blk_drewN ?_ _ | refine blk_drew ?_ | refine blk_alloc ?_ _)); refine blk_put (cs := #[.int .i64 0, .slice none 0 0]) ?_ 0 _ rfl; (with_reducible repeat (first | refine blk_drewN ?_ _ | refine blk_drew ?_ | refine blk_alloc ?_ _)); refine blk_far ?_ NB153_159.out _; (with_reducible repeat (first | refine blk_drewN ?_ _ | refine blk_drew ?_ | refine blk_alloc ?_ _)); refine blk_far ?_ NB153_159.out _; (with_reducible repeat (first | refine blk_drewN ?_ _ | refine blk_drew ?_ | refine blk_alloc ?_ _)); exact BK153.out) Tryd.underlying24 rfl (by kernel_rfl)) rfl ?_
  exact ⟨_, by first | rfl | (simp [errW_none, errW_some] <;> rfl) | (simp [*, errW_none, errW_some] <;> rfl), by (with_reducible repeat (first | apply Kd.R_alloc | apply Kd.R_drewN | apply Kd.R_drew)); exact Kd.R_mono (Kd.R_far (p := ⟨gb153, 1, none⟩) (Kd.R_far (p := ⟨gb153, 0, none⟩) (Kd.R_far (p := ⟨gb159, 1, none⟩) (Kd.R_far (p := ⟨gb159, 0, none⟩) (Kd.R_types (Kd.R_types HO157.out BK159.out (by decide)) BK153.out (by decide)) (fun _ hk => hk.1.2) (.int .i64 t154)) (fun _ hk => hk.1.2) (.slice Ao9 t155.length co9)) (fun _ hk => hk.2) (.int .i64 t154)) (fun _ hk => hk.2) (.slice Ao9 t155.length co9)) (fun _ hk => trivial), by repeat (first | (with_reducible first | exact HB.out | apply below_alloc | apply pw_below_drewN | apply below_drew1 | refine below_set ?_ GE153.out | refine below_set ?_ GE159.out) | exact HB.out)⟩
 ·replace c3 := Bool.eq_false_iff.mpr c3
  subst c3
  have H1 : (some (0, ([] : List Int), 4)) = some (r1, r2, r3) := by rw [if_neg (show ¬ (false = true) by decide)] at H; exact H
  clear H
  have H := H1
  clear H1
  simp only [Option.some.injEq, Prod.mk.injEq] at H
  obtain ⟨rfl, rfl, rfl⟩ := H
  go_enter Tryd.func11, Tryd.ntmps11
  go_wp2_with (first | ((with_reducible refine gate_dst (N := 2) rfl ?_); refine box_event ?hg (N := 2) ?hd (cs := #[.int .i64 0, .slice none 0 0]) (t := 24) ?hr ?_; (case hd => rfl); (case hg => rfl); (case hr => first | (go_simp; done) | (go_simp; rfl)); intro gb153 hg w11 hbox hb; have n0_ := Aside0.mk (below_step (by repeat (first | (with_reducible first | exact HB.out | apply below_alloc | apply pw_below_drewN | apply below_drew1) | exact HB.out)) hb); have n1_ := Aside0.mk (hbox); have n2_ := Aside0.mk ((by rw [hg]; exact (below_size (by repeat (first | (with_reducible first | exact HB.out | apply below_alloc | apply pw_below_drewN | apply below_drew1) | exact HB.out))) : w.heap.size ≤ gb153)); have n3_ := Aside0.mk ((by rw [hg]; exact (below_size (by repeat (first | (with_reducible first | exact HB.out | apply below_alloc | apply pw_below_drewN | apply below_drew1) | exact HB.out))) : w.heap.size ≤ gb153)); clear HB; have HB := n0_; have BK153 := n1_; have GW153 := n2_; have GE153 := n3_; clear n0_ n1_ n2_ n3_; clear hb hbox hg) | ((with_reducible refine gate_callee (f := 27) rfl ?_); refine goesL_ (some 8) rfl rfl Tryd.func27 (by kernel_rfl) rfl #[.string a0] rfl (by (try simp only [List.map_toArray, List.map_cons, List.map_nil]); first | done | rfl | (simp only [List.length_drop, List.length_take]; rfl)) ?_; (with_reducible refine (spec_l01Named.calls k a0 t154 t155 false _ A2.out).mono ?_); rintro e w12 ⟨v156, rfl, ho0, hb⟩; refine ⟨_, rfl, ?_⟩; have n0_ := Aside0.mk (Kd.R_lower ho0 (below_size (by repeat (first | (with_reducible first | exact HB.out | apply below_alloc | apply pw_below_drewN | apply below_drew1 | refine below_set ?_ GE153.out) | exact HB.out)))); have n1_ := Aside0.mk (blk_below (g := gb153) (o := .cells #[.int .i64 0, .slice none 0 0] 24 (0, 0)) (by (with_reducible repeat (first | refine blk_drewN ?_ _ | refine blk_drew ?_ | refine blk_alloc ?_ _)); exact BK153.out) hb); have n2_ := Aside0.mk (below_step (by repeat (first | (with_reducible first | exact HB.out | apply below_alloc | apply pw_below_drewN | apply below_drew1 | refine below_set ?_ GE153.out) | exact HB.out)) hb); clear BK153; clear HB; have HO157 := n0_; have BK153 := n1_; have HB := n2_; clear n0_ n1_ n2_; (try clear hb); (try clear hb2); (try clear hk); (try clear hi); (try clear ho0)) | ((with_reducible refine gate_dst (N := 4) rfl ?_); refine box_event ?hg (N := 4) ?hd (cs := #[.int .i64 0, .slice none 0 0]) (t := 24) ?hr ?_; (case hd => rfl); (case hg => rfl); (case hr => first | (go_simp; done) | (go_simp; rfl)); intro gb159 hg w13 hbox hb; have n0_ := Aside0.mk (Kd.R_below (by (with_reducible repeat (first | apply Kd.R_alloc | apply Kd.R_drewN | apply Kd.R_drew)); exact HO157.out) hb); have n1_ := Aside0.mk (blk_below (g := gb153) (o := .cells #[.int .i64 0, .slice none 0 0] 24 (0, 0)) (by (with_reducible repeat (first | refine blk_drewN ?_ _ | refine blk_drew ?_ | refine blk_alloc ?_ _)); exact BK153.out) hb); have n2_ := Aside0.mk (below_step (by repeat (first | (with_reducible first | exact HB.out | apply below_alloc | apply pw_below_drewN | apply below_drew1 | refine below_set ?_ GE153.out) | exact HB.out)) hb); have n3_ := Aside0.mk (hbox); have n4_ := Aside0.mk ((by rw [hg]; exact (below_size (by repeat (first | (with_reducible first | exact HB.out | apply below_alloc | apply pw_below_drewN | apply below_drew1 | refine below_set ?_ GE153.out) | exact HB.out))) : w.heap.size ≤ gb159)); have n5_ := Aside0.mk ((by rw [hg]; exact (below_size (by repeat (first | (with_reducible first | exact HB.out | apply below_alloc | apply pw_below_drewN | apply below_drew1 | refine below_set ?_ GE153.out) | exact HB.out))) : w.heap.size ≤ gb159)); have n6_ := Aside0.mk ((by rw [hg]; exact Nat.ne_of_lt (blk_lt (g := gb153) (o := .cells #[.int .i64 0, .slice none 0 0] 24 (0, 0)) (by (with_reducible repeat (first | refine blk_drewN ?_ _ | refine blk_drew ?_ | refine blk_alloc ?_ _)); exact BK153.out)) : gb153 ≠ gb159)); have n7_ := Aside0.mk ((by rw [hg]; exact Nat.ne_of_gt (blk_lt (g := gb153) (o := .cells #[.int .i64 0, .slice none 0 0] 24 (0, 0)) (by (with_reducible repeat (first | refine blk_drewN ?_ _ | refine blk_drew ?_ | refine blk_alloc ?_ _)); exact BK153.out)) : gb159 ≠ gb153)); clear HO157; clear BK153; clear HB; have HO157 := n0_; have BK153 := n1_; have HB := n2_; have BK159 := n3_; have GW159 := n4_; have GE159 := n5_; have NB153_159 := n6_; have NB159_153 := n7_; clear n0_ n1_ n2_ n3_ n4_ n5_ n6_ n7_; clear hb hbox hg; have hnb14 := NB159_153.out; have hnc14 := NB153_159.out; have hcz15_0 : w13.cell? ⟨gb159, 0, none⟩ = some (.int .i64 0) := (blk_cell BK159.out 0).trans rfl; have hcz15_1 : w13.cell? ⟨gb159, 1, none⟩ = some (.slice none 0 0) := (blk_cell BK159.out 1).trans rfl; have hfz15_0 := blk_frozen BK159.out 0; have hfz15_1 := blk_frozen BK159.out 1; obtain ⟨Ao16, co16, eo16⟩ := Kd.R_slice HO157.out; subst eo16; have hcz17_0 : w13.cell? ⟨gb153, 0, none⟩ = some (.int .i64 0) := (blk_cell BK153.out 0).trans rfl; have hcz17_1 : w13.cell? ⟨gb153, 1, none⟩ = some (.slice none 0 0) := (blk_cell BK153.out 1).trans rfl; have hfz17_0 := blk_frozen BK153.out 0; have hfz17_1 := blk_frozen BK153.out 1))
  refine bodyPost_ret (results_ct rfl _ _ gb153 24 #[.int .i64 0, .slice none 0 0] (0, 0) _ rfl (by (with_reducible repeat (first | refine blk_drewN ?_ _ | refine blk_drew ?_ | refine blk_alloc ?_ _)); refine blk_put (cs := #[.int .i64 0, .slice none 0 0]) ?_ 1 _ rfl; (with_reducible repeat (first | refine blk_drewN ?_ _ | refine blk_drew ?_ | refine blk_alloc ?_ _)); refine blk_put (cs := #[.int .i64 0, .slice none 0 0]) ?_ 0 _ rfl; (with_reducible repeat (first | refine blk_drewN ?_ _ | refine blk_drew ?_ | refine blk_alloc ?_ _)); refine blk_far ?_ NB153_159.out _; (with_reducible repeat (first | refine blk_drewN ?_ _ | refine blk_drew ?_ | refine blk_alloc ?_ _)); refine blk_far ?_ NB153_159.out _; (with_reducible repeat (first | refine blk_drewN ?_ _ | refine blk_drew ?_ | refine blk_alloc ?_ _)); exact BK153.out) Tryd.underlying24 rfl (by kernel_rfl)) rfl ?_
  exact ⟨_, by first | rfl | (simp [errW_none, errW_some] <;> rfl) | (simp [*, errW_none, errW_some] <;> rfl), by first | exact Kd.R_nil _ _ _ _ _ | exact Kd.N_nil _ _ _ _ _ | exact Kd.V_nil _ _ _ _ _ | exact Kd.Q_nil _ _ _ _ _ | exact Kd.S_nil _ _ _ _ _, by repeat (first | (with_reducible first | exact HB.out | apply below_alloc | apply pw_below_drewN | apply below_drew1 | refine below_set ?_ GE153.out | refine below_set ?_ GE159.out) | exact HB.out)⟩

/-! ### spec_l01Below: function 58 -/
/-! ### spec_l01Has: function 59 -/
end Go.Proofs.YtaeabbackmnioaaDoor.Q
end

section
/- NamedComplex: the reference and the program come to the same value at every name. -/
namespace Go.Proofs.YtaeabbackmnioaaDoor.K
open Go.RowKit Go.Shelf Go.Proofs.YtaeabbackmnioaaDoor.Q Go.Proofs.YtaeabbackmnioaaDoor.X Go.Proofs.YtaeabbackmnioaaDoor.C Go.Proofs.YtaeabbackmnioaaDoorW.PrintWords Go.Proofs.YtaeabbackmnioaaDoorW.PrintLast Go.Proofs.YtaeabbackmnioaaDoorW.PrintMore
set_option linter.unusedVariables false
set_option linter.unusedSimpArgs false

theorem named_none (s : ByteArray) (names known : List ByteArray) (hl : names.length ≤ 100) (h : ∀ x ∈ names, x.toList ≠ s.toList) : ∀ (d i k : Nat), names.length - i = d → i ≤ names.length → d < k →
  spec_l01Named.l0 k s names known (i : Int) = some (0, [], false) := by
 intro d
 induction d with
 | zero =>
  intro i k hd hi hk
  obtain ⟨k, rfl⟩ : ∃ m, k = m + 1 := ⟨k - 1, by omega⟩
  simp only [spec_l01Named.l0]
  rw [if_neg (by omega)]
 | succ d ih =>
  intro i k hd hi hk
  obtain ⟨k, rfl⟩ : ∃ m, k = m + 1 := ⟨k - 1, by omega⟩
  simp only [spec_l01Named.l0]
  have hil : i < names.length := by omega
  have hx : rdOf ByteArray.empty names (i : Int) = names[i] := by simp [rdOf, hil]
  rw [if_pos (by omega), if_pos (by omega), hx, if_neg (h _ (List.getElem_mem hil)), w64 ((i : Int) + 1) (by omega) (by omega), nat_succ]
  exact ih (i + 1) k (by omega) (by omega) (by omega)

theorem name_lit (l : List UInt8) : (⟨l.toArray⟩ : ByteArray).toList = l := by rw [Lib.toList_data]
theorem of_name {s : ByteArray} {l : List UInt8} (h : s.toList = l) : s = ⟨l.toArray⟩ := by
 rw [Lib.toList_data] at h
 subst h
 rfl
theorem named_0 : spec_NamedComplex.f 1000 (⟨#[112, 111, 105, 110, 116]⟩ : ByteArray) = some (1, [1], 0) ∧ impl_NamedComplex.f 1000 (⟨#[112, 111, 105, 110, 116]⟩ : ByteArray) = some (1, [1], 0) := ⟨by kernel_rfl, by kernel_rfl⟩
theorem named_1 : spec_NamedComplex.f 1000 (⟨#[99, 105, 114, 99, 108, 101]⟩ : ByteArray) = some (3, [1, 2, 3, 4, 5, 6], 0) ∧ impl_NamedComplex.f 1000 (⟨#[99, 105, 114, 99, 108, 101]⟩ : ByteArray) = some (3, [1, 2, 3, 4, 5, 6], 0) := ⟨by kernel_rfl, by kernel_rfl⟩
theorem named_2 : spec_NamedComplex.f 1000 (⟨#[115, 113, 117, 97, 114, 101]⟩ : ByteArray) = some (4, [1, 2, 3, 4, 6, 8, 9, 12], 0) ∧ impl_NamedComplex.f 1000 (⟨#[115, 113, 117, 97, 114, 101]⟩ : ByteArray) = some (4, [1, 2, 3, 4, 6, 8, 9, 12], 0) := ⟨by kernel_rfl, by kernel_rfl⟩
theorem named_3 : spec_NamedComplex.f 1000 (⟨#[115, 112, 104, 101, 114, 101]⟩ : ByteArray) = some (4, [1, 2, 3, 4, 5, 6, 7, 8, 9, 10, 11, 12, 13, 14], 0) ∧ impl_NamedComplex.f 1000 (⟨#[115, 112, 104, 101, 114, 101]⟩ : ByteArray) = some (4, [1, 2, 3, 4, 5, 6, 7, 8, 9, 10, 11, 12, 13, 14], 0) := ⟨by kernel_rfl, by kernel_rfl⟩
theorem named_4 : spec_NamedComplex.f 1000 (⟨#[98, 97, 108, 108]⟩ : ByteArray) = some (4, [1, 2, 3, 4, 5, 6, 7, 8, 9, 10, 11, 12, 13, 14, 15], 0) ∧ impl_NamedComplex.f 1000 (⟨#[98, 97, 108, 108]⟩ : ByteArray) = some (4, [1, 2, 3, 4, 5, 6, 7, 8, 9, 10, 11, 12, 13, 14, 15], 0) := ⟨by kernel_rfl, by kernel_rfl⟩
theorem named_5 : spec_NamedComplex.f 1000 (⟨#[98, 105, 112, 121, 114, 97, 109, 105, 100]⟩ : ByteArray) = some (5, [1, 2, 3, 4, 5, 6, 8, 9, 10, 11, 12, 13, 14, 16, 17, 18, 19, 20, 21, 22], 0) ∧ impl_NamedComplex.f 1000 (⟨#[98, 105, 112, 121, 114, 97, 109, 105, 100]⟩ : ByteArray) = some (5, [1, 2, 3, 4, 5, 6, 8, 9, 10, 11, 12, 13, 14, 16, 17, 18, 19, 20, 21, 22], 0) := ⟨by kernel_rfl, by kernel_rfl⟩
theorem named_6 : spec_NamedComplex.f 1000 (⟨#[111, 99, 116, 97, 104, 101, 100, 114, 111, 110]⟩ : ByteArray) = some (6, [1, 2, 4, 5, 6, 8, 9, 10, 16, 17, 18, 20, 21, 22, 24, 25, 26, 32, 33, 34, 36, 37, 38, 40, 41, 42], 0) ∧ impl_NamedComplex.f 1000 (⟨#[111, 99, 116, 97, 104, 101, 100, 114, 111, 110]⟩ : ByteArray) = some (6, [1, 2, 4, 5, 6, 8, 9, 10, 16, 17, 18, 20, 21, 22, 24, 25, 26, 32, 33, 34, 36, 37, 38, 40, 41, 42], 0) := ⟨by kernel_rfl, by kernel_rfl⟩
theorem named_7 : spec_NamedComplex.f 1000 (⟨#[109, 111, 101, 98, 105, 117, 115]⟩ : ByteArray) = some (5, [1, 2, 3, 4, 5, 6, 7, 8, 9, 10, 12, 14, 16, 17, 18, 19, 20, 24, 25, 28], 0) ∧ impl_NamedComplex.f 1000 (⟨#[109, 111, 101, 98, 105, 117, 115]⟩ : ByteArray) = some (5, [1, 2, 3, 4, 5, 6, 7, 8, 9, 10, 12, 14, 16, 17, 18, 19, 20, 24, 25, 28], 0) := ⟨by kernel_rfl, by kernel_rfl⟩
theorem named_8 : spec_NamedComplex.f 1000 (⟨#[112, 114, 111, 106, 101, 99, 116, 105, 118, 101]⟩ : ByteArray) = some (6, [1, 2, 3, 4, 5, 6, 7, 8, 9, 10, 12, 13, 16, 17, 18, 20, 22, 24, 25, 26, 32, 33, 34, 35, 36, 40, 42, 44, 48, 49, 52], 0) ∧ impl_NamedComplex.f 1000 (⟨#[112, 114, 111, 106, 101, 99, 116, 105, 118, 101]⟩ : ByteArray) = some (6, [1, 2, 3, 4, 5, 6, 7, 8, 9, 10, 12, 13, 16, 17, 18, 20, 22, 24, 25, 26, 32, 33, 34, 35, 36, 40, 42, 44, 48, 49, 52], 0) := ⟨by kernel_rfl, by kernel_rfl⟩
theorem named_9 : spec_NamedComplex.f 1000 (⟨#[119, 101, 100, 103, 101]⟩ : ByteArray) = some (5, [1, 2, 3, 4, 5, 6, 8, 9, 16, 17, 24], 0) ∧ impl_NamedComplex.f 1000 (⟨#[119, 101, 100, 103, 101]⟩ : ByteArray) = some (5, [1, 2, 3, 4, 5, 6, 8, 9, 16, 17, 24], 0) := ⟨by kernel_rfl, by kernel_rfl⟩
theorem named_10 : spec_NamedComplex.f 1000 (⟨#[116, 114, 101, 101]⟩ : ByteArray) = some (6, [1, 2, 3, 4, 6, 8, 10, 16, 24, 32, 40], 0) ∧ impl_NamedComplex.f 1000 (⟨#[116, 114, 101, 101]⟩ : ByteArray) = some (6, [1, 2, 3, 4, 6, 8, 10, 16, 24, 32, 40], 0) := ⟨by kernel_rfl, by kernel_rfl⟩

set_option maxRecDepth 100000 in
theorem named_is (s : ByteArray) : ∃ r : Int × List Int × Int, spec_NamedComplex.f 1000 s = some r ∧ impl_NamedComplex.f 1000 s = some r ∧ r.2.1.length ≤ 1000000 := by
 by_cases h0 : s.toList = ([112, 111, 105, 110, 116] : List UInt8)
 ·rw [of_name h0]
  exact ⟨(1, [1], 0), named_0.1, named_0.2, by decide⟩
 by_cases h1 : s.toList = ([99, 105, 114, 99, 108, 101] : List UInt8)
 ·rw [of_name h1]
  exact ⟨(3, [1, 2, 3, 4, 5, 6], 0), named_1.1, named_1.2, by decide⟩
 by_cases h2 : s.toList = ([115, 113, 117, 97, 114, 101] : List UInt8)
 ·rw [of_name h2]
  exact ⟨(4, [1, 2, 3, 4, 6, 8, 9, 12], 0), named_2.1, named_2.2, by decide⟩
 by_cases h3 : s.toList = ([115, 112, 104, 101, 114, 101] : List UInt8)
 ·rw [of_name h3]
  exact ⟨(4, [1, 2, 3, 4, 5, 6, 7, 8, 9, 10, 11, 12, 13, 14], 0), named_3.1, named_3.2, by decide⟩
 by_cases h4 : s.toList = ([98, 97, 108, 108] : List UInt8)
 ·rw [of_name h4]
  exact ⟨(4, [1, 2, 3, 4, 5, 6, 7, 8, 9, 10, 11, 12, 13, 14, 15], 0), named_4.1, named_4.2, by decide⟩
 by_cases h5 : s.toList = ([98, 105, 112, 121, 114, 97, 109, 105, 100] : List UInt8)
 ·rw [of_name h5]
  exact ⟨(5, [1, 2, 3, 4, 5, 6, 8, 9, 10, 11, 12, 13, 14, 16, 17, 18, 19, 20, 21, 22], 0), named_5.1, named_5.2, by decide⟩
 by_cases h6 : s.toList = ([111, 99, 116, 97, 104, 101, 100, 114, 111, 110] : List UInt8)
 ·rw [of_name h6]
  exact ⟨(6, [1, 2, 4, 5, 6, 8, 9, 10, 16, 17, 18, 20, 21, 22, 24, 25, 26, 32, 33, 34, 36, 37, 38, 40, 41, 42], 0), named_6.1, named_6.2, by decide⟩
 by_cases h7 : s.toList = ([109, 111, 101, 98, 105, 117, 115] : List UInt8)
 ·rw [of_name h7]
  exact ⟨(5, [1, 2, 3, 4, 5, 6, 7, 8, 9, 10, 12, 14, 16, 17, 18, 19, 20, 24, 25, 28], 0), named_7.1, named_7.2, by decide⟩
 by_cases h8 : s.toList = ([112, 114, 111, 106, 101, 99, 116, 105, 118, 101] : List UInt8)
 ·rw [of_name h8]
  exact ⟨(6, [1, 2, 3, 4, 5, 6, 7, 8, 9, 10, 12, 13, 16, 17, 18, 20, 22, 24, 25, 26, 32, 33, 34, 35, 36, 40, 42, 44, 48, 49, 52], 0), named_8.1, named_8.2, by decide⟩
 by_cases h9 : s.toList = ([119, 101, 100, 103, 101] : List UInt8)
 ·rw [of_name h9]
  exact ⟨(5, [1, 2, 3, 4, 5, 6, 8, 9, 16, 17, 24], 0), named_9.1, named_9.2, by decide⟩
 by_cases h10 : s.toList = ([116, 114, 101, 101] : List UInt8)
 ·rw [of_name h10]
  exact ⟨(6, [1, 2, 3, 4, 6, 8, 10, 16, 24, 32, 40], 0), named_10.1, named_10.2, by decide⟩
 refine ⟨(0, [], 4), ?_, ?_, by decide⟩
 ·have hz := named_none s [(⟨#[112, 111, 105, 110, 116]⟩ : ByteArray), (⟨#[99, 105, 114, 99, 108, 101]⟩ : ByteArray), (⟨#[115, 113, 117, 97, 114, 101]⟩ : ByteArray), (⟨#[115, 112, 104, 101, 114, 101]⟩ : ByteArray), (⟨#[98, 97, 108, 108]⟩ : ByteArray), (⟨#[98, 105, 112, 121, 114, 97, 109, 105, 100]⟩ : ByteArray), (⟨#[111, 99, 116, 97, 104, 101, 100, 114, 111, 110]⟩ : ByteArray), (⟨#[109, 111, 101, 98, 105, 117, 115]⟩ : ByteArray), (⟨#[112, 114, 111, 106, 101, 99, 116, 105, 118, 101]⟩ : ByteArray), (⟨#[119, 101, 100, 103, 101]⟩ : ByteArray), (⟨#[116, 114, 101, 101]⟩ : ByteArray)] ((spec_l01Known.f).getD []) (by decide) (by
   intro x hx
   simp only [List.mem_cons, List.not_mem_nil, or_false] at hx
   rcases hx with rfl | rfl | rfl | rfl | rfl | rfl | rfl | rfl | rfl | rfl | rfl
   ·exact fun e => h0 (e.symm.trans (name_lit [112, 111, 105, 110, 116]))
   ·exact fun e => h1 (e.symm.trans (name_lit [99, 105, 114, 99, 108, 101]))
   ·exact fun e => h2 (e.symm.trans (name_lit [115, 113, 117, 97, 114, 101]))
   ·exact fun e => h3 (e.symm.trans (name_lit [115, 112, 104, 101, 114, 101]))
   ·exact fun e => h4 (e.symm.trans (name_lit [98, 97, 108, 108]))
   ·exact fun e => h5 (e.symm.trans (name_lit [98, 105, 112, 121, 114, 97, 109, 105, 100]))
   ·exact fun e => h6 (e.symm.trans (name_lit [111, 99, 116, 97, 104, 101, 100, 114, 111, 110]))
   ·exact fun e => h7 (e.symm.trans (name_lit [109, 111, 101, 98, 105, 117, 115]))
   ·exact fun e => h8 (e.symm.trans (name_lit [112, 114, 111, 106, 101, 99, 116, 105, 118, 101]))
   ·exact fun e => h9 (e.symm.trans (name_lit [119, 101, 100, 103, 101]))
   ·exact fun e => h10 (e.symm.trans (name_lit [116, 114, 101, 101]))) 11 0 1000 rfl (by decide) (by decide)
  have e : spec_l01Named.f 1000 s = some (0, [], false) := hz
  unfold spec_NamedComplex.f
  rw [e]
  rfl
 ·unfold impl_NamedComplex.f
  have e : impl_namedText.f s = some (0, (⟨#[]⟩ : ByteArray)) := by
   unfold impl_namedText.f
   rw [if_neg h0, if_neg h1, if_neg h2, if_neg h3, if_neg h4, if_neg h5, if_neg h6, if_neg h7, if_neg h8, if_neg h9, if_neg h10]
  rw [e]
  rfl

end Go.Proofs.YtaeabbackmnioaaDoor.K
end

section
/- The walk through the law FnExactNamedComplex. -/
namespace Go.Proofs.YtaeabbackmnioaaDoor.K
open Go.RowKit Go.Shelf Go.Proofs.YtaeabbackmnioaaDoor.Q Go.Proofs.YtaeabbackmnioaaDoor.X Go.Proofs.YtaeabbackmnioaaDoor.C Go.Proofs.YtaeabbackmnioaaDoorW.PrintWords Go.Proofs.YtaeabbackmnioaaDoorW.PrintLast Go.Proofs.YtaeabbackmnioaaDoorW.PrintMore
set_option linter.unusedVariables false
set_option linter.unusedSimpArgs false

set_option maxRecDepth 100000 in
set_option maxHeartbeats 4000000 in
theorem LNamedComplex_calls (s : ByteArray) (w : World) :
  Calls Tryd.prog 4 #[.string s] w fun e w' => e = .returned (.bool true) ∧ Grew w w' := by
 by_cases hl : 1048576 < (s.size : Int)
 ·go_enter Tryd.func4, Tryd.ntmps4
  go_wp2_with fail
  go_ret
  exact ⟨rfl, Grew.refl w⟩
 ·obtain ⟨r1, r2, r3, HS, HI, hr2⟩ : ∃ (r1 : Int) (r2 : List Int) (r3 : Int), Aside0 (∀ W, Calls Tryd.prog 11 #[.string s] W fun e w' => ∃ v, e = .returned (.tuple #[.agg #[I r1, v], I r3]) ∧ Ki.R 2 w' W.heap.size (fun _ => True) v r2 ∧ Grew W w') ∧
    Aside0 (∀ W, Grew w W → Calls Tryd.prog 12 #[.string s] W fun e w' => ∃ v, e = .returned (.tuple #[.agg #[I r1, v], I r3]) ∧ Ki.R 2 w' W.heap.size (fun _ => True) v r2 ∧ Grew W w') ∧ r2.length ≤ 1000000 := by
   obtain ⟨⟨r1, r2, r3⟩, h1, h2, h3⟩ := named_is s
   exact ⟨r1, r2, r3, ⟨fun W => spec_NamedComplex.calls 1000 s r1 r2 r3 W h1⟩, ⟨fun W _ => impl_NamedComplex.calls 1000 s r1 r2 r3 W h2⟩, h3⟩
  go_enter Tryd.func4, Tryd.ntmps4
  go_wp2_with fail
  have HM2 : Aside0 (Mem w []) := ⟨Mem.nil _⟩
  have HG2 : Aside0 (Grew w w) := ⟨Grew.refl w⟩
  refine (HS.out w).mono ?_
  rintro e w3 ⟨v3, rfl, hR3, hG3⟩
  obtain ⟨A3, c3, rfl⟩ := Kd.R_slice hR3
  have HM3 : Aside0 (Mem (w3.alloc (.cells #[I r1, .slice A3 r2.length c3] 24)) [.box w3.heap.size 24 #[I r1, .slice A3 r2.length c3], .row w.heap.size w3.heap.size (.slice A3 r2.length c3) r2]) := ⟨Mem.cons (putC_box w3 r1 _) (Mem.grew (Mem.cons (it := .row w.heap.size w3.heap.size (.slice A3 r2.length c3) r2) (Row.of_R hR3) (HM2.out.grew hG3)) (putC_grew w3 r1 _))⟩
  have HG3 : Aside0 (Grew w (w3.alloc (.cells #[I r1, .slice A3 r2.length c3] 24))) := ⟨Grew.trans (Grew.trans HG2.out hG3) (putC_grew w3 r1 _)⟩
  have hs3 := hG3.size
  have hS3 : (w3.alloc (.cells #[I r1, .slice A3 r2.length c3] 24)).heap.size = w3.heap.size + 1 := putC_size w3 r1 _
  clear hR3 hG3
  go_wp2_with fail
  generalize (w3.alloc (.cells #[I r1, .slice A3 r2.length c3] 24)) = W3 at HM3 HG3 hS3  ⊢
  refine (HI.out W3 HG3.out).mono ?_
  rintro e w5 ⟨v5, rfl, hR5, hG5⟩
  obtain ⟨A5, c5, rfl⟩ := Kd.R_slice hR5
  have HM5 : Aside0 (Mem (w5.alloc (.cells #[I r1, .slice A5 r2.length c5] 24)) [.box w5.heap.size 24 #[I r1, .slice A5 r2.length c5], .row W3.heap.size w5.heap.size (.slice A5 r2.length c5) r2, .box w3.heap.size 24 #[I r1, .slice A3 r2.length c3], .row w.heap.size w3.heap.size (.slice A3 r2.length c3) r2]) := ⟨Mem.cons (putC_box w5 r1 _) (Mem.grew (Mem.cons (it := .row W3.heap.size w5.heap.size (.slice A5 r2.length c5) r2) (Row.of_R hR5) (HM3.out.grew hG5)) (putC_grew w5 r1 _))⟩
  have HG5 : Aside0 (Grew w (w5.alloc (.cells #[I r1, .slice A5 r2.length c5] 24))) := ⟨Grew.trans (Grew.trans HG3.out hG5) (putC_grew w5 r1 _)⟩
  have hs5 := hG5.size
  have hS5 : (w5.alloc (.cells #[I r1, .slice A5 r2.length c5] 24)).heap.size = w5.heap.size + 1 := putC_size w5 r1 _
  clear hR5 hG5
  have b90 : (w5.alloc (.cells #[I r1, .slice A5 r2.length c5] 24)).cell? ⟨w5.heap.size, 0, none⟩ = some (I r1) := blk_cell HM5.out.head 0
  have b91 : (w5.alloc (.cells #[I r1, .slice A5 r2.length c5] 24)).cell? ⟨w5.heap.size, 1, none⟩ = some (.slice A5 r2.length c5) := blk_cell HM5.out.head 1
  have b60 : (w5.alloc (.cells #[I r1, .slice A5 r2.length c5] 24)).cell? ⟨w3.heap.size, 0, none⟩ = some (I r1) := blk_cell HM5.out.tail.tail.head 0
  have b61 : (w5.alloc (.cells #[I r1, .slice A5 r2.length c5] 24)).cell? ⟨w3.heap.size, 1, none⟩ = some (.slice A3 r2.length c3) := blk_cell HM5.out.tail.tail.head 1
  go_wp2_with fail
  generalize (w5.alloc (.cells #[I r1, .slice A5 r2.length c5] 24)) = W5 at HM5 HG5 hS5 b90 b91 b60 b61 ⊢
  clear b90 b91 b60 b61
  refine (eqC_calls r1 r2 A5 A3 c5 c3 _ _ _ _ _ _ W5 HM5.out.tail.head HM5.out.tail.tail.tail.head).mono ?_
  rintro e w6 ⟨rfl, hG6⟩
  have HM6 := Aside0.mk (HM5.out.grew hG6)
  have HG6 := Aside0.mk (Grew.trans HG5.out hG6)
  have hs6 := hG6.size
  clear hG6
  have b90 : w6.cell? ⟨w5.heap.size, 0, none⟩ = some (I r1) := blk_cell HM6.out.head 0
  have b91 : w6.cell? ⟨w5.heap.size, 1, none⟩ = some (.slice A5 r2.length c5) := blk_cell HM6.out.head 1
  go_wp2_with fail
  clear b90 b91
  refine (markC_calls r1 A5 r2.length c5 r2 1 (by omega) (by omega) _ _ w w6 HG6.out (by omega) HM6.out.tail.head).mono ?_
  rintro e w11 ⟨rfl, hX11, hB11, hK11⟩
  have HM11 : Aside0 (Mem w11 [.row W3.heap.size w5.heap.size (.slice A5 r2.length c5) (marks 1 r2.length), .box w5.heap.size 24 #[I r1, .slice A5 r2.length c5], .box w3.heap.size 24 #[I r1, .slice A3 r2.length c3], .row w.heap.size w3.heap.size (.slice A3 r2.length c3) r2]) := ⟨Mem.cons (it := .row W3.heap.size w5.heap.size (.slice A5 r2.length c5) (marks 1 r2.length)) hX11 (Mem.kept (Mem.cons (it := .box w5.heap.size 24 #[I r1, .slice A5 r2.length c5]) HM6.out.head (Mem.cons (it := .box w3.heap.size 24 #[I r1, .slice A3 r2.length c3]) HM6.out.tail.tail.head (Mem.cons (it := .row w.heap.size w3.heap.size (.slice A3 r2.length c3) r2) HM6.out.tail.tail.tail.head (Mem.nil _)))) hK11 (by intro it hit k hk; simp only [List.mem_cons, List.not_mem_nil, or_false] at hit; rcases hit with rfl | rfl | rfl <;> (simp only [Item.at_] at hk; omega)))⟩
  have HG11 := Aside0.mk hB11
  have hs11 := hK11.1
  clear hX11 hB11 hK11
  have hneg : ¬ (1 + (r2.length : Int) < 0) := by omega
  have b90 : w11.cell? ⟨w5.heap.size, 0, none⟩ = some (I r1) := blk_cell HM11.out.tail.head 0
  have b91 : w11.cell? ⟨w5.heap.size, 1, none⟩ = some (.slice A5 r2.length c5) := blk_cell HM11.out.tail.head 1
  go_wp2_with fail
  clear b90 b91
  refine (heldC_calls r1 A5 r2.length r2.length c5 _ _ 1 (by omega) (by omega) w11 HM11.out.head).mono ?_
  rintro e w12 ⟨rfl, hG12⟩
  have HM12 := Aside0.mk (HM11.out.grew hG12)
  have HG12 := Aside0.mk (Grew.trans HG11.out hG12)
  have hs12 := hG12.size
  clear hG12
  go_wp2_with fail
  refine (HI.out w12 HG12.out).mono ?_
  rintro e w14 ⟨v14, rfl, hR14, hG14⟩
  obtain ⟨A14, c14, rfl⟩ := Kd.R_slice hR14
  have HM14 : Aside0 (Mem (w14.alloc (.cells #[I r1, .slice A14 r2.length c14] 24)) [.box w14.heap.size 24 #[I r1, .slice A14 r2.length c14], .row w12.heap.size w14.heap.size (.slice A14 r2.length c14) r2, .row W3.heap.size w5.heap.size (.slice A5 r2.length c5) (marks 1 r2.length), .box w5.heap.size 24 #[I r1, .slice A5 r2.length c5], .box w3.heap.size 24 #[I r1, .slice A3 r2.length c3], .row w.heap.size w3.heap.size (.slice A3 r2.length c3) r2]) := ⟨Mem.cons (putC_box w14 r1 _) (Mem.grew (Mem.cons (it := .row w12.heap.size w14.heap.size (.slice A14 r2.length c14) r2) (Row.of_R hR14) (HM12.out.grew hG14)) (putC_grew w14 r1 _))⟩
  have HG14 : Aside0 (Grew w (w14.alloc (.cells #[I r1, .slice A14 r2.length c14] 24))) := ⟨Grew.trans (Grew.trans HG12.out hG14) (putC_grew w14 r1 _)⟩
  have hs14 := hG14.size
  have hS14 : (w14.alloc (.cells #[I r1, .slice A14 r2.length c14] 24)).heap.size = w14.heap.size + 1 := putC_size w14 r1 _
  clear hR14 hG14
  have b140 : (w14.alloc (.cells #[I r1, .slice A14 r2.length c14] 24)).cell? ⟨w14.heap.size, 0, none⟩ = some (I r1) := blk_cell HM14.out.head 0
  have b141 : (w14.alloc (.cells #[I r1, .slice A14 r2.length c14] 24)).cell? ⟨w14.heap.size, 1, none⟩ = some (.slice A14 r2.length c14) := blk_cell HM14.out.head 1
  have b60 : (w14.alloc (.cells #[I r1, .slice A14 r2.length c14] 24)).cell? ⟨w3.heap.size, 0, none⟩ = some (I r1) := blk_cell HM14.out.tail.tail.tail.tail.head 0
  have b61 : (w14.alloc (.cells #[I r1, .slice A14 r2.length c14] 24)).cell? ⟨w3.heap.size, 1, none⟩ = some (.slice A3 r2.length c3) := blk_cell HM14.out.tail.tail.tail.tail.head 1
  go_wp2_with fail
  generalize (w14.alloc (.cells #[I r1, .slice A14 r2.length c14] 24)) = W14 at HM14 HG14 hS14 b140 b141 b60 b61 ⊢
  clear b140 b141 b60 b61
  refine (eqC_calls r1 r2 A14 A3 c14 c3 _ _ _ _ _ _ W14 HM14.out.tail.head HM14.out.tail.tail.tail.tail.tail.head).mono ?_
  rintro e w15 ⟨rfl, hG15⟩
  have HM15 := Aside0.mk (HM14.out.grew hG15)
  have HG15 := Aside0.mk (Grew.trans HG14.out hG15)
  have hs15 := hG15.size
  clear hG15
  have b90 : w15.cell? ⟨w5.heap.size, 0, none⟩ = some (I r1) := blk_cell HM15.out.tail.tail.tail.head 0
  have b91 : w15.cell? ⟨w5.heap.size, 1, none⟩ = some (.slice A5 r2.length c5) := blk_cell HM15.out.tail.tail.tail.head 1
  go_wp2_with fail
  clear b90 b91
  refine (heldC_calls r1 A5 r2.length r2.length c5 _ _ 1 (by omega) (by omega) w15 HM15.out.tail.tail.head).mono ?_
  rintro e w16 ⟨rfl, hG16⟩
  have HM16 := Aside0.mk (HM15.out.grew hG16)
  have HG16 := Aside0.mk (Grew.trans HG15.out hG16)
  have hs16 := hG16.size
  clear hG16
  go_wp2_with fail
  go_ret
  exact ⟨rfl, HG16.out⟩

end Go.Proofs.YtaeabbackmnioaaDoor.K
end

section

namespace Go.Proofs.YtaeabbackmnioaaDoor.fnExactNamedComplex
open Go.ChangeShapes Go.WideShapes Go.ChangeAt Go.RowKit Go.Joins Go.Proofs.YtaeabbackmnioaaDoor.K Go.Proofs.YtaeabbackmnioaaDoorW.PrintWords
open Go.ChangeMaps (open_string shut_string)
set_option linter.unusedVariables false
def laidL : List (String × DataW Unit) := [("unicode/utf8.acceptRanges", Rows.laid_unicode_utf8_acceptRanges), ("unicode/utf8.first", Rows.laid_unicode_utf8_first)]
set_option maxRecDepth 100000 in
theorem lifted (os : Os) (started : os.Started) (H : Type) (enc : TypeId × Value → H) :
  ReturnsInHanded {} Tryd.checked os 4 .any (fun w args => (Rows.fnExactNamedComplexSpec.pre enc Tryd.prog Tryd.f4 Rows.fnExactNamedComplexRow.domain false w args ∧ laidMetH Tryd.prog laidL w) ∧ sizedMet enc Tryd.prog Tryd.f4 (OpenSpec.ofChange Rows.fnExactNamedComplexSpec) false w args) (Rows.fnExactNamedComplexSpec.post enc Tryd.prog Tryd.f4 false true false false) := by
 refine returnsInHanded_of_change_and (C := Tryd.checked) (X := fun w _ => laidMetH Tryd.prog laidL w) (fun _ _ _ hh h => h.of_heap hh) ownKnob_none started (by kernel_rfl) Tryd.func4
  (ChangeSpec.witness_shaped (enc := enc) (C := Tryd.checked) (os := os) (X := fun w _ => laidMetH Tryd.prog laidL w) false (World.laidAll Tryd.prog os laidL) #[.string ByteArray.empty] 8 (World.laidAll_os _ _ _)
   (World.shaped_of_ZipB (by kernel_rfl) (by kernel_rfl)) (by kernel_rfl) (by kernel_rfl) (by kernel_rfl)
   (by rw [MakeChecks.laidMetH_plain _ _ _ (by kernel_rfl)]; exact laidMet_laidAll _ (by kernel_rfl) (by kernel_rfl))) ?_
 intro W base args ds gs before hval0 hW hcnd hsz0 hL _
 have hsz : (DataW.weightsEach Tryd.prog (Tryd.f4.params.toList ++ Rows.fnExactNamedComplexSpec.plain.varTypes Tryd.prog) (ds ++ gs)).all (· ≤ reachBytes) = true := hsz0
 have hval : ∀ (j : Nat) t v, Tryd.f4.params[j]? = some t → args[j]? = some v → Value.okWide Tryd.prog W .any base t v := hval0
 have hW' := hW
 obtain ⟨p, q, hA0, hV, rfl, hfz, hnd⟩ := hW
 have hA : DataW.TrodAll enc Tryd.prog W 0 (fun _ => true) true Tryd.f4.params.toList args.toList ds p := hA0
 rw [Tryd.params4] at hA hval hsz
 obtain ⟨v0, vs0, d0, ds0, p0, q0, hargs, rfl, rfl, h0, r0⟩ := trodAll_cons hA
 obtain ⟨rfl, rfl, rfl⟩ := trodAll_nil r0
 obtain rfl : args = #[v0] := by cases args; simp_all
 obtain ⟨rfl, rfl⟩ := trodVars_none hV
 obtain ⟨s0, rfl, rfl, rfl, y0⟩ := open_string Tryd.underlying9 (hval 0 9 v0 rfl rfl) h0
 have w0 : s0.size ≤ 140737488351232 := by
  have z := sized_string hsz (j := 0) (t := 9) rfl rfl
  rw [Array.length_toList] at z
  exact z
 clear hA0 hval0 hsz0 hsz
 refine (K.LNamedComplex_calls s0 W ).mono fun e W' ⟨he, bel0⟩ => ?_
 have bel : Below W.heap.size W W' := bel0
 subst he
 exact ⟨_, rfl, _, _, _, [], _, [], hW', trodAll_mk1 (shut_bool Tryd.underlying4 _), (trodAll_cons_mk (shut_string Tryd.underlying9 y0) trodAll_mk0), rfl, bel.frame _, fun h => by cases h⟩
set_option maxRecDepth 100000 in
theorem starts : ∃ r, behindMainWord (wordsSigns Tryd.prog.initOrder.toList) = "cut".toList :: r := by
 have h : Tryd.prog.initOrder = String.ofList _ := rfl
 rw [h, String.toList_ofList, signs_take 7 _ rfl rfl, signs_take 64 _ rfl rfl, signs_take 3 _ rfl rfl]
 generalize wordsSigns _ = r
 exact ⟨r, by kernel_rfl⟩
set_option maxRecDepth 100000 in
theorem closed : joinedFacts Tryd.prog 4 Tryd.f4 Rows.fnExactNamedComplexSpec Rows.fnExactNamedComplexRow = true := by
 obtain ⟨r, h⟩ := starts
 unfold joinedFacts
 rw [cut_enter _ r h (by kernel_rfl) (by kernel_rfl) (by kernel_rfl), cut_make _ r h, cut_lifts _ r h]
 exact of_decide_eq_true (by kernel_rfl)
theorem over : Rows.fnExactNamedComplexRow.holds Tryd.pinned (OpenSpec.ofChange Rows.fnExactNamedComplexSpec) :=
 OpenClaim.holds_of_wide 4 Tryd.f4 rfl rfl rfl rfl rfl rfl rfl ⟨rfl, rfl, rfl, rfl, rfl⟩ rfl rfl rfl rfl rfl (by kernel_rfl) Tryd.func4 closed
  (of_decide_eq_true (by kernel_rfl)) (by unfold Func.isWrapper; first | (rw [if_pos (by decide +kernel)]; kernel_rfl) | (rw [if_neg (by decide +kernel)]; exact ⟨rfl, rfl⟩))
  (fun os started H enc _ => lifted os started H enc)
theorem proved : Rows.FnExactNamedComplexSaid := over
#print axioms proved
end Go.Proofs.YtaeabbackmnioaaDoor.fnExactNamedComplex
namespace Go.Proofs.YtaeabbackmnioaaDoor
/-- The card: the row, its listed variables tied to the program's text. -/
theorem fnExactNamedComplexCard_holds : Rows.FnExactNamedComplexCardSaid :=
 Claim7.holds_tied_plain_at .later [] [.data, .pinned] true (true, "023d4715f29fe387ed6fd4a9caf20bc03ad98bbafaf158969a1b75aeccffe5e7") true fnExactNamedComplex.over (fun _ h => by cases h) (by kernel_rfl) (fun _ h => by cases h) fnExactNamedComplex_row_tie rfl ⟨rfl, rfl⟩ (by kernel_rfl) rfl
  (fun f fn hf hfn => by
   obtain rfl : f = 4 := Option.some.inj ((show Tryd.prog.funcNamed "loop.example/g01348/laws.FnExactNamedComplex" = some 4 by kernel_rfl).symm.trans hf) |>.symm
   obtain rfl : fn = Tryd.f4 := (Option.some.inj (Tryd.func4.symm.trans hfn)).symm
   exact ⟨by kernel_rfl, fun j t ht => by
    rw [Tryd.params4] at ht
    have hm : t ∈ [9] := by simpa using Array.mem_of_getElem? ht
    have hall : ([9].all fun u => !Tryd.prog.wantsStandIn u) = true := by kernel_rfl
    exact (show Tryd.prog.wantsStandIn t = false by simpa using List.all_eq_true.1 hall t hm)⟩)
  (by kernel_rfl)
#print axioms fnExactNamedComplexCard_holds
end Go.Proofs.YtaeabbackmnioaaDoor
end
