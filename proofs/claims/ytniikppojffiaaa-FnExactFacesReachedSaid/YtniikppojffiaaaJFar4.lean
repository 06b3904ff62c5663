/- Texts of this work, put together by its pack.py. No conditions. -/
import Derived.Test.YtniikppojffiaaaJFar3
import Derived.Below
import Derived.Deep.Draws
import Derived.Deep.AppendLies
import Derived.Maps.AppendAt
import Derived.OwnWalk
import Derived.Laws.BytesArg
import Derived.Laws.MakeOwn
import Derived.Laws.OwnMore
import Derived.Deep.OwnRows
import Derived.Tactics
import Derived.Lib.ConvBytes
import Derived.Laws.Slices
import Derived.WalkKit
import Derived.KernelRfl
import Derived.RowKit3
import Derived.Deep.LoopGhost
import Derived.Deep.QuietTactic
import Derived.BigQuiet
import Derived.WideLaws
import Derived.Deep.DeepCutAuto
import Derived.Deep.CutBlock
import Derived.Deep.RegionHeld3
import Derived.Laws.Rows
import Derived.Lib.AppendStr
import Derived.ArgAppend
import Derived.Laws.IdiomCopy
import Derived.RowKit
import Derived.OrdersHeld
import Derived.Laws.BitsLemmas
import Derived.Laws.StructEq
import Derived.Test.YtniikppojffiaaaProg
import Derived.Shelf.Abstract
import Derived.LoopN
import Derived.RangeFuncBox
import Derived.RangeFuncLeaves
import Derived.OwnWalkIn
import Derived.TacticsInMore
import Derived.LoopNIn
import Derived.LoopIn
import Derived.Lib.SliceRun
import Derived.Maps.OwnSet
import Derived.Lib.SlKeysI
import Derived.ChangeKeysEq
import Derived.Test.YtniikppojffiaaaChecked
import Derived.Shelf.SlIterI.Nil
import Derived.Shelf.SortM.SortNone
import Derived.Shelf.SortM.Plain
section
/- Written by a program of this session (myprint.py over the kit's print). -/
namespace Go.Proofs.Ytniikppojffiaaa.Q
open Go.RowKit Go.Proofs.YtniikppojffiaaaW.PrintWords Go.Proofs.YtniikppojffiaaaW.PrintLast Go.Proofs.YtniikppojffiaaaW.PrintMore
attribute [local go_sem] max2_int min2_int max_two min_two max_three min_three max_four min_four   -- for this text's walks alone
set_option linter.unusedVariables false
set_option linter.unusedSimpArgs false

/-! ### spec_l02Code: function 66 -/
def spec_l02Code.l0 : Nat → List Int → Int → Int → List Int → Option (Int)
 | 0, _, _, _, _ => none
 | k + 1, x2, x7, x148000, x148001 => if x7 < (x2.length : Int) then (if 0 ≤ x7 then ((spec_l01Has.f k x148000 x148001 (rd x2 x7)).bind fun t151 => (if t151 = true then (spec_l02Code.l0 k x2 (wrap64 (x7 + 1)) x148000 x148001) else (some 2))) else (none)) else (some 0)
def spec_l02Code.f (k : Nat) (a0_0 : Int) (l0_1 : List Int) (l1 : List (S53)) (l2 : List Int) : Option (Int) := (spec_l01Is.f k a0_0 l0_1).bind fun t148 => (if t148 = true then ((spec_l02Is.f k a0_0 l0_1 l1).bind fun t149 => (if t149 = true then (spec_l02Code.l0 k l2 0 a0_0 l0_1) else (some 2))) else (some 1))
theorem spec_l02Code.mono_l : ∀ k, (∀ y0 y1 y2 y3, LeO (spec_l02Code.l0 k y0 y1 y2 y3) (spec_l02Code.l0 (k + 1) y0 y1 y2 y3))
 | 0 => fun _ _ _ _ r h => by simp [spec_l02Code.l0] at h
 | k + 1 => by
  have ih0 := spec_l02Code.mono_l k
  ·intro y0 y1 y2 y3
   unfold spec_l02Code.l0
   repeat' first
   | (with_reducible exact ih0 _ _ _ _)
   | (with_reducible exact spec_l01Has.mono _ _ _ _)
   | (with_reducible exact spec_l01Is.mono _ _ _)
   | (with_reducible exact spec_l02Is.mono _ _ _ _)
   | (with_reducible exact LeO.refl _)
   | (with_reducible exact LeO.none _)
   | (with_reducible refine LeO.ite ?_ ?_)
   | (with_reducible refine LeO.bind ?_ (fun _ => ?_))
   | exact ih0 _ _ _ _
   | exact spec_l01Has.mono _ _ _ _
   | exact spec_l01Is.mono _ _ _
   | exact spec_l02Is.mono _ _ _ _
   | exact LeO.none _
   | refine LeO.ite ?_ ?_
   | refine LeO.bind ?_ (fun _ => ?_)
theorem spec_l02Code.mono : ∀ a0 a1 a2 a3 k, LeO (spec_l02Code.f k a0 a1 a2 a3) (spec_l02Code.f (k + 1) a0 a1 a2 a3) := by
 intro a0 a1 a2 a3 k
 have ih0 := spec_l02Code.mono_l k
 unfold spec_l02Code.f
 repeat' first
   | (with_reducible exact ih0 _ _ _ _)
   | (with_reducible exact spec_l01Has.mono _ _ _ _)
   | (with_reducible exact spec_l01Is.mono _ _ _)
   | (with_reducible exact spec_l02Is.mono _ _ _ _)
   | (with_reducible exact LeO.refl _)
   | (with_reducible exact LeO.none _)
   | (with_reducible refine LeO.ite ?_ ?_)
   | (with_reducible refine LeO.bind ?_ (fun _ => ?_))
   | exact ih0 _ _ _ _
   | exact spec_l01Has.mono _ _ _ _
   | exact spec_l01Is.mono _ _ _
   | exact spec_l02Is.mono _ _ _ _
   | exact LeO.none _
   | refine LeO.ite ?_ ?_
   | refine LeO.bind ?_ (fun _ => ?_)
set_option maxHeartbeats 8000000 in
set_option maxRecDepth 100000 in
theorem spec_l02Code.calls (k : Nat) (a0_0 : Int) (A0_1 : Option Addr) (c0_1 : Nat) (l0_1 : List Int) (A1 : Option Addr) (c1 : Nat) (l1 : List (S53)) (A2 : Option Addr) (c2 : Nat) (l2 : List Int) (r : Int) (w : World) (hr0_1 : Kd.C (Kd.int .i64) w A0_1 l0_1.length l0_1) (hc0_1 : l0_1.length ≤ c0_1) (hr1 : Kd.C k53 w A1 l1.length l1) (hc1 : l1.length ≤ c1) (hr2 : Kd.C (Kd.int .i64) w A2 l2.length l2) (hc2 : l2.length ≤ c2) (h : spec_l02Code.f k a0_0 l0_1 l1 l2 = some r) :
  Calls Try.prog 66 #[.agg #[.int .i64 a0_0, .slice A0_1 l0_1.length c0_1], .slice A1 l1.length c1, .slice A2 l2.length c2] w fun e w' => e = .returned (.int .i64 r) ∧ Below w.heap.size w w' := by
 have hu30 := Try.underlying30
 have HR0_1 := Aside0.mk hr0_1
 have HC0_1 := Aside0.mk hc0_1
 clear hr0_1 hc0_1
 have HR1 := Aside0.mk hr1
 have HC1 := Aside0.mk hc1
 clear hr1 hc1
 have HR2 := Aside0.mk hr2
 have HC2 := Aside0.mk hc2
 clear hr2 hc2
 have HB := Aside0.mk (Below.refl w.heap.size w)
 have H : ((spec_l01Is.f k a0_0 l0_1).bind fun t148 => (if t148 = true then ((spec_l02Is.f k a0_0 l0_1 l1).bind fun t149 => (if t149 = true then (spec_l02Code.l0 k l2 0 a0_0 l0_1) else (some 2))) else (some 1))) = some r := h
 clear h
 replace H := Option.bind_eq_some_iff.mp H
 obtain ⟨t148, A40, H⟩ := H
 replace H : (if t148 = true then ((spec_l02Is.f k a0_0 l0_1 l1).bind fun t149 => (if t149 = true then (spec_l02Code.l0 k l2 0 a0_0 l0_1) else (some 2))) else (some 1)) = some r := H
 have A4 := Aside0.mk A40
 clear A40
 by_cases c5 : t148 = true
 ·subst c5
  have H1 : ((spec_l02Is.f k a0_0 l0_1 l1).bind fun t149 => (if t149 = true then (spec_l02Code.l0 k l2 0 a0_0 l0_1) else (some 2))) = some r := by rw [if_pos rfl] at H; exact H
  clear H
  have H := H1
  clear H1
  replace H := Option.bind_eq_some_iff.mp H
  obtain ⟨t149, A60, H⟩ := H
  replace H : (if t149 = true then (spec_l02Code.l0 k l2 0 a0_0 l0_1) else (some 2)) = some r := H
  have A6 := Aside0.mk A60
  clear A60
  by_cases c7 : t149 = true
  ·subst c7
   have H1 : (spec_l02Code.l0 k l2 0 a0_0 l0_1) = some r := by rw [if_pos rfl] at H; exact H
   clear H
   have H := H1
   clear H1
   have H' := Aside0.mk H
   clear H
   go_enter Try.func66, Try.ntmps66
   go_wp2_with (first | ((with_reducible refine gate_dst (N := 3) rfl ?_); refine box_event ?hg (N := 3) ?hd (cs := #[.int .i64 a0_0, .slice A0_1 l0_1.length c0_1]) (t := 30) ?hr ?_; (case hd => rfl); (case hg => rfl); (case hr => first | (go_simp; done) | (go_simp; rfl)); intro gb147 hg w8 hbox hb; have n0_ := Aside0.mk (below_step (by repeat (first | (with_reducible first | exact HB.out | apply below_alloc | apply pw_below_drewN | apply below_drew1) | exact HB.out)) hb); have n1_ := Aside0.mk (hbox); have n2_ := Aside0.mk ((by rw [hg]; exact (below_size (by repeat (first | (with_reducible first | exact HB.out | apply below_alloc | apply pw_below_drewN | apply below_drew1) | exact HB.out))) : w.heap.size ≤ gb147)); have n3_ := Aside0.mk ((by rw [hg]; exact (below_size (by repeat (first | (with_reducible first | exact HB.out | apply below_alloc | apply pw_below_drewN | apply below_drew1) | exact HB.out))) : w.heap.size ≤ gb147)); clear HB; have HB := n0_; have BK147 := n1_; have GW147 := n2_; have GE147 := n3_; clear n0_ n1_ n2_ n3_; clear hb hbox hg; have hcz9_0 : w8.cell? ⟨gb147, 0, none⟩ = some (.int .i64 a0_0) := (blk_cell BK147.out 0).trans rfl; have hcz9_1 : w8.cell? ⟨gb147, 1, none⟩ = some (.slice A0_1 l0_1.length c0_1) := (blk_cell BK147.out 1).trans rfl; have hfz9_0 := blk_frozen BK147.out 0; have hfz9_1 := blk_frozen BK147.out 1) | ((with_reducible refine gate_callee (f := 60) rfl ?_); refine goesL_ (some 9) rfl rfl Try.func60 (by kernel_rfl) rfl #[.agg #[.int .i64 a0_0, .slice A0_1 l0_1.length c0_1]] rfl (by (try simp only [List.map_toArray, List.map_cons, List.map_nil]); first | done | rfl | (simp only [List.length_drop, List.length_take]; rfl)) ?_; (with_reducible refine (spec_l01Is.calls k a0_0 _ _ l0_1 true _ ?side1 ?side2 A4.out).mono ?_); (case side1 => repeat (first | exact (Kd.C_below HR0_1.out HB.out) | (with_reducible refine Kd.C_alloc ?_ _) | (with_reducible refine Kd.C_drewN ?_ _) | (with_reducible refine Kd.C_drew ?_))); (case side2 => exact HC0_1.out); rintro e w10 ⟨rfl, hb⟩; refine ⟨_, rfl, ?_⟩; have n0_ := Aside0.mk (blk_below (g := gb147) (o := .cells #[.int .i64 a0_0, .slice A0_1 l0_1.length c0_1] 30 (0, 0)) (by (with_reducible repeat (first | refine blk_drewN ?_ _ | refine blk_drew ?_ | refine blk_alloc ?_ _)); exact BK147.out) hb); have n1_ := Aside0.mk (below_step (by repeat (first | (with_reducible first | exact HB.out | apply below_alloc | apply pw_below_drewN | apply below_drew1 | refine below_set ?_ GE147.out) | exact HB.out)) hb); clear BK147; clear HB; have BK147 := n0_; have HB := n1_; clear n0_ n1_; (try clear hb); (try clear hb2); (try clear hk); (try clear hi); have hcz11_0 : w10.cell? ⟨gb147, 0, none⟩ = some (.int .i64 a0_0) := (blk_cell BK147.out 0).trans rfl; have hcz11_1 : w10.cell? ⟨gb147, 1, none⟩ = some (.slice A0_1 l0_1.length c0_1) := (blk_cell BK147.out 1).trans rfl; have hfz11_0 := blk_frozen BK147.out 0; have hfz11_1 := blk_frozen BK147.out 1) | ((with_reducible refine gate_callee (f := 61) rfl ?_); refine goesL_ (some 13) rfl rfl Try.func61 (by kernel_rfl) rfl #[.agg #[.int .i64 a0_0, .slice A0_1 l0_1.length c0_1], .slice A1 l1.length c1] rfl (by (try simp only [List.map_toArray, List.map_cons, List.map_nil]); first | done | rfl | (simp only [List.length_drop, List.length_take]; rfl)) ?_; (with_reducible refine (spec_l02Is.calls k a0_0 _ _ l0_1 _ _ l1 true _ ?side1 ?side2 ?side3 ?side4 A6.out).mono ?_); (case side1 => repeat (first | exact (Kd.C_below HR0_1.out HB.out) | (with_reducible refine Kd.C_alloc ?_ _) | (with_reducible refine Kd.C_drewN ?_ _) | (with_reducible refine Kd.C_drew ?_))); (case side2 => exact HC0_1.out); (case side3 => repeat (first | exact (Kd.C_below HR1.out HB.out) | (with_reducible refine Kd.C_alloc ?_ _) | (with_reducible refine Kd.C_drewN ?_ _) | (with_reducible refine Kd.C_drew ?_))); (case side4 => exact HC1.out); rintro e w12 ⟨rfl, hb⟩; refine ⟨_, rfl, ?_⟩; have n0_ := Aside0.mk (blk_below (g := gb147) (o := .cells #[.int .i64 a0_0, .slice A0_1 l0_1.length c0_1] 30 (0, 0)) (by (with_reducible repeat (first | refine blk_drewN ?_ _ | refine blk_drew ?_ | refine blk_alloc ?_ _)); exact BK147.out) hb); have n1_ := Aside0.mk (below_step (by repeat (first | (with_reducible first | exact HB.out | apply below_alloc | apply pw_below_drewN | apply below_drew1 | refine below_set ?_ GE147.out) | exact HB.out)) hb); clear BK147; clear HB; have BK147 := n0_; have HB := n1_; clear n0_ n1_; (try clear hb); (try clear hb2); (try clear hk); (try clear hi)))
   go_loopg [7] k (fun kq v7 w' => ∃ (x7_1 : Int), v7 = .int .i64 x7_1 ∧ Aside0 (spec_l02Code.l0 kq l2 x7_1 a0_0 l0_1 = some r) ∧ Aside0 (kq ≤ k) ∧ Aside0 (w'.heap[gb147]? = some (.cells #[.int .i64 a0_0, (.slice A0_1 l0_1.length c0_1)] 30 (0, 0))) ∧ Aside0 (Below w.heap.size w w'))
   case atStart => exact ⟨(0), (by first | rfl | (simp; done) | (simp [*]; done)), H', ⟨Nat.le_refl _⟩, ⟨by (with_reducible repeat (first | refine blk_drewN ?_ _ | refine blk_drew ?_ | refine blk_alloc ?_ _)); exact BK147.out⟩, ⟨by repeat (first | (with_reducible first | exact HB.out | apply below_alloc | apply pw_below_drewN | apply below_drew1 | refine below_set ?_ GE147.out) | exact HB.out)⟩⟩
   case round =>
    clear H'
    try clear c1
    try clear c2
    try clear p2
    try clear c5
    try clear c6
    try clear c7
    try clear hcz11_0
    try clear hcz11_1
    try clear hcz9_0
    try clear hcz9_1
    try clear hfz11_0
    try clear hfz11_1
    try clear hfz9_0
    try clear hfz9_1
    obtain ⟨x7_1, rfl, HA, HK1, BK147, HB⟩ := hrel
    cases gk with
    | zero => exact absurd HA.out (by simp [spec_l02Code.l0])
    | succ k1 =>
     have H := HA.out
     clear HA
     simp only [spec_l02Code.l0] at H
     by_cases c13 : x7_1 < (l2.length : Int)
     ·rw [if_pos c13] at H
      have c13b0 : decide (x7_1 < (l2.length : Int)) = true := decide_eq_true c13
      clear c13
      by_cases c14 : 0 ≤ x7_1
      ·rw [if_pos c14] at H
       have c14b0 : decide (0 ≤ x7_1) = true := decide_eq_true c14
       clear c14
       replace H := Option.bind_eq_some_iff.mp H
       obtain ⟨t151, A150, H⟩ := H
       replace H : (if t151 = true then (spec_l02Code.l0 k1 l2 (wrap64 (x7_1 + 1)) a0_0 l0_1) else (some 2)) = some r := H
       have A15 := Aside0.mk A150
       clear A150
       by_cases c16 : t151 = true
       ·subst c16
        have H1 : (spec_l02Code.l0 k1 l2 (wrap64 (x7_1 + 1)) a0_0 l0_1) = some r := by rw [if_pos rfl] at H; exact H
        clear H
        have H := H1
        clear H1
        have H' := Aside0.mk H
        clear H
        try go_wp2
        have n0_ := Aside0.mk (blk_drew BK147.out)
        have n1_ := Aside0.mk (below_drew1 HB.out)
        clear BK147
        clear HB
        have BK147 := n0_
        have HB := n1_
        clear n0_ n1_
        have p150 : 0 ≤ (x7_1 : Int) := of_decide_eq_true (by first | (with_reducible assumption) | assumption)
        have q150 : x7_1 < (l2.length : Int) := of_decide_eq_true (by first | (with_reducible assumption) | assumption)
        obtain ⟨ad150, e150, hx150_0⟩ := Kd.at_int HR2.out x7_1 p150 q150
        have hw150_0 := hx150_0
        cases e150
        replace hx150_0 := (HB.out.cell (World.block_lt_of_cell? w _ hx150_0)).trans hx150_0
        replace p150 := eq_true p150
        replace q150 := eq_true q150
        refine start_ (n := 7) (S := fun w' => w'.cell? ⟨gb147, 0, none⟩ = some (.int .i64 a0_0) ∧ w'.cell? ⟨gb147, 1, none⟩ = some (.slice A0_1 l0_1.length c0_1) ∧ w'.cell? (ad150.add (x7_1).toNat) = some (.int .i64 (rd l2 x7_1))) (ds := []) (ar 0 7) (by kernel_rfl) rfl rfl ⟨(blk_cell BK147.out 0).trans rfl, (blk_cell BK147.out 1).trans rfl, ((HB.out.cell (World.block_lt_of_cell? w _ hw150_0)).trans hw150_0)⟩ (fun hHeld => ?_)
        generalize wr.drew = w17 at BK147 HB hx150_0 hHeld ⊢
        refine pure_ (i := 1) (N := some 22) (v := ?_) (a' := ?_) #[O,U,O,O,O,O,O] rfl rfl (by kernel_rfl) (fun _ _ _ h => h) (Or.inl ⟨by rfl, ?_⟩) ?_ ?_; rotate_left; (intro w'; go_simp; with_reducible rfl); rotate_left; · simp only [nm_]; rfl
        refine pure_ (i := 2) (N := some 23) (v := ?_) (a' := ?_) #[O,U,U,O,O,O,O] rfl rfl (by kernel_rfl) (fun _ _ _ h => h) (Or.inl ⟨by rfl, ?_⟩) ?_ ?_; rotate_left; (intro w'; go_simp; with_reducible rfl); rotate_left; · simp only [nm_]; rfl
        refine pure_ (i := 3) (N := some 24) (v := ?_) (a' := ?_) #[O,U,U,U,O,O,O] rfl rfl (by kernel_rfl) (fun _ _ _ h => h) (Or.inl ⟨by rfl, ?_⟩) ?_ ?_; rotate_left; (intro w'; go_simp; with_reducible rfl); rotate_left; · simp only [nm_]; rfl
        refine take_ (i := 0) (N := some 21) (v := ?_) (a' := ?_) (ar 4 3) rfl rfl (by kernel_rfl) (fun _ _ _ h => h) (Or.inl ⟨by rfl, ?_⟩) hHeld ?_ ?_
        rotate_left; · rintro w' ⟨s0, s1, s2⟩; go_simp; with_reducible rfl
        rotate_left; · simp only [nm_]; rfl
        refine take_ (i := 4) (N := some 25) (v := ?_) (a' := ?_) (ar 5 2) rfl rfl (by kernel_rfl) (fun _ _ _ h => h) (Or.inl ⟨by rfl, ?_⟩) hHeld ?_ ?_
        rotate_left; · rintro w' ⟨s0, s1, s2⟩; go_simp; with_reducible rfl
        rotate_left; · simp only [nm_]; rfl
        refine one_ (i := 5) (N := some 26) (ar 6 1) rfl rfl (by kernel_rfl) (by decide) (fun K hK => ?_)
        refine goes_ Try.func107 (by kernel_rfl) rfl #[.agg #[.int .i64 a0_0, .slice A0_1 l0_1.length c0_1], .int .i64 (rd l2 x7_1)] (by rfl) rfl rfl (by (try simp only [List.map_toArray, List.map_cons, List.map_nil]); first | done | rfl | (simp only [List.length_drop, List.length_take]; rfl)) ?_
        with_reducible refine (spec_l01Has.calls k1 a0_0 _ _ l0_1 (rd l2 x7_1) true _ ?side1 ?side2 A15.out).mono ?_
        (case side1 => repeat (first | exact (Kd.C_below HR0_1.out HB.out) | (with_reducible refine Kd.C_alloc ?_ _) | (with_reducible refine Kd.C_drewN ?_ _) | (with_reducible refine Kd.C_drew ?_)))
        (case side2 => exact HC0_1.out)
        rintro e w18 ⟨rfl, hb⟩
        refine ⟨_, rfl, ?_⟩
        have n0_ := Aside0.mk (blk_below (g := gb147) (o := .cells #[.int .i64 a0_0, .slice A0_1 l0_1.length c0_1] 30 (0, 0)) (by (with_reducible repeat (first | refine blk_drewN ?_ _ | refine blk_drew ?_ | refine blk_alloc ?_ _)); exact BK147.out) hb)
        have n1_ := Aside0.mk (below_step (by repeat (first | (with_reducible first | exact HB.out | apply below_alloc | apply pw_below_drewN | apply below_drew1 | refine below_set ?_ GE147.out) | exact HB.out)) hb)
        clear BK147
        clear HB
        have BK147 := n0_
        have HB := n1_
        clear n0_ n1_
        (try clear hb)
        (try clear hb2)
        (try clear hk)
        (try clear hi)
        refine hK.out _ _ ⟨(blk_cell BK147.out 0).trans rfl, (blk_cell BK147.out 1).trans rfl, ((HB.out.cell (World.block_lt_of_cell? w _ hw150_0)).trans hw150_0)⟩ (fun hHeld => ?_)
        clear hK K
        refine norm_ (a' := ?_) ?_ ?_
        rotate_left
        ·show Act.put _ (some 26) _ = _
         simp only [nm_]
         rfl
        refine pure_ (i := 6) (N := some 27) (v := ?_) (a' := ?_) (ar 7 0) rfl rfl (by kernel_rfl) (fun _ _ _ h => h) (Or.inl ⟨by rfl, ?_⟩) ?_ ?_; rotate_left; (intro w'; go_simp; with_reducible rfl); rotate_left; · simp only [nm_]; rfl
        refine done_ (by kernel_rfl) ?_
        try go_wp2
        go_roundg k1
        case measure => have := HK1.out; omega
        case rel => exact ⟨(wrap64 (x7_1 + 1)), (by first | rfl | (simp; done) | (simp [*]; done)), H', ⟨by have := HK1.out; omega⟩, ⟨by (with_reducible repeat (first | refine blk_drewN ?_ _ | refine blk_drew ?_ | refine blk_alloc ?_ _)); exact BK147.out⟩, ⟨by repeat (first | (with_reducible first | exact HB.out | apply below_alloc | apply pw_below_drewN | apply below_drew1 | refine below_set ?_ GE147.out) | exact HB.out)⟩⟩
       ·replace c16 := Bool.eq_false_iff.mpr c16
        subst c16
        have H1 : (some 2) = some r := by rw [if_neg (show ¬ (false = true) by decide)] at H; exact H
        clear H
        have H := H1
        clear H1
        obtain rfl := Option.some.inj H
        try go_wp2
        have n0_ := Aside0.mk (blk_drew BK147.out)
        have n1_ := Aside0.mk (below_drew1 HB.out)
        clear BK147
        clear HB
        have BK147 := n0_
        have HB := n1_
        clear n0_ n1_
        have p150 : 0 ≤ (x7_1 : Int) := of_decide_eq_true (by first | (with_reducible assumption) | assumption)
        have q150 : x7_1 < (l2.length : Int) := of_decide_eq_true (by first | (with_reducible assumption) | assumption)
        obtain ⟨ad150, e150, hx150_0⟩ := Kd.at_int HR2.out x7_1 p150 q150
        have hw150_0 := hx150_0
        cases e150
        replace hx150_0 := (HB.out.cell (World.block_lt_of_cell? w _ hx150_0)).trans hx150_0
        replace p150 := eq_true p150
        replace q150 := eq_true q150
        refine start_ (n := 7) (S := fun w' => w'.cell? ⟨gb147, 0, none⟩ = some (.int .i64 a0_0) ∧ w'.cell? ⟨gb147, 1, none⟩ = some (.slice A0_1 l0_1.length c0_1) ∧ w'.cell? (ad150.add (x7_1).toNat) = some (.int .i64 (rd l2 x7_1))) (ds := []) (ar 0 7) (by kernel_rfl) rfl rfl ⟨(blk_cell BK147.out 0).trans rfl, (blk_cell BK147.out 1).trans rfl, ((HB.out.cell (World.block_lt_of_cell? w _ hw150_0)).trans hw150_0)⟩ (fun hHeld => ?_)
        generalize wr.drew = w19 at BK147 HB hx150_0 hHeld ⊢
        refine pure_ (i := 1) (N := some 22) (v := ?_) (a' := ?_) #[O,U,O,O,O,O,O] rfl rfl (by kernel_rfl) (fun _ _ _ h => h) (Or.inl ⟨by rfl, ?_⟩) ?_ ?_; rotate_left; (intro w'; go_simp; with_reducible rfl); rotate_left; · simp only [nm_]; rfl
        refine pure_ (i := 2) (N := some 23) (v := ?_) (a' := ?_) #[O,U,U,O,O,O,O] rfl rfl (by kernel_rfl) (fun _ _ _ h => h) (Or.inl ⟨by rfl, ?_⟩) ?_ ?_; rotate_left; (intro w'; go_simp; with_reducible rfl); rotate_left; · simp only [nm_]; rfl
        refine pure_ (i := 3) (N := some 24) (v := ?_) (a' := ?_) #[O,U,U,U,O,O,O] rfl rfl (by kernel_rfl) (fun _ _ _ h => h) (Or.inl ⟨by rfl, ?_⟩) ?_ ?_; rotate_left; (intro w'; go_simp; with_reducible rfl); rotate_left; · simp only [nm_]; rfl
        refine take_ (i := 0) (N := some 21) (v := ?_) (a' := ?_) (ar 4 3) rfl rfl (by kernel_rfl) (fun _ _ _ h => h) (Or.inl ⟨by rfl, ?_⟩) hHeld ?_ ?_
        rotate_left; · rintro w' ⟨s0, s1, s2⟩; go_simp; with_reducible rfl
        rotate_left; · simp only [nm_]; rfl
        refine take_ (i := 4) (N := some 25) (v := ?_) (a' := ?_) (ar 5 2) rfl rfl (by kernel_rfl) (fun _ _ _ h => h) (Or.inl ⟨by rfl, ?_⟩) hHeld ?_ ?_
        rotate_left; · rintro w' ⟨s0, s1, s2⟩; go_simp; with_reducible rfl
        rotate_left; · simp only [nm_]; rfl
        refine one_ (i := 5) (N := some 26) (ar 6 1) rfl rfl (by kernel_rfl) (by decide) (fun K hK => ?_)
        refine goes_ Try.func107 (by kernel_rfl) rfl #[.agg #[.int .i64 a0_0, .slice A0_1 l0_1.length c0_1], .int .i64 (rd l2 x7_1)] (by rfl) rfl rfl (by (try simp only [List.map_toArray, List.map_cons, List.map_nil]); first | done | rfl | (simp only [List.length_drop, List.length_take]; rfl)) ?_
        with_reducible refine (spec_l01Has.calls k1 a0_0 _ _ l0_1 (rd l2 x7_1) false _ ?side1 ?side2 A15.out).mono ?_
        (case side1 => repeat (first | exact (Kd.C_below HR0_1.out HB.out) | (with_reducible refine Kd.C_alloc ?_ _) | (with_reducible refine Kd.C_drewN ?_ _) | (with_reducible refine Kd.C_drew ?_)))
        (case side2 => exact HC0_1.out)
        rintro e w20 ⟨rfl, hb⟩
        refine ⟨_, rfl, ?_⟩
        have n0_ := Aside0.mk (blk_below (g := gb147) (o := .cells #[.int .i64 a0_0, .slice A0_1 l0_1.length c0_1] 30 (0, 0)) (by (with_reducible repeat (first | refine blk_drewN ?_ _ | refine blk_drew ?_ | refine blk_alloc ?_ _)); exact BK147.out) hb)
        have n1_ := Aside0.mk (below_step (by repeat (first | (with_reducible first | exact HB.out | apply below_alloc | apply pw_below_drewN | apply below_drew1 | refine below_set ?_ GE147.out) | exact HB.out)) hb)
        clear BK147
        clear HB
        have BK147 := n0_
        have HB := n1_
        clear n0_ n1_
        (try clear hb)
        (try clear hb2)
        (try clear hk)
        (try clear hi)
        refine hK.out _ _ ⟨(blk_cell BK147.out 0).trans rfl, (blk_cell BK147.out 1).trans rfl, ((HB.out.cell (World.block_lt_of_cell? w _ hw150_0)).trans hw150_0)⟩ (fun hHeld => ?_)
        clear hK K
        refine norm_ (a' := ?_) ?_ ?_
        rotate_left
        ·show Act.put _ (some 26) _ = _
         simp only [nm_]
         rfl
        refine pure_ (i := 6) (N := some 27) (v := ?_) (a' := ?_) (ar 7 0) rfl rfl (by kernel_rfl) (fun _ _ _ h => h) (Or.inl ⟨by rfl, ?_⟩) ?_ ?_; rotate_left; (intro w'; go_simp; with_reducible rfl); rotate_left; · simp only [nm_]; rfl
        refine done_ (by kernel_rfl) ?_
        try go_wp2
        go_ret
        exact ⟨by first | rfl | (simp [errW_none, errW_some] <;> rfl) | (simp [*, errW_none, errW_some] <;> rfl), by repeat (first | (with_reducible first | exact HB.out | apply below_alloc | apply pw_below_drewN | apply below_drew1 | refine below_set ?_ GE147.out) | exact HB.out)⟩
      ·rw [if_neg c14] at H
       exact absurd H (by simp)
     ·rw [if_neg c13] at H
      have c13b0 : decide (x7_1 < (l2.length : Int)) = false := decide_eq_false c13
      clear c13
      obtain rfl := Option.some.inj H
      go_wp2
      go_ret
      exact ⟨by first | rfl | (simp [errW_none, errW_some] <;> rfl) | (simp [*, errW_none, errW_some] <;> rfl), by repeat (first | (with_reducible first | exact HB.out | apply below_alloc | apply pw_below_drewN | apply below_drew1 | refine below_set ?_ GE147.out) | exact HB.out)⟩
  ·replace c7 := Bool.eq_false_iff.mpr c7
   subst c7
   have H1 : (some 2) = some r := by rw [if_neg (show ¬ (false = true) by decide)] at H; exact H
   clear H
   have H := H1
   clear H1
   obtain rfl := Option.some.inj H
   go_enter Try.func66, Try.ntmps66
   go_wp2_with (first | ((with_reducible refine gate_dst (N := 3) rfl ?_); refine box_event ?hg (N := 3) ?hd (cs := #[.int .i64 a0_0, .slice A0_1 l0_1.length c0_1]) (t := 30) ?hr ?_; (case hd => rfl); (case hg => rfl); (case hr => first | (go_simp; done) | (go_simp; rfl)); intro gb147 hg w21 hbox hb; have n0_ := Aside0.mk (below_step (by repeat (first | (with_reducible first | exact HB.out | apply below_alloc | apply pw_below_drewN | apply below_drew1) | exact HB.out)) hb); have n1_ := Aside0.mk (hbox); have n2_ := Aside0.mk ((by rw [hg]; exact (below_size (by repeat (first | (with_reducible first | exact HB.out | apply below_alloc | apply pw_below_drewN | apply below_drew1) | exact HB.out))) : w.heap.size ≤ gb147)); have n3_ := Aside0.mk ((by rw [hg]; exact (below_size (by repeat (first | (with_reducible first | exact HB.out | apply below_alloc | apply pw_below_drewN | apply below_drew1) | exact HB.out))) : w.heap.size ≤ gb147)); clear HB; have HB := n0_; have BK147 := n1_; have GW147 := n2_; have GE147 := n3_; clear n0_ n1_ n2_ n3_; clear hb hbox hg; have hcz22_0 : w21.cell? ⟨gb147, 0, none⟩ = some (.int .i64 a0_0) := (blk_cell BK147.out 0).trans rfl; have hcz22_1 : w21.cell? ⟨gb147, 1, none⟩ = some (.slice A0_1 l0_1.length c0_1) := (blk_cell BK147.out 1).trans rfl; have hfz22_0 := blk_frozen BK147.out 0; have hfz22_1 := blk_frozen BK147.out 1) | ((with_reducible refine gate_callee (f := 60) rfl ?_); refine goesL_ (some 9) rfl rfl Try.func60 (by kernel_rfl) rfl #[.agg #[.int .i64 a0_0, .slice A0_1 l0_1.length c0_1]] rfl (by (try simp only [List.map_toArray, List.map_cons, List.map_nil]); first | done | rfl | (simp only [List.length_drop, List.length_take]; rfl)) ?_; (with_reducible refine (spec_l01Is.calls k a0_0 _ _ l0_1 true _ ?side1 ?side2 A4.out).mono ?_); (case side1 => repeat (first | exact (Kd.C_below HR0_1.out HB.out) | (with_reducible refine Kd.C_alloc ?_ _) | (with_reducible refine Kd.C_drewN ?_ _) | (with_reducible refine Kd.C_drew ?_))); (case side2 => exact HC0_1.out); rintro e w23 ⟨rfl, hb⟩; refine ⟨_, rfl, ?_⟩; have n0_ := Aside0.mk (blk_below (g := gb147) (o := .cells #[.int .i64 a0_0, .slice A0_1 l0_1.length c0_1] 30 (0, 0)) (by (with_reducible repeat (first | refine blk_drewN ?_ _ | refine blk_drew ?_ | refine blk_alloc ?_ _)); exact BK147.out) hb); have n1_ := Aside0.mk (below_step (by repeat (first | (with_reducible first | exact HB.out | apply below_alloc | apply pw_below_drewN | apply below_drew1 | refine below_set ?_ GE147.out) | exact HB.out)) hb); clear BK147; clear HB; have BK147 := n0_; have HB := n1_; clear n0_ n1_; (try clear hb); (try clear hb2); (try clear hk); (try clear hi); have hcz24_0 : w23.cell? ⟨gb147, 0, none⟩ = some (.int .i64 a0_0) := (blk_cell BK147.out 0).trans rfl; have hcz24_1 : w23.cell? ⟨gb147, 1, none⟩ = some (.slice A0_1 l0_1.length c0_1) := (blk_cell BK147.out 1).trans rfl; have hfz24_0 := blk_frozen BK147.out 0; have hfz24_1 := blk_frozen BK147.out 1) | ((with_reducible refine gate_callee (f := 61) rfl ?_); refine goesL_ (some 13) rfl rfl Try.func61 (by kernel_rfl) rfl #[.agg #[.int .i64 a0_0, .slice A0_1 l0_1.length c0_1], .slice A1 l1.length c1] rfl (by (try simp only [List.map_toArray, List.map_cons, List.map_nil]); first | done | rfl | (simp only [List.length_drop, List.length_take]; rfl)) ?_; (with_reducible refine (spec_l02Is.calls k a0_0 _ _ l0_1 _ _ l1 false _ ?side1 ?side2 ?side3 ?side4 A6.out).mono ?_); (case side1 => repeat (first | exact (Kd.C_below HR0_1.out HB.out) | (with_reducible refine Kd.C_alloc ?_ _) | (with_reducible refine Kd.C_drewN ?_ _) | (with_reducible refine Kd.C_drew ?_))); (case side2 => exact HC0_1.out); (case side3 => repeat (first | exact (Kd.C_below HR1.out HB.out) | (with_reducible refine Kd.C_alloc ?_ _) | (with_reducible refine Kd.C_drewN ?_ _) | (with_reducible refine Kd.C_drew ?_))); (case side4 => exact HC1.out); rintro e w25 ⟨rfl, hb⟩; refine ⟨_, rfl, ?_⟩; have n0_ := Aside0.mk (blk_below (g := gb147) (o := .cells #[.int .i64 a0_0, .slice A0_1 l0_1.length c0_1] 30 (0, 0)) (by (with_reducible repeat (first | refine blk_drewN ?_ _ | refine blk_drew ?_ | refine blk_alloc ?_ _)); exact BK147.out) hb); have n1_ := Aside0.mk (below_step (by repeat (first | (with_reducible first | exact HB.out | apply below_alloc | apply pw_below_drewN | apply below_drew1 | refine below_set ?_ GE147.out) | exact HB.out)) hb); clear BK147; clear HB; have BK147 := n0_; have HB := n1_; clear n0_ n1_; (try clear hb); (try clear hb2); (try clear hk); (try clear hi)))
   go_ret
   exact ⟨by first | rfl | (simp [errW_none, errW_some] <;> rfl) | (simp [*, errW_none, errW_some] <;> rfl), by repeat (first | (with_reducible first | exact HB.out | apply below_alloc | apply pw_below_drewN | apply below_drew1 | refine below_set ?_ GE147.out) | exact HB.out)⟩
 ·replace c5 := Bool.eq_false_iff.mpr c5
  subst c5
  have H1 : (some 1) = some r := by rw [if_neg (show ¬ (false = true) by decide)] at H; exact H
  clear H
  have H := H1
  clear H1
  obtain rfl := Option.some.inj H
  go_enter Try.func66, Try.ntmps66
  go_wp2_with (first | ((with_reducible refine gate_dst (N := 3) rfl ?_); refine box_event ?hg (N := 3) ?hd (cs := #[.int .i64 a0_0, .slice A0_1 l0_1.length c0_1]) (t := 30) ?hr ?_; (case hd => rfl); (case hg => rfl); (case hr => first | (go_simp; done) | (go_simp; rfl)); intro gb147 hg w26 hbox hb; have n0_ := Aside0.mk (below_step (by repeat (first | (with_reducible first | exact HB.out | apply below_alloc | apply pw_below_drewN | apply below_drew1) | exact HB.out)) hb); have n1_ := Aside0.mk (hbox); have n2_ := Aside0.mk ((by rw [hg]; exact (below_size (by repeat (first | (with_reducible first | exact HB.out | apply below_alloc | apply pw_below_drewN | apply below_drew1) | exact HB.out))) : w.heap.size ≤ gb147)); have n3_ := Aside0.mk ((by rw [hg]; exact (below_size (by repeat (first | (with_reducible first | exact HB.out | apply below_alloc | apply pw_below_drewN | apply below_drew1) | exact HB.out))) : w.heap.size ≤ gb147)); clear HB; have HB := n0_; have BK147 := n1_; have GW147 := n2_; have GE147 := n3_; clear n0_ n1_ n2_ n3_; clear hb hbox hg; have hcz27_0 : w26.cell? ⟨gb147, 0, none⟩ = some (.int .i64 a0_0) := (blk_cell BK147.out 0).trans rfl; have hcz27_1 : w26.cell? ⟨gb147, 1, none⟩ = some (.slice A0_1 l0_1.length c0_1) := (blk_cell BK147.out 1).trans rfl; have hfz27_0 := blk_frozen BK147.out 0; have hfz27_1 := blk_frozen BK147.out 1) | ((with_reducible refine gate_callee (f := 60) rfl ?_); refine goesL_ (some 9) rfl rfl Try.func60 (by kernel_rfl) rfl #[.agg #[.int .i64 a0_0, .slice A0_1 l0_1.length c0_1]] rfl (by (try simp only [List.map_toArray, List.map_cons, List.map_nil]); first | done | rfl | (simp only [List.length_drop, List.length_take]; rfl)) ?_; (with_reducible refine (spec_l01Is.calls k a0_0 _ _ l0_1 false _ ?side1 ?side2 A4.out).mono ?_); (case side1 => repeat (first | exact (Kd.C_below HR0_1.out HB.out) | (with_reducible refine Kd.C_alloc ?_ _) | (with_reducible refine Kd.C_drewN ?_ _) | (with_reducible refine Kd.C_drew ?_))); (case side2 => exact HC0_1.out); rintro e w28 ⟨rfl, hb⟩; refine ⟨_, rfl, ?_⟩; have n0_ := Aside0.mk (blk_below (g := gb147) (o := .cells #[.int .i64 a0_0, .slice A0_1 l0_1.length c0_1] 30 (0, 0)) (by (with_reducible repeat (first | refine blk_drewN ?_ _ | refine blk_drew ?_ | refine blk_alloc ?_ _)); exact BK147.out) hb); have n1_ := Aside0.mk (below_step (by repeat (first | (with_reducible first | exact HB.out | apply below_alloc | apply pw_below_drewN | apply below_drew1 | refine below_set ?_ GE147.out) | exact HB.out)) hb); clear BK147; clear HB; have BK147 := n0_; have HB := n1_; clear n0_ n1_; (try clear hb); (try clear hb2); (try clear hk); (try clear hi)))
  go_ret
  exact ⟨by first | rfl | (simp [errW_none, errW_some] <;> rfl) | (simp [*, errW_none, errW_some] <;> rfl), by repeat (first | (with_reducible first | exact HB.out | apply below_alloc | apply pw_below_drewN | apply below_drew1 | refine below_set ?_ GE147.out) | exact HB.out)⟩

end Go.Proofs.Ytniikppojffiaaa.Q
end

section
/- The reference's pairings come to what the program's come to. -/
namespace Go.Proofs.Ytniikppojffiaaa.K
open Go.RowKit Go.Shelf Go.Proofs.Ytniikppojffiaaa.Q Go.Proofs.YtniikppojffiaaaW.PrintWords Go.Proofs.YtniikppojffiaaaW.PrintLast Go.Proofs.YtniikppojffiaaaW.PrintMore
set_option linter.unusedVariables false
set_option linter.unusedSimpArgs false

theorem rdP (q : List PairT) (i : Nat) (h : i < q.length) : rd_T53 q (i : Int) = q[i] := by simp [rd_T53, h]
theorem specPair_is {n : Int} {l : List Int} (hi : isC n l = true) (x y : Int) (k : Nat) (hk : l.length + 8 < k) : spec_l02Pair.f k n l x y = some (pairK l ⟨x, y⟩) := by
 obtain ⟨hn, hs, hr, h63⟩ := isC_faces hi
 have hh : ∀ f, hasB l f = decide (f ∈ l) := fun f => has_asc l f (by omega) hs
 unfold spec_l02Pair.f pairK
 rw [specHas_is n x l (by omega) k (by omega), ← hh x]
 simp only [Option.bind_some]
 cases h1 : hasB l x with
 | false => simp
 | true =>
  rw [if_pos rfl, specHas_is n y l (by omega) k (by omega), ← hh y]
  simp only [Option.bind_some]
  cases h2 : hasB l y with
  | false => simp
  | true =>
   have hx := has_mem hi h1
   have hy := has_mem hi h2
   rw [if_pos rfl, inB_is x y (by omega) (by omega)]
   by_cases h3 : Go.bits .and .i64 x y = x
   ·rw [if_pos h3, specOnes_is y (by omega) (by omega) k (by omega), specOnes_is x (by omega) (by omega) k (by omega)]
    simp only [Option.bind_some]
    have := ones_le x
    have hw : wrap64 (onesI x + 1) = onesI x + 1 := by unfold wrap64; omega
    rw [hw, decide_eq_true h3]
    rfl
   ·rw [if_neg h3, decide_eq_false h3]
    rfl
theorem specLess_is (a b c d : Int) : spec_l02Less.f a b c d = some (decide (cmp2 a b c d < 0)) := by
 unfold spec_l02Less.f cmp2 cmp1
 by_cases h1 : a < c
 ·simp [h1]
 ·by_cases h2 : a = c
  ·subst h2
   by_cases h3 : b < d
   ·simp [h3]
   ·by_cases h4 : d < b <;> simp [h3, h4]
  ·have h3 : c < a := by omega
   simp [h1, h2, h3]
/-- Two pairs share a number. -/
def clash (p r : PairT) : Bool := p.f0 == r.f0 || p.f0 == r.f1 || p.f1 == r.f0 || p.f1 == r.f1
theorem seen_clash (q : List PairT) (i : Nat) (p : PairT) : (!seenB q i p.f0 && !seenB q i p.f1) = (q.take i).all fun r => !clash p r := by
 unfold seenB
 generalize q.take i = L
 induction L with
 | nil => rfl
 | cons r L ih =>
  rw [List.any_cons, List.any_cons, List.all_cons, ← ih]
  unfold clash
  have e1 : (r.f0 == p.f0) = (p.f0 == r.f0) := BEq.comm
  have e2 : (r.f1 == p.f0) = (p.f0 == r.f1) := BEq.comm
  have e3 : (r.f0 == p.f1) = (p.f1 == r.f0) := BEq.comm
  have e4 : (r.f1 == p.f1) = (p.f1 == r.f1) := BEq.comm
  rw [e1, e2, e3, e4]
  generalize L.any (fun r => r.f0 == p.f0 || r.f1 == p.f0) = a
  generalize L.any (fun r => r.f0 == p.f1 || r.f1 == p.f1) = b
  cases (p.f0 == r.f0) <;> cases (p.f0 == r.f1) <;> cases (p.f1 == r.f0) <;> cases (p.f1 == r.f1) <;> cases a <;> cases b <;> rfl
theorem specIs02_l1 (n : Int) (l : List Int) (q : List PairT) (hq : q.length ≤ 2097152) (i : Nat) (hi : i < q.length) : ∀ (e j k : Nat), i - j = e → j ≤ i → e < k →
  spec_l02Is.l1 k q (i : Int) (j : Int) n l = if ((q.take i).drop j).all (fun r => !clash q[i] r) then spec_l02Is.l0 (k - (e + 1)) q ((i + 1 : Nat) : Int) n l else some false := by
 intro e
 induction e with
 | zero =>
  intro j k he hj hk
  obtain ⟨k, rfl⟩ : ∃ m, k = m + 1 := ⟨k - 1, by omega⟩
  obtain rfl : j = i := by omega
  simp only [spec_l02Is.l1]
  rw [if_neg (by omega), w64 ((j : Int) + 1) (by omega) (by omega), nat_succ, List.drop_eq_nil_of_le (by rw [List.length_take]; omega)]
  simp
 | succ e ih =>
  intro j k he hj hk
  obtain ⟨k, rfl⟩ : ∃ m, k = m + 1 := ⟨k - 1, by omega⟩
  have hji : j < i := by omega
  have hjl : j < (q.take i).length := by rw [List.length_take]; omega
  simp only [spec_l02Is.l1]
  rw [if_pos (by omega), if_pos (by omega), if_pos (by omega), if_pos (by omega), if_pos (by omega), rdP q i hi, rdP q j (by omega), w64 ((j : Int) + 1) (by omega) (by omega), nat_succ, ih (j + 1) k (by omega) (by omega) (by omega), List.drop_eq_getElem_cons hjl, List.getElem_take, List.all_cons]
  have hkk : k + 1 - (e + 1 + 1) = k - (e + 1) := by omega
  rw [hkk]
  unfold clash
  by_cases h1 : q[i].f0 = q[j].f0
  ·simp [h1]
  ·by_cases h2 : q[i].f0 = q[j].f1
   ·simp [h1, h2]
   ·by_cases h3 : q[i].f1 = q[j].f0
    ·simp [h1, h2, h3]
    ·by_cases h4 : q[i].f1 = q[j].f1
     ·simp [h1, h2, h3, h4]
     ·have e1 : (q[i].f0 == q[j].f0) = false := by simpa using h1
      have e2 : (q[i].f0 == q[j].f1) = false := by simpa using h2
      have e3 : (q[i].f1 == q[j].f0) = false := by simpa using h3
      have e4 : (q[i].f1 == q[j].f1) = false := by simpa using h4
      rw [if_neg h1, if_neg h2, if_neg h3, if_neg h4, e1, e2, e3, e4]
      rfl
theorem specIs02_l0 {n : Int} {l : List Int} (hC : isC n l = true) (q : List PairT) (hq : q.length ≤ 2097152) : ∀ (e i k : Nat), q.length - i = e → i ≤ q.length → e * (q.length + 5) + l.length + 12 < k →
  spec_l02Is.l0 k q (i : Int) n l = some (((List.range q.length).drop i).all (okAt l q)) := by
 intro e
 induction e with
 | zero =>
  intro i k he hi hk
  obtain ⟨k, rfl⟩ : ∃ m, k = m + 1 := ⟨k - 1, by omega⟩
  obtain rfl : i = q.length := by omega
  simp only [spec_l02Is.l0]
  rw [if_neg (by omega), List.drop_eq_nil_of_le (by simp)]
  rfl
 | succ e ih =>
  intro i k he hi hk
  rw [Nat.succ_mul] at hk
  generalize hM : e * (q.length + 5) = M at hk ih
  obtain ⟨k, rfl⟩ : ∃ m, k = m + 1 := ⟨k - 1, by omega⟩
  have hil : i < q.length := by omega
  have hrl : i < (List.range q.length).length := by rw [List.length_range]; exact hil
  rw [List.drop_eq_getElem_cons hrl, List.getElem_range, List.all_cons, okAt_eq l q i hil]
  have hsc := seen_clash q i q[i]
  have hfin : ∀ k', e * (q.length + 5) + l.length + 12 < k' → spec_l02Is.l0 k' q ((i + 1 : Nat) : Int) n l = some (((List.range q.length).drop (i + 1)).all (okAt l q)) := fun k' hk' => ih (i + 1) k' (by omega) (by omega) (by omega)
  simp only [spec_l02Is.l0]
  rw [if_pos (by omega), if_pos (by omega), rdP q i hil, specPair_is hC _ _ k (by omega)]
  simp only [Option.bind_some]
  cases hp : pairK l q[i] with
  | false =>
   rw [if_neg (by simp)]
   obtain ⟨k, rfl⟩ : ∃ m, k = m + 1 := ⟨k - 1, by omega⟩
   simp only [spec_l02Is.j1]
   simp
  | true =>
   rw [if_pos rfl]
   have hrest : ∀ k' : Nat, M + q.length + l.length + 14 < k' → spec_l02Is.l1 k' q (i : Int) 0 n l = some ((!seenB q i q[i].f0 && !seenB q i q[i].f1) && ((List.range q.length).drop (i + 1)).all (okAt l q)) := fun k' hk' => by
    have h1 := specIs02_l1 n l q hq i hil i 0 k' (by omega) (by omega) (by omega)
    rw [show ((0 : Nat) : Int) = 0 from rfl, List.drop_zero, ← hsc] at h1
    rw [h1]
    cases hs : (!seenB q i q[i].f0 && !seenB q i q[i].f1) with
    | false => simp
    | true => rw [if_pos rfl, hfin _ (by omega)]; simp
   by_cases h0 : i = 0
   ·subst h0
    rw [if_neg (by omega)]
    obtain ⟨k, rfl⟩ : ∃ m, k = m + 1 := ⟨k - 1, by omega⟩
    simp only [spec_l02Is.j1]
    have h9 := hrest k (by omega)
    rw [show ((0 : Nat) : Int) = 0 from rfl] at h9
    rw [if_neg (by simp), show ((0 : Nat) : Int) = 0 from rfl, h9]
    simp
   ·have hw : wrap64 ((i : Int) - 1) = ((i - 1 : Nat) : Int) := by rw [w64 _ (by omega) (by omega)]; omega
    rw [if_pos (by omega), hw, if_pos (by omega), if_pos (by omega), rdP q (i - 1) (by omega), specLess_is]
    simp only [Option.bind_some]
    obtain ⟨k, rfl⟩ : ∃ m, k = m + 1 := ⟨k - 1, by omega⟩
    have hgd : q.getD (i - 1) z53 = q[i - 1]'(by omega) := by simp [show i - 1 < q.length by omega]
    have hi0 : (i == 0) = false := by simpa using h0
    rw [hgd, hi0]
    simp only [spec_l02Is.j1]
    cases hc : decide (cmp2 (q[i - 1]'(by omega)).f0 (q[i - 1]'(by omega)).f1 q[i].f0 q[i].f1 < 0) with
    | false => simp
    | true =>
     rw [if_neg (by simp), hrest k (by omega)]
     simp
def pgK (l : List Int) (q : List PairT) : Nat := q.length * (q.length + 5) + l.length + 13
theorem specIs02_is {n : Int} {l : List Int} (hC : isC n l = true) (q : List PairT) (hq : q.length ≤ 2097152) (k : Nat) (hk : pgK l q ≤ k) : spec_l02Is.f k n l q = some (pingB l q) := by
 unfold spec_l02Is.f
 have := specIs02_l0 hC q hq q.length 0 k (by omega) (by omega) (by unfold pgK at hk; omega)
 rw [show ((0 : Nat) : Int) = 0 from rfl, List.drop_zero] at this
 exact this
theorem specCode02_loop {n : Int} {l : List Int} (hC : isC n l = true) (fs : List Int) (hf : fs.length ≤ 100) : ∀ (e i k : Nat), fs.length - i = e → i ≤ fs.length → e + l.length + 2 < k →
  spec_l02Code.l0 k fs (i : Int) n l = some (if (fs.drop i).all (hasB l) then 0 else 2) := by
 obtain ⟨hn, hs, hr, h63⟩ := isC_faces hC
 intro e
 induction e with
 | zero =>
  intro i k he hi hk
  obtain ⟨k, rfl⟩ : ∃ m, k = m + 1 := ⟨k - 1, by omega⟩
  obtain rfl : i = fs.length := by omega
  simp only [spec_l02Code.l0]
  rw [if_neg (by omega), List.drop_eq_nil_of_le (by omega)]
  simp
 | succ e ih =>
  intro i k he hi hk
  obtain ⟨k, rfl⟩ : ∃ m, k = m + 1 := ⟨k - 1, by omega⟩
  have hil : i < fs.length := by omega
  simp only [spec_l02Code.l0]
  rw [if_pos (by omega), if_pos (by omega), rd_nat fs i hil, specHas_is n _ l (by omega) k (by omega), ← has_asc l fs[i] (by omega) hs]
  simp only [Option.bind_some]
  rw [w64 ((i : Int) + 1) (by omega) (by omega), nat_succ, List.drop_eq_getElem_cons hil, List.all_cons]
  cases h : hasB l fs[i] with
  | false => simp
  | true => rw [if_pos rfl, ih (i + 1) k (by omega) (by omega) (by omega), Bool.true_and]
theorem specCode02_is (n : Int) (l : List Int) (q : List PairT) (fs : List Int) (hf : fs.length ≤ 100) (hl : l.length ≤ 2097152) (hq : q.length ≤ 2097152) (k : Nat) (hk : isK l + pgK l q + 300 ≤ k) :
  spec_l02Code.f k n l q fs = some (codeOf n l (pingB l q && fs.all (hasB l))) := by
 unfold spec_l02Code.f
 rw [specIs_is n l hl k (by omega)]
 simp only [Option.bind_some]
 cases hi : isC n l with
 | false => simp [codeOf, hi]
 | true =>
  rw [if_pos rfl, specIs02_is hi q hq k (by omega)]
  simp only [Option.bind_some]
  cases hp : pingB l q with
  | false => simp [codeOf, hi]
  | true =>
   rw [if_pos rfl]
   have := specCode02_loop hi fs hf fs.length 0 k (by omega) (by omega) (by unfold pgK at hk; omega)
   rw [show ((0 : Nat) : Int) = 0 from rfl, List.drop_zero] at this
   rw [this]
   simp [codeOf, hi]

end Go.Proofs.Ytniikppojffiaaa.K
end

section
/- Sets of vertices as bits; a set in a face is a face. -/
namespace Go.Proofs.Ytniikppojffiaaa.K
open Go.RowKit Go.Shelf Go.Proofs.Ytniikppojffiaaa.Q Go.Proofs.YtniikppojffiaaaW.PrintWords Go.Proofs.YtniikppojffiaaaW.PrintLast Go.Proofs.YtniikppojffiaaaW.PrintMore
set_option linter.unusedVariables false
set_option linter.unusedSimpArgs false

theorem closed_mem {n : Int} {l : List Int} (hi : isC n l = true) (g : Int) (hg : g ∈ l) (h : Int) (hh : h ∈ bords g) : h ∈ l := by
  obtain ⟨hn, hs, hr, h63⟩ := isC_faces hi
  have h1 := ((isC_iff n l).1 hi).2.2 g hg
  unfold closedAt at h1
  rw [List.all_eq_true] at h1
  have h2 := h1 h hh
  rw [has_asc l h (by omega) hs] at h2
  exact of_decide_eq_true h2
end Go.Proofs.Ytniikppojffiaaa.K
end

section
/- Flat functions and lists of values, plain. -/
namespace Go.Proofs.Ytniikppojffiaaa.K
open Go.RowKit Go.Shelf Go.Proofs.Ytniikppojffiaaa.Q Go.Proofs.YtniikppojffiaaaW.PrintWords Go.Proofs.YtniikppojffiaaaW.PrintLast Go.Proofs.YtniikppojffiaaaW.PrintMore
set_option linter.unusedVariables false
set_option linter.unusedSimpArgs false

/-- The high face of the pair with a low face. -/
def highL : List PairT → Int → Int
  | [], _ => 0
  | p :: q, a => if p.f0 = a then p.f1 else highL q a
theorem high_cases : ∀ (q : List PairT) (a : Int), (highL q a = 0 ∧ ∀ p ∈ q, p.f0 ≠ a) ∨ ∃ p ∈ q, p.f0 = a ∧ p.f1 = highL q a
  | [], a => Or.inl ⟨rfl, fun p hp => absurd hp (by simp)⟩
  | p :: q, a => by
    unfold highL
    by_cases h : p.f0 = a
    · rw [if_pos h]
      exact Or.inr ⟨p, by simp, h, rfl⟩
    · rw [if_neg h]
      rcases high_cases q a with ⟨h1, h2⟩ | ⟨r, hr, h1, h2⟩
      · exact Or.inl ⟨h1, fun r hr => by
          rcases List.mem_cons.1 hr with e | hr
          · rw [e]; exact h
          · exact h2 r hr⟩
      · exact Or.inr ⟨r, by simp [hr], h1, h2⟩
/-- A number put to an ascending list. -/
def putL : List Int → Int → List Int
  | [], n => [n]
  | a :: L, n => if n < a then n :: a :: L else if n = a then a :: L else a :: putL L n
def putAll (L xs : List Int) : List Int := xs.foldl putL L
end Go.Proofs.Ytniikppojffiaaa.K
end

section
/- The faces to which gradient steps lead. -/
namespace Go.Proofs.Ytniikppojffiaaa.K
open Go.RowKit Go.Shelf Go.Proofs.Ytniikppojffiaaa.Q Go.Proofs.YtniikppojffiaaaW.PrintWords Go.Proofs.YtniikppojffiaaaW.PrintLast Go.Proofs.YtniikppojffiaaaW.PrintMore
set_option linter.unusedVariables false
set_option linter.unusedSimpArgs false

/-- The pairs of a pairing: faces. -/
structure GoodQ (q : List PairT) : Prop where
 len : q.length ≤ 63
 f0 : ∀ p ∈ q, 1 ≤ p.f0 ∧ p.f0 ≤ 63
 f1 : ∀ p ∈ q, 1 ≤ p.f1 ∧ p.f1 ≤ 63
/-- The faces to which steps lead. -/
def stepsL (q : List PairT) (a : Int) : List Int := if highL q a = 0 then [] else (bords (highL q a)).filter fun f => !(f == a)
theorem idx_high (a : Int) : ∀ (q : List PairT) (i : Nat) (hi : i < q.length), (q[i].f0 == a) = true → (∀ j (hj : j < i), ((q[j]'(by omega)).f0 == a) = false) → highL q a = q[i].f1
 | [], i, hi, _, _ => absurd hi (Nat.not_lt_zero _)
 | p :: q, 0, _, h, _ => by
  have h' : p.f0 = a := by simpa using h
  simp [highL, h']
 | p :: q, i + 1, hi, h, hn => by
  have h0 : ¬ p.f0 = a := by simpa using hn 0 (by omega)
  simp only [highL, if_neg h0, List.getElem_cons_succ]
  exact idx_high a q i (by simpa using hi) (by simpa using h) (fun j hj => by simpa using hn (j + 1) (by omega))
theorem idx_low (a : Int) (q : List PairT) (h : ∀ p ∈ q, ¬ p.f0 = a) : highL q a = 0 := by
 rcases high_cases q a with ⟨h1, _⟩ | ⟨p, hp, h1, _⟩
 ·exact h1
 ·exact absurd h1 (h p hp)
theorem idx_caseP {p : PairT → Bool} (l : List PairT) : (idx p l = -1 ∧ ∀ x ∈ l, p x = false) ∨ ∃ i : Nat, idx p l = i ∧ ∃ hi : i < l.length, p l[i] = true ∧ ∀ j (hj : j < i), p (l[j]'(by omega)) = false := by
 unfold idx
 cases hf : l.findIdx? p with
 | none =>
  rw [List.findIdx?_eq_none_iff] at hf
  exact .inl ⟨rfl, fun x hx => by simpa using hf x hx⟩
 | some i =>
  rw [List.findIdx?_eq_some_iff_getElem] at hf
  obtain ⟨hi, hp, hn⟩ := hf
  exact .inr ⟨i, rfl, hi, hp, fun j hj => by have := hn j hj; simpa using this⟩
theorem bords_in_64 : ∀ m : Fin 64, (bords (m.val : Int)).all (fun g => decide (1 ≤ g ∧ g ≤ 63)) = true := by decide +kernel
theorem bords_in (f : Int) (h0 : 0 ≤ f) (h1 : f ≤ 63) (g : Int) (hg : g ∈ bords f) : 1 ≤ g ∧ g ≤ 63 := by
 obtain ⟨m, rfl⟩ : ∃ m : Nat, f = (m : Int) := ⟨f.toNat, by omega⟩
 have h := List.all_eq_true.1 (bords_in_64 ⟨m, by omega⟩) g hg
 simpa using h
theorem steps_mem {q : List PairT} (hg : GoodQ q) {a x : Int} (h : x ∈ stepsL q a) : 1 ≤ x ∧ x ≤ 63 := by
 unfold stepsL at h
 split at h
 ·cases h
 ·rename_i hz
  rcases high_cases q a with ⟨h1, _⟩ | ⟨p, hp, _, h2⟩
  ·exact absurd h1 hz
  ·have := hg.f1 p hp
   rw [h2] at this
   exact (bords_in _ (by omega) this.2 x (List.mem_filter.1 h).1)
theorem steps_len {q : List PairT} (a : Int) : (stepsL q a).length ≤ 6 := by
 unfold stepsL
 split
 ·simp
 ·exact Nat.le_trans (List.length_filter_le _ _) (bords_length _)

set_option maxHeartbeats 1000000 in
theorem steps1_calls (x : PairT) (a : Int) (B : Nat) (w : World) (hb : w.cell? ⟨B, 0, none⟩ = some (I a)) :
  Calls Try.prog 155 #[.agg #[I x.f0, I x.f1], .pointer (some ⟨B, 0, none⟩)] w fun e w' => e = .returned (.bool (x.f0 == a)) ∧ Grew w w' := by
 have hlt := World.block_lt_of_cell? w _ hb
 have hg := Aside0.mk (below_alloc (Grew.refl w) (.cells #[I x.f0, I x.f1] 53))
 go_enter Try.func155, Try.ntmps155
 go_wp2_with fail
 go_ret
 exact ⟨rfl, hg.out⟩
set_option maxHeartbeats 1000000 in
theorem steps2_calls (f a : Int) (B : Nat) (w : World) (hb : w.cell? ⟨B, 0, none⟩ = some (I a)) :
  Calls Try.prog 156 #[I f, .pointer (some ⟨B, 0, none⟩)] w fun e w' => e = .returned (.bool (f == a)) ∧ Grew w w' := by
 go_enter Try.func156, Try.ntmps156
 go_wp2_with fail
 go_ret
 exact ⟨rfl, Grew.refl w⟩

set_option maxRecDepth 100000 in
set_option maxHeartbeats 4000000 in
theorem steps_calls (A2 : Option Addr) (c2 : Nat) {q : List PairT} (a : Int) (w : World) (hq : Kq.C w A2 q.length q) (hc2 : q.length ≤ c2) (hgq : GoodQ q) :
  Calls Try.prog 125 #[.slice A2 q.length c2, I a] w fun e w' => ∃ v, e = .returned v ∧ Ki.R 2 w' w.heap.size (fun _ => True) v (stepsL q a) ∧ Grew w w' := by
 have hg1 : Grew w (w.alloc (.cells #[I a] 2)) := below_alloc (Below.refl _ _) _
 have H := Aside0.mk (IndexFunc_pair (fun x => x.f0 == a) A2 c2 q 155 #[] #[.pointer (some ⟨w.heap.size, 0, none⟩)] (w.alloc (.cells #[I a] 2))
  (Kd.C_below hq hg1) hc2 hq.2.1 (enters_of Try.func155 (by kernel_rfl) rfl) (fun x hx W hW => steps1_calls x a w.heap.size W (blk_cell (blk_below (blk_new w _) hW) 0)))
 have HQ := Aside0.mk hq
 have HL := Aside0.mk hgq.len
 have HG1 := Aside0.mk hg1
 rcases idx_caseP (p := fun x : PairT => x.f0 == a) q with ⟨he, hn⟩ | ⟨i, he, hi, hp, hn⟩
 ·have HS : Aside0 (stepsL q a = []) := ⟨by
   unfold stepsL
   rw [if_pos (idx_low a q (fun p hp => by simpa using hn p hp))]⟩
  rw [he] at H
  rw [HS.out]
  clear hn hq hgq hg1 he
  go_enter Try.func125, Try.ntmps125
  go_wp2_with fail
  refine H.out.mono ?_
  rintro e w1 ⟨rfl, hG⟩
  have HGw := Aside0.mk (Grew.trans HG1.out hG)
  clear hG
  go_wp2_with fail
  go_ret
  exact ⟨_, rfl, Kd.R_nil _ _ _ _ _, HGw.out⟩
 ·have hh := idx_high a q i hi hp hn
  have h1 := hgq.f1 _ (List.getElem_mem hi)
  have HS : Aside0 (stepsL q a = (bords q[i].f1).filter fun f => !(f == a)) := ⟨by
   unfold stepsL
   rw [if_neg (by rw [hh]; omega), hh]⟩
  rw [he] at H
  rw [HS.out]
  obtain ⟨ad, e2, hx0, hx1⟩ := Kq_read hq i hi rfl
  have hlt := World.block_lt_of_cell? w _ hx1
  have HX1 : Aside0 (∀ w1, Grew w w1 → w1.cell? ⟨(ad.add (i * 2)).block, (ad.add (i * 2)).off + 1, none⟩ = some (I q[i].f1)) := ⟨fun w1 hG => (Below.cell hG (p := ⟨(ad.add (i * 2)).block, (ad.add (i * 2)).off + 1, none⟩) hlt).trans hx1⟩
  cases e2
  have hiz : (i : Int) < (q.length : Int) := by omega
  have hi0 : ¬ (i : Int) < 0 := by omega
  have hlq := hgq.len
  clear hn hq hgq hg1 he hh hx0 hx1 hlt HS hp
  generalize q[i].f1 = y at HX1 h1 ⊢
  have HBL := Aside0.mk (bords_length y)
  go_enter Try.func125, Try.ntmps125
  go_wp2_with fail
  refine H.out.mono ?_
  rintro e w1 ⟨rfl, hG⟩
  have HGw := Aside0.mk (Grew.trans HG1.out hG)
  have hx1 := HX1.out w1 HGw.out
  have HB := Aside0.mk (borders_calls y w1)
  have HBX : Aside0 (w1.heap[w.heap.size]? = some (.cells #[I a] 2 (0, 0))) := ⟨blk_below (blk_new w _) hG⟩
  clear hG
  go_wp2_with fail
  refine HB.out.mono ?_
  rintro e w2 ⟨v2, rfl, hR2, hG2⟩
  have HG2 := Aside0.mk hG2
  have HD := Aside0.mk (DeleteFunc_calls (fun f => f == a) w1.heap.size v2 (bords y) 156 #[] #[.pointer (some ⟨w.heap.size, 0, none⟩)] w2 hG2.size hR2 (by have := HBL.out; omega) (enters_of Try.func156 (by kernel_rfl) rfl)
   (fun x hx W hW => by
    have hlw : w.heap.size < w1.heap.size := blk_lt HBX.out
    have hb2 : W.heap[w.heap.size]? = some (.cells #[I a] 2 (0, 0)) := (hW.block _ hlw).trans (blk_below HBX.out HG2.out)
    exact steps2_calls x a w.heap.size W (blk_cell hb2 0)))
  clear hR2 hG2
  go_wp2_with fail
  refine HD.out.mono ?_
  rintro e w3 ⟨v3, rfl, hR3, hG3⟩
  go_wp2_with fail
  go_ret
  exact ⟨_, rfl, Kd.R_lower hR3 HGw.out.size, Grew.trans HGw.out (Below.trans HG2.out hG3)⟩

end Go.Proofs.Ytniikppojffiaaa.K
end

section
/- Plain words: what is reached by steps, by a queue and by a stack. -/
namespace Go.Proofs.Ytniikppojffiaaa.K
open Go.RowKit Go.Shelf
set_option linter.unusedVariables false
set_option linter.unusedSimpArgs false

/-- Reached by at least one step. -/
inductive Reach (nx : Int → List Int) (a : Int) : Int → Prop where
 | one {x : Int} (h : x ∈ nx a) : Reach nx a x
 | more {x y : Int} (h : Reach nx a x) (k : y ∈ nx x) : Reach nx a y
theorem Reach.from {nx : Int → List Int} {a x y : Int} (h : x = a ∨ Reach nx a x) (k : y ∈ nx x) : Reach nx a y := by
 rcases h with rfl | h
 ·exact .one k
 ·exact .more h k
theorem Reach.trans {nx : Int → List Int} {a x y : Int} (h : Reach nx a x) (k : Reach nx x y) : Reach nx a y := by
 induction k with
 | one k => exact .more h k
 | more _ k ih => exact .more ih k
theorem Reach.in_ {nx : Int → List Int} {a x : Int} (h : Reach nx a x) : ∃ y, x ∈ nx y := by
 cases h with
 | one h => exact ⟨_, h⟩
 | more _ h => exact ⟨_, h⟩

/-- How many of the numbers 0 .. 63 are in the set. -/
def cnt (S : Int → Bool) : Nat := (List.range 64).countP fun i : Nat => S (i : Int)
theorem cnt_le (S : Int → Bool) : cnt S ≤ 64 := by
 have := List.countP_le_length (p := fun i : Nat => S (i : Int)) (l := List.range 64)
 simpa [cnt] using this
theorem countP_upd (S : Int → Bool) (f : Nat) (hf : S (f : Int) = false) : ∀ n : Nat, (List.range n).countP (fun i : Nat => upd S (f : Int) true (i : Int)) = (List.range n).countP (fun i : Nat => S (i : Int)) + if f < n then 1 else 0
 | 0 => by simp
 | n + 1 => by
  rw [List.range_succ, List.countP_append, List.countP_append, countP_upd S f hf n]
  by_cases e : n = f
  ·subst e
   simp [List.countP_cons, upd, hf]
  ·have e' : ¬ ((n : Int) = (f : Int)) := by omega
   have hu : upd S (f : Int) true (n : Int) = S (n : Int) := by simp [upd, e']
   simp only [List.countP_cons, List.countP_nil, hu]
   by_cases h1 : f < n
   ·have h2 : f < n + 1 := by omega
    rw [if_pos h1, if_pos h2]
    omega
   ·have h2 : ¬ f < n + 1 := by omega
    rw [if_neg h1, if_neg h2]
    omega
theorem cnt_upd (S : Int → Bool) (f : Int) (h0 : 0 ≤ f) (h1 : f < 64) (hf : S f = false) : cnt (upd S f true) = cnt S + 1 := by
 obtain ⟨n, rfl⟩ : ∃ n : Nat, f = (n : Int) := ⟨f.toNat, by omega⟩
 unfold cnt
 rw [countP_upd S n hf 64, if_pos (by omega)]
theorem cnt_none : cnt (fun _ => false) = 0 := by simp [cnt]

structure Bfs (nx : Int → List Int) (a : Int) (S : Int → Bool) (q : List Int) : Prop where
 sound : ∀ x, S x = true → Reach nx a x
 qin : ∀ x ∈ q, x = a ∨ S x = true
 closed : ∀ x, (x = a ∨ S x = true) → x ∈ q ∨ ∀ y ∈ nx x, S y = true
section
variable {nx : Int → List Int} {a x f : Int} {S : Int → Bool} {q : List Int}
theorem upd_self (S : Int → Bool) (f : Int) (v : Bool) : upd S f v f = v := by simp [upd]
theorem upd_keep {S : Int → Bool} {f y : Int} (h : S y = true) : upd S f true y = true := by
 unfold upd
 split
 ·rfl
 ·exact h
theorem upd_or {S : Int → Bool} {f y : Int} (h : upd S f true y = true) : y = f ∨ S y = true := by
 unfold upd at h
 split at h
 ·exact .inl (by assumption)
 ·exact .inr h
theorem Bfs.start (nx : Int → List Int) (a : Int) : Bfs nx a (fun _ => false) [a] :=
 ⟨fun x h => by simp at h, fun x h => .inl (by simpa using h), fun x h => .inl (by rcases h with rfl | h <;> simp_all)⟩
theorem Bfs.add (h : Bfs nx a S (x :: q)) (hf : f ∈ nx x) : Bfs nx a (upd S f true) (x :: q ++ [f]) := by
 refine ⟨fun y hy => ?_, fun y hy => ?_, fun y hy => ?_⟩
 ·rcases upd_or hy with rfl | hy
  ·exact Reach.from ((h.qin x (by simp)).imp id (h.sound x)) hf
  ·exact h.sound y hy
 ·rcases List.mem_append.1 hy with hy | hy
  ·exact (h.qin y hy).imp id upd_keep
  ·exact .inr (by rw [List.mem_singleton.1 hy]; exact upd_self _ _ _)
 ·by_cases e : y = f
  ·exact .inl (by simp [e])
  ·rcases h.closed y (hy.imp id fun hy => (upd_or hy).resolve_left e) with h1 | h1
   ·exact .inl (List.mem_append_left _ h1)
   ·exact .inr fun z hz => upd_keep (h1 z hz)
theorem Bfs.pop (h : Bfs nx a S (x :: q)) (hall : ∀ y ∈ nx x, S y = true) : Bfs nx a S q := by
 refine ⟨h.sound, fun y hy => h.qin y (List.mem_cons_of_mem _ hy), fun y hy => ?_⟩
 rcases h.closed y hy with h1 | h1
 ·rcases List.mem_cons.1 h1 with rfl | h1
  ·exact .inr hall
  ·exact .inl h1
 ·exact .inr h1
theorem Bfs.done (h : Bfs nx a S []) (y : Int) : S y = true ↔ Reach nx a y := by
 refine ⟨h.sound y, fun hy => ?_⟩
 induction hy with
 | one hy => exact ((h.closed a (.inl rfl)).resolve_left (by simp)) _ hy
 | more _ hy ih => exact ((h.closed _ (.inr ih)).resolve_left (by simp)) _ hy

structure Dfs (nx : Int → List Int) (a : Int) (S : Int → Bool) (q : List Int) : Prop where
 sound : ∀ x, S x = true → Reach nx a x
 qin : ∀ x ∈ q, Reach nx a x
 closed : ∀ x, (x = a ∨ S x = true) → ∀ y ∈ nx x, S y = true ∨ y ∈ q
theorem Dfs.start (nx : Int → List Int) (a : Int) : Dfs nx a (fun _ => false) (nx a) :=
 ⟨fun x h => by simp at h, fun x h => .one h, fun x h y hy => .inr (by rcases h with rfl | h; exact hy; simp at h)⟩
theorem Dfs.skip (h : Dfs nx a S (q ++ [x])) (hx : S x = true) : Dfs nx a S q := by
 refine ⟨h.sound, fun y hy => h.qin y (List.mem_append_left _ hy), fun y hy z hz => ?_⟩
 rcases h.closed y hy z hz with h1 | h1
 ·exact .inl h1
 ·rcases List.mem_append.1 h1 with h1 | h1
  ·exact .inr h1
  ·exact .inl (by rw [List.mem_singleton.1 h1]; exact hx)
theorem Dfs.new (h : Dfs nx a S (q ++ [x])) : Dfs nx a (upd S x true) (q ++ nx x) := by
 have hr := h.qin x (by simp)
 refine ⟨fun y hy => ?_, fun y hy => ?_, fun y hy z hz => ?_⟩
 ·rcases upd_or hy with rfl | hy
  ·exact hr
  ·exact h.sound y hy
 ·rcases List.mem_append.1 hy with hy | hy
  ·exact h.qin y (List.mem_append_left _ hy)
  ·exact .more hr hy
 ·by_cases e : y = x
  ·subst e
   exact .inr (List.mem_append_right _ hz)
  ·rcases h.closed y (hy.imp id fun hy => (upd_or hy).resolve_left e) z hz with h1 | h1
   ·exact .inl (upd_keep h1)
   ·rcases List.mem_append.1 h1 with h1 | h1
    ·exact .inr (List.mem_append_left _ h1)
    ·exact .inl (by rw [List.mem_singleton.1 h1]; exact upd_self _ _ _)
theorem Dfs.done (h : Dfs nx a S []) (y : Int) : S y = true ↔ Reach nx a y := by
 refine ⟨h.sound y, fun hy => ?_⟩
 induction hy with
 | one hy => exact (h.closed a (.inl rfl) _ hy).resolve_right (by simp)
 | more _ hy ih => exact (h.closed _ (.inr ih) _ hy).resolve_right (by simp)
end
/-- The set of what is reached. -/
noncomputable def reachB (nx : Int → List Int) (a : Int) (x : Int) : Bool := @decide (Reach nx a x) (Classical.propDecidable _)
theorem reachB_of {nx : Int → List Int} {a : Int} {S : Int → Bool} (h : ∀ y, S y = true ↔ Reach nx a y) (y : Int) : S y = reachB nx a y := by
 unfold reachB
 by_cases hy : Reach nx a y
 ·rw [(h y).2 hy]
  simp [hy]
 ·cases hS : S y with
  | true => exact absurd ((h y).1 hS) hy
  | false => simp [hy]
theorem reachB_true {nx : Int → List Int} {a x : Int} : reachB nx a x = true ↔ Reach nx a x := by
 unfold reachB
 simp
end Go.Proofs.Ytniikppojffiaaa.K
end

section
/- What is behind a face: a queue and a set. -/
namespace Go.Proofs.Ytniikppojffiaaa.K
open Go.RowKit Go.Shelf Go.Proofs.Ytniikppojffiaaa.Q Go.Proofs.YtniikppojffiaaaW.PrintWords Go.Proofs.YtniikppojffiaaaW.PrintLast Go.Proofs.YtniikppojffiaaaW.PrintMore
set_option linter.unusedVariables false
set_option linter.unusedSimpArgs false

abbrev Qi (w : World) (base : Nat) (v : Value) (xs : List Int) : Prop := Ki.Q 2 w base (fun _ => True) v xs
theorem Q_one (w : World) (a : Int) : Qi (w.alloc (.cells #[I a] 2)) w.heap.size (.slice (some ⟨w.heap.size, 0, none⟩) 1 1) [a] := by
 refine Kd.Q_of_R (Kd.R_of_own ?_ (fun _ _ => trivial))
 have := World.ownsRow_lit (base := w.heap.size) (e := 2) (size := 1) w #[I a] 1 (Nat.le_refl _) (by decide) rfl
 exact this
theorem cutQ {W : World} {base : Nat} {A : Option Addr} {n c : Nat} {x : Int} {xs : List Int} (h : Qi W base (.slice A n c) (x :: xs)) :
  ∃ A1 c1, (∀ W : World, (Instr.slice 22 (.slice A n c) (some (.int .i64 1)) none none).run Try.prog W = .ok (.slice A1 xs.length c1) W) ∧ Qi W base (.slice A1 xs.length c1) xs := by
 have hn : n = xs.length + 1 := by have := (Kd.Q_reads' h).1; simpa using this
 obtain ⟨i0, hi0, _, hsz, _⟩ := info_parts infoI
 have hcut := cut_from (P := Try.prog) 22 2 .i64 Try.underlying22 hi0 1 hsz A n c 1 (by omega) (by omega)
 have hr := Kd.Q_drop (k := 1) h (by simp)
 have e1 : n - (1 : Int).toNat = xs.length := by rw [hn]; rfl
 have e2 : n - 1 = xs.length := by omega
 rw [e1] at hcut
 rw [e2] at hr
 exact ⟨_, _, hcut, hr⟩
section
variable {ops : Array Oper} {rest : List Oper} {o : Oper} {a : Act} {Q : Exit → Act → World → Prop}
theorem appendQ {W : World} (base : Nat) (hgd : o.guard = none) (s x : Operand)
  (ho : o.op = .call { callee := .builtin .append, args := #[s, x], argTypes := #[22, 22] })
  (v : Value) (xs : List Int) (p : Int) (hs : a.eval s = v) (hx : a.eval x = .slice (some ⟨W.heap.size, 0, none⟩) 1 1)
  (HO : Qi W base v xs) (hbase : base ≤ W.heap.size) (hl : xs.length ≤ 1000000000000)
  (h : ∀ v1 w1, Qi w1 base v1 (xs ++ [p]) → Below base W w1 → W.grownBy w1 v.ownBlock → (v1.ownBlock = v.ownBlock ∨ ∃ b, v1.ownBlock = some b ∧ W.heap.size ≤ b) → wpList Try.prog ops Q rest (a.put o.dst v1) w1) :
  wpList Try.prog ops Q (o :: rest) a (W.alloc (.cells #[I p] 2)) :=
 Kd.Q_append Ki (w0 := W) base hgd s x 22 2 (.int .i64 0) 8 ho Try.underlying22 infoI rfl (by decide) (by omega) v xs p [I p] (fun _ => True) (fun _ => False) hs hx rfl (fun _ hk => hk.elim) (fun _ _ => trivial) HO (Below.refl _ _) hbase (by omega) h
end
set_option maxRecDepth 100000 in
set_option maxHeartbeats 16000000 in
theorem behind_calls (A2 : Option Addr) (c2 : Nat) {q : List PairT} (a : Int) (w : World) (hq : Kq.C w A2 q.length q) (hc2 : q.length ≤ c2) (hgq : GoodQ q) :
  Calls Try.prog 77 #[.slice A2 q.length c2, I a] w fun e w' => ∃ b, e = .returned (.map (some b)) ∧ w.heap.size ≤ b ∧ (∃ m, m ≤ 64 ∧ SetK w' b m (reachB (stepsL q) a)) ∧ Grew w w' := by
 obtain ⟨W0, hW0⟩ : ∃ W0, W0 = w.alloc (.map #[] 0) := ⟨_, rfl⟩
 have hS : SetK W0 w.heap.size 0 (fun _ => false) := by rw [hW0]; exact SetK_made w
 have hg0 : Grew w W0 := by rw [hW0]; exact below_alloc (Grew.refl w) _
 have hz : W0.heap.size = w.heap.size + 1 := by rw [hW0]; simp
 have hQ1 := Q_one W0 a
 have hg1 : Grew W0 (W0.alloc (.cells #[I a] 2)) := below_alloc (Grew.refl W0) _
 have HS1 := Aside0.mk (hS.later hg1)
 have HGA := Aside0.mk (Grew.trans hg0 hg1)
 rw [hz] at hQ1
 have HQ1 := Aside0.mk hQ1
 have HST := Aside0.mk (fun (x : Int) (W : World) (h : Grew w W) => steps_calls A2 c2 x W (Kd.C_below hq h) hc2 hgq)
 have HSM := Aside0.mk (fun (x y : Int) (h : y ∈ stepsL q x) => steps_mem hgq h)
 have HSL := Aside0.mk (fun (x : Int) => steps_len (q := q) x)
 have hmm := @run_makeMap Try.prog
 have hlq := hgq.len
 clear hq hS hg0 hz hg1 hQ1 hgq
 subst hW0
 go_enter Try.func77, Try.ntmps77
 go_wp2_with fail
 go_loopg [6, 8] (1 + 128) (fun gg s6 _ wr => ∃ (S : Int → Bool) (xs : List Int), xs.length + 2 * (64 - cnt S) ≤ gg ∧ xs.length + 2 * (64 - cnt S) ≤ 129 ∧ Aside0 (Bfs (stepsL q) a S xs) ∧ Aside0 (SetK wr w.heap.size (cnt S) S) ∧ Aside0 (Qi wr (w.heap.size + 1) s6 xs) ∧ Aside0 (Grew w wr))
 case atStart => exact ⟨fun _ => false, [a], by simp [cnt_none], by simp [cnt_none], ⟨Bfs.start _ _⟩, ⟨by rw [cnt_none]; exact HS1.out⟩, HQ1, HGA⟩
 case round =>
  obtain ⟨S, xs, hgg, h129, HB, HS, HQ, HG⟩ := hrel
  obtain ⟨A6, c6, e6, hc6, hC6⟩ := Kd.Q_reads HQ.out
  cases xs with
  | nil =>
   subst e6
   have HR := Aside0.mk (reachB_of (Bfs.done HB.out))
   go_wp2_with fail
   go_ret
   exact ⟨_, rfl, Nat.le_refl _, ⟨cnt S, cnt_le S, HS.out.cong HR.out⟩, HG.out⟩
  | cons x xs =>
   obtain ⟨n6, hn6⟩ : ∃ n, n = (x :: xs).length := ⟨_, rfl⟩
   rw [← hn6] at e6
   subst e6
   obtain ⟨ad, e6, hx⟩ := Kd.at_int hC6 0 (by omega) (by simp)
   cases e6
   have hrd : rd (x :: xs) 0 = x := by simp [rd]
   rw [hrd] at hx
   have hx2 : wr.cell? ad = some (I x) := by simpa [Addr.add] using hx
   have hn0 : 0 < n6 := by simp at hn6; omega
   have HN6 : Aside0 (n6 = xs.length + 1) := ⟨by simpa using hn6⟩
   simp only [List.length_cons] at hgg h129
   have HSTx := Aside0.mk (HST.out x wr HG.out)
   have HMx := Aside0.mk (HSM.out x)
   have HLx := Aside0.mk (HSL.out x)
   obtain ⟨L, hL⟩ : ∃ L, L = stepsL q x := ⟨_, rfl⟩
   rw [← hL] at HSTx HLx
   have HL := Aside0.mk hL
   clear hrd hC6 hn6 hc6 hL
   go_wp2_with fail
   refine HSTx.out.mono ?_
   rintro e w1 ⟨v1, rfl, hR1, hG1⟩
   obtain ⟨A1, c1, e1, hc1, _⟩ := Kd.R_reads hR1
   subst e1
   have HR1 := Aside0.mk (Kd.R_new' hR1 (Kd.Q_lt HQ.out))
   have HS1' := Aside0.mk (HS.out.later hG1)
   have HQ1' : Aside0 (Qi w1 (w.heap.size + 1) (.slice (some ad) n6 c6) (x :: xs)) := ⟨Kd.Q_below HQ.out hG1⟩
   have HG1 := Aside0.mk (Grew.trans HG.out hG1)
   have HLW := Aside0.mk HLx.out
   have hLl := HLx.out
   obtain ⟨N0, hN0⟩ : ∃ N0, N0 = wr.heap.size := ⟨_, rfl⟩
   have HWR : Aside0 (w.heap.size < N0) := ⟨by rw [hN0]; exact HS.out.lt⟩
   rw [← hN0] at HR1
   clear hN0 hR1 hG1 hx hx2 hn0 HSTx HLx HS HQ HG
   go_wp2_with fail
   go_loopg [6, 8, 23] L.length (fun gj s6 _ s23 wq => ∃ (j : Nat) (T : Int → Bool) (ys : List Int), j ≤ L.length ∧ L.length - j ≤ gj ∧ s23 = .int .i64 j ∧ (ys.length + 1) + 2 * (64 - cnt T) ≤ gk ∧ (ys.length + 1) + 2 * (64 - cnt T) ≤ 129 ∧ Aside0 (Bfs (stepsL q) a T (x :: ys)) ∧ Aside0 (∀ t (ht : t < L.length), t < j → T L[t] = true) ∧ Aside0 (SetK wq w.heap.size (cnt T) T) ∧ Aside0 (Qi wq (w.heap.size + 1) s6 (x :: ys)) ∧ Aside0 (Ki.R 2 wq N0 (fun k => True ∧ some k ≠ s6.ownBlock) (.slice A1 L.length c1) L) ∧ Aside0 (Grew w wq))
   case atStart => exact ⟨0, S, xs, Nat.zero_le _, by omega, rfl, hgg, h129, HB, ⟨fun j _ hj => absurd hj (Nat.not_lt_zero _)⟩, HS1', HQ1', HR1, HG1⟩
   case round =>
    obtain ⟨j, T, ys, hj1, hgj, rfl, hgT, hT9, HBT, HDT, HST', HQT, HRT, HGT⟩ := hrel
    obtain ⟨A6, cc, e6, hc6, _⟩ := Kd.Q_reads HQT.out
    obtain ⟨m6, hm6⟩ : ∃ n, n = (x :: ys).length := ⟨_, rfl⟩
    rw [← hm6] at e6
    subst e6
    have HM6 := Aside0.mk hm6
    clear hm6 hc6
    by_cases hlj : j < L.length
    ·have hljz : (j : Int) < (L.length : Int) := by omega
     obtain ⟨ad2, e2, hy⟩ := Kd.at_int (Kd.R_reads' HRT.out).2.2 (j : Int) (by omega) (by omega)
     cases e2
     have hrd : rd L (j : Int) = L[j] := by simp [rd, hlj]
     rw [hrd, Int.toNat_natCast] at hy
     have HYM : Aside0 (L[j] ∈ stepsL q x) := ⟨by rw [← HL.out]; exact List.getElem_mem hlj⟩
     have HYB := HMx.out _ HYM.out
     have HDJ : Aside0 (∀ T' : Int → Bool, T' L[j] = true → (∀ z, T z = true → T' z = true) → ∀ t (ht : t < L.length), t < j + 1 → T' L[t] = true) := ⟨fun T' h hm t ht ht2 => by
      rcases Nat.lt_or_ge t j with h1 | h1
      ·exact hm _ (HDT.out t ht h1)
      ·obtain rfl : t = j := by omega
       exact h⟩
     clear hrd
     generalize L[j] = y at hy HYM HYB HDJ
     have HWF := Aside0.mk (wf_face HYB.1 HYB.2)
     have HY := Aside0.mk HYB
     have hlk := HST'.out.look y HWF.out
     clear HYB
     cases hty : T y with
     | true =>
      rw [hty] at hlk
      have HD2 := Aside0.mk (HDJ.out T hty (fun _ h => h))
      clear hty
      go_wp2_with fail
      go_roundg (L.length - (j + 1))
      case measure => omega
      case rel => exact ⟨j + 1, T, ys, by omega, by omega, by go_num, hgT, hT9, HBT, HD2, HST', HQT, HRT, HGT⟩
     | false =>
      rw [hty] at hlk
      have HCT := Aside0.mk (cnt_upd T y (by have := HY.out; omega) (by have := HY.out; omega) hty)
      have h64 := cnt_le (upd T y true)
      rw [HCT.out] at h64
      obtain ⟨w5, hr5, hS5, hg5⟩ := HST'.out.store (by have := cnt_le T; omega) y HWF.out
      have hbs := HST'.out.lt
      have HD2 := Aside0.mk (HDJ.out (upd T y true) (upd_self _ _ _) (fun z h => upd_keep h))
      have HB2 := Aside0.mk (HBT.out.add HYM.out)
      have HQ5 : Aside0 (Qi w5 (w.heap.size + 1) (.slice A6 m6 cc) (x :: ys)) := ⟨Kd.Q_mono (Kd.Q_grown (Kd.Q_bound HQT.out) hg5 (fun k hk e => by cases e; omega)) (fun _ _ => trivial)⟩
      have hsz := HGT.out.size
      have HR5 : Aside0 (Ki.R 2 w5 N0 (fun k => True ∧ some k ≠ (Value.slice A6 m6 cc).ownBlock) (.slice (some ad2) L.length c1) L) := ⟨Kd.R_mono (Kd.R_grown (Kd.R_bound HRT.out) hg5 (fun k hk e => by cases e; have := HG1.out.size; have := hk.2.1; have := HWR.out; omega)) (fun _ hk => hk.1)⟩
      have HG5 := Aside0.mk (pw_below_grown HGT.out _ hsz hg5 (fun k hk => by cases hk; omega))
      have HS5 := Aside0.mk hS5
      have hs5 : w.heap.size + 1 ≤ w5.heap.size := by have := hg5.size; omega
      have hml : (x :: ys).length ≤ 1000000000000 := by simp; omega
      clear hty hS5 hg5 hsz
      go_wp2_with (at_builtin; refine appendQ (w.heap.size + 1) rfl (.tmp 33) (.tmp 35) rfl _ (x :: ys) y rfl rfl HQ5.out hs5 hml ?_; intro v6 w6 hQ6 hB6 hg6 hat6; have HQ6 := Aside0.mk hQ6; have HR6 := Aside0.mk (Kd.R_after HR5.out hg6 hat6); have HS6 := Aside0.mk (HS5.out.same (hg6.block w.heap.size (by omega) (fun e => by have := Kd.Q_base HQ5.out _ e.symm; omega))); have HG6 := Aside0.mk (Below.trans HG5.out (hB6.mono (Nat.le_succ _))); clear hQ6 hB6 hg6 hat6 hml hs5)
      go_roundg (L.length - (j + 1))
      case measure => omega
      case rel => exact ⟨j + 1, upd T y true, ys ++ [y], by omega, by omega, by go_num, by rw [HCT.out, List.length_append]; simp; omega, by rw [HCT.out, List.length_append]; simp; omega, HB2, HD2, ⟨by rw [HCT.out]; exact HS6.out⟩, HQ6, HR6, HG6⟩
    ·have hltz : ¬ (j : Int) < (L.length : Int) := by omega
     have HPO := Aside0.mk (HBT.out.pop (fun y hy => by
      rw [← HL.out] at hy
      obtain ⟨t, ht, rfl⟩ := List.mem_iff_getElem.1 hy
      exact HDT.out t ht (by omega)))
     obtain ⟨A7, c7, hcut, hQ7⟩ := cutQ HQT.out
     have HQ7 := Aside0.mk hQ7
     clear hQ7
     go_wp2_with fail
     go_roundg (ys.length + 2 * (64 - cnt T))
     case measure => omega
     case rel => exact ⟨T, ys, Nat.le_refl _, by omega, HPO, HST', HQ7, HGT⟩

end Go.Proofs.Ytniikppojffiaaa.K
end

section
/- isPair. -/
namespace Go.Proofs.Ytniikppojffiaaa.K
open Go.RowKit Go.Shelf Go.Proofs.Ytniikppojffiaaa.Q Go.Proofs.YtniikppojffiaaaW.PrintWords Go.Proofs.YtniikppojffiaaaW.PrintLast Go.Proofs.YtniikppojffiaaaW.PrintMore
set_option linter.unusedVariables false
set_option linter.unusedSimpArgs false

theorem isPair_is {n : Int} {l : List Int} (hi : isC n l = true) (x y : Int) : impl_Complex_isPair.f (l.length + 1) n l x y = some (pairK l ⟨x, y⟩) := by
  obtain ⟨hn, hs, hr, h63⟩ := isC_faces hi
  have hh : ∀ f, impl_Complex_has.f (l.length + 1) n l f = some (hasB l f) := fun f => by unfold impl_Complex_has.f; rw [bs_is l f (by omega)]; rfl
  have hI : impl_isIn.f x y = some (inB x y) := rfl
  unfold impl_Complex_isPair.f pairK
  rw [hh x]
  simp only [Option.bind_some]
  cases h1 : hasB l x with
  | false => simp
  | true =>
    rw [if_pos rfl, hh y]
    simp only [Option.bind_some]
    cases h2 : hasB l y with
    | false => simp
    | true =>
      rw [if_pos rfl, hI]
      simp only [Option.bind_some]
      cases h3 : inB x y with
      | false => simp
      | true =>
        have hx := has_mem hi h1
        have hy := has_mem hi h2
        rw [if_pos rfl, size_is y (by omega) (by omega), size_is x (by omega) (by omega)]
        simp only [Option.bind_some]
        have := ones_le x
        have hw : wrap64 (onesI x + 1) = onesI x + 1 := by unfold wrap64; omega
        rw [hw]
        simp only [Bool.true_and]
        rfl
theorem isPair_calls {n : Int} (A : Option Addr) (c : Nat) {l : List Int} (hi : isC n l = true) (p : PairT) (w : World) (hk : Kx w A c l) :
    Calls Try.prog 88 #[.agg #[I n, .slice A l.length c], .agg #[I p.f0, I p.f1]] w fun e w' => e = .returned (.bool (pairK l p)) ∧ Grew w w' :=
  impl_Complex_isPair.calls (l.length + 1) n A c l p.f0 p.f1 (pairK l p) w hk.r hk.c (isPair_is hi p.f0 p.f1)


end Go.Proofs.Ytniikppojffiaaa.K
end

section
/- isPairing. -/
namespace Go.Proofs.Ytniikppojffiaaa.K
open Go.RowKit Go.Shelf Go.Proofs.Ytniikppojffiaaa.Q Go.Proofs.YtniikppojffiaaaW.PrintWords Go.Proofs.YtniikppojffiaaaW.PrintLast Go.Proofs.YtniikppojffiaaaW.PrintMore
open Go.Maps (Keyed IsMap)
set_option linter.unusedVariables false
set_option linter.unusedSimpArgs false

theorem upd_seen (S : Int → Bool) (a b x : Int) : upd (upd S a true) b true x = (S x || (a == x || b == x)) := by
 unfold upd
 by_cases h1 : x = b
 ·subst h1; simp
 ·by_cases h2 : x = a
  ·subst h2; simp [h1]
  ·have e1 : (a == x) = false := by simpa using fun h => h2 h.symm
   have e2 : (b == x) = false := by simpa using fun h => h1 h.symm
   simp [h1, h2, e1, e2]
set_option maxRecDepth 100000 in
set_option maxHeartbeats 16000000 in
theorem isPairing_calls {n : Int} (A : Option Addr) (c : Nat) {l : List Int} (hi : isC n l = true) (A2 : Option Addr) (c2 : Nat) (q : List PairT) (w : World) (hk : Kx w A c l) (hq : Kq.C w A2 q.length q) (hc2 : q.length ≤ c2) (hq2 : q.length ≤ 2097152) :
  Calls Try.prog 64 #[.agg #[I n, .slice A l.length c], .slice A2 q.length c2] w fun e w' => e = .returned (.bool (pingB l q)) ∧ Grew w w' := by
 obtain ⟨W0, hW0⟩ : ∃ W0, W0 = (w.alloc (.cells #[I n, .slice A l.length c] 30)).alloc (.map #[] 0) := ⟨_, rfl⟩
 have hB : CB W0 w.heap.size n (.slice A l.length c) := by rw [hW0]; exact blk_alloc (blk_new w _) _
 have hS : SetM W0 (w.heap.size + 1) 0 (fun _ => false) := by
  rw [hW0]
  have := SetM_made (w.alloc (.cells #[I n, .slice A l.length c] 30))
  rwa [World.size_alloc] at this
 have hg : Grew w W0 := by rw [hW0]; exact below_alloc (below_alloc (Grew.refl w) _) _
 have HK := Aside0.mk hk
 have HQ := Aside0.mk hq
 have HC2 := Aside0.mk hc2
 have HI := Aside0.mk hi
 have HB := Aside0.mk hB
 have HS := Aside0.mk hS
 have HG := Aside0.mk hg
 have hmm := @run_makeMap Try.prog
 clear hk hq hc2 hi hB hS hg
 subst hW0
 go_enter Try.func64, Try.ntmps64
 go_wp2_with fail
 go_loopg [6, 7, 11] q.length (fun gg _ _ s11 wr => ∃ i : Nat, i ≤ q.length ∧ q.length - i ≤ gg ∧ s11 = .int .i64 i ∧ Aside0 (CB wr w.heap.size n (.slice A l.length c)) ∧ Aside0 (SetM wr (w.heap.size + 1) (2 * i) (seenB q i)) ∧ Aside0 (Grew w wr) ∧ Aside0 (∀ j, j < i → okAt l q j = true))
 case atStart => exact ⟨0, Nat.zero_le _, by omega, rfl, HB, ⟨HS.out.cong (fun x _ => by simp [seenB])⟩, HG, ⟨fun j hj => absurd hj (Nat.not_lt_zero _)⟩⟩
 case round =>
  obtain ⟨i, hi1, hgg, rfl, HBr, HSr, HGr, HO⟩ := hrel
  by_cases hlt : i < q.length
  ·have hltz : (i : Int) < (q.length : Int) := by omega
   obtain ⟨ad, e0, hx0, hx1⟩ := Kq_read (Kd.C_below HQ.out HGr.out) i hlt rfl
   cases e0
   have hlw : w.heap.size < wr.heap.size := blk_lt HBr.out
   have HOK := Aside0.mk (okAt_eq l q i hlt)
   have HSS := Aside0.mk (seen_succ q i hlt)
   have HPB : Aside0 (okAt l q i = false → pingB l q = false) := ⟨fun h => ping_false hlt h⟩
   have HPS : Aside0 (okAt l q i = true → ∀ j, j < i + 1 → okAt l q j = true) := ⟨fun h j hj => by
    rcases Nat.lt_or_ge j i with h1 | h1
    ·exact HO.out j h1
    ·rw [show j = i by omega]; exact h⟩
   -- the pair before
   have HPV : Aside0 (0 < i → wr.cell? (ad.add ((i - 1) * 2)) = some (I (q.getD (i - 1) z53).f0) ∧ wr.cell? ⟨(ad.add ((i - 1) * 2)).block, (ad.add ((i - 1) * 2)).off + 1, none⟩ = some (I (q.getD (i - 1) z53).f1)) := ⟨fun h0 => by
    obtain ⟨ad2, e2, hy0, hy1⟩ := Kq_read (Kd.C_below HQ.out HGr.out) (i - 1) (by omega) rfl
    cases e2
    have hz : q.getD (i - 1) z53 = q[i - 1] := by simp [show i - 1 < q.length by omega]
    rw [hz]
    exact ⟨hy0, hy1⟩⟩
   generalize q.getD (i - 1) z53 = r at HOK HPV
   generalize q[i] = p at hx0 hx1 HOK HSS
   have HLB := Aside0.mk (World.block_lt_of_cell? wr _ hx0)
   -- the world with the pair's box
   obtain ⟨W1, hW1⟩ : ∃ W1, W1 = wr.alloc (.cells #[I p.f0, I p.f1] 53) := ⟨_, rfl⟩
   have hp : W1.heap[wr.heap.size]? = some (.cells #[I p.f0, I p.f1] 53 (0, 0)) := by rw [hW1]; exact blk_new wr _
   have hG1 : Grew wr W1 := by rw [hW1]; exact below_alloc (Grew.refl wr) _
   have HS1 := Aside0.mk (HSr.out.later hG1)
   have HB1 : Aside0 (CB W1 w.heap.size n (.slice A l.length c)) := ⟨blk_below HBr.out hG1⟩
   have HP1 := Aside0.mk hp
   have HG1 := Aside0.mk hG1
   have HGw1 := Aside0.mk (Grew.trans HGr.out hG1)
   have HIP := Aside0.mk (fun (W : World) (h : Grew W1 W) => isPair_calls A c HI.out p W (HK.out.later (Grew.trans HGw1.out h)))
   have HCP := Aside0.mk (fun (W : World) => comparePairs_calls r.f0 r.f1 p.f0 p.f1 W)
   have k0 := HB1.out.c0
   have k1 := HB1.out.c1
   have hp0 : W1.cell? ⟨wr.heap.size, 0, none⟩ = some (I p.f0) := blk_cell hp 0
   have hp1 : W1.cell? ⟨wr.heap.size, 1, none⟩ = some (I p.f1) := blk_cell hp 1
   have hl0 := World.block_lt_of_cell? W1 _ k0
   have hl1 := World.block_lt_of_cell? W1 _ hp0
   have HE1 := Aside0.mk hW1
   clear hp hG1 hW1
   generalize hb1 : pairK l p = b1 at HOK HIP
   have HPK := Aside0.mk hb1
   clear hb1
   cases b1 with
   | false =>
    have HPF := Aside0.mk (HPB.out (by rw [HOK.out]; rfl))
    clear HPB HPS HOK
    go_wp2_with fail
    rw [← HE1.out]
    refine start_ (n := 30) (S := fun w' => w'.cell? ⟨w.heap.size, 0, none⟩ = some (I n) ∧ w'.cell? ⟨w.heap.size, 1, none⟩ = some (.slice A l.length c) ∧ w'.cell? ⟨wr.heap.size, 0, none⟩ = some (I p.f0) ∧ w'.cell? ⟨wr.heap.size, 1, none⟩ = some (I p.f1)) (ds := []) (ar 0 30) (by kernel_rfl) rfl rfl ⟨(Below.cell (w := W1) (below_drew (Grew.refl W1)) (p := ⟨w.heap.size, 0, none⟩) hl0).trans k0, (Below.cell (w := W1) (below_drew (Grew.refl W1)) (p := ⟨w.heap.size, 1, none⟩) hl0).trans k1, (Below.cell (w := W1) (below_drew (Grew.refl W1)) (p := ⟨wr.heap.size, 0, none⟩) hl1).trans hp0, (Below.cell (w := W1) (below_drew (Grew.refl W1)) (p := ⟨wr.heap.size, 1, none⟩) hl1).trans hp1⟩ (fun hHeld => ?_)
    refine take_ (i := 0) (N := some 16) (v := ?_) (a' := ?_) (ar 1 29) rfl rfl (by kernel_rfl) (fun _ _ _ h => h) (Or.inl ⟨by rfl, ?_⟩) hHeld ?_ ?_
    rotate_left; · rintro w' ⟨s0, s1, s2, s3⟩; go_simp; with_reducible rfl
    rotate_left; · simp only [nm_]; rfl
    refine take_ (i := 1) (N := some 17) (v := ?_) (a' := ?_) (ar 2 28) rfl rfl (by kernel_rfl) (fun _ _ _ h => h) (Or.inl ⟨by rfl, ?_⟩) hHeld ?_ ?_
    rotate_left; · rintro w' ⟨s0, s1, s2, s3⟩; go_simp; with_reducible rfl
    rotate_left; · simp only [nm_]; rfl
    refine one_ (i := 2) (N := some 18) (ar 3 27) rfl rfl (by kernel_rfl) (by decide) (fun K hK => ?_)
    refine goes_ Try.func88 (by kernel_rfl) rfl #[.agg #[I n, .slice A l.length c], .agg #[I p.f0, I p.f1]] (by rfl) rfl rfl (by simp only [List.map_toArray, List.map_cons, List.map_nil]; rfl) ?_
    with_reducible refine (HIP.out _ (below_drew (Grew.refl W1))).mono ?_
    rintro e w3 ⟨rfl, hGa⟩
    refine ⟨_, rfl, ?_⟩
    have HL := Aside0.mk (Grew.trans (below_drew (Grew.refl W1)) hGa)
    clear hGa
    refine hK.out _ _ ⟨(Below.cell (w := W1) HL.out (p := ⟨w.heap.size, 0, none⟩) hl0).trans k0, (Below.cell (w := W1) HL.out (p := ⟨w.heap.size, 1, none⟩) hl0).trans k1, (Below.cell (w := W1) HL.out (p := ⟨wr.heap.size, 0, none⟩) hl1).trans hp0, (Below.cell (w := W1) HL.out (p := ⟨wr.heap.size, 1, none⟩) hl1).trans hp1⟩ (fun hHeld => ?_)
    clear hK K
    refine norm_ (a' := ?_) ?_ ?_
    rotate_left
    ·show Act.put _ (some 18) _ = _
     simp only [nm_]
     rfl
    refine pure_ (i := 3) (N := some 19) (v := ?_) (a' := ?_) (ar 4 26) rfl rfl (by kernel_rfl) (fun _ _ _ h => h) (Or.inl ⟨by rfl, ?_⟩) ?_ ?_; rotate_left; (intro w'; go_simp; with_reducible rfl); rotate_left; · simp only [nm_]; rfl
    refine pure_ (i := 4) (N := some 20) (v := ?_) (a' := ?_) (ar 5 25) rfl rfl (by kernel_rfl) (fun _ _ _ h => h) (Or.inl ⟨by rfl, ?_⟩) ?_ ?_; rotate_left; (intro w'; go_simp; with_reducible rfl); rotate_left; · simp only [nm_]; rfl
    refine pure_ (i := 5) (N := some 21) (v := undef) (a' := ?_) (ar 6 24) rfl rfl (by kernel_rfl) (fun _ _ _ h => h) (Or.inr ⟨by rfl, rfl⟩) ?_ ?_; rotate_left; · simp only [nm_]; rfl
    refine pure_ (i := 6) (N := some 22) (v := undef) (a' := ?_) (ar 7 23) rfl rfl (by kernel_rfl) (fun _ _ _ h => h) (Or.inr ⟨by rfl, rfl⟩) ?_ ?_; rotate_left; · simp only [nm_]; rfl
    refine pure_ (i := 7) (N := some 23) (v := undef) (a' := ?_) (ar 8 22) rfl rfl (by kernel_rfl) (fun _ _ _ h => h) (Or.inr ⟨by rfl, rfl⟩) ?_ ?_; rotate_left; · simp only [nm_]; rfl
    refine pure_ (i := 8) (N := some 24) (v := undef) (a' := ?_) (ar 9 21) rfl rfl (by kernel_rfl) (fun _ _ _ h => h) (Or.inr ⟨by rfl, rfl⟩) ?_ ?_; rotate_left; · simp only [nm_]; rfl
    refine pure_ (i := 9) (N := some 25) (v := ?_) (a' := ?_) (ar 10 20) rfl rfl (by kernel_rfl) (fun _ _ _ h => h) (Or.inl ⟨by rfl, ?_⟩) ?_ ?_; rotate_left; (intro w'; go_simp; with_reducible rfl); rotate_left; · simp only [nm_]; rfl
    refine pure_ (i := 10) (N := some 26) (v := ?_) (a' := ?_) (ar 11 19) rfl rfl (by kernel_rfl) (fun _ _ _ h => h) (Or.inl ⟨by rfl, ?_⟩) ?_ ?_; rotate_left; (intro w'; go_simp; with_reducible rfl); rotate_left; · simp only [nm_]; rfl
    refine pure_ (i := 11) (N := some 27) (v := undef) (a' := ?_) (ar 12 18) rfl rfl (by kernel_rfl) (fun _ _ _ h => h) (Or.inr ⟨by rfl, rfl⟩) ?_ ?_; rotate_left; · simp only [nm_]; rfl
    refine pure_ (i := 12) (N := some 28) (v := undef) (a' := ?_) (ar 13 17) rfl rfl (by kernel_rfl) (fun _ _ _ h => h) (Or.inr ⟨by rfl, rfl⟩) ?_ ?_; rotate_left; · simp only [nm_]; rfl
    refine pure_ (i := 13) (N := some 29) (v := undef) (a' := ?_) (ar 14 16) rfl rfl (by kernel_rfl) (fun _ _ _ h => h) (Or.inr ⟨by rfl, rfl⟩) ?_ ?_; rotate_left; · simp only [nm_]; rfl
    refine pure_ (i := 14) (N := some 30) (v := undef) (a' := ?_) (ar 15 15) rfl rfl (by kernel_rfl) (fun _ _ _ h => h) (Or.inr ⟨by rfl, rfl⟩) ?_ ?_; rotate_left; · simp only [nm_]; rfl
    refine pure_ (i := 15) (N := some 31) (v := ?_) (a' := ?_) (ar 16 14) rfl rfl (by kernel_rfl) (fun _ _ _ h => h) (Or.inl ⟨by rfl, ?_⟩) ?_ ?_; rotate_left; (intro w'; go_simp; with_reducible rfl); rotate_left; · simp only [nm_]; rfl
    refine pure_ (i := 16) (N := some 32) (v := ?_) (a' := ?_) (ar 17 13) rfl rfl (by kernel_rfl) (fun _ _ _ h => h) (Or.inl ⟨by rfl, ?_⟩) ?_ ?_; rotate_left; (intro w'; go_simp; with_reducible rfl); rotate_left; · simp only [nm_]; rfl
    refine pure_ (i := 17) (N := some 33) (v := undef) (a' := ?_) (ar 18 12) rfl rfl (by kernel_rfl) (fun _ _ _ h => h) (Or.inr ⟨by rfl, rfl⟩) ?_ ?_; rotate_left; · simp only [nm_]; rfl
    refine pure_ (i := 18) (N := some 34) (v := undef) (a' := ?_) (ar 19 11) rfl rfl (by kernel_rfl) (fun _ _ _ h => h) (Or.inr ⟨by rfl, rfl⟩) ?_ ?_; rotate_left; · simp only [nm_]; rfl
    refine pure_ (i := 19) (N := some 35) (v := undef) (a' := ?_) (ar 20 10) rfl rfl (by kernel_rfl) (fun _ _ _ h => h) (Or.inr ⟨by rfl, rfl⟩) ?_ ?_; rotate_left; · simp only [nm_]; rfl
    refine pure_ (i := 20) (N := some 36) (v := undef) (a' := ?_) (ar 21 9) rfl rfl (by kernel_rfl) (fun _ _ _ h => h) (Or.inr ⟨by rfl, rfl⟩) ?_ ?_; rotate_left; · simp only [nm_]; rfl
    refine pure_ (i := 21) (N := some 37) (v := undef) (a' := ?_) (ar 22 8) rfl rfl (by kernel_rfl) (fun _ _ _ h => h) (Or.inr ⟨by rfl, rfl⟩) ?_ ?_; rotate_left; · simp only [nm_]; rfl
    refine pure_ (i := 22) (N := some 38) (v := undef) (a' := ?_) (ar 23 7) rfl rfl (by kernel_rfl) (fun _ _ _ h => h) (Or.inr ⟨by rfl, rfl⟩) ?_ ?_; rotate_left; · simp only [nm_]; rfl
    refine pure_ (i := 23) (N := some 39) (v := undef) (a' := ?_) (ar 24 6) rfl rfl (by kernel_rfl) (fun _ _ _ h => h) (Or.inr ⟨by rfl, rfl⟩) ?_ ?_; rotate_left; · simp only [nm_]; rfl
    refine pure_ (i := 24) (N := some 40) (v := undef) (a' := ?_) (ar 25 5) rfl rfl (by kernel_rfl) (fun _ _ _ h => h) (Or.inr ⟨by rfl, rfl⟩) ?_ ?_; rotate_left; · simp only [nm_]; rfl
    refine pure_ (i := 25) (N := some 41) (v := undef) (a' := ?_) (ar 26 4) rfl rfl (by kernel_rfl) (fun _ _ _ h => h) (Or.inr ⟨by rfl, rfl⟩) ?_ ?_; rotate_left; · simp only [nm_]; rfl
    refine pure_ (i := 26) (N := some 42) (v := undef) (a' := ?_) (ar 27 3) rfl rfl (by kernel_rfl) (fun _ _ _ h => h) (Or.inr ⟨by rfl, rfl⟩) ?_ ?_; rotate_left; · simp only [nm_]; rfl
    refine pure_ (i := 27) (N := some 43) (v := undef) (a' := ?_) (ar 28 2) rfl rfl (by kernel_rfl) (fun _ _ _ h => h) (Or.inr ⟨by rfl, rfl⟩) ?_ ?_; rotate_left; · simp only [nm_]; rfl
    refine pure_ (i := 28) (N := some 44) (v := undef) (a' := ?_) (ar 29 1) rfl rfl (by kernel_rfl) (fun _ _ _ h => h) (Or.inr ⟨by rfl, rfl⟩) ?_ ?_; rotate_left; · simp only [nm_]; rfl
    refine pure_ (i := 29) (N := some 45) (v := ?_) (a' := ?_) (ar 30 0) rfl rfl (by kernel_rfl) (fun _ _ _ h => h) (Or.inl ⟨by rfl, ?_⟩) ?_ ?_; rotate_left; (intro w'; go_simp; with_reducible rfl); rotate_left; · simp only [nm_]; rfl
    refine done_ (by kernel_rfl) ?_
    go_wp2_with fail
    go_ret
    exact ⟨by rw [HPF.out]; rfl, Grew.trans HGw1.out HL.out⟩
   | true =>
    have HM := Aside0.mk (pairK_mem HI.out HPK.out)
    have HW0 := Aside0.mk (wf_face HM.out.1.2.1 HM.out.1.2.2)
    have HW1 := Aside0.mk (wf_face HM.out.2.1.2.1 HM.out.2.1.2.2)
    cases hb2 : seenB q i p.f0 with
    | true =>
     have HL0 := Aside0.mk hb2
     clear hb2
     have HPF := Aside0.mk (HPB.out (by rw [HOK.out]; rw [HL0.out]; rfl))
     clear HPB HPS HOK
     go_wp2_with fail
     rw [← HE1.out]
     have HLK0 : Aside0 (∀ W, Grew W1 W → (Instr.lookup TMap (.map (some (w.heap.size + 1))) (I p.f0) false).run Try.prog W = .ok (.bool true) W) := ⟨fun W h => by have h2 := (HS1.out.later h).look p.f0 HW0.out; rw [HL0.out] at h2; exact h2⟩
     refine start_ (n := 30) (S := fun w' => w'.cell? ⟨w.heap.size, 0, none⟩ = some (I n) ∧ w'.cell? ⟨w.heap.size, 1, none⟩ = some (.slice A l.length c) ∧ w'.cell? ⟨wr.heap.size, 0, none⟩ = some (I p.f0) ∧ w'.cell? ⟨wr.heap.size, 1, none⟩ = some (I p.f1) ∧ (Instr.lookup TMap (.map (some (w.heap.size + 1))) (I p.f0) false).run Try.prog w' = .ok (.bool true) w') (ds := []) (ar 0 30) (by kernel_rfl) rfl rfl ⟨(Below.cell (w := W1) (below_drew (Grew.refl W1)) (p := ⟨w.heap.size, 0, none⟩) hl0).trans k0, (Below.cell (w := W1) (below_drew (Grew.refl W1)) (p := ⟨w.heap.size, 1, none⟩) hl0).trans k1, (Below.cell (w := W1) (below_drew (Grew.refl W1)) (p := ⟨wr.heap.size, 0, none⟩) hl1).trans hp0, (Below.cell (w := W1) (below_drew (Grew.refl W1)) (p := ⟨wr.heap.size, 1, none⟩) hl1).trans hp1, HLK0.out _ (below_drew (Grew.refl W1))⟩ (fun hHeld => ?_)
     refine take_ (i := 0) (N := some 16) (v := ?_) (a' := ?_) (ar 1 29) rfl rfl (by kernel_rfl) (fun _ _ _ h => h) (Or.inl ⟨by rfl, ?_⟩) hHeld ?_ ?_
     rotate_left; · rintro w' ⟨s0, s1, s2, s3, s4⟩; go_simp; with_reducible rfl
     rotate_left; · simp only [nm_]; rfl
     refine take_ (i := 1) (N := some 17) (v := ?_) (a' := ?_) (ar 2 28) rfl rfl (by kernel_rfl) (fun _ _ _ h => h) (Or.inl ⟨by rfl, ?_⟩) hHeld ?_ ?_
     rotate_left; · rintro w' ⟨s0, s1, s2, s3, s4⟩; go_simp; with_reducible rfl
     rotate_left; · simp only [nm_]; rfl
     refine one_ (i := 2) (N := some 18) (ar 3 27) rfl rfl (by kernel_rfl) (by decide) (fun K hK => ?_)
     refine goes_ Try.func88 (by kernel_rfl) rfl #[.agg #[I n, .slice A l.length c], .agg #[I p.f0, I p.f1]] (by rfl) rfl rfl (by simp only [List.map_toArray, List.map_cons, List.map_nil]; rfl) ?_
     with_reducible refine (HIP.out _ (below_drew (Grew.refl W1))).mono ?_
     rintro e w3 ⟨rfl, hGa⟩
     refine ⟨_, rfl, ?_⟩
     have HL := Aside0.mk (Grew.trans (below_drew (Grew.refl W1)) hGa)
     clear hGa
     refine hK.out _ _ ⟨(Below.cell (w := W1) HL.out (p := ⟨w.heap.size, 0, none⟩) hl0).trans k0, (Below.cell (w := W1) HL.out (p := ⟨w.heap.size, 1, none⟩) hl0).trans k1, (Below.cell (w := W1) HL.out (p := ⟨wr.heap.size, 0, none⟩) hl1).trans hp0, (Below.cell (w := W1) HL.out (p := ⟨wr.heap.size, 1, none⟩) hl1).trans hp1, HLK0.out _ HL.out⟩ (fun hHeld => ?_)
     clear hK K
     refine norm_ (a' := ?_) ?_ ?_
     rotate_left
     ·show Act.put _ (some 18) _ = _
      simp only [nm_]
      rfl
     refine pure_ (i := 3) (N := some 19) (v := ?_) (a' := ?_) (ar 4 26) rfl rfl (by kernel_rfl) (fun _ _ _ h => h) (Or.inl ⟨by rfl, ?_⟩) ?_ ?_; rotate_left; (intro w'; go_simp; with_reducible rfl); rotate_left; · simp only [nm_]; rfl
     refine pure_ (i := 4) (N := some 20) (v := ?_) (a' := ?_) (ar 5 25) rfl rfl (by kernel_rfl) (fun _ _ _ h => h) (Or.inl ⟨by rfl, ?_⟩) ?_ ?_; rotate_left; (intro w'; go_simp; with_reducible rfl); rotate_left; · simp only [nm_]; rfl
     refine pure_ (i := 5) (N := some 21) (v := ?_) (a' := ?_) (ar 6 24) rfl rfl (by kernel_rfl) (fun _ _ _ h => h) (Or.inl ⟨by rfl, ?_⟩) ?_ ?_; rotate_left; (intro w'; go_simp; with_reducible rfl); rotate_left; · simp only [nm_]; rfl
     refine pure_ (i := 6) (N := some 22) (v := ?_) (a' := ?_) (ar 7 23) rfl rfl (by kernel_rfl) (fun _ _ _ h => h) (Or.inl ⟨by rfl, ?_⟩) ?_ ?_; rotate_left; (intro w'; go_simp; with_reducible rfl); rotate_left; · simp only [nm_]; rfl
     refine take_ (i := 7) (N := some 23) (v := ?_) (a' := ?_) (ar 8 22) rfl rfl (by kernel_rfl) (fun _ _ _ h => h) (Or.inl ⟨by rfl, ?_⟩) hHeld ?_ ?_
     rotate_left; · rintro w' ⟨s0, s1, s2, s3, s4⟩; go_simp; with_reducible rfl
     rotate_left; · simp only [nm_]; rfl
     refine take_ (i := 8) (N := some 24) (v := ?_) (a' := ?_) (ar 9 21) rfl rfl (by kernel_rfl) (fun _ _ _ h => h) (Or.inl ⟨by rfl, ?_⟩) hHeld ?_ ?_
     rotate_left; · rintro w' ⟨s0, s1, s2, s3, s4⟩; go_simp; with_reducible rfl
     rotate_left; · simp only [nm_]; rfl
     refine pure_ (i := 9) (N := some 25) (v := ?_) (a' := ?_) (ar 10 20) rfl rfl (by kernel_rfl) (fun _ _ _ h => h) (Or.inl ⟨by rfl, ?_⟩) ?_ ?_; rotate_left; (intro w'; go_simp; with_reducible rfl); rotate_left; · simp only [nm_]; rfl
     refine pure_ (i := 10) (N := some 26) (v := ?_) (a' := ?_) (ar 11 19) rfl rfl (by kernel_rfl) (fun _ _ _ h => h) (Or.inl ⟨by rfl, ?_⟩) ?_ ?_; rotate_left; (intro w'; go_simp; with_reducible rfl); rotate_left; · simp only [nm_]; rfl
     refine pure_ (i := 11) (N := some 27) (v := undef) (a' := ?_) (ar 12 18) rfl rfl (by kernel_rfl) (fun _ _ _ h => h) (Or.inr ⟨by rfl, rfl⟩) ?_ ?_; rotate_left; · simp only [nm_]; rfl
     refine pure_ (i := 12) (N := some 28) (v := undef) (a' := ?_) (ar 13 17) rfl rfl (by kernel_rfl) (fun _ _ _ h => h) (Or.inr ⟨by rfl, rfl⟩) ?_ ?_; rotate_left; · simp only [nm_]; rfl
     refine pure_ (i := 13) (N := some 29) (v := undef) (a' := ?_) (ar 14 16) rfl rfl (by kernel_rfl) (fun _ _ _ h => h) (Or.inr ⟨by rfl, rfl⟩) ?_ ?_; rotate_left; · simp only [nm_]; rfl
     refine pure_ (i := 14) (N := some 30) (v := undef) (a' := ?_) (ar 15 15) rfl rfl (by kernel_rfl) (fun _ _ _ h => h) (Or.inr ⟨by rfl, rfl⟩) ?_ ?_; rotate_left; · simp only [nm_]; rfl
     refine pure_ (i := 15) (N := some 31) (v := ?_) (a' := ?_) (ar 16 14) rfl rfl (by kernel_rfl) (fun _ _ _ h => h) (Or.inl ⟨by rfl, ?_⟩) ?_ ?_; rotate_left; (intro w'; go_simp; with_reducible rfl); rotate_left; · simp only [nm_]; rfl
     refine pure_ (i := 16) (N := some 32) (v := ?_) (a' := ?_) (ar 17 13) rfl rfl (by kernel_rfl) (fun _ _ _ h => h) (Or.inl ⟨by rfl, ?_⟩) ?_ ?_; rotate_left; (intro w'; go_simp; with_reducible rfl); rotate_left; · simp only [nm_]; rfl
     refine pure_ (i := 17) (N := some 33) (v := undef) (a' := ?_) (ar 18 12) rfl rfl (by kernel_rfl) (fun _ _ _ h => h) (Or.inr ⟨by rfl, rfl⟩) ?_ ?_; rotate_left; · simp only [nm_]; rfl
     refine pure_ (i := 18) (N := some 34) (v := undef) (a' := ?_) (ar 19 11) rfl rfl (by kernel_rfl) (fun _ _ _ h => h) (Or.inr ⟨by rfl, rfl⟩) ?_ ?_; rotate_left; · simp only [nm_]; rfl
     refine pure_ (i := 19) (N := some 35) (v := undef) (a' := ?_) (ar 20 10) rfl rfl (by kernel_rfl) (fun _ _ _ h => h) (Or.inr ⟨by rfl, rfl⟩) ?_ ?_; rotate_left; · simp only [nm_]; rfl
     refine pure_ (i := 20) (N := some 36) (v := undef) (a' := ?_) (ar 21 9) rfl rfl (by kernel_rfl) (fun _ _ _ h => h) (Or.inr ⟨by rfl, rfl⟩) ?_ ?_; rotate_left; · simp only [nm_]; rfl
     refine pure_ (i := 21) (N := some 37) (v := undef) (a' := ?_) (ar 22 8) rfl rfl (by kernel_rfl) (fun _ _ _ h => h) (Or.inr ⟨by rfl, rfl⟩) ?_ ?_; rotate_left; · simp only [nm_]; rfl
     refine pure_ (i := 22) (N := some 38) (v := undef) (a' := ?_) (ar 23 7) rfl rfl (by kernel_rfl) (fun _ _ _ h => h) (Or.inr ⟨by rfl, rfl⟩) ?_ ?_; rotate_left; · simp only [nm_]; rfl
     refine pure_ (i := 23) (N := some 39) (v := undef) (a' := ?_) (ar 24 6) rfl rfl (by kernel_rfl) (fun _ _ _ h => h) (Or.inr ⟨by rfl, rfl⟩) ?_ ?_; rotate_left; · simp only [nm_]; rfl
     refine pure_ (i := 24) (N := some 40) (v := undef) (a' := ?_) (ar 25 5) rfl rfl (by kernel_rfl) (fun _ _ _ h => h) (Or.inr ⟨by rfl, rfl⟩) ?_ ?_; rotate_left; · simp only [nm_]; rfl
     refine pure_ (i := 25) (N := some 41) (v := undef) (a' := ?_) (ar 26 4) rfl rfl (by kernel_rfl) (fun _ _ _ h => h) (Or.inr ⟨by rfl, rfl⟩) ?_ ?_; rotate_left; · simp only [nm_]; rfl
     refine pure_ (i := 26) (N := some 42) (v := undef) (a' := ?_) (ar 27 3) rfl rfl (by kernel_rfl) (fun _ _ _ h => h) (Or.inr ⟨by rfl, rfl⟩) ?_ ?_; rotate_left; · simp only [nm_]; rfl
     refine pure_ (i := 27) (N := some 43) (v := undef) (a' := ?_) (ar 28 2) rfl rfl (by kernel_rfl) (fun _ _ _ h => h) (Or.inr ⟨by rfl, rfl⟩) ?_ ?_; rotate_left; · simp only [nm_]; rfl
     refine pure_ (i := 28) (N := some 44) (v := undef) (a' := ?_) (ar 29 1) rfl rfl (by kernel_rfl) (fun _ _ _ h => h) (Or.inr ⟨by rfl, rfl⟩) ?_ ?_; rotate_left; · simp only [nm_]; rfl
     refine pure_ (i := 29) (N := some 45) (v := ?_) (a' := ?_) (ar 30 0) rfl rfl (by kernel_rfl) (fun _ _ _ h => h) (Or.inl ⟨by rfl, ?_⟩) ?_ ?_; rotate_left; (intro w'; go_simp; with_reducible rfl); rotate_left; · simp only [nm_]; rfl
     refine done_ (by kernel_rfl) ?_
     go_wp2_with fail
     go_ret
     exact ⟨by rw [HPF.out]; rfl, Grew.trans HGw1.out HL.out⟩
    | false =>
     have HL0 := Aside0.mk hb2
     clear hb2
     cases hb3 : seenB q i p.f1 with
     | true =>
      have HL1 := Aside0.mk hb3
      clear hb3
      have HPF := Aside0.mk (HPB.out (by rw [HOK.out]; rw [HL0.out, HL1.out]; rfl))
      clear HPB HPS HOK
      go_wp2_with fail
      rw [← HE1.out]
      have HLK0 : Aside0 (∀ W, Grew W1 W → (Instr.lookup TMap (.map (some (w.heap.size + 1))) (I p.f0) false).run Try.prog W = .ok (.bool false) W) := ⟨fun W h => by have h2 := (HS1.out.later h).look p.f0 HW0.out; rw [HL0.out] at h2; exact h2⟩
      have HLK1 : Aside0 (∀ W, Grew W1 W → (Instr.lookup TMap (.map (some (w.heap.size + 1))) (I p.f1) false).run Try.prog W = .ok (.bool true) W) := ⟨fun W h => by have h2 := (HS1.out.later h).look p.f1 HW1.out; rw [HL1.out] at h2; exact h2⟩
      refine start_ (n := 30) (S := fun w' => w'.cell? ⟨w.heap.size, 0, none⟩ = some (I n) ∧ w'.cell? ⟨w.heap.size, 1, none⟩ = some (.slice A l.length c) ∧ w'.cell? ⟨wr.heap.size, 0, none⟩ = some (I p.f0) ∧ w'.cell? ⟨wr.heap.size, 1, none⟩ = some (I p.f1) ∧ (Instr.lookup TMap (.map (some (w.heap.size + 1))) (I p.f0) false).run Try.prog w' = .ok (.bool false) w' ∧ (Instr.lookup TMap (.map (some (w.heap.size + 1))) (I p.f1) false).run Try.prog w' = .ok (.bool true) w') (ds := []) (ar 0 30) (by kernel_rfl) rfl rfl ⟨(Below.cell (w := W1) (below_drew (Grew.refl W1)) (p := ⟨w.heap.size, 0, none⟩) hl0).trans k0, (Below.cell (w := W1) (below_drew (Grew.refl W1)) (p := ⟨w.heap.size, 1, none⟩) hl0).trans k1, (Below.cell (w := W1) (below_drew (Grew.refl W1)) (p := ⟨wr.heap.size, 0, none⟩) hl1).trans hp0, (Below.cell (w := W1) (below_drew (Grew.refl W1)) (p := ⟨wr.heap.size, 1, none⟩) hl1).trans hp1, HLK0.out _ (below_drew (Grew.refl W1)), HLK1.out _ (below_drew (Grew.refl W1))⟩ (fun hHeld => ?_)
      refine take_ (i := 0) (N := some 16) (v := ?_) (a' := ?_) (ar 1 29) rfl rfl (by kernel_rfl) (fun _ _ _ h => h) (Or.inl ⟨by rfl, ?_⟩) hHeld ?_ ?_
      rotate_left; · rintro w' ⟨s0, s1, s2, s3, s4, s5⟩; go_simp; with_reducible rfl
      rotate_left; · simp only [nm_]; rfl
      refine take_ (i := 1) (N := some 17) (v := ?_) (a' := ?_) (ar 2 28) rfl rfl (by kernel_rfl) (fun _ _ _ h => h) (Or.inl ⟨by rfl, ?_⟩) hHeld ?_ ?_
      rotate_left; · rintro w' ⟨s0, s1, s2, s3, s4, s5⟩; go_simp; with_reducible rfl
      rotate_left; · simp only [nm_]; rfl
      refine one_ (i := 2) (N := some 18) (ar 3 27) rfl rfl (by kernel_rfl) (by decide) (fun K hK => ?_)
      refine goes_ Try.func88 (by kernel_rfl) rfl #[.agg #[I n, .slice A l.length c], .agg #[I p.f0, I p.f1]] (by rfl) rfl rfl (by simp only [List.map_toArray, List.map_cons, List.map_nil]; rfl) ?_
      with_reducible refine (HIP.out _ (below_drew (Grew.refl W1))).mono ?_
      rintro e w3 ⟨rfl, hGa⟩
      refine ⟨_, rfl, ?_⟩
      have HL := Aside0.mk (Grew.trans (below_drew (Grew.refl W1)) hGa)
      clear hGa
      refine hK.out _ _ ⟨(Below.cell (w := W1) HL.out (p := ⟨w.heap.size, 0, none⟩) hl0).trans k0, (Below.cell (w := W1) HL.out (p := ⟨w.heap.size, 1, none⟩) hl0).trans k1, (Below.cell (w := W1) HL.out (p := ⟨wr.heap.size, 0, none⟩) hl1).trans hp0, (Below.cell (w := W1) HL.out (p := ⟨wr.heap.size, 1, none⟩) hl1).trans hp1, HLK0.out _ HL.out, HLK1.out _ HL.out⟩ (fun hHeld => ?_)
      clear hK K
      refine norm_ (a' := ?_) ?_ ?_
      rotate_left
      ·show Act.put _ (some 18) _ = _
       simp only [nm_]
       rfl
      refine pure_ (i := 3) (N := some 19) (v := ?_) (a' := ?_) (ar 4 26) rfl rfl (by kernel_rfl) (fun _ _ _ h => h) (Or.inl ⟨by rfl, ?_⟩) ?_ ?_; rotate_left; (intro w'; go_simp; with_reducible rfl); rotate_left; · simp only [nm_]; rfl
      refine pure_ (i := 4) (N := some 20) (v := ?_) (a' := ?_) (ar 5 25) rfl rfl (by kernel_rfl) (fun _ _ _ h => h) (Or.inl ⟨by rfl, ?_⟩) ?_ ?_; rotate_left; (intro w'; go_simp; with_reducible rfl); rotate_left; · simp only [nm_]; rfl
      refine pure_ (i := 5) (N := some 21) (v := ?_) (a' := ?_) (ar 6 24) rfl rfl (by kernel_rfl) (fun _ _ _ h => h) (Or.inl ⟨by rfl, ?_⟩) ?_ ?_; rotate_left; (intro w'; go_simp; with_reducible rfl); rotate_left; · simp only [nm_]; rfl
      refine pure_ (i := 6) (N := some 22) (v := ?_) (a' := ?_) (ar 7 23) rfl rfl (by kernel_rfl) (fun _ _ _ h => h) (Or.inl ⟨by rfl, ?_⟩) ?_ ?_; rotate_left; (intro w'; go_simp; with_reducible rfl); rotate_left; · simp only [nm_]; rfl
      refine take_ (i := 7) (N := some 23) (v := ?_) (a' := ?_) (ar 8 22) rfl rfl (by kernel_rfl) (fun _ _ _ h => h) (Or.inl ⟨by rfl, ?_⟩) hHeld ?_ ?_
      rotate_left; · rintro w' ⟨s0, s1, s2, s3, s4, s5⟩; go_simp; with_reducible rfl
      rotate_left; · simp only [nm_]; rfl
      refine take_ (i := 8) (N := some 24) (v := ?_) (a' := ?_) (ar 9 21) rfl rfl (by kernel_rfl) (fun _ _ _ h => h) (Or.inl ⟨by rfl, ?_⟩) hHeld ?_ ?_
      rotate_left; · rintro w' ⟨s0, s1, s2, s3, s4, s5⟩; go_simp; with_reducible rfl
      rotate_left; · simp only [nm_]; rfl
      refine pure_ (i := 9) (N := some 25) (v := ?_) (a' := ?_) (ar 10 20) rfl rfl (by kernel_rfl) (fun _ _ _ h => h) (Or.inl ⟨by rfl, ?_⟩) ?_ ?_; rotate_left; (intro w'; go_simp; with_reducible rfl); rotate_left; · simp only [nm_]; rfl
      refine pure_ (i := 10) (N := some 26) (v := ?_) (a' := ?_) (ar 11 19) rfl rfl (by kernel_rfl) (fun _ _ _ h => h) (Or.inl ⟨by rfl, ?_⟩) ?_ ?_; rotate_left; (intro w'; go_simp; with_reducible rfl); rotate_left; · simp only [nm_]; rfl
      refine pure_ (i := 11) (N := some 27) (v := ?_) (a' := ?_) (ar 12 18) rfl rfl (by kernel_rfl) (fun _ _ _ h => h) (Or.inl ⟨by rfl, ?_⟩) ?_ ?_; rotate_left; (intro w'; go_simp; with_reducible rfl); rotate_left; · simp only [nm_]; rfl
      refine pure_ (i := 12) (N := some 28) (v := ?_) (a' := ?_) (ar 13 17) rfl rfl (by kernel_rfl) (fun _ _ _ h => h) (Or.inl ⟨by rfl, ?_⟩) ?_ ?_; rotate_left; (intro w'; go_simp; with_reducible rfl); rotate_left; · simp only [nm_]; rfl
      refine take_ (i := 13) (N := some 29) (v := ?_) (a' := ?_) (ar 14 16) rfl rfl (by kernel_rfl) (fun _ _ _ h => h) (Or.inl ⟨by rfl, ?_⟩) hHeld ?_ ?_
      rotate_left; · rintro w' ⟨s0, s1, s2, s3, s4, s5⟩; go_simp; with_reducible rfl
      rotate_left; · simp only [nm_]; rfl
      refine take_ (i := 14) (N := some 30) (v := ?_) (a' := ?_) (ar 15 15) rfl rfl (by kernel_rfl) (fun _ _ _ h => h) (Or.inl ⟨by rfl, ?_⟩) hHeld ?_ ?_
      rotate_left; · rintro w' ⟨s0, s1, s2, s3, s4, s5⟩; go_simp; with_reducible rfl
      rotate_left; · simp only [nm_]; rfl
      refine pure_ (i := 15) (N := some 31) (v := ?_) (a' := ?_) (ar 16 14) rfl rfl (by kernel_rfl) (fun _ _ _ h => h) (Or.inl ⟨by rfl, ?_⟩) ?_ ?_; rotate_left; (intro w'; go_simp; with_reducible rfl); rotate_left; · simp only [nm_]; rfl
      refine pure_ (i := 16) (N := some 32) (v := ?_) (a' := ?_) (ar 17 13) rfl rfl (by kernel_rfl) (fun _ _ _ h => h) (Or.inl ⟨by rfl, ?_⟩) ?_ ?_; rotate_left; (intro w'; go_simp; with_reducible rfl); rotate_left; · simp only [nm_]; rfl
      refine pure_ (i := 17) (N := some 33) (v := undef) (a' := ?_) (ar 18 12) rfl rfl (by kernel_rfl) (fun _ _ _ h => h) (Or.inr ⟨by rfl, rfl⟩) ?_ ?_; rotate_left; · simp only [nm_]; rfl
      refine pure_ (i := 18) (N := some 34) (v := undef) (a' := ?_) (ar 19 11) rfl rfl (by kernel_rfl) (fun _ _ _ h => h) (Or.inr ⟨by rfl, rfl⟩) ?_ ?_; rotate_left; · simp only [nm_]; rfl
      refine pure_ (i := 19) (N := some 35) (v := undef) (a' := ?_) (ar 20 10) rfl rfl (by kernel_rfl) (fun _ _ _ h => h) (Or.inr ⟨by rfl, rfl⟩) ?_ ?_; rotate_left; · simp only [nm_]; rfl
      refine pure_ (i := 20) (N := some 36) (v := undef) (a' := ?_) (ar 21 9) rfl rfl (by kernel_rfl) (fun _ _ _ h => h) (Or.inr ⟨by rfl, rfl⟩) ?_ ?_; rotate_left; · simp only [nm_]; rfl
      refine pure_ (i := 21) (N := some 37) (v := undef) (a' := ?_) (ar 22 8) rfl rfl (by kernel_rfl) (fun _ _ _ h => h) (Or.inr ⟨by rfl, rfl⟩) ?_ ?_; rotate_left; · simp only [nm_]; rfl
      refine pure_ (i := 22) (N := some 38) (v := undef) (a' := ?_) (ar 23 7) rfl rfl (by kernel_rfl) (fun _ _ _ h => h) (Or.inr ⟨by rfl, rfl⟩) ?_ ?_; rotate_left; · simp only [nm_]; rfl
      refine pure_ (i := 23) (N := some 39) (v := undef) (a' := ?_) (ar 24 6) rfl rfl (by kernel_rfl) (fun _ _ _ h => h) (Or.inr ⟨by rfl, rfl⟩) ?_ ?_; rotate_left; · simp only [nm_]; rfl
      refine pure_ (i := 24) (N := some 40) (v := undef) (a' := ?_) (ar 25 5) rfl rfl (by kernel_rfl) (fun _ _ _ h => h) (Or.inr ⟨by rfl, rfl⟩) ?_ ?_; rotate_left; · simp only [nm_]; rfl
      refine pure_ (i := 25) (N := some 41) (v := undef) (a' := ?_) (ar 26 4) rfl rfl (by kernel_rfl) (fun _ _ _ h => h) (Or.inr ⟨by rfl, rfl⟩) ?_ ?_; rotate_left; · simp only [nm_]; rfl
      refine pure_ (i := 26) (N := some 42) (v := undef) (a' := ?_) (ar 27 3) rfl rfl (by kernel_rfl) (fun _ _ _ h => h) (Or.inr ⟨by rfl, rfl⟩) ?_ ?_; rotate_left; · simp only [nm_]; rfl
      refine pure_ (i := 27) (N := some 43) (v := undef) (a' := ?_) (ar 28 2) rfl rfl (by kernel_rfl) (fun _ _ _ h => h) (Or.inr ⟨by rfl, rfl⟩) ?_ ?_; rotate_left; · simp only [nm_]; rfl
      refine pure_ (i := 28) (N := some 44) (v := undef) (a' := ?_) (ar 29 1) rfl rfl (by kernel_rfl) (fun _ _ _ h => h) (Or.inr ⟨by rfl, rfl⟩) ?_ ?_; rotate_left; · simp only [nm_]; rfl
      refine pure_ (i := 29) (N := some 45) (v := ?_) (a' := ?_) (ar 30 0) rfl rfl (by kernel_rfl) (fun _ _ _ h => h) (Or.inl ⟨by rfl, ?_⟩) ?_ ?_; rotate_left; (intro w'; go_simp; with_reducible rfl); rotate_left; · simp only [nm_]; rfl
      refine done_ (by kernel_rfl) ?_
      go_wp2_with fail
      go_ret
      exact ⟨by rw [HPF.out]; rfl, Grew.trans HGw1.out HL.out⟩
     | false =>
      have HL1 := Aside0.mk hb3
      clear hb3
      by_cases hi0 : i = 0
      ·have hi0z : decide (0 < i) = false := decide_eq_false (by omega)
       have HI0 := Aside0.mk hi0
       clear hi0
       have HOK2 := Aside0.mk (HPS.out (by rw [HOK.out, HL0.out, HL1.out]; simp [HI0.out]))
       clear HPB HPS HOK
       go_wp2_with fail
       rw [← HE1.out]
       have HLK0 : Aside0 (∀ W, Grew W1 W → (Instr.lookup TMap (.map (some (w.heap.size + 1))) (I p.f0) false).run Try.prog W = .ok (.bool false) W) := ⟨fun W h => by have h2 := (HS1.out.later h).look p.f0 HW0.out; rw [HL0.out] at h2; exact h2⟩
       have HLK1 : Aside0 (∀ W, Grew W1 W → (Instr.lookup TMap (.map (some (w.heap.size + 1))) (I p.f1) false).run Try.prog W = .ok (.bool false) W) := ⟨fun W h => by have h2 := (HS1.out.later h).look p.f1 HW1.out; rw [HL1.out] at h2; exact h2⟩
       refine start_ (n := 30) (S := fun w' => w'.cell? ⟨w.heap.size, 0, none⟩ = some (I n) ∧ w'.cell? ⟨w.heap.size, 1, none⟩ = some (.slice A l.length c) ∧ w'.cell? ⟨wr.heap.size, 0, none⟩ = some (I p.f0) ∧ w'.cell? ⟨wr.heap.size, 1, none⟩ = some (I p.f1) ∧ (Instr.lookup TMap (.map (some (w.heap.size + 1))) (I p.f0) false).run Try.prog w' = .ok (.bool false) w' ∧ (Instr.lookup TMap (.map (some (w.heap.size + 1))) (I p.f1) false).run Try.prog w' = .ok (.bool false) w') (ds := []) (ar 0 30) (by kernel_rfl) rfl rfl ⟨(Below.cell (w := W1) (below_drew (Grew.refl W1)) (p := ⟨w.heap.size, 0, none⟩) hl0).trans k0, (Below.cell (w := W1) (below_drew (Grew.refl W1)) (p := ⟨w.heap.size, 1, none⟩) hl0).trans k1, (Below.cell (w := W1) (below_drew (Grew.refl W1)) (p := ⟨wr.heap.size, 0, none⟩) hl1).trans hp0, (Below.cell (w := W1) (below_drew (Grew.refl W1)) (p := ⟨wr.heap.size, 1, none⟩) hl1).trans hp1, HLK0.out _ (below_drew (Grew.refl W1)), HLK1.out _ (below_drew (Grew.refl W1))⟩ (fun hHeld => ?_)
       refine take_ (i := 0) (N := some 16) (v := ?_) (a' := ?_) (ar 1 29) rfl rfl (by kernel_rfl) (fun _ _ _ h => h) (Or.inl ⟨by rfl, ?_⟩) hHeld ?_ ?_
       rotate_left; · rintro w' ⟨s0, s1, s2, s3, s4, s5⟩; go_simp; with_reducible rfl
       rotate_left; · simp only [nm_]; rfl
       refine take_ (i := 1) (N := some 17) (v := ?_) (a' := ?_) (ar 2 28) rfl rfl (by kernel_rfl) (fun _ _ _ h => h) (Or.inl ⟨by rfl, ?_⟩) hHeld ?_ ?_
       rotate_left; · rintro w' ⟨s0, s1, s2, s3, s4, s5⟩; go_simp; with_reducible rfl
       rotate_left; · simp only [nm_]; rfl
       refine one_ (i := 2) (N := some 18) (ar 3 27) rfl rfl (by kernel_rfl) (by decide) (fun K hK => ?_)
       refine goes_ Try.func88 (by kernel_rfl) rfl #[.agg #[I n, .slice A l.length c], .agg #[I p.f0, I p.f1]] (by rfl) rfl rfl (by simp only [List.map_toArray, List.map_cons, List.map_nil]; rfl) ?_
       with_reducible refine (HIP.out _ (below_drew (Grew.refl W1))).mono ?_
       rintro e w3 ⟨rfl, hGa⟩
       refine ⟨_, rfl, ?_⟩
       have HL := Aside0.mk (Grew.trans (below_drew (Grew.refl W1)) hGa)
       clear hGa
       refine hK.out _ _ ⟨(Below.cell (w := W1) HL.out (p := ⟨w.heap.size, 0, none⟩) hl0).trans k0, (Below.cell (w := W1) HL.out (p := ⟨w.heap.size, 1, none⟩) hl0).trans k1, (Below.cell (w := W1) HL.out (p := ⟨wr.heap.size, 0, none⟩) hl1).trans hp0, (Below.cell (w := W1) HL.out (p := ⟨wr.heap.size, 1, none⟩) hl1).trans hp1, HLK0.out _ HL.out, HLK1.out _ HL.out⟩ (fun hHeld => ?_)
       clear hK K
       refine norm_ (a' := ?_) ?_ ?_
       rotate_left
       ·show Act.put _ (some 18) _ = _
        simp only [nm_]
        rfl
       refine pure_ (i := 3) (N := some 19) (v := ?_) (a' := ?_) (ar 4 26) rfl rfl (by kernel_rfl) (fun _ _ _ h => h) (Or.inl ⟨by rfl, ?_⟩) ?_ ?_; rotate_left; (intro w'; go_simp; with_reducible rfl); rotate_left; · simp only [nm_]; rfl
       refine pure_ (i := 4) (N := some 20) (v := ?_) (a' := ?_) (ar 5 25) rfl rfl (by kernel_rfl) (fun _ _ _ h => h) (Or.inl ⟨by rfl, ?_⟩) ?_ ?_; rotate_left; (intro w'; go_simp; with_reducible rfl); rotate_left; · simp only [nm_]; rfl
       refine pure_ (i := 5) (N := some 21) (v := ?_) (a' := ?_) (ar 6 24) rfl rfl (by kernel_rfl) (fun _ _ _ h => h) (Or.inl ⟨by rfl, ?_⟩) ?_ ?_; rotate_left; (intro w'; go_simp; with_reducible rfl); rotate_left; · simp only [nm_]; rfl
       refine pure_ (i := 6) (N := some 22) (v := ?_) (a' := ?_) (ar 7 23) rfl rfl (by kernel_rfl) (fun _ _ _ h => h) (Or.inl ⟨by rfl, ?_⟩) ?_ ?_; rotate_left; (intro w'; go_simp; with_reducible rfl); rotate_left; · simp only [nm_]; rfl
       refine take_ (i := 7) (N := some 23) (v := ?_) (a' := ?_) (ar 8 22) rfl rfl (by kernel_rfl) (fun _ _ _ h => h) (Or.inl ⟨by rfl, ?_⟩) hHeld ?_ ?_
       rotate_left; · rintro w' ⟨s0, s1, s2, s3, s4, s5⟩; go_simp; with_reducible rfl
       rotate_left; · simp only [nm_]; rfl
       refine take_ (i := 8) (N := some 24) (v := ?_) (a' := ?_) (ar 9 21) rfl rfl (by kernel_rfl) (fun _ _ _ h => h) (Or.inl ⟨by rfl, ?_⟩) hHeld ?_ ?_
       rotate_left; · rintro w' ⟨s0, s1, s2, s3, s4, s5⟩; go_simp; with_reducible rfl
       rotate_left; · simp only [nm_]; rfl
       refine pure_ (i := 9) (N := some 25) (v := ?_) (a' := ?_) (ar 10 20) rfl rfl (by kernel_rfl) (fun _ _ _ h => h) (Or.inl ⟨by rfl, ?_⟩) ?_ ?_; rotate_left; (intro w'; go_simp; with_reducible rfl); rotate_left; · simp only [nm_]; rfl
       refine pure_ (i := 10) (N := some 26) (v := ?_) (a' := ?_) (ar 11 19) rfl rfl (by kernel_rfl) (fun _ _ _ h => h) (Or.inl ⟨by rfl, ?_⟩) ?_ ?_; rotate_left; (intro w'; go_simp; with_reducible rfl); rotate_left; · simp only [nm_]; rfl
       refine pure_ (i := 11) (N := some 27) (v := ?_) (a' := ?_) (ar 12 18) rfl rfl (by kernel_rfl) (fun _ _ _ h => h) (Or.inl ⟨by rfl, ?_⟩) ?_ ?_; rotate_left; (intro w'; go_simp; with_reducible rfl); rotate_left; · simp only [nm_]; rfl
       refine pure_ (i := 12) (N := some 28) (v := ?_) (a' := ?_) (ar 13 17) rfl rfl (by kernel_rfl) (fun _ _ _ h => h) (Or.inl ⟨by rfl, ?_⟩) ?_ ?_; rotate_left; (intro w'; go_simp; with_reducible rfl); rotate_left; · simp only [nm_]; rfl
       refine take_ (i := 13) (N := some 29) (v := ?_) (a' := ?_) (ar 14 16) rfl rfl (by kernel_rfl) (fun _ _ _ h => h) (Or.inl ⟨by rfl, ?_⟩) hHeld ?_ ?_
       rotate_left; · rintro w' ⟨s0, s1, s2, s3, s4, s5⟩; go_simp; with_reducible rfl
       rotate_left; · simp only [nm_]; rfl
       refine take_ (i := 14) (N := some 30) (v := ?_) (a' := ?_) (ar 15 15) rfl rfl (by kernel_rfl) (fun _ _ _ h => h) (Or.inl ⟨by rfl, ?_⟩) hHeld ?_ ?_
       rotate_left; · rintro w' ⟨s0, s1, s2, s3, s4, s5⟩; go_simp; with_reducible rfl
       rotate_left; · simp only [nm_]; rfl
       refine pure_ (i := 15) (N := some 31) (v := ?_) (a' := ?_) (ar 16 14) rfl rfl (by kernel_rfl) (fun _ _ _ h => h) (Or.inl ⟨by rfl, ?_⟩) ?_ ?_; rotate_left; (intro w'; go_simp; with_reducible rfl); rotate_left; · simp only [nm_]; rfl
       refine pure_ (i := 16) (N := some 32) (v := ?_) (a' := ?_) (ar 17 13) rfl rfl (by kernel_rfl) (fun _ _ _ h => h) (Or.inl ⟨by rfl, ?_⟩) ?_ ?_; rotate_left; (intro w'; go_simp; with_reducible rfl); rotate_left; · simp only [nm_]; rfl
       refine pure_ (i := 17) (N := some 33) (v := ?_) (a' := ?_) (ar 18 12) rfl rfl (by kernel_rfl) (fun _ _ _ h => h) (Or.inl ⟨by rfl, ?_⟩) ?_ ?_; rotate_left; (intro w'; go_simp; with_reducible rfl); rotate_left; · simp only [nm_]; rfl
       refine pure_ (i := 18) (N := some 34) (v := ?_) (a' := ?_) (ar 19 11) rfl rfl (by kernel_rfl) (fun _ _ _ h => h) (Or.inl ⟨by rfl, ?_⟩) ?_ ?_; rotate_left; (intro w'; go_simp; with_reducible rfl); rotate_left; · simp only [nm_]; rfl
       refine pure_ (i := 19) (N := some 35) (v := ?_) (a' := ?_) (ar 20 10) rfl rfl (by kernel_rfl) (fun _ _ _ h => h) (Or.inl ⟨by rfl, ?_⟩) ?_ ?_; rotate_left; (intro w'; go_simp; with_reducible rfl); rotate_left; · simp only [nm_]; rfl
       refine pure_ (i := 20) (N := some 36) (v := undef) (a' := ?_) (ar 21 9) rfl rfl (by kernel_rfl) (fun _ _ _ h => h) (Or.inr ⟨by rfl, rfl⟩) ?_ ?_; rotate_left; · simp only [nm_]; rfl
       refine pure_ (i := 21) (N := some 37) (v := undef) (a' := ?_) (ar 22 8) rfl rfl (by kernel_rfl) (fun _ _ _ h => h) (Or.inr ⟨by rfl, rfl⟩) ?_ ?_; rotate_left; · simp only [nm_]; rfl
       refine pure_ (i := 22) (N := some 38) (v := undef) (a' := ?_) (ar 23 7) rfl rfl (by kernel_rfl) (fun _ _ _ h => h) (Or.inr ⟨by rfl, rfl⟩) ?_ ?_; rotate_left; · simp only [nm_]; rfl
       refine pure_ (i := 23) (N := some 39) (v := undef) (a' := ?_) (ar 24 6) rfl rfl (by kernel_rfl) (fun _ _ _ h => h) (Or.inr ⟨by rfl, rfl⟩) ?_ ?_; rotate_left; · simp only [nm_]; rfl
       refine pure_ (i := 24) (N := some 40) (v := undef) (a' := ?_) (ar 25 5) rfl rfl (by kernel_rfl) (fun _ _ _ h => h) (Or.inr ⟨by rfl, rfl⟩) ?_ ?_; rotate_left; · simp only [nm_]; rfl
       refine pure_ (i := 25) (N := some 41) (v := undef) (a' := ?_) (ar 26 4) rfl rfl (by kernel_rfl) (fun _ _ _ h => h) (Or.inr ⟨by rfl, rfl⟩) ?_ ?_; rotate_left; · simp only [nm_]; rfl
       refine pure_ (i := 26) (N := some 42) (v := undef) (a' := ?_) (ar 27 3) rfl rfl (by kernel_rfl) (fun _ _ _ h => h) (Or.inr ⟨by rfl, rfl⟩) ?_ ?_; rotate_left; · simp only [nm_]; rfl
       refine pure_ (i := 27) (N := some 43) (v := undef) (a' := ?_) (ar 28 2) rfl rfl (by kernel_rfl) (fun _ _ _ h => h) (Or.inr ⟨by rfl, rfl⟩) ?_ ?_; rotate_left; · simp only [nm_]; rfl
       refine pure_ (i := 28) (N := some 44) (v := ?_) (a' := ?_) (ar 29 1) rfl rfl (by kernel_rfl) (fun _ _ _ h => h) (Or.inl ⟨by rfl, ?_⟩) ?_ ?_; rotate_left; (intro w'; go_simp; with_reducible rfl); rotate_left; · simp only [nm_]; rfl
       refine pure_ (i := 29) (N := some 45) (v := ?_) (a' := ?_) (ar 30 0) rfl rfl (by kernel_rfl) (fun _ _ _ h => h) (Or.inl ⟨by rfl, ?_⟩) ?_ ?_; rotate_left; (intro w'; go_simp; with_reducible rfl); rotate_left; · simp only [nm_]; rfl
       refine done_ (by kernel_rfl) ?_
       have hbB := HSr.out.lt
       have HS4 := Aside0.mk (HS1.out.later HL.out)
       have HP4 := Aside0.mk (blk_below HP1.out HL.out)
       obtain ⟨w5, hr5, hS5, hg5⟩ := SetM.store (w := w3.drew) (HS4.out.same rfl) (by omega) p.f0 HW0.out true
       have HP5 := Aside0.mk (blk_grown (blk_drew HP4.out) hg5 (by simp; omega))
       obtain ⟨w6, hr6, hS6, hg6⟩ := SetM.store hS5 (by omega) p.f1 HW1.out true
       have HP6 := Aside0.mk (blk_grown HP5.out hg6 (by simp; omega))
       have HB6 := Aside0.mk (blk_grown (blk_grown (blk_drew (blk_below HB1.out HL.out)) hg5 (by simp)) hg6 (by simp))
       have HS6 := Aside0.mk hS6
       have HGL := Aside0.mk (Grew.trans HGw1.out HL.out)
       have hzl := HGL.out.size
       have HG6 := Aside0.mk (pw_below_grown (pw_below_grown (below_drew HGL.out) _ (by simp; omega) hg5 (fun k hk => by cases hk; omega)) _ (by have := hg5.size; simp at this; omega) hg6 (fun k hk => by cases hk; omega))
       clear hS5 hS6 hg5 hg6 hzl
       go_wp2_with fail
       refine start_ (n := 8) (S := fun w' => w'.cell? ⟨wr.heap.size, 0, none⟩ = some (I p.f0) ∧ w'.cell? ⟨wr.heap.size, 1, none⟩ = some (I p.f1)) (ds := []) (ar 0 8) (by kernel_rfl) rfl rfl ⟨blk_cell (blk_drew HP4.out) 0, blk_cell (blk_drew HP4.out) 1⟩ (fun hHeld => ?_)
       refine pure_ (i := 0) (N := some 46) (v := ?_) (a' := ?_) (ar 1 7) rfl rfl (by kernel_rfl) (fun _ _ _ h => h) (Or.inl ⟨by rfl, ?_⟩) ?_ ?_; rotate_left; (intro w'; go_simp; with_reducible rfl); rotate_left; · simp only [nm_]; rfl
       refine pure_ (i := 1) (N := some 47) (v := ?_) (a' := ?_) (ar 2 6) rfl rfl (by kernel_rfl) (fun _ _ _ h => h) (Or.inl ⟨by rfl, ?_⟩) ?_ ?_; rotate_left; (intro w'; go_simp; with_reducible rfl); rotate_left; · simp only [nm_]; rfl
       refine pure_ (i := 3) (N := some 49) (v := ?_) (a' := ?_) #[U,U,O,U,O,O,O,O] rfl rfl (by kernel_rfl) (fun _ _ _ h => h) (Or.inl ⟨by rfl, ?_⟩) ?_ ?_; rotate_left; (intro w'; go_simp; with_reducible rfl); rotate_left; · simp only [nm_]; rfl
       refine pure_ (i := 4) (N := some 50) (v := ?_) (a' := ?_) #[U,U,O,U,U,O,O,O] rfl rfl (by kernel_rfl) (fun _ _ _ h => h) (Or.inl ⟨by rfl, ?_⟩) ?_ ?_; rotate_left; (intro w'; go_simp; with_reducible rfl); rotate_left; · simp only [nm_]; rfl
       refine take_ (i := 2) (N := some 48) (v := ?_) (a' := ?_) (ar 5 3) rfl rfl (by kernel_rfl) (fun _ _ _ h => h) (Or.inl ⟨by rfl, ?_⟩) hHeld ?_ ?_
       rotate_left; · rintro w' ⟨s0, s1⟩; go_simp; with_reducible rfl
       rotate_left; · simp only [nm_]; rfl
       refine take_ (i := 5) (N := some 51) (v := ?_) (a' := ?_) (ar 6 2) rfl rfl (by kernel_rfl) (fun _ _ _ h => h) (Or.inl ⟨by rfl, ?_⟩) hHeld ?_ ?_
       rotate_left; · rintro w' ⟨s0, s1⟩; go_simp; with_reducible rfl
       rotate_left; · simp only [nm_]; rfl
       refine one_ (i := 6) (N := none) (ar 7 1) rfl rfl (by kernel_rfl) (by decide) (fun K hK => ?_)
       refine skip_ (w1 := w5) (by rfl) rfl ?_ ?_
       ·simp only [execOp]
        go_simp
       refine hK.out _ _ ⟨blk_cell HP5.out 0, blk_cell HP5.out 1⟩ (fun hHeld => ?_)
       clear hK K
       refine one_ (i := 7) (N := none) (ar 8 0) rfl rfl (by kernel_rfl) (by decide) (fun K hK => ?_)
       refine skip_ (w1 := w6) (by rfl) rfl ?_ ?_
       ·simp only [execOp]
        go_simp
       refine hK.out _ _ ⟨blk_cell HP6.out 0, blk_cell HP6.out 1⟩ (fun hHeld => ?_)
       clear hK K
       refine done_ (by kernel_rfl) ?_
       go_wp2_with fail
       go_roundg (q.length - (i + 1))
       case measure => omega
       case rel => exact ⟨i + 1, by omega, by omega, by go_num, HB6, ⟨(HS6.out.mono (by omega)).cong (fun x _ => by rw [HSS.out x]; exact upd_seen _ _ _ x)⟩, HG6, HOK2⟩
      ·obtain ⟨j, rfl⟩ : ∃ j, i = j + 1 := ⟨i - 1, by omega⟩
       have HWJ : Aside0 (wrap64 (j : Int) = (j : Int)) := ⟨by unfold wrap64; omega⟩
       have hj0 : 0 ≤ (j : Int) := by omega
       have hj0d : decide (0 < j + 1) = true := decide_eq_true (by omega)
       have hv := HPV.out (Nat.succ_pos j)
       rw [Nat.add_sub_cancel] at hv
       obtain ⟨hv0, hv1⟩ := hv
       have hl2 := World.block_lt_of_cell? wr _ hv0
       replace hv0 : W1.cell? (ad.add (j * 2)) = some (I r.f0) := (Below.cell HG1.out (p := ad.add (j * 2)) hl2).trans hv0
       replace hv1 : W1.cell? ⟨(ad.add (j * 2)).block, (ad.add (j * 2)).off + 1, none⟩ = some (I r.f1) := (Below.cell HG1.out (p := ⟨(ad.add (j * 2)).block, (ad.add (j * 2)).off + 1, none⟩) hl2).trans hv1
       replace hl2 := World.block_lt_of_cell? W1 _ hv0
       clear HPV
       have hj1 : ((j + 1 : Nat) : Int) - 1 = (j : Int) := by omega
       have hjp : (0 : Int) < ((j + 1 : Nat) : Int) := by omega
       have hjl : (j : Int) < (q.length : Int) := by omega
       by_cases hcv : cmp2 r.f0 r.f1 p.f0 p.f1 < 0
       ·have HCV := Aside0.mk hcv
        have hge : ¬ (0 ≤ cmp2 r.f0 r.f1 p.f0 p.f1) := by omega
        clear hcv
        have HOK2 := Aside0.mk (HPS.out (by rw [HOK.out, HL0.out, HL1.out]; simp [HCV.out]))
        clear HPB HPS HOK
        go_wp2_with fail
        rw [← HE1.out]
        have HLK0 : Aside0 (∀ W, Grew W1 W → (Instr.lookup TMap (.map (some (w.heap.size + 1))) (I p.f0) false).run Try.prog W = .ok (.bool false) W) := ⟨fun W h => by have h2 := (HS1.out.later h).look p.f0 HW0.out; rw [HL0.out] at h2; exact h2⟩
        have HLK1 : Aside0 (∀ W, Grew W1 W → (Instr.lookup TMap (.map (some (w.heap.size + 1))) (I p.f1) false).run Try.prog W = .ok (.bool false) W) := ⟨fun W h => by have h2 := (HS1.out.later h).look p.f1 HW1.out; rw [HL1.out] at h2; exact h2⟩
        have hwj := HWJ.out
        refine start_ (n := 30) (S := fun w' => w'.cell? ⟨w.heap.size, 0, none⟩ = some (I n) ∧ w'.cell? ⟨w.heap.size, 1, none⟩ = some (.slice A l.length c) ∧ w'.cell? ⟨wr.heap.size, 0, none⟩ = some (I p.f0) ∧ w'.cell? ⟨wr.heap.size, 1, none⟩ = some (I p.f1) ∧ w'.cell? (ad.add (j * 2)) = some (I r.f0) ∧ w'.cell? ⟨(ad.add (j * 2)).block, (ad.add (j * 2)).off + 1, none⟩ = some (I r.f1) ∧ (Instr.lookup TMap (.map (some (w.heap.size + 1))) (I p.f0) false).run Try.prog w' = .ok (.bool false) w' ∧ (Instr.lookup TMap (.map (some (w.heap.size + 1))) (I p.f1) false).run Try.prog w' = .ok (.bool false) w') (ds := []) (ar 0 30) (by kernel_rfl) rfl rfl ⟨(Below.cell (w := W1) (below_drew (Grew.refl W1)) (p := ⟨w.heap.size, 0, none⟩) hl0).trans k0, (Below.cell (w := W1) (below_drew (Grew.refl W1)) (p := ⟨w.heap.size, 1, none⟩) hl0).trans k1, (Below.cell (w := W1) (below_drew (Grew.refl W1)) (p := ⟨wr.heap.size, 0, none⟩) hl1).trans hp0, (Below.cell (w := W1) (below_drew (Grew.refl W1)) (p := ⟨wr.heap.size, 1, none⟩) hl1).trans hp1, (Below.cell (w := W1) (below_drew (Grew.refl W1)) (p := ad.add (j * 2)) hl2).trans hv0, (Below.cell (w := W1) (below_drew (Grew.refl W1)) (p := ⟨(ad.add (j * 2)).block, (ad.add (j * 2)).off + 1, none⟩) hl2).trans hv1, HLK0.out _ (below_drew (Grew.refl W1)), HLK1.out _ (below_drew (Grew.refl W1))⟩ (fun hHeld => ?_)
        refine take_ (i := 0) (N := some 16) (v := ?_) (a' := ?_) (ar 1 29) rfl rfl (by kernel_rfl) (fun _ _ _ h => h) (Or.inl ⟨by rfl, ?_⟩) hHeld ?_ ?_
        rotate_left; · rintro w' ⟨s0, s1, s2, s3, s4, s5, s6, s7⟩; go_simp; with_reducible rfl
        rotate_left; · simp only [nm_]; rfl
        refine take_ (i := 1) (N := some 17) (v := ?_) (a' := ?_) (ar 2 28) rfl rfl (by kernel_rfl) (fun _ _ _ h => h) (Or.inl ⟨by rfl, ?_⟩) hHeld ?_ ?_
        rotate_left; · rintro w' ⟨s0, s1, s2, s3, s4, s5, s6, s7⟩; go_simp; with_reducible rfl
        rotate_left; · simp only [nm_]; rfl
        refine one_ (i := 2) (N := some 18) (ar 3 27) rfl rfl (by kernel_rfl) (by decide) (fun K hK => ?_)
        refine goes_ Try.func88 (by kernel_rfl) rfl #[.agg #[I n, .slice A l.length c], .agg #[I p.f0, I p.f1]] (by rfl) rfl rfl (by simp only [List.map_toArray, List.map_cons, List.map_nil]; rfl) ?_
        with_reducible refine (HIP.out _ (below_drew (Grew.refl W1))).mono ?_
        rintro e w3 ⟨rfl, hGa⟩
        refine ⟨_, rfl, ?_⟩
        have HL := Aside0.mk (Grew.trans (below_drew (Grew.refl W1)) hGa)
        clear hGa
        refine hK.out _ _ ⟨(Below.cell (w := W1) HL.out (p := ⟨w.heap.size, 0, none⟩) hl0).trans k0, (Below.cell (w := W1) HL.out (p := ⟨w.heap.size, 1, none⟩) hl0).trans k1, (Below.cell (w := W1) HL.out (p := ⟨wr.heap.size, 0, none⟩) hl1).trans hp0, (Below.cell (w := W1) HL.out (p := ⟨wr.heap.size, 1, none⟩) hl1).trans hp1, (Below.cell (w := W1) HL.out (p := ad.add (j * 2)) hl2).trans hv0, (Below.cell (w := W1) HL.out (p := ⟨(ad.add (j * 2)).block, (ad.add (j * 2)).off + 1, none⟩) hl2).trans hv1, HLK0.out _ HL.out, HLK1.out _ HL.out⟩ (fun hHeld => ?_)
        clear hK K
        refine norm_ (a' := ?_) ?_ ?_
        rotate_left
        ·show Act.put _ (some 18) _ = _
         simp only [nm_]
         rfl
        refine pure_ (i := 3) (N := some 19) (v := ?_) (a' := ?_) (ar 4 26) rfl rfl (by kernel_rfl) (fun _ _ _ h => h) (Or.inl ⟨by rfl, ?_⟩) ?_ ?_; rotate_left; (intro w'; go_simp; with_reducible rfl); rotate_left; · simp only [nm_]; rfl
        refine pure_ (i := 4) (N := some 20) (v := ?_) (a' := ?_) (ar 5 25) rfl rfl (by kernel_rfl) (fun _ _ _ h => h) (Or.inl ⟨by rfl, ?_⟩) ?_ ?_; rotate_left; (intro w'; go_simp; with_reducible rfl); rotate_left; · simp only [nm_]; rfl
        refine pure_ (i := 5) (N := some 21) (v := ?_) (a' := ?_) (ar 6 24) rfl rfl (by kernel_rfl) (fun _ _ _ h => h) (Or.inl ⟨by rfl, ?_⟩) ?_ ?_; rotate_left; (intro w'; go_simp; with_reducible rfl); rotate_left; · simp only [nm_]; rfl
        refine pure_ (i := 6) (N := some 22) (v := ?_) (a' := ?_) (ar 7 23) rfl rfl (by kernel_rfl) (fun _ _ _ h => h) (Or.inl ⟨by rfl, ?_⟩) ?_ ?_; rotate_left; (intro w'; go_simp; with_reducible rfl); rotate_left; · simp only [nm_]; rfl
        refine take_ (i := 7) (N := some 23) (v := ?_) (a' := ?_) (ar 8 22) rfl rfl (by kernel_rfl) (fun _ _ _ h => h) (Or.inl ⟨by rfl, ?_⟩) hHeld ?_ ?_
        rotate_left; · rintro w' ⟨s0, s1, s2, s3, s4, s5, s6, s7⟩; go_simp; with_reducible rfl
        rotate_left; · simp only [nm_]; rfl
        refine take_ (i := 8) (N := some 24) (v := ?_) (a' := ?_) (ar 9 21) rfl rfl (by kernel_rfl) (fun _ _ _ h => h) (Or.inl ⟨by rfl, ?_⟩) hHeld ?_ ?_
        rotate_left; · rintro w' ⟨s0, s1, s2, s3, s4, s5, s6, s7⟩; go_simp; with_reducible rfl
        rotate_left; · simp only [nm_]; rfl
        refine pure_ (i := 9) (N := some 25) (v := ?_) (a' := ?_) (ar 10 20) rfl rfl (by kernel_rfl) (fun _ _ _ h => h) (Or.inl ⟨by rfl, ?_⟩) ?_ ?_; rotate_left; (intro w'; go_simp; with_reducible rfl); rotate_left; · simp only [nm_]; rfl
        refine pure_ (i := 10) (N := some 26) (v := ?_) (a' := ?_) (ar 11 19) rfl rfl (by kernel_rfl) (fun _ _ _ h => h) (Or.inl ⟨by rfl, ?_⟩) ?_ ?_; rotate_left; (intro w'; go_simp; with_reducible rfl); rotate_left; · simp only [nm_]; rfl
        refine pure_ (i := 11) (N := some 27) (v := ?_) (a' := ?_) (ar 12 18) rfl rfl (by kernel_rfl) (fun _ _ _ h => h) (Or.inl ⟨by rfl, ?_⟩) ?_ ?_; rotate_left; (intro w'; go_simp; with_reducible rfl); rotate_left; · simp only [nm_]; rfl
        refine pure_ (i := 12) (N := some 28) (v := ?_) (a' := ?_) (ar 13 17) rfl rfl (by kernel_rfl) (fun _ _ _ h => h) (Or.inl ⟨by rfl, ?_⟩) ?_ ?_; rotate_left; (intro w'; go_simp; with_reducible rfl); rotate_left; · simp only [nm_]; rfl
        refine take_ (i := 13) (N := some 29) (v := ?_) (a' := ?_) (ar 14 16) rfl rfl (by kernel_rfl) (fun _ _ _ h => h) (Or.inl ⟨by rfl, ?_⟩) hHeld ?_ ?_
        rotate_left; · rintro w' ⟨s0, s1, s2, s3, s4, s5, s6, s7⟩; go_simp; with_reducible rfl
        rotate_left; · simp only [nm_]; rfl
        refine take_ (i := 14) (N := some 30) (v := ?_) (a' := ?_) (ar 15 15) rfl rfl (by kernel_rfl) (fun _ _ _ h => h) (Or.inl ⟨by rfl, ?_⟩) hHeld ?_ ?_
        rotate_left; · rintro w' ⟨s0, s1, s2, s3, s4, s5, s6, s7⟩; go_simp; with_reducible rfl
        rotate_left; · simp only [nm_]; rfl
        refine pure_ (i := 15) (N := some 31) (v := ?_) (a' := ?_) (ar 16 14) rfl rfl (by kernel_rfl) (fun _ _ _ h => h) (Or.inl ⟨by rfl, ?_⟩) ?_ ?_; rotate_left; (intro w'; go_simp; with_reducible rfl); rotate_left; · simp only [nm_]; rfl
        refine pure_ (i := 16) (N := some 32) (v := ?_) (a' := ?_) (ar 17 13) rfl rfl (by kernel_rfl) (fun _ _ _ h => h) (Or.inl ⟨by rfl, ?_⟩) ?_ ?_; rotate_left; (intro w'; go_simp; with_reducible rfl); rotate_left; · simp only [nm_]; rfl
        refine pure_ (i := 17) (N := some 33) (v := ?_) (a' := ?_) (ar 18 12) rfl rfl (by kernel_rfl) (fun _ _ _ h => h) (Or.inl ⟨by rfl, ?_⟩) ?_ ?_; rotate_left; (intro w'; go_simp; with_reducible rfl); rotate_left; · simp only [nm_]; rfl
        refine pure_ (i := 18) (N := some 34) (v := ?_) (a' := ?_) (ar 19 11) rfl rfl (by kernel_rfl) (fun _ _ _ h => h) (Or.inl ⟨by rfl, ?_⟩) ?_ ?_; rotate_left; (intro w'; go_simp; with_reducible rfl); rotate_left; · simp only [nm_]; rfl
        refine pure_ (i := 19) (N := some 35) (v := ?_) (a' := ?_) (ar 20 10) rfl rfl (by kernel_rfl) (fun _ _ _ h => h) (Or.inl ⟨by rfl, ?_⟩) ?_ ?_; rotate_left; (intro w'; go_simp; with_reducible rfl); rotate_left; · simp only [nm_]; rfl
        refine pure_ (i := 20) (N := some 36) (v := ?_) (a' := ?_) (ar 21 9) rfl rfl (by kernel_rfl) (fun _ _ _ h => h) (Or.inl ⟨by rfl, ?_⟩) ?_ ?_; rotate_left; (intro w'; go_simp; with_reducible rfl); rotate_left; · simp only [nm_]; rfl
        refine pure_ (i := 21) (N := some 37) (v := ?_) (a' := ?_) (ar 22 8) rfl rfl (by kernel_rfl) (fun _ _ _ h => h) (Or.inl ⟨by rfl, ?_⟩) ?_ ?_; rotate_left; (intro w'; go_simp; with_reducible rfl); rotate_left; · simp only [nm_]; rfl
        refine pure_ (i := 22) (N := some 38) (v := ?_) (a' := ?_) (ar 23 7) rfl rfl (by kernel_rfl) (fun _ _ _ h => h) (Or.inl ⟨by rfl, ?_⟩) ?_ ?_; rotate_left; (intro w'; go_simp; with_reducible rfl); rotate_left; · simp only [nm_]; rfl
        refine pure_ (i := 23) (N := some 39) (v := ?_) (a' := ?_) (ar 24 6) rfl rfl (by kernel_rfl) (fun _ _ _ h => h) (Or.inl ⟨by rfl, ?_⟩) ?_ ?_; rotate_left; (intro w'; go_simp; with_reducible rfl); rotate_left; · simp only [nm_]; rfl
        refine take_ (i := 24) (N := some 40) (v := ?_) (a' := ?_) (ar 25 5) rfl rfl (by kernel_rfl) (fun _ _ _ h => h) (Or.inl ⟨by rfl, ?_⟩) hHeld ?_ ?_
        rotate_left; · rintro w' ⟨s0, s1, s2, s3, s4, s5, s6, s7⟩; go_simp; with_reducible rfl
        rotate_left; · simp only [nm_]; rfl
        refine take_ (i := 25) (N := some 41) (v := ?_) (a' := ?_) (ar 26 4) rfl rfl (by kernel_rfl) (fun _ _ _ h => h) (Or.inl ⟨by rfl, ?_⟩) hHeld ?_ ?_
        rotate_left; · rintro w' ⟨s0, s1, s2, s3, s4, s5, s6, s7⟩; go_simp; with_reducible rfl
        rotate_left; · simp only [nm_]; rfl
        refine one_ (i := 26) (N := some 42) (ar 27 3) rfl rfl (by kernel_rfl) (by decide) (fun K hK => ?_)
        refine goes_ Try.func110 (by kernel_rfl) rfl #[.agg #[I r.f0, I r.f1], .agg #[I p.f0, I p.f1]] (by rfl) rfl rfl (by simp only [List.map_toArray, List.map_cons, List.map_nil]; rfl) ?_
        with_reducible refine (HCP.out _).mono ?_
        rintro e w4 ⟨rfl, hGb⟩
        refine ⟨_, rfl, ?_⟩
        replace HL := Aside0.mk (Grew.trans HL.out hGb)
        clear hGb
        refine hK.out _ _ ⟨(Below.cell (w := W1) HL.out (p := ⟨w.heap.size, 0, none⟩) hl0).trans k0, (Below.cell (w := W1) HL.out (p := ⟨w.heap.size, 1, none⟩) hl0).trans k1, (Below.cell (w := W1) HL.out (p := ⟨wr.heap.size, 0, none⟩) hl1).trans hp0, (Below.cell (w := W1) HL.out (p := ⟨wr.heap.size, 1, none⟩) hl1).trans hp1, (Below.cell (w := W1) HL.out (p := ad.add (j * 2)) hl2).trans hv0, (Below.cell (w := W1) HL.out (p := ⟨(ad.add (j * 2)).block, (ad.add (j * 2)).off + 1, none⟩) hl2).trans hv1, HLK0.out _ HL.out, HLK1.out _ HL.out⟩ (fun hHeld => ?_)
        clear hK K
        refine norm_ (a' := ?_) ?_ ?_
        rotate_left
        ·show Act.put _ (some 42) _ = _
         simp only [nm_]
         rfl
        refine pure_ (i := 27) (N := some 43) (v := ?_) (a' := ?_) (ar 28 2) rfl rfl (by kernel_rfl) (fun _ _ _ h => h) (Or.inl ⟨by rfl, ?_⟩) ?_ ?_; rotate_left; (intro w'; go_simp; with_reducible rfl); rotate_left; · simp only [nm_]; rfl
        refine pure_ (i := 28) (N := some 44) (v := ?_) (a' := ?_) (ar 29 1) rfl rfl (by kernel_rfl) (fun _ _ _ h => h) (Or.inl ⟨by rfl, ?_⟩) ?_ ?_; rotate_left; (intro w'; go_simp; with_reducible rfl); rotate_left; · simp only [nm_]; rfl
        refine pure_ (i := 29) (N := some 45) (v := ?_) (a' := ?_) (ar 30 0) rfl rfl (by kernel_rfl) (fun _ _ _ h => h) (Or.inl ⟨by rfl, ?_⟩) ?_ ?_; rotate_left; (intro w'; go_simp; with_reducible rfl); rotate_left; · simp only [nm_]; rfl
        refine done_ (by kernel_rfl) ?_
        clear hwj
        have hbB := HSr.out.lt
        have HS4 := Aside0.mk (HS1.out.later HL.out)
        have HP4 := Aside0.mk (blk_below HP1.out HL.out)
        obtain ⟨w5, hr5, hS5, hg5⟩ := SetM.store (w := w4.drew) (HS4.out.same rfl) (by omega) p.f0 HW0.out true
        have HP5 := Aside0.mk (blk_grown (blk_drew HP4.out) hg5 (by simp; omega))
        obtain ⟨w6, hr6, hS6, hg6⟩ := SetM.store hS5 (by omega) p.f1 HW1.out true
        have HP6 := Aside0.mk (blk_grown HP5.out hg6 (by simp; omega))
        have HB6 := Aside0.mk (blk_grown (blk_grown (blk_drew (blk_below HB1.out HL.out)) hg5 (by simp)) hg6 (by simp))
        have HS6 := Aside0.mk hS6
        have HGL := Aside0.mk (Grew.trans HGw1.out HL.out)
        have hzl := HGL.out.size
        have HG6 := Aside0.mk (pw_below_grown (pw_below_grown (below_drew HGL.out) _ (by simp; omega) hg5 (fun k hk => by cases hk; omega)) _ (by have := hg5.size; simp at this; omega) hg6 (fun k hk => by cases hk; omega))
        clear hS5 hS6 hg5 hg6 hzl
        go_wp2_with fail
        refine start_ (n := 8) (S := fun w' => w'.cell? ⟨wr.heap.size, 0, none⟩ = some (I p.f0) ∧ w'.cell? ⟨wr.heap.size, 1, none⟩ = some (I p.f1)) (ds := []) (ar 0 8) (by kernel_rfl) rfl rfl ⟨blk_cell (blk_drew HP4.out) 0, blk_cell (blk_drew HP4.out) 1⟩ (fun hHeld => ?_)
        refine pure_ (i := 0) (N := some 46) (v := ?_) (a' := ?_) (ar 1 7) rfl rfl (by kernel_rfl) (fun _ _ _ h => h) (Or.inl ⟨by rfl, ?_⟩) ?_ ?_; rotate_left; (intro w'; go_simp; with_reducible rfl); rotate_left; · simp only [nm_]; rfl
        refine pure_ (i := 1) (N := some 47) (v := ?_) (a' := ?_) (ar 2 6) rfl rfl (by kernel_rfl) (fun _ _ _ h => h) (Or.inl ⟨by rfl, ?_⟩) ?_ ?_; rotate_left; (intro w'; go_simp; with_reducible rfl); rotate_left; · simp only [nm_]; rfl
        refine pure_ (i := 3) (N := some 49) (v := ?_) (a' := ?_) #[U,U,O,U,O,O,O,O] rfl rfl (by kernel_rfl) (fun _ _ _ h => h) (Or.inl ⟨by rfl, ?_⟩) ?_ ?_; rotate_left; (intro w'; go_simp; with_reducible rfl); rotate_left; · simp only [nm_]; rfl
        refine pure_ (i := 4) (N := some 50) (v := ?_) (a' := ?_) #[U,U,O,U,U,O,O,O] rfl rfl (by kernel_rfl) (fun _ _ _ h => h) (Or.inl ⟨by rfl, ?_⟩) ?_ ?_; rotate_left; (intro w'; go_simp; with_reducible rfl); rotate_left; · simp only [nm_]; rfl
        refine take_ (i := 2) (N := some 48) (v := ?_) (a' := ?_) (ar 5 3) rfl rfl (by kernel_rfl) (fun _ _ _ h => h) (Or.inl ⟨by rfl, ?_⟩) hHeld ?_ ?_
        rotate_left; · rintro w' ⟨s0, s1⟩; go_simp; with_reducible rfl
        rotate_left; · simp only [nm_]; rfl
        refine take_ (i := 5) (N := some 51) (v := ?_) (a' := ?_) (ar 6 2) rfl rfl (by kernel_rfl) (fun _ _ _ h => h) (Or.inl ⟨by rfl, ?_⟩) hHeld ?_ ?_
        rotate_left; · rintro w' ⟨s0, s1⟩; go_simp; with_reducible rfl
        rotate_left; · simp only [nm_]; rfl
        refine one_ (i := 6) (N := none) (ar 7 1) rfl rfl (by kernel_rfl) (by decide) (fun K hK => ?_)
        refine skip_ (w1 := w5) (by rfl) rfl ?_ ?_
        ·simp only [execOp]
         go_simp
        refine hK.out _ _ ⟨blk_cell HP5.out 0, blk_cell HP5.out 1⟩ (fun hHeld => ?_)
        clear hK K
        refine one_ (i := 7) (N := none) (ar 8 0) rfl rfl (by kernel_rfl) (by decide) (fun K hK => ?_)
        refine skip_ (w1 := w6) (by rfl) rfl ?_ ?_
        ·simp only [execOp]
         go_simp
        refine hK.out _ _ ⟨blk_cell HP6.out 0, blk_cell HP6.out 1⟩ (fun hHeld => ?_)
        clear hK K
        refine done_ (by kernel_rfl) ?_
        go_wp2_with fail
        go_roundg (q.length - ((j + 1) + 1))
        case measure => omega
        case rel => exact ⟨(j + 1) + 1, by omega, by omega, by go_num, HB6, ⟨(HS6.out.mono (by omega)).cong (fun x _ => by rw [HSS.out x]; exact upd_seen _ _ _ x)⟩, HG6, HOK2⟩
       ·have HCV := Aside0.mk hcv
        have hge : 0 ≤ cmp2 r.f0 r.f1 p.f0 p.f1 := by omega
        clear hcv
        have HPF := Aside0.mk (HPB.out (by rw [HOK.out]; rw [HL0.out, HL1.out]; simp [HCV.out]))
        clear HPB HPS HOK
        go_wp2_with fail
        rw [← HE1.out]
        have HLK0 : Aside0 (∀ W, Grew W1 W → (Instr.lookup TMap (.map (some (w.heap.size + 1))) (I p.f0) false).run Try.prog W = .ok (.bool false) W) := ⟨fun W h => by have h2 := (HS1.out.later h).look p.f0 HW0.out; rw [HL0.out] at h2; exact h2⟩
        have HLK1 : Aside0 (∀ W, Grew W1 W → (Instr.lookup TMap (.map (some (w.heap.size + 1))) (I p.f1) false).run Try.prog W = .ok (.bool false) W) := ⟨fun W h => by have h2 := (HS1.out.later h).look p.f1 HW1.out; rw [HL1.out] at h2; exact h2⟩
        have hwj := HWJ.out
        refine start_ (n := 30) (S := fun w' => w'.cell? ⟨w.heap.size, 0, none⟩ = some (I n) ∧ w'.cell? ⟨w.heap.size, 1, none⟩ = some (.slice A l.length c) ∧ w'.cell? ⟨wr.heap.size, 0, none⟩ = some (I p.f0) ∧ w'.cell? ⟨wr.heap.size, 1, none⟩ = some (I p.f1) ∧ w'.cell? (ad.add (j * 2)) = some (I r.f0) ∧ w'.cell? ⟨(ad.add (j * 2)).block, (ad.add (j * 2)).off + 1, none⟩ = some (I r.f1) ∧ (Instr.lookup TMap (.map (some (w.heap.size + 1))) (I p.f0) false).run Try.prog w' = .ok (.bool false) w' ∧ (Instr.lookup TMap (.map (some (w.heap.size + 1))) (I p.f1) false).run Try.prog w' = .ok (.bool false) w') (ds := []) (ar 0 30) (by kernel_rfl) rfl rfl ⟨(Below.cell (w := W1) (below_drew (Grew.refl W1)) (p := ⟨w.heap.size, 0, none⟩) hl0).trans k0, (Below.cell (w := W1) (below_drew (Grew.refl W1)) (p := ⟨w.heap.size, 1, none⟩) hl0).trans k1, (Below.cell (w := W1) (below_drew (Grew.refl W1)) (p := ⟨wr.heap.size, 0, none⟩) hl1).trans hp0, (Below.cell (w := W1) (below_drew (Grew.refl W1)) (p := ⟨wr.heap.size, 1, none⟩) hl1).trans hp1, (Below.cell (w := W1) (below_drew (Grew.refl W1)) (p := ad.add (j * 2)) hl2).trans hv0, (Below.cell (w := W1) (below_drew (Grew.refl W1)) (p := ⟨(ad.add (j * 2)).block, (ad.add (j * 2)).off + 1, none⟩) hl2).trans hv1, HLK0.out _ (below_drew (Grew.refl W1)), HLK1.out _ (below_drew (Grew.refl W1))⟩ (fun hHeld => ?_)
        refine take_ (i := 0) (N := some 16) (v := ?_) (a' := ?_) (ar 1 29) rfl rfl (by kernel_rfl) (fun _ _ _ h => h) (Or.inl ⟨by rfl, ?_⟩) hHeld ?_ ?_
        rotate_left; · rintro w' ⟨s0, s1, s2, s3, s4, s5, s6, s7⟩; go_simp; with_reducible rfl
        rotate_left; · simp only [nm_]; rfl
        refine take_ (i := 1) (N := some 17) (v := ?_) (a' := ?_) (ar 2 28) rfl rfl (by kernel_rfl) (fun _ _ _ h => h) (Or.inl ⟨by rfl, ?_⟩) hHeld ?_ ?_
        rotate_left; · rintro w' ⟨s0, s1, s2, s3, s4, s5, s6, s7⟩; go_simp; with_reducible rfl
        rotate_left; · simp only [nm_]; rfl
        refine one_ (i := 2) (N := some 18) (ar 3 27) rfl rfl (by kernel_rfl) (by decide) (fun K hK => ?_)
        refine goes_ Try.func88 (by kernel_rfl) rfl #[.agg #[I n, .slice A l.length c], .agg #[I p.f0, I p.f1]] (by rfl) rfl rfl (by simp only [List.map_toArray, List.map_cons, List.map_nil]; rfl) ?_
        with_reducible refine (HIP.out _ (below_drew (Grew.refl W1))).mono ?_
        rintro e w3 ⟨rfl, hGa⟩
        refine ⟨_, rfl, ?_⟩
        have HL := Aside0.mk (Grew.trans (below_drew (Grew.refl W1)) hGa)
        clear hGa
        refine hK.out _ _ ⟨(Below.cell (w := W1) HL.out (p := ⟨w.heap.size, 0, none⟩) hl0).trans k0, (Below.cell (w := W1) HL.out (p := ⟨w.heap.size, 1, none⟩) hl0).trans k1, (Below.cell (w := W1) HL.out (p := ⟨wr.heap.size, 0, none⟩) hl1).trans hp0, (Below.cell (w := W1) HL.out (p := ⟨wr.heap.size, 1, none⟩) hl1).trans hp1, (Below.cell (w := W1) HL.out (p := ad.add (j * 2)) hl2).trans hv0, (Below.cell (w := W1) HL.out (p := ⟨(ad.add (j * 2)).block, (ad.add (j * 2)).off + 1, none⟩) hl2).trans hv1, HLK0.out _ HL.out, HLK1.out _ HL.out⟩ (fun hHeld => ?_)
        clear hK K
        refine norm_ (a' := ?_) ?_ ?_
        rotate_left
        ·show Act.put _ (some 18) _ = _
         simp only [nm_]
         rfl
        refine pure_ (i := 3) (N := some 19) (v := ?_) (a' := ?_) (ar 4 26) rfl rfl (by kernel_rfl) (fun _ _ _ h => h) (Or.inl ⟨by rfl, ?_⟩) ?_ ?_; rotate_left; (intro w'; go_simp; with_reducible rfl); rotate_left; · simp only [nm_]; rfl
        refine pure_ (i := 4) (N := some 20) (v := ?_) (a' := ?_) (ar 5 25) rfl rfl (by kernel_rfl) (fun _ _ _ h => h) (Or.inl ⟨by rfl, ?_⟩) ?_ ?_; rotate_left; (intro w'; go_simp; with_reducible rfl); rotate_left; · simp only [nm_]; rfl
        refine pure_ (i := 5) (N := some 21) (v := ?_) (a' := ?_) (ar 6 24) rfl rfl (by kernel_rfl) (fun _ _ _ h => h) (Or.inl ⟨by rfl, ?_⟩) ?_ ?_; rotate_left; (intro w'; go_simp; with_reducible rfl); rotate_left; · simp only [nm_]; rfl
        refine pure_ (i := 6) (N := some 22) (v := ?_) (a' := ?_) (ar 7 23) rfl rfl (by kernel_rfl) (fun _ _ _ h => h) (Or.inl ⟨by rfl, ?_⟩) ?_ ?_; rotate_left; (intro w'; go_simp; with_reducible rfl); rotate_left; · simp only [nm_]; rfl
        refine take_ (i := 7) (N := some 23) (v := ?_) (a' := ?_) (ar 8 22) rfl rfl (by kernel_rfl) (fun _ _ _ h => h) (Or.inl ⟨by rfl, ?_⟩) hHeld ?_ ?_
        rotate_left; · rintro w' ⟨s0, s1, s2, s3, s4, s5, s6, s7⟩; go_simp; with_reducible rfl
        rotate_left; · simp only [nm_]; rfl
        refine take_ (i := 8) (N := some 24) (v := ?_) (a' := ?_) (ar 9 21) rfl rfl (by kernel_rfl) (fun _ _ _ h => h) (Or.inl ⟨by rfl, ?_⟩) hHeld ?_ ?_
        rotate_left; · rintro w' ⟨s0, s1, s2, s3, s4, s5, s6, s7⟩; go_simp; with_reducible rfl
        rotate_left; · simp only [nm_]; rfl
        refine pure_ (i := 9) (N := some 25) (v := ?_) (a' := ?_) (ar 10 20) rfl rfl (by kernel_rfl) (fun _ _ _ h => h) (Or.inl ⟨by rfl, ?_⟩) ?_ ?_; rotate_left; (intro w'; go_simp; with_reducible rfl); rotate_left; · simp only [nm_]; rfl
        refine pure_ (i := 10) (N := some 26) (v := ?_) (a' := ?_) (ar 11 19) rfl rfl (by kernel_rfl) (fun _ _ _ h => h) (Or.inl ⟨by rfl, ?_⟩) ?_ ?_; rotate_left; (intro w'; go_simp; with_reducible rfl); rotate_left; · simp only [nm_]; rfl
        refine pure_ (i := 11) (N := some 27) (v := ?_) (a' := ?_) (ar 12 18) rfl rfl (by kernel_rfl) (fun _ _ _ h => h) (Or.inl ⟨by rfl, ?_⟩) ?_ ?_; rotate_left; (intro w'; go_simp; with_reducible rfl); rotate_left; · simp only [nm_]; rfl
        refine pure_ (i := 12) (N := some 28) (v := ?_) (a' := ?_) (ar 13 17) rfl rfl (by kernel_rfl) (fun _ _ _ h => h) (Or.inl ⟨by rfl, ?_⟩) ?_ ?_; rotate_left; (intro w'; go_simp; with_reducible rfl); rotate_left; · simp only [nm_]; rfl
        refine take_ (i := 13) (N := some 29) (v := ?_) (a' := ?_) (ar 14 16) rfl rfl (by kernel_rfl) (fun _ _ _ h => h) (Or.inl ⟨by rfl, ?_⟩) hHeld ?_ ?_
        rotate_left; · rintro w' ⟨s0, s1, s2, s3, s4, s5, s6, s7⟩; go_simp; with_reducible rfl
        rotate_left; · simp only [nm_]; rfl
        refine take_ (i := 14) (N := some 30) (v := ?_) (a' := ?_) (ar 15 15) rfl rfl (by kernel_rfl) (fun _ _ _ h => h) (Or.inl ⟨by rfl, ?_⟩) hHeld ?_ ?_
        rotate_left; · rintro w' ⟨s0, s1, s2, s3, s4, s5, s6, s7⟩; go_simp; with_reducible rfl
        rotate_left; · simp only [nm_]; rfl
        refine pure_ (i := 15) (N := some 31) (v := ?_) (a' := ?_) (ar 16 14) rfl rfl (by kernel_rfl) (fun _ _ _ h => h) (Or.inl ⟨by rfl, ?_⟩) ?_ ?_; rotate_left; (intro w'; go_simp; with_reducible rfl); rotate_left; · simp only [nm_]; rfl
        refine pure_ (i := 16) (N := some 32) (v := ?_) (a' := ?_) (ar 17 13) rfl rfl (by kernel_rfl) (fun _ _ _ h => h) (Or.inl ⟨by rfl, ?_⟩) ?_ ?_; rotate_left; (intro w'; go_simp; with_reducible rfl); rotate_left; · simp only [nm_]; rfl
        refine pure_ (i := 17) (N := some 33) (v := ?_) (a' := ?_) (ar 18 12) rfl rfl (by kernel_rfl) (fun _ _ _ h => h) (Or.inl ⟨by rfl, ?_⟩) ?_ ?_; rotate_left; (intro w'; go_simp; with_reducible rfl); rotate_left; · simp only [nm_]; rfl
        refine pure_ (i := 18) (N := some 34) (v := ?_) (a' := ?_) (ar 19 11) rfl rfl (by kernel_rfl) (fun _ _ _ h => h) (Or.inl ⟨by rfl, ?_⟩) ?_ ?_; rotate_left; (intro w'; go_simp; with_reducible rfl); rotate_left; · simp only [nm_]; rfl
        refine pure_ (i := 19) (N := some 35) (v := ?_) (a' := ?_) (ar 20 10) rfl rfl (by kernel_rfl) (fun _ _ _ h => h) (Or.inl ⟨by rfl, ?_⟩) ?_ ?_; rotate_left; (intro w'; go_simp; with_reducible rfl); rotate_left; · simp only [nm_]; rfl
        refine pure_ (i := 20) (N := some 36) (v := ?_) (a' := ?_) (ar 21 9) rfl rfl (by kernel_rfl) (fun _ _ _ h => h) (Or.inl ⟨by rfl, ?_⟩) ?_ ?_; rotate_left; (intro w'; go_simp; with_reducible rfl); rotate_left; · simp only [nm_]; rfl
        refine pure_ (i := 21) (N := some 37) (v := ?_) (a' := ?_) (ar 22 8) rfl rfl (by kernel_rfl) (fun _ _ _ h => h) (Or.inl ⟨by rfl, ?_⟩) ?_ ?_; rotate_left; (intro w'; go_simp; with_reducible rfl); rotate_left; · simp only [nm_]; rfl
        refine pure_ (i := 22) (N := some 38) (v := ?_) (a' := ?_) (ar 23 7) rfl rfl (by kernel_rfl) (fun _ _ _ h => h) (Or.inl ⟨by rfl, ?_⟩) ?_ ?_; rotate_left; (intro w'; go_simp; with_reducible rfl); rotate_left; · simp only [nm_]; rfl
        refine pure_ (i := 23) (N := some 39) (v := ?_) (a' := ?_) (ar 24 6) rfl rfl (by kernel_rfl) (fun _ _ _ h => h) (Or.inl ⟨by rfl, ?_⟩) ?_ ?_; rotate_left; (intro w'; go_simp; with_reducible rfl); rotate_left; · simp only [nm_]; rfl
        refine take_ (i := 24) (N := some 40) (v := ?_) (a' := ?_) (ar 25 5) rfl rfl (by kernel_rfl) (fun _ _ _ h => h) (Or.inl ⟨by rfl, ?_⟩) hHeld ?_ ?_
        rotate_left; · rintro w' ⟨s0, s1, s2, s3, s4, s5, s6, s7⟩; go_simp; with_reducible rfl
        rotate_left; · simp only [nm_]; rfl
        refine take_ (i := 25) (N := some 41) (v := ?_) (a' := ?_) (ar 26 4) rfl rfl (by kernel_rfl) (fun _ _ _ h => h) (Or.inl ⟨by rfl, ?_⟩) hHeld ?_ ?_
        rotate_left; · rintro w' ⟨s0, s1, s2, s3, s4, s5, s6, s7⟩; go_simp; with_reducible rfl
        rotate_left; · simp only [nm_]; rfl
        refine one_ (i := 26) (N := some 42) (ar 27 3) rfl rfl (by kernel_rfl) (by decide) (fun K hK => ?_)
        refine goes_ Try.func110 (by kernel_rfl) rfl #[.agg #[I r.f0, I r.f1], .agg #[I p.f0, I p.f1]] (by rfl) rfl rfl (by simp only [List.map_toArray, List.map_cons, List.map_nil]; rfl) ?_
        with_reducible refine (HCP.out _).mono ?_
        rintro e w4 ⟨rfl, hGb⟩
        refine ⟨_, rfl, ?_⟩
        replace HL := Aside0.mk (Grew.trans HL.out hGb)
        clear hGb
        refine hK.out _ _ ⟨(Below.cell (w := W1) HL.out (p := ⟨w.heap.size, 0, none⟩) hl0).trans k0, (Below.cell (w := W1) HL.out (p := ⟨w.heap.size, 1, none⟩) hl0).trans k1, (Below.cell (w := W1) HL.out (p := ⟨wr.heap.size, 0, none⟩) hl1).trans hp0, (Below.cell (w := W1) HL.out (p := ⟨wr.heap.size, 1, none⟩) hl1).trans hp1, (Below.cell (w := W1) HL.out (p := ad.add (j * 2)) hl2).trans hv0, (Below.cell (w := W1) HL.out (p := ⟨(ad.add (j * 2)).block, (ad.add (j * 2)).off + 1, none⟩) hl2).trans hv1, HLK0.out _ HL.out, HLK1.out _ HL.out⟩ (fun hHeld => ?_)
        clear hK K
        refine norm_ (a' := ?_) ?_ ?_
        rotate_left
        ·show Act.put _ (some 42) _ = _
         simp only [nm_]
         rfl
        refine pure_ (i := 27) (N := some 43) (v := ?_) (a' := ?_) (ar 28 2) rfl rfl (by kernel_rfl) (fun _ _ _ h => h) (Or.inl ⟨by rfl, ?_⟩) ?_ ?_; rotate_left; (intro w'; go_simp; with_reducible rfl); rotate_left; · simp only [nm_]; rfl
        refine pure_ (i := 28) (N := some 44) (v := ?_) (a' := ?_) (ar 29 1) rfl rfl (by kernel_rfl) (fun _ _ _ h => h) (Or.inl ⟨by rfl, ?_⟩) ?_ ?_; rotate_left; (intro w'; go_simp; with_reducible rfl); rotate_left; · simp only [nm_]; rfl
        refine pure_ (i := 29) (N := some 45) (v := ?_) (a' := ?_) (ar 30 0) rfl rfl (by kernel_rfl) (fun _ _ _ h => h) (Or.inl ⟨by rfl, ?_⟩) ?_ ?_; rotate_left; (intro w'; go_simp; with_reducible rfl); rotate_left; · simp only [nm_]; rfl
        refine done_ (by kernel_rfl) ?_
        clear hwj
        go_wp2_with fail
        go_ret
        exact ⟨by rw [HPF.out]; rfl, Grew.trans HGw1.out HL.out⟩
  ·have hltz : ¬ (i : Int) < (q.length : Int) := by omega
   have HE : Aside0 (i = q.length) := ⟨by omega⟩
   have HPT := Aside0.mk (ping_true (l := l) (q := q) (fun j hj => HO.out j (by have := HE.out; omega)))
   go_wp2_with fail
   go_ret
   exact ⟨by rw [HPT.out]; rfl, HGr.out⟩

end Go.Proofs.Ytniikppojffiaaa.K
end

section
/- The code of a pairing. -/
namespace Go.Proofs.Ytniikppojffiaaa.K
open Go.RowKit Go.Shelf Go.Proofs.Ytniikppojffiaaa.Q Go.Proofs.YtniikppojffiaaaW.PrintWords Go.Proofs.YtniikppojffiaaaW.PrintLast Go.Proofs.YtniikppojffiaaaW.PrintMore
set_option linter.unusedVariables false
set_option linter.unusedSimpArgs false

set_option maxHeartbeats 2000000 in
theorem pairingCode1_calls (b : Bool) {n : Int} (A : Option Addr) (c : Nat) {l : List Int} (A2 : Option Addr) (c2 : Nat) (q : List PairT) {Bk Bq Bb : Nat} (w : World) (hi : isC n l = true) (h0 : CB w Bk n (.slice A l.length c)) (h1 : w.cell? ⟨Bq, 0, none⟩ = some (.slice A2 q.length c2)) (h2 : w.cell? ⟨Bb, 0, none⟩ = some (.bool b)) (hk : Kx w A c l) (hq : Kq.C w A2 q.length q) (hc2 : q.length ≤ c2) (hq2 : q.length ≤ 2097152) :
  Calls Try.prog 111 #[.pointer (some ⟨Bb, 0, none⟩), .pointer (some ⟨Bk, 0, none⟩), .pointer (some ⟨Bq, 0, none⟩)] w fun e w' => e = .returned (.bool (b && pingB l q)) ∧ Grew w w' := by
 have k0 := h0.c0
 have k1 := h0.c1
 cases b with
 | false =>
  go_enter Try.func111, Try.ntmps111
  go_wp2_with fail
  go_ret
  exact ⟨rfl, Grew.refl w⟩
 | true =>
  have H := Aside0.mk (isPairing_calls A c hi A2 c2 q w hk hq hc2 hq2)
  clear hk hq hc2
  rw [Bool.true_and]
  generalize pingB l q = r at H ⊢
  go_enter Try.func111, Try.ntmps111
  go_wp2_with fail
  refine H.out.mono ?_
  rintro e w1 ⟨rfl, hG1⟩
  go_wp2_with fail
  go_ret
  exact ⟨rfl, hG1⟩
set_option maxHeartbeats 2000000 in
theorem pairingCode_calls (b : Bool) (n : Int) (A : Option Addr) (c : Nat) (l : List Int) (A2 : Option Addr) (c2 : Nat) (q : List PairT) (w : World) (hk : Kx w A c l) (hq : Kq.C w A2 q.length q) (hc2 : q.length ≤ c2) (hq2 : q.length ≤ 2097152) :
  Calls Try.prog 68 #[.agg #[I n, .slice A l.length c], .slice A2 q.length c2, .bool b] w fun e w' => e = .returned (I (codeOf n l (b && pingB l q))) ∧ Grew w w' := by
 obtain ⟨W, hW⟩ : ∃ W, W = ((w.alloc (.cells #[I n, .slice A l.length c] 30)).alloc (.cells #[.slice A2 q.length c2] 32)).alloc (.cells #[.bool b] 4) := ⟨_, rfl⟩
 have hB : CB W w.heap.size n (.slice A l.length c) := by rw [hW]; exact blk_alloc (blk_alloc (blk_new w _) _) _
 have hL : W.heap[w.heap.size + 1]? = some (.cells #[.slice A2 q.length c2] 32 (0, 0)) := by
  rw [hW]
  refine blk_alloc ?_ _
  have := blk_new (w.alloc (.cells #[I n, .slice A l.length c] 30)) (.cells #[.slice A2 q.length c2] 32)
  rwa [World.size_alloc] at this
 have hb : W.heap[w.heap.size + 2]? = some (.cells #[.bool b] 4 (0, 0)) := by
  rw [hW]
  have := blk_new ((w.alloc (.cells #[I n, .slice A l.length c] 30)).alloc (.cells #[.slice A2 q.length c2] 32)) (.cells #[.bool b] 4)
  rwa [World.size_alloc, World.size_alloc] at this
 have hg : Grew w W := by rw [hW]; exact below_alloc (below_alloc (below_alloc (Grew.refl w) _) _) _
 have H := Aside0.mk (complexCode_calls (b && pingB l q) n A c l 111 #[] #[.pointer (some ⟨w.heap.size + 2, 0, none⟩), .pointer (some ⟨w.heap.size, 0, none⟩), .pointer (some ⟨w.heap.size + 1, 0, none⟩)] W (hk.later hg) (enters_of Try.func111 (by kernel_rfl) rfl)
  (fun hi W2 hW2 => by
   have := pairingCode1_calls b A c A2 c2 q W2 hi (blk_below hB hW2) (blk_cell (blk_below hL hW2) 0) (blk_cell (blk_below hb hW2) 0) (hk.later (Grew.trans hg hW2)) (Kd.C_below hq (Grew.trans hg hW2)) hc2 hq2
   rw [Array.empty_append]
   exact this))
 have k0 := hB.c0
 have k1 := hB.c1
 have HG := Aside0.mk hg
 clear hk hq hc2 hB hL hb hg
 generalize codeOf n l (b && pingB l q) = cc at H ⊢
 subst hW
 go_enter Try.func68, Try.ntmps68
 go_wp2_with fail
 refine H.out.mono ?_
 rintro e w1 ⟨rfl, hG1⟩
 go_wp2_with fail
 go_ret
 exact ⟨rfl, Grew.trans HG.out hG1⟩

end Go.Proofs.Ytniikppojffiaaa.K
end

section
/- Acyclic pairings; the faces on cycles. -/
namespace Go.Proofs.Ytniikppojffiaaa.K
open Go.RowKit Go.Shelf Go.Proofs.Ytniikppojffiaaa.Q Go.Proofs.YtniikppojffiaaaW.PrintWords Go.Proofs.YtniikppojffiaaaW.PrintLast Go.Proofs.YtniikppojffiaaaW.PrintMore
set_option linter.unusedVariables false
set_option linter.unusedSimpArgs false

theorem cmp_fst (a b c d : Int) (h : cmp2 a b c d < 0) : a < c ∨ (a = c ∧ b < d) := by
  unfold cmp2 cmp1 at h
  repeat' split at h
  all_goals omega
theorem ping_asc {n : Int} {l : List Int} (hi : isC n l = true) {q : List PairT} (h : pingB l q = true) : ∀ i (hi : i < q.length), (i : Int) + 1 ≤ q[i].f0 ∧ (q[i].f0 ∈ l ∧ 1 ≤ q[i].f0 ∧ q[i].f0 ≤ 63) ∧ (q[i].f1 ∈ l ∧ 1 ≤ q[i].f1 ∧ q[i].f1 ≤ 63) := by
  intro i
  induction i with
  | zero =>
    intro h0
    have h1 := ping_at h 0 h0
    rw [okAt_eq l q 0 h0] at h1
    simp only [Bool.and_eq_true] at h1
    obtain ⟨m0, m1, _, _⟩ := pairK_mem hi h1.1.1.1
    exact ⟨by have := m0.2.1; simpa using this, m0, m1⟩
  | succ i ih =>
    intro h0
    have h1 := ping_at h (i + 1) h0
    rw [okAt_eq l q (i + 1) h0] at h1
    simp only [Bool.and_eq_true] at h1
    obtain ⟨m0, m1, _, _⟩ := pairK_mem hi h1.1.1.1
    refine ⟨?_, m0, m1⟩
    have hp := (ih (by omega)).1
    have h2 := h1.2
    simp only [Nat.add_eq_zero_iff, Nat.succ_ne_zero, and_false, beq_iff_eq, Bool.or_eq_true, decide_eq_true_eq, Nat.add_sub_cancel] at h2
    have hg : q.getD i z53 = q[i]'(by omega) := by simp [show i < q.length by omega]
    rw [hg] at h2
    rcases h2 with h2 | h2
    · exact absurd h2 (by simp)
    have hs := h1.1.1.2
    have hs2 : q[i + 1].f0 ≠ (q[i]'(by omega)).f0 := by
      intro e
      unfold seenB at hs
      simp only [Bool.not_eq_true', List.any_eq_false] at hs
      have := hs (q[i]'(by omega)) (List.mem_iff_getElem.2 ⟨i, by simp; omega, by simp⟩)
      simp [e] at this
    have := cmp_fst _ _ _ _ h2
    omega
theorem ping_good {n : Int} {l : List Int} (hi : isC n l = true) {q : List PairT} (h : pingB l q = true) : GoodQ q := by
  refine ⟨?_, fun p hp => ?_, fun p hp => ?_⟩
  · rcases Nat.lt_or_ge 63 q.length with h1 | h1
    · have := ping_asc hi h 63 h1
      omega
    · exact h1
  · obtain ⟨i, hl, rfl⟩ := List.mem_iff_getElem.1 hp
    exact (ping_asc hi h i hl).2.1.2
  · obtain ⟨i, hl, rfl⟩ := List.mem_iff_getElem.1 hp
    exact (ping_asc hi h i hl).2.2.2

end Go.Proofs.Ytniikppojffiaaa.K
end

section
/- The reference's falling pairs come to what the program's come to. -/
namespace Go.Proofs.Ytniikppojffiaaa.K
open Go.RowKit Go.Shelf Go.Proofs.Ytniikppojffiaaa.Q Go.Proofs.YtniikppojffiaaaW.PrintWords Go.Proofs.YtniikppojffiaaaW.PrintLast Go.Proofs.YtniikppojffiaaaW.PrintMore
set_option linter.unusedVariables false
set_option linter.unusedSimpArgs false

theorem closedB {n : Int} {l : List Int} (hC : isC n l = true) : ∀ a ∈ l, ∀ x ∈ bords a, x ∈ l := fun a ha x hx => closed_mem hC a ha x hx
theorem hasD {n : Int} {l : List Int} (hC : isC n l = true) (x : Int) : hasB l x = decide (x ∈ l) := has_asc l x (by have := (isC_faces hC).2.2.2; omega) (isC_faces hC).2.1
end Go.Proofs.Ytniikppojffiaaa.K
end

section
/- Written by a program of this session (myprint.py over the kit's print). -/
namespace Go.Proofs.Ytniikppojffiaaa.Q
open Go.RowKit Go.Proofs.YtniikppojffiaaaW.PrintWords Go.Proofs.YtniikppojffiaaaW.PrintLast Go.Proofs.YtniikppojffiaaaW.PrintMore
attribute [local go_sem] max2_int min2_int max_two min_two max_three min_three max_four min_four   -- for this text's walks alone
set_option linter.unusedVariables false
set_option linter.unusedSimpArgs false

/-! ### spec_CriticalNumbers: function 32 -/
/-! ### spec_l02High: function 97 -/
def spec_l02High.l0 : Nat → List (S53) → Int → Int → Option (Int)
 | 0, _, _, _ => none
 | k + 1, x0, x1, x5 => if x5 < (x0.length : Int) then (if 0 ≤ x5 then (if ((rd_T53 x0 x5).f0) = x1 then (some ((rd_T53 x0 x5).f1)) else (spec_l02High.l0 k x0 x1 (wrap64 (x5 + 1)))) else (none)) else (some 0)
def spec_l02High.f (k : Nat) (l0 : List (S53)) (a1 : Int) : Option (Int) := spec_l02High.l0 k l0 a1 0
theorem spec_l02High.mono_l : ∀ k, (∀ y0 y1 y2, LeO (spec_l02High.l0 k y0 y1 y2) (spec_l02High.l0 (k + 1) y0 y1 y2))
 | 0 => fun _ _ _ r h => by simp [spec_l02High.l0] at h
 | k + 1 => by
  have ih0 := spec_l02High.mono_l k
  ·intro y0 y1 y2
   unfold spec_l02High.l0
   repeat' first
   | (with_reducible exact ih0 _ _ _)
   | (with_reducible exact LeO.refl _)
   | (with_reducible exact LeO.none _)
   | (with_reducible refine LeO.ite ?_ ?_)
   | (with_reducible refine LeO.bind ?_ (fun _ => ?_))
   | exact ih0 _ _ _
   | exact LeO.none _
   | refine LeO.ite ?_ ?_
   | refine LeO.bind ?_ (fun _ => ?_)
theorem spec_l02High.mono : ∀ a0 a1 k, LeO (spec_l02High.f k a0 a1) (spec_l02High.f (k + 1) a0 a1) := by
 intro a0 a1 k
 have ih0 := spec_l02High.mono_l k
 unfold spec_l02High.f
 repeat' first
   | (with_reducible exact ih0 _ _ _)
   | (with_reducible exact LeO.refl _)
   | (with_reducible exact LeO.none _)
   | (with_reducible refine LeO.ite ?_ ?_)
   | (with_reducible refine LeO.bind ?_ (fun _ => ?_))
   | exact ih0 _ _ _
   | exact LeO.none _
   | refine LeO.ite ?_ ?_
   | refine LeO.bind ?_ (fun _ => ?_)
set_option maxHeartbeats 8000000 in
set_option maxRecDepth 100000 in
theorem spec_l02High.calls (k : Nat) (A0 : Option Addr) (c0 : Nat) (l0 : List (S53)) (a1 : Int) (r : Int) (w : World) (hr0 : Kd.C k53 w A0 l0.length l0) (hc0 : l0.length ≤ c0) (h : spec_l02High.f k l0 a1 = some r) :
  Calls Try.prog 97 #[.slice A0 l0.length c0, .int .i64 a1] w fun e w' => e = .returned (.int .i64 r) ∧ Drawn0 w w' := by
 have HR0 := Aside0.mk hr0
 have HC0 := Aside0.mk hc0
 clear hr0 hc0
 have H : (spec_l02High.l0 k l0 a1 0) = some r := h
 clear h
 have H' := Aside0.mk H
 clear H
 go_enter Try.func97, Try.ntmps97
 go_wp2
 go_loopg [5] k (fun kq v5 w' => ∃ (x5_1 : Int), v5 = .int .i64 x5_1 ∧ Aside0 (spec_l02High.l0 kq l0 a1 x5_1 = some r) ∧ Aside0 (kq ≤ k) ∧ Drawn0 w w')
 case atStart => exact ⟨(0), (by first | rfl | (simp; done) | (simp [*]; done)), H', ⟨Nat.le_refl _⟩, by repeat (first | exact Drawn0.refl _ | apply Drawn0.step)⟩
 case round =>
  clear H'
  try clear p2
  obtain ⟨x5_1, rfl, HA, HK1, ⟨m1, rfl⟩⟩ := hrel
  cases gk with
  | zero => exact absurd HA.out (by simp [spec_l02High.l0])
  | succ k1 =>
   have H := HA.out
   clear HA
   simp only [spec_l02High.l0] at H
   by_cases c3 : x5_1 < (l0.length : Int)
   ·rw [if_pos c3] at H
    have c3b0 : decide (x5_1 < (l0.length : Int)) = true := decide_eq_true c3
    clear c3
    by_cases c4 : 0 ≤ x5_1
    ·rw [if_pos c4] at H
     have c4b0 : decide (0 ≤ x5_1) = true := decide_eq_true c4
     clear c4
     by_cases c5 : ((rd_T53 l0 x5_1).f0) = a1
     ·rw [if_pos c5] at H
      have c5b0 : (((rd_T53 l0 x5_1).f0) == a1) = true := beq_iff_eq.mpr c5
      have c5b1 : (((rd_T53 l0 x5_1).f0) != a1) = false := bne_eq_false_iff_eq.mpr c5
      clear c5
      obtain rfl := Option.some.inj H
      have p188 : 0 ≤ (x5_1 : Int) := of_decide_eq_true (by first | (with_reducible assumption) | assumption)
      have q188 : x5_1 < (l0.length : Int) := of_decide_eq_true (by first | (with_reducible assumption) | assumption)
      obtain ⟨ad188, e188, hx188_0, hx188_1⟩ := at_T53 HR0.out x5_1 p188 q188
      cases e188
      replace p188 := eq_true p188
      replace q188 := eq_true q188
      have p189 : 0 ≤ (x5_1 : Int) := of_decide_eq_true (by first | (with_reducible assumption) | assumption)
      have q189 : x5_1 < (l0.length : Int) := of_decide_eq_true (by first | (with_reducible assumption) | assumption)
      obtain ⟨ad189, e189, hx189_0, hx189_1⟩ := at_T53 HR0.out x5_1 p189 q189
      obtain rfl : ad188 = ad189 := (by injection e189)
      replace p189 := eq_true p189
      replace q189 := eq_true q189
      go_wp2
      go_ret
      exact ⟨by first | rfl | (simp; done) | (simp [*]; done), by repeat (first | exact Drawn0.refl _ | apply Drawn0.step)⟩
     ·rw [if_neg c5] at H
      have c5b0 : (((rd_T53 l0 x5_1).f0) == a1) = false := beq_eq_false_iff_ne.mpr c5
      have c5b1 : (((rd_T53 l0 x5_1).f0) != a1) = true := bne_iff_ne.mpr c5
      have H' := Aside0.mk H
      clear H
      have p188 : 0 ≤ (x5_1 : Int) := of_decide_eq_true (by first | (with_reducible assumption) | assumption)
      have q188 : x5_1 < (l0.length : Int) := of_decide_eq_true (by first | (with_reducible assumption) | assumption)
      obtain ⟨ad188, e188, hx188_0, hx188_1⟩ := at_T53 HR0.out x5_1 p188 q188
      cases e188
      replace p188 := eq_true p188
      replace q188 := eq_true q188
      go_wp2
      go_roundg k1
      case measure => have := HK1.out; omega
      case rel => exact ⟨(wrap64 (x5_1 + 1)), (by first | rfl | (simp; done) | (simp [*]; done)), H', ⟨by have := HK1.out; omega⟩, by repeat (first | exact Drawn0.refl _ | apply Drawn0.step)⟩
    ·rw [if_neg c4] at H
     exact absurd H (by simp)
   ·rw [if_neg c3] at H
    have c3b0 : decide (x5_1 < (l0.length : Int)) = false := decide_eq_false c3
    clear c3
    obtain rfl := Option.some.inj H
    go_wp2
    go_ret
    exact ⟨by first | rfl | (simp; done) | (simp [*]; done), by repeat (first | exact Drawn0.refl _ | apply Drawn0.step)⟩

/-! ### spec_l02Next: function 122 -/
def spec_l02Next.l0 : Nat → Int → List Int → List Int → Int → Option (List Int)
 | 0, _, _, _, _ => none
 | k + 1, x1, x6, x7, x8 => if x8 < (x7.length : Int) then (if 0 ≤ x8 then (if (rd x7 x8) = x1 then (spec_l02Next.l0 k x1 x6 x7 (wrap64 (x8 + 1))) else (if x6.length < 17592186044416 then (spec_l02Next.l0 k x1 (x6 ++ [rd x7 x8]) x7 (wrap64 (x8 + 1))) else (none))) else (none)) else (some x6)
def spec_l02Next.f (k : Nat) (l0 : List (S53)) (a1 : Int) : Option (List Int) := (spec_l02High.f k l0 a1).bind fun t190 => ((some (([] : List Int) : List Int)).bind fun y191 => (if t190 = 0 then (some y191) else ((spec_l01Below.f k t190).bind fun t194 => (spec_l02Next.l0 k a1 y191 t194 0))))
theorem spec_l02Next.mono_l : ∀ k, (∀ y0 y1 y2 y3, LeO (spec_l02Next.l0 k y0 y1 y2 y3) (spec_l02Next.l0 (k + 1) y0 y1 y2 y3))
 | 0 => fun _ _ _ _ r h => by simp [spec_l02Next.l0] at h
 | k + 1 => by
  have ih0 := spec_l02Next.mono_l k
  ·intro y0 y1 y2 y3
   unfold spec_l02Next.l0
   repeat' first
   | (with_reducible exact ih0 _ _ _ _)
   | (with_reducible exact spec_l01Below.mono _ _)
   | (with_reducible exact spec_l02High.mono _ _ _)
   | (with_reducible exact LeO.refl _)
   | (with_reducible exact LeO.none _)
   | (with_reducible refine LeO.ite ?_ ?_)
   | (with_reducible refine LeO.bind ?_ (fun _ => ?_))
   | exact ih0 _ _ _ _
   | exact spec_l01Below.mono _ _
   | exact spec_l02High.mono _ _ _
   | exact LeO.none _
   | refine LeO.ite ?_ ?_
   | refine LeO.bind ?_ (fun _ => ?_)
theorem spec_l02Next.mono : ∀ a0 a1 k, LeO (spec_l02Next.f k a0 a1) (spec_l02Next.f (k + 1) a0 a1) := by
 intro a0 a1 k
 have ih0 := spec_l02Next.mono_l k
 unfold spec_l02Next.f
 repeat' first
   | (with_reducible exact ih0 _ _ _ _)
   | (with_reducible exact spec_l01Below.mono _ _)
   | (with_reducible exact spec_l02High.mono _ _ _)
   | (with_reducible exact LeO.refl _)
   | (with_reducible exact LeO.none _)
   | (with_reducible refine LeO.ite ?_ ?_)
   | (with_reducible refine LeO.bind ?_ (fun _ => ?_))
   | exact ih0 _ _ _ _
   | exact spec_l01Below.mono _ _
   | exact spec_l02High.mono _ _ _
   | exact LeO.none _
   | refine LeO.ite ?_ ?_
   | refine LeO.bind ?_ (fun _ => ?_)
set_option maxHeartbeats 8000000 in
set_option maxRecDepth 100000 in
theorem spec_l02Next.calls (k : Nat) (A0 : Option Addr) (c0 : Nat) (l0 : List (S53)) (a1 : Int) (r : List Int) (w : World) (hr0 : Kd.C k53 w A0 l0.length l0) (hc0 : l0.length ≤ c0) (h : spec_l02Next.f k l0 a1 = some r) :
  Calls Try.prog 122 #[.slice A0 l0.length c0, .int .i64 a1] w fun e w' => ∃ v0_ : Value, e = .returned (v0_) ∧ Kd.R (Kd.int .i64) 2 w' w.heap.size (fun _ => True) v0_ r ∧ Below w.heap.size w w' := by
 have HR0 := Aside0.mk hr0
 have HC0 := Aside0.mk hc0
 clear hr0 hc0
 have HB := Aside0.mk (Below.refl w.heap.size w)
 have H : ((spec_l02High.f k l0 a1).bind fun t190 => ((some (([] : List Int) : List Int)).bind fun y191 => (if t190 = 0 then (some y191) else ((spec_l01Below.f k t190).bind fun t194 => (spec_l02Next.l0 k a1 y191 t194 0))))) = some r := h
 clear h
 replace H := Option.bind_eq_some_iff.mp H
 obtain ⟨t190, A30, H⟩ := H
 replace H : ((some (([] : List Int) : List Int)).bind fun y191 => (if t190 = 0 then (some y191) else ((spec_l01Below.f k t190).bind fun t194 => (spec_l02Next.l0 k a1 y191 t194 0)))) = some r := H
 have A3 := Aside0.mk A30
 clear A30
 obtain ⟨y191, hy191⟩ : ∃ y_ : List Int, y_ = (([] : List Int)) := ⟨_, rfl⟩
 replace H : (if t190 = 0 then (some y191) else ((spec_l01Below.f k t190).bind fun t194 => (spec_l02Next.l0 k a1 y191 t194 0))) = some r := by first | (rw [hy191]; with_reducible exact H) | (have H2_ := (Option.bind_some _ _).symm.trans H; rw [hy191]; with_reducible exact H2_) | (have H2_ := (Option.bind_some _ _).symm.trans H; with_reducible exact H2_) | with_reducible exact H | (rw [hy191]; exact H) | exact H
 have Ny191 := Aside0.mk hy191
 clear hy191
 by_cases c4 : t190 = 0
 ·rw [if_pos c4] at H
  have c4b0 : (t190 == 0) = true := beq_iff_eq.mpr c4
  have c4b1 : (t190 != 0) = false := bne_eq_false_iff_eq.mpr c4
  clear c4
  obtain rfl := Option.some.inj H
  go_enter Try.func122, Try.ntmps122
  go_wp2_with (first | ((with_reducible refine gate_callee (f := 97) rfl ?_); refine goesL_ (some 11) rfl rfl Try.func97 (by kernel_rfl) rfl #[.slice A0 l0.length c0, .int .i64 a1] rfl (by (try simp only [List.map_toArray, List.map_cons, List.map_nil]); first | done | rfl | (simp only [List.length_drop, List.length_take]; rfl)) ?_; (with_reducible refine (spec_l02High.calls k _ _ l0 a1 t190 _ ?side1 ?side2 A3.out).mono ?_); (case side1 => repeat (first | exact HR0.out | (with_reducible refine Kd.C_alloc ?_ _) | (with_reducible refine Kd.C_drewN ?_ _) | (with_reducible refine Kd.C_drew ?_))); (case side2 => exact HC0.out); rintro e w' ⟨rfl, ⟨nd, rfl⟩⟩; refine ⟨_, rfl, ?_⟩) | ((with_reducible refine gate_dst (N := 12) rfl ?_); refine Kd.R_lit (Kd.int .i64) _ 2 ?hg (N := 12) ?hd (xs := ([] : List Int)) (inner := []) (ok := fun _ => True) (okp := fun _ => True) ?hr ?hp (fun _ hk => hk) trivial (Below.refl _ _) (Nat.le_refl _) (by simp) ?_; (case hd => rfl); (case hg => rfl); (case hr => first | (go_simp; done) | (go_simp; rfl)); (case hp => exact (Reps.none _ _)); intro v192 w5 ho6 hb hg_ hnew_; clear hg_ hnew_; (first | rw [← Ny191.out] at ho6 | (simp only [Int.reduceToNat] at ho6; rw [← Ny191.out] at ho6)); have n0_ := Aside0.mk (Kd.R_lower ho6 (below_size (by repeat (first | (with_reducible first | exact HB.out | apply below_alloc | apply pw_below_drewN | apply below_drew1) | exact HB.out)))); have n1_ := Aside0.mk (below_step (by repeat (first | (with_reducible first | exact HB.out | apply below_alloc | apply pw_below_drewN | apply below_drew1) | exact HB.out)) hb); clear HB; have HO193 := n0_; have HB := n1_; clear n0_ n1_; clear hb ho6))
  go_ret
  exact ⟨_, by first | rfl | (simp [errW_none, errW_some] <;> rfl) | (simp [*, errW_none, errW_some] <;> rfl), by (with_reducible repeat (first | apply Kd.R_alloc | apply Kd.R_drewN | apply Kd.R_drew)); exact HO193.out, by repeat (first | (with_reducible first | exact HB.out | apply below_alloc | apply pw_below_drewN | apply below_drew1) | exact HB.out)⟩
 ·rw [if_neg c4] at H
  have c4b0 : (t190 == 0) = false := beq_eq_false_iff_ne.mpr c4
  have c4b1 : (t190 != 0) = true := bne_iff_ne.mpr c4
  replace H := Option.bind_eq_some_iff.mp H
  obtain ⟨t194, A70, H⟩ := H
  replace H : (spec_l02Next.l0 k a1 y191 t194 0) = some r := H
  have A7 := Aside0.mk A70
  clear A70
  have H' := Aside0.mk H
  clear H
  go_enter Try.func122, Try.ntmps122
  go_wp2_with (first | ((with_reducible refine gate_callee (f := 97) rfl ?_); refine goesL_ (some 11) rfl rfl Try.func97 (by kernel_rfl) rfl #[.slice A0 l0.length c0, .int .i64 a1] rfl (by (try simp only [List.map_toArray, List.map_cons, List.map_nil]); first | done | rfl | (simp only [List.length_drop, List.length_take]; rfl)) ?_; (with_reducible refine (spec_l02High.calls k _ _ l0 a1 t190 _ ?side1 ?side2 A3.out).mono ?_); (case side1 => repeat (first | exact HR0.out | (with_reducible refine Kd.C_alloc ?_ _) | (with_reducible refine Kd.C_drewN ?_ _) | (with_reducible refine Kd.C_drew ?_))); (case side2 => exact HC0.out); rintro e w' ⟨rfl, ⟨nd, rfl⟩⟩; refine ⟨_, rfl, ?_⟩) | ((with_reducible refine gate_dst (N := 12) rfl ?_); refine Kd.R_lit (Kd.int .i64) _ 2 ?hg (N := 12) ?hd (xs := ([] : List Int)) (inner := []) (ok := fun _ => True) (okp := fun _ => True) ?hr ?hp (fun _ hk => hk) trivial (Below.refl _ _) (Nat.le_refl _) (by simp) ?_; (case hd => rfl); (case hg => rfl); (case hr => first | (go_simp; done) | (go_simp; rfl)); (case hp => exact (Reps.none _ _)); intro v192 w8 ho9 hb hg_ hnew_; clear hg_ hnew_; (first | rw [← Ny191.out] at ho9 | (simp only [Int.reduceToNat] at ho9; rw [← Ny191.out] at ho9)); have n0_ := Aside0.mk (Kd.R_lower ho9 (below_size (by repeat (first | (with_reducible first | exact HB.out | apply below_alloc | apply pw_below_drewN | apply below_drew1) | exact HB.out)))); have n1_ := Aside0.mk (below_step (by repeat (first | (with_reducible first | exact HB.out | apply below_alloc | apply pw_below_drewN | apply below_drew1) | exact HB.out)) hb); clear HB; have HO193 := n0_; have HB := n1_; clear n0_ n1_; clear hb ho9) | ((with_reducible refine gate_callee (f := 106) rfl ?_); refine goesL_ (some 17) rfl rfl Try.func106 (by kernel_rfl) rfl #[.int .i64 t190] rfl (by (try simp only [List.map_toArray, List.map_cons, List.map_nil]); first | done | rfl | (simp only [List.length_drop, List.length_take]; rfl)) ?_; (with_reducible refine (spec_l01Below.calls k t190 t194 _ A7.out).mono ?_); rintro e w10 ⟨v195, rfl, ho0, hb⟩; refine ⟨_, rfl, ?_⟩; have n0_ := Aside0.mk (Kd.R_elder' (by (with_reducible repeat (first | apply Kd.R_alloc | apply Kd.R_drewN | apply Kd.R_drew)); exact HO193.out) (Kd.R_base ho0) hb); have n1_ := Aside0.mk (Kd.R_lower (Kd.R_new' ho0 (Kd.R_lt (by (with_reducible repeat (first | apply Kd.R_alloc | apply Kd.R_drewN | apply Kd.R_drew)); exact HO193.out))) (below_size (by repeat (first | (with_reducible first | exact HB.out | apply below_alloc | apply pw_below_drewN | apply below_drew1) | exact HB.out)))); have n2_ := Aside0.mk (below_step (by repeat (first | (with_reducible first | exact HB.out | apply below_alloc | apply pw_below_drewN | apply below_drew1) | exact HB.out)) hb); clear HO193; clear HB; have HO193 := n0_; have HO196 := n1_; have HB := n2_; clear n0_ n1_ n2_; (try clear hb); (try clear hb2); (try clear hk); (try clear hi); (try clear ho0)))
  go_loopg [6, 8] k (fun kq v6 v8 w' => ∃ (x6_1 : List Int) (x8_1 : Int), v8 = .int .i64 x8_1 ∧ Aside0 (spec_l02Next.l0 kq a1 x6_1 t194 x8_1 = some r) ∧ Aside0 (kq ≤ k) ∧ Aside0 (Kd.R (Kd.int .i64) 2 w' w.heap.size (fun k_ => some k_ ≠ (v195 : Value).ownBlock) v6 x6_1) ∧ Aside0 (Kd.R (Kd.int .i64) 2 w' w.heap.size (fun k_ => some k_ ≠ (v6 : Value).ownBlock) v195 t194) ∧ Aside0 (Below w.heap.size w w'))
  case atStart => exact ⟨(y191), (0), (by first | rfl | (simp; done) | (simp [*]; done)), H', ⟨Nat.le_refl _⟩, ⟨by (with_reducible repeat (first | apply Kd.R_alloc | apply Kd.R_drewN | apply Kd.R_drew)); exact Kd.R_mono HO193.out (fun _ hk => hk.2)⟩, ⟨by (with_reducible repeat (first | apply Kd.R_alloc | apply Kd.R_drewN | apply Kd.R_drew)); exact Kd.R_mono HO196.out (fun _ hk => hk.2)⟩, ⟨by repeat (first | (with_reducible first | exact HB.out | apply below_alloc | apply pw_below_drewN | apply below_drew1) | exact HB.out)⟩⟩
  case round =>
   clear H'
   try clear c1
   try clear p2
   try clear c4
   try clear c4b0
   try clear c4b1
   try clear c9
   try clear c10
   obtain ⟨x6_1, x8_1, rfl, HA, HK1, HO_6, HO_7, HB⟩ := hrel
   cases gk with
   | zero => exact absurd HA.out (by simp [spec_l02Next.l0])
   | succ k1 =>
    have H := HA.out
    clear HA
    simp only [spec_l02Next.l0] at H
    by_cases c11 : x8_1 < (t194.length : Int)
    ·rw [if_pos c11] at H
     have c11b0 : decide (x8_1 < (t194.length : Int)) = true := decide_eq_true c11
     clear c11
     by_cases c12 : 0 ≤ x8_1
     ·rw [if_pos c12] at H
      have c12b0 : decide (0 ≤ x8_1) = true := decide_eq_true c12
      clear c12
      by_cases c13 : (rd t194 x8_1) = a1
      ·rw [if_pos c13] at H
       have c13b0 : ((rd t194 x8_1) == a1) = true := beq_iff_eq.mpr c13
       have c13b1 : ((rd t194 x8_1) != a1) = false := bne_eq_false_iff_eq.mpr c13
       clear c13
       have H' := Aside0.mk H
       clear H
       obtain ⟨Ao14, co14, eo14⟩ := Kd.R_slice HO_7.out
       subst eo14
       have p197 : 0 ≤ (x8_1 : Int) := of_decide_eq_true (by first | (with_reducible assumption) | assumption)
       have q197 : x8_1 < (t194.length : Int) := of_decide_eq_true (by first | (with_reducible assumption) | assumption)
       obtain ⟨ad197, e197, hx197_0⟩ := Kd.at_int (Kd.R_reads' HO_7.out).2.2 x8_1 p197 q197
       cases e197
       replace p197 := eq_true p197
       replace q197 := eq_true q197
       go_wp2
       go_roundg k1
       case measure => have := HK1.out; omega
       case rel => exact ⟨(x6_1), (wrap64 (x8_1 + 1)), (by first | rfl | (simp; done) | (simp [*]; done)), H', ⟨by have := HK1.out; omega⟩, ⟨by (with_reducible repeat (first | apply Kd.R_alloc | apply Kd.R_drewN | apply Kd.R_drew)); exact HO_6.out⟩, ⟨by (with_reducible repeat (first | apply Kd.R_alloc | apply Kd.R_drewN | apply Kd.R_drew)); exact HO_7.out⟩, ⟨by repeat (first | (with_reducible first | exact HB.out | apply below_alloc | apply pw_below_drewN | apply below_drew1) | exact HB.out)⟩⟩
      ·rw [if_neg c13] at H
       have c13b0 : ((rd t194 x8_1) == a1) = false := beq_eq_false_iff_ne.mpr c13
       have c13b1 : ((rd t194 x8_1) != a1) = true := bne_iff_ne.mpr c13
       by_cases c15 : x6_1.length < 17592186044416
       ·rw [if_pos c15] at H
        have LMc15 := Aside0.mk c15
        clear c15
        obtain ⟨y199, hy199⟩ : ∃ y_ : List Int, y_ = (x6_1 ++ [rd t194 x8_1]) := ⟨_, rfl⟩
        replace H : (spec_l02Next.l0 k1 a1 y199 t194 (wrap64 (x8_1 + 1))) = some r := by first | (rw [hy199]; with_reducible exact H) | (have H2_ := (Option.bind_some _ _).symm.trans H; rw [hy199]; with_reducible exact H2_) | (have H2_ := (Option.bind_some _ _).symm.trans H; with_reducible exact H2_) | with_reducible exact H | (rw [hy199]; exact H) | exact H
        have Ny199 := Aside0.mk hy199
        clear hy199
        have H' := Aside0.mk H
        clear H
        obtain ⟨Ao16, co16, eo16⟩ := Kd.R_slice HO_7.out
        subst eo16
        have p197 : 0 ≤ (x8_1 : Int) := of_decide_eq_true (by first | (with_reducible assumption) | assumption)
        have q197 : x8_1 < (t194.length : Int) := of_decide_eq_true (by first | (with_reducible assumption) | assumption)
        obtain ⟨ad197, e197, hx197_0⟩ := Kd.at_int (Kd.R_reads' HO_7.out).2.2 x8_1 p197 q197
        cases e197
        replace p197 := eq_true p197
        replace q197 := eq_true q197
        have p198 : 0 ≤ (x8_1 : Int) := of_decide_eq_true (by first | (with_reducible assumption) | assumption)
        have q198 : x8_1 < (t194.length : Int) := of_decide_eq_true (by first | (with_reducible assumption) | assumption)
        obtain ⟨ad198, e198, hx198_0⟩ := Kd.at_int (Kd.R_reads' HO_7.out).2.2 x8_1 p198 q198
        obtain rfl : ad197 = ad198 := (by injection e198)
        replace p198 := eq_true p198
        replace q198 := eq_true q198
        go_wp2_with (first | ((with_reducible refine gate_builtin (b := .append) (xs := #[.tmp 30, .tmp 35]) rfl ?_); at_builtin; refine Kd.R_append (Kd.int .i64) (w0 := w) w.heap.size rfl (.tmp 30) (.tmp 35) 22 2 (.int .i64 0) 8 rfl Try.underlying22 info2 rfl (by decide) (by omega) u6 x6_1 (rd t194 x8_1) [.int .i64 (rd t194 x8_1)] (fun k_ => some k_ ≠ (.slice (some ad197) t194.length co16 : Value).ownBlock) (fun _ => False) rfl rfl ?aP (fun _ hk => hk.elim) ?aF ?aO ?aB ?aS ?aL ?_; (case aP => exact rfl); (case aB => exact (by repeat (first | (with_reducible first | exact HB.out | apply below_alloc | apply pw_below_drewN | apply below_drew1) | exact HB.out))); (case aF => exact (fun k_ hk => Kd.fresh' (Kd.R_lt (by (with_reducible repeat (first | apply Kd.R_alloc | apply Kd.R_drewN | apply Kd.R_drew)); exact HO_7.out)) k_ hk)); (case aO => exact (by (with_reducible repeat (first | apply Kd.R_alloc | apply Kd.R_drewN | apply Kd.R_drew)); exact HO_6.out)); (case aS => exact (below_size (by repeat (first | (with_reducible first | exact HB.out | apply below_alloc | apply pw_below_drewN | apply below_drew1) | exact HB.out)))); (case aL => have := LMc15.out; omega); intro v200 w17 ho hb hg hat; rw [← Ny199.out] at ho; have n0_ := Aside0.mk (Kd.R_after (ok := (fun _ => True)) (by (with_reducible repeat (first | apply Kd.R_alloc | apply Kd.R_drewN | apply Kd.R_drew)); exact Kd.R_mono HO_7.out (fun _ hk => ⟨trivial, hk⟩)) hg hat); have n1_ := Aside0.mk (hb); have n2_ := Aside0.mk (ho); clear HO_7; clear HB; clear HO_6; have HO_7 := n0_; have HB := n1_; have HO201 := n2_; clear n0_ n1_ n2_; clear ho hb hg hat))
        go_roundg k1
        case measure => have := HK1.out; omega
        case rel => exact ⟨(y199), (wrap64 (x8_1 + 1)), (by first | rfl | (simp; done) | (simp [*]; done)), H', ⟨by have := HK1.out; omega⟩, ⟨by (with_reducible repeat (first | apply Kd.R_alloc | apply Kd.R_drewN | apply Kd.R_drew)); exact HO201.out⟩, ⟨by (with_reducible repeat (first | apply Kd.R_alloc | apply Kd.R_drewN | apply Kd.R_drew)); exact Kd.R_mono HO_7.out (fun _ hk => hk.2)⟩, ⟨by repeat (first | (with_reducible first | exact HB.out | apply below_alloc | apply pw_below_drewN | apply below_drew1) | exact HB.out)⟩⟩
       ·rw [if_neg c15] at H
        exact absurd H (by simp)
     ·rw [if_neg c12] at H
      exact absurd H (by simp)
    ·rw [if_neg c11] at H
     have c11b0 : decide (x8_1 < (t194.length : Int)) = false := decide_eq_false c11
     clear c11
     obtain rfl := Option.some.inj H
     obtain ⟨Ao18, co18, eo18⟩ := Kd.R_slice HO_7.out
     subst eo18
     go_wp2
     go_ret
     exact ⟨_, by first | rfl | (simp [errW_none, errW_some] <;> rfl) | (simp [*, errW_none, errW_some] <;> rfl), by (with_reducible repeat (first | apply Kd.R_alloc | apply Kd.R_drewN | apply Kd.R_drew)); exact Kd.R_mono HO_6.out (fun _ hk => trivial), by repeat (first | (with_reducible first | exact HB.out | apply below_alloc | apply pw_below_drewN | apply below_drew1) | exact HB.out)⟩

end Go.Proofs.Ytniikppojffiaaa.Q
end

section
/- The reference's answers about Morse functions; all pairs of a complex. -/
namespace Go.Proofs.Ytniikppojffiaaa.K
open Go.RowKit Go.Shelf Go.Proofs.Ytniikppojffiaaa.Q Go.Proofs.YtniikppojffiaaaW.PrintWords Go.Proofs.YtniikppojffiaaaW.PrintLast Go.Proofs.YtniikppojffiaaaW.PrintMore
set_option linter.unusedVariables false
set_option linter.unusedSimpArgs false

theorem specHigh_loop (q : List PairT) (hq : q.length ≤ 4000) (a : Int) : ∀ (e i k : Nat), q.length - i = e → i ≤ q.length → e < k → spec_l02High.l0 k q a (i : Int) = some (highL (q.drop i) a) := by
  intro e
  induction e with
  | zero =>
    intro i k he hi hk
    obtain ⟨k, rfl⟩ : ∃ m, k = m + 1 := ⟨k - 1, by omega⟩
    obtain rfl : i = q.length := by omega
    simp only [spec_l02High.l0]
    rw [if_neg (by omega), List.drop_eq_nil_of_le (by omega)]
    rfl
  | succ e ih =>
    intro i k he hi hk
    obtain ⟨k, rfl⟩ : ∃ m, k = m + 1 := ⟨k - 1, by omega⟩
    have hil : i < q.length := by omega
    simp only [spec_l02High.l0]
    rw [if_pos (by omega), if_pos (by omega), rdP q i hil, w64 ((i : Int) + 1) (by omega) (by omega), nat_succ, ih (i + 1) k (by omega) (by omega) (by omega), List.drop_eq_getElem_cons hil, highL]
    split <;> rfl
theorem specHigh_is (q : List PairT) (hq : q.length ≤ 4000) (a : Int) (k : Nat) (hk : 4001 ≤ k) : spec_l02High.f k q a = some (highL q a) := by
  unfold spec_l02High.f
  have := specHigh_loop q hq a q.length 0 k (by omega) (by omega) (by omega)
  rw [show ((0 : Nat) : Int) = 0 from rfl, List.drop_zero] at this
  exact this
end Go.Proofs.Ytniikppojffiaaa.K
end

section
/- Written by a program of this session (myprint.py over the kit's print). -/
namespace Go.Proofs.Ytniikppojffiaaa.Q
open Go.RowKit Go.Proofs.YtniikppojffiaaaW.PrintWords Go.Proofs.YtniikppojffiaaaW.PrintLast Go.Proofs.YtniikppojffiaaaW.PrintMore
attribute [local go_sem] max2_int min2_int max_two min_two max_three min_three max_four min_four   -- for this text's walks alone
set_option linter.unusedVariables false
set_option linter.unusedSimpArgs false

/-! ### spec_l02Reached: function 74 -/
def spec_l02Reached.l0 : Nat → List (S53) → List Bool → List Int → Option (List Bool)
 | 0, _, _, _ => none
 | k + 1, x0, x5, x6 => if (x6.length : Int) > 0 then (if 0 ≤ (wrap64 ((x6.length : Int) - 1)) then (if (wrap64 ((x6.length : Int) - 1)) < (x6.length : Int) then (if (wrap64 ((x6.length : Int) - 1)) ≤ (x6.length : Int) then ((some (x6.take ((wrap64 ((x6.length : Int) - 1)) : Int).toNat : List Int)).bind fun y209 => (if 0 ≤ (rd x6 (wrap64 ((x6.length : Int) - 1))) then (if (rd x6 (wrap64 ((x6.length : Int) - 1))) < (x5.length : Int) then (if rdOf false x5 (rd x6 (wrap64 ((x6.length : Int) - 1))) = true then (spec_l02Reached.l0 k x0 x5 y209) else ((spec_l02Next.f k x0 (rd x6 (wrap64 ((x6.length : Int) - 1)))).bind fun t214 => (if y209.length + t214.length < 17592186044416 then (spec_l02Reached.l0 k x0 (x5.set ((rd x6 (wrap64 ((x6.length : Int) - 1))) : Int).toNat true) (y209 ++ t214)) else (none)))) else (none)) else (none))) else (none)) else (none)) else (none)) else (some x5)
def spec_l02Reached.f (k : Nat) (l0 : List (S53)) (a1 : Int) : Option (List Bool) := if 64 ≤ 281474976710656 then ((spec_l02Next.f k l0 a1).bind fun t205 => (spec_l02Reached.l0 k l0 (List.replicate 64 false) t205)) else (none)
theorem spec_l02Reached.mono_l : ∀ k, (∀ y0 y1 y2, LeO (spec_l02Reached.l0 k y0 y1 y2) (spec_l02Reached.l0 (k + 1) y0 y1 y2))
 | 0 => fun _ _ _ r h => by simp [spec_l02Reached.l0] at h
 | k + 1 => by
  have ih0 := spec_l02Reached.mono_l k
  ·intro y0 y1 y2
   unfold spec_l02Reached.l0
   repeat' first
   | (with_reducible exact ih0 _ _ _)
   | (with_reducible exact spec_l02Next.mono _ _ _)
   | (with_reducible exact LeO.refl _)
   | (with_reducible exact LeO.none _)
   | (with_reducible refine LeO.ite ?_ ?_)
   | (with_reducible refine LeO.bind ?_ (fun _ => ?_))
   | exact ih0 _ _ _
   | exact spec_l02Next.mono _ _ _
   | exact LeO.none _
   | refine LeO.ite ?_ ?_
   | refine LeO.bind ?_ (fun _ => ?_)
theorem spec_l02Reached.mono : ∀ a0 a1 k, LeO (spec_l02Reached.f k a0 a1) (spec_l02Reached.f (k + 1) a0 a1) := by
 intro a0 a1 k
 have ih0 := spec_l02Reached.mono_l k
 unfold spec_l02Reached.f
 repeat' first
   | (with_reducible exact ih0 _ _ _)
   | (with_reducible exact spec_l02Next.mono _ _ _)
   | (with_reducible exact LeO.refl _)
   | (with_reducible exact LeO.none _)
   | (with_reducible refine LeO.ite ?_ ?_)
   | (with_reducible refine LeO.bind ?_ (fun _ => ?_))
   | exact ih0 _ _ _
   | exact spec_l02Next.mono _ _ _
   | exact LeO.none _
   | refine LeO.ite ?_ ?_
   | refine LeO.bind ?_ (fun _ => ?_)
set_option maxHeartbeats 8000000 in
set_option maxRecDepth 100000 in
theorem spec_l02Reached.calls (k : Nat) (A0 : Option Addr) (c0 : Nat) (l0 : List (S53)) (a1 : Int) (r : List Bool) (w : World) (hr0 : Kd.C k53 w A0 l0.length l0) (hc0 : l0.length ≤ c0) (h : spec_l02Reached.f k l0 a1 = some r) :
  Calls Try.prog 74 #[.slice A0 l0.length c0, .int .i64 a1] w fun e w' => ∃ v0_ : Value, e = .returned (v0_) ∧ Kd.R Kd.bool 4 w' w.heap.size (fun _ => True) v0_ r ∧ Below w.heap.size w w' := by
 have HR0 := Aside0.mk hr0
 have HC0 := Aside0.mk hc0
 clear hr0 hc0
 have HB := Aside0.mk (Below.refl w.heap.size w)
 have H : (if 64 ≤ 281474976710656 then ((spec_l02Next.f k l0 a1).bind fun t205 => (spec_l02Reached.l0 k l0 (List.replicate 64 false) t205)) else (none)) = some r := h
 clear h
 by_cases c3 : 64 ≤ 281474976710656
 ·rw [if_pos c3] at H
  have c3b0 := eq_true c3
  have c3b1 : decide (64 ≤ 281474976710656) = true := decide_eq_true c3
  clear c3
  obtain ⟨y202, hy202⟩ : ∃ y_ : List Bool, y_ = (List.replicate 64 false) := ⟨_, rfl⟩
  replace H : ((spec_l02Next.f k l0 a1).bind fun t205 => (spec_l02Reached.l0 k l0 y202 t205)) = some r := by first | (rw [hy202]; with_reducible exact H) | (have H2_ := (Option.bind_some _ _).symm.trans H; rw [hy202]; with_reducible exact H2_) | (have H2_ := (Option.bind_some _ _).symm.trans H; with_reducible exact H2_) | with_reducible exact H | (rw [hy202]; exact H) | exact H
  have Ny202 := Aside0.mk hy202
  clear hy202
  replace H := Option.bind_eq_some_iff.mp H
  obtain ⟨t205, A40, H⟩ := H
  replace H : (spec_l02Reached.l0 k l0 y202 t205) = some r := H
  have A4 := Aside0.mk A40
  clear A40
  have H' := Aside0.mk H
  clear H
  go_enter Try.func74, Try.ntmps74
  try go_wp2
  have n0_ := Aside0.mk (below_drew1 HB.out)
  clear HB
  have HB := n0_
  clear n0_
  refine start_ (n := 6) (S := fun w' => True) (ds := []) (ar 0 6) (by kernel_rfl) rfl rfl trivial (fun hHeld => ?_)
  generalize w.drew = w5 at HB hHeld ⊢
  refine pure_ (i := 1) (N := some 9) (v := ?_) (a' := ?_) #[O,U,O,O,O,O] rfl rfl (by kernel_rfl) (fun _ _ _ h => h) (Or.inl ⟨by rfl, ?_⟩) ?_ ?_; rotate_left; (intro w'; go_simp; with_reducible rfl); rotate_left; · simp only [nm_]; rfl
  refine pure_ (i := 2) (N := some 10) (v := ?_) (a' := ?_) #[O,U,U,O,O,O] rfl rfl (by kernel_rfl) (fun _ _ _ h => h) (Or.inl ⟨by rfl, ?_⟩) ?_ ?_; rotate_left; (intro w'; go_simp; with_reducible rfl); rotate_left; · simp only [nm_]; rfl
  refine join_ (σ := Value × Value) 2 (ar 4 2) (fun s_ => [(8, s_.1), (11, s_.2)]) (fun s_ w' => (Kd.R Kd.bool 4 w' w.heap.size (fun _ => True) s_.1 y202) ∧ (Kd.R (Kd.int .i64) 2 w' w.heap.size (fun _ => True) s_.2 t205) ∧ (Below w.heap.size w w')) ?_ ?_
  rotate_left
  ·intro hCont
   refine two_ (i := 0) (j := 3) (Ni := some 8) (Nj := some 11) (ar 3 3) #[O,U,U,U,O,O] rfl rfl rfl rfl (by kernel_rfl) (by decide) (by decide) (fun K hK => ?_) (fun K hK => ?_)
   ·skip
    refine Kd.R_make_step Kd.bool _ 4 (by rfl) (N := 8) rfl 73 _ _ rfl 64 rfl rfl Try.underlying73 (.bool false) 1 info4 rfl (by decide) (by omega) false (ok := fun _ => True) (okp := fun _ => True) rfl (fun _ hk => hk) trivial (by omega) (by omega) (Below.refl _ _) (Nat.le_refl _) ?_
    intro v203 w6 ho7 hb hg_ hnew_
    clear hg_ hnew_
    (first | rw [← Ny202.out] at ho7 | (simp only [Int.reduceToNat] at ho7; rw [← Ny202.out] at ho7))
    have n0_ := Aside0.mk (Kd.R_lower ho7 (below_size (by repeat (first | (with_reducible first | exact HB.out | apply below_alloc | apply pw_below_drewN | apply below_drew1) | exact HB.out))))
    have n1_ := Aside0.mk (below_step (by repeat (first | (with_reducible first | exact HB.out | apply below_alloc | apply pw_below_drewN | apply below_drew1) | exact HB.out)) hb)
    clear HB
    have HO204 := n0_
    have HB := n1_
    clear n0_ n1_
    clear hb ho7
    refine hK.out _ _ trivial (fun hHeld => ?_)
    clear hK K
    refine norm_ (a' := ?_) ?_ ?_
    rotate_left
    ·show Act.put _ (some 8) _ = _
     simp only [nm_]
     rfl
    refine one_ (i := 3) (N := some 11) (ar 4 2) rfl rfl (by kernel_rfl) (by decide) (fun K hK => ?_)
    refine goes_ Try.func122 (by kernel_rfl) rfl #[.slice A0 l0.length c0, .int .i64 a1] (by rfl) rfl rfl (by (try simp only [List.map_toArray, List.map_cons, List.map_nil]); first | done | rfl | (simp only [List.length_drop, List.length_take]; rfl)) ?_
    with_reducible refine (spec_l02Next.calls k _ _ l0 a1 t205 _ ?side1 ?side2 A4.out).mono ?_
    (case side1 => repeat (first | exact (Kd.C_below HR0.out HB.out) | (with_reducible refine Kd.C_alloc ?_ _) | (with_reducible refine Kd.C_drewN ?_ _) | (with_reducible refine Kd.C_drew ?_)))
    (case side2 => exact HC0.out)
    rintro e w8 ⟨v206, rfl, ho0, hb⟩
    refine ⟨_, rfl, ?_⟩
    have n0_ := Aside0.mk (Kd.R_below (by (with_reducible repeat (first | apply Kd.R_alloc | apply Kd.R_drewN | apply Kd.R_drew)); exact HO204.out) hb)
    have n1_ := Aside0.mk (Kd.R_lower ho0 (below_size (by repeat (first | (with_reducible first | exact HB.out | apply below_alloc | apply pw_below_drewN | apply below_drew1) | exact HB.out))))
    have n2_ := Aside0.mk (below_step (by repeat (first | (with_reducible first | exact HB.out | apply below_alloc | apply pw_below_drewN | apply below_drew1) | exact HB.out)) hb)
    clear HO204
    clear HB
    have HO204 := n0_
    have HO207 := n1_
    have HB := n2_
    clear n0_ n1_ n2_
    (try clear hb)
    (try clear hb2)
    (try clear hk)
    (try clear hi)
    (try clear ho0)
    refine hK.out _ _ trivial (fun hHeld => ?_)
    clear hK K
    refine norm_ (a' := ?_) ?_ ?_
    rotate_left
    ·show Act.put _ (some 11) _ = _
     simp only [nm_]
     rfl
    exact norm_ (by simp only [putAll, Act.put, List.setIfInBounds_toArray, List.set_cons_zero, List.set_cons_succ]) (hCont (v203, v206) _ ⟨(by (with_reducible repeat (first | apply Kd.R_alloc | apply Kd.R_drewN | apply Kd.R_drew)); exact HO204.out), (by (with_reducible repeat (first | apply Kd.R_alloc | apply Kd.R_drewN | apply Kd.R_drew)); exact HO207.out), (by repeat (first | (with_reducible first | exact HB.out | apply below_alloc | apply pw_below_drewN | apply below_drew1) | exact HB.out))⟩)
   ·skip
    refine goes_ Try.func122 (by kernel_rfl) rfl #[.slice A0 l0.length c0, .int .i64 a1] (by rfl) rfl rfl (by (try simp only [List.map_toArray, List.map_cons, List.map_nil]); first | done | rfl | (simp only [List.length_drop, List.length_take]; rfl)) ?_
    with_reducible refine (spec_l02Next.calls k _ _ l0 a1 t205 _ ?side1 ?side2 A4.out).mono ?_
    (case side1 => repeat (first | exact (Kd.C_below HR0.out HB.out) | (with_reducible refine Kd.C_alloc ?_ _) | (with_reducible refine Kd.C_drewN ?_ _) | (with_reducible refine Kd.C_drew ?_)))
    (case side2 => exact HC0.out)
    rintro e w6 ⟨v206, rfl, ho0, hb⟩
    refine ⟨_, rfl, ?_⟩
    have n0_ := Aside0.mk (Kd.R_lower ho0 (below_size (by repeat (first | (with_reducible first | exact HB.out | apply below_alloc | apply pw_below_drewN | apply below_drew1) | exact HB.out))))
    have n1_ := Aside0.mk (below_step (by repeat (first | (with_reducible first | exact HB.out | apply below_alloc | apply pw_below_drewN | apply below_drew1) | exact HB.out)) hb)
    clear HB
    have HO207 := n0_
    have HB := n1_
    clear n0_ n1_
    (try clear hb)
    (try clear hb2)
    (try clear hk)
    (try clear hi)
    (try clear ho0)
    refine hK.out _ _ trivial (fun hHeld => ?_)
    clear hK K
    refine norm_ (a' := ?_) ?_ ?_
    rotate_left
    ·show Act.put _ (some 11) _ = _
     simp only [nm_]
     rfl
    refine one_ (i := 0) (N := some 8) (ar 4 2) rfl rfl (by kernel_rfl) (by decide) (fun K hK => ?_)
    refine Kd.R_make_step Kd.bool _ 4 (by rfl) (N := 8) rfl 73 _ _ rfl 64 rfl rfl Try.underlying73 (.bool false) 1 info4 rfl (by decide) (by omega) false (ok := fun _ => True) (okp := fun _ => True) rfl (fun _ hk => hk) trivial (by omega) (by omega) (Below.refl _ _) (Nat.le_refl _) ?_
    intro v203 w7 ho8 hb hg_ hnew_
    clear hg_ hnew_
    (first | rw [← Ny202.out] at ho8 | (simp only [Int.reduceToNat] at ho8; rw [← Ny202.out] at ho8))
    have n0_ := Aside0.mk (Kd.R_below (by (with_reducible repeat (first | apply Kd.R_alloc | apply Kd.R_drewN | apply Kd.R_drew)); exact HO207.out) hb)
    have n1_ := Aside0.mk (Kd.R_lower ho8 (below_size (by repeat (first | (with_reducible first | exact HB.out | apply below_alloc | apply pw_below_drewN | apply below_drew1) | exact HB.out))))
    have n2_ := Aside0.mk (below_step (by repeat (first | (with_reducible first | exact HB.out | apply below_alloc | apply pw_below_drewN | apply below_drew1) | exact HB.out)) hb)
    clear HO207
    clear HB
    have HO207 := n0_
    have HO204 := n1_
    have HB := n2_
    clear n0_ n1_ n2_
    clear hb ho8
    refine hK.out _ _ trivial (fun hHeld => ?_)
    clear hK K
    refine norm_ (a' := ?_) ?_ ?_
    rotate_left
    ·show Act.put _ (some 8) _ = _
     simp only [nm_]
     rfl
    exact norm_ (by simp only [putAll, Act.put, List.setIfInBounds_toArray, List.set_cons_zero, List.set_cons_succ]) (hCont (v203, v206) _ ⟨(by (with_reducible repeat (first | apply Kd.R_alloc | apply Kd.R_drewN | apply Kd.R_drew)); exact HO204.out), (by (with_reducible repeat (first | apply Kd.R_alloc | apply Kd.R_drewN | apply Kd.R_drew)); exact HO207.out), (by repeat (first | (with_reducible first | exact HB.out | apply below_alloc | apply pw_below_drewN | apply below_drew1) | exact HB.out))⟩)
  rintro ⟨v203, v206⟩ w9 ⟨h0_, h1_, h2_⟩
  have n0_ : Aside0 (Kd.R Kd.bool 4 w9 w.heap.size (fun _ => True) v203 y202) := ⟨h0_⟩
  have n1_ : Aside0 (Kd.R (Kd.int .i64) 2 w9 w.heap.size (fun _ => True) v206 t205) := ⟨h1_⟩
  have n2_ : Aside0 (Below w.heap.size w w9) := ⟨h2_⟩
  clear HB
  clear h0_ h1_ h2_
  have HO204 := n0_
  have HO207 := n1_
  have HB := n2_
  clear n0_ n1_ n2_
  have hHeld := trivial
  refine norm_ (a' := ?_) ?_ ?_
  rotate_left; · simp only [putAll, Act.put, List.setIfInBounds_toArray, List.set_cons_zero, List.set_cons_succ]; rfl
  refine pure_ (i := 4) (N := some 5) (v := ?_) (a' := ?_) (ar 5 1) rfl rfl (by kernel_rfl) (fun _ _ _ h => h) (Or.inl ⟨by rfl, ?_⟩) ?_ ?_; rotate_left; (intro w'; go_simp; with_reducible rfl); rotate_left; · simp only [nm_]; rfl
  refine pure_ (i := 5) (N := some 6) (v := ?_) (a' := ?_) (ar 6 0) rfl rfl (by kernel_rfl) (fun _ _ _ h => h) (Or.inl ⟨by rfl, ?_⟩) ?_ ?_; rotate_left; (intro w'; go_simp; with_reducible rfl); rotate_left; · simp only [nm_]; rfl
  refine done_ (by kernel_rfl) ?_
  try go_wp2
  go_loopg [6] k (fun kq v6 w' => ∃ (x5_1 : List Bool) (x6_1 : List Int), Aside0 (spec_l02Reached.l0 kq l0 x5_1 x6_1 = some r) ∧ Aside0 (kq ≤ k) ∧ Aside0 (Kd.R Kd.bool 4 w' w.heap.size (fun _ => True) v203 x5_1) ∧ Aside0 (Kd.R (Kd.int .i64) 2 w' w.heap.size (fun _ => True) v6 x6_1) ∧ Aside0 (Below w.heap.size w w'))
  case atStart => exact ⟨(y202), (t205), H', ⟨Nat.le_refl _⟩, ⟨by (with_reducible repeat (first | apply Kd.R_alloc | apply Kd.R_drewN | apply Kd.R_drew)); exact HO204.out⟩, ⟨by (with_reducible repeat (first | apply Kd.R_alloc | apply Kd.R_drewN | apply Kd.R_drew)); exact HO207.out⟩, ⟨by repeat (first | (with_reducible first | exact HB.out | apply below_alloc | apply pw_below_drewN | apply below_drew1) | exact HB.out)⟩⟩
  case round =>
   clear H'
   try clear c1
   try clear p2
   try clear c3
   try clear c3b0
   try clear c3b1
   try clear c7
   obtain ⟨x5_1, x6_1, HA, HK1, HO_5, HO_6, HB⟩ := hrel
   cases gk with
   | zero => exact absurd HA.out (by simp [spec_l02Reached.l0])
   | succ k1 =>
    have H := HA.out
    clear HA
    simp only [spec_l02Reached.l0] at H
    by_cases c10 : (x6_1.length : Int) > 0
    ·rw [if_pos c10] at H
     have c10b0 : decide (0 < (x6_1.length : Int)) = true := decide_eq_true c10
     have c10b1 : decide (0 < x6_1.length) = true := decide_eq_true (by omega)
     clear c10
     obtain ⟨ji11, hji11⟩ : ∃ j_ : Int, (wrap64 ((x6_1.length : Int) - 1)) = j_ := ⟨_, rfl⟩
     replace H : (if 0 ≤ (ji11) then (if (ji11) < (x6_1.length : Int) then (if (ji11) ≤ (x6_1.length : Int) then ((some (x6_1.take ((ji11) : Int).toNat : List Int)).bind fun y209 => (if 0 ≤ (rd x6_1 (ji11)) then (if (rd x6_1 (ji11)) < (x5_1.length : Int) then (if rdOf false x5_1 (rd x6_1 (ji11)) = true then (spec_l02Reached.l0 k1 l0 x5_1 y209) else ((spec_l02Next.f k1 l0 (rd x6_1 (ji11))).bind fun t214 => (if y209.length + t214.length < 17592186044416 then (spec_l02Reached.l0 k1 l0 (x5_1.set ((rd x6_1 (ji11)) : Int).toNat true) (y209 ++ t214)) else (none)))) else (none)) else (none))) else (none)) else (none)) else (none)) = some r := by first | (rw [hji11] at H; exact H) | (simp only [hji11] at H ⊢; exact H)
     have hji11w : (IntKind.i64.wrap ((x6_1.length : Int) - 1)) = ji11 := (i64_w _).trans hji11
     by_cases c12 : 0 ≤ (ji11)
     ·rw [if_pos c12] at H
      have c12b0 : decide (0 ≤ (ji11)) = true := decide_eq_true c12
      clear c12
      by_cases c13 : (ji11) < (x6_1.length : Int)
      ·rw [if_pos c13] at H
       have c13b0 : decide ((ji11) < (x6_1.length : Int)) = true := decide_eq_true c13
       clear c13
       by_cases c14 : (ji11) ≤ (x6_1.length : Int)
       ·rw [if_pos c14] at H
        have c14b0 := eq_true c14
        have c14b1 : decide ((ji11) ≤ (x6_1.length : Int)) = true := decide_eq_true c14
        clear c14
        obtain ⟨y209, hy209⟩ : ∃ y_ : List Int, y_ = (x6_1.take ((ji11) : Int).toNat) := ⟨_, rfl⟩
        replace H : (if 0 ≤ (rd x6_1 (ji11)) then (if (rd x6_1 (ji11)) < (x5_1.length : Int) then (if rdOf false x5_1 (rd x6_1 (ji11)) = true then (spec_l02Reached.l0 k1 l0 x5_1 y209) else ((spec_l02Next.f k1 l0 (rd x6_1 (ji11))).bind fun t214 => (if y209.length + t214.length < 17592186044416 then (spec_l02Reached.l0 k1 l0 (x5_1.set ((rd x6_1 (ji11)) : Int).toNat true) (y209 ++ t214)) else (none)))) else (none)) else (none)) = some r := by first | (rw [hy209]; with_reducible exact H) | (have H2_ := (Option.bind_some _ _).symm.trans H; rw [hy209]; with_reducible exact H2_) | (have H2_ := (Option.bind_some _ _).symm.trans H; with_reducible exact H2_) | with_reducible exact H | (rw [hy209]; exact H) | exact H
        have Ny209 := Aside0.mk hy209
        clear hy209
        by_cases c15 : 0 ≤ (rd x6_1 (ji11))
        ·rw [if_pos c15] at H
         have c15b0 : decide (0 ≤ (rd x6_1 (ji11))) = true := decide_eq_true c15
         clear c15
         by_cases c16 : (rd x6_1 (ji11)) < (x5_1.length : Int)
         ·rw [if_pos c16] at H
          have c16b0 : decide ((rd x6_1 (ji11)) < (x5_1.length : Int)) = true := decide_eq_true c16
          clear c16
          obtain ⟨bq17, hbq17⟩ : ∃ b_ : Bool, b_ = (rdOf false x5_1 (rd x6_1 (ji11))) := ⟨_, rfl⟩
          replace H : (if bq17 = true then (spec_l02Reached.l0 k1 l0 x5_1 y209) else ((spec_l02Next.f k1 l0 (rd x6_1 (ji11))).bind fun t214 => (if y209.length + t214.length < 17592186044416 then (spec_l02Reached.l0 k1 l0 (x5_1.set ((rd x6_1 (ji11)) : Int).toNat true) (y209 ++ t214)) else (none)))) = some r := by rw [← hbq17] at H; exact H
          have Nbq17 := Aside0.mk hbq17
          clear hbq17
          by_cases c18 : bq17 = true
          ·subst c18
           have H1 : (spec_l02Reached.l0 k1 l0 x5_1 y209) = some r := by rw [if_pos rfl] at H; exact H
           clear H
           have H := H1
           clear H1
           have H' := Aside0.mk H
           clear H
           obtain ⟨Ao19, co19, eo19⟩ := Kd.R_slice HO_6.out
           subst eo19
           have p208 : 0 ≤ ((ji11) : Int) := of_decide_eq_true (by first | (with_reducible assumption) | assumption)
           have q208 : (ji11) < (x6_1.length : Int) := of_decide_eq_true (by first | (with_reducible assumption) | assumption)
           obtain ⟨ad208, e208, hx208_0⟩ := Kd.at_int (Kd.R_reads' HO_6.out).2.2 (ji11) p208 q208
           cases e208
           replace p208 := eq_true p208
           replace q208 := eq_true q208
           have q20 : ((ji11) : Int) ≤ ((x6_1.length : Int) : Int) := of_decide_eq_true (by first | (with_reducible assumption) | assumption)
           obtain ⟨i020, hi020, _, hsz20, _⟩ := info_parts info2
           have hcut20 := cut_to (P := Try.prog) 22 2 .i64 Try.underlying22 hi020 (some ad208) x6_1.length co19 (ji11) (of_decide_eq_true (by first | (with_reducible assumption) | assumption)) q20 (Kd.R_reads' HO_6.out).2.1
           have hr20 := Kd.R_take (m := ((ji11) : Int).toNat) HO_6.out (by omega)
           have hy20 : y209.length = ((ji11) : Int).toNat := (by rw [Ny209.out, List.length_take]; omega)
           rw [← Ny209.out] at hr20
           rw [← hy20] at hr20 hcut20
           clear hy20 hi020 hsz20 HO_6
           have HO211 := Aside0.mk hr20
           clear hr20
           replace q20 := eq_true q20
           obtain ⟨Ao21, co21, eo21⟩ := Kd.R_slice HO_5.out
           subst eo21
           have p212 : 0 ≤ ((rd x6_1 (ji11)) : Int) := of_decide_eq_true (by first | (with_reducible assumption) | assumption)
           have q212 : (rd x6_1 (ji11)) < (x5_1.length : Int) := of_decide_eq_true (by first | (with_reducible assumption) | assumption)
           obtain ⟨ad212, e212, hx212_0⟩ := Kd.at_bool (Kd.R_reads' HO_5.out).2.2 (rd x6_1 (ji11)) p212 q212
           (try rw [← Nbq17.out] at hx212_0)
           cases e212
           replace p212 := eq_true p212
           replace q212 := eq_true q212
           go_wp2
           go_roundg k1
           case measure => have := HK1.out; omega
           case rel => exact ⟨(x5_1), (y209), H', ⟨by have := HK1.out; omega⟩, ⟨by (with_reducible repeat (first | apply Kd.R_alloc | apply Kd.R_drewN | apply Kd.R_drew)); exact HO_5.out⟩, ⟨by (with_reducible repeat (first | apply Kd.R_alloc | apply Kd.R_drewN | apply Kd.R_drew)); exact HO211.out⟩, ⟨by repeat (first | (with_reducible first | exact HB.out | apply below_alloc | apply pw_below_drewN | apply below_drew1) | exact HB.out)⟩⟩
          ·replace c18 := Bool.eq_false_iff.mpr c18
           subst c18
           have H1 : ((spec_l02Next.f k1 l0 (rd x6_1 (ji11))).bind fun t214 => (if y209.length + t214.length < 17592186044416 then (spec_l02Reached.l0 k1 l0 (x5_1.set ((rd x6_1 (ji11)) : Int).toNat true) (y209 ++ t214)) else (none))) = some r := by rw [if_neg (show ¬ (false = true) by decide)] at H; exact H
           clear H
           have H := H1
           clear H1
           obtain ⟨y213, hy213⟩ : ∃ y_ : List Bool, y_ = (x5_1.set ((rd x6_1 (ji11)) : Int).toNat true) := ⟨_, rfl⟩
           replace H : ((spec_l02Next.f k1 l0 (rd x6_1 (ji11))).bind fun t214 => (if y209.length + t214.length < 17592186044416 then (spec_l02Reached.l0 k1 l0 y213 (y209 ++ t214)) else (none))) = some r := by first | (rw [hy213]; with_reducible exact H) | (have H2_ := (Option.bind_some _ _).symm.trans H; rw [hy213]; with_reducible exact H2_) | (have H2_ := (Option.bind_some _ _).symm.trans H; with_reducible exact H2_) | with_reducible exact H | (rw [hy213]; exact H) | exact H
           have Ny213 := Aside0.mk hy213
           clear hy213
           replace H := Option.bind_eq_some_iff.mp H
           obtain ⟨t214, A230, H⟩ := H
           replace H : (if y209.length + t214.length < 17592186044416 then (spec_l02Reached.l0 k1 l0 y213 (y209 ++ t214)) else (none)) = some r := H
           have A23 := Aside0.mk A230
           clear A230
           by_cases c24 : y209.length + t214.length < 17592186044416
           ·rw [if_pos c24] at H
            have LMc24 := Aside0.mk c24
            clear c24
            obtain ⟨y217, hy217⟩ : ∃ y_ : List Int, y_ = (y209 ++ t214) := ⟨_, rfl⟩
            replace H : (spec_l02Reached.l0 k1 l0 y213 y217) = some r := by first | (rw [hy217]; with_reducible exact H) | (have H2_ := (Option.bind_some _ _).symm.trans H; rw [hy217]; with_reducible exact H2_) | (have H2_ := (Option.bind_some _ _).symm.trans H; with_reducible exact H2_) | with_reducible exact H | (rw [hy217]; exact H) | exact H
            have Ny217 := Aside0.mk hy217
            clear hy217
            have H' := Aside0.mk H
            clear H
            obtain ⟨Ao25, co25, eo25⟩ := Kd.R_slice HO_6.out
            subst eo25
            have p208 : 0 ≤ ((ji11) : Int) := of_decide_eq_true (by first | (with_reducible assumption) | assumption)
            have q208 : (ji11) < (x6_1.length : Int) := of_decide_eq_true (by first | (with_reducible assumption) | assumption)
            obtain ⟨ad208, e208, hx208_0⟩ := Kd.at_int (Kd.R_reads' HO_6.out).2.2 (ji11) p208 q208
            cases e208
            replace p208 := eq_true p208
            replace q208 := eq_true q208
            have q26 : ((ji11) : Int) ≤ ((x6_1.length : Int) : Int) := of_decide_eq_true (by first | (with_reducible assumption) | assumption)
            obtain ⟨i026, hi026, _, hsz26, _⟩ := info_parts info2
            have hcut26 := cut_to (P := Try.prog) 22 2 .i64 Try.underlying22 hi026 (some ad208) x6_1.length co25 (ji11) (of_decide_eq_true (by first | (with_reducible assumption) | assumption)) q26 (Kd.R_reads' HO_6.out).2.1
            have hr26 := Kd.R_take (m := ((ji11) : Int).toNat) HO_6.out (by omega)
            have hy26 : y209.length = ((ji11) : Int).toNat := (by rw [Ny209.out, List.length_take]; omega)
            rw [← Ny209.out] at hr26
            rw [← hy26] at hr26 hcut26
            clear hy26 hi026 hsz26 HO_6
            have HO211 := Aside0.mk hr26
            clear hr26
            replace q26 := eq_true q26
            obtain ⟨Ao27, co27, eo27⟩ := Kd.R_slice HO_5.out
            subst eo27
            have p212 : 0 ≤ ((rd x6_1 (ji11)) : Int) := of_decide_eq_true (by first | (with_reducible assumption) | assumption)
            have q212 : (rd x6_1 (ji11)) < (x5_1.length : Int) := of_decide_eq_true (by first | (with_reducible assumption) | assumption)
            obtain ⟨ad212, e212, hx212_0⟩ := Kd.at_bool (Kd.R_reads' HO_5.out).2.2 (rd x6_1 (ji11)) p212 q212
            (try rw [← Nbq17.out] at hx212_0)
            cases e212
            replace p212 := eq_true p212
            replace q212 := eq_true q212
            have p22 : 0 ≤ ((rd x6_1 (ji11)) : Int) := of_decide_eq_true (by first | (with_reducible assumption) | assumption)
            have q22 : ((rd x6_1 (ji11)) : Int) < ((x5_1.length : Int) : Int) := of_decide_eq_true (by first | (with_reducible assumption) | assumption)
            obtain ⟨go22, co22, eo22, gb22, gl22, cl22, HG22⟩ := Kd.R_form HO_5.out (by omega)
            (first | cases eo22 | (injection eo22 with ea_ en_ ec_; (first | subst ea_ | (injection ea_ with ea_; subst ea_)); subst ec_; clear en_))
            have GB22 := Aside0.mk gb22
            have GG22 := Aside0.mk HG22
            clear gb22 gl22 HG22
            (first | simp only [add_plain] at hx212_0 | skip)
            obtain ⟨hx22_0, hf22_0⟩ := Kd.R_celln false HO_5.out ((rd x6_1 (ji11)) : Int) p22 q22
            replace p22 := eq_true p22
            replace q22 := eq_true q22
            have HP28 := Kd.R_putg HO_5.out ((rd x6_1 (ji11)) : Int) true
            go_wp2_with (first | ((with_reducible refine gate_store (t := 4) (p := 32) rfl ?_); refine store_event (t := 4) (p := 32) (v := ?vo_w29) (w1 := (wr.setCell ⟨go22, ((rd x6_1 (ji11)) : Int).toNat, none⟩ (.bool true))) ?hg ?ho ?hn ?hr ?_; (case ho => rfl); (case hg => rfl); (case hn => rfl); (case hr => first | (go_simp; done) | (go_simp; rfl)); intro w29 hw; have hg : wr.grownBy w29 (some go22) := (by rw [hw]; exact HP28.2); have hp_ : Kd.R Kd.bool 4 w29 w.heap.size (fun _ => True) (.slice (some ⟨go22, 0, none⟩) x5_1.length co27) y213 := (by rw [hw, Ny213.out]; exact HP28.1); clear HP28; have n0_ := Aside0.mk (hp_); have n1_ := Aside0.mk (Kd.R_over' (v := (.slice (some ⟨go22, 0, none⟩) x5_1.length co27)) (by (with_reducible repeat (first | apply Kd.R_alloc | apply Kd.R_drewN | apply Kd.R_drew)); exact HO211.out) (Kd.R_typed HO_5.out) (by decide) hg); have n2_ := Aside0.mk ((by rw [hw]; exact below_set (HB.out) GB22.out : Below w.heap.size w w29)); clear HO_5; clear HO211; clear HB; have HO_5 := n0_; have HO211 := n1_; have HB := n2_; clear n0_ n1_ n2_; clear hg hw hp_) | ((with_reducible refine gate_callee (f := 122) rfl ?_); refine goesL_ (some 36) rfl rfl Try.func122 (by kernel_rfl) rfl #[.slice A0 l0.length c0, .int .i64 (rd x6_1 (ji11))] rfl (by (try simp only [List.map_toArray, List.map_cons, List.map_nil]); first | done | (simp only [hji11]; rfl) | rfl | (simp only [List.length_drop, List.length_take]; rfl)) ?_; (with_reducible refine (spec_l02Next.calls k1 _ _ l0 (rd x6_1 (ji11)) t214 _ ?side1 ?side2 A23.out).mono ?_); (case side1 => repeat (first | exact (Kd.C_below HR0.out HB.out) | (with_reducible refine Kd.C_alloc ?_ _) | (with_reducible refine Kd.C_drewN ?_ _) | (with_reducible refine Kd.C_drew ?_))); (case side2 => exact HC0.out); rintro e w30 ⟨v215, rfl, ho0, hb⟩; refine ⟨_, rfl, ?_⟩; have n0_ := Aside0.mk (Kd.R_below (by (with_reducible repeat (first | apply Kd.R_alloc | apply Kd.R_drewN | apply Kd.R_drew)); exact HO_5.out) hb); have n1_ := Aside0.mk (Kd.R_elder' (by (with_reducible repeat (first | apply Kd.R_alloc | apply Kd.R_drewN | apply Kd.R_drew)); exact HO211.out) (Kd.R_base ho0) hb); have n2_ := Aside0.mk (Kd.R_lower (Kd.R_new' ho0 (Kd.R_lt (by (with_reducible repeat (first | apply Kd.R_alloc | apply Kd.R_drewN | apply Kd.R_drew)); exact HO211.out))) (below_size (by repeat (first | (with_reducible first | exact HB.out | apply below_alloc | apply pw_below_drewN | apply below_drew1) | exact HB.out)))); have n3_ := Aside0.mk (below_step (by repeat (first | (with_reducible first | exact HB.out | apply below_alloc | apply pw_below_drewN | apply below_drew1) | exact HB.out)) hb); clear HO_5; clear HO211; clear HB; have HO_5 := n0_; have HO211 := n1_; have HO216 := n2_; have HB := n3_; clear n0_ n1_ n2_ n3_; (try clear hb); (try clear hb2); (try clear hk); (try clear hi); (try clear ho0); obtain ⟨Ao32, co32, eo32⟩ := Kd.R_slice HO216.out; subst eo32) | ((with_reducible refine gate_builtin (b := .append) (xs := #[.tmp 33, .tmp 36]) rfl ?_); at_builtin; refine Kd.R_append_rows (Kd.int .i64) (w0 := w) w.heap.size rfl (.tmp 33) (.tmp 36) 22 2 (.int .i64 0) 8 rfl Try.underlying22 info2 rfl (by decide) (by omega) (.slice (some ad208) y209.length co25) y209 t214 _ _ _ (fun k_ => some k_ ≠ (.slice Ao32 t214.length co32 : Value).ownBlock) (fun _ => False) rfl rfl ?aO ?aR (fun _ _ h => h) (fun _ h => h.elim) ?aF ?aB ?aS ?aL ?_; (case aR => repeat (first | exact (Kd.R_reads' HO216.out).2.2 | (with_reducible refine Kd.C_alloc ?_ _) | (with_reducible refine Kd.C_drewN ?_ _) | (with_reducible refine Kd.C_drew ?_))); (case aB => exact (by repeat (first | (with_reducible first | exact HB.out | apply below_alloc | apply pw_below_drewN | apply below_drew1) | exact HB.out))); (case aF => exact (fun k_ hk => Kd.fresh' (Kd.R_lt (by (with_reducible repeat (first | apply Kd.R_alloc | apply Kd.R_drewN | apply Kd.R_drew)); exact HO216.out)) k_ hk)); (case aO => exact (by (with_reducible repeat (first | apply Kd.R_alloc | apply Kd.R_drewN | apply Kd.R_drew)); exact Kd.R_mono HO211.out (fun _ hk => hk.2))); (case aS => exact (below_size (by repeat (first | (with_reducible first | exact HB.out | apply below_alloc | apply pw_below_drewN | apply below_drew1) | exact HB.out)))); (case aL => have := LMc24.out; omega); intro v218 w31 ho hb hg hat; rw [← Ny217.out] at ho; have n0_ := Aside0.mk (Kd.R_over' (by (with_reducible repeat (first | apply Kd.R_alloc | apply Kd.R_drewN | apply Kd.R_drew)); exact HO_5.out) (Kd.R_typed (by (with_reducible repeat (first | apply Kd.R_alloc | apply Kd.R_drewN | apply Kd.R_drew)); exact HO211.out)) (by decide) hg); have n1_ := Aside0.mk (Kd.R_after (ok := (fun _ => True)) (by (with_reducible repeat (first | apply Kd.R_alloc | apply Kd.R_drewN | apply Kd.R_drew)); exact HO216.out) hg hat); have n2_ := Aside0.mk (hb); have n3_ := Aside0.mk (ho); clear HO_5; clear HO216; clear HB; clear HO211; have HO_5 := n0_; have HO216 := n1_; have HB := n2_; have HO219 := n3_; clear n0_ n1_ n2_ n3_; clear ho hb hg hat))
            go_roundg k1
            case measure => have := HK1.out; omega
            case rel => exact ⟨(y213), (y217), H', ⟨by have := HK1.out; omega⟩, ⟨by (with_reducible repeat (first | apply Kd.R_alloc | apply Kd.R_drewN | apply Kd.R_drew)); exact HO_5.out⟩, ⟨by (with_reducible repeat (first | apply Kd.R_alloc | apply Kd.R_drewN | apply Kd.R_drew)); exact Kd.R_mono HO219.out (fun _ hk => trivial)⟩, ⟨by repeat (first | (with_reducible first | exact HB.out | apply below_alloc | apply pw_below_drewN | apply below_drew1) | exact HB.out)⟩⟩
           ·rw [if_neg c24] at H
            exact absurd H (by simp)
         ·rw [if_neg c16] at H
          exact absurd H (by simp)
        ·rw [if_neg c15] at H
         exact absurd H (by simp)
       ·rw [if_neg c14] at H
        exact absurd H (by simp)
      ·rw [if_neg c13] at H
       exact absurd H (by simp)
     ·rw [if_neg c12] at H
      exact absurd H (by simp)
    ·rw [if_neg c10] at H
     have c10b0 : decide (0 < (x6_1.length : Int)) = false := decide_eq_false c10
     have c10b1 : decide (0 < x6_1.length) = false := decide_eq_false (by omega)
     clear c10
     obtain rfl := Option.some.inj H
     obtain ⟨Ao33, co33, eo33⟩ := Kd.R_slice HO_6.out
     subst eo33
     go_wp2
     go_ret
     exact ⟨_, by first | rfl | (simp [errW_none, errW_some] <;> rfl) | (simp [*, errW_none, errW_some] <;> rfl), by (with_reducible repeat (first | apply Kd.R_alloc | apply Kd.R_drewN | apply Kd.R_drew)); exact HO_5.out, by repeat (first | (with_reducible first | exact HB.out | apply below_alloc | apply pw_below_drewN | apply below_drew1) | exact HB.out)⟩
 ·rw [if_neg c3] at H
  exact absurd H (by simp)

end Go.Proofs.Ytniikppojffiaaa.Q
end

section
/- What the reference's steps and ways compute. -/
namespace Go.Proofs.Ytniikppojffiaaa.K
open Go.RowKit Go.Shelf Go.Proofs.Ytniikppojffiaaa.Q Go.Proofs.YtniikppojffiaaaW.PrintWords Go.Proofs.YtniikppojffiaaaW.PrintLast Go.Proofs.YtniikppojffiaaaW.PrintMore
set_option linter.unusedVariables false
set_option linter.unusedSimpArgs false

theorem specNext_loop (a : Int) (bs : List Int) (hb : bs.length ≤ 1000) : ∀ (e i k : Nat) (acc : List Int), bs.length - i = e → i ≤ bs.length → e < k → acc.length + e ≤ 2000 →
  spec_l02Next.l0 k a acc bs (i : Int) = some (acc ++ (bs.drop i).filter fun f => !(f == a)) := by
 intro e
 induction e with
 | zero =>
  intro i k acc he hi hk ha
  obtain ⟨k, rfl⟩ : ∃ m, k = m + 1 := ⟨k - 1, by omega⟩
  obtain rfl : i = bs.length := by omega
  simp only [spec_l02Next.l0]
  rw [if_neg (by omega), List.drop_eq_nil_of_le (by omega)]
  simp
 | succ e ih =>
  intro i k acc he hi hk ha
  obtain ⟨k, rfl⟩ : ∃ m, k = m + 1 := ⟨k - 1, by omega⟩
  have hil : i < bs.length := by omega
  simp only [spec_l02Next.l0]
  rw [if_pos (by omega), if_pos (by omega), rd_nat bs i hil, w64 ((i : Int) + 1) (by omega) (by omega), nat_succ, List.drop_eq_getElem_cons hil, List.filter_cons]
  by_cases h : bs[i] = a
  ·rw [if_pos h, ih (i + 1) k acc (by omega) (by omega) (by omega) (by omega), if_neg (by simp [h])]
  ·rw [if_neg h, if_pos (by omega), ih (i + 1) k _ (by omega) (by omega) (by omega) (by simp; omega), if_pos (by simp [h]), List.append_assoc]
   rfl
theorem high_good {q : List PairT} (hg : GoodQ q) (a : Int) : highL q a = 0 ∨ (1 ≤ highL q a ∧ highL q a ≤ 63) := by
 rcases high_cases q a with ⟨h1, _⟩ | ⟨p, hp, _, h2⟩
 ·exact .inl h1
 ·have := hg.f1 p hp
  rw [h2] at this
  exact .inr this
theorem specNext_is {q : List PairT} (hg : GoodQ q) (a : Int) (k : Nat) (hk : 4001 ≤ k) : spec_l02Next.f k q a = some (stepsL q a) := by
 unfold spec_l02Next.f stepsL
 rw [specHigh_is q (by have := hg.len; omega) a k hk]
 simp only [Option.bind_some]
 rcases high_good hg a with h | ⟨h1, h2⟩
 ·rw [if_pos h, if_pos h]
 ·rw [if_neg (by omega), if_neg (by omega), specBelow_is _ h1 h2 k (by omega)]
  simp only [Option.bind_some]
  have hl := bords_length (highL q a)
  have := specNext_loop a (bords (highL q a)) (by omega) (bords (highL q a)).length 0 k [] (by omega) (by omega) (by omega) (by simp; omega)
  rw [show ((0 : Nat) : Int) = 0 from rfl, List.drop_zero, List.nil_append] at this
  exact this

/-- A list of 64 truths reads as the set. -/
structure MetL (met : List Bool) (S : Int → Bool) : Prop where
 len : met.length = 64
 at_ : ∀ x : Int, 0 ≤ x → x < 64 → rdOf false met x = S x
theorem MetL.start : MetL (List.replicate 64 false) (fun _ => false) := ⟨by simp, fun x h0 h1 => by
 obtain ⟨n, rfl⟩ : ∃ n : Nat, x = (n : Int) := ⟨x.toNat, by omega⟩
 have hn : n < 64 := by omega
 unfold rdOf
 rw [Int.toNat_natCast, List.getD_eq_getElem?_getD, List.getElem?_replicate, if_pos hn]
 rfl⟩
theorem MetL.set {met : List Bool} {S : Int → Bool} (h : MetL met S) (x : Int) (h0 : 0 ≤ x) (h1 : x < 64) : MetL (met.set x.toNat true) (upd S x true) := ⟨by rw [List.length_set]; exact h.len, fun y y0 y1 => by
 obtain ⟨n, rfl⟩ : ∃ n : Nat, x = (n : Int) := ⟨x.toNat, by omega⟩
 obtain ⟨m, rfl⟩ : ∃ m : Nat, y = (m : Int) := ⟨y.toNat, by omega⟩
 have hl := h.len
 have hy := h.at_ (m : Int) y0 y1
 unfold upd
 by_cases e : m = n
 ·subst e
  have hm : m < met.length := by omega
  rw [if_pos rfl]
  simp [rdOf, hm]
 ·rw [if_neg (by omega), ← hy]
  simp [rdOf, List.getElem?_set_ne (fun e' : n = m => e e'.symm)]⟩
theorem specReached_loop {q : List PairT} (hg : GoodQ q) (a : Int) : ∀ (M k : Nat) (met : List Bool) (st : List Int) (S : Int → Bool), MetL met S → (∀ x ∈ st, 1 ≤ x ∧ x ≤ 63) → Dfs (stepsL q) a S st → st.length + 7 * (64 - cnt S) ≤ M → M + 4010 ≤ k → M ≤ 1000 →
  ∃ met', spec_l02Reached.l0 k q met st = some met' ∧ MetL met' (reachB (stepsL q) a) := by
 intro M
 induction M with
 | zero =>
  intro k met st S hm hst hd hM hk _
  obtain ⟨k, rfl⟩ : ∃ m, k = m + 1 := ⟨k - 1, by omega⟩
  obtain rfl : st = [] := List.eq_nil_of_length_eq_zero (by omega)
  refine ⟨met, ?_, hm.len, fun x h0 h1 => by rw [hm.at_ x h0 h1]; exact reachB_of (Dfs.done hd) x⟩
  simp [spec_l02Reached.l0]
 | succ M ih =>
  intro k met st S hm hst hd hM hk hM2
  obtain ⟨k, rfl⟩ : ∃ m, k = m + 1 := ⟨k - 1, by omega⟩
  rcases List.eq_nil_or_concat st with rfl | ⟨st, x, rfl⟩
  ·refine ⟨met, ?_, hm.len, fun x h0 h1 => by rw [hm.at_ x h0 h1]; exact reachB_of (Dfs.done hd) x⟩
   simp [spec_l02Reached.l0]
  ·rw [List.concat_eq_append] at *
   have hl : (st ++ [x]).length = st.length + 1 := by simp
   have hx := hst x (by simp)
   have HW : Aside0 (wrap64 (((st ++ [x]).length : Int) - 1) = (st.length : Int)) := ⟨by rw [hl, w64 _ (by omega) (by omega)]; omega⟩
   have hr : rd (st ++ [x]) (st.length : Int) = x := by simp [rd]
   have ht : (st ++ [x]).take st.length = st := by simp
   have h1 := hm.at_ x (by omega) (by omega)
   have hml := hm.len
   rw [hl] at hM
   simp only [spec_l02Reached.l0]
   rw [HW.out, hr, Int.toNat_natCast, ht, if_pos (by omega), if_pos (by omega), if_pos (by omega), if_pos (by omega)]
   simp only [Option.bind_some]
   rw [if_pos (by omega), if_pos (by omega), h1]
   cases hs : S x with
   | true =>
    rw [if_pos rfl]
    exact ih k met st S hm (fun y hy => hst y (List.mem_append_left _ hy)) (hd.skip hs) (by omega) (by omega) (by omega)
   | false =>
    have hc := cnt_upd S x (by omega) (by omega) hs
    have h64 := cnt_le (upd S x true)
    have hsl := steps_len (q := q) x
    rw [if_neg (by simp), specNext_is hg x k (by omega)]
    simp only [Option.bind_some]
    rw [if_pos (by omega)]
    refine ih k _ _ _ (hm.set x (by omega) (by omega)) (fun y hy => ?_) hd.new (by rw [List.length_append]; omega) (by omega) (by omega)
    rcases List.mem_append.1 hy with hy | hy
    ·exact hst y (List.mem_append_left _ hy)
    ·exact steps_mem hg hy
theorem specReached_is {q : List PairT} (hg : GoodQ q) (a : Int) (k : Nat) (hk : 5000 ≤ k) : ∃ met, spec_l02Reached.f k q a = some met ∧ MetL met (reachB (stepsL q) a) := by
 have hsl := steps_len (q := q) a
 have h := specReached_loop hg a ((stepsL q a).length + 7 * 64) k (List.replicate 64 false) (stepsL q a) (fun _ => false) MetL.start (fun x hx => steps_mem hg hx) (Dfs.start _ _) (by rw [cnt_none]; omega) (by omega) (by omega)
 unfold spec_l02Reached.f
 rw [if_pos (by decide), specNext_is hg a k (by omega)]
 exact h

end Go.Proofs.Ytniikppojffiaaa.K
end

section
/- Written by a program of this session (myprint.py over the kit's print). -/
namespace Go.Proofs.Ytniikppojffiaaa.Q
open Go.RowKit Go.Proofs.YtniikppojffiaaaW.PrintWords Go.Proofs.YtniikppojffiaaaW.PrintLast Go.Proofs.YtniikppojffiaaaW.PrintMore
attribute [local go_sem] max2_int min2_int max_two min_two max_three min_three max_four min_four   -- for this text's walks alone
set_option linter.unusedVariables false
set_option linter.unusedSimpArgs false

/-! ### spec_FacesReached: function 38 -/
def spec_FacesReached.l0 : Nat → Int → List Bool → List Int → Int → Int → List Int → Option (List Int × Int)
 | 0, _, _, _, _, _, _ => none
 | k + 1, x2, x9, x10, x11, x245000, x245001 => if x11 < (x245001.length : Int) then (if 0 ≤ x11 then (if 0 ≤ (rd x245001 x11) then (if (rd x245001 x11) < (x9.length : Int) then (if rdOf false x9 (rd x245001 x11) = true then (if x10.length < 17592186044416 then (spec_FacesReached.l0 k x2 x9 (x10 ++ [rd x245001 x11]) (wrap64 (x11 + 1)) x245000 x245001) else (none)) else (if (rd x245001 x11) = x2 then (if x10.length < 17592186044416 then (spec_FacesReached.l0 k x2 x9 (x10 ++ [rd x245001 x11]) (wrap64 (x11 + 1)) x245000 x245001) else (none)) else (spec_FacesReached.l0 k x2 x9 x10 (wrap64 (x11 + 1)) x245000 x245001))) else (none)) else (none)) else (none)) else (some (x10, 0))
def spec_FacesReached.f (k : Nat) (a0_0 : Int) (l0_1 : List Int) (l1 : List (S53)) (a2 : Int) : Option (List Int × Int) := (spec_l02Code.f k a0_0 l0_1 l1 (([a2] : List Int))).bind fun t248 => (if t248 = 0 then ((spec_l02Reached.f k l1 a2).bind fun t249 => (spec_FacesReached.l0 k a2 t249 (([] : List Int)) 0 a0_0 l0_1)) else (some (([] : List Int), t248)))
theorem spec_FacesReached.mono_l : ∀ k, (∀ y0 y1 y2 y3 y4 y5, LeO (spec_FacesReached.l0 k y0 y1 y2 y3 y4 y5) (spec_FacesReached.l0 (k + 1) y0 y1 y2 y3 y4 y5))
 | 0 => fun _ _ _ _ _ _ r h => by simp [spec_FacesReached.l0] at h
 | k + 1 => by
  have ih0 := spec_FacesReached.mono_l k
  ·intro y0 y1 y2 y3 y4 y5
   unfold spec_FacesReached.l0
   repeat' first
   | (with_reducible exact ih0 _ _ _ _ _ _)
   | (with_reducible exact spec_l02Code.mono _ _ _ _ _)
   | (with_reducible exact spec_l02Reached.mono _ _ _)
   | (with_reducible exact LeO.refl _)
   | (with_reducible exact LeO.none _)
   | (with_reducible refine LeO.ite ?_ ?_)
   | (with_reducible refine LeO.bind ?_ (fun _ => ?_))
   | exact ih0 _ _ _ _ _ _
   | exact spec_l02Code.mono _ _ _ _ _
   | exact spec_l02Reached.mono _ _ _
   | exact LeO.none _
   | refine LeO.ite ?_ ?_
   | refine LeO.bind ?_ (fun _ => ?_)
theorem spec_FacesReached.mono : ∀ a0 a1 a2 a3 k, LeO (spec_FacesReached.f k a0 a1 a2 a3) (spec_FacesReached.f (k + 1) a0 a1 a2 a3) := by
 intro a0 a1 a2 a3 k
 have ih0 := spec_FacesReached.mono_l k
 unfold spec_FacesReached.f
 repeat' first
   | (with_reducible exact ih0 _ _ _ _ _ _)
   | (with_reducible exact spec_l02Code.mono _ _ _ _ _)
   | (with_reducible exact spec_l02Reached.mono _ _ _)
   | (with_reducible exact LeO.refl _)
   | (with_reducible exact LeO.none _)
   | (with_reducible refine LeO.ite ?_ ?_)
   | (with_reducible refine LeO.bind ?_ (fun _ => ?_))
   | exact ih0 _ _ _ _ _ _
   | exact spec_l02Code.mono _ _ _ _ _
   | exact spec_l02Reached.mono _ _ _
   | exact LeO.none _
   | refine LeO.ite ?_ ?_
   | refine LeO.bind ?_ (fun _ => ?_)
set_option maxHeartbeats 8000000 in
set_option maxRecDepth 100000 in
theorem spec_FacesReached.calls (k : Nat) (a0_0 : Int) (A0_1 : Option Addr) (c0_1 : Nat) (l0_1 : List Int) (A1 : Option Addr) (c1 : Nat) (l1 : List (S53)) (a2 : Int) (r1 : List Int) (r2 : Int) (w : World) (hr0_1 : Kd.C (Kd.int .i64) w A0_1 l0_1.length l0_1) (hc0_1 : l0_1.length ≤ c0_1) (hr1 : Kd.C k53 w A1 l1.length l1) (hc1 : l1.length ≤ c1) (h : spec_FacesReached.f k a0_0 l0_1 l1 a2 = some (r1, r2)) :
  Calls Try.prog 38 #[.agg #[.int .i64 a0_0, .slice A0_1 l0_1.length c0_1], .slice A1 l1.length c1, .int .i64 a2] w fun e w' => ∃ v0_ : Value, e = .returned (.tuple #[v0_, .int .i64 r2]) ∧ Kd.R (Kd.int .i64) 2 w' w.heap.size (fun _ => True) v0_ r1 ∧ Below w.heap.size w w' := by
 have hu30 := Try.underlying30
 have HR0_1 := Aside0.mk hr0_1
 have HC0_1 := Aside0.mk hc0_1
 clear hr0_1 hc0_1
 have HR1 := Aside0.mk hr1
 have HC1 := Aside0.mk hc1
 clear hr1 hc1
 have HB := Aside0.mk (Below.refl w.heap.size w)
 have H : ((spec_l02Code.f k a0_0 l0_1 l1 (([a2] : List Int))).bind fun t248 => (if t248 = 0 then ((spec_l02Reached.f k l1 a2).bind fun t249 => (spec_FacesReached.l0 k a2 t249 (([] : List Int)) 0 a0_0 l0_1)) else (some (([] : List Int), t248)))) = some (r1, r2) := h
 clear h
 obtain ⟨y245, hy245⟩ : ∃ y_ : List Int, y_ = (([a2] : List Int)) := ⟨_, rfl⟩
 replace H : ((spec_l02Code.f k a0_0 l0_1 l1 y245).bind fun t248 => (if t248 = 0 then ((spec_l02Reached.f k l1 a2).bind fun t249 => (spec_FacesReached.l0 k a2 t249 (([] : List Int)) 0 a0_0 l0_1)) else (some (([] : List Int), t248)))) = some (r1, r2) := by first | (rw [hy245]; with_reducible exact H) | (have H2_ := (Option.bind_some _ _).symm.trans H; rw [hy245]; with_reducible exact H2_) | (have H2_ := (Option.bind_some _ _).symm.trans H; with_reducible exact H2_) | with_reducible exact H | (rw [hy245]; exact H) | exact H
 have Ny245 := Aside0.mk hy245
 clear hy245
 replace H := Option.bind_eq_some_iff.mp H
 obtain ⟨t248, A40, H⟩ := H
 replace H : (if t248 = 0 then ((spec_l02Reached.f k l1 a2).bind fun t249 => (spec_FacesReached.l0 k a2 t249 (([] : List Int)) 0 a0_0 l0_1)) else (some (([] : List Int), t248))) = some (r1, r2) := H
 have A4 := Aside0.mk A40
 clear A40
 by_cases c5 : t248 = 0
 ·rw [if_pos c5] at H
  have c5b0 : (t248 == 0) = true := beq_iff_eq.mpr c5
  have c5b1 : (t248 != 0) = false := bne_eq_false_iff_eq.mpr c5
  clear c5
  replace H := Option.bind_eq_some_iff.mp H
  obtain ⟨t249, A60, H⟩ := H
  replace H : (spec_FacesReached.l0 k a2 t249 (([] : List Int)) 0 a0_0 l0_1) = some (r1, r2) := H
  have A6 := Aside0.mk A60
  clear A60
  obtain ⟨y252, hy252⟩ : ∃ y_ : List Int, y_ = (([] : List Int)) := ⟨_, rfl⟩
  replace H : (spec_FacesReached.l0 k a2 t249 y252 0 a0_0 l0_1) = some (r1, r2) := by first | (rw [hy252]; with_reducible exact H) | (have H2_ := (Option.bind_some _ _).symm.trans H; rw [hy252]; with_reducible exact H2_) | (have H2_ := (Option.bind_some _ _).symm.trans H; with_reducible exact H2_) | with_reducible exact H | (rw [hy252]; exact H) | exact H
  have Ny252 := Aside0.mk hy252
  clear hy252
  have H' := Aside0.mk H
  clear H
  go_enter Try.func38, Try.ntmps38
  go_wp2_with (first | ((with_reducible refine gate_dst (N := 3) rfl ?_); refine box_event ?hg (N := 3) ?hd (cs := #[.int .i64 a0_0, .slice A0_1 l0_1.length c0_1]) (t := 30) ?hr ?_; (case hd => rfl); (case hg => rfl); (case hr => first | (go_simp; done) | (go_simp; rfl)); intro gb244 hg w7 hbox hb; have n0_ := Aside0.mk (below_step (by repeat (first | (with_reducible first | exact HB.out | apply below_alloc | apply pw_below_drewN | apply below_drew1) | exact HB.out)) hb); have n1_ := Aside0.mk (hbox); have n2_ := Aside0.mk ((by rw [hg]; exact (below_size (by repeat (first | (with_reducible first | exact HB.out | apply below_alloc | apply pw_below_drewN | apply below_drew1) | exact HB.out))) : w.heap.size ≤ gb244)); have n3_ := Aside0.mk ((by rw [hg]; exact (below_size (by repeat (first | (with_reducible first | exact HB.out | apply below_alloc | apply pw_below_drewN | apply below_drew1) | exact HB.out))) : w.heap.size ≤ gb244)); clear HB; have HB := n0_; have BK244 := n1_; have GW244 := n2_; have GE244 := n3_; clear n0_ n1_ n2_ n3_; clear hb hbox hg; have hcz8_0 : w7.cell? ⟨gb244, 0, none⟩ = some (.int .i64 a0_0) := (blk_cell BK244.out 0).trans rfl; have hcz8_1 : w7.cell? ⟨gb244, 1, none⟩ = some (.slice A0_1 l0_1.length c0_1) := (blk_cell BK244.out 1).trans rfl; have hfz8_0 := blk_frozen BK244.out 0; have hfz8_1 := blk_frozen BK244.out 1) | ((with_reducible refine gate_dst (N := 15) rfl ?_); refine Kd.R_lit (Kd.int .i64) _ 2 ?hg (N := 15) ?hd (xs := ([a2] : List Int)) (inner := [.int .i64 a2]) (ok := fun _ => True) (okp := fun _ => True) ?hr ?hp (fun _ hk => hk) trivial (Below.refl _ _) (Nat.le_refl _) (by simp) ?_; (case hd => rfl); (case hg => rfl); (case hr => first | (go_simp; done) | (go_simp; rfl)); (case hp => exact (Reps.one (show Kd.M (Kd.int .i64) _ _ _ a2 [.int .i64 a2] from rfl) (Reps.none _ _))); intro v246 w9 ho10 hb hg_ hnew_; clear hg_ hnew_; (first | rw [← Ny245.out] at ho10 | (simp only [Int.reduceToNat] at ho10; rw [← Ny245.out] at ho10)); have n0_ := Aside0.mk (Kd.R_lower ho10 (below_size (by repeat (first | (with_reducible first | exact HB.out | apply below_alloc | apply pw_below_drewN | apply below_drew1 | refine below_set ?_ GE244.out) | exact HB.out)))); have n1_ := Aside0.mk (blk_below (g := gb244) (o := .cells #[.int .i64 a0_0, .slice A0_1 l0_1.length c0_1] 30 (0, 0)) (by (with_reducible repeat (first | refine blk_drewN ?_ _ | refine blk_drew ?_ | refine blk_alloc ?_ _)); exact BK244.out) hb); have n2_ := Aside0.mk (below_step (by repeat (first | (with_reducible first | exact HB.out | apply below_alloc | apply pw_below_drewN | apply below_drew1 | refine below_set ?_ GE244.out) | exact HB.out)) hb); clear BK244; clear HB; have HO247 := n0_; have BK244 := n1_; have HB := n2_; clear n0_ n1_ n2_; clear hb ho10; obtain ⟨Ao11, co11, eo11⟩ := Kd.R_slice HO247.out; subst eo11) | ((with_reducible refine gate_callee (f := 66) rfl ?_); refine goesL_ (some 16) rfl rfl Try.func66 (by kernel_rfl) rfl #[.agg #[.int .i64 a0_0, .slice A0_1 l0_1.length c0_1], .slice A1 l1.length c1, .slice Ao11 y245.length co11] rfl (by (try simp only [List.map_toArray, List.map_cons, List.map_nil]); first | done | rfl | (simp only [List.length_drop, List.length_take]; rfl)) ?_; (with_reducible refine (spec_l02Code.calls k a0_0 _ _ l0_1 _ _ l1 _ _ y245 t248 _ ?side1 ?side2 ?side3 ?side4 ?side5 ?side6 A4.out).mono ?_); (case side1 => repeat (first | exact (Kd.C_below HR0_1.out HB.out) | (with_reducible refine Kd.C_alloc ?_ _) | (with_reducible refine Kd.C_drewN ?_ _) | (with_reducible refine Kd.C_drew ?_))); (case side2 => exact HC0_1.out); (case side3 => repeat (first | exact (Kd.C_below HR1.out HB.out) | (with_reducible refine Kd.C_alloc ?_ _) | (with_reducible refine Kd.C_drewN ?_ _) | (with_reducible refine Kd.C_drew ?_))); (case side4 => exact HC1.out); (case side5 => repeat (first | exact (Kd.R_reads' HO247.out).2.2 | (with_reducible refine Kd.C_alloc ?_ _) | (with_reducible refine Kd.C_drewN ?_ _) | (with_reducible refine Kd.C_drew ?_))); (case side6 => exact (Kd.R_reads' HO247.out).2.1); rintro e w12 ⟨rfl, hb⟩; refine ⟨_, rfl, ?_⟩; have n0_ := Aside0.mk (Kd.R_below (by (with_reducible repeat (first | apply Kd.R_alloc | apply Kd.R_drewN | apply Kd.R_drew)); exact HO247.out) hb); have n1_ := Aside0.mk (blk_below (g := gb244) (o := .cells #[.int .i64 a0_0, .slice A0_1 l0_1.length c0_1] 30 (0, 0)) (by (with_reducible repeat (first | refine blk_drewN ?_ _ | refine blk_drew ?_ | refine blk_alloc ?_ _)); exact BK244.out) hb); have n2_ := Aside0.mk (below_step (by repeat (first | (with_reducible first | exact HB.out | apply below_alloc | apply pw_below_drewN | apply below_drew1 | refine below_set ?_ GE244.out) | exact HB.out)) hb); clear HO247; clear BK244; clear HB; have HO247 := n0_; have BK244 := n1_; have HB := n2_; clear n0_ n1_ n2_; (try clear hb); (try clear hb2); (try clear hk); (try clear hi)) | ((with_reducible refine gate_callee (f := 74) rfl ?_); refine goesL_ (some 22) rfl rfl Try.func74 (by kernel_rfl) rfl #[.slice A1 l1.length c1, .int .i64 a2] rfl (by (try simp only [List.map_toArray, List.map_cons, List.map_nil]); first | done | rfl | (simp only [List.length_drop, List.length_take]; rfl)) ?_; (with_reducible refine (spec_l02Reached.calls k _ _ l1 a2 t249 _ ?side1 ?side2 A6.out).mono ?_); (case side1 => repeat (first | exact (Kd.C_below HR1.out HB.out) | (with_reducible refine Kd.C_alloc ?_ _) | (with_reducible refine Kd.C_drewN ?_ _) | (with_reducible refine Kd.C_drew ?_))); (case side2 => exact HC1.out); rintro e w13 ⟨v250, rfl, ho0, hb⟩; refine ⟨_, rfl, ?_⟩; have n0_ := Aside0.mk (Kd.R_below (by (with_reducible repeat (first | apply Kd.R_alloc | apply Kd.R_drewN | apply Kd.R_drew)); exact HO247.out) hb); have n1_ := Aside0.mk (Kd.R_lower ho0 (below_size (by repeat (first | (with_reducible first | exact HB.out | apply below_alloc | apply pw_below_drewN | apply below_drew1 | refine below_set ?_ GE244.out) | exact HB.out)))); have n2_ := Aside0.mk (blk_below (g := gb244) (o := .cells #[.int .i64 a0_0, .slice A0_1 l0_1.length c0_1] 30 (0, 0)) (by (with_reducible repeat (first | refine blk_drewN ?_ _ | refine blk_drew ?_ | refine blk_alloc ?_ _)); exact BK244.out) hb); have n3_ := Aside0.mk (below_step (by repeat (first | (with_reducible first | exact HB.out | apply below_alloc | apply pw_below_drewN | apply below_drew1 | refine below_set ?_ GE244.out) | exact HB.out)) hb); clear HO247; clear BK244; clear HB; have HO247 := n0_; have HO251 := n1_; have BK244 := n2_; have HB := n3_; clear n0_ n1_ n2_ n3_; (try clear hb); (try clear hb2); (try clear hk); (try clear hi); (try clear ho0)) | ((with_reducible refine gate_dst (N := 23) rfl ?_); refine Kd.R_lit (Kd.int .i64) _ 2 ?hg (N := 23) ?hd (xs := ([] : List Int)) (inner := []) (ok := fun _ => True) (okp := fun _ => True) ?hr ?hp (fun _ hk => hk) trivial (Below.refl _ _) (Nat.le_refl _) (by simp) ?_; (case hd => rfl); (case hg => rfl); (case hr => first | (go_simp; done) | (go_simp; rfl)); (case hp => exact (Reps.none _ _)); intro v253 w14 ho15 hb hg_ hnew_; clear hg_ hnew_; (first | rw [← Ny252.out] at ho15 | (simp only [Int.reduceToNat] at ho15; rw [← Ny252.out] at ho15)); have n0_ := Aside0.mk (Kd.R_elder' (by (with_reducible repeat (first | apply Kd.R_alloc | apply Kd.R_drewN | apply Kd.R_drew)); exact HO247.out) (Kd.R_base ho15) hb); have n1_ := Aside0.mk (Kd.R_below (by (with_reducible repeat (first | apply Kd.R_alloc | apply Kd.R_drewN | apply Kd.R_drew)); exact HO251.out) hb); have n2_ := Aside0.mk (Kd.R_lower (Kd.R_new' ho15 (Kd.R_lt (by (with_reducible repeat (first | apply Kd.R_alloc | apply Kd.R_drewN | apply Kd.R_drew)); exact HO247.out))) (below_size (by repeat (first | (with_reducible first | exact HB.out | apply below_alloc | apply pw_below_drewN | apply below_drew1 | refine below_set ?_ GE244.out) | exact HB.out)))); have n3_ := Aside0.mk (blk_below (g := gb244) (o := .cells #[.int .i64 a0_0, .slice A0_1 l0_1.length c0_1] 30 (0, 0)) (by (with_reducible repeat (first | refine blk_drewN ?_ _ | refine blk_drew ?_ | refine blk_alloc ?_ _)); exact BK244.out) hb); have n4_ := Aside0.mk (below_step (by repeat (first | (with_reducible first | exact HB.out | apply below_alloc | apply pw_below_drewN | apply below_drew1 | refine below_set ?_ GE244.out) | exact HB.out)) hb); clear HO247; clear HO251; clear BK244; clear HB; have HO247 := n0_; have HO251 := n1_; have HO254 := n2_; have BK244 := n3_; have HB := n4_; clear n0_ n1_ n2_ n3_ n4_; clear hb ho15))
  go_loopg [10, 11] k (fun kq v10 v11 w' => ∃ (x10_1 : List Int) (x11_1 : Int), v11 = .int .i64 x11_1 ∧ Aside0 (spec_FacesReached.l0 kq a2 t249 x10_1 x11_1 a0_0 l0_1 = some (r1, r2)) ∧ Aside0 (kq ≤ k) ∧ Aside0 (Kd.R Kd.bool 4 w' w.heap.size (fun _ => True) v250 t249) ∧ Aside0 (Kd.R (Kd.int .i64) 2 w' w.heap.size (fun _ => True) v10 x10_1) ∧ Aside0 (w'.heap[gb244]? = some (.cells #[.int .i64 a0_0, (.slice A0_1 l0_1.length c0_1)] 30 (0, 0))) ∧ Aside0 (Below w.heap.size w w'))
  case atStart => exact ⟨(y252), (0), (by first | rfl | (simp; done) | (simp [*]; done)), H', ⟨Nat.le_refl _⟩, ⟨by (with_reducible repeat (first | apply Kd.R_alloc | apply Kd.R_drewN | apply Kd.R_drew)); exact HO251.out⟩, ⟨by (with_reducible repeat (first | apply Kd.R_alloc | apply Kd.R_drewN | apply Kd.R_drew)); exact Kd.R_mono HO254.out (fun _ hk => trivial)⟩, ⟨by (with_reducible repeat (first | refine blk_drewN ?_ _ | refine blk_drew ?_ | refine blk_alloc ?_ _)); exact BK244.out⟩, ⟨by repeat (first | (with_reducible first | exact HB.out | apply below_alloc | apply pw_below_drewN | apply below_drew1 | refine below_set ?_ GE244.out) | exact HB.out)⟩⟩
  case round =>
   clear H'
   try clear c1
   try clear p2
   try clear c3
   try clear c5
   try clear c5b0
   try clear c5b1
   try clear c6
   try clear c7
   try clear hcz8_0
   try clear hcz8_1
   try clear hfz8_0
   try clear hfz8_1
   obtain ⟨x10_1, x11_1, rfl, HA, HK1, HO_9, HO_10, BK244, HB⟩ := hrel
   cases gk with
   | zero => exact absurd HA.out (by simp [spec_FacesReached.l0])
   | succ k1 =>
    have H := HA.out
    clear HA
    simp only [spec_FacesReached.l0] at H
    by_cases c16 : x11_1 < (l0_1.length : Int)
    ·rw [if_pos c16] at H
     have c16b0 : decide (x11_1 < (l0_1.length : Int)) = true := decide_eq_true c16
     clear c16
     by_cases c17 : 0 ≤ x11_1
     ·rw [if_pos c17] at H
      have c17b0 : decide (0 ≤ x11_1) = true := decide_eq_true c17
      clear c17
      by_cases c18 : 0 ≤ (rd l0_1 x11_1)
      ·rw [if_pos c18] at H
       have c18b0 : decide (0 ≤ (rd l0_1 x11_1)) = true := decide_eq_true c18
       clear c18
       by_cases c19 : (rd l0_1 x11_1) < (t249.length : Int)
       ·rw [if_pos c19] at H
        have c19b0 : decide ((rd l0_1 x11_1) < (t249.length : Int)) = true := decide_eq_true c19
        clear c19
        obtain ⟨bq20, hbq20⟩ : ∃ b_ : Bool, b_ = (rdOf false t249 (rd l0_1 x11_1)) := ⟨_, rfl⟩
        replace H : (if bq20 = true then (if x10_1.length < 17592186044416 then (spec_FacesReached.l0 k1 a2 t249 (x10_1 ++ [rd l0_1 x11_1]) (wrap64 (x11_1 + 1)) a0_0 l0_1) else (none)) else (if (rd l0_1 x11_1) = a2 then (if x10_1.length < 17592186044416 then (spec_FacesReached.l0 k1 a2 t249 (x10_1 ++ [rd l0_1 x11_1]) (wrap64 (x11_1 + 1)) a0_0 l0_1) else (none)) else (spec_FacesReached.l0 k1 a2 t249 x10_1 (wrap64 (x11_1 + 1)) a0_0 l0_1))) = some (r1, r2) := by rw [← hbq20] at H; exact H
        have Nbq20 := Aside0.mk hbq20
        clear hbq20
        by_cases c21 : bq20 = true
        ·subst c21
         have H1 : (if x10_1.length < 17592186044416 then (spec_FacesReached.l0 k1 a2 t249 (x10_1 ++ [rd l0_1 x11_1]) (wrap64 (x11_1 + 1)) a0_0 l0_1) else (none)) = some (r1, r2) := by rw [if_pos rfl] at H; exact H
         clear H
         have H := H1
         clear H1
         by_cases c22 : x10_1.length < 17592186044416
         ·rw [if_pos c22] at H
          have LMc22 := Aside0.mk c22
          clear c22
          obtain ⟨y258, hy258⟩ : ∃ y_ : List Int, y_ = (x10_1 ++ [rd l0_1 x11_1]) := ⟨_, rfl⟩
          replace H : (spec_FacesReached.l0 k1 a2 t249 y258 (wrap64 (x11_1 + 1)) a0_0 l0_1) = some (r1, r2) := by first | (rw [hy258]; with_reducible exact H) | (have H2_ := (Option.bind_some _ _).symm.trans H; rw [hy258]; with_reducible exact H2_) | (have H2_ := (Option.bind_some _ _).symm.trans H; with_reducible exact H2_) | with_reducible exact H | (rw [hy258]; exact H) | exact H
          have Ny258 := Aside0.mk hy258
          clear hy258
          have H' := Aside0.mk H
          clear H
          have hcz23_0 : wr.cell? ⟨gb244, 0, none⟩ = some (.int .i64 a0_0) := (blk_cell BK244.out 0).trans rfl
          have hcz23_1 : wr.cell? ⟨gb244, 1, none⟩ = some (.slice A0_1 l0_1.length c0_1) := (blk_cell BK244.out 1).trans rfl
          have hfz23_0 := blk_frozen BK244.out 0
          have hfz23_1 := blk_frozen BK244.out 1
          have p255 : 0 ≤ (x11_1 : Int) := of_decide_eq_true (by first | (with_reducible assumption) | assumption)
          have q255 : x11_1 < (l0_1.length : Int) := of_decide_eq_true (by first | (with_reducible assumption) | assumption)
          obtain ⟨ad255, e255, hx255_0⟩ := Kd.at_int HR0_1.out x11_1 p255 q255
          cases e255
          replace hx255_0 := (HB.out.cell (World.block_lt_of_cell? w _ hx255_0)).trans hx255_0
          replace p255 := eq_true p255
          replace q255 := eq_true q255
          obtain ⟨Ao24, co24, eo24⟩ := Kd.R_slice HO_9.out
          subst eo24
          have p256 : 0 ≤ ((rd l0_1 x11_1) : Int) := of_decide_eq_true (by first | (with_reducible assumption) | assumption)
          have q256 : (rd l0_1 x11_1) < (t249.length : Int) := of_decide_eq_true (by first | (with_reducible assumption) | assumption)
          obtain ⟨ad256, e256, hx256_0⟩ := Kd.at_bool (Kd.R_reads' HO_9.out).2.2 (rd l0_1 x11_1) p256 q256
          (try rw [← Nbq20.out] at hx256_0)
          cases e256
          replace p256 := eq_true p256
          replace q256 := eq_true q256
          have p257 : 0 ≤ (x11_1 : Int) := of_decide_eq_true (by first | (with_reducible assumption) | assumption)
          have q257 : x11_1 < (l0_1.length : Int) := of_decide_eq_true (by first | (with_reducible assumption) | assumption)
          obtain ⟨ad257, e257, hx257_0⟩ := Kd.at_int HR0_1.out x11_1 p257 q257
          obtain rfl : ad255 = ad257 := (by injection e257)
          replace hx257_0 := (HB.out.cell (World.block_lt_of_cell? w _ hx257_0)).trans hx257_0
          replace p257 := eq_true p257
          replace q257 := eq_true q257
          go_wp2_with (first | ((with_reducible refine gate_builtin (b := .append) (xs := #[.tmp 48, .tmp 54]) rfl ?_); at_builtin; refine Kd.R_append (Kd.int .i64) (w0 := w) w.heap.size rfl (.tmp 48) (.tmp 54) 22 2 (.int .i64 0) 8 rfl Try.underlying22 info2 rfl (by decide) (by omega) u10 x10_1 (rd l0_1 x11_1) [.int .i64 (rd l0_1 x11_1)] (fun _ => True) (fun _ => False) rfl rfl ?aP (fun _ hk => hk.elim) ?aF ?aO ?aB ?aS ?aL ?_; (case aP => exact rfl); (case aB => exact (by repeat (first | (with_reducible first | exact HB.out | apply below_alloc | apply pw_below_drewN | apply below_drew1 | refine below_set ?_ GE244.out) | exact HB.out))); (case aF => exact (fun _ _ => trivial)); (case aO => exact (by (with_reducible repeat (first | apply Kd.R_alloc | apply Kd.R_drewN | apply Kd.R_drew)); exact HO_10.out)); (case aS => exact (below_size (by repeat (first | (with_reducible first | exact HB.out | apply below_alloc | apply pw_below_drewN | apply below_drew1 | refine below_set ?_ GE244.out) | exact HB.out)))); (case aL => have := LMc22.out; omega); intro v259 w25 ho hb hg hat; rw [← Ny258.out] at ho; have n0_ := Aside0.mk (Kd.R_over' (by (with_reducible repeat (first | apply Kd.R_alloc | apply Kd.R_drewN | apply Kd.R_drew)); exact HO_9.out) (Kd.R_typed (by (with_reducible repeat (first | apply Kd.R_alloc | apply Kd.R_drewN | apply Kd.R_drew)); exact HO_10.out)) (by decide) hg); have n1_ := Aside0.mk (blk_grown (g := gb244) (o := .cells #[.int .i64 a0_0, .slice (some ad255) l0_1.length c0_1] 30 (0, 0)) (by (with_reducible repeat (first | refine blk_drewN ?_ _ | refine blk_drew ?_ | refine blk_alloc ?_ _)); exact BK244.out) hg (Kd.R_ne HO_10.out BK244.out (by decide))); have n2_ := Aside0.mk (hb); have n3_ := Aside0.mk (ho); clear HO_9; clear BK244; clear HB; clear HO_10; have HO_9 := n0_; have BK244 := n1_; have HB := n2_; have HO260 := n3_; clear n0_ n1_ n2_ n3_; clear ho hb hg hat))
          go_roundg k1
          case measure => have := HK1.out; omega
          case rel => exact ⟨(y258), (wrap64 (x11_1 + 1)), (by first | rfl | (simp; done) | (simp [*]; done)), H', ⟨by have := HK1.out; omega⟩, ⟨by (with_reducible repeat (first | apply Kd.R_alloc | apply Kd.R_drewN | apply Kd.R_drew)); exact HO_9.out⟩, ⟨by (with_reducible repeat (first | apply Kd.R_alloc | apply Kd.R_drewN | apply Kd.R_drew)); exact HO260.out⟩, ⟨by (with_reducible repeat (first | refine blk_drewN ?_ _ | refine blk_drew ?_ | refine blk_alloc ?_ _)); exact BK244.out⟩, ⟨by repeat (first | (with_reducible first | exact HB.out | apply below_alloc | apply pw_below_drewN | apply below_drew1 | refine below_set ?_ GE244.out) | exact HB.out)⟩⟩
         ·rw [if_neg c22] at H
          exact absurd H (by simp)
        ·replace c21 := Bool.eq_false_iff.mpr c21
         subst c21
         have H1 : (if (rd l0_1 x11_1) = a2 then (if x10_1.length < 17592186044416 then (spec_FacesReached.l0 k1 a2 t249 (x10_1 ++ [rd l0_1 x11_1]) (wrap64 (x11_1 + 1)) a0_0 l0_1) else (none)) else (spec_FacesReached.l0 k1 a2 t249 x10_1 (wrap64 (x11_1 + 1)) a0_0 l0_1)) = some (r1, r2) := by rw [if_neg (show ¬ (false = true) by decide)] at H; exact H
         clear H
         have H := H1
         clear H1
         by_cases c26 : (rd l0_1 x11_1) = a2
         ·rw [if_pos c26] at H
          have c26b0 : ((rd l0_1 x11_1) == a2) = true := beq_iff_eq.mpr c26
          have c26b1 : ((rd l0_1 x11_1) != a2) = false := bne_eq_false_iff_eq.mpr c26
          clear c26
          by_cases c27 : x10_1.length < 17592186044416
          ·rw [if_pos c27] at H
           have LMc27 := Aside0.mk c27
           clear c27
           obtain ⟨y263, hy263⟩ : ∃ y_ : List Int, y_ = (x10_1 ++ [rd l0_1 x11_1]) := ⟨_, rfl⟩
           replace H : (spec_FacesReached.l0 k1 a2 t249 y263 (wrap64 (x11_1 + 1)) a0_0 l0_1) = some (r1, r2) := by first | (rw [hy263]; with_reducible exact H) | (have H2_ := (Option.bind_some _ _).symm.trans H; rw [hy263]; with_reducible exact H2_) | (have H2_ := (Option.bind_some _ _).symm.trans H; with_reducible exact H2_) | with_reducible exact H | (rw [hy263]; exact H) | exact H
           have Ny263 := Aside0.mk hy263
           clear hy263
           have H' := Aside0.mk H
           clear H
           have hcz28_0 : wr.cell? ⟨gb244, 0, none⟩ = some (.int .i64 a0_0) := (blk_cell BK244.out 0).trans rfl
           have hcz28_1 : wr.cell? ⟨gb244, 1, none⟩ = some (.slice A0_1 l0_1.length c0_1) := (blk_cell BK244.out 1).trans rfl
           have hfz28_0 := blk_frozen BK244.out 0
           have hfz28_1 := blk_frozen BK244.out 1
           have p255 : 0 ≤ (x11_1 : Int) := of_decide_eq_true (by first | (with_reducible assumption) | assumption)
           have q255 : x11_1 < (l0_1.length : Int) := of_decide_eq_true (by first | (with_reducible assumption) | assumption)
           obtain ⟨ad255, e255, hx255_0⟩ := Kd.at_int HR0_1.out x11_1 p255 q255
           cases e255
           replace hx255_0 := (HB.out.cell (World.block_lt_of_cell? w _ hx255_0)).trans hx255_0
           replace p255 := eq_true p255
           replace q255 := eq_true q255
           obtain ⟨Ao29, co29, eo29⟩ := Kd.R_slice HO_9.out
           subst eo29
           have p256 : 0 ≤ ((rd l0_1 x11_1) : Int) := of_decide_eq_true (by first | (with_reducible assumption) | assumption)
           have q256 : (rd l0_1 x11_1) < (t249.length : Int) := of_decide_eq_true (by first | (with_reducible assumption) | assumption)
           obtain ⟨ad256, e256, hx256_0⟩ := Kd.at_bool (Kd.R_reads' HO_9.out).2.2 (rd l0_1 x11_1) p256 q256
           (try rw [← Nbq20.out] at hx256_0)
           cases e256
           replace p256 := eq_true p256
           replace q256 := eq_true q256
           have p261 : 0 ≤ (x11_1 : Int) := of_decide_eq_true (by first | (with_reducible assumption) | assumption)
           have q261 : x11_1 < (l0_1.length : Int) := of_decide_eq_true (by first | (with_reducible assumption) | assumption)
           obtain ⟨ad261, e261, hx261_0⟩ := Kd.at_int HR0_1.out x11_1 p261 q261
           obtain rfl : ad255 = ad261 := (by injection e261)
           replace hx261_0 := (HB.out.cell (World.block_lt_of_cell? w _ hx261_0)).trans hx261_0
           replace p261 := eq_true p261
           replace q261 := eq_true q261
           have p262 : 0 ≤ (x11_1 : Int) := of_decide_eq_true (by first | (with_reducible assumption) | assumption)
           have q262 : x11_1 < (l0_1.length : Int) := of_decide_eq_true (by first | (with_reducible assumption) | assumption)
           obtain ⟨ad262, e262, hx262_0⟩ := Kd.at_int HR0_1.out x11_1 p262 q262
           obtain rfl : ad255 = ad262 := (by injection e262)
           replace hx262_0 := (HB.out.cell (World.block_lt_of_cell? w _ hx262_0)).trans hx262_0
           replace p262 := eq_true p262
           replace q262 := eq_true q262
           go_wp2_with (first | ((with_reducible refine gate_builtin (b := .append) (xs := #[.tmp 48, .tmp 54]) rfl ?_); at_builtin; refine Kd.R_append (Kd.int .i64) (w0 := w) w.heap.size rfl (.tmp 48) (.tmp 54) 22 2 (.int .i64 0) 8 rfl Try.underlying22 info2 rfl (by decide) (by omega) u10 x10_1 (rd l0_1 x11_1) [.int .i64 (rd l0_1 x11_1)] (fun _ => True) (fun _ => False) rfl rfl ?aP (fun _ hk => hk.elim) ?aF ?aO ?aB ?aS ?aL ?_; (case aP => exact rfl); (case aB => exact (by repeat (first | (with_reducible first | exact HB.out | apply below_alloc | apply pw_below_drewN | apply below_drew1 | refine below_set ?_ GE244.out) | exact HB.out))); (case aF => exact (fun _ _ => trivial)); (case aO => exact (by (with_reducible repeat (first | apply Kd.R_alloc | apply Kd.R_drewN | apply Kd.R_drew)); exact HO_10.out)); (case aS => exact (below_size (by repeat (first | (with_reducible first | exact HB.out | apply below_alloc | apply pw_below_drewN | apply below_drew1 | refine below_set ?_ GE244.out) | exact HB.out)))); (case aL => have := LMc27.out; omega); intro v264 w30 ho hb hg hat; rw [← Ny263.out] at ho; have n0_ := Aside0.mk (Kd.R_over' (by (with_reducible repeat (first | apply Kd.R_alloc | apply Kd.R_drewN | apply Kd.R_drew)); exact HO_9.out) (Kd.R_typed (by (with_reducible repeat (first | apply Kd.R_alloc | apply Kd.R_drewN | apply Kd.R_drew)); exact HO_10.out)) (by decide) hg); have n1_ := Aside0.mk (blk_grown (g := gb244) (o := .cells #[.int .i64 a0_0, .slice (some ad255) l0_1.length c0_1] 30 (0, 0)) (by (with_reducible repeat (first | refine blk_drewN ?_ _ | refine blk_drew ?_ | refine blk_alloc ?_ _)); exact BK244.out) hg (Kd.R_ne HO_10.out BK244.out (by decide))); have n2_ := Aside0.mk (hb); have n3_ := Aside0.mk (ho); clear HO_9; clear BK244; clear HB; clear HO_10; have HO_9 := n0_; have BK244 := n1_; have HB := n2_; have HO265 := n3_; clear n0_ n1_ n2_ n3_; clear ho hb hg hat))
           go_roundg k1
           case measure => have := HK1.out; omega
           case rel => exact ⟨(y263), (wrap64 (x11_1 + 1)), (by first | rfl | (simp; done) | (simp [*]; done)), H', ⟨by have := HK1.out; omega⟩, ⟨by (with_reducible repeat (first | apply Kd.R_alloc | apply Kd.R_drewN | apply Kd.R_drew)); exact HO_9.out⟩, ⟨by (with_reducible repeat (first | apply Kd.R_alloc | apply Kd.R_drewN | apply Kd.R_drew)); exact HO265.out⟩, ⟨by (with_reducible repeat (first | refine blk_drewN ?_ _ | refine blk_drew ?_ | refine blk_alloc ?_ _)); exact BK244.out⟩, ⟨by repeat (first | (with_reducible first | exact HB.out | apply below_alloc | apply pw_below_drewN | apply below_drew1 | refine below_set ?_ GE244.out) | exact HB.out)⟩⟩
          ·rw [if_neg c27] at H
           exact absurd H (by simp)
         ·rw [if_neg c26] at H
          have c26b0 : ((rd l0_1 x11_1) == a2) = false := beq_eq_false_iff_ne.mpr c26
          have c26b1 : ((rd l0_1 x11_1) != a2) = true := bne_iff_ne.mpr c26
          have H' := Aside0.mk H
          clear H
          have hcz31_0 : wr.cell? ⟨gb244, 0, none⟩ = some (.int .i64 a0_0) := (blk_cell BK244.out 0).trans rfl
          have hcz31_1 : wr.cell? ⟨gb244, 1, none⟩ = some (.slice A0_1 l0_1.length c0_1) := (blk_cell BK244.out 1).trans rfl
          have hfz31_0 := blk_frozen BK244.out 0
          have hfz31_1 := blk_frozen BK244.out 1
          have p255 : 0 ≤ (x11_1 : Int) := of_decide_eq_true (by first | (with_reducible assumption) | assumption)
          have q255 : x11_1 < (l0_1.length : Int) := of_decide_eq_true (by first | (with_reducible assumption) | assumption)
          obtain ⟨ad255, e255, hx255_0⟩ := Kd.at_int HR0_1.out x11_1 p255 q255
          cases e255
          replace hx255_0 := (HB.out.cell (World.block_lt_of_cell? w _ hx255_0)).trans hx255_0
          replace p255 := eq_true p255
          replace q255 := eq_true q255
          obtain ⟨Ao32, co32, eo32⟩ := Kd.R_slice HO_9.out
          subst eo32
          have p256 : 0 ≤ ((rd l0_1 x11_1) : Int) := of_decide_eq_true (by first | (with_reducible assumption) | assumption)
          have q256 : (rd l0_1 x11_1) < (t249.length : Int) := of_decide_eq_true (by first | (with_reducible assumption) | assumption)
          obtain ⟨ad256, e256, hx256_0⟩ := Kd.at_bool (Kd.R_reads' HO_9.out).2.2 (rd l0_1 x11_1) p256 q256
          (try rw [← Nbq20.out] at hx256_0)
          cases e256
          replace p256 := eq_true p256
          replace q256 := eq_true q256
          have p261 : 0 ≤ (x11_1 : Int) := of_decide_eq_true (by first | (with_reducible assumption) | assumption)
          have q261 : x11_1 < (l0_1.length : Int) := of_decide_eq_true (by first | (with_reducible assumption) | assumption)
          obtain ⟨ad261, e261, hx261_0⟩ := Kd.at_int HR0_1.out x11_1 p261 q261
          obtain rfl : ad255 = ad261 := (by injection e261)
          replace hx261_0 := (HB.out.cell (World.block_lt_of_cell? w _ hx261_0)).trans hx261_0
          replace p261 := eq_true p261
          replace q261 := eq_true q261
          go_wp2
          go_roundg k1
          case measure => have := HK1.out; omega
          case rel => exact ⟨(x10_1), (wrap64 (x11_1 + 1)), (by first | rfl | (simp; done) | (simp [*]; done)), H', ⟨by have := HK1.out; omega⟩, ⟨by (with_reducible repeat (first | apply Kd.R_alloc | apply Kd.R_drewN | apply Kd.R_drew)); exact HO_9.out⟩, ⟨by (with_reducible repeat (first | apply Kd.R_alloc | apply Kd.R_drewN | apply Kd.R_drew)); exact HO_10.out⟩, ⟨by (with_reducible repeat (first | refine blk_drewN ?_ _ | refine blk_drew ?_ | refine blk_alloc ?_ _)); exact BK244.out⟩, ⟨by repeat (first | (with_reducible first | exact HB.out | apply below_alloc | apply pw_below_drewN | apply below_drew1 | refine below_set ?_ GE244.out) | exact HB.out)⟩⟩
       ·rw [if_neg c19] at H
        exact absurd H (by simp)
      ·rw [if_neg c18] at H
       exact absurd H (by simp)
     ·rw [if_neg c17] at H
      exact absurd H (by simp)
    ·rw [if_neg c16] at H
     have c16b0 : decide (x11_1 < (l0_1.length : Int)) = false := decide_eq_false c16
     clear c16
     simp only [Option.some.injEq, Prod.mk.injEq] at H
     obtain ⟨rfl, rfl⟩ := H
     have hcz33_0 : wr.cell? ⟨gb244, 0, none⟩ = some (.int .i64 a0_0) := (blk_cell BK244.out 0).trans rfl
     have hcz33_1 : wr.cell? ⟨gb244, 1, none⟩ = some (.slice A0_1 l0_1.length c0_1) := (blk_cell BK244.out 1).trans rfl
     have hfz33_0 := blk_frozen BK244.out 0
     have hfz33_1 := blk_frozen BK244.out 1
     go_wp2
     go_ret2
     exact ⟨_, by first | rfl | (simp [errW_none, errW_some] <;> rfl) | (simp [*, errW_none, errW_some] <;> rfl), by (with_reducible repeat (first | apply Kd.R_alloc | apply Kd.R_drewN | apply Kd.R_drew)); exact HO_10.out, by repeat (first | (with_reducible first | exact HB.out | apply below_alloc | apply pw_below_drewN | apply below_drew1 | refine below_set ?_ GE244.out) | exact HB.out)⟩
 ·rw [if_neg c5] at H
  have c5b0 : (t248 == 0) = false := beq_eq_false_iff_ne.mpr c5
  have c5b1 : (t248 != 0) = true := bne_iff_ne.mpr c5
  simp only [Option.some.injEq, Prod.mk.injEq] at H
  obtain ⟨rfl, rfl⟩ := H
  go_enter Try.func38, Try.ntmps38
  go_wp2_with (first | ((with_reducible refine gate_dst (N := 3) rfl ?_); refine box_event ?hg (N := 3) ?hd (cs := #[.int .i64 a0_0, .slice A0_1 l0_1.length c0_1]) (t := 30) ?hr ?_; (case hd => rfl); (case hg => rfl); (case hr => first | (go_simp; done) | (go_simp; rfl)); intro gb244 hg w34 hbox hb; have n0_ := Aside0.mk (below_step (by repeat (first | (with_reducible first | exact HB.out | apply below_alloc | apply pw_below_drewN | apply below_drew1) | exact HB.out)) hb); have n1_ := Aside0.mk (hbox); have n2_ := Aside0.mk ((by rw [hg]; exact (below_size (by repeat (first | (with_reducible first | exact HB.out | apply below_alloc | apply pw_below_drewN | apply below_drew1) | exact HB.out))) : w.heap.size ≤ gb244)); have n3_ := Aside0.mk ((by rw [hg]; exact (below_size (by repeat (first | (with_reducible first | exact HB.out | apply below_alloc | apply pw_below_drewN | apply below_drew1) | exact HB.out))) : w.heap.size ≤ gb244)); clear HB; have HB := n0_; have BK244 := n1_; have GW244 := n2_; have GE244 := n3_; clear n0_ n1_ n2_ n3_; clear hb hbox hg; have hcz35_0 : w34.cell? ⟨gb244, 0, none⟩ = some (.int .i64 a0_0) := (blk_cell BK244.out 0).trans rfl; have hcz35_1 : w34.cell? ⟨gb244, 1, none⟩ = some (.slice A0_1 l0_1.length c0_1) := (blk_cell BK244.out 1).trans rfl; have hfz35_0 := blk_frozen BK244.out 0; have hfz35_1 := blk_frozen BK244.out 1) | ((with_reducible refine gate_dst (N := 15) rfl ?_); refine Kd.R_lit (Kd.int .i64) _ 2 ?hg (N := 15) ?hd (xs := ([a2] : List Int)) (inner := [.int .i64 a2]) (ok := fun _ => True) (okp := fun _ => True) ?hr ?hp (fun _ hk => hk) trivial (Below.refl _ _) (Nat.le_refl _) (by simp) ?_; (case hd => rfl); (case hg => rfl); (case hr => first | (go_simp; done) | (go_simp; rfl)); (case hp => exact (Reps.one (show Kd.M (Kd.int .i64) _ _ _ a2 [.int .i64 a2] from rfl) (Reps.none _ _))); intro v246 w36 ho37 hb hg_ hnew_; clear hg_ hnew_; (first | rw [← Ny245.out] at ho37 | (simp only [Int.reduceToNat] at ho37; rw [← Ny245.out] at ho37)); have n0_ := Aside0.mk (Kd.R_lower ho37 (below_size (by repeat (first | (with_reducible first | exact HB.out | apply below_alloc | apply pw_below_drewN | apply below_drew1 | refine below_set ?_ GE244.out) | exact HB.out)))); have n1_ := Aside0.mk (blk_below (g := gb244) (o := .cells #[.int .i64 a0_0, .slice A0_1 l0_1.length c0_1] 30 (0, 0)) (by (with_reducible repeat (first | refine blk_drewN ?_ _ | refine blk_drew ?_ | refine blk_alloc ?_ _)); exact BK244.out) hb); have n2_ := Aside0.mk (below_step (by repeat (first | (with_reducible first | exact HB.out | apply below_alloc | apply pw_below_drewN | apply below_drew1 | refine below_set ?_ GE244.out) | exact HB.out)) hb); clear BK244; clear HB; have HO247 := n0_; have BK244 := n1_; have HB := n2_; clear n0_ n1_ n2_; clear hb ho37; obtain ⟨Ao38, co38, eo38⟩ := Kd.R_slice HO247.out; subst eo38) | ((with_reducible refine gate_callee (f := 66) rfl ?_); refine goesL_ (some 16) rfl rfl Try.func66 (by kernel_rfl) rfl #[.agg #[.int .i64 a0_0, .slice A0_1 l0_1.length c0_1], .slice A1 l1.length c1, .slice Ao38 y245.length co38] rfl (by (try simp only [List.map_toArray, List.map_cons, List.map_nil]); first | done | rfl | (simp only [List.length_drop, List.length_take]; rfl)) ?_; (with_reducible refine (spec_l02Code.calls k a0_0 _ _ l0_1 _ _ l1 _ _ y245 t248 _ ?side1 ?side2 ?side3 ?side4 ?side5 ?side6 A4.out).mono ?_); (case side1 => repeat (first | exact (Kd.C_below HR0_1.out HB.out) | (with_reducible refine Kd.C_alloc ?_ _) | (with_reducible refine Kd.C_drewN ?_ _) | (with_reducible refine Kd.C_drew ?_))); (case side2 => exact HC0_1.out); (case side3 => repeat (first | exact (Kd.C_below HR1.out HB.out) | (with_reducible refine Kd.C_alloc ?_ _) | (with_reducible refine Kd.C_drewN ?_ _) | (with_reducible refine Kd.C_drew ?_))); (case side4 => exact HC1.out); (case side5 => repeat (first | exact (Kd.R_reads' HO247.out).2.2 | (with_reducible refine Kd.C_alloc ?_ _) | (with_reducible refine Kd.C_drewN ?_ _) | (with_reducible refine Kd.C_drew ?_))); (case side6 => exact (Kd.R_reads' HO247.out).2.1); rintro e w39 ⟨rfl, hb⟩; refine ⟨_, rfl, ?_⟩; have n0_ := Aside0.mk (Kd.R_below (by (with_reducible repeat (first | apply Kd.R_alloc | apply Kd.R_drewN | apply Kd.R_drew)); exact HO247.out) hb); have n1_ := Aside0.mk (blk_below (g := gb244) (o := .cells #[.int .i64 a0_0, .slice A0_1 l0_1.length c0_1] 30 (0, 0)) (by (with_reducible repeat (first | refine blk_drewN ?_ _ | refine blk_drew ?_ | refine blk_alloc ?_ _)); exact BK244.out) hb); have n2_ := Aside0.mk (below_step (by repeat (first | (with_reducible first | exact HB.out | apply below_alloc | apply pw_below_drewN | apply below_drew1 | refine below_set ?_ GE244.out) | exact HB.out)) hb); clear HO247; clear BK244; clear HB; have HO247 := n0_; have BK244 := n1_; have HB := n2_; clear n0_ n1_ n2_; (try clear hb); (try clear hb2); (try clear hk); (try clear hi)))
  go_ret2
  exact ⟨_, by first | rfl | (simp [errW_none, errW_some] <;> rfl) | (simp [*, errW_none, errW_some] <;> rfl), by first | exact Kd.R_nil _ _ _ _ _ | exact Kd.N_nil _ _ _ _ _ | exact Kd.V_nil _ _ _ _ _ | exact Kd.Q_nil _ _ _ _ _ | exact Kd.S_nil _ _ _ _ _, by repeat (first | (with_reducible first | exact HB.out | apply below_alloc | apply pw_below_drewN | apply below_drew1 | refine below_set ?_ GE244.out) | exact HB.out)⟩

end Go.Proofs.Ytniikppojffiaaa.Q
end

section
/- FacesReached. -/
namespace Go.Proofs.Ytniikppojffiaaa.K
open Go.RowKit Go.Shelf Go.Proofs.Ytniikppojffiaaa.Q Go.Proofs.YtniikppojffiaaaW.PrintWords Go.Proofs.YtniikppojffiaaaW.PrintLast Go.Proofs.YtniikppojffiaaaW.PrintMore
set_option linter.unusedVariables false
set_option linter.unusedSimpArgs false

/-- The faces reached from a face. -/
noncomputable def reachL (l : List Int) (q : List PairT) (a : Int) : List Int := l.filter fun f => reachB (stepsL q) a f || f == a
theorem high_mem {q : List PairT} {a : Int} (h : highL q a ≠ 0) : ∃ p ∈ q, p.f1 = highL q a := by
 rcases high_cases q a with ⟨h1, _⟩ | ⟨p, hp, _, h2⟩
 ·exact absurd h1 h
 ·exact ⟨p, hp, h2⟩
theorem step_in {n : Int} {l : List Int} (hi : isC n l = true) {q : List PairT} (h : pingB l q = true) {a x : Int} (hx : x ∈ stepsL q a) : x ∈ l := by
 unfold stepsL at hx
 split at hx
 ·cases hx
 ·rename_i hz
  obtain ⟨p, hp, h2⟩ := high_mem hz
  obtain ⟨i, hl, rfl⟩ := List.mem_iff_getElem.1 hp
  have hm := (ping_asc hi h i hl).2.2.1
  rw [h2] at hm
  exact closed_mem hi _ hm x (List.mem_filter.1 hx).1
theorem reach_in {n : Int} {l : List Int} (hi : isC n l = true) {q : List PairT} (h : pingB l q = true) {a x : Int} (hx : Reach (stepsL q) a x) : x ∈ l := by
 obtain ⟨y, hy⟩ := hx.in_
 exact step_in hi h hy
theorem reachL_mem {n : Int} {l : List Int} (hi : isC n l = true) {q : List PairT} (h : pingB l q = true) {a : Int} (ha : a ∈ l) (x : Int) : x ∈ reachL l q a ↔ upd (reachB (stepsL q) a) a true x = true := by
 unfold reachL upd
 rw [List.mem_filter]
 by_cases e : x = a
 ·subst e
  simp [ha]
 ·rw [if_neg e]
  simp only [Bool.or_eq_true, beq_iff_eq, e, or_false]
  exact ⟨fun h => h.2, fun hr => ⟨reach_in hi h (reachB_true.1 hr), hr⟩⟩
set_option maxRecDepth 100000 in
set_option maxHeartbeats 8000000 in
theorem FacesReached_calls (n : Int) (A : Option Addr) (c : Nat) (l : List Int) (A2 : Option Addr) (c2 : Nat) (q : List PairT) (a : Int) (w : World) (hk : Kx w A c l) (hl2 : l.length ≤ 2097152) (hq : Kq.C w A2 q.length q) (hc2 : q.length ≤ c2) (hq2 : q.length ≤ 2097152) :
  Calls Try.prog 39 #[.agg #[I n, .slice A l.length c], .slice A2 q.length c2, I a] w fun e w' => ∃ v, e = .returned (.tuple #[v, I (codeOf n l (hasB l a && pingB l q))]) ∧ Ki.R 2 w' w.heap.size (fun _ => True) v (if codeOf n l (hasB l a && pingB l q) = 0 then reachL l q a else []) ∧ Grew w w' := by
 obtain ⟨W1, hW1⟩ : ∃ W1, W1 = w.alloc (.cells #[I n, .slice A l.length c] 30) := ⟨_, rfl⟩
 have hB : CB W1 w.heap.size n (.slice A l.length c) := by rw [hW1]; exact blk_new w _
 have hG1 : Grew w W1 := by rw [hW1]; exact below_alloc (Grew.refl w) _
 have HH := Aside0.mk (fun (W : World) (h : Grew W1 W) => (hk.later (Grew.trans hG1 h)).has n a)
 have HP := Aside0.mk (fun (W : World) (h : Grew W1 W) => pairingCode_calls (hasB l a) n A c l A2 c2 q W (hk.later (Grew.trans hG1 h)) (Kd.C_below hq (Grew.trans hG1 h)) hc2 hq2)
 have HQ := Aside0.mk hq
 have HC2 := Aside0.mk hc2
 have HB := Aside0.mk hB
 have HG1 := Aside0.mk hG1
 have HE1 := Aside0.mk hW1
 have k0 := hB.c0
 have k1 := hB.c1
 have hl0 := World.block_lt_of_cell? W1 _ k0
 obtain ⟨cc, hcc⟩ : ∃ cc, cc = codeOf n l (hasB l a && pingB l q) := ⟨_, rfl⟩
 rw [← hcc] at HP ⊢
 have HCC := Aside0.mk hcc
 clear hq hk hB hG1 hW1 hcc
 have HHB : Aside0 (hasB l a = true → isC n l = true → a ∈ l) := ⟨fun h h2 => by rw [hasD h2 a] at h; simpa using h⟩
 generalize hasB l a = ba at HH HP HCC HHB
 by_cases hz : cc = 0
 ·subst hz
  obtain ⟨hi, hbp⟩ := codeOf_zero HCC.out.symm
  simp only [Bool.and_eq_true] at hbp
  obtain ⟨hba, hping⟩ := hbp
  rw [if_pos rfl]
  have HI := Aside0.mk hi
  have HPI := Aside0.mk hping
  have hgq := ping_good hi hping
  have HBA := Aside0.mk hba
  have HBE := Aside0.mk (fun (W : World) (h : Grew w W) => behind_calls A2 c2 a W (Kd.C_below HQ.out h) hc2 hgq)
  have hal := HHB.out hba hi
  have hr := (isC_faces hi).2.2.1 a hal
  have h63 := isC_faces hi
  have HWA := Aside0.mk (wf_face (x := a) (by omega) (by omega))
  have HASC : Aside0 ((reachL l q a).Pairwise (· < ·)) := ⟨List.Pairwise.filter _ ((isC_faces hi).2.1)⟩
  have HMEM := Aside0.mk (fun x => reachL_mem hi hping hal x)
  clear hi hping hgq hba HCC hal hr h63
  go_enter Try.func39, Try.ntmps39
  go_wp2_with fail
  rw [← HE1.out]
  refine start_ (n := 7) (S := fun w' => w'.cell? ⟨w.heap.size, 0, none⟩ = some (I n) ∧ w'.cell? ⟨w.heap.size, 1, none⟩ = some (.slice A l.length c)) (ds := []) (ar 0 7) (by kernel_rfl) rfl rfl ⟨(Below.cell (w := W1) (below_drew (Grew.refl W1)) (p := ⟨w.heap.size, 0, none⟩) hl0).trans k0, (Below.cell (w := W1) (below_drew (Grew.refl W1)) (p := ⟨w.heap.size, 1, none⟩) hl0).trans k1⟩ (fun hHeld => ?_)
  refine pure_ (i := 1) (N := some 11) (v := ?_) (a' := ?_) #[O,U,O,O,O,O,O] rfl rfl (by kernel_rfl) (fun _ _ _ h => h) (Or.inl ⟨by rfl, ?_⟩) ?_ ?_; rotate_left; (intro w'; go_simp; with_reducible rfl); rotate_left; · simp only [nm_]; rfl
  refine pure_ (i := 3) (N := some 13) (v := ?_) (a' := ?_) #[O,U,O,U,O,O,O] rfl rfl (by kernel_rfl) (fun _ _ _ h => h) (Or.inl ⟨by rfl, ?_⟩) ?_ ?_; rotate_left; (intro w'; go_simp; with_reducible rfl); rotate_left; · simp only [nm_]; rfl
  refine take_ (i := 0) (N := some 10) (v := ?_) (a' := ?_) #[U,U,O,U,O,O,O] rfl rfl (by kernel_rfl) (fun _ _ _ h => h) (Or.inl ⟨by rfl, ?_⟩) hHeld ?_ ?_
  rotate_left; · rintro w' ⟨s0, s1⟩; go_simp; with_reducible rfl
  rotate_left; · simp only [nm_]; rfl
  refine take_ (i := 2) (N := some 12) (v := ?_) (a' := ?_) (ar 4 3) rfl rfl (by kernel_rfl) (fun _ _ _ h => h) (Or.inl ⟨by rfl, ?_⟩) hHeld ?_ ?_
  rotate_left; · rintro w' ⟨s0, s1⟩; go_simp; with_reducible rfl
  rotate_left; · simp only [nm_]; rfl
  refine one_ (i := 4) (N := some 14) (ar 5 2) rfl rfl (by kernel_rfl) (by decide) (fun K hK => ?_)
  refine goes_ Try.func76 (by kernel_rfl) rfl #[.agg #[I n, .slice A l.length c], I a] (by rfl) rfl rfl (by simp only [List.map_toArray, List.map_cons, List.map_nil]; rfl) ?_
  with_reducible refine (HH.out _ (below_drew (Grew.refl W1))).mono ?_
  rintro e w4 ⟨rfl, hGa⟩
  refine ⟨_, rfl, ?_⟩
  have HL := Aside0.mk (Grew.trans (below_drew (Grew.refl W1)) hGa)
  clear hGa
  refine hK.out _ _ ⟨(Below.cell (w := W1) HL.out (p := ⟨w.heap.size, 0, none⟩) hl0).trans k0, (Below.cell (w := W1) HL.out (p := ⟨w.heap.size, 1, none⟩) hl0).trans k1⟩ (fun hHeld => ?_)
  clear hK K
  refine norm_ (a' := ?_) ?_ ?_
  rotate_left
  ·show Act.put _ (some 14) _ = _
   simp only [nm_]
   rfl
  refine one_ (i := 5) (N := some 15) (ar 6 1) rfl rfl (by kernel_rfl) (by decide) (fun K hK => ?_)
  refine goes_ Try.func68 (by kernel_rfl) rfl #[.agg #[I n, .slice A l.length c], .slice A2 q.length c2, .bool ba] (by rfl) rfl rfl (by simp only [List.map_toArray, List.map_cons, List.map_nil]; rfl) ?_
  with_reducible refine (HP.out _ HL.out).mono ?_
  rintro e w5 ⟨rfl, hGb⟩
  refine ⟨_, rfl, ?_⟩
  replace HL := Aside0.mk (Grew.trans HL.out hGb)
  clear hGb
  refine hK.out _ _ ⟨(Below.cell (w := W1) HL.out (p := ⟨w.heap.size, 0, none⟩) hl0).trans k0, (Below.cell (w := W1) HL.out (p := ⟨w.heap.size, 1, none⟩) hl0).trans k1⟩ (fun hHeld => ?_)
  clear hK K
  refine norm_ (a' := ?_) ?_ ?_
  rotate_left
  ·show Act.put _ (some 15) _ = _
   simp only [nm_]
   rfl
  refine pure_ (i := 6) (N := some 8) (v := ?_) (a' := ?_) (ar 7 0) rfl rfl (by kernel_rfl) (fun _ _ _ h => h) (Or.inl ⟨by rfl, ?_⟩) ?_ ?_; rotate_left; (intro w'; go_simp; with_reducible rfl); rotate_left; · simp only [nm_]; rfl
  refine done_ (by kernel_rfl) ?_
  have HG5 := Aside0.mk (Grew.trans HG1.out HL.out)
  go_wp2_with fail
  refine (HBE.out _ HG5.out).mono ?_
  rintro e w6 ⟨b, rfl, hbb, ⟨m, hm, hS⟩, hG6⟩
  have HG6 := Aside0.mk (Grew.trans HG5.out hG6)
  obtain ⟨w7, hr7, hS7, hg7⟩ := hS.store (by omega) a HWA.out
  have hbl := HG5.out.size
  have HG7 := Aside0.mk (pw_below_grown HG6.out _ HG6.out.size hg7 (fun k hk => by cases hk; omega))
  have HKS := Aside0.mk (sortedKeys_calls w7 hS7 (by omega) (reachL l q a) HASC.out HMEM.out)
  have HKY := Aside0.mk (keys_calls (some b) w7)
  clear hG6 hS hg7 hS7 hm hbl hbb
  go_wp2_with fail
  refine HKY.out.mono ?_
  rintro e w8 ⟨rfl, rfl⟩
  go_wp2_with fail
  refine HKS.out.mono ?_
  rintro e w9 ⟨v9, rfl, hR9, hG9⟩
  go_wp2_with fail
  go_ret2
  exact ⟨_, rfl, Kd.R_lower hR9 HG7.out.size, Grew.trans HG7.out hG9⟩
 ·rw [if_neg hz]
  clear HCC
  go_enter Try.func39, Try.ntmps39
  go_wp2_with fail
  rw [← HE1.out]
  refine start_ (n := 7) (S := fun w' => w'.cell? ⟨w.heap.size, 0, none⟩ = some (I n) ∧ w'.cell? ⟨w.heap.size, 1, none⟩ = some (.slice A l.length c)) (ds := []) (ar 0 7) (by kernel_rfl) rfl rfl ⟨(Below.cell (w := W1) (below_drew (Grew.refl W1)) (p := ⟨w.heap.size, 0, none⟩) hl0).trans k0, (Below.cell (w := W1) (below_drew (Grew.refl W1)) (p := ⟨w.heap.size, 1, none⟩) hl0).trans k1⟩ (fun hHeld => ?_)
  refine pure_ (i := 1) (N := some 11) (v := ?_) (a' := ?_) #[O,U,O,O,O,O,O] rfl rfl (by kernel_rfl) (fun _ _ _ h => h) (Or.inl ⟨by rfl, ?_⟩) ?_ ?_; rotate_left; (intro w'; go_simp; with_reducible rfl); rotate_left; · simp only [nm_]; rfl
  refine pure_ (i := 3) (N := some 13) (v := ?_) (a' := ?_) #[O,U,O,U,O,O,O] rfl rfl (by kernel_rfl) (fun _ _ _ h => h) (Or.inl ⟨by rfl, ?_⟩) ?_ ?_; rotate_left; (intro w'; go_simp; with_reducible rfl); rotate_left; · simp only [nm_]; rfl
  refine take_ (i := 0) (N := some 10) (v := ?_) (a' := ?_) #[U,U,O,U,O,O,O] rfl rfl (by kernel_rfl) (fun _ _ _ h => h) (Or.inl ⟨by rfl, ?_⟩) hHeld ?_ ?_
  rotate_left; · rintro w' ⟨s0, s1⟩; go_simp; with_reducible rfl
  rotate_left; · simp only [nm_]; rfl
  refine take_ (i := 2) (N := some 12) (v := ?_) (a' := ?_) (ar 4 3) rfl rfl (by kernel_rfl) (fun _ _ _ h => h) (Or.inl ⟨by rfl, ?_⟩) hHeld ?_ ?_
  rotate_left; · rintro w' ⟨s0, s1⟩; go_simp; with_reducible rfl
  rotate_left; · simp only [nm_]; rfl
  refine one_ (i := 4) (N := some 14) (ar 5 2) rfl rfl (by kernel_rfl) (by decide) (fun K hK => ?_)
  refine goes_ Try.func76 (by kernel_rfl) rfl #[.agg #[I n, .slice A l.length c], I a] (by rfl) rfl rfl (by simp only [List.map_toArray, List.map_cons, List.map_nil]; rfl) ?_
  with_reducible refine (HH.out _ (below_drew (Grew.refl W1))).mono ?_
  rintro e w4 ⟨rfl, hGa⟩
  refine ⟨_, rfl, ?_⟩
  have HL := Aside0.mk (Grew.trans (below_drew (Grew.refl W1)) hGa)
  clear hGa
  refine hK.out _ _ ⟨(Below.cell (w := W1) HL.out (p := ⟨w.heap.size, 0, none⟩) hl0).trans k0, (Below.cell (w := W1) HL.out (p := ⟨w.heap.size, 1, none⟩) hl0).trans k1⟩ (fun hHeld => ?_)
  clear hK K
  refine norm_ (a' := ?_) ?_ ?_
  rotate_left
  ·show Act.put _ (some 14) _ = _
   simp only [nm_]
   rfl
  refine one_ (i := 5) (N := some 15) (ar 6 1) rfl rfl (by kernel_rfl) (by decide) (fun K hK => ?_)
  refine goes_ Try.func68 (by kernel_rfl) rfl #[.agg #[I n, .slice A l.length c], .slice A2 q.length c2, .bool ba] (by rfl) rfl rfl (by simp only [List.map_toArray, List.map_cons, List.map_nil]; rfl) ?_
  with_reducible refine (HP.out _ HL.out).mono ?_
  rintro e w5 ⟨rfl, hGb⟩
  refine ⟨_, rfl, ?_⟩
  replace HL := Aside0.mk (Grew.trans HL.out hGb)
  clear hGb
  refine hK.out _ _ ⟨(Below.cell (w := W1) HL.out (p := ⟨w.heap.size, 0, none⟩) hl0).trans k0, (Below.cell (w := W1) HL.out (p := ⟨w.heap.size, 1, none⟩) hl0).trans k1⟩ (fun hHeld => ?_)
  clear hK K
  refine norm_ (a' := ?_) ?_ ?_
  rotate_left
  ·show Act.put _ (some 15) _ = _
   simp only [nm_]
   rfl
  refine pure_ (i := 6) (N := some 8) (v := ?_) (a' := ?_) (ar 7 0) rfl rfl (by kernel_rfl) (fun _ _ _ h => h) (Or.inl ⟨by rfl, ?_⟩) ?_ ?_; rotate_left; (intro w'; go_simp; with_reducible rfl); rotate_left; · simp only [nm_]; rfl
  refine done_ (by kernel_rfl) ?_
  have HG5 := Aside0.mk (Grew.trans HG1.out HL.out)
  go_wp2_with fail
  go_ret2
  exact ⟨_, rfl, Kd.R_nil _ _ _ _ _, HG5.out⟩
theorem reachL_cons (x : Int) (l : List Int) (q : List PairT) (a : Int) : reachL (x :: l) q a = if (reachB (stepsL q) a x || x == a) = true then x :: reachL l q a else reachL l q a := by
 unfold reachL
 rw [List.filter_cons]
theorem specFR_loop (n : Int) (l : List Int) (hl : l.length ≤ 63) (hr : ∀ x ∈ l, 1 ≤ x ∧ x ≤ 63) (q : List PairT) (a : Int) (met : List Bool) (hm : MetL met (reachB (stepsL q) a)) : ∀ (e i k : Nat) (acc : List Int), l.length - i = e → i ≤ l.length → e < k → acc.length + e ≤ 1000 →
  spec_FacesReached.l0 k a met acc (i : Int) n l = some (acc ++ reachL (l.drop i) q a, 0) := by
 intro e
 induction e with
 | zero =>
  intro i k acc he hi hk ha
  obtain ⟨k, rfl⟩ : ∃ m, k = m + 1 := ⟨k - 1, by omega⟩
  obtain rfl : i = l.length := by omega
  simp only [spec_FacesReached.l0]
  rw [if_neg (by omega), List.drop_eq_nil_of_le (by omega)]
  simp [reachL]
 | succ e ih =>
  intro i k acc he hi hk ha
  obtain ⟨k, rfl⟩ : ∃ m, k = m + 1 := ⟨k - 1, by omega⟩
  have hil : i < l.length := by omega
  have hx := hr _ (List.getElem_mem hil)
  have h64 := hm.len
  have HW : Aside0 (wrap64 ((i : Int) + 1) = ((i + 1 : Nat) : Int)) := ⟨by rw [w64 _ (by omega) (by omega)]; omega⟩
  simp only [spec_FacesReached.l0]
  rw [if_pos (by omega), if_pos (by omega), rd_nat l i hil, if_pos (by omega), if_pos (by omega), hm.at_ _ (by omega) (by omega), HW.out, List.drop_eq_getElem_cons hil, reachL_cons]
  cases hb : reachB (stepsL q) a l[i] with
  | true =>
   rw [if_pos rfl, if_pos (by omega), ih (i + 1) k _ (by omega) (by omega) (by omega) (by simp; omega), Bool.true_or, if_pos rfl, List.append_assoc]
   rfl
  | false =>
   rw [if_neg (by simp), Bool.false_or]
   by_cases h : l[i] = a
   ·rw [if_pos h, if_pos (by omega), ih (i + 1) k _ (by omega) (by omega) (by omega) (by simp; omega), if_pos (by simp [h]), List.append_assoc]
    rfl
   ·rw [if_neg h, ih (i + 1) k _ (by omega) (by omega) (by omega) (by omega), if_neg (by simp [h])]
theorem specFR_is (n : Int) (l : List Int) (q : List PairT) (a : Int) (hl : l.length ≤ 2097152) (hq : q.length ≤ 2097152) (k : Nat) (hk : isK l + pgK l q + 7000 ≤ k) :
  spec_FacesReached.f k n l q a = some ((if codeOf n l (hasB l a && pingB l q) = 0 then reachL l q a else []), codeOf n l (hasB l a && pingB l q)) := by
 unfold spec_FacesReached.f
 have hb : (pingB l q && [a].all (hasB l)) = (hasB l a && pingB l q) := by
  simp only [List.all_cons, List.all_nil, Bool.and_true]
  rw [Bool.and_comm]
 rw [specCode02_is n l q [a] (by simp) hl hq k (by omega), hb]
 simp only [Option.bind_some]
 by_cases hz : codeOf n l (hasB l a && pingB l q) = 0
 ·obtain ⟨h1, h2⟩ := codeOf_zero hz
  simp only [Bool.and_eq_true] at h2
  have hf := isC_faces h1
  obtain ⟨met, hm1, hm2⟩ := specReached_is (ping_good h1 h2.2) a k (by omega)
  rw [if_pos hz, if_pos hz, hm1, hz]
  simp only [Option.bind_some]
  have := specFR_loop n l hf.2.2.2 (fun x hx => by have := hf.2.2.1 x hx; omega) q a met hm2 l.length 0 k [] (by omega) (by omega) (by omega) (by simp; omega)
  rw [show ((0 : Nat) : Int) = 0 from rfl, List.drop_zero, List.nil_append] at this
  exact this
 ·rw [if_neg hz, if_neg hz]
theorem reachA_len {n : Int} {l : List Int} {q : List PairT} {a : Int} {b : Bool} : (if codeOf n l b = 0 then reachL l q a else []).length ≤ 63 := by
 split
 ·rename_i hz
  have h63 := (isC_faces (codeOf_zero hz).1).2.2.2
  exact Nat.le_trans (List.length_filter_le _ _) h63
 ·simp

end Go.Proofs.Ytniikppojffiaaa.K
end
