/- Texts of this work, put together by its pack.py. No conditions. -/
import Derived.Test.YtaeabbackmnioaaDoorJPar1
import Derived.Below
import Derived.Deep.Draws
import Derived.Deep.AppendLies
import Derived.Maps.AppendAt
import Derived.OwnWalk
import Derived.Laws.BytesArg
import Derived.Laws.MakeOwn
import Derived.Laws.OwnMore
import Derived.Deep.OwnRows
import Derived.Tactics
import Derived.Lib.ConvBytes
import Derived.Laws.Slices
import Derived.WalkKit
import Derived.KernelRfl
import Derived.RowKit3
import Derived.Deep.LoopGhost
import Derived.Deep.QuietTactic
import Derived.BigQuiet
import Derived.WideLaws
import Derived.Deep.DeepCutAuto
import Derived.Deep.CutBlock
import Derived.Deep.RegionHeld3
import Derived.Laws.Rows
import Derived.Lib.AppendStr
import Derived.ArgAppend
import Derived.Laws.IdiomCopy
import Derived.RowKit
import Derived.OrdersHeld
import Derived.Laws.BitsLemmas
import Derived.Laws.StructEq
import Derived.Test.YtaeabbackmnioaaDoorProg
import Derived.Shelf.Abstract
import Derived.RangeFuncBox
import Derived.RangeFuncLeaves
import Derived.OwnWalkIn
import Derived.TacticsInMore
import Derived.LoopNIn
import Derived.LoopIn
import Derived.Lib.SliceRun
import Derived.Test.YtaeabbackmnioaaDoorChecked
import Derived.Shelf.Strings.OnBuilder
import Derived.Shelf.Strconv.Itoa4
import Derived.Shelf.Strings.SplitShaped
import Derived.Lib.SmallJoins
section
/- Written by a program of this session (myprint.py over the kit's print). -/
namespace Go.Proofs.YtaeabbackmnioaaDoor.Q
open Go.RowKit Go.Proofs.YtaeabbackmnioaaDoorW.PrintWords Go.Proofs.YtaeabbackmnioaaDoorW.PrintLast Go.Proofs.YtaeabbackmnioaaDoorW.PrintMore
attribute [local go_sem] max2_int min2_int max_two min_two max_three min_three max_four min_four   -- for this text's walks alone
set_option linter.unusedVariables false
set_option linter.unusedSimpArgs false

/-! ### spec_l01Facets: function 61 -/
def spec_l01Facets.l0 : Nat → List Int → Int → Int → List Int → Option (List Int)
 | 0, _, _, _, _ => none
 | k + 1, x3, x4, x202000, x202001 => if x4 < (x202001.length : Int) then (if 0 ≤ x4 then ((spec_l01Above.f k x202000 x202001 (rd x202001 x4)).bind fun t206 => (if (t206.length : Int) = 0 then (if x3.length < 17592186044416 then (spec_l01Facets.l0 k (x3 ++ [rd x202001 x4]) (wrap64 (x4 + 1)) x202000 x202001) else (none)) else (spec_l01Facets.l0 k x3 (wrap64 (x4 + 1)) x202000 x202001))) else (none)) else (some x3)
def spec_l01Facets.f (k : Nat) (a0_0 : Int) (l0_1 : List Int) : Option (List Int) := spec_l01Facets.l0 k (([] : List Int)) 0 a0_0 l0_1
theorem spec_l01Facets.mono_l : ∀ k, (∀ y0 y1 y2 y3, LeO (spec_l01Facets.l0 k y0 y1 y2 y3) (spec_l01Facets.l0 (k + 1) y0 y1 y2 y3))
 | 0 => fun _ _ _ _ r h => by simp [spec_l01Facets.l0] at h
 | k + 1 => by
  have ih0 := spec_l01Facets.mono_l k
  ·intro y0 y1 y2 y3
   unfold spec_l01Facets.l0
   repeat' first
   | (with_reducible exact ih0 _ _ _ _)
   | (with_reducible exact spec_l01Above.mono _ _ _ _)
   | (with_reducible exact LeO.refl _)
   | (with_reducible exact LeO.none _)
   | (with_reducible refine LeO.ite ?_ ?_)
   | (with_reducible refine LeO.bind ?_ (fun _ => ?_))
   | exact ih0 _ _ _ _
   | exact spec_l01Above.mono _ _ _ _
   | exact LeO.none _
   | refine LeO.ite ?_ ?_
   | refine LeO.bind ?_ (fun _ => ?_)
theorem spec_l01Facets.mono : ∀ a0 a1 k, LeO (spec_l01Facets.f k a0 a1) (spec_l01Facets.f (k + 1) a0 a1) := by
 intro a0 a1 k
 have ih0 := spec_l01Facets.mono_l k
 unfold spec_l01Facets.f
 repeat' first
   | (with_reducible exact ih0 _ _ _ _)
   | (with_reducible exact spec_l01Above.mono _ _ _ _)
   | (with_reducible exact LeO.refl _)
   | (with_reducible exact LeO.none _)
   | (with_reducible refine LeO.ite ?_ ?_)
   | (with_reducible refine LeO.bind ?_ (fun _ => ?_))
   | exact ih0 _ _ _ _
   | exact spec_l01Above.mono _ _ _ _
   | exact LeO.none _
   | refine LeO.ite ?_ ?_
   | refine LeO.bind ?_ (fun _ => ?_)
def spec_l01Facets.T5 : Bool × List (List Nat × List Nat) := (true, [([], []), ([], []), ([1], [1]), ([], []), ([2, 3], [2, 3]), ([4], [4]), ([0, 5], [0, 5]), ([6], [6]), ([7], [7])])
def spec_l01Facets.B5 : List Nat := [0, 0, 2, 0, 14, 30, 63, 127, 255]
theorem spec_l01Facets.tab5 : rtab .any (opsOf Tryd.f61 5) = spec_l01Facets.T5 := by kernel_rfl
theorem spec_l01Facets.bits5 : waitsOk spec_l01Facets.T5.2 spec_l01Facets.B5 = true := by kernel_rfl
set_option maxHeartbeats 8000000 in
set_option maxRecDepth 100000 in
theorem spec_l01Facets.calls (k : Nat) (a0_0 : Int) (A0_1 : Option Addr) (c0_1 : Nat) (l0_1 : List Int) (r : List Int) (w : World) (hr0_1 : Kd.C (Kd.int .i64) w A0_1 l0_1.length l0_1) (hc0_1 : l0_1.length ≤ c0_1) (h : spec_l01Facets.f k a0_0 l0_1 = some r) :
  Calls Tryd.prog 61 #[.agg #[.int .i64 a0_0, .slice A0_1 l0_1.length c0_1]] w fun e w' => ∃ v0_ : Value, e = .returned (v0_) ∧ Kd.R (Kd.int .i64) 2 w' w.heap.size (fun _ => True) v0_ r ∧ Below w.heap.size w w' := by
 have hu24 := Tryd.underlying24
 have HR0_1 := Aside0.mk hr0_1
 have HC0_1 := Aside0.mk hc0_1
 clear hr0_1 hc0_1
 have HB := Aside0.mk (Below.refl w.heap.size w)
 have H : (spec_l01Facets.l0 k (([] : List Int)) 0 a0_0 l0_1) = some r := h
 clear h
 obtain ⟨y202, hy202⟩ : ∃ y_ : List Int, y_ = (([] : List Int)) := ⟨_, rfl⟩
 replace H : (spec_l01Facets.l0 k y202 0 a0_0 l0_1) = some r := by first | (rw [hy202]; with_reducible exact H) | (have H2_ := (Option.bind_some _ _).symm.trans H; rw [hy202]; with_reducible exact H2_) | (have H2_ := (Option.bind_some _ _).symm.trans H; with_reducible exact H2_) | with_reducible exact H | (rw [hy202]; exact H) | exact H
 have Ny202 := Aside0.mk hy202
 clear hy202
 have H' := Aside0.mk H
 clear H
 go_enter Tryd.func61, Tryd.ntmps61
 go_wp2_with (first | ((with_reducible refine gate_dst (N := 1) rfl ?_); refine box_event ?hg (N := 1) ?hd (cs := #[.int .i64 a0_0, .slice A0_1 l0_1.length c0_1]) (t := 24) ?hr ?_; (case hd => rfl); (case hg => rfl); (case hr => first | (go_simp; done) | (go_simp; rfl)); intro gb201 hg w2 hbox hb; have n0_ := Aside0.mk (below_step (by repeat (first | (with_reducible first | exact HB.out | apply below_alloc | apply pw_below_drewN | apply below_drew1) | exact HB.out)) hb); have n1_ := Aside0.mk (hbox); have n2_ := Aside0.mk ((by rw [hg]; exact (below_size (by repeat (first | (with_reducible first | exact HB.out | apply below_alloc | apply pw_below_drewN | apply below_drew1) | exact HB.out))) : w.heap.size ≤ gb201)); have n3_ := Aside0.mk ((by rw [hg]; exact (below_size (by repeat (first | (with_reducible first | exact HB.out | apply below_alloc | apply pw_below_drewN | apply below_drew1) | exact HB.out))) : w.heap.size ≤ gb201)); clear HB; have HB := n0_; have BK201 := n1_; have GW201 := n2_; have GE201 := n3_; clear n0_ n1_ n2_ n3_; clear hb hbox hg) | ((with_reducible refine gate_dst (N := 5) rfl ?_); refine Kd.R_lit (Kd.int .i64) _ 2 ?hg (N := 5) ?hd (xs := ([] : List Int)) (inner := []) (ok := fun _ => True) (okp := fun _ => True) ?hr ?hp (fun _ hk => hk) trivial (Below.refl _ _) (Nat.le_refl _) (by simp) ?_; (case hd => rfl); (case hg => rfl); (case hr => first | (go_simp; done) | (go_simp; rfl)); (case hp => exact (Reps.none _ _)); intro v203 w3 ho4 hb hg_ hnew_; clear hg_ hnew_; (first | rw [← Ny202.out] at ho4 | (simp only [Int.reduceToNat] at ho4; rw [← Ny202.out] at ho4)); have n0_ := Aside0.mk (Kd.R_lower ho4 (below_size (by repeat (first | (with_reducible first | exact HB.out | apply below_alloc | apply pw_below_drewN | apply below_drew1 | refine below_set ?_ GE201.out) | exact HB.out)))); have n1_ := Aside0.mk (blk_below (g := gb201) (o := .cells #[.int .i64 a0_0, .slice A0_1 l0_1.length c0_1] 24 (0, 0)) (by (with_reducible repeat (first | refine blk_drewN ?_ _ | refine blk_drew ?_ | refine blk_alloc ?_ _)); exact BK201.out) hb); have n2_ := Aside0.mk (below_step (by repeat (first | (with_reducible first | exact HB.out | apply below_alloc | apply pw_below_drewN | apply below_drew1 | refine below_set ?_ GE201.out) | exact HB.out)) hb); clear BK201; clear HB; have HO204 := n0_; have BK201 := n1_; have HB := n2_; clear n0_ n1_ n2_; clear hb ho4))
 go_loopg [3, 4] k (fun kq v3 v4 w' => ∃ (x3_1 : List Int) (x4_1 : Int), v4 = .int .i64 x4_1 ∧ Aside0 (spec_l01Facets.l0 kq x3_1 x4_1 a0_0 l0_1 = some r) ∧ Aside0 (kq ≤ k) ∧ Aside0 (Kd.R (Kd.int .i64) 2 w' w.heap.size (fun _ => True) v3 x3_1) ∧ Aside0 (w'.heap[gb201]? = some (.cells #[.int .i64 a0_0, (.slice A0_1 l0_1.length c0_1)] 24 (0, 0))) ∧ Aside0 (Below w.heap.size w w'))
 case atStart => exact ⟨(y202), (0), (by first | rfl | (simp; done) | (simp [*]; done)), H', ⟨Nat.le_refl _⟩, ⟨by (with_reducible repeat (first | apply Kd.R_alloc | apply Kd.R_drewN | apply Kd.R_drew)); exact HO204.out⟩, ⟨by (with_reducible repeat (first | refine blk_drewN ?_ _ | refine blk_drew ?_ | refine blk_alloc ?_ _)); exact BK201.out⟩, ⟨by repeat (first | (with_reducible first | exact HB.out | apply below_alloc | apply pw_below_drewN | apply below_drew1 | refine below_set ?_ GE201.out) | exact HB.out)⟩⟩
 case round =>
  clear H'
  try clear p2
  obtain ⟨x3_1, x4_1, rfl, HA, HK1, HO_3, BK201, HB⟩ := hrel
  cases gk with
  | zero => exact absurd HA.out (by simp [spec_l01Facets.l0])
  | succ k1 =>
   have H := HA.out
   clear HA
   simp only [spec_l01Facets.l0] at H
   by_cases c5 : x4_1 < (l0_1.length : Int)
   ·rw [if_pos c5] at H
    have c5b0 : decide (x4_1 < (l0_1.length : Int)) = true := decide_eq_true c5
    clear c5
    by_cases c6 : 0 ≤ x4_1
    ·rw [if_pos c6] at H
     have c6b0 : decide (0 ≤ x4_1) = true := decide_eq_true c6
     clear c6
     replace H := Option.bind_eq_some_iff.mp H
     obtain ⟨t206, A70, H⟩ := H
     replace H : (if (t206.length : Int) = 0 then (if x3_1.length < 17592186044416 then (spec_l01Facets.l0 k1 (x3_1 ++ [rd l0_1 x4_1]) (wrap64 (x4_1 + 1)) a0_0 l0_1) else (none)) else (spec_l01Facets.l0 k1 x3_1 (wrap64 (x4_1 + 1)) a0_0 l0_1)) = some r := H
     have A7 := Aside0.mk A70
     clear A70
     by_cases c8 : (t206.length : Int) = 0
     ·rw [if_pos c8] at H
      have c8b0 : ((t206.length : Int) == 0) = true := beq_iff_eq.mpr c8
      have c8b1 : ((t206.length : Int) != 0) = false := bne_eq_false_iff_eq.mpr c8
      clear c8
      by_cases c9 : x3_1.length < 17592186044416
      ·rw [if_pos c9] at H
       have LMc9 := Aside0.mk c9
       clear c9
       obtain ⟨y210, hy210⟩ : ∃ y_ : List Int, y_ = (x3_1 ++ [rd l0_1 x4_1]) := ⟨_, rfl⟩
       replace H : (spec_l01Facets.l0 k1 y210 (wrap64 (x4_1 + 1)) a0_0 l0_1) = some r := by first | (rw [hy210]; with_reducible exact H) | (have H2_ := (Option.bind_some _ _).symm.trans H; rw [hy210]; with_reducible exact H2_) | (have H2_ := (Option.bind_some _ _).symm.trans H; with_reducible exact H2_) | with_reducible exact H | (rw [hy210]; exact H) | exact H
       have Ny210 := Aside0.mk hy210
       clear hy210
       have H' := Aside0.mk H
       clear H
       have hcz10_0 : wr.cell? ⟨gb201, 0, none⟩ = some (.int .i64 a0_0) := (blk_cell BK201.out 0).trans rfl
       have hcz10_1 : wr.cell? ⟨gb201, 1, none⟩ = some (.slice A0_1 l0_1.length c0_1) := (blk_cell BK201.out 1).trans rfl
       have hfz10_0 := blk_frozen BK201.out 0
       have hfz10_1 := blk_frozen BK201.out 1
       try go_wp2
       have n0_ := Aside0.mk (Kd.R_drew HO_3.out)
       have n1_ := Aside0.mk (blk_drew BK201.out)
       have n2_ := Aside0.mk (below_drew1 HB.out)
       clear HO_3
       clear BK201
       clear HB
       have HO_3 := n0_
       have BK201 := n1_
       have HB := n2_
       clear n0_ n1_ n2_
       have p205 : 0 ≤ (x4_1 : Int) := of_decide_eq_true (by first | (with_reducible assumption) | assumption)
       have q205 : x4_1 < (l0_1.length : Int) := of_decide_eq_true (by first | (with_reducible assumption) | assumption)
       obtain ⟨ad205, e205, hx205_0⟩ := Kd.at_int HR0_1.out x4_1 p205 q205
       have hw205_0 := hx205_0
       cases e205
       replace hx205_0 := (HB.out.cell (World.block_lt_of_cell? w _ hx205_0)).trans hx205_0
       replace p205 := eq_true p205
       replace q205 := eq_true q205
       refine start_ (n := 9) (S := fun w' => w'.cell? ⟨gb201, 0, none⟩ = some (.int .i64 a0_0) ∧ w'.cell? ⟨gb201, 1, none⟩ = some (.slice (some ad205) l0_1.length c0_1) ∧ w'.cell? (ad205.add (x4_1).toNat) = some (.int .i64 (rd l0_1 x4_1))) (ds := []) (ar 0 9) (by kernel_rfl) rfl rfl ⟨(blk_cell BK201.out 0).trans rfl, (blk_cell BK201.out 1).trans rfl, ((HB.out.cell (World.block_lt_of_cell? w _ hw205_0)).trans hw205_0)⟩ (fun hHeld => ?_); refine with_tabW spec_l01Facets.tab5 spec_l01Facets.bits5 (fun HT_ HW_ => ?_)
       generalize wr.drew = w11 at HO_3 BK201 HB hx205_0 hHeld ⊢
       refine pure_ (i := 1) (N := some 14) (v := ?_) (a' := ?_) #[O,U,O,O,O,O,O,O,O] rfl rfl (any_of HT_.out (by kernel_rfl)) hh_ (Or.inl ⟨by rfl, ?_⟩) ?_ ?_; rotate_left; (intro w'; go_simp; with_reducible rfl); rotate_left; · simp only [nm_]; rfl
       refine pure_ (i := 3) (N := some 16) (v := ?_) (a' := ?_) #[O,U,O,U,O,O,O,O,O] rfl rfl (any_of HT_.out (by kernel_rfl)) hh_ (Or.inl ⟨by rfl, ?_⟩) ?_ ?_; rotate_left; (intro w'; go_simp; with_reducible rfl); rotate_left; · simp only [nm_]; rfl
       refine take_ (i := 0) (N := some 13) (v := ?_) (a' := ?_) #[U,U,O,U,O,O,O,O,O] rfl rfl (take_ofW HT_.out HW_.out (by kernel_rfl)) hh_ (Or.inl ⟨by rfl, ?_⟩) hHeld ?_ ?_
       rotate_left; · rintro w' ⟨s0, s1, s2⟩; go_simp; with_reducible rfl
       rotate_left; · simp only [nm_]; rfl
       refine take_ (i := 2) (N := some 15) (v := ?_) (a' := ?_) (ar 4 5) rfl rfl (take_ofW HT_.out HW_.out (by kernel_rfl)) hh_ (Or.inl ⟨by rfl, ?_⟩) hHeld ?_ ?_
       rotate_left; · rintro w' ⟨s0, s1, s2⟩; go_simp; with_reducible rfl
       rotate_left; · simp only [nm_]; rfl
       refine pure_ (i := 4) (N := some 17) (v := ?_) (a' := ?_) (ar 5 4) rfl rfl (any_of HT_.out (by kernel_rfl)) hh_ (Or.inl ⟨by rfl, ?_⟩) ?_ ?_; rotate_left; (intro w'; go_simp; with_reducible rfl); rotate_left; · simp only [nm_]; rfl
       refine take_ (i := 5) (N := some 18) (v := ?_) (a' := ?_) (ar 6 3) rfl rfl (take_ofW HT_.out HW_.out (by kernel_rfl)) hh_ (Or.inl ⟨by rfl, ?_⟩) hHeld ?_ ?_
       rotate_left; · rintro w' ⟨s0, s1, s2⟩; go_simp; with_reducible rfl
       rotate_left; · simp only [nm_]; rfl
       refine one_ (i := 6) (N := some 19) (ar 7 2) rfl rfl (one_of HT_.out (by kernel_rfl)) (by decide) (fun K hK => ?_)
       refine goes_ Tryd.func80 (by kernel_rfl) rfl #[.agg #[.int .i64 a0_0, .slice (some ad205) l0_1.length c0_1], .int .i64 (rd l0_1 x4_1)] (by rfl) rfl rfl (by (try simp only [List.map_toArray, List.map_cons, List.map_nil]); first | done | rfl | (simp only [List.length_drop, List.length_take]; rfl)) ?_
       with_reducible refine (spec_l01Above.calls k1 a0_0 _ _ l0_1 (rd l0_1 x4_1) t206 _ ?side1 ?side2 A7.out).mono ?_
       (case side1 => repeat (first | exact (Kd.C_below HR0_1.out HB.out) | (with_reducible refine Kd.C_alloc ?_ _) | (with_reducible refine Kd.C_drewN ?_ _) | (with_reducible refine Kd.C_drew ?_)))
       (case side2 => exact HC0_1.out)
       rintro e w12 ⟨v207, rfl, ho0, hb⟩
       refine ⟨_, rfl, ?_⟩
       have n0_ := Aside0.mk (Kd.R_elder' (by (with_reducible repeat (first | apply Kd.R_alloc | apply Kd.R_drewN | apply Kd.R_drew)); exact HO_3.out) (Kd.R_base ho0) hb)
       have n1_ := Aside0.mk (Kd.R_lower (Kd.R_new' ho0 (Kd.R_lt (by (with_reducible repeat (first | apply Kd.R_alloc | apply Kd.R_drewN | apply Kd.R_drew)); exact HO_3.out))) (below_size (by repeat (first | (with_reducible first | exact HB.out | apply below_alloc | apply pw_below_drewN | apply below_drew1 | refine below_set ?_ GE201.out) | exact HB.out))))
       have n2_ := Aside0.mk (blk_below (g := gb201) (o := .cells #[.int .i64 a0_0, .slice (some ad205) l0_1.length c0_1] 24 (0, 0)) (by (with_reducible repeat (first | refine blk_drewN ?_ _ | refine blk_drew ?_ | refine blk_alloc ?_ _)); exact BK201.out) hb)
       have n3_ := Aside0.mk (below_step (by repeat (first | (with_reducible first | exact HB.out | apply below_alloc | apply pw_below_drewN | apply below_drew1 | refine below_set ?_ GE201.out) | exact HB.out)) hb)
       clear HO_3
       clear BK201
       clear HB
       have HO_3 := n0_
       have HO208 := n1_
       have BK201 := n2_
       have HB := n3_
       clear n0_ n1_ n2_ n3_
       (try clear hb)
       (try clear hb2)
       (try clear hk)
       (try clear hi)
       (try clear ho0)
       obtain ⟨Ao13, co13, eo13⟩ := Kd.R_slice HO208.out
       (first | subst eo13 | (injection eo13 with f1_ f2_ f3_; have f4_ := f1_.symm; have f5_ := f3_.symm; clear f1_ f2_ f3_; subst f4_; subst f5_))
       refine hK.out _ _ ⟨(blk_cell BK201.out 0).trans rfl, (blk_cell BK201.out 1).trans rfl, ((HB.out.cell (World.block_lt_of_cell? w _ hw205_0)).trans hw205_0)⟩ (fun hHeld => ?_)
       clear hK K
       refine norm_ (a' := ?_) ?_ ?_
       rotate_left
       ·show Act.put _ (some 19) _ = _
        simp only [nm_]
        rfl
       refine pure_ (i := 7) (N := some 20) (v := ?_) (a' := ?_) (ar 8 1) rfl rfl (any_of HT_.out (by kernel_rfl)) hh_ (Or.inl ⟨by rfl, ?_⟩) ?_ ?_; rotate_left; (intro w'; go_simp; with_reducible rfl); rotate_left; · simp only [nm_]; rfl
       refine pure_ (i := 8) (N := some 21) (v := ?_) (a' := ?_) (ar 9 0) rfl rfl (any_of HT_.out (by kernel_rfl)) hh_ (Or.inl ⟨by rfl, ?_⟩) ?_ ?_; rotate_left; (intro w'; go_simp; with_reducible rfl); rotate_left; · simp only [nm_]; rfl
       refine done_ (done_of HT_.out (by kernel_rfl)) ?_
       have hcz14_0 : w12.cell? ⟨gb201, 0, none⟩ = some (.int .i64 a0_0) := (blk_cell BK201.out 0).trans rfl
       have hcz14_1 : w12.cell? ⟨gb201, 1, none⟩ = some (.slice (some ad205) l0_1.length c0_1) := (blk_cell BK201.out 1).trans rfl
       have hfz14_0 := blk_frozen BK201.out 0
       have hfz14_1 := blk_frozen BK201.out 1
       have p209 : 0 ≤ (x4_1 : Int) := of_decide_eq_true (by first | (with_reducible assumption) | assumption)
       have q209 : x4_1 < (l0_1.length : Int) := of_decide_eq_true (by first | (with_reducible assumption) | assumption)
       obtain ⟨ad209, e209, hx209_0⟩ := Kd.at_int HR0_1.out x4_1 p209 q209
       obtain rfl : ad205 = ad209 := (by injection e209)
       replace hx209_0 := (HB.out.cell (World.block_lt_of_cell? w _ hx209_0)).trans hx209_0
       replace p209 := eq_true p209
       replace q209 := eq_true q209
       try go_wp2_with (first | ((with_reducible refine gate_builtin (b := .append) (xs := #[.tmp 22, .tmp 28]) rfl ?_); at_builtin; refine Kd.R_append (Kd.int .i64) (w0 := w) w.heap.size rfl (.tmp 22) (.tmp 28) 22 2 (.int .i64 0) 8 rfl Tryd.underlying22 info2 rfl (by decide) (by omega) u3 x3_1 (rd l0_1 x4_1) [.int .i64 (rd l0_1 x4_1)] (fun k_ => some k_ ≠ (.slice Ao13 t206.length co13 : Value).ownBlock) (fun _ => False) rfl rfl ?aP (fun _ hk => hk.elim) ?aF ?aO ?aB ?aS ?aL ?_; (case aP => exact rfl); (case aB => exact (by repeat (first | (with_reducible first | exact HB.out | apply below_alloc | apply pw_below_drewN | apply below_drew1 | refine below_set ?_ GE201.out) | exact HB.out))); (case aF => exact (fun k_ hk => Kd.fresh' (Kd.R_lt (by (with_reducible repeat (first | apply Kd.R_alloc | apply Kd.R_drewN | apply Kd.R_drew)); exact HO208.out)) k_ hk)); (case aO => exact (by (with_reducible repeat (first | apply Kd.R_alloc | apply Kd.R_drewN | apply Kd.R_drew)); exact Kd.R_mono HO_3.out (fun _ hk => hk.2))); (case aS => exact (below_size (by repeat (first | (with_reducible first | exact HB.out | apply below_alloc | apply pw_below_drewN | apply below_drew1 | refine below_set ?_ GE201.out) | exact HB.out)))); (case aL => have := LMc9.out; omega); intro v211 w15 ho hb hg hat; rw [← Ny210.out] at ho; have n0_ := Aside0.mk (blk_grown (g := gb201) (o := .cells #[.int .i64 a0_0, .slice (some ad205) l0_1.length c0_1] 24 (0, 0)) (by (with_reducible repeat (first | refine blk_drewN ?_ _ | refine blk_drew ?_ | refine blk_alloc ?_ _)); exact BK201.out) hg (Kd.R_ne HO_3.out BK201.out (by decide))); have n1_ := Aside0.mk (Kd.R_after (ok := (fun _ => True)) (by (with_reducible repeat (first | apply Kd.R_alloc | apply Kd.R_drewN | apply Kd.R_drew)); exact HO208.out) hg hat); have n2_ := Aside0.mk (hb); have n3_ := Aside0.mk (ho); clear BK201; clear HO208; clear HB; clear HO_3; have BK201 := n0_; have HO208 := n1_; have HB := n2_; have HO212 := n3_; clear n0_ n1_ n2_ n3_; clear ho hb hg hat))
       go_roundg k1
       case measure => have := HK1.out; omega
       case rel => exact ⟨(y210), (wrap64 (x4_1 + 1)), (by first | rfl | (simp; done) | (simp [*]; done)), H', ⟨by have := HK1.out; omega⟩, ⟨by (with_reducible repeat (first | apply Kd.R_alloc | apply Kd.R_drewN | apply Kd.R_drew)); exact Kd.R_mono HO212.out (fun _ hk => trivial)⟩, ⟨by (with_reducible repeat (first | refine blk_drewN ?_ _ | refine blk_drew ?_ | refine blk_alloc ?_ _)); exact BK201.out⟩, ⟨by repeat (first | (with_reducible first | exact HB.out | apply below_alloc | apply pw_below_drewN | apply below_drew1 | refine below_set ?_ GE201.out) | exact HB.out)⟩⟩
      ·rw [if_neg c9] at H
       exact absurd H (by simp)
     ·rw [if_neg c8] at H
      have c8b0 : ((t206.length : Int) == 0) = false := beq_eq_false_iff_ne.mpr c8
      have c8b1 : ((t206.length : Int) != 0) = true := bne_iff_ne.mpr c8
      have c8b2 : ¬ (t206 = []) := fun h_ => c8 (by rw [h_]; rfl)
      have H' := Aside0.mk H
      clear H
      have hcz16_0 : wr.cell? ⟨gb201, 0, none⟩ = some (.int .i64 a0_0) := (blk_cell BK201.out 0).trans rfl
      have hcz16_1 : wr.cell? ⟨gb201, 1, none⟩ = some (.slice A0_1 l0_1.length c0_1) := (blk_cell BK201.out 1).trans rfl
      have hfz16_0 := blk_frozen BK201.out 0
      have hfz16_1 := blk_frozen BK201.out 1
      try go_wp2
      have n0_ := Aside0.mk (Kd.R_drew HO_3.out)
      have n1_ := Aside0.mk (blk_drew BK201.out)
      have n2_ := Aside0.mk (below_drew1 HB.out)
      clear HO_3
      clear BK201
      clear HB
      have HO_3 := n0_
      have BK201 := n1_
      have HB := n2_
      clear n0_ n1_ n2_
      have p205 : 0 ≤ (x4_1 : Int) := of_decide_eq_true (by first | (with_reducible assumption) | assumption)
      have q205 : x4_1 < (l0_1.length : Int) := of_decide_eq_true (by first | (with_reducible assumption) | assumption)
      obtain ⟨ad205, e205, hx205_0⟩ := Kd.at_int HR0_1.out x4_1 p205 q205
      have hw205_0 := hx205_0
      cases e205
      replace hx205_0 := (HB.out.cell (World.block_lt_of_cell? w _ hx205_0)).trans hx205_0
      replace p205 := eq_true p205
      replace q205 := eq_true q205
      refine start_ (n := 9) (S := fun w' => w'.cell? ⟨gb201, 0, none⟩ = some (.int .i64 a0_0) ∧ w'.cell? ⟨gb201, 1, none⟩ = some (.slice (some ad205) l0_1.length c0_1) ∧ w'.cell? (ad205.add (x4_1).toNat) = some (.int .i64 (rd l0_1 x4_1))) (ds := []) (ar 0 9) (by kernel_rfl) rfl rfl ⟨(blk_cell BK201.out 0).trans rfl, (blk_cell BK201.out 1).trans rfl, ((HB.out.cell (World.block_lt_of_cell? w _ hw205_0)).trans hw205_0)⟩ (fun hHeld => ?_); refine with_tabW spec_l01Facets.tab5 spec_l01Facets.bits5 (fun HT_ HW_ => ?_)
      generalize wr.drew = w17 at HO_3 BK201 HB hx205_0 hHeld ⊢
      refine pure_ (i := 1) (N := some 14) (v := ?_) (a' := ?_) #[O,U,O,O,O,O,O,O,O] rfl rfl (any_of HT_.out (by kernel_rfl)) hh_ (Or.inl ⟨by rfl, ?_⟩) ?_ ?_; rotate_left; (intro w'; go_simp; with_reducible rfl); rotate_left; · simp only [nm_]; rfl
      refine pure_ (i := 3) (N := some 16) (v := ?_) (a' := ?_) #[O,U,O,U,O,O,O,O,O] rfl rfl (any_of HT_.out (by kernel_rfl)) hh_ (Or.inl ⟨by rfl, ?_⟩) ?_ ?_; rotate_left; (intro w'; go_simp; with_reducible rfl); rotate_left; · simp only [nm_]; rfl
      refine take_ (i := 0) (N := some 13) (v := ?_) (a' := ?_) #[U,U,O,U,O,O,O,O,O] rfl rfl (take_ofW HT_.out HW_.out (by kernel_rfl)) hh_ (Or.inl ⟨by rfl, ?_⟩) hHeld ?_ ?_
      rotate_left; · rintro w' ⟨s0, s1, s2⟩; go_simp; with_reducible rfl
      rotate_left; · simp only [nm_]; rfl
      refine take_ (i := 2) (N := some 15) (v := ?_) (a' := ?_) (ar 4 5) rfl rfl (take_ofW HT_.out HW_.out (by kernel_rfl)) hh_ (Or.inl ⟨by rfl, ?_⟩) hHeld ?_ ?_
      rotate_left; · rintro w' ⟨s0, s1, s2⟩; go_simp; with_reducible rfl
      rotate_left; · simp only [nm_]; rfl
      refine pure_ (i := 4) (N := some 17) (v := ?_) (a' := ?_) (ar 5 4) rfl rfl (any_of HT_.out (by kernel_rfl)) hh_ (Or.inl ⟨by rfl, ?_⟩) ?_ ?_; rotate_left; (intro w'; go_simp; with_reducible rfl); rotate_left; · simp only [nm_]; rfl
      refine take_ (i := 5) (N := some 18) (v := ?_) (a' := ?_) (ar 6 3) rfl rfl (take_ofW HT_.out HW_.out (by kernel_rfl)) hh_ (Or.inl ⟨by rfl, ?_⟩) hHeld ?_ ?_
      rotate_left; · rintro w' ⟨s0, s1, s2⟩; go_simp; with_reducible rfl
      rotate_left; · simp only [nm_]; rfl
      refine one_ (i := 6) (N := some 19) (ar 7 2) rfl rfl (one_of HT_.out (by kernel_rfl)) (by decide) (fun K hK => ?_)
      refine goes_ Tryd.func80 (by kernel_rfl) rfl #[.agg #[.int .i64 a0_0, .slice (some ad205) l0_1.length c0_1], .int .i64 (rd l0_1 x4_1)] (by rfl) rfl rfl (by (try simp only [List.map_toArray, List.map_cons, List.map_nil]); first | done | rfl | (simp only [List.length_drop, List.length_take]; rfl)) ?_
      with_reducible refine (spec_l01Above.calls k1 a0_0 _ _ l0_1 (rd l0_1 x4_1) t206 _ ?side1 ?side2 A7.out).mono ?_
      (case side1 => repeat (first | exact (Kd.C_below HR0_1.out HB.out) | (with_reducible refine Kd.C_alloc ?_ _) | (with_reducible refine Kd.C_drewN ?_ _) | (with_reducible refine Kd.C_drew ?_)))
      (case side2 => exact HC0_1.out)
      rintro e w18 ⟨v207, rfl, ho0, hb⟩
      refine ⟨_, rfl, ?_⟩
      have n0_ := Aside0.mk (Kd.R_elder' (by (with_reducible repeat (first | apply Kd.R_alloc | apply Kd.R_drewN | apply Kd.R_drew)); exact HO_3.out) (Kd.R_base ho0) hb)
      have n1_ := Aside0.mk (Kd.R_lower (Kd.R_new' ho0 (Kd.R_lt (by (with_reducible repeat (first | apply Kd.R_alloc | apply Kd.R_drewN | apply Kd.R_drew)); exact HO_3.out))) (below_size (by repeat (first | (with_reducible first | exact HB.out | apply below_alloc | apply pw_below_drewN | apply below_drew1 | refine below_set ?_ GE201.out) | exact HB.out))))
      have n2_ := Aside0.mk (blk_below (g := gb201) (o := .cells #[.int .i64 a0_0, .slice (some ad205) l0_1.length c0_1] 24 (0, 0)) (by (with_reducible repeat (first | refine blk_drewN ?_ _ | refine blk_drew ?_ | refine blk_alloc ?_ _)); exact BK201.out) hb)
      have n3_ := Aside0.mk (below_step (by repeat (first | (with_reducible first | exact HB.out | apply below_alloc | apply pw_below_drewN | apply below_drew1 | refine below_set ?_ GE201.out) | exact HB.out)) hb)
      clear HO_3
      clear BK201
      clear HB
      have HO_3 := n0_
      have HO208 := n1_
      have BK201 := n2_
      have HB := n3_
      clear n0_ n1_ n2_ n3_
      (try clear hb)
      (try clear hb2)
      (try clear hk)
      (try clear hi)
      (try clear ho0)
      obtain ⟨Ao19, co19, eo19⟩ := Kd.R_slice HO208.out
      (first | subst eo19 | (injection eo19 with f1_ f2_ f3_; have f4_ := f1_.symm; have f5_ := f3_.symm; clear f1_ f2_ f3_; subst f4_; subst f5_))
      refine hK.out _ _ ⟨(blk_cell BK201.out 0).trans rfl, (blk_cell BK201.out 1).trans rfl, ((HB.out.cell (World.block_lt_of_cell? w _ hw205_0)).trans hw205_0)⟩ (fun hHeld => ?_)
      clear hK K
      refine norm_ (a' := ?_) ?_ ?_
      rotate_left
      ·show Act.put _ (some 19) _ = _
       simp only [nm_]
       rfl
      refine pure_ (i := 7) (N := some 20) (v := ?_) (a' := ?_) (ar 8 1) rfl rfl (any_of HT_.out (by kernel_rfl)) hh_ (Or.inl ⟨by rfl, ?_⟩) ?_ ?_; rotate_left; (intro w'; go_simp; with_reducible rfl); rotate_left; · simp only [nm_]; rfl
      refine pure_ (i := 8) (N := some 21) (v := ?_) (a' := ?_) (ar 9 0) rfl rfl (any_of HT_.out (by kernel_rfl)) hh_ (Or.inl ⟨by rfl, ?_⟩) ?_ ?_; rotate_left; (intro w'; go_simp; with_reducible rfl); rotate_left; · simp only [nm_]; rfl
      refine done_ (done_of HT_.out (by kernel_rfl)) ?_
      try go_wp2
      go_roundg k1
      case measure => have := HK1.out; omega
      case rel => exact ⟨(x3_1), (wrap64 (x4_1 + 1)), (by first | rfl | (simp; done) | (simp [*]; done)), H', ⟨by have := HK1.out; omega⟩, ⟨by (with_reducible repeat (first | apply Kd.R_alloc | apply Kd.R_drewN | apply Kd.R_drew)); exact Kd.R_mono HO_3.out (fun _ hk => trivial)⟩, ⟨by (with_reducible repeat (first | refine blk_drewN ?_ _ | refine blk_drew ?_ | refine blk_alloc ?_ _)); exact BK201.out⟩, ⟨by repeat (first | (with_reducible first | exact HB.out | apply below_alloc | apply pw_below_drewN | apply below_drew1 | refine below_set ?_ GE201.out) | exact HB.out)⟩⟩
    ·rw [if_neg c6] at H
     exact absurd H (by simp)
   ·rw [if_neg c5] at H
    have c5b0 : decide (x4_1 < (l0_1.length : Int)) = false := decide_eq_false c5
    clear c5
    obtain rfl := Option.some.inj H
    have hcz20_0 : wr.cell? ⟨gb201, 0, none⟩ = some (.int .i64 a0_0) := (blk_cell BK201.out 0).trans rfl
    have hcz20_1 : wr.cell? ⟨gb201, 1, none⟩ = some (.slice A0_1 l0_1.length c0_1) := (blk_cell BK201.out 1).trans rfl
    have hfz20_0 := blk_frozen BK201.out 0
    have hfz20_1 := blk_frozen BK201.out 1
    go_wp2
    go_ret
    exact ⟨_, by first | rfl | (simp [errW_none, errW_some] <;> rfl) | (simp [*, errW_none, errW_some] <;> rfl), by (with_reducible repeat (first | apply Kd.R_alloc | apply Kd.R_drewN | apply Kd.R_drew)); exact HO_3.out, by repeat (first | (with_reducible first | exact HB.out | apply below_alloc | apply pw_below_drewN | apply below_drew1 | refine below_set ?_ GE201.out) | exact HB.out)⟩

end Go.Proofs.YtaeabbackmnioaaDoor.Q
end

section
/- The reference's FacetsOf comes to what the program's comes to. -/
namespace Go.Proofs.YtaeabbackmnioaaDoor.K
open Go.RowKit Go.Shelf Go.Proofs.YtaeabbackmnioaaDoor.Q Go.Proofs.YtaeabbackmnioaaDoorW.PrintWords Go.Proofs.YtaeabbackmnioaaDoorW.PrintLast Go.Proofs.YtaeabbackmnioaaDoorW.PrintMore
set_option linter.unusedVariables false
set_option linter.unusedSimpArgs false

/-- Below a face that has f there is one with one vertex more than f. -/
theorem above_ex {n : Int} {l : List Int} (hi : isC n l = true) (f : Int) (hf : f ∈ l) : ∀ (d : Nat) (g : Int), g ∈ l → inB f g = true → f ≠ g → onesI g ≤ onesI f + 1 + d → ∃ x ∈ l, inB f x = true ∧ onesI x = onesI f + 1 := by
 obtain ⟨hn, hs, hr, h63⟩ := isC_faces hi
 have hfr := hr f hf
 intro d
 induction d with
 | zero =>
  intro g hg hin hne hle
  have hgr := hr g hg
  have := (up_is f g (by omega) (by omega) hne hin).1
  exact ⟨g, hg, hin, by omega⟩
 | succ d ih =>
  intro g hg hin hne hle
  have hgr := hr g hg
  obtain ⟨h1, x, hx, h2, h3, h4⟩ := up_is f g (by omega) (by omega) hne hin
  have hxl := closed_mem hi g hg x hx
  rcases h4 with h4 | h4
  ·exact ⟨g, hg, hin, by rw [← h4]; omega⟩
  ·exact ih x hxl h2 (fun e => by rw [e] at h4; omega) (by omega)

theorem specAbove_loop (n f : Int) (hf : 1 ≤ f ∧ f ≤ 63) (l : List Int) (hl : l.length ≤ 63) (hr : ∀ x ∈ l, 1 ≤ x ∧ x ≤ 63) : ∀ (d i k : Nat) (acc : List Int), l.length - i = d → i ≤ l.length → d + 8 < k → acc.length ≤ i →
  spec_l01Above.l0 k f acc (i : Int) n l = some (acc ++ (l.drop i).filter (fun x => decide (Go.bits .and .i64 x f = f) && decide (onesI x = onesI f + 1))) := by
 have ho := ones_range f hf.1 hf.2
 intro d
 induction d with
 | zero =>
  intro i k acc hd hi hk ha
  obtain ⟨k, rfl⟩ : ∃ m, k = m + 1 := ⟨k - 1, by omega⟩
  obtain rfl : i = l.length := by omega
  simp only [spec_l01Above.l0]
  rw [if_neg (by omega)]
  simp
 | succ d ih =>
  intro i k acc hd hi hk ha
  obtain ⟨k, rfl⟩ : ∃ m, k = m + 1 := ⟨k - 1, by omega⟩
  simp only [spec_l01Above.l0]
  have hil : i < l.length := by omega
  have hx := hr _ (List.getElem_mem hil)
  have hin := fun acc' (h : acc'.length ≤ i + 1) => ih (i + 1) k acc' (by omega) (by omega) (by omega) h
  rw [if_pos (by omega), if_pos (by omega), rd_nat l i hil, w64 ((i : Int) + 1) (by omega) (by omega), nat_succ, List.drop_eq_getElem_cons hil, List.filter_cons]
  by_cases h : Go.bits .and .i64 l[i] f = f
  ·rw [if_pos h, specOnes_is l[i] (by omega) (by omega) k (by omega), specOnes_is f (by omega) (by omega) k (by omega)]
   simp only [Option.bind_some]
   rw [w64 (onesI f + 1) (by omega) (by omega)]
   by_cases h2 : onesI l[i] = onesI f + 1
   ·rw [if_pos h2]
    simp only [h, h2, decide_true, Bool.and_self, if_true]
    rw [if_pos (show acc.length < 17592186044416 by omega), hin _ (by simp; omega), List.append_assoc]
    rfl
   ·rw [if_neg h2]
    simp only [h, h2, decide_true, decide_false, Bool.and_false, Bool.false_eq_true, if_false]
    exact hin _ (by omega)
  ·rw [if_neg h]
   simp only [h, decide_false, Bool.false_and, Bool.false_eq_true, if_false]
   exact hin _ (by omega)
def aboveL (l : List Int) (f : Int) : List Int := l.filter (fun x => decide (Go.bits .and .i64 x f = f) && decide (onesI x = onesI f + 1))
theorem specAbove_is (n f : Int) (hf : 1 ≤ f ∧ f ≤ 63) (l : List Int) (hl : l.length ≤ 63) (hr : ∀ x ∈ l, 1 ≤ x ∧ x ≤ 63) (k : Nat) (hk : 72 ≤ k) : spec_l01Above.f k n l f = some (aboveL l f) := by
 have := specAbove_loop n f hf l hl hr l.length 0 k [] (by omega) (by omega) (by omega) (by simp)
 rw [show ((0 : Nat) : Int) = 0 from rfl, List.nil_append, List.drop_zero] at this
 exact this
theorem above_inner {n : Int} {l : List Int} (hi : isC n l = true) (f : Int) (hf : f ∈ l) : decide ((aboveL l f).length = 0) = !innerB l f := by
 obtain ⟨hn, hs, hr, h63⟩ := isC_faces hi
 have hfr := hr f hf
 cases hI : innerB l f with
 | true =>
  unfold innerB at hI
  obtain ⟨g, hg, h⟩ := List.any_eq_true.1 hI
  simp only [Bool.and_eq_true, bne_iff_ne, ne_eq] at h
  have hgr := hr g hg
  have hog := ones_range g (by omega) (by omega)
  have hof := ones_range f (by omega) (by omega)
  obtain ⟨x, hx, h1, h2⟩ := above_ex hi f hf 6 g hg h.2 h.1 (by omega)
  have hxr := hr x hx
  have hm : x ∈ aboveL l f := by
   unfold aboveL
   rw [List.mem_filter]
   refine ⟨hx, ?_⟩
   rw [inB_is f x (by omega) (by omega), and_comm' f x (by omega) (by omega)] at h1
   rw [h1, decide_eq_true h2]
   rfl
  have : (aboveL l f).length ≠ 0 := fun e => by
   rw [List.length_eq_zero_iff] at e
   rw [e] at hm
   cases hm
  simp [this]
 | false =>
  have : aboveL l f = [] := by
   unfold aboveL
   rw [List.filter_eq_nil_iff]
   intro x hx h
   simp only [Bool.and_eq_true, decide_eq_true_eq] at h
   have hxr := hr x hx
   unfold innerB at hI
   rw [List.any_eq_false] at hI
   apply hI x hx
   simp only [Bool.and_eq_true, bne_iff_ne, ne_eq]
   refine ⟨fun e => by rw [e] at h; omega, ?_⟩
   rw [inB_is f x (by omega) (by omega), and_comm' f x (by omega) (by omega)]
   exact decide_eq_true h.1
  simp [this]

theorem specFacets_loop {n : Int} {l : List Int} (hc : isC n l = true) : ∀ (d i k : Nat) (acc : List Int), l.length - i = d → i ≤ l.length → d + 72 < k → acc.length ≤ i →
  spec_l01Facets.l0 k acc (i : Int) n l = some (acc ++ (l.drop i).filter (fun f => !innerB l f)) := by
 obtain ⟨hn, hs, hr, h63⟩ := isC_faces hc
 have hr2 : ∀ x ∈ l, 1 ≤ x ∧ x ≤ 63 := fun x hx => ⟨(hr x hx).1, (hr x hx).2.2⟩
 intro d
 induction d with
 | zero =>
  intro i k acc hd hi hk ha
  obtain ⟨k, rfl⟩ : ∃ m, k = m + 1 := ⟨k - 1, by omega⟩
  obtain rfl : i = l.length := by omega
  simp only [spec_l01Facets.l0]
  rw [if_neg (by omega)]
  simp
 | succ d ih =>
  intro i k acc hd hi hk ha
  obtain ⟨k, rfl⟩ : ∃ m, k = m + 1 := ⟨k - 1, by omega⟩
  simp only [spec_l01Facets.l0]
  have hil : i < l.length := by omega
  have hx := hr2 _ (List.getElem_mem hil)
  have hin := fun acc' (h : acc'.length ≤ i + 1) => ih (i + 1) k acc' (by omega) (by omega) (by omega) h
  rw [if_pos (by omega), if_pos (by omega), rd_nat l i hil, w64 ((i : Int) + 1) (by omega) (by omega), nat_succ, specAbove_is n l[i] hx l h63 hr2 k (by omega)]
  simp only [Option.bind_some]
  rw [List.drop_eq_getElem_cons hil, List.filter_cons, ← above_inner hc _ (List.getElem_mem hil)]
  by_cases h : (aboveL l l[i]).length = 0
  ·rw [if_pos (by omega)]
   simp only [h, decide_true, if_true]
   rw [if_pos (show acc.length < 17592186044416 by omega), hin _ (by simp; omega), List.append_assoc]
   rfl
  ·rw [if_neg (by omega)]
   simp only [h, decide_false, Bool.false_eq_true, if_false]
   exact hin _ (by omega)
theorem specFacetsL_is {n : Int} {l : List Int} (hi : isC n l = true) (k : Nat) (hk : l.length + 80 ≤ k) : spec_l01Facets.f k n l = some (facetsL l) := by
 have := specFacets_loop hi l.length 0 k [] (by omega) (by omega) (by omega) (by simp)
 rw [show ((0 : Nat) : Int) = 0 from rfl, List.nil_append, List.drop_zero] at this
 exact this
end Go.Proofs.YtaeabbackmnioaaDoor.K
end

section
/- The shelf's contract of a function of the library, laid at this program. -/
namespace Go.Proofs.YtaeabbackmnioaaDoor.K
open Go.Shelf
def JoinI_ren : Go.Shelf.Ren := {
 f := fun x =>
  match x with
  | 156 => 54
  | 165 => 77
  | 166 => 78
  | 169 => 79
  | 240 => 102
  | 241 => 103
  | 276 => 119
  | 277 => 120
  | n => n,
 t := fun x =>
  match x with
  | 31 => 58
  | 9 => 9
  | 3 => 3
  | 4 => 4
  | 0 => 0
  | 20 => 20
  | 72 => 94
  | 76 => 96
  | 70 => 92
  | 37 => 89
  | 75 => 41
  | 127 => 114
  | 164 => 134
  | 5 => 5
  | 80 => 48
  | n => n,
 g := fun x =>
    x }
theorem JoinI : Lays.n156 Tryd.prog JoinI_ren := {
 mixed := by kernel_rfl,
 f156 := Tryd.func54.trans (congrArg some (by kernel_rfl)),
 f165 := Tryd.func77.trans (congrArg some (by kernel_rfl)),
 f166 := Tryd.func78.trans (congrArg some (by kernel_rfl)),
 f169 := Tryd.func79.trans (congrArg some (by kernel_rfl)),
 f240 := Tryd.func102.trans (congrArg some (by kernel_rfl)),
 f241 := Tryd.func103.trans (congrArg some (by kernel_rfl)),
 f276 := Tryd.func119.trans (congrArg some (by kernel_rfl)),
 f277 := Tryd.func120.trans (congrArg some (by kernel_rfl)),
 t0 := Tryd.underlying0,
 a0 := Tryd.isAgg0,
 z0 := Tryd.sizeOf0,
 v0 := Tryd.zeroValue0,
 t3 := Tryd.underlying3,
 a3 := Tryd.isAgg3,
 z3 := Tryd.sizeOf3,
 v3 := Tryd.zeroValue3,
 t4 := Tryd.underlying4,
 a4 := Tryd.isAgg4,
 z4 := Tryd.sizeOf4,
 v4 := Tryd.zeroValue4,
 t9 := Tryd.underlying9,
 a9 := Tryd.isAgg9,
 z9 := Tryd.sizeOf9,
 v9 := Tryd.zeroValue9,
 t20 := Tryd.underlying20,
 a20 := Tryd.isAgg20,
 z20 := Tryd.sizeOf20,
 v20 := Tryd.zeroValue20,
 t31 := Tryd.underlying58,
 a31 := Tryd.isAgg58,
 z31 := Tryd.sizeOf58,
 v31 := Tryd.zeroValue58,
 t37 := Tryd.underlying89,
 a37 := Tryd.isAgg89,
 z37 := Tryd.sizeOf89,
 v37 := Tryd.zeroValue89,
 t70 := Tryd.underlying92,
 a70 := Tryd.isAgg92,
 z70 := Tryd.sizeOf92,
 v70 := Tryd.zeroValue92,
 t72 := Tryd.underlying94,
 a72 := Tryd.isAgg94,
 z72 := Tryd.sizeOf94,
 v72 := Tryd.zeroValue94,
 t75 := Tryd.underlying41,
 a75 := Tryd.isAgg41,
 z75 := Tryd.sizeOf41,
 v75 := Tryd.zeroValue41,
 t76 := Tryd.underlying96,
 a76 := Tryd.isAgg96,
 z76 := Tryd.sizeOf96,
 v76 := Tryd.zeroValue96,
 t127 := Tryd.underlying114,
 a127 := Tryd.isAgg114,
 z127 := Tryd.sizeOf114,
 v127 := Tryd.zeroValue114,
 t164 := Tryd.underlying134,
 a164 := Tryd.isAgg134,
 z164 := Tryd.sizeOf134,
 v164 := Tryd.zeroValue134 }
end Go.Proofs.YtaeabbackmnioaaDoor.K
end

section
/- The shelf's contract of a function of the library, laid at this program. -/
namespace Go.Proofs.YtaeabbackmnioaaDoor.K
open Go.Shelf
def FmtI_ren : Go.Shelf.Ren := {
 f := fun x =>
  match x with
  | 173 => 53
  | 246 => 76
  | 283 => 98
  | 284 => 99
  | 285 => 100
  | 286 => 101
  | 129 => 115
  | 317 => 114
  | 318 => 116
  | 319 => 117
  | 320 => 118
  | 337 => 125
  | 338 => 126
  | n => n,
 t := fun x =>
  match x with
  | 2 => 2
  | 3 => 3
  | 9 => 9
  | 4 => 4
  | 171 => 109
  | 0 => 0
  | 53 => 79
  | 37 => 89
  | 5 => 5
  | 173 => 112
  | 212 => 130
  | 51 => 120
  | 20 => 20
  | 213 => 131
  | 46 => 84
  | 232 => 143
  | 233 => 144
  | n => n,
 g := fun x =>
  match x with
  | 17 => 3
  | 18 => 6
  | 19 => 7
  | n => n }
theorem FmtI : Lays.n173 Tryd.prog FmtI_ren := {
 mixed := by kernel_rfl,
 f129 := Tryd.func115.trans (congrArg some (by kernel_rfl)),
 f173 := Tryd.func53.trans (congrArg some (by kernel_rfl)),
 f246 := Tryd.func76.trans (congrArg some (by kernel_rfl)),
 f283 := Tryd.func98.trans (congrArg some (by kernel_rfl)),
 f284 := Tryd.func99.trans (congrArg some (by kernel_rfl)),
 f285 := Tryd.func100.trans (congrArg some (by kernel_rfl)),
 f286 := Tryd.func101.trans (congrArg some (by kernel_rfl)),
 f317 := Tryd.func114.trans (congrArg some (by kernel_rfl)),
 f318 := Tryd.func116.trans (congrArg some (by kernel_rfl)),
 f319 := Tryd.func117.trans (congrArg some (by kernel_rfl)),
 f320 := Tryd.func118.trans (congrArg some (by kernel_rfl)),
 f337 := Tryd.func125.trans (congrArg some (by kernel_rfl)),
 f338 := Tryd.func126.trans (congrArg some (by kernel_rfl)),
 t0 := Tryd.underlying0,
 a0 := Tryd.isAgg0,
 z0 := Tryd.sizeOf0,
 v0 := Tryd.zeroValue0,
 t2 := Tryd.underlying2,
 a2 := Tryd.isAgg2,
 z2 := Tryd.sizeOf2,
 v2 := Tryd.zeroValue2,
 t3 := Tryd.underlying3,
 a3 := Tryd.isAgg3,
 z3 := Tryd.sizeOf3,
 v3 := Tryd.zeroValue3,
 t4 := Tryd.underlying4,
 a4 := Tryd.isAgg4,
 z4 := Tryd.sizeOf4,
 v4 := Tryd.zeroValue4,
 t5 := Tryd.underlying5,
 a5 := Tryd.isAgg5,
 z5 := Tryd.sizeOf5,
 v5 := Tryd.zeroValue5,
 t9 := Tryd.underlying9,
 a9 := Tryd.isAgg9,
 z9 := Tryd.sizeOf9,
 v9 := Tryd.zeroValue9,
 t20 := Tryd.underlying20,
 a20 := Tryd.isAgg20,
 z20 := Tryd.sizeOf20,
 v20 := Tryd.zeroValue20,
 t37 := Tryd.underlying89,
 a37 := Tryd.isAgg89,
 z37 := Tryd.sizeOf89,
 v37 := Tryd.zeroValue89,
 t46 := Tryd.underlying84,
 a46 := Tryd.isAgg84,
 z46 := Tryd.sizeOf84,
 v46 := Tryd.zeroValue84,
 t51 := Tryd.underlying120,
 a51 := Tryd.isAgg120,
 z51 := Tryd.sizeOf120,
 v51 := Tryd.zeroValue120,
 t53 := Tryd.underlying79,
 a53 := Tryd.isAgg79,
 z53 := Tryd.sizeOf79,
 v53 := Tryd.zeroValue79,
 t171 := Tryd.underlying109,
 a171 := Tryd.isAgg109,
 z171 := Tryd.sizeOf109,
 v171 := Tryd.zeroValue109,
 t173 := Tryd.underlying112,
 a173 := Tryd.isAgg112,
 z173 := Tryd.sizeOf112,
 v173 := Tryd.zeroValue112,
 t212 := Tryd.underlying130,
 a212 := Tryd.isAgg130,
 z212 := Tryd.sizeOf130,
 v212 := Tryd.zeroValue130,
 t213 := Tryd.underlying131,
 a213 := Tryd.isAgg131,
 z213 := Tryd.sizeOf131,
 t232 := Tryd.underlying143,
 a232 := Tryd.isAgg143,
 z232 := Tryd.sizeOf143,
 v232 := Tryd.zeroValue143,
 t233 := Tryd.underlying144,
 a233 := Tryd.isAgg144,
 z233 := Tryd.sizeOf144,
 v233 := Tryd.zeroValue144,
 g17 := by kernel_rfl,
 g18 := by kernel_rfl,
 g19 := by kernel_rfl }
end Go.Proofs.YtaeabbackmnioaaDoor.K
end

section
/- strings.Join and strconv.FormatInt, laid here. -/
namespace Go.Proofs.YtaeabbackmnioaaDoor.K
open Go.RowKit Go.Shelf Go.Proofs.YtaeabbackmnioaaDoorW.PrintWords Go.Proofs.YtaeabbackmnioaaDoorW.PrintLast Go.Proofs.YtaeabbackmnioaaDoorW.PrintMore
set_option linter.unusedVariables false
set_option linter.unusedSimpArgs false

theorem JoinI_extra : Builder.Extra Tryd.prog JoinI_ren where
 sizeBuilder := by kernel_rfl
 liesBuilder := by kernel_rfl
 t5 := Tryd.underlying5
 a5 := Tryd.isAgg5
 z5 := Tryd.sizeOf5
 v5 := Tryd.zeroValue5
 infoByte := by kernel_rfl
 cellsByte := by kernel_rfl
 sizeByte := by kernel_rfl
 neB5 := by decide

theorem spot_none {w : World} {ad : Addr} {v : Value} (h : w.cell? ad = some v) : ad = ⟨ad.block, ad.off, none⟩ := by
 obtain ⟨b, o, s⟩ := ad
 cases s with
 | none => rfl
 | some x =>
  unfold World.cell? at h
  split at h <;> simp at h

/-- The texts with the bytes sep between. -/
def joinB (ps : List ByteArray) (sep : ByteArray) : ByteArray := ⟨(Lib.join (ps.map (·.data.toList)) sep.data.toList).toArray⟩
theorem Join_calls (A : Option Addr) (c : Nat) (ps : List ByteArray) (sep : ByteArray) (w : World) (hr : Kd.C Kd.string w A ps.length ps) (hc : ps.length ≤ c) (hn : ps.length ≤ 100000) (hs : (Lib.join (ps.map (·.data.toList)) sep.data.toList).length ≤ 140737488355328) :
  Calls Tryd.prog 54 #[.slice A ps.length c, .string sep] w fun e w' => e = .returned (.string (joinB ps sep)) ∧ Grew w w' := by
 cases hp : ps with
 | nil =>
  refine (Any.strings_Join_none JoinI JoinI_extra A c sep w).mono fun e w' ⟨he, hw⟩ => ⟨he, hw ▸ Grew.refl w⟩
 | cons x r =>
  have hpos : 0 < ps.length := by rw [hp]; simp
  obtain ⟨ad, hA, h0⟩ := Kd.at_string hr 0 (by omega) (by omega)
  have hsp := spot_none (show w.cell? ad = some _ from h0)
  obtain ⟨b, o, s⟩ := ad
  simp only [Addr.mk.injEq, true_and] at hsp
  subst hsp
  subst hA
  rw [← hp]
  refine (Any.strings_Join JoinI JoinI_extra b o c ps sep w (fun j y hj => ?_) (World.block_lt_of_cell? w _ h0) (by omega) hc hs).mono fun e w' ⟨he, hw⟩ => ⟨he, hw⟩
  obtain ⟨hjl, hjy⟩ := List.getElem?_eq_some_iff.1 hj
  obtain ⟨ad2, hA2, h2⟩ := Kd.at_string hr (j : Int) (by omega) (by omega)
  cases hA2
  rw [Int.toNat_natCast, Addr.add_lit] at h2
  rw [h2]
  simp [rdOf, hjl, hjy]

/-- A digit. -/
def digitB (n : Int) : ByteArray := ⟨#[UInt8.ofNat (48 + n.toNat)]⟩
theorem FormatInt_calls (n : Int) (hn : 0 ≤ n ∧ n < 10) (w : World) :
  Calls Tryd.prog 53 #[I n, .int .i64 10] w fun e w' => e = .returned (.string (digitB n)) ∧ Grew w w' := by
 obtain ⟨i, rfl⟩ : ∃ i : Nat, n = i := ⟨n.toNat, by omega⟩
 refine (Any.strconv_FormatInt_10_small FmtI i (by omega) w).mono fun e w' ⟨he, hw⟩ => ⟨?_, hw ▸ Grew.refl w⟩
 rw [he, Lib.decDigits, dif_pos (by omega)]
 rfl

end Go.Proofs.YtaeabbackmnioaaDoor.K
end

section
/- facets, strings.Join, strconv.FormatInt in the form that the printed texts take. -/
namespace Go.Proofs.YtaeabbackmnioaaDoor.X
open Go.RowKit Go.Shelf Go.Proofs.YtaeabbackmnioaaDoor.K Go.Proofs.YtaeabbackmnioaaDoorW.PrintWords Go.Proofs.YtaeabbackmnioaaDoorW.PrintLast Go.Proofs.YtaeabbackmnioaaDoorW.PrintMore
set_option linter.unusedVariables false
set_option linter.unusedSimpArgs false

def strconv_FormatInt.f (a0 a1 : Int) : Option ByteArray := if (0 ≤ a0 ∧ a0 < 10) ∧ a1 = 10 then some (digitB a0) else none
theorem strconv_FormatInt.calls (a0 a1 : Int) (r : ByteArray) (w : World) (h : strconv_FormatInt.f a0 a1 = some r) :
  Calls Tryd.prog 53 #[.int .i64 a0, .int .i64 a1] w fun e w' => e = .returned (.string r) ∧ Below w.heap.size w w' := by
 unfold strconv_FormatInt.f at h
 by_cases hl : (0 ≤ a0 ∧ a0 < 10) ∧ a1 = 10
 ·rw [if_pos hl] at h
  injection h with h
  subst h
  obtain ⟨h1, rfl⟩ := hl
  exact FormatInt_calls a0 h1 w
 ·rw [if_neg hl] at h
  cases h
def strings_Join.f (l0 : List ByteArray) (a1 : ByteArray) : Option ByteArray := if l0.length ≤ 100000 ∧ (Lib.join (l0.map (·.data.toList)) a1.data.toList).length ≤ 140737488355328 then some (joinB l0 a1) else none
theorem strings_Join.calls (A0 : Option Addr) (c0 : Nat) (l0 : List ByteArray) (a1 : ByteArray) (r : ByteArray) (w : World) (hr0 : Kd.C Kd.string w A0 l0.length l0) (hc0 : l0.length ≤ c0) (h : strings_Join.f l0 a1 = some r) :
  Calls Tryd.prog 54 #[.slice A0 l0.length c0, .string a1] w fun e w' => e = .returned (.string r) ∧ Below w.heap.size w w' := by
 unfold strings_Join.f at h
 by_cases hl : l0.length ≤ 100000 ∧ (Lib.join (l0.map (·.data.toList)) a1.data.toList).length ≤ 140737488355328
 ·rw [if_pos hl] at h
  injection h with h
  subst h
  exact Join_calls A0 c0 l0 a1 w hr0 hc0 hl.1 hl.2
 ·rw [if_neg hl] at h
  cases h
def impl_Complex_facets.f (a0_0 : Int) (l0_1 : List Int) : Option (List Int) := if l0_1.length ≤ 1000000 then some (facetsL l0_1) else none
theorem impl_Complex_facets.calls (a0_0 : Int) (A0_1 : Option Addr) (c0_1 : Nat) (l0_1 : List Int) (r : List Int) (w : World) (hr0_1 : Kd.C (Kd.int .i64) w A0_1 l0_1.length l0_1) (hc0_1 : l0_1.length ≤ c0_1) (h : impl_Complex_facets.f a0_0 l0_1 = some r) :
  Calls Tryd.prog 51 #[.agg #[.int .i64 a0_0, .slice A0_1 l0_1.length c0_1]] w fun e w' => ∃ v0_ : Value, e = .returned (v0_) ∧ Kd.R (Kd.int .i64) 2 w' w.heap.size (fun _ => True) v0_ r ∧ Below w.heap.size w w' := by
 unfold impl_Complex_facets.f at h
 by_cases hl : l0_1.length ≤ 1000000
 ·rw [if_pos hl] at h
  injection h with h
  subst h
  exact facets_calls a0_0 A0_1 c0_1 l0_1 w ⟨hr0_1, hc0_1, by omega⟩ (by omega)
 ·rw [if_neg hl] at h
  cases h

end Go.Proofs.YtaeabbackmnioaaDoor.X
end

section
/- Written by a program of this session (myprint.py over the kit's print). -/
namespace Go.Proofs.YtaeabbackmnioaaDoor.D
open Go.RowKit Go.Proofs.YtaeabbackmnioaaDoor.Q Go.Proofs.YtaeabbackmnioaaDoor.X Go.Proofs.YtaeabbackmnioaaDoorW.PrintWords Go.Proofs.YtaeabbackmnioaaDoorW.PrintLast Go.Proofs.YtaeabbackmnioaaDoorW.PrintMore
attribute [local go_sem] max2_int min2_int max_two min_two max_three min_three max_four min_four   -- for this text's walks alone
set_option linter.unusedVariables false
set_option linter.unusedSimpArgs false





/-! ### impl_Complex_text: function 23 -/
mutual
def impl_Complex_text.l0 : Nat → List ByteArray → List Int → Int → Int → Int → List Int → Option (ByteArray)
 | 0, _, _, _, _, _, _ => none
 | k + 1, x3, x10, x11, x12, x102000, x102001 => if x12 < x11 then (if 0 ≤ x12 then (if x12 < (x10.length : Int) then ((impl_vertices.f k (rd x10 x12)).bind fun t108 => (impl_Complex_text.l1 k x3 (⟨#[]⟩ : ByteArray) x10 x11 x12 t108 (t108.length : Int) 0 x102000 x102001)) else (none)) else (none)) else ((strconv_FormatInt.f x102000 10).bind fun t105 => (if t105.size + 1 ≤ 9223372036854775807 then ((strings_Join.f x3 (⟨#[44]⟩ : ByteArray)).bind fun t106 => (if (t105 ++ (⟨#[58]⟩ : ByteArray)).size + t106.size ≤ 9223372036854775807 then (some ((t105 ++ (⟨#[58]⟩ : ByteArray)) ++ t106)) else (none))) else (none)))
def impl_Complex_text.l1 : Nat → List ByteArray → ByteArray → List Int → Int → Int → List Int → Int → Int → Int → List Int → Option (ByteArray)
 | 0, _, _, _, _, _, _, _, _, _, _ => none
 | k + 1, x3, x6, x10, x11, x12, x17, x18, x19, x102000, x102001 => if x19 < x18 then (if 0 ≤ x19 then (if x19 < (x17.length : Int) then ((strconv_FormatInt.f (rd x17 x19) 10).bind fun t112 => (if x6.size + t112.size ≤ 9223372036854775807 then (impl_Complex_text.l1 k x3 (x6 ++ t112) x10 x11 x12 x17 x18 (wrap64 (x19 + 1)) x102000 x102001) else (none))) else (none)) else (none)) else (if x3.length < 8796093022208 then (impl_Complex_text.l0 k (x3 ++ [x6]) x10 x11 (wrap64 (x12 + 1)) x102000 x102001) else (none))
end
def impl_Complex_text.f (k : Nat) (a0_0 : Int) (l0_1 : List Int) : Option (ByteArray) := (impl_Complex_facets.f a0_0 l0_1).bind fun t102 => (impl_Complex_text.l0 k ([] : List ByteArray) t102 (t102.length : Int) 0 a0_0 l0_1)
theorem impl_Complex_text.mono_l : ∀ k, (∀ y0 y1 y2 y3 y4 y5, LeO (impl_Complex_text.l0 k y0 y1 y2 y3 y4 y5) (impl_Complex_text.l0 (k + 1) y0 y1 y2 y3 y4 y5)) ∧ (∀ y0 y1 y2 y3 y4 y5 y6 y7 y8 y9, LeO (impl_Complex_text.l1 k y0 y1 y2 y3 y4 y5 y6 y7 y8 y9) (impl_Complex_text.l1 (k + 1) y0 y1 y2 y3 y4 y5 y6 y7 y8 y9))
 | 0 => ⟨fun _ _ _ _ _ _ r h => by simp [impl_Complex_text.l0] at h, fun _ _ _ _ _ _ _ _ _ _ r h => by simp [impl_Complex_text.l1] at h⟩
 | k + 1 => by
  obtain ⟨ih0, ih1⟩ := impl_Complex_text.mono_l k
  refine ⟨?_, ?_⟩
  ·intro y0 y1 y2 y3 y4 y5
   unfold impl_Complex_text.l0
   repeat' first
   | (with_reducible exact ih0 _ _ _ _ _ _)
   | (with_reducible exact ih1 _ _ _ _ _ _ _ _ _ _)
   | (with_reducible exact impl_vertices.mono _ _)
   | (with_reducible exact LeO.refl _)
   | (with_reducible exact LeO.none _)
   | (with_reducible refine LeO.ite ?_ ?_)
   | (with_reducible refine LeO.bind ?_ (fun _ => ?_))
   | exact ih0 _ _ _ _ _ _
   | exact ih1 _ _ _ _ _ _ _ _ _ _
   | exact impl_vertices.mono _ _
   | exact LeO.none _
   | refine LeO.ite ?_ ?_
   | refine LeO.bind ?_ (fun _ => ?_)
  ·intro y0 y1 y2 y3 y4 y5 y6 y7 y8 y9
   unfold impl_Complex_text.l1
   repeat' first
   | (with_reducible exact ih0 _ _ _ _ _ _)
   | (with_reducible exact ih1 _ _ _ _ _ _ _ _ _ _)
   | (with_reducible exact impl_vertices.mono _ _)
   | (with_reducible exact LeO.refl _)
   | (with_reducible exact LeO.none _)
   | (with_reducible refine LeO.ite ?_ ?_)
   | (with_reducible refine LeO.bind ?_ (fun _ => ?_))
   | exact ih0 _ _ _ _ _ _
   | exact ih1 _ _ _ _ _ _ _ _ _ _
   | exact impl_vertices.mono _ _
   | exact LeO.none _
   | refine LeO.ite ?_ ?_
   | refine LeO.bind ?_ (fun _ => ?_)
theorem impl_Complex_text.mono : ∀ a0 a1 k, LeO (impl_Complex_text.f k a0 a1) (impl_Complex_text.f (k + 1) a0 a1) := by
 intro a0 a1 k
 obtain ⟨ih0, ih1⟩ := impl_Complex_text.mono_l k
 unfold impl_Complex_text.f
 repeat' first
   | (with_reducible exact ih0 _ _ _ _ _ _)
   | (with_reducible exact ih1 _ _ _ _ _ _ _ _ _ _)
   | (with_reducible exact impl_vertices.mono _ _)
   | (with_reducible exact LeO.refl _)
   | (with_reducible exact LeO.none _)
   | (with_reducible refine LeO.ite ?_ ?_)
   | (with_reducible refine LeO.bind ?_ (fun _ => ?_))
   | exact ih0 _ _ _ _ _ _
   | exact ih1 _ _ _ _ _ _ _ _ _ _
   | exact impl_vertices.mono _ _
   | exact LeO.none _
   | refine LeO.ite ?_ ?_
   | refine LeO.bind ?_ (fun _ => ?_)
set_option maxHeartbeats 8000000 in
set_option maxRecDepth 100000 in
theorem impl_Complex_text.calls (k : Nat) (a0_0 : Int) (A0_1 : Option Addr) (c0_1 : Nat) (l0_1 : List Int) (r : ByteArray) (w : World) (hr0_1 : Kd.C (Kd.int .i64) w A0_1 l0_1.length l0_1) (hc0_1 : l0_1.length ≤ c0_1) (h : impl_Complex_text.f k a0_0 l0_1 = some r) :
  Calls Tryd.prog 23 #[.agg #[.int .i64 a0_0, .slice A0_1 l0_1.length c0_1]] w fun e w' => e = .returned (.string r) ∧ Below w.heap.size w w' := by
 have hu24 := Tryd.underlying24
 have HR0_1 := Aside0.mk hr0_1
 have HC0_1 := Aside0.mk hc0_1
 clear hr0_1 hc0_1
 have HB := Aside0.mk (Below.refl w.heap.size w)
 have H : ((impl_Complex_facets.f a0_0 l0_1).bind fun t102 => (impl_Complex_text.l0 k ([] : List ByteArray) t102 (t102.length : Int) 0 a0_0 l0_1)) = some r := h
 clear h
 replace H := Option.bind_eq_some_iff.mp H
 obtain ⟨t102, A20, H⟩ := H
 replace H : (impl_Complex_text.l0 k ([] : List ByteArray) t102 (t102.length : Int) 0 a0_0 l0_1) = some r := H
 have A2 := Aside0.mk A20
 clear A20
 have H' := Aside0.mk H
 clear H
 go_enter Tryd.func23, Tryd.ntmps23
 go_wp2_with (first | ((with_reducible refine gate_dst (N := 1) rfl ?_); refine box_event ?hg (N := 1) ?hd (cs := #[.int .i64 a0_0, .slice A0_1 l0_1.length c0_1]) (t := 24) ?hr ?_; (case hd => rfl); (case hg => rfl); (case hr => first | (go_simp; done) | (go_simp; rfl)); intro gb101 hg w3 hbox hb; have n0_ := Aside0.mk (below_step (by repeat (first | (with_reducible first | exact HB.out | apply below_alloc | apply pw_below_drewN | apply below_drew1) | exact HB.out)) hb); have n1_ := Aside0.mk (hbox); have n2_ := Aside0.mk ((by rw [hg]; exact (below_size (by repeat (first | (with_reducible first | exact HB.out | apply below_alloc | apply pw_below_drewN | apply below_drew1) | exact HB.out))) : w.heap.size ≤ gb101)); have n3_ := Aside0.mk ((by rw [hg]; exact (below_size (by repeat (first | (with_reducible first | exact HB.out | apply below_alloc | apply pw_below_drewN | apply below_drew1) | exact HB.out))) : w.heap.size ≤ gb101)); clear HB; have HB := n0_; have BK101 := n1_; have GW101 := n2_; have GE101 := n3_; clear n0_ n1_ n2_ n3_; clear hb hbox hg; have hcz4_0 : w3.cell? ⟨gb101, 0, none⟩ = some (.int .i64 a0_0) := (blk_cell BK101.out 0).trans rfl; have hcz4_1 : w3.cell? ⟨gb101, 1, none⟩ = some (.slice A0_1 l0_1.length c0_1) := (blk_cell BK101.out 1).trans rfl; have hfz4_0 := blk_frozen BK101.out 0; have hfz4_1 := blk_frozen BK101.out 1) | ((with_reducible refine gate_callee (f := 51) rfl ?_); refine goesL_ (some 10) rfl rfl Tryd.func51 (by kernel_rfl) rfl #[.agg #[.int .i64 a0_0, .slice A0_1 l0_1.length c0_1]] rfl (by (try simp only [List.map_toArray, List.map_cons, List.map_nil]); first | done | rfl | (simp only [List.length_drop, List.length_take]; rfl)) ?_; (with_reducible refine (impl_Complex_facets.calls a0_0 _ _ l0_1 t102 _ ?side1 ?side2 A2.out).mono ?_); (case side1 => repeat (first | exact (Kd.C_below HR0_1.out HB.out) | (with_reducible refine Kd.C_alloc ?_ _) | (with_reducible refine Kd.C_drewN ?_ _) | (with_reducible refine Kd.C_drew ?_))); (case side2 => exact HC0_1.out); rintro e w5 ⟨v103, rfl, ho0, hb⟩; refine ⟨_, rfl, ?_⟩; have n0_ := Aside0.mk (Kd.R_lower ho0 (below_size (by repeat (first | (with_reducible first | exact HB.out | apply below_alloc | apply pw_below_drewN | apply below_drew1 | refine below_set ?_ GE101.out) | exact HB.out)))); have n1_ := Aside0.mk (blk_below (g := gb101) (o := .cells #[.int .i64 a0_0, .slice A0_1 l0_1.length c0_1] 24 (0, 0)) (by (with_reducible repeat (first | refine blk_drewN ?_ _ | refine blk_drew ?_ | refine blk_alloc ?_ _)); exact BK101.out) hb); have n2_ := Aside0.mk (below_step (by repeat (first | (with_reducible first | exact HB.out | apply below_alloc | apply pw_below_drewN | apply below_drew1 | refine below_set ?_ GE101.out) | exact HB.out)) hb); clear BK101; clear HB; have HO104 := n0_; have BK101 := n1_; have HB := n2_; clear n0_ n1_ n2_; (try clear hb); (try clear hb2); (try clear hk); (try clear hi); (try clear ho0); obtain ⟨Ao6, co6, eo6⟩ := Kd.R_slice HO104.out; subst eo6))
 go_loopg [3, 12] k (fun kq v3 v12 w' => ∃ (x3_1 : List ByteArray) (x12_1 : Int), v12 = .int .i64 x12_1 ∧ Aside0 (impl_Complex_text.l0 kq x3_1 t102 (t102.length : Int) x12_1 a0_0 l0_1 = some r) ∧ Aside0 (kq ≤ k) ∧ Aside0 (Kd.R Kd.string 9 w' w.heap.size (fun _ => True) v3 x3_1) ∧ Aside0 (Kd.R (Kd.int .i64) 2 w' w.heap.size (fun _ => True) (.slice Ao6 t102.length co6) t102) ∧ Aside0 (w'.heap[gb101]? = some (.cells #[.int .i64 a0_0, (.slice A0_1 l0_1.length c0_1)] 24 (0, 0))) ∧ Aside0 (Below w.heap.size w w'))
 case atStart => exact ⟨(([] : List ByteArray)), (0), (by first | rfl | (simp; done) | (simp [*]; done)), H', ⟨Nat.le_refl _⟩, ⟨by first | exact Kd.R_nil _ _ _ _ _ | exact Kd.N_nil _ _ _ _ _ | exact Kd.V_nil _ _ _ _ _ | exact Kd.Q_nil _ _ _ _ _ | exact Kd.S_nil _ _ _ _ _⟩, ⟨by (with_reducible repeat (first | apply Kd.R_alloc | apply Kd.R_drewN | apply Kd.R_drew)); exact HO104.out⟩, ⟨by (with_reducible repeat (first | refine blk_drewN ?_ _ | refine blk_drew ?_ | refine blk_alloc ?_ _)); exact BK101.out⟩, ⟨by repeat (first | (with_reducible first | exact HB.out | apply below_alloc | apply pw_below_drewN | apply below_drew1 | refine below_set ?_ GE101.out) | exact HB.out)⟩⟩
 case round =>
  clear H'
  try clear c2
  try clear p2
  try clear c5
  try clear hcz4_0
  try clear hcz4_1
  try clear hfz4_0
  try clear hfz4_1
  obtain ⟨x3_1, x12_1, rfl, HA, HK1, HO_3, HO_10, BK101, HB⟩ := hrel
  cases gk with
  | zero => exact absurd HA.out (by simp [impl_Complex_text.l0])
  | succ k1 =>
   have H := HA.out
   clear HA
   simp only [impl_Complex_text.l0] at H
   by_cases c7 : x12_1 < (t102.length : Int)
   ·rw [if_pos c7] at H
    have c7b0 : decide (x12_1 < (t102.length : Int)) = true := decide_eq_true c7
    clear c7
    by_cases c8 : 0 ≤ x12_1
    ·rw [if_pos c8] at H
     have c8b0 : decide (0 ≤ x12_1) = true := decide_eq_true c8
     clear c8
     by_cases c9 : x12_1 < (t102.length : Int)
     ·rw [if_pos c9] at H
      have c9b0 : decide (x12_1 < (t102.length : Int)) = true := decide_eq_true c9
      clear c9
      replace H := Option.bind_eq_some_iff.mp H
      obtain ⟨t108, A100, H⟩ := H
      replace H : (impl_Complex_text.l1 k1 x3_1 (⟨#[]⟩ : ByteArray) t102 (t102.length : Int) x12_1 t108 (t108.length : Int) 0 a0_0 l0_1) = some r := H
      have A10 := Aside0.mk A100
      clear A100
      have H' := Aside0.mk H
      clear H
      have p107 : 0 ≤ (x12_1 : Int) := of_decide_eq_true (by first | (with_reducible assumption) | assumption)
      have q107 : x12_1 < (t102.length : Int) := of_decide_eq_true (by first | (with_reducible assumption) | assumption)
      obtain ⟨ad107, e107, hx107_0⟩ := Kd.at_int (Kd.R_reads' HO_10.out).2.2 x12_1 p107 q107
      cases e107
      replace p107 := eq_true p107
      replace q107 := eq_true q107
      go_wp2_with (first | ((with_reducible refine gate_callee (f := 52) rfl ?_); refine goesL_ (some 17) rfl rfl Tryd.func52 (by kernel_rfl) rfl #[.int .i64 (rd t102 x12_1)] rfl (by (try simp only [List.map_toArray, List.map_cons, List.map_nil]); first | done | rfl | (simp only [List.length_drop, List.length_take]; rfl)) ?_; (with_reducible refine (impl_vertices.calls k1 (rd t102 x12_1) t108 _ A10.out).mono ?_); rintro e w11 ⟨v109, rfl, ho0, hb⟩; refine ⟨_, rfl, ?_⟩; have n0_ := Aside0.mk (Kd.R_below (by (with_reducible repeat (first | apply Kd.R_alloc | apply Kd.R_drewN | apply Kd.R_drew)); exact HO_3.out) hb); have n1_ := Aside0.mk (Kd.R_elder' (by (with_reducible repeat (first | apply Kd.R_alloc | apply Kd.R_drewN | apply Kd.R_drew)); exact HO_10.out) (Kd.R_base ho0) hb); have n2_ := Aside0.mk (Kd.R_lower (Kd.R_new' ho0 (Kd.R_lt (by (with_reducible repeat (first | apply Kd.R_alloc | apply Kd.R_drewN | apply Kd.R_drew)); exact HO_10.out))) (below_size (by repeat (first | (with_reducible first | exact HB.out | apply below_alloc | apply pw_below_drewN | apply below_drew1 | refine below_set ?_ GE101.out) | exact HB.out)))); have n3_ := Aside0.mk (blk_below (g := gb101) (o := .cells #[.int .i64 a0_0, .slice A0_1 l0_1.length c0_1] 24 (0, 0)) (by (with_reducible repeat (first | refine blk_drewN ?_ _ | refine blk_drew ?_ | refine blk_alloc ?_ _)); exact BK101.out) hb); have n4_ := Aside0.mk (below_step (by repeat (first | (with_reducible first | exact HB.out | apply below_alloc | apply pw_below_drewN | apply below_drew1 | refine below_set ?_ GE101.out) | exact HB.out)) hb); clear HO_3; clear HO_10; clear BK101; clear HB; have HO_3 := n0_; have HO_10 := n1_; have HO110 := n2_; have BK101 := n3_; have HB := n4_; clear n0_ n1_ n2_ n3_ n4_; (try clear hb); (try clear hb2); (try clear hk); (try clear hi); (try clear ho0); obtain ⟨Ao12, co12, eo12⟩ := Kd.R_slice HO110.out; subst eo12))
      go_loopg [6, 19] k1 (fun kq v6 v19 w' => ∃ (x6_2 : ByteArray) (x19_2 : Int), v6 = .string x6_2 ∧ v19 = .int .i64 x19_2 ∧ Aside0 (impl_Complex_text.l1 kq x3_1 x6_2 t102 (t102.length : Int) x12_1 t108 (t108.length : Int) x19_2 a0_0 l0_1 = some r) ∧ Aside0 (kq ≤ k1) ∧ Aside0 (Kd.R Kd.string 9 w' w.heap.size (fun _ => True) u3 x3_1) ∧ Aside0 (Kd.R (Kd.int .i64) 2 w' w.heap.size (fun k_ => some k_ ≠ ((.slice Ao12 t108.length co12) : Value).ownBlock) (.slice (some ad107) t102.length co6) t102) ∧ Aside0 (Kd.R (Kd.int .i64) 2 w' w.heap.size (fun k_ => some k_ ≠ ((.slice (some ad107) t102.length co6) : Value).ownBlock) (.slice Ao12 t108.length co12) t108) ∧ Aside0 (w'.heap[gb101]? = some (.cells #[.int .i64 a0_0, (.slice A0_1 l0_1.length c0_1)] 24 (0, 0))) ∧ Aside0 (Below w.heap.size w w'))
      case atStart => exact ⟨((⟨#[]⟩ : ByteArray)), (0), (by first | rfl | (simp; done) | (simp [*]; done)), (by first | rfl | (simp; done) | (simp [*]; done)), H', ⟨Nat.le_refl _⟩, ⟨by (with_reducible repeat (first | apply Kd.R_alloc | apply Kd.R_drewN | apply Kd.R_drew)); exact HO_3.out⟩, ⟨by (with_reducible repeat (first | apply Kd.R_alloc | apply Kd.R_drewN | apply Kd.R_drew)); exact Kd.R_mono HO_10.out (fun _ hk => hk.2)⟩, ⟨by (with_reducible repeat (first | apply Kd.R_alloc | apply Kd.R_drewN | apply Kd.R_drew)); exact Kd.R_mono HO110.out (fun _ hk => hk.2)⟩, ⟨by (with_reducible repeat (first | refine blk_drewN ?_ _ | refine blk_drew ?_ | refine blk_alloc ?_ _)); exact BK101.out⟩, ⟨by repeat (first | (with_reducible first | exact HB.out | apply below_alloc | apply pw_below_drewN | apply below_drew1 | refine below_set ?_ GE101.out) | exact HB.out)⟩⟩
      case round =>
       clear H'
       try clear p1
       try clear q1
       try clear hx1
       try clear c2
       try clear p2
       try clear c5
       try clear c7
       try clear c7b0
       try clear c8
       try clear c8b0
       try clear c9
       try clear c9b0
       try clear p10
       try clear q10
       try clear hx10
       try clear hcz4_0
       try clear hcz4_1
       try clear hfz4_0
       try clear hfz4_1
       try clear hx107_0
       try clear p107
       try clear p2
       try clear q107
       obtain ⟨x6_2, x19_2, rfl, rfl, HA, HK2, HO_3, HO_10, HO_17, BK101, HB⟩ := hrel
       cases gk with
       | zero => exact absurd HA.out (by simp [impl_Complex_text.l1])
       | succ k2 =>
        have H := HA.out
        clear HA
        simp only [impl_Complex_text.l1] at H
        by_cases c13 : x19_2 < (t108.length : Int)
        ·rw [if_pos c13] at H
         have c13b0 : decide (x19_2 < (t108.length : Int)) = true := decide_eq_true c13
         clear c13
         by_cases c14 : 0 ≤ x19_2
         ·rw [if_pos c14] at H
          have c14b0 : decide (0 ≤ x19_2) = true := decide_eq_true c14
          clear c14
          by_cases c15 : x19_2 < (t108.length : Int)
          ·rw [if_pos c15] at H
           have c15b0 : decide (x19_2 < (t108.length : Int)) = true := decide_eq_true c15
           clear c15
           replace H := Option.bind_eq_some_iff.mp H
           obtain ⟨t112, A160, H⟩ := H
           replace H : (if x6_2.size + t112.size ≤ 9223372036854775807 then (impl_Complex_text.l1 k2 x3_1 (x6_2 ++ t112) t102 (t102.length : Int) x12_1 t108 (t108.length : Int) (wrap64 (x19_2 + 1)) a0_0 l0_1) else (none)) = some r := H
           have A16 := Aside0.mk A160
           clear A160
           by_cases c17 : x6_2.size + t112.size ≤ 9223372036854775807
           ·rw [if_pos c17] at H
            have c17b0 := eq_true c17
            have c17b1 : decide (x6_2.size + t112.size ≤ 9223372036854775807) = true := decide_eq_true c17
            try have c17b2 : (9223372036854775807 < x6_2.size + t112.size) = False := eq_false (Nat.not_lt.2 c17)
            have H' := Aside0.mk H
            clear H
            have p111 : 0 ≤ (x19_2 : Int) := of_decide_eq_true (by first | (with_reducible assumption) | assumption)
            have q111 : x19_2 < (t108.length : Int) := of_decide_eq_true (by first | (with_reducible assumption) | assumption)
            obtain ⟨ad111, e111, hx111_0⟩ := Kd.at_int (Kd.R_reads' HO_17.out).2.2 x19_2 p111 q111
            cases e111
            replace p111 := eq_true p111
            replace q111 := eq_true q111
            go_wp2_with (first | ((with_reducible refine gate_callee (f := 53) rfl ?_); refine goesL_ (some 25) rfl rfl Tryd.func53 (by kernel_rfl) rfl #[.int .i64 (rd t108 x19_2), .int .i64 10] rfl (by (try simp only [List.map_toArray, List.map_cons, List.map_nil]); first | done | rfl | (simp only [List.length_drop, List.length_take]; rfl)) ?_; (with_reducible refine (strconv_FormatInt.calls (rd t108 x19_2) 10 t112 _ A16.out).mono ?_); rintro e w18 ⟨rfl, hb⟩; refine ⟨_, rfl, ?_⟩; have n0_ := Aside0.mk (Kd.R_below (by (with_reducible repeat (first | apply Kd.R_alloc | apply Kd.R_drewN | apply Kd.R_drew)); exact HO_3.out) hb); have n1_ := Aside0.mk (Kd.R_below (by (with_reducible repeat (first | apply Kd.R_alloc | apply Kd.R_drewN | apply Kd.R_drew)); exact HO_10.out) hb); have n2_ := Aside0.mk (Kd.R_below (by (with_reducible repeat (first | apply Kd.R_alloc | apply Kd.R_drewN | apply Kd.R_drew)); exact HO_17.out) hb); have n3_ := Aside0.mk (blk_below (g := gb101) (o := .cells #[.int .i64 a0_0, .slice A0_1 l0_1.length c0_1] 24 (0, 0)) (by (with_reducible repeat (first | refine blk_drewN ?_ _ | refine blk_drew ?_ | refine blk_alloc ?_ _)); exact BK101.out) hb); have n4_ := Aside0.mk (below_step (by repeat (first | (with_reducible first | exact HB.out | apply below_alloc | apply pw_below_drewN | apply below_drew1 | refine below_set ?_ GE101.out) | exact HB.out)) hb); clear HO_3; clear HO_10; clear HO_17; clear BK101; clear HB; have HO_3 := n0_; have HO_10 := n1_; have HO_17 := n2_; have BK101 := n3_; have HB := n4_; clear n0_ n1_ n2_ n3_ n4_; (try clear hb); (try clear hb2); (try clear hk); (try clear hi)))
            go_roundg k2
            case measure => have := HK1.out; have := HK2.out; omega
            case rel => exact ⟨(x6_2 ++ t112), (wrap64 (x19_2 + 1)), (by first | rfl | (simp; done) | (simp [*]; done)), (by first | rfl | (simp; done) | (simp [*]; done)), H', ⟨by have := HK1.out; have := HK2.out; omega⟩, ⟨by (with_reducible repeat (first | apply Kd.R_alloc | apply Kd.R_drewN | apply Kd.R_drew)); exact HO_3.out⟩, ⟨by (with_reducible repeat (first | apply Kd.R_alloc | apply Kd.R_drewN | apply Kd.R_drew)); exact HO_10.out⟩, ⟨by (with_reducible repeat (first | apply Kd.R_alloc | apply Kd.R_drewN | apply Kd.R_drew)); exact HO_17.out⟩, ⟨by (with_reducible repeat (first | refine blk_drewN ?_ _ | refine blk_drew ?_ | refine blk_alloc ?_ _)); exact BK101.out⟩, ⟨by repeat (first | (with_reducible first | exact HB.out | apply below_alloc | apply pw_below_drewN | apply below_drew1 | refine below_set ?_ GE101.out) | exact HB.out)⟩⟩
           ·rw [if_neg c17] at H
            exact absurd H (by simp)
          ·rw [if_neg c15] at H
           exact absurd H (by simp)
         ·rw [if_neg c14] at H
          exact absurd H (by simp)
        ·rw [if_neg c13] at H
         have c13b0 : decide (x19_2 < (t108.length : Int)) = false := decide_eq_false c13
         clear c13
         by_cases c19 : x3_1.length < 8796093022208
         ·rw [if_pos c19] at H
          have LMc19 := Aside0.mk c19
          clear c19
          obtain ⟨y113, hy113⟩ : ∃ y_ : List ByteArray, y_ = (x3_1 ++ [x6_2]) := ⟨_, rfl⟩
          replace H : (impl_Complex_text.l0 k2 y113 t102 (t102.length : Int) (wrap64 (x12_1 + 1)) a0_0 l0_1) = some r := by first | (rw [hy113]; with_reducible exact H) | (have H2_ := (Option.bind_some _ _).symm.trans H; rw [hy113]; with_reducible exact H2_) | (have H2_ := (Option.bind_some _ _).symm.trans H; with_reducible exact H2_) | with_reducible exact H | (rw [hy113]; exact H) | exact H
          have Ny113 := Aside0.mk hy113
          clear hy113
          have H' := Aside0.mk H
          clear H
          go_wp2_with (first | ((with_reducible refine gate_builtin (b := .append) (xs := #[.tmp 28, .tmp 30]) rfl ?_); at_builtin; refine Kd.R_append Kd.string (w0 := w) w.heap.size rfl (.tmp 28) (.tmp 30) 58 9 (.string ⟨#[]⟩) 16 rfl Tryd.underlying58 info9 rfl (by decide) (by omega) u3 x3_1 x6_2 [.string x6_2] (fun _ => True) (fun _ => False) rfl rfl ?aP (fun _ hk => hk.elim) ?aF ?aO ?aB ?aS ?aL ?_; (case aP => exact rfl); (case aB => exact (by repeat (first | (with_reducible first | exact HB.out | apply below_alloc | apply pw_below_drewN | apply below_drew1 | refine below_set ?_ GE101.out) | exact HB.out))); (case aF => exact (fun _ _ => trivial)); (case aO => exact (by (with_reducible repeat (first | apply Kd.R_alloc | apply Kd.R_drewN | apply Kd.R_drew)); exact HO_3.out)); (case aS => exact (below_size (by repeat (first | (with_reducible first | exact HB.out | apply below_alloc | apply pw_below_drewN | apply below_drew1 | refine below_set ?_ GE101.out) | exact HB.out)))); (case aL => have := LMc19.out; omega); intro v114 w20 ho hb hg hat; rw [← Ny113.out] at ho; have n0_ := Aside0.mk (Kd.R_over' (by (with_reducible repeat (first | apply Kd.R_alloc | apply Kd.R_drewN | apply Kd.R_drew)); exact HO_10.out) (Kd.R_typed (by (with_reducible repeat (first | apply Kd.R_alloc | apply Kd.R_drewN | apply Kd.R_drew)); exact HO_3.out)) (by decide) hg); have n1_ := Aside0.mk (Kd.R_over' (by (with_reducible repeat (first | apply Kd.R_alloc | apply Kd.R_drewN | apply Kd.R_drew)); exact HO_17.out) (Kd.R_typed (by (with_reducible repeat (first | apply Kd.R_alloc | apply Kd.R_drewN | apply Kd.R_drew)); exact HO_3.out)) (by decide) hg); have n2_ := Aside0.mk (blk_grown (g := gb101) (o := .cells #[.int .i64 a0_0, .slice A0_1 l0_1.length c0_1] 24 (0, 0)) (by (with_reducible repeat (first | refine blk_drewN ?_ _ | refine blk_drew ?_ | refine blk_alloc ?_ _)); exact BK101.out) hg (Kd.R_ne HO_3.out BK101.out (by decide))); have n3_ := Aside0.mk (hb); have n4_ := Aside0.mk (ho); clear HO_10; clear HO_17; clear BK101; clear HB; clear HO_3; have HO_10 := n0_; have HO_17 := n1_; have BK101 := n2_; have HB := n3_; have HO115 := n4_; clear n0_ n1_ n2_ n3_ n4_; clear ho hb hg hat))
          go_roundg k2
          case measure => have := HK1.out; have := HK2.out; omega
          case rel => exact ⟨(y113), (wrap64 (x12_1 + 1)), (by first | rfl | (simp; done) | (simp [*]; done)), H', ⟨by have := HK1.out; have := HK2.out; omega⟩, ⟨by (with_reducible repeat (first | apply Kd.R_alloc | apply Kd.R_drewN | apply Kd.R_drew)); exact HO115.out⟩, ⟨by (with_reducible repeat (first | apply Kd.R_alloc | apply Kd.R_drewN | apply Kd.R_drew)); exact Kd.R_mono HO_10.out (fun _ hk => trivial)⟩, ⟨by (with_reducible repeat (first | refine blk_drewN ?_ _ | refine blk_drew ?_ | refine blk_alloc ?_ _)); exact BK101.out⟩, ⟨by repeat (first | (with_reducible first | exact HB.out | apply below_alloc | apply pw_below_drewN | apply below_drew1 | refine below_set ?_ GE101.out) | exact HB.out)⟩⟩
         ·rw [if_neg c19] at H
          exact absurd H (by simp)
     ·rw [if_neg c9] at H
      exact absurd H (by simp)
    ·rw [if_neg c8] at H
     exact absurd H (by simp)
   ·rw [if_neg c7] at H
    have c7b0 : decide (x12_1 < (t102.length : Int)) = false := decide_eq_false c7
    clear c7
    replace H := Option.bind_eq_some_iff.mp H
    obtain ⟨t105, A210, H⟩ := H
    replace H : (if t105.size + 1 ≤ 9223372036854775807 then ((strings_Join.f x3_1 (⟨#[44]⟩ : ByteArray)).bind fun t106 => (if (t105 ++ (⟨#[58]⟩ : ByteArray)).size + t106.size ≤ 9223372036854775807 then (some ((t105 ++ (⟨#[58]⟩ : ByteArray)) ++ t106)) else (none))) else (none)) = some r := H
    have A21 := Aside0.mk A210
    clear A210
    by_cases c22 : t105.size + 1 ≤ 9223372036854775807
    ·rw [if_pos c22] at H
     have c22b0 := eq_true c22
     have c22b1 : decide (t105.size + 1 ≤ 9223372036854775807) = true := decide_eq_true c22
     try have c22b2 : (9223372036854775807 < t105.size + 1) = False := eq_false (Nat.not_lt.2 c22)
     replace H := Option.bind_eq_some_iff.mp H
     obtain ⟨t106, A230, H⟩ := H
     replace H : (if (t105 ++ (⟨#[58]⟩ : ByteArray)).size + t106.size ≤ 9223372036854775807 then (some ((t105 ++ (⟨#[58]⟩ : ByteArray)) ++ t106)) else (none)) = some r := H
     have A23 := Aside0.mk A230
     clear A230
     by_cases c24 : (t105 ++ (⟨#[58]⟩ : ByteArray)).size + t106.size ≤ 9223372036854775807
     ·rw [if_pos c24] at H
      have c24b0 := eq_true c24
      have c24b1 : decide ((t105 ++ (⟨#[58]⟩ : ByteArray)).size + t106.size ≤ 9223372036854775807) = true := decide_eq_true c24
      have c24e : t105.size + 1 + t106.size ≤ 9223372036854775807 := by rw [ByteArray.size_append, show (⟨#[58]⟩ : ByteArray).size = 1 from rfl] at c24; exact c24
      have c24b3 := eq_true c24e
      have c24b4 : decide (t105.size + 1 + t106.size ≤ 9223372036854775807) = true := decide_eq_true c24e
      have c24b5 : (9223372036854775807 < t105.size + 1 + t106.size) = False := eq_false (Nat.not_lt.2 c24e)
      have c24s : (⟨#[58]⟩ : ByteArray).size = 1 := rfl
      have c24b6 : (9223372036854775807 < t105.size + (⟨#[58]⟩ : ByteArray).size + t106.size) = False := c24b5
      have c24b7 : (t105.size + (⟨#[58]⟩ : ByteArray).size + t106.size ≤ 9223372036854775807) = True := c24b3
      try have c24b2 : (9223372036854775807 < (t105 ++ (⟨#[58]⟩ : ByteArray)).size + t106.size) = False := eq_false (Nat.not_lt.2 c24)
      obtain rfl := Option.some.inj H
      have hcz25_0 : wr.cell? ⟨gb101, 0, none⟩ = some (.int .i64 a0_0) := (blk_cell BK101.out 0).trans rfl
      have hcz25_1 : wr.cell? ⟨gb101, 1, none⟩ = some (.slice A0_1 l0_1.length c0_1) := (blk_cell BK101.out 1).trans rfl
      have hfz25_0 := blk_frozen BK101.out 0
      have hfz25_1 := blk_frozen BK101.out 1
      go_wp2_with (first | ((with_reducible refine gate_callee (f := 53) rfl ?_); refine goesL_ (some 35) rfl rfl Tryd.func53 (by kernel_rfl) rfl #[.int .i64 a0_0, .int .i64 10] rfl (by (try simp only [List.map_toArray, List.map_cons, List.map_nil]); first | done | rfl | (simp only [List.length_drop, List.length_take]; rfl)) ?_; (with_reducible refine (strconv_FormatInt.calls a0_0 10 t105 _ A21.out).mono ?_); rintro e w26 ⟨rfl, hb⟩; refine ⟨_, rfl, ?_⟩; have n0_ := Aside0.mk (Kd.R_below (by (with_reducible repeat (first | apply Kd.R_alloc | apply Kd.R_drewN | apply Kd.R_drew)); exact HO_3.out) hb); have n1_ := Aside0.mk (Kd.R_below (by (with_reducible repeat (first | apply Kd.R_alloc | apply Kd.R_drewN | apply Kd.R_drew)); exact HO_10.out) hb); have n2_ := Aside0.mk (blk_below (g := gb101) (o := .cells #[.int .i64 a0_0, .slice A0_1 l0_1.length c0_1] 24 (0, 0)) (by (with_reducible repeat (first | refine blk_drewN ?_ _ | refine blk_drew ?_ | refine blk_alloc ?_ _)); exact BK101.out) hb); have n3_ := Aside0.mk (below_step (by repeat (first | (with_reducible first | exact HB.out | apply below_alloc | apply pw_below_drewN | apply below_drew1 | refine below_set ?_ GE101.out) | exact HB.out)) hb); clear HO_3; clear HO_10; clear BK101; clear HB; have HO_3 := n0_; have HO_10 := n1_; have BK101 := n2_; have HB := n3_; clear n0_ n1_ n2_ n3_; (try clear hb); (try clear hb2); (try clear hk); (try clear hi); obtain ⟨Ao27, co27, eo27⟩ := Kd.R_slice HO_3.out; subst eo27) | ((with_reducible refine gate_callee (f := 54) rfl ?_); refine goesL_ (some 38) rfl rfl Tryd.func54 (by kernel_rfl) rfl #[.slice Ao27 x3_1.length co27, .string (⟨#[44]⟩ : ByteArray)] rfl (by (try simp only [List.map_toArray, List.map_cons, List.map_nil]); first | done | rfl | (simp only [List.length_drop, List.length_take]; rfl)) ?_; (with_reducible refine (strings_Join.calls _ _ x3_1 (⟨#[44]⟩ : ByteArray) t106 _ ?side1 ?side2 A23.out).mono ?_); (case side1 => repeat (first | exact (Kd.R_reads' HO_3.out).2.2 | (with_reducible refine Kd.C_alloc ?_ _) | (with_reducible refine Kd.C_drewN ?_ _) | (with_reducible refine Kd.C_drew ?_))); (case side2 => exact (Kd.R_reads' HO_3.out).2.1); rintro e w28 ⟨rfl, hb⟩; refine ⟨_, rfl, ?_⟩; have n0_ := Aside0.mk (Kd.R_below (by (with_reducible repeat (first | apply Kd.R_alloc | apply Kd.R_drewN | apply Kd.R_drew)); exact HO_3.out) hb); have n1_ := Aside0.mk (Kd.R_below (by (with_reducible repeat (first | apply Kd.R_alloc | apply Kd.R_drewN | apply Kd.R_drew)); exact HO_10.out) hb); have n2_ := Aside0.mk (blk_below (g := gb101) (o := .cells #[.int .i64 a0_0, .slice A0_1 l0_1.length c0_1] 24 (0, 0)) (by (with_reducible repeat (first | refine blk_drewN ?_ _ | refine blk_drew ?_ | refine blk_alloc ?_ _)); exact BK101.out) hb); have n3_ := Aside0.mk (below_step (by repeat (first | (with_reducible first | exact HB.out | apply below_alloc | apply pw_below_drewN | apply below_drew1 | refine below_set ?_ GE101.out) | exact HB.out)) hb); clear HO_3; clear HO_10; clear BK101; clear HB; have HO_3 := n0_; have HO_10 := n1_; have BK101 := n2_; have HB := n3_; clear n0_ n1_ n2_ n3_; (try clear hb); (try clear hb2); (try clear hk); (try clear hi)))
      go_ret
      exact ⟨by first | rfl | (simp [errW_none, errW_some] <;> rfl) | (simp [*, errW_none, errW_some] <;> rfl), by repeat (first | (with_reducible first | exact HB.out | apply below_alloc | apply pw_below_drewN | apply below_drew1 | refine below_set ?_ GE101.out) | exact HB.out)⟩
     ·rw [if_neg c24] at H
      exact absurd H (by simp)
    ·rw [if_neg c22] at H
     exact absurd H (by simp)

end Go.Proofs.YtaeabbackmnioaaDoor.D
end

section
/- Written by a program of this session (myprint.py over the kit's print). -/
namespace Go.Proofs.YtaeabbackmnioaaDoor.Q
open Go.RowKit Go.Proofs.YtaeabbackmnioaaDoorW.PrintWords Go.Proofs.YtaeabbackmnioaaDoorW.PrintLast Go.Proofs.YtaeabbackmnioaaDoorW.PrintMore
attribute [local go_sem] max2_int min2_int max_two min_two max_three min_three max_four min_four   -- for this text's walks alone
set_option linter.unusedVariables false
set_option linter.unusedSimpArgs false

/-! ### spec_l01Dec: function 60 -/
def spec_l01Dec.f : Nat → Int → Option (ByteArray)
 | 0, _ => none
 | k + 1, a0 => if a0 < 0 then ((spec_l01Dec.f k (wrap64 (-a0))).bind fun t181 => (if 1 + t181.size ≤ 9223372036854775807 then (some ((⟨#[45]⟩ : ByteArray) ++ t181)) else (none))) else (if a0 < 10 then (some (strOfNums (([(wrap64 (48 + a0)) % 256] : List Int)))) else ((spec_l01Dec.f k (wrap64 (Int.tdiv a0 10))).bind fun t185 => ((some (([(wrap64 (48 + (Int.tmod a0 10))) % 256] : List Int) : List Int)).bind fun y186 => (if t185.size + (strOfNums y186).size ≤ 9223372036854775807 then (some (t185 ++ (strOfNums y186))) else (none)))))
theorem spec_l01Dec.mono_l : ∀ k, (∀ y0, LeO (spec_l01Dec.f k y0) (spec_l01Dec.f (k + 1) y0))
 | 0 => fun _ r h => by simp [spec_l01Dec.f] at h
 | k + 1 => by
  have ih0 := spec_l01Dec.mono_l k
  ·intro y0
   unfold spec_l01Dec.f
   repeat' first
   | (with_reducible exact ih0 _)
   | (with_reducible exact LeO.refl _)
   | (with_reducible exact LeO.none _)
   | (with_reducible refine LeO.ite ?_ ?_)
   | (with_reducible refine LeO.bind ?_ (fun _ => ?_))
   | exact ih0 _
   | exact LeO.none _
   | refine LeO.ite ?_ ?_
   | refine LeO.bind ?_ (fun _ => ?_)
theorem spec_l01Dec.mono : ∀ a0 k, LeO (spec_l01Dec.f k a0) (spec_l01Dec.f (k + 1) a0) := by
 intro a0 k
 have ih0 := spec_l01Dec.mono_l k
 exact ih0 a0
def spec_l01Dec.T5 : Bool × List (List Nat × List Nat) := (true, [([], []), ([0], [0]), ([1], [1]), ([], []), ([3], [3]), ([4], [4]), ([5], [5]), ([6], [6]), ([7], [7]), ([2, 8], [2, 8]), ([9, 2, 0, 1, 2, 3, 4, 5, 6, 7, 8, 9], [9])])
def spec_l01Dec.B5 : List Nat := [0, 1, 3, 0, 8, 24, 56, 120, 248, 511, 1023]
theorem spec_l01Dec.tab5 : rtab .any (opsOf Tryd.f60 5) = spec_l01Dec.T5 := by kernel_rfl
theorem spec_l01Dec.bits5 : waitsOk spec_l01Dec.T5.2 spec_l01Dec.B5 = true := by kernel_rfl
set_option maxHeartbeats 8000000 in
set_option maxRecDepth 100000 in
theorem spec_l01Dec.calls (k : Nat) : ∀ (a0 : Int) (r : ByteArray) (w : World) (h : spec_l01Dec.f k a0 = some r),
  Calls Tryd.prog 60 #[.int .i64 a0] w fun e w' => e = .returned (.string r) ∧ Below w.heap.size w w' := by
 induction k using Nat.strongRecOn with
 | _ k ih =>
 intro a0 r w h
 cases k with
 | zero => exact absurd h (by simp [spec_l01Dec.f])
 | succ k =>
 simp only [spec_l01Dec.f] at h
 have HB := Aside0.mk (Below.refl w.heap.size w)
 have H : (if a0 < 0 then ((spec_l01Dec.f k (wrap64 (-a0))).bind fun t181 => (if 1 + t181.size ≤ 9223372036854775807 then (some ((⟨#[45]⟩ : ByteArray) ++ t181)) else (none))) else (if a0 < 10 then (some (strOfNums (([(wrap64 (48 + a0)) % 256] : List Int)))) else ((spec_l01Dec.f k (wrap64 (Int.tdiv a0 10))).bind fun t185 => ((some (([(wrap64 (48 + (Int.tmod a0 10))) % 256] : List Int) : List Int)).bind fun y186 => (if t185.size + (strOfNums y186).size ≤ 9223372036854775807 then (some (t185 ++ (strOfNums y186))) else (none)))))) = some r := h
 clear h
 by_cases c2 : a0 < 0
 ·rw [if_pos c2] at H
  have c2b0 : decide (a0 < 0) = true := decide_eq_true c2
  clear c2
  replace H := Option.bind_eq_some_iff.mp H
  obtain ⟨t181, A30, H⟩ := H
  replace H : (if 1 + t181.size ≤ 9223372036854775807 then (some ((⟨#[45]⟩ : ByteArray) ++ t181)) else (none)) = some r := H
  have A3 := Aside0.mk A30
  clear A30
  by_cases c4 : 1 + t181.size ≤ 9223372036854775807
  ·rw [if_pos c4] at H
   have c4b0 := eq_true c4
   have c4b1 : decide (1 + t181.size ≤ 9223372036854775807) = true := decide_eq_true c4
   try have c4b2 : (9223372036854775807 < 1 + t181.size) = False := eq_false (Nat.not_lt.2 c4)
   obtain rfl := Option.some.inj H
   go_enter Tryd.func60, Tryd.ntmps60
   go_wp2_with (first | ((with_reducible refine gate_callee (f := 60) rfl ?_); refine goesL_ (some 7) rfl rfl Tryd.func60 (by kernel_rfl) rfl #[.int .i64 (wrap64 (-a0))] rfl (by (try simp only [List.map_toArray, List.map_cons, List.map_nil]); first | done | rfl | (simp only [List.length_drop, List.length_take]; rfl)) ?_; (with_reducible refine (ih k (by omega) (wrap64 (-a0)) t181 _ A3.out).mono ?_); rintro e w5 ⟨rfl, hb⟩; refine ⟨_, rfl, ?_⟩; have n0_ := Aside0.mk (below_step (by repeat (first | (with_reducible first | exact HB.out | apply below_alloc | apply pw_below_drewN | apply below_drew1) | exact HB.out)) hb); clear HB; have HB := n0_; clear n0_; (try clear hb); (try clear hb2); (try clear hk); (try clear hi)))
   go_ret
   exact ⟨by first | rfl | (simp [errW_none, errW_some] <;> rfl) | (simp [*, errW_none, errW_some] <;> rfl), by repeat (first | (with_reducible first | exact HB.out | apply below_alloc | apply pw_below_drewN | apply below_drew1) | exact HB.out)⟩
  ·rw [if_neg c4] at H
   exact absurd H (by simp)
 ·rw [if_neg c2] at H
  have c2b0 : decide (a0 < 0) = false := decide_eq_false c2
  clear c2
  by_cases c6 : a0 < 10
  ·rw [if_pos c6] at H
   have c6b0 : decide (a0 < 10) = true := decide_eq_true c6
   clear c6
   obtain ⟨y182, hy182⟩ : ∃ y_ : List Int, y_ = (([(wrap64 (48 + a0)) % 256] : List Int)) := ⟨_, rfl⟩
   replace H : (some (strOfNums y182)) = some r := by first | (rw [hy182]; with_reducible exact H) | (have H2_ := (Option.bind_some _ _).symm.trans H; rw [hy182]; with_reducible exact H2_) | (have H2_ := (Option.bind_some _ _).symm.trans H; with_reducible exact H2_) | with_reducible exact H | (rw [hy182]; exact H) | exact H
   have Ny182 := Aside0.mk hy182
   clear hy182
   obtain rfl := Option.some.inj H
   go_enter Tryd.func60, Tryd.ntmps60
   go_wp2_with (first | ((with_reducible refine gate_dst (N := 14) rfl ?_); refine Kd.R_lit (Kd.int .u8) _ 5 ?hg (N := 14) ?hd (xs := ([(wrap64 (48 + a0)) % 256] : List Int)) (inner := [.int .u8 ((wrap64 (48 + a0)) % 256)]) (ok := fun _ => True) (okp := fun _ => True) ?hr ?hp (fun _ hk => hk) trivial (Below.refl _ _) (Nat.le_refl _) (by simp) ?_; (case hd => rfl); (case hg => rfl); (case hr => first | (go_simp; done) | (go_simp; rfl)); (case hp => exact (Reps.one (show Kd.M (Kd.int .u8) _ _ _ ((wrap64 (48 + a0)) % 256) [.int .u8 ((wrap64 (48 + a0)) % 256)] from rfl) (Reps.none _ _))); intro v183 w7 ho8 hb hg_ hnew_; clear hg_ hnew_; (first | rw [← Ny182.out] at ho8 | (simp only [Int.reduceToNat] at ho8; rw [← Ny182.out] at ho8)); have n0_ := Aside0.mk (Kd.R_lower ho8 (below_size (by repeat (first | (with_reducible first | exact HB.out | apply below_alloc | apply pw_below_drewN | apply below_drew1) | exact HB.out)))); have n1_ := Aside0.mk (below_step (by repeat (first | (with_reducible first | exact HB.out | apply below_alloc | apply pw_below_drewN | apply below_drew1) | exact HB.out)) hb); clear HB; have HO184 := n0_; have HB := n1_; clear n0_ n1_; clear hb ho8; have hcv9 := own_string (P := Tryd.prog) Tryd.underlying89 Tryd.underlying5 Tryd.underlying9 (Kd.own_of_R HO184.out)))
   go_ret
   exact ⟨by first | rfl | (simp [errW_none, errW_some] <;> rfl) | (simp [*, errW_none, errW_some] <;> rfl), by repeat (first | (with_reducible first | exact HB.out | apply below_alloc | apply pw_below_drewN | apply below_drew1) | exact HB.out)⟩
  ·rw [if_neg c6] at H
   have c6b0 : decide (a0 < 10) = false := decide_eq_false c6
   clear c6
   replace H := Option.bind_eq_some_iff.mp H
   obtain ⟨t185, A100, H⟩ := H
   replace H : ((some (([(wrap64 (48 + (Int.tmod a0 10))) % 256] : List Int) : List Int)).bind fun y186 => (if t185.size + (strOfNums y186).size ≤ 9223372036854775807 then (some (t185 ++ (strOfNums y186))) else (none))) = some r := H
   have A10 := Aside0.mk A100
   clear A100
   obtain ⟨y186, hy186⟩ : ∃ y_ : List Int, y_ = (([(wrap64 (48 + (Int.tmod a0 10))) % 256] : List Int)) := ⟨_, rfl⟩
   replace H : (if t185.size + (strOfNums y186).size ≤ 9223372036854775807 then (some (t185 ++ (strOfNums y186))) else (none)) = some r := by first | (rw [hy186]; with_reducible exact H) | (have H2_ := (Option.bind_some _ _).symm.trans H; rw [hy186]; with_reducible exact H2_) | (have H2_ := (Option.bind_some _ _).symm.trans H; with_reducible exact H2_) | with_reducible exact H | (rw [hy186]; exact H) | exact H
   have Ny186 := Aside0.mk hy186
   clear hy186
   by_cases c11 : t185.size + (strOfNums y186).size ≤ 9223372036854775807
   ·rw [if_pos c11] at H
    have c11b0 := eq_true c11
    have c11b1 : decide (t185.size + (strOfNums y186).size ≤ 9223372036854775807) = true := decide_eq_true c11
    try have c11b2 : (9223372036854775807 < t185.size + (strOfNums y186).size) = False := eq_false (Nat.not_lt.2 c11)
    obtain rfl := Option.some.inj H
    go_enter Tryd.func60, Tryd.ntmps60
    try go_wp2
    have n0_ := Aside0.mk (below_drew1 HB.out)
    clear HB
    have HB := n0_
    clear n0_
    refine start_ (n := 11) (S := fun w' => True) (ds := []) (ar 0 11) (by kernel_rfl) rfl rfl trivial (fun hHeld => ?_); refine with_tabW spec_l01Dec.tab5 spec_l01Dec.bits5 (fun HT_ HW_ => ?_)
    generalize w.drew = w12 at HB hHeld ⊢
    refine pure_ (i := 0) (N := some 16) (v := ?_) (a' := ?_) (ar 1 10) rfl rfl (any_of HT_.out (by kernel_rfl)) hh_ (Or.inl ⟨by rfl, ?_⟩) ?_ ?_; rotate_left; (intro w'; go_simp; with_reducible rfl); rotate_left; · simp only [nm_]; rfl
    refine pure_ (i := 1) (N := some 17) (v := ?_) (a' := ?_) (ar 2 9) rfl rfl (any_of HT_.out (by kernel_rfl)) hh_ (Or.inl ⟨by rfl, ?_⟩) ?_ ?_; rotate_left; (intro w'; go_simp; with_reducible rfl); rotate_left; · simp only [nm_]; rfl
    refine pure_ (i := 3) (N := some 19) (v := ?_) (a' := ?_) #[U,U,O,U,O,O,O,O,O,O,O] rfl rfl (any_of HT_.out (by kernel_rfl)) hh_ (Or.inl ⟨by rfl, ?_⟩) ?_ ?_; rotate_left; (intro w'; go_simp; with_reducible rfl); rotate_left; · simp only [nm_]; rfl
    refine pure_ (i := 4) (N := some 20) (v := ?_) (a' := ?_) #[U,U,O,U,U,O,O,O,O,O,O] rfl rfl (any_of HT_.out (by kernel_rfl)) hh_ (Or.inl ⟨by rfl, ?_⟩) ?_ ?_; rotate_left; (intro w'; go_simp; with_reducible rfl); rotate_left; · simp only [nm_]; rfl
    refine pure_ (i := 5) (N := some 21) (v := ?_) (a' := ?_) #[U,U,O,U,U,U,O,O,O,O,O] rfl rfl (any_of HT_.out (by kernel_rfl)) hh_ (Or.inl ⟨by rfl, ?_⟩) ?_ ?_; rotate_left; (intro w'; go_simp; with_reducible rfl); rotate_left; · simp only [nm_]; rfl
    refine pure_ (i := 6) (N := some 22) (v := ?_) (a' := ?_) #[U,U,O,U,U,U,U,O,O,O,O] rfl rfl (any_of HT_.out (by kernel_rfl)) hh_ (Or.inl ⟨by rfl, ?_⟩) ?_ ?_; rotate_left; (intro w'; go_simp; with_reducible rfl); rotate_left; · simp only [nm_]; rfl
    refine join_ (σ := Value) 2 (ar 9 2) (fun s_ => [(18, .string t185), (23, s_), (24, .string (strOfNums y186))]) (fun s_ w' => (Kd.R (Kd.int .u8) 5 w' w.heap.size (fun _ => True) s_ y186) ∧ (Below w.heap.size w w')) ?_ ?_
    rotate_left
    ·intro hCont
     refine two_ (i := 2) (j := 7) (Ni := some 18) (Nj := some 23) (ar 7 4) #[U,U,O,U,U,U,U,U,O,O,O] rfl rfl rfl rfl (two_of HT_.out (by kernel_rfl)) (by decide) (by decide) (fun K hK => ?_) (fun K hK => ?_)
     ·skip
      refine goes_ Tryd.func60 (by kernel_rfl) rfl #[.int .i64 (wrap64 (Int.tdiv a0 10))] (by rfl) rfl rfl (by (try simp only [List.map_toArray, List.map_cons, List.map_nil]); first | done | rfl | (simp only [List.length_drop, List.length_take]; rfl)) ?_
      with_reducible refine (ih k (by omega) (wrap64 (Int.tdiv a0 10)) t185 _ A10.out).mono ?_
      rintro e w13 ⟨rfl, hb⟩
      refine ⟨_, rfl, ?_⟩
      have n0_ := Aside0.mk (below_step (by repeat (first | (with_reducible first | exact HB.out | apply below_alloc | apply pw_below_drewN | apply below_drew1) | exact HB.out)) hb)
      clear HB
      have HB := n0_
      clear n0_
      (try clear hb)
      (try clear hb2)
      (try clear hk)
      (try clear hi)
      refine hK.out _ _ trivial (fun hHeld => ?_)
      clear hK K
      refine norm_ (a' := ?_) ?_ ?_
      rotate_left
      ·show Act.put _ (some 18) _ = _
       simp only [nm_]
       rfl
      refine one_ (i := 7) (N := some 23) (ar 8 3) rfl rfl (one_of HT_.out (by kernel_rfl)) (by decide) (fun K hK => ?_)
      refine Kd.R_lit_step (Kd.int .u8) _ 5 ?hg (N := 23) ?hd (xs := ([(wrap64 (48 + (Int.tmod a0 10))) % 256] : List Int)) (inner := [.int .u8 ((wrap64 (48 + (Int.tmod a0 10))) % 256)]) (ok := fun _ => True) (okp := fun _ => True) ?hr ?hp (fun _ hk => hk) trivial (Below.refl _ _) (Nat.le_refl _) (by simp) ?_; (case hd => rfl); (case hg => rfl); (case hr => first | (go_simp; done) | (go_simp; rfl)); (case hp => exact (Reps.one (show Kd.M (Kd.int .u8) _ _ _ ((wrap64 (48 + (Int.tmod a0 10))) % 256) [.int .u8 ((wrap64 (48 + (Int.tmod a0 10))) % 256)] from rfl) (Reps.none _ _)))
      intro v187 w14 ho15 hb hg_ hnew_
      clear hg_ hnew_
      (first | rw [← Ny186.out] at ho15 | (simp only [Int.reduceToNat] at ho15; rw [← Ny186.out] at ho15))
      have n0_ := Aside0.mk (Kd.R_lower ho15 (below_size (by repeat (first | (with_reducible first | exact HB.out | apply below_alloc | apply pw_below_drewN | apply below_drew1) | exact HB.out))))
      have n1_ := Aside0.mk (below_step (by repeat (first | (with_reducible first | exact HB.out | apply below_alloc | apply pw_below_drewN | apply below_drew1) | exact HB.out)) hb)
      clear HB
      have HO188 := n0_
      have HB := n1_
      clear n0_ n1_
      clear hb ho15
      refine hK.out _ _ trivial (fun hHeld => ?_)
      clear hK K
      refine norm_ (a' := ?_) ?_ ?_
      rotate_left
      ·show Act.put _ (some 23) _ = _
       simp only [nm_]
       rfl
      refine one_ (i := 8) (N := some 24) (ar 9 2) rfl rfl (one_of HT_.out (by kernel_rfl)) (by decide) (fun K hK => ?_)
      have hcv16 := own_string (P := Tryd.prog) Tryd.underlying89 Tryd.underlying5 Tryd.underlying9 (Kd.own_of_R HO188.out)
      refine value_ (w1 := ?_) (v := ?_) (by rfl) rfl ?_ ?_
      rotate_left 2
      ·go_simp
       constructor
       ·rfl
       ·rfl
      clear hcv16
      refine hK.out _ _ trivial (fun hHeld => ?_)
      clear hK K
      refine norm_ (a' := ?_) ?_ ?_
      rotate_left
      ·show Act.put _ (some 24) _ = _
       simp only [nm_]
       rfl
      exact norm_ (by simp only [putAll, Act.put, List.setIfInBounds_toArray, List.set_cons_zero, List.set_cons_succ]) (hCont (v187) _ ⟨(by (with_reducible repeat (first | apply Kd.R_alloc | apply Kd.R_drewN | apply Kd.R_drew)); exact HO188.out), (by repeat (first | (with_reducible first | exact HB.out | apply below_alloc | apply pw_below_drewN | apply below_drew1) | exact HB.out))⟩)
     ·skip
      refine Kd.R_lit_step (Kd.int .u8) _ 5 ?hg (N := 23) ?hd (xs := ([(wrap64 (48 + (Int.tmod a0 10))) % 256] : List Int)) (inner := [.int .u8 ((wrap64 (48 + (Int.tmod a0 10))) % 256)]) (ok := fun _ => True) (okp := fun _ => True) ?hr ?hp (fun _ hk => hk) trivial (Below.refl _ _) (Nat.le_refl _) (by simp) ?_; (case hd => rfl); (case hg => rfl); (case hr => first | (go_simp; done) | (go_simp; rfl)); (case hp => exact (Reps.one (show Kd.M (Kd.int .u8) _ _ _ ((wrap64 (48 + (Int.tmod a0 10))) % 256) [.int .u8 ((wrap64 (48 + (Int.tmod a0 10))) % 256)] from rfl) (Reps.none _ _)))
      intro v187 w13 ho14 hb hg_ hnew_
      clear hg_ hnew_
      (first | rw [← Ny186.out] at ho14 | (simp only [Int.reduceToNat] at ho14; rw [← Ny186.out] at ho14))
      have n0_ := Aside0.mk (Kd.R_lower ho14 (below_size (by repeat (first | (with_reducible first | exact HB.out | apply below_alloc | apply pw_below_drewN | apply below_drew1) | exact HB.out))))
      have n1_ := Aside0.mk (below_step (by repeat (first | (with_reducible first | exact HB.out | apply below_alloc | apply pw_below_drewN | apply below_drew1) | exact HB.out)) hb)
      clear HB
      have HO188 := n0_
      have HB := n1_
      clear n0_ n1_
      clear hb ho14
      refine hK.out _ _ trivial (fun hHeld => ?_)
      clear hK K
      refine norm_ (a' := ?_) ?_ ?_
      rotate_left
      ·show Act.put _ (some 23) _ = _
       simp only [nm_]
       rfl
      refine two_ (i := 2) (j := 8) (Ni := some 18) (Nj := some 24) (ar 8 3) #[U,U,O,U,U,U,U,U,U,O,O] rfl rfl rfl rfl (two_of HT_.out (by kernel_rfl)) (by decide) (by decide) (fun K hK => ?_) (fun K hK => ?_)
      ·skip
       refine goes_ Tryd.func60 (by kernel_rfl) rfl #[.int .i64 (wrap64 (Int.tdiv a0 10))] (by rfl) rfl rfl (by (try simp only [List.map_toArray, List.map_cons, List.map_nil]); first | done | rfl | (simp only [List.length_drop, List.length_take]; rfl)) ?_
       with_reducible refine (ih k (by omega) (wrap64 (Int.tdiv a0 10)) t185 _ A10.out).mono ?_
       rintro e w15 ⟨rfl, hb⟩
       refine ⟨_, rfl, ?_⟩
       have n0_ := Aside0.mk (Kd.R_below (by (with_reducible repeat (first | apply Kd.R_alloc | apply Kd.R_drewN | apply Kd.R_drew)); exact HO188.out) hb)
       have n1_ := Aside0.mk (below_step (by repeat (first | (with_reducible first | exact HB.out | apply below_alloc | apply pw_below_drewN | apply below_drew1) | exact HB.out)) hb)
       clear HO188
       clear HB
       have HO188 := n0_
       have HB := n1_
       clear n0_ n1_
       (try clear hb)
       (try clear hb2)
       (try clear hk)
       (try clear hi)
       refine hK.out _ _ trivial (fun hHeld => ?_)
       clear hK K
       refine norm_ (a' := ?_) ?_ ?_
       rotate_left
       ·show Act.put _ (some 18) _ = _
        simp only [nm_]
        rfl
       refine one_ (i := 8) (N := some 24) (ar 9 2) rfl rfl (one_of HT_.out (by kernel_rfl)) (by decide) (fun K hK => ?_)
       have hcv16 := own_string (P := Tryd.prog) Tryd.underlying89 Tryd.underlying5 Tryd.underlying9 (Kd.own_of_R HO188.out)
       refine value_ (w1 := ?_) (v := ?_) (by rfl) rfl ?_ ?_
       rotate_left 2
       ·go_simp
        constructor
        ·rfl
        ·rfl
       clear hcv16
       refine hK.out _ _ trivial (fun hHeld => ?_)
       clear hK K
       refine norm_ (a' := ?_) ?_ ?_
       rotate_left
       ·show Act.put _ (some 24) _ = _
        simp only [nm_]
        rfl
       exact norm_ (by simp only [putAll, Act.put, List.setIfInBounds_toArray, List.set_cons_zero, List.set_cons_succ]) (hCont (v187) _ ⟨(by (with_reducible repeat (first | apply Kd.R_alloc | apply Kd.R_drewN | apply Kd.R_drew)); exact HO188.out), (by repeat (first | (with_reducible first | exact HB.out | apply below_alloc | apply pw_below_drewN | apply below_drew1) | exact HB.out))⟩)
      ·skip
       have hcv15 := own_string (P := Tryd.prog) Tryd.underlying89 Tryd.underlying5 Tryd.underlying9 (Kd.own_of_R HO188.out)
       refine value_ (w1 := ?_) (v := ?_) (by rfl) rfl ?_ ?_
       rotate_left 2
       ·go_simp
        constructor
        ·rfl
        ·rfl
       clear hcv15
       refine hK.out _ _ trivial (fun hHeld => ?_)
       clear hK K
       refine norm_ (a' := ?_) ?_ ?_
       rotate_left
       ·show Act.put _ (some 24) _ = _
        simp only [nm_]
        rfl
       refine one_ (i := 2) (N := some 18) (ar 9 2) rfl rfl (one_of HT_.out (by kernel_rfl)) (by decide) (fun K hK => ?_)
       refine goes_ Tryd.func60 (by kernel_rfl) rfl #[.int .i64 (wrap64 (Int.tdiv a0 10))] (by rfl) rfl rfl (by (try simp only [List.map_toArray, List.map_cons, List.map_nil]); first | done | rfl | (simp only [List.length_drop, List.length_take]; rfl)) ?_
       with_reducible refine (ih k (by omega) (wrap64 (Int.tdiv a0 10)) t185 _ A10.out).mono ?_
       rintro e w16 ⟨rfl, hb⟩
       refine ⟨_, rfl, ?_⟩
       have n0_ := Aside0.mk (Kd.R_below (by (with_reducible repeat (first | apply Kd.R_alloc | apply Kd.R_drewN | apply Kd.R_drew)); exact HO188.out) hb)
       have n1_ := Aside0.mk (below_step (by repeat (first | (with_reducible first | exact HB.out | apply below_alloc | apply pw_below_drewN | apply below_drew1) | exact HB.out)) hb)
       clear HO188
       clear HB
       have HO188 := n0_
       have HB := n1_
       clear n0_ n1_
       (try clear hb)
       (try clear hb2)
       (try clear hk)
       (try clear hi)
       refine hK.out _ _ trivial (fun hHeld => ?_)
       clear hK K
       refine norm_ (a' := ?_) ?_ ?_
       rotate_left
       ·show Act.put _ (some 18) _ = _
        simp only [nm_]
        rfl
       exact norm_ (by simp only [putAll, Act.put, List.setIfInBounds_toArray, List.set_cons_zero, List.set_cons_succ]) (hCont (v187) _ ⟨(by (with_reducible repeat (first | apply Kd.R_alloc | apply Kd.R_drewN | apply Kd.R_drew)); exact HO188.out), (by repeat (first | (with_reducible first | exact HB.out | apply below_alloc | apply pw_below_drewN | apply below_drew1) | exact HB.out))⟩)
    rintro v187 w17 ⟨h0_, h1_⟩
    have n0_ : Aside0 (Kd.R (Kd.int .u8) 5 w17 w.heap.size (fun _ => True) v187 y186) := ⟨h0_⟩
    have n1_ : Aside0 (Below w.heap.size w w17) := ⟨h1_⟩
    clear HB
    clear h0_ h1_
    have HO188 := n0_
    have HB := n1_
    clear n0_ n1_
    have hHeld := trivial
    refine norm_ (a' := ?_) ?_ ?_
    rotate_left; · simp only [putAll, Act.put, List.setIfInBounds_toArray, List.set_cons_zero, List.set_cons_succ]; rfl
    refine pure_ (i := 9) (N := some 25) (v := ?_) (a' := ?_) (ar 10 1) rfl rfl (any_of HT_.out (by kernel_rfl)) hh_ (Or.inl ⟨by rfl, ?_⟩) ?_ ?_; rotate_left; (intro w'; go_simp; with_reducible rfl); rotate_left; · simp only [nm_]; rfl
    refine pure_ (i := 10) (N := some 2) (v := ?_) (a' := ?_) (ar 11 0) rfl rfl (any_of HT_.out (by kernel_rfl)) hh_ (Or.inl ⟨by rfl, ?_⟩) ?_ ?_; rotate_left; (intro w'; go_simp; with_reducible rfl); rotate_left; · simp only [nm_]; rfl
    refine done_ (done_of HT_.out (by kernel_rfl)) ?_
    try go_wp2
    go_ret
    exact ⟨by first | rfl | (simp [errW_none, errW_some] <;> rfl) | (simp [*, errW_none, errW_some] <;> rfl), by repeat (first | (with_reducible first | exact HB.out | apply below_alloc | apply pw_below_drewN | apply below_drew1) | exact HB.out)⟩
   ·rw [if_neg c11] at H
    exact absurd H (by simp)

end Go.Proofs.YtaeabbackmnioaaDoor.Q
end

section
/- Written by a program of this session (myprint.py over the kit's print). -/
namespace Go.Proofs.YtaeabbackmnioaaDoor.Q
open Go.RowKit Go.Proofs.YtaeabbackmnioaaDoorW.PrintWords Go.Proofs.YtaeabbackmnioaaDoorW.PrintLast Go.Proofs.YtaeabbackmnioaaDoorW.PrintMore
attribute [local go_sem] max2_int min2_int max_two min_two max_three min_three max_four min_four   -- for this text's walks alone
set_option linter.unusedVariables false
set_option linter.unusedSimpArgs false

/-! ### spec_l01Digits: function 62 -/
def spec_l01Digits.l0 : Nat → Int → ByteArray → Int → Option (ByteArray)
 | 0, _, _, _ => none
 | k + 1, x0, x3, x4 => if x4 < 10 then (if 0 ≤ (IntKind.u64.wrap (x4)) then (if (Go.bits .and .i64 (shr .i64 x0 (IntKind.u64.wrap (x4))) 1) = 1 then ((spec_l01Dec.f k x4).bind fun t213 => (if x3.size + t213.size ≤ 9223372036854775807 then (spec_l01Digits.l0 k x0 (x3 ++ t213) (wrap64 (x4 + 1))) else (none))) else (spec_l01Digits.l0 k x0 x3 (wrap64 (x4 + 1)))) else (none)) else (some x3)
def spec_l01Digits.f (k : Nat) (a0 : Int) : Option (ByteArray) := spec_l01Digits.l0 k a0 (⟨#[]⟩ : ByteArray) 0
theorem spec_l01Digits.mono_l : ∀ k, (∀ y0 y1 y2, LeO (spec_l01Digits.l0 k y0 y1 y2) (spec_l01Digits.l0 (k + 1) y0 y1 y2))
 | 0 => fun _ _ _ r h => by simp [spec_l01Digits.l0] at h
 | k + 1 => by
  have ih0 := spec_l01Digits.mono_l k
  ·intro y0 y1 y2
   unfold spec_l01Digits.l0
   repeat' first
   | (with_reducible exact ih0 _ _ _)
   | (with_reducible exact spec_l01Dec.mono _ _)
   | (with_reducible exact LeO.refl _)
   | (with_reducible exact LeO.none _)
   | (with_reducible refine LeO.ite ?_ ?_)
   | (with_reducible refine LeO.bind ?_ (fun _ => ?_))
   | exact ih0 _ _ _
   | exact spec_l01Dec.mono _ _
   | exact LeO.none _
   | refine LeO.ite ?_ ?_
   | refine LeO.bind ?_ (fun _ => ?_)
theorem spec_l01Digits.mono : ∀ a0 k, LeO (spec_l01Digits.f k a0) (spec_l01Digits.f (k + 1) a0) := by
 intro a0 k
 have ih0 := spec_l01Digits.mono_l k
 unfold spec_l01Digits.f
 repeat' first
   | (with_reducible exact ih0 _ _ _)
   | (with_reducible exact spec_l01Dec.mono _ _)
   | (with_reducible exact LeO.refl _)
   | (with_reducible exact LeO.none _)
   | (with_reducible refine LeO.ite ?_ ?_)
   | (with_reducible refine LeO.bind ?_ (fun _ => ?_))
   | exact ih0 _ _ _
   | exact spec_l01Dec.mono _ _
   | exact LeO.none _
   | refine LeO.ite ?_ ?_
   | refine LeO.bind ?_ (fun _ => ?_)
set_option maxHeartbeats 8000000 in
set_option maxRecDepth 100000 in
theorem spec_l01Digits.calls (k : Nat) (a0 : Int) (r : ByteArray) (w : World) (h : spec_l01Digits.f k a0 = some r) :
  Calls Tryd.prog 62 #[.int .i64 a0] w fun e w' => e = .returned (.string r) ∧ Below w.heap.size w w' := by
 have HB := Aside0.mk (Below.refl w.heap.size w)
 have H : (spec_l01Digits.l0 k a0 (⟨#[]⟩ : ByteArray) 0) = some r := h
 clear h
 have H' := Aside0.mk H
 clear H
 go_enter Tryd.func62, Tryd.ntmps62
 go_wp2
 go_loopg [3, 4] k (fun kq v3 v4 w' => ∃ (x3_1 : ByteArray) (x4_1 : Int), v3 = .string x3_1 ∧ v4 = .int .i64 x4_1 ∧ Aside0 (spec_l01Digits.l0 kq a0 x3_1 x4_1 = some r) ∧ Aside0 (kq ≤ k) ∧ Aside0 (Below w.heap.size w w'))
 case atStart => exact ⟨((⟨#[]⟩ : ByteArray)), (0), (by first | rfl | (simp; done) | (simp [*]; done)), (by first | rfl | (simp; done) | (simp [*]; done)), H', ⟨Nat.le_refl _⟩, ⟨by repeat (first | (with_reducible first | exact HB.out | apply below_alloc | apply pw_below_drewN | apply below_drew1) | exact HB.out)⟩⟩
 case round =>
  clear H'
  obtain ⟨x3_1, x4_1, rfl, rfl, HA, HK1, HB⟩ := hrel
  cases gk with
  | zero => exact absurd HA.out (by simp [spec_l01Digits.l0])
  | succ k1 =>
   have H := HA.out
   clear HA
   simp only [spec_l01Digits.l0] at H
   by_cases c2 : x4_1 < 10
   ·rw [if_pos c2] at H
    have c2b0 : decide (x4_1 < 10) = true := decide_eq_true c2
    clear c2
    obtain ⟨ji3, hji3⟩ : ∃ j_ : Int, (IntKind.u64.wrap (x4_1)) = j_ := ⟨_, rfl⟩
    replace H : (if 0 ≤ (ji3) then (if (Go.bits .and .i64 (shr .i64 a0 (ji3)) 1) = 1 then ((spec_l01Dec.f k1 x4_1).bind fun t213 => (if x3_1.size + t213.size ≤ 9223372036854775807 then (spec_l01Digits.l0 k1 a0 (x3_1 ++ t213) (wrap64 (x4_1 + 1))) else (none))) else (spec_l01Digits.l0 k1 a0 x3_1 (wrap64 (x4_1 + 1)))) else (none)) = some r := by first | (rw [hji3] at H; exact H) | (simp only [hji3] at H ⊢; exact H)
    by_cases c4 : 0 ≤ (ji3)
    ·rw [if_pos c4] at H
     have c4b0 := eq_true c4
     have c4b1 : decide (0 ≤ (ji3)) = true := decide_eq_true c4
     clear c4
     obtain ⟨ji5, hji5⟩ : ∃ j_ : Int, (shr .i64 a0 (ji3)) = j_ := ⟨_, rfl⟩
     replace H : (if (Go.bits .and .i64 (ji5) 1) = 1 then ((spec_l01Dec.f k1 x4_1).bind fun t213 => (if x3_1.size + t213.size ≤ 9223372036854775807 then (spec_l01Digits.l0 k1 a0 (x3_1 ++ t213) (wrap64 (x4_1 + 1))) else (none))) else (spec_l01Digits.l0 k1 a0 x3_1 (wrap64 (x4_1 + 1)))) = some r := by first | (rw [hji5] at H; exact H) | (simp only [hji5] at H ⊢; exact H)
     have hji5_ : (a0 / 2 ^ min (ji3).toNat 64) = ji5 := hji5
     have hji5z : (ji3) ≤ 64 → (a0 / 2 ^ (ji3).toNat) = ji5 := shr_small hji5
     by_cases c6 : (Go.bits .and .i64 (ji5) 1) = 1
     ·rw [if_pos c6] at H
      have c6b0 : ((Go.bits .and .i64 (ji5) 1) == 1) = true := beq_iff_eq.mpr c6
      have c6b1 : ((Go.bits .and .i64 (ji5) 1) != 1) = false := bne_eq_false_iff_eq.mpr c6
      clear c6
      replace H := Option.bind_eq_some_iff.mp H
      obtain ⟨t213, A70, H⟩ := H
      replace H : (if x3_1.size + t213.size ≤ 9223372036854775807 then (spec_l01Digits.l0 k1 a0 (x3_1 ++ t213) (wrap64 (x4_1 + 1))) else (none)) = some r := H
      have A7 := Aside0.mk A70
      clear A70
      by_cases c8 : x3_1.size + t213.size ≤ 9223372036854775807
      ·rw [if_pos c8] at H
       have c8b0 := eq_true c8
       have c8b1 : decide (x3_1.size + t213.size ≤ 9223372036854775807) = true := decide_eq_true c8
       try have c8b2 : (9223372036854775807 < x3_1.size + t213.size) = False := eq_false (Nat.not_lt.2 c8)
       have H' := Aside0.mk H
       clear H
       go_wp2_with (first | ((with_reducible refine gate_callee (f := 60) rfl ?_); refine goesL_ (some 17) rfl rfl Tryd.func60 (by kernel_rfl) rfl #[.int .i64 x4_1] rfl (by (try simp only [List.map_toArray, List.map_cons, List.map_nil]); first | done | rfl | (simp only [List.length_drop, List.length_take]; rfl)) ?_; (with_reducible refine (spec_l01Dec.calls k1 x4_1 t213 _ A7.out).mono ?_); rintro e w9 ⟨rfl, hb⟩; refine ⟨_, rfl, ?_⟩; have n0_ := Aside0.mk (below_step (by repeat (first | (with_reducible first | exact HB.out | apply below_alloc | apply pw_below_drewN | apply below_drew1) | exact HB.out)) hb); clear HB; have HB := n0_; clear n0_; (try clear hb); (try clear hb2); (try clear hk); (try clear hi)))
       go_roundg k1
       case measure => have := HK1.out; omega
       case rel => exact ⟨(x3_1 ++ t213), (wrap64 (x4_1 + 1)), (by first | rfl | (simp; done) | (simp [*]; done)), (by first | rfl | (simp; done) | (simp [*]; done)), H', ⟨by have := HK1.out; omega⟩, ⟨by repeat (first | (with_reducible first | exact HB.out | apply below_alloc | apply pw_below_drewN | apply below_drew1) | exact HB.out)⟩⟩
      ·rw [if_neg c8] at H
       exact absurd H (by simp)
     ·rw [if_neg c6] at H
      have c6b0 : ((Go.bits .and .i64 (ji5) 1) == 1) = false := beq_eq_false_iff_ne.mpr c6
      have c6b1 : ((Go.bits .and .i64 (ji5) 1) != 1) = true := bne_iff_ne.mpr c6
      have H' := Aside0.mk H
      clear H
      go_wp2
      go_roundg k1
      case measure => have := HK1.out; omega
      case rel => exact ⟨(x3_1), (wrap64 (x4_1 + 1)), (by first | rfl | (simp; done) | (simp [*]; done)), (by first | rfl | (simp; done) | (simp [*]; done)), H', ⟨by have := HK1.out; omega⟩, ⟨by repeat (first | (with_reducible first | exact HB.out | apply below_alloc | apply pw_below_drewN | apply below_drew1) | exact HB.out)⟩⟩
    ·rw [if_neg c4] at H
     exact absurd H (by simp)
   ·rw [if_neg c2] at H
    have c2b0 : decide (x4_1 < 10) = false := decide_eq_false c2
    clear c2
    obtain rfl := Option.some.inj H
    go_wp2
    go_ret
    exact ⟨by first | rfl | (simp [errW_none, errW_some] <;> rfl) | (simp [*, errW_none, errW_some] <;> rfl), by repeat (first | (with_reducible first | exact HB.out | apply below_alloc | apply pw_below_drewN | apply below_drew1) | exact HB.out)⟩

end Go.Proofs.YtaeabbackmnioaaDoor.Q
end

section
/- Written by a program of this session (myprint.py over the kit's print). -/
namespace Go.Proofs.YtaeabbackmnioaaDoor.Q
open Go.RowKit Go.Proofs.YtaeabbackmnioaaDoorW.PrintWords Go.Proofs.YtaeabbackmnioaaDoorW.PrintLast Go.Proofs.YtaeabbackmnioaaDoorW.PrintMore
attribute [local go_sem] max2_int min2_int max_two min_two max_three min_three max_four min_four   -- for this text's walks alone
set_option linter.unusedVariables false
set_option linter.unusedSimpArgs false

/-! ### spec_l01Text: function 31 -/
def spec_l01Text.l0 : Nat → ByteArray → List Int → Int → Option (ByteArray)
 | 0, _, _, _ => none
 | k + 1, x3, x4, x5 => if x5 < (x4.length : Int) then (if x5 > 0 then (if x3.size + 1 ≤ 9223372036854775807 then (if 0 ≤ x5 then ((spec_l01Digits.f k (rd x4 x5)).bind fun t220 => (if (x3 ++ (⟨#[44]⟩ : ByteArray)).size + t220.size ≤ 9223372036854775807 then (spec_l01Text.l0 k ((x3 ++ (⟨#[44]⟩ : ByteArray)) ++ t220) x4 (wrap64 (x5 + 1))) else (none))) else (none)) else (none)) else (if 0 ≤ x5 then ((spec_l01Digits.f k (rd x4 x5)).bind fun t222 => (if x3.size + t222.size ≤ 9223372036854775807 then (spec_l01Text.l0 k (x3 ++ t222) x4 (wrap64 (x5 + 1))) else (none))) else (none))) else (some x3)
def spec_l01Text.f (k : Nat) (a0_0 : Int) (l0_1 : List Int) : Option (ByteArray) := (spec_l01Dec.f k a0_0).bind fun t215 => (if t215.size + 1 ≤ 9223372036854775807 then ((spec_l01Facets.f k a0_0 l0_1).bind fun t216 => (spec_l01Text.l0 k (t215 ++ (⟨#[58]⟩ : ByteArray)) t216 0)) else (none))
theorem spec_l01Text.mono_l : ∀ k, (∀ y0 y1 y2, LeO (spec_l01Text.l0 k y0 y1 y2) (spec_l01Text.l0 (k + 1) y0 y1 y2))
 | 0 => fun _ _ _ r h => by simp [spec_l01Text.l0] at h
 | k + 1 => by
  have ih0 := spec_l01Text.mono_l k
  ·intro y0 y1 y2
   unfold spec_l01Text.l0
   repeat' first
   | (with_reducible exact ih0 _ _ _)
   | (with_reducible exact spec_l01Dec.mono _ _)
   | (with_reducible exact spec_l01Digits.mono _ _)
   | (with_reducible exact spec_l01Facets.mono _ _ _)
   | (with_reducible exact LeO.refl _)
   | (with_reducible exact LeO.none _)
   | (with_reducible refine LeO.ite ?_ ?_)
   | (with_reducible refine LeO.bind ?_ (fun _ => ?_))
   | exact ih0 _ _ _
   | exact spec_l01Dec.mono _ _
   | exact spec_l01Digits.mono _ _
   | exact spec_l01Facets.mono _ _ _
   | exact LeO.none _
   | refine LeO.ite ?_ ?_
   | refine LeO.bind ?_ (fun _ => ?_)
theorem spec_l01Text.mono : ∀ a0 a1 k, LeO (spec_l01Text.f k a0 a1) (spec_l01Text.f (k + 1) a0 a1) := by
 intro a0 a1 k
 have ih0 := spec_l01Text.mono_l k
 unfold spec_l01Text.f
 repeat' first
   | (with_reducible exact ih0 _ _ _)
   | (with_reducible exact spec_l01Dec.mono _ _)
   | (with_reducible exact spec_l01Digits.mono _ _)
   | (with_reducible exact spec_l01Facets.mono _ _ _)
   | (with_reducible exact LeO.refl _)
   | (with_reducible exact LeO.none _)
   | (with_reducible refine LeO.ite ?_ ?_)
   | (with_reducible refine LeO.bind ?_ (fun _ => ?_))
   | exact ih0 _ _ _
   | exact spec_l01Dec.mono _ _
   | exact spec_l01Digits.mono _ _
   | exact spec_l01Facets.mono _ _ _
   | exact LeO.none _
   | refine LeO.ite ?_ ?_
   | refine LeO.bind ?_ (fun _ => ?_)
def spec_l01Text.T1 : Bool × List (List Nat × List Nat) := (true, [([], []), ([0], [0]), ([1], [1]), ([2], [2]), ([], []), ([4, 2], [4]), ([3, 5, 0, 1, 2, 3], [3]), ([5, 6, 0, 1, 2, 3, 4, 5, 6], [5])])
def spec_l01Text.B1 : List Nat := [0, 1, 3, 7, 0, 23, 63, 127]
theorem spec_l01Text.tab1 : rtab .any (opsOf Tryd.f31 1) = spec_l01Text.T1 := by kernel_rfl
theorem spec_l01Text.bits1 : waitsOk spec_l01Text.T1.2 spec_l01Text.B1 = true := by kernel_rfl
set_option maxHeartbeats 8000000 in
set_option maxRecDepth 100000 in
theorem spec_l01Text.calls (k : Nat) (a0_0 : Int) (A0_1 : Option Addr) (c0_1 : Nat) (l0_1 : List Int) (r : ByteArray) (w : World) (hr0_1 : Kd.C (Kd.int .i64) w A0_1 l0_1.length l0_1) (hc0_1 : l0_1.length ≤ c0_1) (h : spec_l01Text.f k a0_0 l0_1 = some r) :
  Calls Tryd.prog 31 #[.agg #[.int .i64 a0_0, .slice A0_1 l0_1.length c0_1]] w fun e w' => e = .returned (.string r) ∧ Below w.heap.size w w' := by
 have hu24 := Tryd.underlying24
 have HR0_1 := Aside0.mk hr0_1
 have HC0_1 := Aside0.mk hc0_1
 clear hr0_1 hc0_1
 have HB := Aside0.mk (Below.refl w.heap.size w)
 have H : ((spec_l01Dec.f k a0_0).bind fun t215 => (if t215.size + 1 ≤ 9223372036854775807 then ((spec_l01Facets.f k a0_0 l0_1).bind fun t216 => (spec_l01Text.l0 k (t215 ++ (⟨#[58]⟩ : ByteArray)) t216 0)) else (none))) = some r := h
 clear h
 replace H := Option.bind_eq_some_iff.mp H
 obtain ⟨t215, A20, H⟩ := H
 replace H : (if t215.size + 1 ≤ 9223372036854775807 then ((spec_l01Facets.f k a0_0 l0_1).bind fun t216 => (spec_l01Text.l0 k (t215 ++ (⟨#[58]⟩ : ByteArray)) t216 0)) else (none)) = some r := H
 have A2 := Aside0.mk A20
 clear A20
 by_cases c3 : t215.size + 1 ≤ 9223372036854775807
 ·rw [if_pos c3] at H
  have c3b0 := eq_true c3
  have c3b1 : decide (t215.size + 1 ≤ 9223372036854775807) = true := decide_eq_true c3
  try have c3b2 : (9223372036854775807 < t215.size + 1) = False := eq_false (Nat.not_lt.2 c3)
  replace H := Option.bind_eq_some_iff.mp H
  obtain ⟨t216, A40, H⟩ := H
  replace H : (spec_l01Text.l0 k (t215 ++ (⟨#[58]⟩ : ByteArray)) t216 0) = some r := H
  have A4 := Aside0.mk A40
  clear A40
  have H' := Aside0.mk H
  clear H
  go_enter Tryd.func31, Tryd.ntmps31
  try go_wp2_with (first | ((with_reducible refine gate_dst (N := 1) rfl ?_); refine box_event ?hg (N := 1) ?hd (cs := #[.int .i64 a0_0, .slice A0_1 l0_1.length c0_1]) (t := 24) ?hr ?_; (case hd => rfl); (case hg => rfl); (case hr => first | (go_simp; done) | (go_simp; rfl)); intro gb214 hg w5 hbox hb; have n0_ := Aside0.mk (below_step (by repeat (first | (with_reducible first | exact HB.out | apply below_alloc | apply pw_below_drewN | apply below_drew1) | exact HB.out)) hb); have n1_ := Aside0.mk (hbox); have n2_ := Aside0.mk ((by rw [hg]; exact (below_size (by repeat (first | (with_reducible first | exact HB.out | apply below_alloc | apply pw_below_drewN | apply below_drew1) | exact HB.out))) : w.heap.size ≤ gb214)); have n3_ := Aside0.mk ((by rw [hg]; exact (below_size (by repeat (first | (with_reducible first | exact HB.out | apply below_alloc | apply pw_below_drewN | apply below_drew1) | exact HB.out))) : w.heap.size ≤ gb214)); clear HB; have HB := n0_; have BK214 := n1_; have GW214 := n2_; have GE214 := n3_; clear n0_ n1_ n2_ n3_; clear hb hbox hg))
  have n0_ := Aside0.mk (blk_drew BK214.out)
  have n1_ := Aside0.mk (below_drew1 HB.out)
  clear BK214
  clear HB
  have BK214 := n0_
  have HB := n1_
  clear n0_ n1_
  refine start_ (n := 8) (S := fun w' => w'.cell? ⟨gb214, 0, none⟩ = some (.int .i64 a0_0) ∧ w'.cell? ⟨gb214, 1, none⟩ = some (.slice A0_1 l0_1.length c0_1)) (ds := []) (ar 0 8) (by kernel_rfl) rfl rfl ⟨(blk_cell BK214.out 0).trans rfl, (blk_cell BK214.out 1).trans rfl⟩ (fun hHeld => ?_); refine with_tabW spec_l01Text.tab1 spec_l01Text.bits1 (fun HT_ HW_ => ?_)
  generalize w5.drew = w6 at BK214 HB hHeld ⊢
  refine pure_ (i := 0) (N := some 6) (v := ?_) (a' := ?_) (ar 1 7) rfl rfl (any_of HT_.out (by kernel_rfl)) hh_ (Or.inl ⟨by rfl, ?_⟩) ?_ ?_; rotate_left; (intro w'; go_simp; with_reducible rfl); rotate_left; · simp only [nm_]; rfl
  refine take_ (i := 1) (N := some 7) (v := ?_) (a' := ?_) (ar 2 6) rfl rfl (take_ofW HT_.out HW_.out (by kernel_rfl)) hh_ (Or.inl ⟨by rfl, ?_⟩) hHeld ?_ ?_
  rotate_left; · rintro w' ⟨s0, s1⟩; go_simp; with_reducible rfl
  rotate_left; · simp only [nm_]; rfl
  refine take_ (i := 4) (N := some 10) (v := ?_) (a' := ?_) #[U,U,O,O,U,O,O,O] rfl rfl (take_ofW HT_.out HW_.out (by kernel_rfl)) hh_ (Or.inl ⟨by rfl, ?_⟩) hHeld ?_ ?_
  rotate_left; · rintro w' ⟨s0, s1⟩; go_simp; with_reducible rfl
  rotate_left; · simp only [nm_]; rfl
  refine one_ (i := 2) (N := some 8) #[U,U,U,O,U,O,O,O] rfl rfl (one_of HT_.out (by kernel_rfl)) (by decide) (fun K hK => ?_)
  refine goes_ Tryd.func60 (by kernel_rfl) rfl #[.int .i64 a0_0] (by rfl) rfl rfl (by (try simp only [List.map_toArray, List.map_cons, List.map_nil]); first | done | rfl | (simp only [List.length_drop, List.length_take]; rfl)) ?_
  with_reducible refine (spec_l01Dec.calls k a0_0 t215 _ A2.out).mono ?_
  rintro e w7 ⟨rfl, hb⟩
  refine ⟨_, rfl, ?_⟩
  have n0_ := Aside0.mk (blk_below (g := gb214) (o := .cells #[.int .i64 a0_0, .slice A0_1 l0_1.length c0_1] 24 (0, 0)) (by (with_reducible repeat (first | refine blk_drewN ?_ _ | refine blk_drew ?_ | refine blk_alloc ?_ _)); exact BK214.out) hb)
  have n1_ := Aside0.mk (below_step (by repeat (first | (with_reducible first | exact HB.out | apply below_alloc | apply pw_below_drewN | apply below_drew1 | refine below_set ?_ GE214.out) | exact HB.out)) hb)
  clear BK214
  clear HB
  have BK214 := n0_
  have HB := n1_
  clear n0_ n1_
  (try clear hb)
  (try clear hb2)
  (try clear hk)
  (try clear hi)
  refine hK.out _ _ ⟨(blk_cell BK214.out 0).trans rfl, (blk_cell BK214.out 1).trans rfl⟩ (fun hHeld => ?_)
  clear hK K
  refine norm_ (a' := ?_) ?_ ?_
  rotate_left
  ·show Act.put _ (some 8) _ = _
   simp only [nm_]
   rfl
  refine pure_ (i := 3) (N := some 9) (v := ?_) (a' := ?_) (ar 5 3) rfl rfl (any_of HT_.out (by kernel_rfl)) hh_ (Or.inl ⟨by rfl, ?_⟩) ?_ ?_; rotate_left; (intro w'; go_simp; with_reducible rfl); rotate_left; · simp only [nm_]; rfl
  refine one_ (i := 5) (N := some 11) (ar 6 2) rfl rfl (one_of HT_.out (by kernel_rfl)) (by decide) (fun K hK => ?_)
  refine goes_ Tryd.func61 (by kernel_rfl) rfl #[.agg #[.int .i64 a0_0, .slice A0_1 l0_1.length c0_1]] (by rfl) rfl rfl (by (try simp only [List.map_toArray, List.map_cons, List.map_nil]); first | done | rfl | (simp only [List.length_drop, List.length_take]; rfl)) ?_
  with_reducible refine (spec_l01Facets.calls k a0_0 _ _ l0_1 t216 _ ?side1 ?side2 A4.out).mono ?_
  (case side1 => repeat (first | exact (Kd.C_below HR0_1.out HB.out) | (with_reducible refine Kd.C_alloc ?_ _) | (with_reducible refine Kd.C_drewN ?_ _) | (with_reducible refine Kd.C_drew ?_)))
  (case side2 => exact HC0_1.out)
  rintro e w8 ⟨v217, rfl, ho0, hb⟩
  refine ⟨_, rfl, ?_⟩
  have n0_ := Aside0.mk (Kd.R_lower ho0 (below_size (by repeat (first | (with_reducible first | exact HB.out | apply below_alloc | apply pw_below_drewN | apply below_drew1 | refine below_set ?_ GE214.out) | exact HB.out))))
  have n1_ := Aside0.mk (blk_below (g := gb214) (o := .cells #[.int .i64 a0_0, .slice A0_1 l0_1.length c0_1] 24 (0, 0)) (by (with_reducible repeat (first | refine blk_drewN ?_ _ | refine blk_drew ?_ | refine blk_alloc ?_ _)); exact BK214.out) hb)
  have n2_ := Aside0.mk (below_step (by repeat (first | (with_reducible first | exact HB.out | apply below_alloc | apply pw_below_drewN | apply below_drew1 | refine below_set ?_ GE214.out) | exact HB.out)) hb)
  clear BK214
  clear HB
  have HO218 := n0_
  have BK214 := n1_
  have HB := n2_
  clear n0_ n1_ n2_
  (try clear hb)
  (try clear hb2)
  (try clear hk)
  (try clear hi)
  (try clear ho0)
  refine hK.out _ _ ⟨(blk_cell BK214.out 0).trans rfl, (blk_cell BK214.out 1).trans rfl⟩ (fun hHeld => ?_)
  clear hK K
  refine norm_ (a' := ?_) ?_ ?_
  rotate_left
  ·show Act.put _ (some 11) _ = _
   simp only [nm_]
   rfl
  refine pure_ (i := 6) (N := some 3) (v := ?_) (a' := ?_) (ar 7 1) rfl rfl (any_of HT_.out (by kernel_rfl)) hh_ (Or.inl ⟨by rfl, ?_⟩) ?_ ?_; rotate_left; (intro w'; go_simp; with_reducible rfl); rotate_left; · simp only [nm_]; rfl
  refine pure_ (i := 7) (N := some 4) (v := ?_) (a' := ?_) (ar 8 0) rfl rfl (any_of HT_.out (by kernel_rfl)) hh_ (Or.inl ⟨by rfl, ?_⟩) ?_ ?_; rotate_left; (intro w'; go_simp; with_reducible rfl); rotate_left; · simp only [nm_]; rfl
  refine done_ (done_of HT_.out (by kernel_rfl)) ?_
  try go_wp2
  go_loopg [3, 5] k (fun kq v3 v5 w' => ∃ (x3_1 : ByteArray) (x5_1 : Int), v3 = .string x3_1 ∧ v5 = .int .i64 x5_1 ∧ Aside0 (spec_l01Text.l0 kq x3_1 t216 x5_1 = some r) ∧ Aside0 (kq ≤ k) ∧ Aside0 (Kd.R (Kd.int .i64) 2 w' w.heap.size (fun _ => True) v217 t216) ∧ Aside0 (w'.heap[gb214]? = some (.cells #[.int .i64 a0_0, (.slice A0_1 l0_1.length c0_1)] 24 (0, 0))) ∧ Aside0 (Below w.heap.size w w'))
  case atStart => exact ⟨(t215 ++ (⟨#[58]⟩ : ByteArray)), (0), (by first | rfl | (simp; done) | (simp [*]; done)), (by first | rfl | (simp; done) | (simp [*]; done)), H', ⟨Nat.le_refl _⟩, ⟨by (with_reducible repeat (first | apply Kd.R_alloc | apply Kd.R_drewN | apply Kd.R_drew)); exact HO218.out⟩, ⟨by (with_reducible repeat (first | refine blk_drewN ?_ _ | refine blk_drew ?_ | refine blk_alloc ?_ _)); exact BK214.out⟩, ⟨by repeat (first | (with_reducible first | exact HB.out | apply below_alloc | apply pw_below_drewN | apply below_drew1 | refine below_set ?_ GE214.out) | exact HB.out)⟩⟩
  case round =>
   clear H'
   try clear p2
   try clear c3
   try clear c3b0
   try clear c3b1
   try clear c3b2
   try clear c6
   obtain ⟨x3_1, x5_1, rfl, rfl, HA, HK1, HO_4, BK214, HB⟩ := hrel
   cases gk with
   | zero => exact absurd HA.out (by simp [spec_l01Text.l0])
   | succ k1 =>
    have H := HA.out
    clear HA
    simp only [spec_l01Text.l0] at H
    by_cases c9 : x5_1 < (t216.length : Int)
    ·rw [if_pos c9] at H
     have c9b0 : decide (x5_1 < (t216.length : Int)) = true := decide_eq_true c9
     clear c9
     by_cases c10 : x5_1 > 0
     ·rw [if_pos c10] at H
      have c10b0 : decide (0 < x5_1) = true := decide_eq_true c10
      clear c10
      by_cases c11 : x3_1.size + 1 ≤ 9223372036854775807
      ·rw [if_pos c11] at H
       have c11b0 := eq_true c11
       have c11b1 : decide (x3_1.size + 1 ≤ 9223372036854775807) = true := decide_eq_true c11
       try have c11b2 : (9223372036854775807 < x3_1.size + 1) = False := eq_false (Nat.not_lt.2 c11)
       by_cases c12 : 0 ≤ x5_1
       ·rw [if_pos c12] at H
        have c12b0 : decide (0 ≤ x5_1) = true := decide_eq_true c12
        clear c12
        replace H := Option.bind_eq_some_iff.mp H
        obtain ⟨t220, A130, H⟩ := H
        replace H : (if (x3_1 ++ (⟨#[44]⟩ : ByteArray)).size + t220.size ≤ 9223372036854775807 then (spec_l01Text.l0 k1 ((x3_1 ++ (⟨#[44]⟩ : ByteArray)) ++ t220) t216 (wrap64 (x5_1 + 1))) else (none)) = some r := H
        have A13 := Aside0.mk A130
        clear A130
        by_cases c14 : (x3_1 ++ (⟨#[44]⟩ : ByteArray)).size + t220.size ≤ 9223372036854775807
        ·rw [if_pos c14] at H
         have c14b0 := eq_true c14
         have c14b1 : decide ((x3_1 ++ (⟨#[44]⟩ : ByteArray)).size + t220.size ≤ 9223372036854775807) = true := decide_eq_true c14
         have c14e : x3_1.size + 1 + t220.size ≤ 9223372036854775807 := by rw [ByteArray.size_append, show (⟨#[44]⟩ : ByteArray).size = 1 from rfl] at c14; exact c14
         have c14b3 := eq_true c14e
         have c14b4 : decide (x3_1.size + 1 + t220.size ≤ 9223372036854775807) = true := decide_eq_true c14e
         have c14b5 : (9223372036854775807 < x3_1.size + 1 + t220.size) = False := eq_false (Nat.not_lt.2 c14e)
         have c14s : (⟨#[44]⟩ : ByteArray).size = 1 := rfl
         have c14b6 : (9223372036854775807 < x3_1.size + (⟨#[44]⟩ : ByteArray).size + t220.size) = False := c14b5
         have c14b7 : (x3_1.size + (⟨#[44]⟩ : ByteArray).size + t220.size ≤ 9223372036854775807) = True := c14b3
         try have c14b2 : (9223372036854775807 < (x3_1 ++ (⟨#[44]⟩ : ByteArray)).size + t220.size) = False := eq_false (Nat.not_lt.2 c14)
         have H' := Aside0.mk H
         clear H
         obtain ⟨Ao15, co15, eo15⟩ := Kd.R_slice HO_4.out
         subst eo15
         have p219 : 0 ≤ (x5_1 : Int) := of_decide_eq_true (by first | (with_reducible assumption) | assumption)
         have q219 : x5_1 < (t216.length : Int) := of_decide_eq_true (by first | (with_reducible assumption) | assumption)
         obtain ⟨ad219, e219, hx219_0⟩ := Kd.at_int (Kd.R_reads' HO_4.out).2.2 x5_1 p219 q219
         cases e219
         replace p219 := eq_true p219
         replace q219 := eq_true q219
         go_wp2_with (first | ((with_reducible refine gate_callee (f := 62) rfl ?_); refine goesL_ (some 27) rfl rfl Tryd.func62 (by kernel_rfl) rfl #[.int .i64 (rd t216 x5_1)] rfl (by (try simp only [List.map_toArray, List.map_cons, List.map_nil]); first | done | rfl | (simp only [List.length_drop, List.length_take]; rfl)) ?_; (with_reducible refine (spec_l01Digits.calls k1 (rd t216 x5_1) t220 _ A13.out).mono ?_); rintro e w16 ⟨rfl, hb⟩; refine ⟨_, rfl, ?_⟩; have n0_ := Aside0.mk (Kd.R_below (by (with_reducible repeat (first | apply Kd.R_alloc | apply Kd.R_drewN | apply Kd.R_drew)); exact HO_4.out) hb); have n1_ := Aside0.mk (blk_below (g := gb214) (o := .cells #[.int .i64 a0_0, .slice A0_1 l0_1.length c0_1] 24 (0, 0)) (by (with_reducible repeat (first | refine blk_drewN ?_ _ | refine blk_drew ?_ | refine blk_alloc ?_ _)); exact BK214.out) hb); have n2_ := Aside0.mk (below_step (by repeat (first | (with_reducible first | exact HB.out | apply below_alloc | apply pw_below_drewN | apply below_drew1 | refine below_set ?_ GE214.out) | exact HB.out)) hb); clear HO_4; clear BK214; clear HB; have HO_4 := n0_; have BK214 := n1_; have HB := n2_; clear n0_ n1_ n2_; (try clear hb); (try clear hb2); (try clear hk); (try clear hi)))
         go_roundg k1
         case measure => have := HK1.out; omega
         case rel => exact ⟨((x3_1 ++ (⟨#[44]⟩ : ByteArray)) ++ t220), (wrap64 (x5_1 + 1)), (by first | rfl | (simp; done) | (simp [*]; done)), (by first | rfl | (simp; done) | (simp [*]; done)), H', ⟨by have := HK1.out; omega⟩, ⟨by (with_reducible repeat (first | apply Kd.R_alloc | apply Kd.R_drewN | apply Kd.R_drew)); exact HO_4.out⟩, ⟨by (with_reducible repeat (first | refine blk_drewN ?_ _ | refine blk_drew ?_ | refine blk_alloc ?_ _)); exact BK214.out⟩, ⟨by repeat (first | (with_reducible first | exact HB.out | apply below_alloc | apply pw_below_drewN | apply below_drew1 | refine below_set ?_ GE214.out) | exact HB.out)⟩⟩
        ·rw [if_neg c14] at H
         exact absurd H (by simp)
       ·rw [if_neg c12] at H
        exact absurd H (by simp)
      ·rw [if_neg c11] at H
       exact absurd H (by simp)
     ·rw [if_neg c10] at H
      have c10b0 : decide (0 < x5_1) = false := decide_eq_false c10
      clear c10
      by_cases c17 : 0 ≤ x5_1
      ·rw [if_pos c17] at H
       have c17b0 : decide (0 ≤ x5_1) = true := decide_eq_true c17
       clear c17
       replace H := Option.bind_eq_some_iff.mp H
       obtain ⟨t222, A180, H⟩ := H
       replace H : (if x3_1.size + t222.size ≤ 9223372036854775807 then (spec_l01Text.l0 k1 (x3_1 ++ t222) t216 (wrap64 (x5_1 + 1))) else (none)) = some r := H
       have A18 := Aside0.mk A180
       clear A180
       by_cases c19 : x3_1.size + t222.size ≤ 9223372036854775807
       ·rw [if_pos c19] at H
        have c19b0 := eq_true c19
        have c19b1 : decide (x3_1.size + t222.size ≤ 9223372036854775807) = true := decide_eq_true c19
        try have c19b2 : (9223372036854775807 < x3_1.size + t222.size) = False := eq_false (Nat.not_lt.2 c19)
        have H' := Aside0.mk H
        clear H
        obtain ⟨Ao20, co20, eo20⟩ := Kd.R_slice HO_4.out
        subst eo20
        have p221 : 0 ≤ (x5_1 : Int) := of_decide_eq_true (by first | (with_reducible assumption) | assumption)
        have q221 : x5_1 < (t216.length : Int) := of_decide_eq_true (by first | (with_reducible assumption) | assumption)
        obtain ⟨ad221, e221, hx221_0⟩ := Kd.at_int (Kd.R_reads' HO_4.out).2.2 x5_1 p221 q221
        cases e221
        replace p221 := eq_true p221
        replace q221 := eq_true q221
        go_wp2_with (first | ((with_reducible refine gate_callee (f := 62) rfl ?_); refine goesL_ (some 27) rfl rfl Tryd.func62 (by kernel_rfl) rfl #[.int .i64 (rd t216 x5_1)] rfl (by (try simp only [List.map_toArray, List.map_cons, List.map_nil]); first | done | rfl | (simp only [List.length_drop, List.length_take]; rfl)) ?_; (with_reducible refine (spec_l01Digits.calls k1 (rd t216 x5_1) t222 _ A18.out).mono ?_); rintro e w21 ⟨rfl, hb⟩; refine ⟨_, rfl, ?_⟩; have n0_ := Aside0.mk (Kd.R_below (by (with_reducible repeat (first | apply Kd.R_alloc | apply Kd.R_drewN | apply Kd.R_drew)); exact HO_4.out) hb); have n1_ := Aside0.mk (blk_below (g := gb214) (o := .cells #[.int .i64 a0_0, .slice A0_1 l0_1.length c0_1] 24 (0, 0)) (by (with_reducible repeat (first | refine blk_drewN ?_ _ | refine blk_drew ?_ | refine blk_alloc ?_ _)); exact BK214.out) hb); have n2_ := Aside0.mk (below_step (by repeat (first | (with_reducible first | exact HB.out | apply below_alloc | apply pw_below_drewN | apply below_drew1 | refine below_set ?_ GE214.out) | exact HB.out)) hb); clear HO_4; clear BK214; clear HB; have HO_4 := n0_; have BK214 := n1_; have HB := n2_; clear n0_ n1_ n2_; (try clear hb); (try clear hb2); (try clear hk); (try clear hi)))
        go_roundg k1
        case measure => have := HK1.out; omega
        case rel => exact ⟨(x3_1 ++ t222), (wrap64 (x5_1 + 1)), (by first | rfl | (simp; done) | (simp [*]; done)), (by first | rfl | (simp; done) | (simp [*]; done)), H', ⟨by have := HK1.out; omega⟩, ⟨by (with_reducible repeat (first | apply Kd.R_alloc | apply Kd.R_drewN | apply Kd.R_drew)); exact HO_4.out⟩, ⟨by (with_reducible repeat (first | refine blk_drewN ?_ _ | refine blk_drew ?_ | refine blk_alloc ?_ _)); exact BK214.out⟩, ⟨by repeat (first | (with_reducible first | exact HB.out | apply below_alloc | apply pw_below_drewN | apply below_drew1 | refine below_set ?_ GE214.out) | exact HB.out)⟩⟩
       ·rw [if_neg c19] at H
        exact absurd H (by simp)
      ·rw [if_neg c17] at H
       exact absurd H (by simp)
    ·rw [if_neg c9] at H
     have c9b0 : decide (x5_1 < (t216.length : Int)) = false := decide_eq_false c9
     clear c9
     obtain rfl := Option.some.inj H
     obtain ⟨Ao22, co22, eo22⟩ := Kd.R_slice HO_4.out
     subst eo22
     go_wp2
     go_ret
     exact ⟨by first | rfl | (simp [errW_none, errW_some] <;> rfl) | (simp [*, errW_none, errW_some] <;> rfl), by repeat (first | (with_reducible first | exact HB.out | apply below_alloc | apply pw_below_drewN | apply below_drew1 | refine below_set ?_ GE214.out) | exact HB.out)⟩
 ·rw [if_neg c3] at H
  exact absurd H (by simp)

end Go.Proofs.YtaeabbackmnioaaDoor.Q
end

section
/- The text of a complex: what the program's and the reference's code come to. -/
namespace Go.Proofs.YtaeabbackmnioaaDoor.K
open Go.RowKit Go.Shelf Go.Proofs.YtaeabbackmnioaaDoor.Q Go.Proofs.YtaeabbackmnioaaDoor.X Go.Proofs.YtaeabbackmnioaaDoor.D Go.Proofs.YtaeabbackmnioaaDoorW.PrintWords Go.Proofs.YtaeabbackmnioaaDoorW.PrintLast Go.Proofs.YtaeabbackmnioaaDoorW.PrintMore
set_option linter.unusedVariables false
set_option linter.unusedSimpArgs false

theorem rounds_le {α : Type} {g : Nat → Option α} (h : ∀ k, LeO (g k) (g (k + 1))) {r : α} : ∀ (d k : Nat), g k = some r → g (k + d) = some r
 | 0, k, hk => hk
 | d + 1, k, hk => by
  have := rounds_le h d (k + 1) (h k r hk)
  rwa [Nat.add_right_comm] at this

/-- A digit, a word, the text. -/
def dig (v : Int) : UInt8 := UInt8.ofNat (48 + v.toNat)
def word (f : Int) : List UInt8 := (verts f).map dig
def B8 (l : List UInt8) : ByteArray := ⟨l.toArray⟩
def textU (n : Int) (fs : List Int) : List UInt8 := dig n :: 58 :: Lib.join (fs.map word) [44]
theorem B8_size (l : List UInt8) : (B8 l).size = l.length := by simp [B8, ByteArray.size]
theorem B8_data (l : List UInt8) : (B8 l).data.toList = l := rfl
theorem B8_of (s : ByteArray) : B8 s.data.toList = s := rfl
theorem B8_append (a b : List UInt8) : B8 a ++ B8 b = B8 (a ++ b) := by
 apply ByteArray.ext
 simp [B8, ByteArray.data_append]
theorem verts_len6 (f : Int) : (verts f).length ≤ 6 := List.length_filter_le _ _
theorem word_length (f : Int) : (word f).length ≤ 6 := by
 unfold word
 rw [List.length_map]
 exact verts_len6 f
theorem lens_le {xs : List (List UInt8)} (h : ∀ x ∈ xs, x.length ≤ 6) : Lib.lens xs ≤ 6 * xs.length := by
 induction xs with
 | nil => simp [Lib.lens]
 | cons x r ih =>
  have h1 := h x List.mem_cons_self
  have h2 := ih (fun y hy => h y (List.mem_cons_of_mem _ hy))
  simp only [Lib.lens, List.map_cons, List.sum_cons, List.length_cons] at h2 ⊢
  omega
theorem tail_le {xs : List (List UInt8)} (h : ∀ x ∈ xs, x.length ≤ 6) : (Lib.joinTail [44] xs).length ≤ 7 * xs.length := by
 rw [Lib.joinTail_length]
 have := lens_le h
 simp only [List.length_cons, List.length_nil]
 omega
theorem words_le (fs : List Int) : ∀ x ∈ fs.map word, x.length ≤ 6 := by
 intro x hx
 obtain ⟨f, _, rfl⟩ := List.mem_map.1 hx
 exact word_length f
theorem join_le (fs : List Int) : (Lib.join (fs.map word) [44]).length ≤ 7 * fs.length := by
 cases fs with
 | nil => simp [Lib.join_nil]
 | cons f r =>
  rw [List.map_cons, Lib.join_cons, List.length_append, List.length_cons]
  have h1 := word_length f
  have h2 := tail_le (words_le r)
  rw [List.length_map] at h2
  omega

theorem vertices_at (f : Int) (k : Nat) (hk : 7 ≤ k) : impl_vertices.f k f = some (verts f) := by
 obtain ⟨d, rfl⟩ : ∃ d, k = 7 + d := ⟨k - 7, by omega⟩
 exact rounds_le (fun k => impl_vertices.mono f k) d 7 (verts_is f)
theorem fmt_is (v : Int) (h : 0 ≤ v ∧ v < 10) : strconv_FormatInt.f v 10 = some (B8 [dig v]) := by
 unfold strconv_FormatInt.f
 rw [if_pos ⟨h, rfl⟩]
 rfl

theorem textI_inner (ws : List ByteArray) (vs : List Int) (n : Int) (l fs : List Int) (len i : Int) (hv : ∀ v ∈ vs, 0 ≤ v ∧ v < 10) (hvs : vs.length ≤ 6) : ∀ (d j m : Nat) (acc : List UInt8), vs.length - j = d → j ≤ vs.length → acc.length ≤ j →
  impl_Complex_text.l1 (d + 1 + m) ws (B8 acc) fs len i vs (vs.length : Int) (j : Int) n l = (if ws.length < 8796093022208 then impl_Complex_text.l0 m (ws ++ [B8 (acc ++ (vs.drop j).map dig)]) fs len (wrap64 (i + 1)) n l else none) := by
 intro d
 induction d with
 | zero =>
  intro j m acc hd hj ha
  rw [Nat.zero_add, Nat.add_comm]
  simp only [impl_Complex_text.l1]
  rw [if_neg (by omega)]
  obtain rfl : j = vs.length := by omega
  rw [List.drop_length, List.map_nil, List.append_nil]
 | succ d ih =>
  intro j m acc hd hj ha
  rw [show d + 1 + 1 + m = (d + 1 + m) + 1 by omega]
  simp only [impl_Complex_text.l1]
  have hjl : j < vs.length := by omega
  have hx := hv _ (List.getElem_mem hjl)
  rw [if_pos (by omega), if_pos (by omega), if_pos (by omega), rd_nat vs j hjl, fmt_is _ hx]
  simp only [Option.bind_some]
  rw [if_pos (by rw [B8_size, B8_size, List.length_singleton]; omega), B8_append, w64 ((j : Int) + 1) (by omega) (by omega), nat_succ, ih (j + 1) m (acc ++ [dig vs[j]]) (by omega) (by omega) (by simp; omega)]
  rw [List.drop_eq_getElem_cons hjl, List.map_cons, List.append_assoc]
  rfl

theorem textI_outer (n : Int) (hn : 1 ≤ n ∧ n ≤ 6) (l fs : List Int) (hfs : fs.length ≤ 63) : ∀ (d i k : Nat), fs.length - i = d → i ≤ fs.length → 20 * d + 20 ≤ k →
  impl_Complex_text.l0 k ((fs.take i).map fun f => B8 (word f)) fs (fs.length : Int) (i : Int) n l = some (B8 (textU n fs)) := by
 intro d
 induction d with
 | zero =>
  intro i k hd hi hk
  obtain ⟨k, rfl⟩ : ∃ m, k = m + 1 := ⟨k - 1, by omega⟩
  simp only [impl_Complex_text.l0]
  obtain rfl : i = fs.length := by omega
  rw [if_neg (by omega), List.take_length, fmt_is n (by omega)]
  simp only [Option.bind_some]
  have hw : ((fs.map fun f => B8 (word f)).map fun s : ByteArray => s.data.toList) = fs.map word := by
   rw [List.map_map]
   rfl
  have hj : strings_Join.f (fs.map fun f => B8 (word f)) (⟨#[44]⟩ : ByteArray) = some (B8 (Lib.join (fs.map word) [44])) := by
   have hle := join_le fs
   unfold strings_Join.f joinB
   rw [hw, if_pos ⟨by rw [List.length_map]; omega, by show (Lib.join (fs.map word) [44]).length ≤ _; omega⟩]
   rfl
  have hle := join_le fs
  rw [if_pos (by rw [B8_size, List.length_singleton]; omega), hj]
  simp only [Option.bind_some]
  have e : B8 [dig n] ++ (⟨#[58]⟩ : ByteArray) = B8 [dig n, 58] := B8_append [dig n] [58]
  rw [e, if_pos (by rw [B8_size, B8_size]; simp only [List.length_cons, List.length_nil]; omega), B8_append]
  rfl
 | succ d ih =>
  intro i k hd hi hk
  obtain ⟨k, rfl⟩ : ∃ m, k = m + 1 := ⟨k - 1, by omega⟩
  simp only [impl_Complex_text.l0]
  have hil : i < fs.length := by omega
  have hv := verts_len6 fs[i]
  rw [if_pos (by omega), if_pos (by omega), if_pos (by omega), rd_nat fs i hil, vertices_at _ k (by omega)]
  simp only [Option.bind_some]
  have e0 : (⟨#[]⟩ : ByteArray) = B8 [] := rfl
  have hin := textI_inner ((fs.take i).map fun f => B8 (word f)) (verts fs[i]) n l fs (fs.length : Int) (i : Int) (fun v hv => by have := verts_range _ v hv; omega) hv (verts fs[i]).length 0 (k - (verts fs[i]).length - 1) [] (by omega) (by omega) (by simp)
  rw [show (verts fs[i]).length + 1 + (k - (verts fs[i]).length - 1) = k by omega] at hin
  rw [e0, show (0 : Int) = ((0 : Nat) : Int) from rfl, hin, if_pos (by simp; omega), List.nil_append, List.drop_zero, w64 ((i : Int) + 1) (by omega) (by omega), nat_succ]
  have := ih (i + 1) (k - (verts fs[i]).length - 1) (by omega) (by omega) (by omega)
  rw [List.take_succ_eq_append_getElem hil, List.map_append] at this
  exact this

theorem facets_len (l : List Int) : (facetsL l).length ≤ l.length := List.length_filter_le _ _
theorem textI_is {n : Int} {l : List Int} (hi : isC n l = true) (k : Nat) (hk : 1400 ≤ k) : impl_Complex_text.f k n l = some (B8 (textU n (facetsL l))) := by
 obtain ⟨hn, hs, hr, h63⟩ := isC_faces hi
 have hf := facets_len l
 unfold impl_Complex_text.f impl_Complex_facets.f
 rw [if_pos (by omega)]
 simp only [Option.bind_some]
 have := textI_outer n hn l (facetsL l) (by omega) (facetsL l).length 0 k (by omega) (by omega) (by omega)
 exact this

theorem dec_fin : ∀ n : Fin 10, spec_l01Dec.f 1 (n.val : Int) = some (B8 [dig (n.val : Int)]) := by decide +kernel
theorem dec_is (n : Int) (hn : 0 ≤ n ∧ n < 10) (k : Nat) (hk : 1 ≤ k) : spec_l01Dec.f k n = some (B8 [dig n]) := by
 obtain ⟨d, rfl⟩ : ∃ d, k = 1 + d := ⟨k - 1, by omega⟩
 have h := dec_fin ⟨n.toNat, by omega⟩
 have e : ((n.toNat : Nat) : Int) = n := by omega
 rw [e] at h
 exact rounds_le (fun k => spec_l01Dec.mono n k) d 1 h
theorem digits_fin : ∀ f : Fin 64, spec_l01Digits.f 13 (f.val : Int) = some (B8 (word (f.val : Int))) := by decide +kernel
theorem digits_is (f : Int) (hf : 0 ≤ f ∧ f ≤ 63) (k : Nat) (hk : 13 ≤ k) : spec_l01Digits.f k f = some (B8 (word f)) := by
 obtain ⟨d, rfl⟩ : ∃ d, k = 13 + d := ⟨k - 13, by omega⟩
 have h := digits_fin ⟨f.toNat, by omega⟩
 have e : ((f.toNat : Nat) : Int) = f := by omega
 rw [e] at h
 exact rounds_le (fun k => spec_l01Digits.mono f k) d 13 h

theorem textS_loop (fs : List Int) (hf : ∀ f ∈ fs, 0 ≤ f ∧ f ≤ 63) (hfs : fs.length ≤ 63) : ∀ (d i k : Nat) (acc : List UInt8), fs.length - i = d → 1 ≤ i → i ≤ fs.length → d + 14 < k → acc.length ≤ 10 + 7 * i →
  spec_l01Text.l0 k (B8 acc) fs (i : Int) = some (B8 (acc ++ Lib.joinTail [44] ((fs.drop i).map word))) := by
 intro d
 induction d with
 | zero =>
  intro i k acc hd h1 hi hk ha
  obtain ⟨k, rfl⟩ : ∃ m, k = m + 1 := ⟨k - 1, by omega⟩
  simp only [spec_l01Text.l0]
  obtain rfl : i = fs.length := by omega
  rw [if_neg (by omega), List.drop_length]
  simp [Lib.joinTail]
 | succ d ih =>
  intro i k acc hd h1 hi hk ha
  obtain ⟨k, rfl⟩ : ∃ m, k = m + 1 := ⟨k - 1, by omega⟩
  simp only [spec_l01Text.l0]
  have hil : i < fs.length := by omega
  have hw := word_length fs[i]
  have e1 : B8 acc ++ (⟨#[44]⟩ : ByteArray) = B8 (acc ++ [44]) := B8_append acc [44]
  rw [if_pos (by omega), if_pos (by omega), if_pos (by rw [B8_size]; omega), if_pos (by omega), rd_nat fs i hil, digits_is _ (hf _ (List.getElem_mem hil)) k (by omega)]
  simp only [Option.bind_some]
  rw [e1, if_pos (by rw [B8_size, B8_size, List.length_append, List.length_singleton]; omega), B8_append, w64 ((i : Int) + 1) (by omega) (by omega), nat_succ, ih (i + 1) k _ (by omega) (by omega) (by omega) (by omega) (by simp only [List.length_append, List.length_singleton]; omega)]
  rw [List.drop_eq_getElem_cons hil, List.map_cons]
  simp [Lib.joinTail, List.append_assoc]

theorem textS_is {n : Int} {l : List Int} (hi : isC n l = true) (k : Nat) (hk : 300 ≤ k) : spec_l01Text.f k n l = some (B8 (textU n (facetsL l))) := by
 obtain ⟨hn, hs, hr, h63⟩ := isC_faces hi
 have hlen := facets_len l
 unfold spec_l01Text.f
 rw [dec_is n (by omega) k (by omega), specFacetsL_is hi k (by omega)]
 simp only [Option.bind_some]
 rw [if_pos (by rw [B8_size, List.length_singleton]; omega)]
 have e1 : B8 [dig n] ++ (⟨#[58]⟩ : ByteArray) = B8 [dig n, 58] := B8_append [dig n] [58]
 rw [e1]
 have hf : ∀ f ∈ facetsL l, 0 ≤ f ∧ f ≤ 63 := fun f hf => by have := hr f (List.mem_filter.1 hf).1; omega
 unfold textU
 cases hfs : facetsL l with
 | nil =>
  obtain ⟨k, rfl⟩ : ∃ m, k = m + 1 := ⟨k - 1, by omega⟩
  simp only [spec_l01Text.l0]
  rw [if_neg (by simp)]
  rfl
 | cons f r =>
  obtain ⟨k, rfl⟩ : ∃ m, k = m + 1 := ⟨k - 1, by omega⟩
  have hw := word_length f
  rw [hfs] at hf hlen
  rw [List.length_cons] at hlen
  simp only [spec_l01Text.l0]
  have h0 : rd (f :: r) 0 = f := rd_nat (f :: r) 0 (by simp)
  rw [if_pos (by simp only [List.length_cons]; omega), if_neg (by omega), if_pos (by omega), h0, digits_is f (hf f List.mem_cons_self) k (by omega)]
  simp only [Option.bind_some]
  rw [if_pos (by rw [B8_size, B8_size]; simp only [List.length_cons, List.length_nil]; omega), B8_append]
  have := textS_loop (f :: r) hf (by simp; omega) r.length 1 k ([dig n, 58] ++ word f) (by simp) (by omega) (by simp) (by omega) (by simp only [List.length_append, List.length_cons, List.length_nil]; omega)
  rw [show wrap64 ((0 : Int) + 1) = ((1 : Nat) : Int) from w64 _ (by omega) (by omega), this]
  simp only [List.drop_succ_cons, List.drop_zero, List.map_cons, Lib.join_cons]
  simp

end Go.Proofs.YtaeabbackmnioaaDoor.K
end

section
/- A text cut at a byte: what strings.Split and the reference's loop come to. -/
namespace Go.Proofs.YtaeabbackmnioaaDoor.K
open Go.RowKit Go.Shelf Go.Proofs.YtaeabbackmnioaaDoor.Q Go.Proofs.YtaeabbackmnioaaDoorW.PrintWords Go.Proofs.YtaeabbackmnioaaDoorW.PrintLast Go.Proofs.YtaeabbackmnioaaDoorW.PrintMore
set_option linter.unusedVariables false
set_option linter.unusedSimpArgs false

/-- The pieces of a text between the bytes c. -/
def preP (a : List UInt8) : List (List UInt8) → List (List UInt8)
 | [] => [a]
 | x :: r => (a ++ x) :: r
def splitL (c : UInt8) : List UInt8 → List (List UInt8)
 | [] => [[]]
 | b :: l => if b = c then [] :: splitL c l else preP [b] (splitL c l)
theorem preP_app (a b : List UInt8) (xs : List (List UInt8)) : preP (a ++ b) xs = preP a (preP b xs) := by cases xs <;> simp [preP, List.append_assoc]
theorem preP_nil {xs : List (List UInt8)} (h : xs ≠ []) : preP [] xs = xs := by
 cases xs with
 | nil => exact absurd rfl h
 | cons x r => rfl
theorem preP_ne (a : List UInt8) (xs : List (List UInt8)) : preP a xs ≠ [] := by cases xs <;> simp [preP]
theorem splitL_ne (c : UInt8) (l : List UInt8) : splitL c l ≠ [] := by
 cases l with
 | nil => simp [splitL]
 | cons b l =>
  simp only [splitL]
  split
  ·simp
  ·exact preP_ne _ _
theorem preP_length {a : List UInt8} {xs : List (List UInt8)} (h : xs ≠ []) : (preP a xs).length = xs.length := by
 cases xs with
 | nil => exact absurd rfl h
 | cons x r => rfl
theorem splitL_length (c : UInt8) : ∀ l : List UInt8, (splitL c l).length ≤ l.length + 1
 | [] => by simp [splitL]
 | b :: l => by
  have ih := splitL_length c l
  simp only [splitL]
  split
  ·simp only [List.length_cons]; omega
  ·rw [preP_length (splitL_ne c l)]; simp only [List.length_cons]; omega
theorem splitL_piece (c : UInt8) : ∀ (l : List UInt8), ∀ x ∈ splitL c l, x.length ≤ l.length
 | [] => by simp [splitL]
 | b :: l => by
  have ih := splitL_piece c l
  intro x hx
  simp only [splitL] at hx
  split at hx
  ·rcases List.mem_cons.1 hx with rfl | hx
   ·simp
   ·have := ih x hx; simp only [List.length_cons]; omega
  ·revert ih hx
   cases hs : splitL c l with
   | nil => exact absurd hs (splitL_ne c l)
   | cons y r =>
    intro ih hx
    rcases List.mem_cons.1 hx with rfl | hx
    ·have := ih y List.mem_cons_self
     simp only [List.length_append, List.length_cons, List.length_nil]
     omega
    ·have := ih x (List.mem_cons_of_mem _ hx); simp only [List.length_cons]; omega
theorem splitL_none {c : UInt8} : ∀ {w : List UInt8}, c ∉ w → splitL c w = [w]
 | [], _ => rfl
 | b :: w, h => by
  simp only [List.mem_cons, not_or] at h
  simp only [splitL]
  rw [if_neg (fun e => h.1 e.symm), splitL_none h.2]
  rfl
theorem splitL_app {c : UInt8} (r : List UInt8) : ∀ {w : List UInt8}, c ∉ w → splitL c (w ++ c :: r) = w :: splitL c r
 | [], _ => by
  show splitL c (c :: r) = _
  simp only [splitL]
  rw [if_pos trivial]
 | b :: w, h => by
  simp only [List.mem_cons, not_or] at h
  show splitL c (b :: (w ++ c :: r)) = _
  simp only [splitL]
  rw [if_neg (fun e => h.1 e.symm), splitL_app r h.2]
  rfl
theorem splitL_join {c : UInt8} : ∀ (ws : List (List UInt8)) (w : List UInt8), c ∉ w → (∀ x ∈ ws, c ∉ x) → splitL c (Lib.join (w :: ws) [c]) = w :: ws
 | [], w, h, _ => by rw [Lib.join_one]; exact splitL_none h
 | y :: ws, w, h, hs => by
  have ih := splitL_join ws y (hs y List.mem_cons_self) (fun x hx => hs x (List.mem_cons_of_mem _ hx))
  rw [Lib.join_cons] at ih
  rw [Lib.join_cons]
  have e : Lib.joinTail [c] (y :: ws) = c :: (y ++ Lib.joinTail [c] ws) := by simp [Lib.joinTail]
  rw [e, splitL_app _ h, ih]

theorem splitK_is (c : UInt8) : ∀ l : List UInt8, Lib.splitK [c] 0 (Lib.count l [c]) l = splitL c l
 | [] => by
  rw [Lib.count_miss (by simp [Lib.index])]
  rfl
 | b :: l => by
  have ih := splitK_is c l
  simp only [splitL]
  by_cases h : b = c
  ·subst h
   rw [Lib.count_cons_eq, Nat.add_comm, if_pos rfl]
   have hix : Lib.index (b :: l) [b] = 0 := by rw [Lib.index]; simp [List.isPrefixOf]
   rw [Lib.splitK, hix, if_neg (by decide)]
   show (b :: l).take (0 + 0) :: Lib.splitK [b] 0 (Lib.count l [b]) ((b :: l).drop (0 + 1)) = _
   rw [← ih]
   rfl
  ·rw [Lib.count_cons_ne b c l h, if_neg h, ← ih]
   have hp : ([c] : List UInt8).isPrefixOf (b :: l) = false := by simp [List.isPrefixOf, Ne.symm h]
   have hix : Lib.index (b :: l) [c] = if Lib.index l [c] == -1 then -1 else Lib.index l [c] + 1 := by rw [Lib.index, hp]; simp
   cases hk : Lib.count l [c] with
   | zero => rfl
   | succ k =>
    have hge := Lib.index_ge l [c]
    have hne : Lib.index l [c] ≠ -1 := fun e => by rw [Lib.count_miss e] at hk; omega
    obtain ⟨j, hj⟩ : ∃ j : Nat, Lib.index l [c] = j := ⟨(Lib.index l [c]).toNat, by omega⟩
    rw [Lib.splitK, Lib.splitK, hix, if_neg (fun e => hne (beq_iff_eq.1 e)), if_neg (fun e => by have := beq_iff_eq.1 e; omega), if_neg (fun e => hne (beq_iff_eq.1 e)), hj]
    have e1 : ((j : Int) + 1).toNat = j + 1 := by omega
    rw [e1, Int.toNat_natCast]
    show (b :: l).take (j + 1 + 0) :: Lib.splitK [c] 0 k ((b :: l).drop (j + 1 + 1)) = preP [b] (l.take (j + 0) :: Lib.splitK [c] 0 k (l.drop (j + 1)))
    rfl
theorem pieces_is (c : UInt8) (s : ByteArray) : piecesB c s = (splitL c s.data.toList).map B8 := by
 have h := Lib.splitB_data ⟨#[c]⟩ 0 (Lib.countB s ⟨#[c]⟩) s
 rw [show ((⟨#[c]⟩ : ByteArray).data.toList) = [c] from rfl] at h
 have h2 : (piecesB c s).map (·.data.toList) = splitL c s.data.toList := h.trans (splitK_is c _)
 rw [← h2, List.map_map]
 have e : (B8 ∘ fun s : ByteArray => s.data.toList) = id := by
  funext x
  exact B8_of x
 rw [e, List.map_id]

theorem extract_B8 (l : List UInt8) (a b : Nat) : (B8 l).extract a b = B8 ((l.drop a).take (b - a)) := by
 have h := Lib.extract_data (B8 l) a b
 rw [← B8_of ((B8 l).extract a b), h]
 rfl
theorem bt_B8 (l : List UInt8) (i : Nat) (h : i < l.length) : Go.Proofs.YtaeabbackmnioaaDoorW.PrintWords.bt (B8 l) (i : Int) = (l[i].toNat : Int) := by
 have h2 : (i : Int).toNat < (B8 l).size := by rw [B8_size]; omega
 rw [← Go.Proofs.YtaeabbackmnioaaDoorW.PrintWords.bt_at (B8 l) (i : Int) h2]
 rfl

theorem specSplit_loop (c : UInt8) (l : List UInt8) (hl : l.length ≤ 4000000) : ∀ (d i a k : Nat) (acc : List ByteArray), l.length - i = d → i ≤ l.length → a ≤ i → acc.length ≤ i → d < k →
  spec_l01Split.l0 k (B8 l) (c.toNat : Int) acc (a : Int) (i : Int) = some (acc ++ (preP ((l.drop a).take (i - a)) (splitL c (l.drop i))).map B8) := by
 have hsz := B8_size l
 intro d
 induction d with
 | zero =>
  intro i a k acc hd hi ha hacc hk
  obtain ⟨k, rfl⟩ : ∃ m, k = m + 1 := ⟨k - 1, by omega⟩
  obtain rfl : i = l.length := by omega
  simp only [spec_l01Split.l0]
  rw [hsz, if_neg (by omega), if_pos (by omega), if_pos (by omega), if_pos (by omega), Int.toNat_natCast, extract_B8, List.drop_length]
  simp [splitL, preP]
 | succ d ih =>
  intro i a k acc hd hi ha hacc hk
  obtain ⟨k, rfl⟩ : ∃ m, k = m + 1 := ⟨k - 1, by omega⟩
  have hil : i < l.length := by omega
  simp only [spec_l01Split.l0]
  rw [hsz, if_pos (by omega), if_pos (by omega), bt_B8 l i hil, List.drop_eq_getElem_cons hil]
  have hw : wrap64 ((i : Int) + 1) = ((i + 1 : Nat) : Int) := by rw [w64 _ (by omega) (by omega)]; omega
  have HW := Aside0.mk hw
  clear hw
  simp only [splitL]
  by_cases h : l[i] = c
  ·rw [if_pos (by rw [h]), if_pos h, if_pos (by omega), if_pos (by omega), if_pos (by omega), if_pos (by omega), HW.out, Int.toNat_natCast, Int.toNat_natCast, extract_B8, ih (i + 1) (i + 1) k _ (by omega) (by omega) (by omega) (by simp; omega) (by omega)]
   rw [Nat.sub_self, List.take_zero, preP_nil (splitL_ne _ _)]
   simp [preP]
  ·rw [if_neg (fun e => h (UInt8.toNat_inj.1 (by omega))), if_neg h, HW.out, ih (i + 1) a k acc (by omega) (by omega) (by omega) (by omega) (by omega)]
   rw [← preP_app]
   have e : (l.drop a).take (i + 1 - a) = (l.drop a).take (i - a) ++ [l[i]] := by
    rw [show i + 1 - a = (i - a) + 1 by omega, List.take_add_one, List.getElem?_drop, show a + (i - a) = i by omega, List.getElem?_eq_getElem hil]
    rfl
   rw [e]
theorem specSplit_is (c : UInt8) (l : List UInt8) (hl : l.length ≤ 4000000) (k : Nat) (hk : l.length < k) : spec_l01Split.f k (B8 l) (c.toNat : Int) = some ((splitL c l).map B8) := by
 have h := specSplit_loop c l hl l.length 0 0 k [] (by omega) (by omega) (by omega) (by simp) hk
 rw [List.drop_zero, Nat.sub_self, List.take_zero, preP_nil (splitL_ne _ _), List.nil_append] at h
 exact h

end Go.Proofs.YtaeabbackmnioaaDoor.K
end

section
/- The complex made by sets, the reference's loops. -/
namespace Go.Proofs.YtaeabbackmnioaaDoor.K
open Go.RowKit Go.Shelf Go.Proofs.YtaeabbackmnioaaDoor.Q Go.Proofs.YtaeabbackmnioaaDoorW.PrintWords Go.Proofs.YtaeabbackmnioaaDoorW.PrintLast Go.Proofs.YtaeabbackmnioaaDoorW.PrintMore
set_option linter.unusedVariables false
set_option linter.unusedSimpArgs false

theorem specMade_l1 (n : Int) (sets : List Int) (hl : sets.length ≤ 2097152) (x : Int) (acc : List Int) (ha : acc.length ≤ 1000000) (R : Nat) (b : Bool) (r : Int × List Int)
  (h : ∀ k, R ≤ k → spec_l01Made.l0 k n sets (wrap64 (x + 1)) n (if b then acc ++ [x] else acc) = some r) :
  ∀ (d i k : Nat), sets.length - i = d → i ≤ sets.length → R + d < k → (sets.drop i).any (fun s => decide (Go.bits .and .i64 x s = x)) = b →
  spec_l01Made.l1 k n sets x (i : Int) n acc = some r := by
 intro d
 induction d with
 | zero =>
  intro i k hd hi hk hb
  obtain ⟨k, rfl⟩ : ∃ m, k = m + 1 := ⟨k - 1, by omega⟩
  obtain rfl : i = sets.length := by omega
  simp at hb
  subst hb
  simp only [spec_l01Made.l1]
  rw [if_neg (by omega)]
  exact h k (by omega)
 | succ d ih =>
  intro i k hd hi hk hb
  obtain ⟨k, rfl⟩ : ∃ m, k = m + 1 := ⟨k - 1, by omega⟩
  simp only [spec_l01Made.l1]
  have hil : i < sets.length := by omega
  rw [List.drop_eq_getElem_cons hil, List.any_cons] at hb
  rw [if_pos (by omega), if_pos (by omega), rd_nat sets i hil, w64 ((i : Int) + 1) (by omega) (by omega), nat_succ]
  by_cases hx : Go.bits .and .i64 x sets[i] = x
  ·have e : b = true := by rw [← hb]; simp [hx]
   rw [e] at h
   rw [if_pos hx, if_pos (by omega)]
   exact h k (by omega)
  ·rw [if_neg hx]
   exact ih (i + 1) k (by omega) (by omega) (by omega) (by rw [← hb]; simp [hx])

end Go.Proofs.YtaeabbackmnioaaDoor.K
end

section
/- The complex made by whatever many sets: the reference's loops; it is a complex. -/
namespace Go.Proofs.YtaeabbackmnioaaDoor.K
open Go.RowKit Go.Shelf Go.Proofs.YtaeabbackmnioaaDoor.Q Go.Proofs.YtaeabbackmnioaaDoorW.PrintWords Go.Proofs.YtaeabbackmnioaaDoorW.PrintLast Go.Proofs.YtaeabbackmnioaaDoorW.PrintMore
set_option linter.unusedVariables false
set_option linter.unusedSimpArgs false

theorem specMade_g0 (n : Int) (hn : 1 ≤ n ∧ n ≤ 6) (sets : List Int) (hs : sets.length ≤ 2097152) (M : Nat) (hM : sets.length + 6 ≤ M) (p : Int → Bool) (hp : ∀ x, 1 ≤ x → x ≤ fullOf n → p x = sets.any (fun s => decide (Go.bits .and .i64 x s = x))) :
  ∀ (d m k : Nat), 2 ^ n.toNat - 1 - m = d → m ≤ 2 ^ n.toNat - 1 → M * d + 1 < k →
  spec_l01Made.l0 k n sets ((m : Int) + 1) n ((upTo m).filter p) = some (n, thoseL n p) := by
 have hF := full_range n hn
 have hFN := full_nat n
 obtain ⟨N, hN⟩ : ∃ N, N = 2 ^ n.toNat - 1 := ⟨_, rfl⟩
 have hTh : thoseL n p = (upTo N).filter p := by rw [hN]; rfl
 rw [← hN] at hFN
 rw [← hN, hTh]
 clear hN hTh
 intro d
 induction d with
 | zero =>
  intro m k hd hm hk
  obtain ⟨k, rfl⟩ : ∃ m, k = m + 1 := ⟨k - 1, by omega⟩
  simp only [spec_l01Made.l0]
  rw [specAll_is n (by omega) (by omega)]
  simp only [Option.bind_some]
  rw [if_neg (by omega)]
  obtain rfl : m = N := by omega
  rfl
 | succ d ih =>
  intro m k hd hm hk
  rw [Nat.mul_succ] at hk
  obtain ⟨Z, hZ⟩ : ∃ Z, Z = M * d := ⟨_, rfl⟩
  rw [← hZ] at hk ih
  clear hZ
  obtain ⟨k, rfl⟩ : ∃ m, k = m + 1 := ⟨k - 1, by omega⟩
  simp only [spec_l01Made.l0]
  rw [specAll_is n (by omega) (by omega)]
  simp only [Option.bind_some]
  rw [if_pos (by omega)]
  have hlen := upTo_filter_length p m
  have hq := hp ((m : Int) + 1) (by omega) (by omega)
  have HW : Aside0 (wrap64 ((m : Int) + 1 + 1) = ((m + 1 : Nat) : Int) + 1) := ⟨by rw [w64 _ (by omega) (by omega)]; omega⟩
  have e : (if p ((m : Int) + 1) = true then (upTo m).filter p ++ [(m : Int) + 1] else (upTo m).filter p) = (upTo (m + 1)).filter p := by
   rw [upTo_succ, List.filter_append]
   cases hc : p ((m : Int) + 1) <;> simp [hc]
  exact specMade_l1 n sets hs ((m : Int) + 1) ((upTo m).filter p) (by omega) (Z + 2) (p ((m : Int) + 1)) _ (fun k hk => by rw [HW.out, e]; exact ih (m + 1) k (by omega) (by omega) (by omega))
   sets.length 0 k (by omega) (by omega) (by omega) hq.symm
theorem specMade_g (n : Int) (hn : 1 ≤ n ∧ n ≤ 6) (sets : List Int) (hs : sets.length ≤ 2097152) (hr : ∀ s ∈ sets, 0 ≤ s ∧ s ≤ 63) (k : Nat) (hk : 64 * (sets.length + 6) ≤ k) : spec_l01Made.f k n sets = some (n, madeL n sets) := by
 have hF := full_range n hn
 have h2 := full_nat n
 have := specMade_g0 n hn sets hs (sets.length + 6) (Nat.le_refl _) (fun f => sets.any (inB f)) (fun x h1 h2 => by
  rw [Bool.eq_iff_iff, List.any_eq_true, List.any_eq_true]
  constructor
  ·rintro ⟨s, hm, h⟩
   rw [inB_is x s (by omega) (hr s hm)] at h
   exact ⟨s, hm, h⟩
  ·rintro ⟨s, hm, h⟩
   exact ⟨s, hm, by rw [inB_is x s (by omega) (hr s hm)]; exact h⟩) (2 ^ n.toNat - 1) 0 k (by omega) (by omega) (by
    have h3 : (sets.length + 6) * (2 ^ n.toNat - 1) ≤ (sets.length + 6) * 63 := Nat.mul_le_mul_left _ (by omega)
    omega)
 exact this

theorem bords_sub_64 : ∀ f : Fin 64, (bords (f.val : Int)).all (fun b => decide (1 ≤ b ∧ b ≤ (f.val : Int)) && inB b (f.val : Int)) = true := by decide +kernel
theorem bords_sub {f b : Int} (hf : 0 ≤ f ∧ f ≤ 63) (hb : b ∈ bords f) : 1 ≤ b ∧ b ≤ f ∧ inB b f = true := by
 have h := bords_sub_64 ⟨f.toNat, by omega⟩
 have e : ((f.toNat : Nat) : Int) = f := by omega
 rw [e, List.all_eq_true] at h
 have := h b hb
 simp only [Bool.and_eq_true, decide_eq_true_eq] at this
 exact ⟨this.1.1, this.1.2, this.2⟩
theorem those_isC {n : Int} (hn : 1 ≤ n ∧ n ≤ 6) {p : Int → Bool} (hp : ∀ f b, 1 ≤ f → f ≤ 63 → b ∈ bords f → p f = true → p b = true) : isC n (thoseL n p) = true := by
 have hF := full_range n hn
 have hs := those_asc n p
 have hlen : (thoseL n p).length ≤ 63 := by
  have h1 := upTo_filter_length p (2 ^ n.toNat - 1)
  have h2 := full_nat n
  show ((upTo (2 ^ n.toNat - 1)).filter p).length ≤ 63
  omega
 unfold isC
 rw [Bool.and_eq_true, Bool.and_eq_true]
 refine ⟨decide_eq_true hn, decide_eq_true fun j hj h => ?_, ?_⟩
 ·have hm := (mem_those n p _).1 (List.getElem_mem h)
  refine ⟨hm.1.1, hm.1.2, fun h0 => ?_⟩
  exact List.pairwise_iff_getElem.1 hs (j - 1) j (by omega) h (by omega)
 ·rw [List.all_eq_true]
  intro f hf
  obtain ⟨hfr, hfp⟩ := (mem_those n p f).1 hf
  unfold closedAt
  rw [List.all_eq_true]
  intro b hb
  obtain ⟨h1, h2, h3⟩ := bords_sub (f := f) (by omega) hb
  rw [has_asc _ b (by omega) hs]
  exact decide_eq_true ((mem_those n p b).2 ⟨⟨h1, by omega⟩, hp f b hfr.1 (by omega) hb hfp⟩)
theorem made_isC {n : Int} (hn : 1 ≤ n ∧ n ≤ 6) {sets : List Int} (hr : ∀ s ∈ sets, 0 ≤ s ∧ s ≤ 63) : isC n (madeL n sets) = true := by
 refine those_isC hn fun f b h1 h2 hb h => ?_
 obtain ⟨k1, k2, k3⟩ := bords_sub (f := f) (by omega) hb
 rw [List.any_eq_true] at h ⊢
 obtain ⟨s, hm, hs⟩ := h
 exact ⟨s, hm, inB_trans b f s (by omega) (by omega) (hr s hm) k3 hs⟩

end Go.Proofs.YtaeabbackmnioaaDoor.K
end

section
/- setOf: the set of the digits of a text. -/
namespace Go.Proofs.YtaeabbackmnioaaDoor.K
open Go.RowKit Go.Shelf Go.Proofs.YtaeabbackmnioaaDoorW.PrintWords Go.Proofs.YtaeabbackmnioaaDoorW.PrintLast Go.Proofs.YtaeabbackmnioaaDoorW.PrintMore
set_option linter.unusedVariables false
set_option linter.unusedSimpArgs false

/-- Whether a digit may follow, and the set with it. -/
def nextB (out : Int) (b : UInt8) : Bool := decide (0 ≤ (b.toNat : Int) - 48 ∧ (b.toNat : Int) - 48 ≤ 5) && (shr .i64 out ((b.toNat : Int) - 48) == 0)
def withD (out : Int) (b : UInt8) : Int := Go.bits .or .i64 out (shl .i64 1 ((b.toNat : Int) - 48))
/-- What setOf answers. -/
def setGo : List UInt8 → Int → Int × Bool
 | [], out => (out, out != 0)
 | b :: r, out => if nextB out b = true then setGo r (withD out b) else (0, false)
def setB (s : ByteArray) : Int × Bool := setGo s.data.toList 0

theorem withD_fin : ∀ (o : Fin 64) (v : Fin 6), 0 ≤ Go.bits .or .i64 (o.val : Int) (shl .i64 1 (v.val : Int)) ∧ Go.bits .or .i64 (o.val : Int) (shl .i64 1 (v.val : Int)) ≤ 63 := by decide
theorem withD_range {out : Int} {b : UInt8} (ho : 0 ≤ out ∧ out ≤ 63) (hb : 0 ≤ (b.toNat : Int) - 48 ∧ (b.toNat : Int) - 48 ≤ 5) : 0 ≤ withD out b ∧ withD out b ≤ 63 := by
 have h := withD_fin ⟨out.toNat, by omega⟩ ⟨b.toNat - 48, by omega⟩
 have e1 : ((out.toNat : Nat) : Int) = out := by omega
 have e2 : ((b.toNat - 48 : Nat) : Int) = (b.toNat : Int) - 48 := by omega
 rw [e1, e2] at h
 exact h

set_option maxHeartbeats 4000000 in
set_option maxRecDepth 100000 in
theorem setOf_calls (s : ByteArray) (w : World) (hs : s.size ≤ 1000000000000) :
  Calls Tryd.prog 45 #[.string s] w fun e w' => e = .returned (.tuple #[I (setB s).1, .bool (setB s).2]) ∧ Grew w w' := by
 have hcv := fun (w : World) (s : ByteArray) => Lib.run_convert_string_bytes (P := Tryd.prog) w 9 89 5 s Tryd.underlying9 Tryd.underlying89 Tryd.underlying5
 have hcell := fun j hj => Lib.bytesWorld_cell w 5 s j hj
 have HG : Aside0 (Grew w (Lib.bytesWorld w 5 s)) := ⟨Go.Joins.below_bytesWorld _ w _ s (Nat.le_refl _)⟩
 have HC := Aside0.mk hcell
 clear hcell
 obtain ⟨r, hr⟩ : ∃ r, r = setB s := ⟨_, rfl⟩
 rw [← hr]
 have HR := Aside0.mk hr
 clear hr
 go_enter Tryd.func45, Tryd.ntmps45
 go_wp2_with fail
 have HA : Aside0 ((w.heap.size < (Lib.bytesWorld w 5 s).heap.size)) := ⟨by rw [Lib.bytesWorld_size]; omega⟩
 generalize Lib.bytesWorld w 5 s = w1 at HG HC HA ⊢
 have HSZ : Aside0 (s.data.toList.length = s.size) := ⟨by rw [Array.length_toList]; rfl⟩
 go_loopg [4, 6, 7, 11] s.size (fun gg s4 s6 s7 s11 wr => ∃ (i : Nat) (o : Int), i ≤ s.size ∧ s.size - i ≤ gg ∧ s4 = .int .i64 o ∧ s11 = .int .i64 i ∧ Aside0 (0 ≤ o ∧ o ≤ 63) ∧ Aside0 (setGo (s.data.toList.drop i) o = r) ∧ Aside0 (Grew w1 wr))
 case atStart => exact ⟨0, 0, Nat.zero_le _, by omega, rfl, rfl, ⟨by omega⟩, ⟨HR.out.symm⟩, ⟨Grew.refl w1⟩⟩
 case round =>
  obtain ⟨i, o, hi1, hgg, rfl, rfl, HO, HV, HGr⟩ := hrel
  by_cases hlt : i < s.size
  ·have hltz : (i : Int) < (s.size : Int) := by omega
   have hil : i < s.data.toList.length := by rw [HSZ.out]; exact hlt
   have hx := (Below.cell HGr.out (p := ⟨w.heap.size, i, none⟩) HA.out).trans (HC.out i hlt)
   have hget : s.data.toList.getD i 0 = s.data.toList[i] := by rw [List.getD_eq_getElem?_getD, List.getElem?_eq_getElem hil]; rfl
   rw [hget] at hx
   have HV2 := Aside0.mk (show setGo (s.data.toList[i] :: s.data.toList.drop (i + 1)) o = r by rw [← List.drop_eq_getElem_cons hil]; exact HV.out)
   clear HV hget
   obtain ⟨b, hb⟩ : ∃ b, b = s.data.toList[i] := ⟨_, rfl⟩
   rw [← hb] at hx HV2
   clear hb hil
   obtain ⟨x, hxb⟩ : ∃ x : Int, x = (b.toNat : Int) := ⟨_, rfl⟩
   have hb255 : b.toNat < 256 := b.toNat_lt
   have hxr : 0 ≤ x ∧ x ≤ 255 := by omega
   rw [← hxb] at hx
   have hw1 : IntKind.wrap .i64 x = x := by rw [IntKind.wrap_i64]; omega
   have hw2 : IntKind.wrap .i64 (x - 48) = x - 48 := by rw [IntKind.wrap_i64]; omega
   have HXB := Aside0.mk hxb
   clear hxb hb255
   cases hwi : decide (0 ≤ x - 48 ∧ x - 48 ≤ 5) with
   | false =>
    have HV3 : Aside0 (r = (0, false)) := ⟨by
     have := HV2.out
     rw [setGo, if_neg (by unfold nextB; rw [← HXB.out, hwi]; simp)] at this
     exact this.symm⟩
    have HW := Aside0.mk (within_calls (x - 48) 0 5 false hwi)
    clear hwi HV2
    go_wp2_with fail
    refine (HW.out _).mono ?_
    rintro e w2 ⟨rfl, hG2⟩
    have HG2 := Aside0.mk (Grew.trans HGr.out hG2)
    clear hG2
    go_wp2_with fail
    go_ret2
    rw [HV3.out]
    exact ⟨rfl, Grew.trans HG.out HG2.out⟩
   | true =>
    have hwr := of_decide_eq_true hwi
    have HW := Aside0.mk (within_calls (x - 48) 0 5 true hwi)
    have hneg : ¬ (x - 48 < 0) := by omega
    have hs1 : ∀ W : World, (Op.shift .shr .i64 o .i64 (x - 48)).run Tryd.prog W = .ok (.int .i64 (shr .i64 o (x - 48))) W := fun W => by
     unfold Op.shift
     rw [if_neg hneg]
     show Result.ok (Value.int .i64 (o.fdiv (2 ^ min (x - 48).toNat IntKind.i64.bits))) W = _
     rw [Int.fdiv_eq_ediv_of_nonneg _ (by have := (two_pow (min (x - 48).toNat IntKind.i64.bits) _ (Nat.le_refl _)).1; omega)]
     rfl
    have hs2 : ∀ W : World, (Op.shift .shl .i64 1 .i64 (x - 48)).run Tryd.prog W = .ok (.int .i64 (shl .i64 1 (x - 48))) W := fun W => by unfold Op.shift; rw [if_neg hneg]; rfl
    obtain ⟨y, hy⟩ : ∃ y, y = shr .i64 o (x - 48) := ⟨_, rfl⟩
    obtain ⟨z, hz⟩ : ∃ z, z = Go.bits .or .i64 o (shl .i64 1 (x - 48)) := ⟨_, rfl⟩
    have HY := Aside0.mk hy
    have HZ := Aside0.mk hz
    have HWR := Aside0.mk hwr
    rw [← hy] at hs1
    clear hy hz hwi hwr hneg
    by_cases hy0 : y = 0
    ·have HV3 : Aside0 (setGo (s.data.toList.drop (i + 1)) z = r) := ⟨by
      have := HV2.out
      rw [setGo, if_pos (by unfold nextB; rw [← HXB.out, ← HY.out]; simp [hy0]; have := HWR.out; omega)] at this
      rw [HZ.out, HXB.out]
      exact this⟩
     have HZR : Aside0 (0 ≤ z ∧ z ≤ 63) := ⟨by rw [HZ.out, HXB.out]; exact withD_range HO.out (by rw [← HXB.out]; exact HWR.out)⟩
     subst hy0
     clear HV2
     go_wp2_with fail
     refine (HW.out _).mono ?_
     rintro e w2 ⟨rfl, hG2⟩
     have HG2 := Aside0.mk (Grew.trans HGr.out hG2)
     clear hG2
     go_wp2_with fail
     go_roundg (s.size - (i + 1))
     case measure => omega
     case rel => exact ⟨i + 1, z, by omega, by omega, by rw [HZ.out], by push_cast; rfl, HZR, HV3, HG2⟩
    ·have HV3 : Aside0 (r = (0, false)) := ⟨by
      have := HV2.out
      rw [setGo, if_neg (by unfold nextB; rw [← HXB.out, ← HY.out]; simp [hy0])] at this
      exact this.symm⟩
     have hyb : (y != 0) = true := bne_iff_ne.2 hy0
     clear HV2
     go_wp2_with fail
     refine (HW.out _).mono ?_
     rintro e w2 ⟨rfl, hG2⟩
     have HG2 := Aside0.mk (Grew.trans HGr.out hG2)
     clear hG2
     go_wp2_with fail
     go_ret2
     rw [HV3.out]
     exact ⟨rfl, Grew.trans HG.out HG2.out⟩
  ·have hnz : ¬ ((i : Int) < (s.size : Int)) := by omega
   have hie : i = s.data.toList.length := by rw [HSZ.out]; omega
   have HV3 : Aside0 (r = (o, o != 0)) := ⟨by
    have := HV.out
    rw [hie, List.drop_length, setGo] at this
    exact this.symm⟩
   clear hie
   go_wp2_with fail
   go_ret2
   rw [HV3.out]
   exact ⟨rfl, Grew.trans HG.out HGr.out⟩

end Go.Proofs.YtaeabbackmnioaaDoor.K
end

section
/- Written by a program of this session (myprint.py over the kit's print). -/
namespace Go.Proofs.YtaeabbackmnioaaDoor.Q
open Go.RowKit Go.Proofs.YtaeabbackmnioaaDoorW.PrintWords Go.Proofs.YtaeabbackmnioaaDoorW.PrintLast Go.Proofs.YtaeabbackmnioaaDoorW.PrintMore
attribute [local go_sem] max2_int min2_int max_two min_two max_three min_three max_four min_four   -- for this text's walks alone
set_option linter.unusedVariables false
set_option linter.unusedSimpArgs false

/-! ### spec_l01Number: function 37 -/
mutual
def spec_l01Number.j0 : Nat → ByteArray → Bool → Option (Int)
 | 0, _, _ => none
 | k + 1, x0, x22 => if x22 = true then (some (-1)) else (spec_l01Number.l0 k x0 0 0)
def spec_l01Number.l0 : Nat → ByteArray → Int → Int → Option (Int)
 | 0, _, _, _ => none
 | k + 1, x0, x3, x4 => if x4 < (x0.size : Int) then (if 0 ≤ x4 then (if (bt x0 x4) < 48 then (some (-1)) else (if (bt x0 x4) > 57 then (some (-1)) else (spec_l01Number.l0 k x0 (wrap64 ((wrap64 (x3 * 10)) + (((bt x0 x4) - 48) % 256))) (wrap64 (x4 + 1))))) else (none)) else (some x3)
end
def spec_l01Number.f (k : Nat) (a0 : ByteArray) : Option (Int) := if (a0.size : Int) = 0 then (spec_l01Number.j0 k a0 true) else (if (a0.size : Int) > 9 then (spec_l01Number.j0 k a0 true) else (if (a0.size : Int) > 1 then (if 0 < (a0.size : Int) then (spec_l01Number.j0 k a0 ((bt a0 0) == 48)) else (none)) else (spec_l01Number.j0 k a0 false)))
theorem spec_l01Number.mono_l : ∀ k, (∀ y0 y1, LeO (spec_l01Number.j0 k y0 y1) (spec_l01Number.j0 (k + 1) y0 y1)) ∧ (∀ y0 y1 y2, LeO (spec_l01Number.l0 k y0 y1 y2) (spec_l01Number.l0 (k + 1) y0 y1 y2))
 | 0 => ⟨fun _ _ r h => by simp [spec_l01Number.j0] at h, fun _ _ _ r h => by simp [spec_l01Number.l0] at h⟩
 | k + 1 => by
  obtain ⟨ih0, ih1⟩ := spec_l01Number.mono_l k
  refine ⟨?_, ?_⟩
  ·intro y0 y1
   unfold spec_l01Number.j0
   repeat' first
   | (with_reducible exact ih0 _ _)
   | (with_reducible exact ih1 _ _ _)
   | (with_reducible exact LeO.refl _)
   | (with_reducible exact LeO.none _)
   | (with_reducible refine LeO.ite ?_ ?_)
   | (with_reducible refine LeO.bind ?_ (fun _ => ?_))
   | exact ih0 _ _
   | exact ih1 _ _ _
   | exact LeO.none _
   | refine LeO.ite ?_ ?_
   | refine LeO.bind ?_ (fun _ => ?_)
  ·intro y0 y1 y2
   unfold spec_l01Number.l0
   repeat' first
   | (with_reducible exact ih0 _ _)
   | (with_reducible exact ih1 _ _ _)
   | (with_reducible exact LeO.refl _)
   | (with_reducible exact LeO.none _)
   | (with_reducible refine LeO.ite ?_ ?_)
   | (with_reducible refine LeO.bind ?_ (fun _ => ?_))
   | exact ih0 _ _
   | exact ih1 _ _ _
   | exact LeO.none _
   | refine LeO.ite ?_ ?_
   | refine LeO.bind ?_ (fun _ => ?_)
theorem spec_l01Number.mono : ∀ a0 k, LeO (spec_l01Number.f k a0) (spec_l01Number.f (k + 1) a0) := by
 intro a0 k
 obtain ⟨ih0, ih1⟩ := spec_l01Number.mono_l k
 unfold spec_l01Number.f
 repeat' first
   | (with_reducible exact ih0 _ _)
   | (with_reducible exact ih1 _ _ _)
   | (with_reducible exact LeO.refl _)
   | (with_reducible exact LeO.none _)
   | (with_reducible refine LeO.ite ?_ ?_)
   | (with_reducible refine LeO.bind ?_ (fun _ => ?_))
   | exact ih0 _ _
   | exact ih1 _ _ _
   | exact LeO.none _
   | refine LeO.ite ?_ ?_
   | refine LeO.bind ?_ (fun _ => ?_)
set_option maxHeartbeats 8000000 in
set_option maxRecDepth 100000 in
theorem spec_l01Number.calls (k : Nat) (a0 : ByteArray) (r : Int) (w : World) (h : spec_l01Number.f k a0 = some r) :
  Calls Tryd.prog 37 #[.string a0] w fun e w' => e = .returned (.int .i64 r) ∧ Drawn0 w w' := by
 have H : (if (a0.size : Int) = 0 then (spec_l01Number.j0 k a0 true) else (if (a0.size : Int) > 9 then (spec_l01Number.j0 k a0 true) else (if (a0.size : Int) > 1 then (if 0 < (a0.size : Int) then (spec_l01Number.j0 k a0 ((bt a0 0) == 48)) else (none)) else (spec_l01Number.j0 k a0 false)))) = some r := h
 clear h
 have HC2 := Aside0.mk H
 clear H
 go_enter Tryd.func37, Tryd.ntmps37
 go_upto_region 1 with (fail)
 go_cut [22] (fun v22 wc => ∃ (kq : Nat) (x22_1 : Bool), v22 = .bool x22_1 ∧ Aside0 (spec_l01Number.j0 kq a0 x22_1 = some r) ∧ Aside0 (kq ≤ k) ∧ Drawn0 w wc)
 case first =>
  have H := HC2.out
  clear HC2
  by_cases c3 : (a0.size : Int) = 0
  ·rw [if_pos c3] at H
   have c3b0 : ((a0.size : Int) == 0) = true := beq_iff_eq.mpr c3
   have c3b1 : ((a0.size : Int) != 0) = false := bne_eq_false_iff_eq.mpr c3
   clear c3
   (first | rw [c3b0] | (simp only [i64_w, i32_w]; rw [c3b0]) | skip)
   have H' := Aside0.mk H
   clear H
   go_wp2
   go_meet
   case rel => exact ⟨_, (true), (by first | rfl | (simp; done) | (simp [*]; done)), H', ⟨by first | omega | exact Nat.le_refl _⟩, by repeat (first | exact Drawn0.refl _ | apply Drawn0.step)⟩
  ·rw [if_neg c3] at H
   have c3b0 : ((a0.size : Int) == 0) = false := beq_eq_false_iff_ne.mpr c3
   have c3b1 : ((a0.size : Int) != 0) = true := bne_iff_ne.mpr c3
   (first | rw [c3b0] | (simp only [i64_w, i32_w]; rw [c3b0]) | skip)
   by_cases c4 : (a0.size : Int) > 9
   ·rw [if_pos c4] at H
    have c4b0 : decide (9 < (a0.size : Int)) = true := decide_eq_true c4
    have c4b1 : decide (9 < a0.size) = true := decide_eq_true (by omega)
    clear c4
    have H' := Aside0.mk H
    clear H
    go_wp2
    go_meet
    case rel => exact ⟨_, (true), (by first | rfl | (simp; done) | (simp [*]; done)), H', ⟨by first | omega | exact Nat.le_refl _⟩, by repeat (first | exact Drawn0.refl _ | apply Drawn0.step)⟩
   ·rw [if_neg c4] at H
    have c4b0 : decide (9 < (a0.size : Int)) = false := decide_eq_false c4
    have c4b1 : decide (9 < a0.size) = false := decide_eq_false (by omega)
    clear c4
    by_cases c5 : (a0.size : Int) > 1
    ·rw [if_pos c5] at H
     have c5b0 : decide (1 < (a0.size : Int)) = true := decide_eq_true c5
     have c5b1 : decide (1 < a0.size) = true := decide_eq_true (by omega)
     clear c5
     by_cases c6 : 0 < (a0.size : Int)
     ·rw [if_pos c6] at H
      have c6b0 : decide (0 < (a0.size : Int)) = true := decide_eq_true c6
      have c6b1 : decide (0 < a0.size) = true := decide_eq_true (by omega)
      clear c6
      have H' := Aside0.mk H
      clear H
      have p7 : 0 ≤ (0 : Int) := (by omega)
      have q7 : 0 < a0.size := (by have : (0 : Int) < (a0.size : Int) := of_decide_eq_true (by first | (with_reducible assumption) | assumption); omega)
      have hx7 : ∀ h : 0 < a0.size, ((a0[0]'h).toNat : Int) = bt a0 0 := bt_at a0 0
      clear p7
      have qi7 : (0 < (a0.size : Int)) = True := eq_true (of_decide_eq_true (by first | (with_reducible assumption) | assumption))
      replace q7 := eq_true q7
      go_wp2
      go_meet
      case rel => exact ⟨_, (((bt a0 0) == 48)), (by first | rfl | (simp; done) | (simp [*]; done)), H', ⟨by first | omega | exact Nat.le_refl _⟩, by repeat (first | exact Drawn0.refl _ | apply Drawn0.step)⟩
     ·rw [if_neg c6] at H
      exact absurd H (by simp)
    ·rw [if_neg c5] at H
     have c5b0 : decide (1 < (a0.size : Int)) = false := decide_eq_false c5
     have c5b1 : decide (1 < a0.size) = false := decide_eq_false (by omega)
     clear c5
     have H' := Aside0.mk H
     clear H
     go_wp2
     go_meet
     case rel => exact ⟨_, (false), (by first | rfl | (simp; done) | (simp [*]; done)), H', ⟨by first | omega | exact Nat.le_refl _⟩, by repeat (first | exact Drawn0.refl _ | apply Drawn0.step)⟩
 case rest =>
  clear HC2
  try clear p2
  try clear c3
  try clear c3b0
  try clear c3b1
  try clear c4
  try clear c4b0
  try clear c4b1
  try clear c5
  try clear c5b0
  try clear c5b1
  try clear c6
  try clear c6b0
  try clear c6b1
  try clear p7
  try clear q7
  try clear hx7
  try clear qi7
  try clear p7
  try clear q7
  obtain ⟨kq, x22_1, rfl, HA, HJ1, ⟨mc1, rfl⟩⟩ := hcut
  cases kq with
  | zero => exact absurd HA.out (by simp [spec_l01Number.j0])
  | succ kj1 =>
   have H := HA.out
   clear HA
   simp only [spec_l01Number.j0] at H
   by_cases c8 : x22_1 = true
   ·subst c8
    have H1 : (some (-1)) = some r := by rw [if_pos rfl] at H; exact H
    clear H
    have H := H1
    clear H1
    obtain rfl := Option.some.inj H
    go_wp2
    go_ret
    exact ⟨by first | rfl | (simp; done) | (simp [*]; done), by repeat (first | exact Drawn0.refl _ | apply Drawn0.step)⟩
   ·replace c8 := Bool.eq_false_iff.mpr c8
    subst c8
    have H1 : (spec_l01Number.l0 kj1 a0 0 0) = some r := by rw [if_neg (show ¬ (false = true) by decide)] at H; exact H
    clear H
    have H := H1
    clear H1
    have H' := Aside0.mk H
    clear H
    go_wp2
    go_loopg [3, 4] kj1 (fun kq v3 v4 w' => ∃ (x3_2 : Int) (x4_2 : Int), v3 = .int .i64 x3_2 ∧ v4 = .int .i64 x4_2 ∧ Aside0 (spec_l01Number.l0 kq a0 x3_2 x4_2 = some r) ∧ Aside0 (kq ≤ kj1) ∧ Drawn0 w w')
    case atStart => exact ⟨(0), (0), (by first | rfl | (simp; done) | (simp [*]; done)), (by first | rfl | (simp; done) | (simp [*]; done)), H', ⟨Nat.le_refl _⟩, by repeat (first | exact Drawn0.refl _ | apply Drawn0.step)⟩
    case round =>
     clear H'
     try clear c1
     try clear p2
     try clear c3
     try clear c3b0
     try clear c3b1
     try clear c4
     try clear c4b0
     try clear c4b1
     try clear c5
     try clear c5b0
     try clear c5b1
     try clear c6
     try clear c6b0
     try clear c6b1
     try clear p7
     try clear q7
     try clear hx7
     try clear qi7
     try clear c8
     try clear p2
     try clear p7
     try clear q7
     obtain ⟨x3_2, x4_2, rfl, rfl, HA, HK2, ⟨m2, rfl⟩⟩ := hrel
     cases gk with
     | zero => exact absurd HA.out (by simp [spec_l01Number.l0])
     | succ k2 =>
      have H := HA.out
      clear HA
      simp only [spec_l01Number.l0] at H
      by_cases c9 : x4_2 < (a0.size : Int)
      ·rw [if_pos c9] at H
       have c9b0 : decide (x4_2 < (a0.size : Int)) = true := decide_eq_true c9
       clear c9
       by_cases c10 : 0 ≤ x4_2
       ·rw [if_pos c10] at H
        have c10b0 : decide (0 ≤ x4_2) = true := decide_eq_true c10
        clear c10
        by_cases c12 : (bt a0 x4_2) < 48
        ·rw [if_pos c12] at H
         have c12b0 : decide ((bt a0 x4_2) < 48) = true := decide_eq_true c12
         clear c12
         obtain rfl := Option.some.inj H
         have p11 : 0 ≤ (x4_2 : Int) := of_decide_eq_true (by first | (with_reducible assumption) | assumption)
         have q11 : x4_2 < (a0.size : Int) := of_decide_eq_true (by first | (with_reducible assumption) | assumption)
         have hx11 := bt_at a0 x4_2
         replace p11 := eq_true p11
         replace q11 := eq_true q11
         go_wp2
         go_ret
         exact ⟨by first | rfl | (simp; done) | (simp [*]; done), by repeat (first | exact Drawn0.refl _ | apply Drawn0.step)⟩
        ·rw [if_neg c12] at H
         have c12b0 : decide ((bt a0 x4_2) < 48) = false := decide_eq_false c12
         clear c12
         by_cases c14 : (bt a0 x4_2) > 57
         ·rw [if_pos c14] at H
          have c14b0 : decide (57 < (bt a0 x4_2)) = true := decide_eq_true c14
          clear c14
          obtain rfl := Option.some.inj H
          have p11 : 0 ≤ (x4_2 : Int) := of_decide_eq_true (by first | (with_reducible assumption) | assumption)
          have q11 : x4_2 < (a0.size : Int) := of_decide_eq_true (by first | (with_reducible assumption) | assumption)
          have hx11 := bt_at a0 x4_2
          replace p11 := eq_true p11
          replace q11 := eq_true q11
          have p13 : 0 ≤ (x4_2 : Int) := of_decide_eq_true (by first | (with_reducible assumption) | assumption)
          have q13 : x4_2 < (a0.size : Int) := of_decide_eq_true (by first | (with_reducible assumption) | assumption)
          have hx13 := bt_at a0 x4_2
          replace p13 := eq_true p13
          replace q13 := eq_true q13
          go_wp2
          go_ret
          exact ⟨by first | rfl | (simp; done) | (simp [*]; done), by repeat (first | exact Drawn0.refl _ | apply Drawn0.step)⟩
         ·rw [if_neg c14] at H
          have c14b0 : decide (57 < (bt a0 x4_2)) = false := decide_eq_false c14
          clear c14
          have H' := Aside0.mk H
          clear H
          have p11 : 0 ≤ (x4_2 : Int) := of_decide_eq_true (by first | (with_reducible assumption) | assumption)
          have q11 : x4_2 < (a0.size : Int) := of_decide_eq_true (by first | (with_reducible assumption) | assumption)
          have hx11 := bt_at a0 x4_2
          replace p11 := eq_true p11
          replace q11 := eq_true q11
          have p13 : 0 ≤ (x4_2 : Int) := of_decide_eq_true (by first | (with_reducible assumption) | assumption)
          have q13 : x4_2 < (a0.size : Int) := of_decide_eq_true (by first | (with_reducible assumption) | assumption)
          have hx13 := bt_at a0 x4_2
          replace p13 := eq_true p13
          replace q13 := eq_true q13
          have p15 : 0 ≤ (x4_2 : Int) := of_decide_eq_true (by first | (with_reducible assumption) | assumption)
          have q15 : x4_2 < (a0.size : Int) := of_decide_eq_true (by first | (with_reducible assumption) | assumption)
          have hx15 := bt_at a0 x4_2
          replace p15 := eq_true p15
          replace q15 := eq_true q15
          go_wp2
          go_roundg k2
          case measure => have := HJ1.out; have := HK2.out; omega
          case rel => exact ⟨(wrap64 ((wrap64 (x3_2 * 10)) + (((bt a0 x4_2) - 48) % 256))), (wrap64 (x4_2 + 1)), (by first | rfl | (simp; done) | (simp [*]; done)), (by first | rfl | (simp; done) | (simp [*]; done)), H', ⟨by have := HJ1.out; have := HK2.out; omega⟩, by repeat (first | exact Drawn0.refl _ | apply Drawn0.step)⟩
       ·rw [if_neg c10] at H
        exact absurd H (by simp)
      ·rw [if_neg c9] at H
       have c9b0 : decide (x4_2 < (a0.size : Int)) = false := decide_eq_false c9
       clear c9
       obtain rfl := Option.some.inj H
       go_wp2
       go_ret
       exact ⟨by first | rfl | (simp; done) | (simp [*]; done), by repeat (first | exact Drawn0.refl _ | apply Drawn0.step)⟩

end Go.Proofs.YtaeabbackmnioaaDoor.Q
end

section
/- Written by a program of this session (myprint.py over the kit's print). -/
namespace Go.Proofs.YtaeabbackmnioaaDoor.Q
open Go.RowKit Go.Proofs.YtaeabbackmnioaaDoorW.PrintWords Go.Proofs.YtaeabbackmnioaaDoorW.PrintLast Go.Proofs.YtaeabbackmnioaaDoorW.PrintMore
attribute [local go_sem] max2_int min2_int max_two min_two max_three min_three max_four min_four   -- for this text's walks alone
set_option linter.unusedVariables false
set_option linter.unusedSimpArgs false

/-! ### spec_l01Read: function 17 -/
mutual
def spec_l01Read.j0 : Nat → ByteArray → List ByteArray → Bool → Option (Int × List Int × Bool)
 | 0, _, _, _ => none
 | k + 1, x0, x4, x24 => if x24 = true then (some (0, ([] : List Int), false)) else (if 0 < (x4.length : Int) then ((spec_l01Number.f k (rdOf ByteArray.empty x4 0)).bind fun t234 => ((some (([] : List Int) : List Int)).bind fun y235 => (if 1 < (x4.length : Int) then (if (rdOf ByteArray.empty x4 1).toList = ([] : List UInt8) then ((spec_l01Made.f k t234 y235).bind fun bt239 => ((spec_l01Text.f k bt239.1 bt239.2).bind fun t244 => (some (bt239.1, bt239.2, (t244.toList == x0.toList))))) else ((spec_l01Split.f k (rdOf ByteArray.empty x4 1) 44).bind fun t246 => (spec_l01Read.l0 k x0 t234 y235 t246 0))) else (none)))) else (none))
def spec_l01Read.l0 : Nat → ByteArray → Int → List Int → List ByteArray → Int → Option (Int × List Int × Bool)
 | 0, _, _, _, _, _ => none
 | k + 1, x0, x5, x6, x7, x8 => if x8 < (x7.length : Int) then (if 0 ≤ x8 then ((spec_l01Set.f k (rdOf ByteArray.empty x7 x8) x5).bind fun bt250 => (if bt250.2 = true then (if x6.length < 17592186044416 then (spec_l01Read.l0 k x0 x5 (x6 ++ [bt250.1]) x7 (wrap64 (x8 + 1))) else (none)) else (some (0, ([] : List Int), false)))) else (none)) else ((spec_l01Made.f k x5 x6).bind fun bt255 => ((spec_l01Text.f k bt255.1 bt255.2).bind fun t260 => (some (bt255.1, bt255.2, (t260.toList == x0.toList)))))
end
def spec_l01Read.f (k : Nat) (a0 : ByteArray) : Option (Int × List Int × Bool) := (spec_l01Split.f k a0 58).bind fun t227 => (if (t227.length : Int) = 2 then (if 0 < (t227.length : Int) then ((spec_l01Number.f k (rdOf ByteArray.empty t227 0)).bind fun t231 => ((spec_l01In.f t231 1 6).bind fun t232 => (spec_l01Read.j0 k a0 t227 (!t232)))) else (none)) else (spec_l01Read.j0 k a0 t227 true))
theorem spec_l01Read.mono_l : ∀ k, (∀ y0 y1 y2, LeO (spec_l01Read.j0 k y0 y1 y2) (spec_l01Read.j0 (k + 1) y0 y1 y2)) ∧ (∀ y0 y1 y2 y3 y4, LeO (spec_l01Read.l0 k y0 y1 y2 y3 y4) (spec_l01Read.l0 (k + 1) y0 y1 y2 y3 y4))
 | 0 => ⟨fun _ _ _ r h => by simp [spec_l01Read.j0] at h, fun _ _ _ _ _ r h => by simp [spec_l01Read.l0] at h⟩
 | k + 1 => by
  obtain ⟨ih0, ih1⟩ := spec_l01Read.mono_l k
  refine ⟨?_, ?_⟩
  ·intro y0 y1 y2
   unfold spec_l01Read.j0
   repeat' first
   | (with_reducible exact ih0 _ _ _)
   | (with_reducible exact ih1 _ _ _ _ _)
   | (with_reducible exact spec_l01Made.mono _ _ _)
   | (with_reducible exact spec_l01Number.mono _ _)
   | (with_reducible exact spec_l01Set.mono _ _ _)
   | (with_reducible exact spec_l01Split.mono _ _ _)
   | (with_reducible exact spec_l01Text.mono _ _ _)
   | (with_reducible exact LeO.refl _)
   | (with_reducible exact LeO.none _)
   | (with_reducible refine LeO.ite ?_ ?_)
   | (with_reducible refine LeO.bind ?_ (fun _ => ?_))
   | exact ih0 _ _ _
   | exact ih1 _ _ _ _ _
   | exact spec_l01Made.mono _ _ _
   | exact spec_l01Number.mono _ _
   | exact spec_l01Set.mono _ _ _
   | exact spec_l01Split.mono _ _ _
   | exact spec_l01Text.mono _ _ _
   | exact LeO.none _
   | refine LeO.ite ?_ ?_
   | refine LeO.bind ?_ (fun _ => ?_)
  ·intro y0 y1 y2 y3 y4
   unfold spec_l01Read.l0
   repeat' first
   | (with_reducible exact ih0 _ _ _)
   | (with_reducible exact ih1 _ _ _ _ _)
   | (with_reducible exact spec_l01Made.mono _ _ _)
   | (with_reducible exact spec_l01Number.mono _ _)
   | (with_reducible exact spec_l01Set.mono _ _ _)
   | (with_reducible exact spec_l01Split.mono _ _ _)
   | (with_reducible exact spec_l01Text.mono _ _ _)
   | (with_reducible exact LeO.refl _)
   | (with_reducible exact LeO.none _)
   | (with_reducible refine LeO.ite ?_ ?_)
   | (with_reducible refine LeO.bind ?_ (fun _ => ?_))
   | exact ih0 _ _ _
   | exact ih1 _ _ _ _ _
   | exact spec_l01Made.mono _ _ _
   | exact spec_l01Number.mono _ _
   | exact spec_l01Set.mono _ _ _
   | exact spec_l01Split.mono _ _ _
   | exact spec_l01Text.mono _ _ _
   | exact LeO.none _
   | refine LeO.ite ?_ ?_
   | refine LeO.bind ?_ (fun _ => ?_)
theorem spec_l01Read.mono : ∀ a0 k, LeO (spec_l01Read.f k a0) (spec_l01Read.f (k + 1) a0) := by
 intro a0 k
 obtain ⟨ih0, ih1⟩ := spec_l01Read.mono_l k
 unfold spec_l01Read.f
 repeat' first
   | (with_reducible exact ih0 _ _ _)
   | (with_reducible exact ih1 _ _ _ _ _)
   | (with_reducible exact spec_l01Made.mono _ _ _)
   | (with_reducible exact spec_l01Number.mono _ _)
   | (with_reducible exact spec_l01Set.mono _ _ _)
   | (with_reducible exact spec_l01Split.mono _ _ _)
   | (with_reducible exact spec_l01Text.mono _ _ _)
   | (with_reducible exact LeO.refl _)
   | (with_reducible exact LeO.none _)
   | (with_reducible refine LeO.ite ?_ ?_)
   | (with_reducible refine LeO.bind ?_ (fun _ => ?_))
   | exact ih0 _ _ _
   | exact ih1 _ _ _ _ _
   | exact spec_l01Made.mono _ _ _
   | exact spec_l01Number.mono _ _
   | exact spec_l01Set.mono _ _ _
   | exact spec_l01Split.mono _ _ _
   | exact spec_l01Text.mono _ _ _
   | exact LeO.none _
   | refine LeO.ite ?_ ?_
   | refine LeO.bind ?_ (fun _ => ?_)
set_option maxHeartbeats 8000000 in
set_option maxRecDepth 100000 in
theorem spec_l01Read.calls (k : Nat) (a0 : ByteArray) (r1 : Int) (r2 : List Int) (r3 : Bool) (w : World) (h : spec_l01Read.f k a0 = some (r1, r2, r3)) :
  Calls Tryd.prog 17 #[.string a0] w fun e w' => ∃ v1_ : Value, e = .returned (.tuple #[.agg #[.int .i64 r1, v1_], .bool r3]) ∧ Kd.R (Kd.int .i64) 2 w' w.heap.size (fun _ => True) v1_ r2 ∧ Below w.heap.size w w' := by
 have hu24 := Tryd.underlying24
 have HB := Aside0.mk (Below.refl w.heap.size w)
 have H : ((spec_l01Split.f k a0 58).bind fun t227 => (if (t227.length : Int) = 2 then (if 0 < (t227.length : Int) then ((spec_l01Number.f k (rdOf ByteArray.empty t227 0)).bind fun t231 => ((spec_l01In.f t231 1 6).bind fun t232 => (spec_l01Read.j0 k a0 t227 (!t232)))) else (none)) else (spec_l01Read.j0 k a0 t227 true))) = some (r1, r2, r3) := h
 clear h
 replace H := Option.bind_eq_some_iff.mp H
 obtain ⟨t227, A20, H⟩ := H
 replace H : (if (t227.length : Int) = 2 then (if 0 < (t227.length : Int) then ((spec_l01Number.f k (rdOf ByteArray.empty t227 0)).bind fun t231 => ((spec_l01In.f t231 1 6).bind fun t232 => (spec_l01Read.j0 k a0 t227 (!t232)))) else (none)) else (spec_l01Read.j0 k a0 t227 true)) = some (r1, r2, r3) := H
 have A2 := Aside0.mk A20
 clear A20
 have HC3 := Aside0.mk H
 clear H
 go_enter Tryd.func17, Tryd.ntmps17
 go_upto_region 2 with (first | ((with_reducible refine gate_dst (N := 2) rfl ?_); refine box_event ?hg (N := 2) ?hd (cs := #[.int .i64 0, .slice none 0 0]) (t := 24) ?hr ?_; (case hd => rfl); (case hg => rfl); (case hr => first | (go_simp; done) | (go_simp; rfl)); intro gb226 hg w4 hbox hb; have n0_ := Aside0.mk (below_step (by repeat (first | (with_reducible first | exact HB.out | apply below_alloc | apply pw_below_drewN | apply below_drew1) | exact HB.out)) hb); have n1_ := Aside0.mk (hbox); have n2_ := Aside0.mk ((by rw [hg]; exact (below_size (by repeat (first | (with_reducible first | exact HB.out | apply below_alloc | apply pw_below_drewN | apply below_drew1) | exact HB.out))) : w.heap.size ≤ gb226)); have n3_ := Aside0.mk ((by rw [hg]; exact (below_size (by repeat (first | (with_reducible first | exact HB.out | apply below_alloc | apply pw_below_drewN | apply below_drew1) | exact HB.out))) : w.heap.size ≤ gb226)); clear HB; have HB := n0_; have BK226 := n1_; have GW226 := n2_; have GE226 := n3_; clear n0_ n1_ n2_ n3_; clear hb hbox hg) | ((with_reducible refine gate_callee (f := 35) rfl ?_); refine goesL_ (some 13) rfl rfl Tryd.func35 (by kernel_rfl) rfl #[.string a0, .int .u8 58] rfl (by (try simp only [List.map_toArray, List.map_cons, List.map_nil]); first | done | rfl | (simp only [List.length_drop, List.length_take]; rfl)) ?_; (with_reducible refine (spec_l01Split.calls k a0 58 t227 _ A2.out).mono ?_); rintro e w5 ⟨v228, rfl, ho0, hb⟩; refine ⟨_, rfl, ?_⟩; have n0_ := Aside0.mk (Kd.R_lower ho0 (below_size (by repeat (first | (with_reducible first | exact HB.out | apply below_alloc | apply pw_below_drewN | apply below_drew1 | refine below_set ?_ GE226.out) | exact HB.out)))); have n1_ := Aside0.mk (blk_below (g := gb226) (o := .cells #[.int .i64 0, .slice none 0 0] 24 (0, 0)) (by (with_reducible repeat (first | refine blk_drewN ?_ _ | refine blk_drew ?_ | refine blk_alloc ?_ _)); exact BK226.out) hb); have n2_ := Aside0.mk (below_step (by repeat (first | (with_reducible first | exact HB.out | apply below_alloc | apply pw_below_drewN | apply below_drew1 | refine below_set ?_ GE226.out) | exact HB.out)) hb); clear BK226; clear HB; have HO229 := n0_; have BK226 := n1_; have HB := n2_; clear n0_ n1_ n2_; (try clear hb); (try clear hb2); (try clear hk); (try clear hi); (try clear ho0)))
 (try simp only [Act.put, List.setIfInBounds_toArray, List.set_cons_zero, List.set_cons_succ])
 go_cut [24] (fun v24 wc => ∃ (kq : Nat) (x24_2 : Bool), v24 = .bool x24_2 ∧ Aside0 (spec_l01Read.j0 kq a0 t227 x24_2 = some (r1, r2, r3)) ∧ Aside0 (kq ≤ k) ∧ Aside0 (Kd.R Kd.string 9 wc w.heap.size (fun _ => True) v228 t227) ∧ Aside0 (wc.heap[gb226]? = some (.cells #[.int .i64 0, (.slice none 0 0)] 24 (0, 0))) ∧ Aside0 (Below w.heap.size w wc))
 case first =>
  have H := HC3.out
  clear HC3
  by_cases c6 : (t227.length : Int) = 2
  ·rw [if_pos c6] at H
   have c6b0 : ((t227.length : Int) == 2) = true := beq_iff_eq.mpr c6
   have c6b1 : ((t227.length : Int) != 2) = false := bne_eq_false_iff_eq.mpr c6
   clear c6
   (first | rw [c6b0] | (simp only [i64_w, i32_w]; rw [c6b0]) | skip)
   by_cases c7 : 0 < (t227.length : Int)
   ·rw [if_pos c7] at H
    have c7b0 : decide (0 < (t227.length : Int)) = true := decide_eq_true c7
    have c7b1 : decide (0 < t227.length) = true := decide_eq_true (by omega)
    clear c7
    replace H := Option.bind_eq_some_iff.mp H
    obtain ⟨t231, A80, H⟩ := H
    replace H : ((spec_l01In.f t231 1 6).bind fun t232 => (spec_l01Read.j0 k a0 t227 (!t232))) = some (r1, r2, r3) := H
    have A8 := Aside0.mk A80
    clear A80
    replace H := Option.bind_eq_some_iff.mp H
    obtain ⟨t232, A90, H⟩ := H
    replace H : (spec_l01Read.j0 k a0 t227 (!t232)) = some (r1, r2, r3) := H
    have A9 := Aside0.mk A90
    clear A90
    have H' := Aside0.mk H
    clear H
    obtain ⟨Ao10, co10, eo10⟩ := Kd.R_slice HO229.out
    subst eo10
    have p230 : 0 ≤ (0 : Int) := (by omega)
    have q230 : 0 < (t227.length : Int) := of_decide_eq_true (by first | (with_reducible assumption) | assumption)
    obtain ⟨ad230, e230, hx230_0⟩ := Kd.at_string (Kd.R_reads' HO229.out).2.2 0 p230 q230
    cases e230
    have qi230 : (0 < t227.length) = True := eq_true (by omega)
    (try rw [show ((0 : Int)).toNat = 0 from rfl] at hx230_0)
    (try rw [Addr.add_zero'] at hx230_0)
    replace p230 := eq_true p230
    replace q230 := eq_true q230
    go_wp2_with (first | (go_at_call 37; (with_reducible refine (spec_l01Number.calls k (rdOf ByteArray.empty t227 0) t231 _ A8.out).mono ?_); rintro e w' ⟨rfl, ⟨nd, rfl⟩⟩) | (go_at_call 36; (with_reducible refine (spec_l01In.calls t231 1 6 t232 _ A9.out).mono ?_); rintro e w' ⟨rfl, ⟨nd, rfl⟩⟩))
    go_meet
    case rel => exact ⟨_, (!t232), (by first | rfl | (simp; done) | (simp [*]; done)), H', ⟨by first | omega | exact Nat.le_refl _⟩, ⟨by (with_reducible repeat (first | apply Kd.R_alloc | apply Kd.R_drewN | apply Kd.R_drew)); exact HO229.out⟩, ⟨by (with_reducible repeat (first | refine blk_drewN ?_ _ | refine blk_drew ?_ | refine blk_alloc ?_ _)); exact BK226.out⟩, ⟨by repeat (first | (with_reducible first | exact HB.out | apply below_alloc | apply pw_below_drewN | apply below_drew1 | refine below_set ?_ GE226.out) | exact HB.out)⟩⟩
   ·rw [if_neg c7] at H
    exact absurd H (by simp)
  ·rw [if_neg c6] at H
   have c6b0 : ((t227.length : Int) == 2) = false := beq_eq_false_iff_ne.mpr c6
   have c6b1 : ((t227.length : Int) != 2) = true := bne_iff_ne.mpr c6
   (first | rw [c6b0] | (simp only [i64_w, i32_w]; rw [c6b0]) | skip)
   have H' := Aside0.mk H
   clear H
   obtain ⟨Ao11, co11, eo11⟩ := Kd.R_slice HO229.out
   subst eo11
   go_wp2
   go_meet
   case rel => exact ⟨_, (true), (by first | rfl | (simp; done) | (simp [*]; done)), H', ⟨by first | omega | exact Nat.le_refl _⟩, ⟨by (with_reducible repeat (first | apply Kd.R_alloc | apply Kd.R_drewN | apply Kd.R_drew)); exact HO229.out⟩, ⟨by (with_reducible repeat (first | refine blk_drewN ?_ _ | refine blk_drew ?_ | refine blk_alloc ?_ _)); exact BK226.out⟩, ⟨by repeat (first | (with_reducible first | exact HB.out | apply below_alloc | apply pw_below_drewN | apply below_drew1 | refine below_set ?_ GE226.out) | exact HB.out)⟩⟩
 case rest =>
  clear HC3
  try clear c1
  try clear p2
  try clear q2
  try clear hx2
  try clear qi2
  try clear c3
  try clear c6
  try clear c6b0
  try clear c6b1
  try clear c7
  try clear c7b0
  try clear c7b1
  try clear hx230_0
  try clear p230
  try clear q230
  obtain ⟨kq, x24_2, rfl, HA, HJ2, HO_4, BK226, HB⟩ := hcut
  cases kq with
  | zero => exact absurd HA.out (by simp [spec_l01Read.j0])
  | succ kj2 =>
   have H := HA.out
   clear HA
   simp only [spec_l01Read.j0] at H
   by_cases c12 : x24_2 = true
   ·subst c12
    have H1 : (some (0, ([] : List Int), false)) = some (r1, r2, r3) := by rw [if_pos rfl] at H; exact H
    clear H
    have H := H1
    clear H1
    simp only [Option.some.injEq, Prod.mk.injEq] at H
    obtain ⟨rfl, rfl, rfl⟩ := H
    have hcz13_0 : wc.cell? ⟨gb226, 0, none⟩ = some (.int .i64 0) := (blk_cell BK226.out 0).trans rfl
    have hcz13_1 : wc.cell? ⟨gb226, 1, none⟩ = some (.slice none 0 0) := (blk_cell BK226.out 1).trans rfl
    have hfz13_0 := blk_frozen BK226.out 0
    have hfz13_1 := blk_frozen BK226.out 1
    go_wp2
    refine bodyPost_ret (results_ct rfl _ _ gb226 24 #[.int .i64 0, .slice none 0 0] (0, 0) _ rfl (by (with_reducible repeat (first | refine blk_drewN ?_ _ | refine blk_drew ?_ | refine blk_alloc ?_ _)); refine blk_put (cs := #[.int .i64 0, .slice none 0 0]) ?_ 1 _ rfl; (with_reducible repeat (first | refine blk_drewN ?_ _ | refine blk_drew ?_ | refine blk_alloc ?_ _)); refine blk_put (cs := #[.int .i64 0, .slice none 0 0]) ?_ 0 _ rfl; (with_reducible repeat (first | refine blk_drewN ?_ _ | refine blk_drew ?_ | refine blk_alloc ?_ _)); exact BK226.out) Tryd.underlying24 rfl (by kernel_rfl)) rfl ?_
    exact ⟨_, by first | rfl | (simp [errW_none, errW_some] <;> rfl) | (simp [*, errW_none, errW_some] <;> rfl), by first | exact Kd.R_nil _ _ _ _ _ | exact Kd.N_nil _ _ _ _ _ | exact Kd.V_nil _ _ _ _ _ | exact Kd.Q_nil _ _ _ _ _ | exact Kd.S_nil _ _ _ _ _, by repeat (first | (with_reducible first | exact HB.out | apply below_alloc | apply pw_below_drewN | apply below_drew1 | refine below_set ?_ GE226.out) | exact HB.out)⟩
   ·replace c12 := Bool.eq_false_iff.mpr c12
    subst c12
    have H1 : (if 0 < (t227.length : Int) then ((spec_l01Number.f kj2 (rdOf ByteArray.empty t227 0)).bind fun t234 => ((some (([] : List Int) : List Int)).bind fun y235 => (if 1 < (t227.length : Int) then (if (rdOf ByteArray.empty t227 1).toList = ([] : List UInt8) then ((spec_l01Made.f kj2 t234 y235).bind fun bt239 => ((spec_l01Text.f kj2 bt239.1 bt239.2).bind fun t244 => (some (bt239.1, bt239.2, (t244.toList == a0.toList))))) else ((spec_l01Split.f kj2 (rdOf ByteArray.empty t227 1) 44).bind fun t246 => (spec_l01Read.l0 kj2 a0 t234 y235 t246 0))) else (none)))) else (none)) = some (r1, r2, r3) := by rw [if_neg (show ¬ (false = true) by decide)] at H; exact H
    clear H
    have H := H1
    clear H1
    by_cases c14 : 0 < (t227.length : Int)
    ·rw [if_pos c14] at H
     have c14b0 : decide (0 < (t227.length : Int)) = true := decide_eq_true c14
     have c14b1 : decide (0 < t227.length) = true := decide_eq_true (by omega)
     clear c14
     replace H := Option.bind_eq_some_iff.mp H
     obtain ⟨t234, A150, H⟩ := H
     replace H : ((some (([] : List Int) : List Int)).bind fun y235 => (if 1 < (t227.length : Int) then (if (rdOf ByteArray.empty t227 1).toList = ([] : List UInt8) then ((spec_l01Made.f kj2 t234 y235).bind fun bt239 => ((spec_l01Text.f kj2 bt239.1 bt239.2).bind fun t244 => (some (bt239.1, bt239.2, (t244.toList == a0.toList))))) else ((spec_l01Split.f kj2 (rdOf ByteArray.empty t227 1) 44).bind fun t246 => (spec_l01Read.l0 kj2 a0 t234 y235 t246 0))) else (none))) = some (r1, r2, r3) := H
     have A15 := Aside0.mk A150
     clear A150
     obtain ⟨y235, hy235⟩ : ∃ y_ : List Int, y_ = (([] : List Int)) := ⟨_, rfl⟩
     replace H : (if 1 < (t227.length : Int) then (if (rdOf ByteArray.empty t227 1).toList = ([] : List UInt8) then ((spec_l01Made.f kj2 t234 y235).bind fun bt239 => ((spec_l01Text.f kj2 bt239.1 bt239.2).bind fun t244 => (some (bt239.1, bt239.2, (t244.toList == a0.toList))))) else ((spec_l01Split.f kj2 (rdOf ByteArray.empty t227 1) 44).bind fun t246 => (spec_l01Read.l0 kj2 a0 t234 y235 t246 0))) else (none)) = some (r1, r2, r3) := by first | (rw [hy235]; with_reducible exact H) | (have H2_ := (Option.bind_some _ _).symm.trans H; rw [hy235]; with_reducible exact H2_) | (have H2_ := (Option.bind_some _ _).symm.trans H; with_reducible exact H2_) | with_reducible exact H | (rw [hy235]; exact H) | exact H
     have Ny235 := Aside0.mk hy235
     clear hy235
     by_cases c16 : 1 < (t227.length : Int)
     ·rw [if_pos c16] at H
      have c16b0 : decide (1 < (t227.length : Int)) = true := decide_eq_true c16
      have c16b1 : decide (1 < t227.length) = true := decide_eq_true (by omega)
      clear c16
      by_cases c17 : (rdOf ByteArray.empty t227 1).toList = ([] : List UInt8)
      ·rw [if_pos c17] at H
       have c17b0 : ((rdOf ByteArray.empty t227 1).toList == ([] : List UInt8)) = true := beq_iff_eq.mpr c17
       have c17b1 : ((rdOf ByteArray.empty t227 1).toList != ([] : List UInt8)) = false := bne_eq_false_iff_eq.mpr c17
       clear c17
       replace H := Option.bind_eq_some_iff.mp H
       obtain ⟨⟨t239, t240⟩, A180, H⟩ := H
       replace H : ((spec_l01Text.f kj2 t239 t240).bind fun t244 => (some (t239, t240, (t244.toList == a0.toList)))) = some (r1, r2, r3) := H
       have A18 := Aside0.mk A180
       clear A180
       replace H := Option.bind_eq_some_iff.mp H
       obtain ⟨t244, A190, H⟩ := H
       replace H : (some (t239, t240, (t244.toList == a0.toList))) = some (r1, r2, r3) := H
       have A19 := Aside0.mk A190
       clear A190
       simp only [Option.some.injEq, Prod.mk.injEq] at H
       obtain ⟨rfl, rfl, rfl⟩ := H
       obtain ⟨Ao20, co20, eo20⟩ := Kd.R_slice HO_4.out
       subst eo20
       have p233 : 0 ≤ (0 : Int) := (by omega)
       have q233 : 0 < (t227.length : Int) := of_decide_eq_true (by first | (with_reducible assumption) | assumption)
       obtain ⟨ad233, e233, hx233_0⟩ := Kd.at_string (Kd.R_reads' HO_4.out).2.2 0 p233 q233
       cases e233
       have qi233 : (0 < t227.length) = True := eq_true (by omega)
       (try rw [show ((0 : Int)).toNat = 0 from rfl] at hx233_0)
       (try rw [Addr.add_zero'] at hx233_0)
       replace p233 := eq_true p233
       replace q233 := eq_true q233
       try go_wp2_with (first | ((with_reducible refine gate_callee (f := 37) rfl ?_); refine goesL_ (some 29) rfl rfl Tryd.func37 (by kernel_rfl) rfl #[.string (rdOf ByteArray.empty t227 0)] rfl (by (try simp only [List.map_toArray, List.map_cons, List.map_nil]); first | done | rfl | (simp only [List.length_drop, List.length_take]; rfl)) ?_; (with_reducible refine (spec_l01Number.calls kj2 (rdOf ByteArray.empty t227 0) t234 _ A15.out).mono ?_); rintro e w' ⟨rfl, ⟨nd, rfl⟩⟩; refine ⟨_, rfl, ?_⟩; (try (rw [drewN_self wc]; generalize hq_ : World.drewN wc _ = wc; have n0_ : Aside0 (Kd.R Kd.string 9 wc w.heap.size (fun _ => True) (.slice (some ad233) t227.length co20) t227) := ⟨by rw [← hq_]; exact (by (with_reducible repeat (first | apply Kd.R_alloc | apply Kd.R_drewN | apply Kd.R_drew)); exact HO_4.out)⟩; have n1_ : Aside0 (wc.heap[gb226]? = some (.cells #[.int .i64 0, .slice none 0 0] 24 (0, 0))) := ⟨by rw [← hq_]; exact (by (with_reducible repeat (first | refine blk_drewN ?_ _ | refine blk_drew ?_ | refine blk_alloc ?_ _)); exact BK226.out)⟩; have n2_ : Aside0 (Below w.heap.size w wc) := ⟨by rw [← hq_]; exact (by repeat (first | (with_reducible first | exact HB.out | apply below_alloc | apply pw_below_drewN | apply below_drew1 | refine below_set ?_ GE226.out) | exact HB.out))⟩; clear HO_4 BK226 HB hq_; have HO_4 := n0_; have BK226 := n1_; have HB := n2_; clear n0_ n1_ n2_))) | ((with_reducible refine gate_dst (N := 30) rfl ?_); refine Kd.R_lit (Kd.int .i64) _ 2 ?hg (N := 30) ?hd (xs := ([] : List Int)) (inner := []) (ok := fun _ => True) (okp := fun _ => True) ?hr ?hp (fun _ hk => hk) trivial (Below.refl _ _) (Nat.le_refl _) (by simp) ?_; (case hd => rfl); (case hg => rfl); (case hr => first | (go_simp; done) | (go_simp; rfl)); (case hp => exact (Reps.none _ _)); intro v236 w21 ho22 hb hg_ hnew_; clear hg_ hnew_; (first | rw [← Ny235.out] at ho22 | (simp only [Int.reduceToNat] at ho22; rw [← Ny235.out] at ho22)); have n0_ := Aside0.mk (Kd.R_below (by (with_reducible repeat (first | apply Kd.R_alloc | apply Kd.R_drewN | apply Kd.R_drew)); exact HO_4.out) hb); have n1_ := Aside0.mk (Kd.R_lower ho22 (below_size (by repeat (first | (with_reducible first | exact HB.out | apply below_alloc | apply pw_below_drewN | apply below_drew1 | refine below_set ?_ GE226.out) | exact HB.out)))); have n2_ := Aside0.mk (blk_below (g := gb226) (o := .cells #[.int .i64 0, .slice none 0 0] 24 (0, 0)) (by (with_reducible repeat (first | refine blk_drewN ?_ _ | refine blk_drew ?_ | refine blk_alloc ?_ _)); exact BK226.out) hb); have n3_ := Aside0.mk (below_step (by repeat (first | (with_reducible first | exact HB.out | apply below_alloc | apply pw_below_drewN | apply below_drew1 | refine below_set ?_ GE226.out) | exact HB.out)) hb); clear HO_4; clear BK226; clear HB; have HO_4 := n0_; have HO237 := n1_; have BK226 := n2_; have HB := n3_; clear n0_ n1_ n2_ n3_; clear hb ho22; have p238 : 0 ≤ (1 : Int) := (by omega); have q238 : 1 < (t227.length : Int) := of_decide_eq_true (by first | (with_reducible assumption) | assumption); obtain ⟨ad238, e238, hx238_0⟩ := Kd.at_string (Kd.R_reads' HO_4.out).2.2 1 p238 q238; obtain rfl : ad233 = ad238 := (by injection e238); (try simp only [show (1 : Int).toNat = 1 from rfl, Nat.reduceMul, Nat.reduceEqDiff, Go.Addr.add, ↓reduceIte] at hx238_0); have qi238 : (1 < t227.length) = True := eq_true (by omega); (try rw [show ((1 : Int)).toNat = 1 from rfl] at hx238_0); replace p238 := eq_true p238; replace q238 := eq_true q238; obtain ⟨Ao23, co23, eo23⟩ := Kd.R_slice HO237.out; subst eo23) | ((with_reducible refine gate_callee (f := 39) rfl ?_); refine goesL_ (some 63) rfl rfl Tryd.func39 (by kernel_rfl) rfl #[.int .i64 t234, .slice Ao23 y235.length co23] rfl (by (try simp only [List.map_toArray, List.map_cons, List.map_nil]); first | done | rfl | (simp only [List.length_drop, List.length_take]; rfl)) ?_; (with_reducible refine (spec_l01Made.calls kj2 t234 _ _ y235 t239 t240 _ ?side1 ?side2 A18.out).mono ?_); (case side1 => repeat (first | exact (Kd.R_reads' HO237.out).2.2 | (with_reducible refine Kd.C_alloc ?_ _) | (with_reducible refine Kd.C_drewN ?_ _) | (with_reducible refine Kd.C_drew ?_))); (case side2 => exact (Kd.R_reads' HO237.out).2.1); rintro e w24 ⟨v241, rfl, ho0, hb⟩; refine ⟨_, rfl, ?_⟩; have n0_ := Aside0.mk (Kd.R_below (by (with_reducible repeat (first | apply Kd.R_alloc | apply Kd.R_drewN | apply Kd.R_drew)); exact HO_4.out) hb); have n1_ := Aside0.mk (Kd.R_elder' (by (with_reducible repeat (first | apply Kd.R_alloc | apply Kd.R_drewN | apply Kd.R_drew)); exact HO237.out) (Kd.R_base ho0) hb); have n2_ := Aside0.mk (Kd.R_lower (Kd.R_new' ho0 (Kd.R_lt (by (with_reducible repeat (first | apply Kd.R_alloc | apply Kd.R_drewN | apply Kd.R_drew)); exact HO237.out))) (below_size (by repeat (first | (with_reducible first | exact HB.out | apply below_alloc | apply pw_below_drewN | apply below_drew1 | refine below_set ?_ GE226.out) | exact HB.out)))); have n3_ := Aside0.mk (blk_below (g := gb226) (o := .cells #[.int .i64 0, .slice none 0 0] 24 (0, 0)) (by (with_reducible repeat (first | refine blk_drewN ?_ _ | refine blk_drew ?_ | refine blk_alloc ?_ _)); exact BK226.out) hb); have n4_ := Aside0.mk (below_step (by repeat (first | (with_reducible first | exact HB.out | apply below_alloc | apply pw_below_drewN | apply below_drew1 | refine below_set ?_ GE226.out) | exact HB.out)) hb); clear HO_4; clear HO237; clear BK226; clear HB; have HO_4 := n0_; have HO237 := n1_; have HO242 := n2_; have BK226 := n3_; have HB := n4_; clear n0_ n1_ n2_ n3_ n4_; (try clear hb); (try clear hb2); (try clear hk); (try clear hi); (try clear ho0)) | ((with_reducible refine gate_dst (N := 11) rfl ?_); refine box_event ?hg (N := 11) ?hd (cs := #[.int .i64 0, .slice none 0 0]) (t := 24) ?hr ?_; (case hd => rfl); (case hg => rfl); (case hr => first | (go_simp; done) | (go_simp; rfl)); intro gb243 hg w25 hbox hb; have n0_ := Aside0.mk (Kd.R_below (by (with_reducible repeat (first | apply Kd.R_alloc | apply Kd.R_drewN | apply Kd.R_drew)); exact HO_4.out) hb); have n1_ := Aside0.mk (Kd.R_below (by (with_reducible repeat (first | apply Kd.R_alloc | apply Kd.R_drewN | apply Kd.R_drew)); exact HO237.out) hb); have n2_ := Aside0.mk (Kd.R_below (by (with_reducible repeat (first | apply Kd.R_alloc | apply Kd.R_drewN | apply Kd.R_drew)); exact HO242.out) hb); have n3_ := Aside0.mk (blk_below (g := gb226) (o := .cells #[.int .i64 0, .slice none 0 0] 24 (0, 0)) (by (with_reducible repeat (first | refine blk_drewN ?_ _ | refine blk_drew ?_ | refine blk_alloc ?_ _)); exact BK226.out) hb); have n4_ := Aside0.mk (below_step (by repeat (first | (with_reducible first | exact HB.out | apply below_alloc | apply pw_below_drewN | apply below_drew1 | refine below_set ?_ GE226.out) | exact HB.out)) hb); have n5_ := Aside0.mk (hbox); have n6_ := Aside0.mk ((by rw [hg]; exact (below_size (by repeat (first | (with_reducible first | exact HB.out | apply below_alloc | apply pw_below_drewN | apply below_drew1 | refine below_set ?_ GE226.out) | exact HB.out))) : w.heap.size ≤ gb243)); have n7_ := Aside0.mk ((by rw [hg]; exact (below_size (by repeat (first | (with_reducible first | exact HB.out | apply below_alloc | apply pw_below_drewN | apply below_drew1 | refine below_set ?_ GE226.out) | exact HB.out))) : w.heap.size ≤ gb243)); have n8_ := Aside0.mk ((by rw [hg]; exact Nat.ne_of_lt (blk_lt (g := gb226) (o := .cells #[.int .i64 0, .slice none 0 0] 24 (0, 0)) (by (with_reducible repeat (first | refine blk_drewN ?_ _ | refine blk_drew ?_ | refine blk_alloc ?_ _)); exact BK226.out)) : gb226 ≠ gb243)); have n9_ := Aside0.mk ((by rw [hg]; exact Nat.ne_of_gt (blk_lt (g := gb226) (o := .cells #[.int .i64 0, .slice none 0 0] 24 (0, 0)) (by (with_reducible repeat (first | refine blk_drewN ?_ _ | refine blk_drew ?_ | refine blk_alloc ?_ _)); exact BK226.out)) : gb243 ≠ gb226)); clear HO_4; clear HO237; clear HO242; clear BK226; clear HB; have HO_4 := n0_; have HO237 := n1_; have HO242 := n2_; have BK226 := n3_; have HB := n4_; have BK243 := n5_; have GW243 := n6_; have GE243 := n7_; have NB226_243 := n8_; have NB243_226 := n9_; clear n0_ n1_ n2_ n3_ n4_ n5_ n6_ n7_ n8_ n9_; clear hb hbox hg; have hnb26 := NB243_226.out; have hnc26 := NB226_243.out; have hcz27_0 : w25.cell? ⟨gb243, 0, none⟩ = some (.int .i64 0) := (blk_cell BK243.out 0).trans rfl; have hcz27_1 : w25.cell? ⟨gb243, 1, none⟩ = some (.slice none 0 0) := (blk_cell BK243.out 1).trans rfl; have hfz27_0 := blk_frozen BK243.out 0; have hfz27_1 := blk_frozen BK243.out 1; obtain ⟨Ao28, co28, eo28⟩ := Kd.R_slice HO242.out; subst eo28))
       have n0_ : Aside0 (Kd.R Kd.string 9 ((w25.setCell ⟨gb243, 0, none⟩ (.int .i64 t239)).setCell ⟨gb243, 1, none⟩ (.slice Ao28 t240.length co28)) w.heap.size (fun _ => True) (.slice (some ad233) t227.length co20) t227) := ⟨by (with_reducible repeat (first | apply Kd.R_alloc | apply Kd.R_drewN | apply Kd.R_drew)); exact Kd.R_mono (Kd.R_far (p := ⟨gb243, 1, none⟩) (Kd.R_far (p := ⟨gb243, 0, none⟩) (Kd.R_types HO_4.out BK243.out (by decide)) (fun _ hk => hk.2) (.int .i64 t239)) (fun _ hk => hk.2) (.slice Ao28 t240.length co28)) (fun _ hk => trivial)⟩
       have n1_ : Aside0 (Kd.R (Kd.int .i64) 2 ((w25.setCell ⟨gb243, 0, none⟩ (.int .i64 t239)).setCell ⟨gb243, 1, none⟩ (.slice Ao28 t240.length co28)) w.heap.size (fun k_ => some k_ ≠ (.slice Ao28 t240.length co28 : Value).ownBlock) (.slice Ao23 y235.length co23) y235) := ⟨by (with_reducible repeat (first | apply Kd.R_alloc | apply Kd.R_drewN | apply Kd.R_drew)); exact Kd.R_mono (Kd.R_far (p := ⟨gb243, 1, none⟩) (Kd.R_far (p := ⟨gb243, 0, none⟩) (Kd.R_types HO237.out BK243.out (by decide)) (fun _ hk => hk.2) (.int .i64 t239)) (fun _ hk => hk.2) (.slice Ao28 t240.length co28)) (fun _ hk => hk.1.2)⟩
       have n2_ : Aside0 (Kd.R (Kd.int .i64) 2 ((w25.setCell ⟨gb243, 0, none⟩ (.int .i64 t239)).setCell ⟨gb243, 1, none⟩ (.slice Ao28 t240.length co28)) w.heap.size (fun k_ => some k_ ≠ (.slice Ao23 y235.length co23 : Value).ownBlock) (.slice Ao28 t240.length co28) t240) := ⟨by (with_reducible repeat (first | apply Kd.R_alloc | apply Kd.R_drewN | apply Kd.R_drew)); exact Kd.R_mono (Kd.R_far (p := ⟨gb243, 1, none⟩) (Kd.R_far (p := ⟨gb243, 0, none⟩) (Kd.R_types HO242.out BK243.out (by decide)) (fun _ hk => hk.2) (.int .i64 t239)) (fun _ hk => hk.2) (.slice Ao28 t240.length co28)) (fun _ hk => hk.1.2)⟩
       have n3_ : Aside0 (((w25.setCell ⟨gb243, 0, none⟩ (.int .i64 t239)).setCell ⟨gb243, 1, none⟩ (.slice Ao28 t240.length co28)).heap[gb226]? = some (.cells #[.int .i64 0, .slice none 0 0] 24 (0, 0))) := ⟨by (with_reducible repeat (first | refine blk_drewN ?_ _ | refine blk_drew ?_ | refine blk_alloc ?_ _)); refine blk_far ?_ NB226_243.out _; (with_reducible repeat (first | refine blk_drewN ?_ _ | refine blk_drew ?_ | refine blk_alloc ?_ _)); refine blk_far ?_ NB226_243.out _; (with_reducible repeat (first | refine blk_drewN ?_ _ | refine blk_drew ?_ | refine blk_alloc ?_ _)); exact BK226.out⟩
       have n4_ : Aside0 (((w25.setCell ⟨gb243, 0, none⟩ (.int .i64 t239)).setCell ⟨gb243, 1, none⟩ (.slice Ao28 t240.length co28)).heap[gb243]? = some (.cells #[.int .i64 t239, .slice Ao28 t240.length co28] 24 (0, 0))) := ⟨by (with_reducible repeat (first | refine blk_drewN ?_ _ | refine blk_drew ?_ | refine blk_alloc ?_ _)); refine blk_put (cs := #[.int .i64 t239, .slice none 0 0]) ?_ 1 _ rfl; (with_reducible repeat (first | refine blk_drewN ?_ _ | refine blk_drew ?_ | refine blk_alloc ?_ _)); refine blk_put (cs := #[.int .i64 0, .slice none 0 0]) ?_ 0 _ rfl; (with_reducible repeat (first | refine blk_drewN ?_ _ | refine blk_drew ?_ | refine blk_alloc ?_ _)); exact BK243.out⟩
       have n5_ : Aside0 (Below w.heap.size w ((w25.setCell ⟨gb243, 0, none⟩ (.int .i64 t239)).setCell ⟨gb243, 1, none⟩ (.slice Ao28 t240.length co28))) := ⟨by repeat (first | (with_reducible first | exact HB.out | apply below_alloc | apply pw_below_drewN | apply below_drew1 | refine below_set ?_ GE226.out | refine below_set ?_ GE243.out) | exact HB.out)⟩
       (try clear HO_4)
       (try clear HO237)
       (try clear HO242)
       (try clear BK226)
       (try clear BK243)
       (try clear HB)
       generalize ((w25.setCell ⟨gb243, 0, none⟩ (.int .i64 t239)).setCell ⟨gb243, 1, none⟩ (.slice Ao28 t240.length co28)) = w29 at n0_ n1_ n2_ n3_ n4_ n5_ ⊢
       have HO_4 := n0_
       have HO237 := n1_
       have HO242 := n2_
       have BK226 := n3_
       have BK243 := n4_
       have HB := n5_
       clear n0_ n1_ n2_ n3_ n4_ n5_
       have n0_ := Aside0.mk (Kd.R_drew HO_4.out)
       have n1_ := Aside0.mk (Kd.R_drew HO237.out)
       have n2_ := Aside0.mk (Kd.R_drew HO242.out)
       have n3_ := Aside0.mk (blk_drew BK226.out)
       have n4_ := Aside0.mk (blk_drew BK243.out)
       have n5_ := Aside0.mk (below_drew1 HB.out)
       clear HO_4
       clear HO237
       clear HO242
       clear BK226
       clear BK243
       clear HB
       have HO_4 := n0_
       have HO237 := n1_
       have HO242 := n2_
       have BK226 := n3_
       have BK243 := n4_
       have HB := n5_
       clear n0_ n1_ n2_ n3_ n4_ n5_
       refine start_ (n := 7) (S := fun w' => w'.cell? ⟨gb243, 0, none⟩ = some (.int .i64 t239) ∧ w'.cell? ⟨gb243, 1, none⟩ = some (.slice Ao28 t240.length co28)) (ds := []) (ar 0 7) (by kernel_rfl) rfl rfl ⟨(blk_cell BK243.out 0).trans rfl, (blk_cell BK243.out 1).trans rfl⟩ (fun hHeld => ?_)
       generalize w29.drew = w30 at HO_4 HO237 HO242 BK226 BK243 HB hHeld ⊢
       refine pure_ (i := 3) (N := some 67) (v := ?_) (a' := ?_) #[O,O,O,U,O,O,O] rfl rfl (by kernel_rfl) hh_ (Or.inl ⟨by rfl, ?_⟩) ?_ ?_; rotate_left; (intro w'; go_simp; with_reducible rfl); rotate_left; · simp only [nm_]; rfl
       refine take_ (i := 0) (N := some 64) (v := ?_) (a' := ?_) #[U,O,O,U,O,O,O] rfl rfl (by kernel_rfl) hh_ (Or.inl ⟨by rfl, ?_⟩) hHeld ?_ ?_
       rotate_left; · rintro w' ⟨s0, s1⟩; go_simp; with_reducible rfl
       rotate_left; · simp only [nm_]; rfl
       refine take_ (i := 1) (N := some 65) (v := ?_) (a' := ?_) #[U,U,O,U,O,O,O] rfl rfl (by kernel_rfl) hh_ (Or.inl ⟨by rfl, ?_⟩) hHeld ?_ ?_
       rotate_left; · rintro w' ⟨s0, s1⟩; go_simp; with_reducible rfl
       rotate_left; · simp only [nm_]; rfl
       refine one_ (i := 2) (N := some 66) (ar 4 3) rfl rfl (by kernel_rfl) (by decide) (fun K hK => ?_)
       refine goes_ Tryd.func31 (by kernel_rfl) rfl #[.agg #[.int .i64 t239, .slice Ao28 t240.length co28]] (by rfl) rfl rfl (by (try simp only [List.map_toArray, List.map_cons, List.map_nil]); first | done | rfl | (simp only [List.length_drop, List.length_take]; rfl)) ?_
       with_reducible refine (spec_l01Text.calls kj2 t239 _ _ t240 t244 _ ?side1 ?side2 A19.out).mono ?_
       (case side1 => repeat (first | exact (Kd.R_reads' HO242.out).2.2 | (with_reducible refine Kd.C_alloc ?_ _) | (with_reducible refine Kd.C_drewN ?_ _) | (with_reducible refine Kd.C_drew ?_)))
       (case side2 => exact (Kd.R_reads' HO242.out).2.1)
       rintro e w31 ⟨rfl, hb⟩
       refine ⟨_, rfl, ?_⟩
       have n0_ := Aside0.mk (Kd.R_below (by (with_reducible repeat (first | apply Kd.R_alloc | apply Kd.R_drewN | apply Kd.R_drew)); exact HO_4.out) hb)
       have n1_ := Aside0.mk (Kd.R_below (by (with_reducible repeat (first | apply Kd.R_alloc | apply Kd.R_drewN | apply Kd.R_drew)); exact HO237.out) hb)
       have n2_ := Aside0.mk (Kd.R_below (by (with_reducible repeat (first | apply Kd.R_alloc | apply Kd.R_drewN | apply Kd.R_drew)); exact HO242.out) hb)
       have n3_ := Aside0.mk (blk_below (g := gb226) (o := .cells #[.int .i64 0, .slice none 0 0] 24 (0, 0)) (by (with_reducible repeat (first | refine blk_drewN ?_ _ | refine blk_drew ?_ | refine blk_alloc ?_ _)); exact BK226.out) hb)
       have n4_ := Aside0.mk (blk_below (g := gb243) (o := .cells #[.int .i64 t239, .slice Ao28 t240.length co28] 24 (0, 0)) (by (with_reducible repeat (first | refine blk_drewN ?_ _ | refine blk_drew ?_ | refine blk_alloc ?_ _)); exact BK243.out) hb)
       have n5_ := Aside0.mk (below_step (by repeat (first | (with_reducible first | exact HB.out | apply below_alloc | apply pw_below_drewN | apply below_drew1 | refine below_set ?_ GE226.out | refine below_set ?_ GE243.out) | exact HB.out)) hb)
       clear HO_4
       clear HO237
       clear HO242
       clear BK226
       clear BK243
       clear HB
       have HO_4 := n0_
       have HO237 := n1_
       have HO242 := n2_
       have BK226 := n3_
       have BK243 := n4_
       have HB := n5_
       clear n0_ n1_ n2_ n3_ n4_ n5_
       (try clear hb)
       (try clear hb2)
       (try clear hk)
       (try clear hi)
       refine hK.out _ _ ⟨(blk_cell BK243.out 0).trans rfl, (blk_cell BK243.out 1).trans rfl⟩ (fun hHeld => ?_)
       clear hK K
       refine norm_ (a' := ?_) ?_ ?_
       rotate_left
       ·show Act.put _ (some 66) _ = _
        simp only [nm_]
        rfl
       refine pure_ (i := 4) (N := some 68) (v := ?_) (a' := ?_) (ar 5 2) rfl rfl (by kernel_rfl) hh_ (Or.inl ⟨by rfl, ?_⟩) ?_ ?_; rotate_left; (intro w'; go_simp; with_reducible rfl); rotate_left; · simp only [nm_]; rfl
       refine one_ (i := 5) (N := none) (ar 6 1) rfl rfl (by kernel_rfl) (by decide) (fun K hK => ?_)
       have hs32 : w31.cell? ⟨gb226, 0, none⟩ = some (.int .i64 0) := (blk_cell BK226.out 0).trans rfl
       have hfs32 := blk_frozen BK226.out 0
       have hns32_1 := NB243_226.out
       have hms32_1 := NB226_243.out
       have hs33 : w31.cell? ⟨gb226, 1, none⟩ = some (.slice none 0 0) := (blk_cell BK226.out 1).trans rfl
       have hfs33 := blk_frozen BK226.out 1
       have hns33_1 := NB243_226.out
       have hms33_1 := NB226_243.out
       refine skip_ (w1 := ?_) (by rfl) rfl ?_ ?_
       rotate_left
       ·go_simp
        rfl
       refine hK.out _ _ ⟨((cell_far (p := ⟨gb226, _, none⟩) NB243_226.out _).trans (((cell_far (p := ⟨gb226, _, none⟩) NB243_226.out _).trans (hHeld.1)))), ((cell_far (p := ⟨gb226, _, none⟩) NB243_226.out _).trans (((cell_far (p := ⟨gb226, _, none⟩) NB243_226.out _).trans (hHeld.2))))⟩ (fun hHeld => ?_)
       clear hK K
       refine pure_ (i := 6) (N := some 3) (v := ?_) (a' := ?_) (ar 7 0) rfl rfl (by kernel_rfl) hh_ (Or.inl ⟨by rfl, ?_⟩) ?_ ?_; rotate_left; (intro w'; go_simp; with_reducible rfl); rotate_left; · simp only [nm_]; rfl
       refine done_ (by kernel_rfl) ?_
       try go_wp2
       refine bodyPost_ret (results_ct rfl _ _ gb226 24 #[.int .i64 t239, .slice Ao28 t240.length co28] (0, 0) _ rfl (by (with_reducible repeat (first | refine blk_drewN ?_ _ | refine blk_drew ?_ | refine blk_alloc ?_ _)); refine blk_put (cs := #[.int .i64 t239, .slice none 0 0]) ?_ 1 _ rfl; (with_reducible repeat (first | refine blk_drewN ?_ _ | refine blk_drew ?_ | refine blk_alloc ?_ _)); refine blk_put (cs := #[.int .i64 0, .slice none 0 0]) ?_ 0 _ rfl; (with_reducible repeat (first | refine blk_drewN ?_ _ | refine blk_drew ?_ | refine blk_alloc ?_ _)); exact BK226.out) Tryd.underlying24 rfl (by kernel_rfl)) rfl ?_
       exact ⟨_, by first | rfl | (simp [errW_none, errW_some] <;> rfl) | (simp [*, errW_none, errW_some] <;> rfl), by (with_reducible repeat (first | apply Kd.R_alloc | apply Kd.R_drewN | apply Kd.R_drew)); exact Kd.R_mono (Kd.R_far (p := ⟨gb226, 1, none⟩) (Kd.R_far (p := ⟨gb226, 0, none⟩) (Kd.R_types HO242.out BK226.out (by decide)) (fun _ hk => hk.2) (.int .i64 t239)) (fun _ hk => hk.2) (.slice Ao28 t240.length co28)) (fun _ hk => trivial), by repeat (first | (with_reducible first | exact HB.out | apply below_alloc | apply pw_below_drewN | apply below_drew1 | refine below_set ?_ GE226.out | refine below_set ?_ GE243.out) | exact HB.out)⟩
      ·rw [if_neg c17] at H
       have c17b0 : ((rdOf ByteArray.empty t227 1).toList == ([] : List UInt8)) = false := beq_eq_false_iff_ne.mpr c17
       have c17b1 : ((rdOf ByteArray.empty t227 1).toList != ([] : List UInt8)) = true := bne_iff_ne.mpr c17
       replace H := Option.bind_eq_some_iff.mp H
       obtain ⟨t246, A340, H⟩ := H
       replace H : (spec_l01Read.l0 kj2 a0 t234 y235 t246 0) = some (r1, r2, r3) := H
       have A34 := Aside0.mk A340
       clear A340
       have H' := Aside0.mk H
       clear H
       obtain ⟨Ao35, co35, eo35⟩ := Kd.R_slice HO_4.out
       subst eo35
       have p233 : 0 ≤ (0 : Int) := (by omega)
       have q233 : 0 < (t227.length : Int) := of_decide_eq_true (by first | (with_reducible assumption) | assumption)
       obtain ⟨ad233, e233, hx233_0⟩ := Kd.at_string (Kd.R_reads' HO_4.out).2.2 0 p233 q233
       cases e233
       have qi233 : (0 < t227.length) = True := eq_true (by omega)
       (try rw [show ((0 : Int)).toNat = 0 from rfl] at hx233_0)
       (try rw [Addr.add_zero'] at hx233_0)
       replace p233 := eq_true p233
       replace q233 := eq_true q233
       go_wp2_with (first | ((with_reducible refine gate_callee (f := 37) rfl ?_); refine goesL_ (some 29) rfl rfl Tryd.func37 (by kernel_rfl) rfl #[.string (rdOf ByteArray.empty t227 0)] rfl (by (try simp only [List.map_toArray, List.map_cons, List.map_nil]); first | done | rfl | (simp only [List.length_drop, List.length_take]; rfl)) ?_; (with_reducible refine (spec_l01Number.calls kj2 (rdOf ByteArray.empty t227 0) t234 _ A15.out).mono ?_); rintro e w' ⟨rfl, ⟨nd, rfl⟩⟩; refine ⟨_, rfl, ?_⟩) | ((with_reducible refine gate_dst (N := 30) rfl ?_); refine Kd.R_lit (Kd.int .i64) _ 2 ?hg (N := 30) ?hd (xs := ([] : List Int)) (inner := []) (ok := fun _ => True) (okp := fun _ => True) ?hr ?hp (fun _ hk => hk) trivial (Below.refl _ _) (Nat.le_refl _) (by simp) ?_; (case hd => rfl); (case hg => rfl); (case hr => first | (go_simp; done) | (go_simp; rfl)); (case hp => exact (Reps.none _ _)); intro v236 w36 ho37 hb hg_ hnew_; clear hg_ hnew_; (first | rw [← Ny235.out] at ho37 | (simp only [Int.reduceToNat] at ho37; rw [← Ny235.out] at ho37)); have n0_ := Aside0.mk (Kd.R_below (by (with_reducible repeat (first | apply Kd.R_alloc | apply Kd.R_drewN | apply Kd.R_drew)); exact HO_4.out) hb); have n1_ := Aside0.mk (Kd.R_lower ho37 (below_size (by repeat (first | (with_reducible first | exact HB.out | apply below_alloc | apply pw_below_drewN | apply below_drew1 | refine below_set ?_ GE226.out) | exact HB.out)))); have n2_ := Aside0.mk (blk_below (g := gb226) (o := .cells #[.int .i64 0, .slice none 0 0] 24 (0, 0)) (by (with_reducible repeat (first | refine blk_drewN ?_ _ | refine blk_drew ?_ | refine blk_alloc ?_ _)); exact BK226.out) hb); have n3_ := Aside0.mk (below_step (by repeat (first | (with_reducible first | exact HB.out | apply below_alloc | apply pw_below_drewN | apply below_drew1 | refine below_set ?_ GE226.out) | exact HB.out)) hb); clear HO_4; clear BK226; clear HB; have HO_4 := n0_; have HO237 := n1_; have BK226 := n2_; have HB := n3_; clear n0_ n1_ n2_ n3_; clear hb ho37; have p238 : 0 ≤ (1 : Int) := (by omega); have q238 : 1 < (t227.length : Int) := of_decide_eq_true (by first | (with_reducible assumption) | assumption); obtain ⟨ad238, e238, hx238_0⟩ := Kd.at_string (Kd.R_reads' HO_4.out).2.2 1 p238 q238; obtain rfl : ad233 = ad238 := (by injection e238); (try simp only [show (1 : Int).toNat = 1 from rfl, Nat.reduceMul, Nat.reduceEqDiff, Go.Addr.add, ↓reduceIte] at hx238_0); have qi238 : (1 < t227.length) = True := eq_true (by omega); (try rw [show ((1 : Int)).toNat = 1 from rfl] at hx238_0); replace p238 := eq_true p238; replace q238 := eq_true q238; have p245 : 0 ≤ (1 : Int) := (by omega); have q245 : 1 < (t227.length : Int) := of_decide_eq_true (by first | (with_reducible assumption) | assumption); obtain ⟨ad245, e245, hx245_0⟩ := Kd.at_string (Kd.R_reads' HO_4.out).2.2 1 p245 q245; obtain rfl : ad233 = ad245 := (by injection e245); (try simp only [show (1 : Int).toNat = 1 from rfl, Nat.reduceMul, Nat.reduceEqDiff, Go.Addr.add, ↓reduceIte] at hx245_0); have qi245 : (1 < t227.length) = True := eq_true (by omega); (try rw [show ((1 : Int)).toNat = 1 from rfl] at hx245_0); replace p245 := eq_true p245; replace q245 := eq_true q245) | ((with_reducible refine gate_callee (f := 35) rfl ?_); refine goesL_ (some 38) rfl rfl Tryd.func35 (by kernel_rfl) rfl #[.string (rdOf ByteArray.empty t227 1), .int .u8 44] rfl (by (try simp only [List.map_toArray, List.map_cons, List.map_nil]); first | done | rfl | (simp only [List.length_drop, List.length_take]; rfl)) ?_; (with_reducible refine (spec_l01Split.calls kj2 (rdOf ByteArray.empty t227 1) 44 t246 _ A34.out).mono ?_); rintro e w38 ⟨v247, rfl, ho0, hb⟩; refine ⟨_, rfl, ?_⟩; have n0_ := Aside0.mk (Kd.R_elder' (by (with_reducible repeat (first | apply Kd.R_alloc | apply Kd.R_drewN | apply Kd.R_drew)); exact HO_4.out) (Kd.R_base ho0) hb); have n1_ := Aside0.mk (Kd.R_below (by (with_reducible repeat (first | apply Kd.R_alloc | apply Kd.R_drewN | apply Kd.R_drew)); exact HO237.out) hb); have n2_ := Aside0.mk (Kd.R_lower (Kd.R_new' ho0 (Kd.R_lt (by (with_reducible repeat (first | apply Kd.R_alloc | apply Kd.R_drewN | apply Kd.R_drew)); exact HO_4.out))) (below_size (by repeat (first | (with_reducible first | exact HB.out | apply below_alloc | apply pw_below_drewN | apply below_drew1 | refine below_set ?_ GE226.out) | exact HB.out)))); have n3_ := Aside0.mk (blk_below (g := gb226) (o := .cells #[.int .i64 0, .slice none 0 0] 24 (0, 0)) (by (with_reducible repeat (first | refine blk_drewN ?_ _ | refine blk_drew ?_ | refine blk_alloc ?_ _)); exact BK226.out) hb); have n4_ := Aside0.mk (below_step (by repeat (first | (with_reducible first | exact HB.out | apply below_alloc | apply pw_below_drewN | apply below_drew1 | refine below_set ?_ GE226.out) | exact HB.out)) hb); clear HO_4; clear HO237; clear BK226; clear HB; have HO_4 := n0_; have HO237 := n1_; have HO248 := n2_; have BK226 := n3_; have HB := n4_; clear n0_ n1_ n2_ n3_ n4_; (try clear hb); (try clear hb2); (try clear hk); (try clear hi); (try clear ho0)))
       go_loopg [6, 8] kj2 (fun kq v6 v8 w' => ∃ (x6_2 : List Int) (x8_2 : Int) (x227000_2 : Int), v8 = .int .i64 x8_2 ∧ Aside0 (spec_l01Read.l0 kq a0 t234 x6_2 t246 x8_2 = some (r1, r2, r3)) ∧ Aside0 (kq ≤ kj2) ∧ Aside0 (Kd.R (Kd.int .i64) 2 w' w.heap.size (fun _ => True) v6 x6_2) ∧ Aside0 (Kd.R Kd.string 9 w' w.heap.size (fun _ => True) v247 t246) ∧ Aside0 (w'.heap[gb226]? = some (.cells #[.int .i64 x227000_2, (.slice none 0 0)] 24 (0, 0))) ∧ Aside0 (Below w.heap.size w w'))
       case atStart => exact ⟨(y235), (0), (0), (by first | rfl | (simp; done) | (simp [*]; done)), H', ⟨Nat.le_refl _⟩, ⟨by (with_reducible repeat (first | apply Kd.R_alloc | apply Kd.R_drewN | apply Kd.R_drew)); exact HO237.out⟩, ⟨by (with_reducible repeat (first | apply Kd.R_alloc | apply Kd.R_drewN | apply Kd.R_drew)); exact Kd.R_mono HO248.out (fun _ hk => trivial)⟩, ⟨by (with_reducible repeat (first | refine blk_drewN ?_ _ | refine blk_drew ?_ | refine blk_alloc ?_ _)); exact BK226.out⟩, ⟨by repeat (first | (with_reducible first | exact HB.out | apply below_alloc | apply pw_below_drewN | apply below_drew1 | refine below_set ?_ GE226.out) | exact HB.out)⟩⟩
       case round =>
        clear H'
        try clear c1
        try clear c2
        try clear p2
        try clear q2
        try clear hx2
        try clear qi2
        try clear c3
        try clear c6
        try clear c6b0
        try clear c6b1
        try clear c7
        try clear c7b0
        try clear c7b1
        try clear c12
        try clear c14
        try clear c14b0
        try clear c14b1
        try clear c16
        try clear c16b0
        try clear c16b1
        try clear c17
        try clear c17b0
        try clear c17b1
        try clear p23
        try clear q23
        try clear hx23
        try clear qi23
        try clear p24
        try clear q24
        try clear hx24
        try clear qi24
        try clear c26
        try clear c31
        try clear c35
        try clear c37
        try clear hcz13_0
        try clear hcz13_1
        try clear hcz27_0
        try clear hcz27_1
        try clear hfz13_0
        try clear hfz13_1
        try clear hfz27_0
        try clear hfz27_1
        try clear hx230_0
        try clear hx233_0
        try clear hx238_0
        try clear hx245_0
        try clear p2
        try clear p230
        try clear p233
        try clear p238
        try clear p245
        try clear q2
        try clear q230
        try clear q233
        try clear q238
        try clear q245
        obtain ⟨x6_2, x8_2, x227000_2, rfl, HA, HK2, HO_6, HO_7, BK226, HB⟩ := hrel
        cases gk with
        | zero => exact absurd HA.out (by simp [spec_l01Read.l0])
        | succ k2 =>
         have H := HA.out
         clear HA
         simp only [spec_l01Read.l0] at H
         by_cases c39 : x8_2 < (t246.length : Int)
         ·rw [if_pos c39] at H
          have c39b0 : decide (x8_2 < (t246.length : Int)) = true := decide_eq_true c39
          clear c39
          by_cases c40 : 0 ≤ x8_2
          ·rw [if_pos c40] at H
           have c40b0 : decide (0 ≤ x8_2) = true := decide_eq_true c40
           clear c40
           replace H := Option.bind_eq_some_iff.mp H
           obtain ⟨⟨t250, t251⟩, A410, H⟩ := H
           replace H : (if t251 = true then (if x6_2.length < 17592186044416 then (spec_l01Read.l0 k2 a0 t234 (x6_2 ++ [t250]) t246 (wrap64 (x8_2 + 1))) else (none)) else (some (0, ([] : List Int), false))) = some (r1, r2, r3) := H
           have A41 := Aside0.mk A410
           clear A410
           by_cases c42 : t251 = true
           ·subst c42
            have H1 : (if x6_2.length < 17592186044416 then (spec_l01Read.l0 k2 a0 t234 (x6_2 ++ [t250]) t246 (wrap64 (x8_2 + 1))) else (none)) = some (r1, r2, r3) := by rw [if_pos rfl] at H; exact H
            clear H
            have H := H1
            clear H1
            by_cases c43 : x6_2.length < 17592186044416
            ·rw [if_pos c43] at H
             have LMc43 := Aside0.mk c43
             clear c43
             obtain ⟨y252, hy252⟩ : ∃ y_ : List Int, y_ = (x6_2 ++ [t250]) := ⟨_, rfl⟩
             replace H : (spec_l01Read.l0 k2 a0 t234 y252 t246 (wrap64 (x8_2 + 1))) = some (r1, r2, r3) := by first | (rw [hy252]; with_reducible exact H) | (have H2_ := (Option.bind_some _ _).symm.trans H; rw [hy252]; with_reducible exact H2_) | (have H2_ := (Option.bind_some _ _).symm.trans H; with_reducible exact H2_) | with_reducible exact H | (rw [hy252]; exact H) | exact H
             have Ny252 := Aside0.mk hy252
             clear hy252
             have H' := Aside0.mk H
             clear H
             obtain ⟨Ao44, co44, eo44⟩ := Kd.R_slice HO_7.out
             subst eo44
             have p249 : 0 ≤ (x8_2 : Int) := of_decide_eq_true (by first | (with_reducible assumption) | assumption)
             have q249 : x8_2 < (t246.length : Int) := of_decide_eq_true (by first | (with_reducible assumption) | assumption)
             obtain ⟨ad249, e249, hx249_0⟩ := Kd.at_string (Kd.R_reads' HO_7.out).2.2 x8_2 p249 q249
             cases e249
             replace p249 := eq_true p249
             replace q249 := eq_true q249
             go_wp2_with (first | ((with_reducible refine gate_callee (f := 38) rfl ?_); refine goesL_ (some 51) rfl rfl Tryd.func38 (by kernel_rfl) rfl #[.string (rdOf ByteArray.empty t246 x8_2), .int .i64 t234] rfl (by (try simp only [List.map_toArray, List.map_cons, List.map_nil]); first | done | rfl | (simp only [List.length_drop, List.length_take]; rfl)) ?_; (with_reducible refine (spec_l01Set.calls k2 (rdOf ByteArray.empty t246 x8_2) t234 t250 true _ A41.out).mono ?_); rintro e w' ⟨rfl, ⟨nd, rfl⟩⟩; refine ⟨_, rfl, ?_⟩) | ((with_reducible refine gate_builtin (b := .append) (xs := #[.tmp 57, .tmp 59]) rfl ?_); at_builtin; refine Kd.R_append (Kd.int .i64) (w0 := w) w.heap.size rfl (.tmp 57) (.tmp 59) 22 2 (.int .i64 0) 8 rfl Tryd.underlying22 info2 rfl (by decide) (by omega) u6 x6_2 t250 [.int .i64 t250] (fun _ => True) (fun _ => False) rfl rfl ?aP (fun _ hk => hk.elim) ?aF ?aO ?aB ?aS ?aL ?_; (case aP => exact rfl); (case aB => exact (by repeat (first | (with_reducible first | exact HB.out | apply below_alloc | apply pw_below_drewN | apply below_drew1 | refine below_set ?_ GE226.out) | exact HB.out))); (case aF => exact (fun _ _ => trivial)); (case aO => exact (by (with_reducible repeat (first | apply Kd.R_alloc | apply Kd.R_drewN | apply Kd.R_drew)); exact HO_6.out)); (case aS => exact (below_size (by repeat (first | (with_reducible first | exact HB.out | apply below_alloc | apply pw_below_drewN | apply below_drew1 | refine below_set ?_ GE226.out) | exact HB.out)))); (case aL => have := LMc43.out; omega); intro v253 w45 ho hb hg hat; rw [← Ny252.out] at ho; have n0_ := Aside0.mk (Kd.R_over' (by (with_reducible repeat (first | apply Kd.R_alloc | apply Kd.R_drewN | apply Kd.R_drew)); exact HO_7.out) (Kd.R_typed (by (with_reducible repeat (first | apply Kd.R_alloc | apply Kd.R_drewN | apply Kd.R_drew)); exact HO_6.out)) (by decide) hg); have n1_ := Aside0.mk (blk_grown (g := gb226) (o := .cells #[.int .i64 x227000_2, .slice none 0 0] 24 (0, 0)) (by (with_reducible repeat (first | refine blk_drewN ?_ _ | refine blk_drew ?_ | refine blk_alloc ?_ _)); exact BK226.out) hg (Kd.R_ne HO_6.out BK226.out (by decide))); have n2_ := Aside0.mk (hb); have n3_ := Aside0.mk (ho); clear HO_7; clear BK226; clear HB; clear HO_6; have HO_7 := n0_; have BK226 := n1_; have HB := n2_; have HO254 := n3_; clear n0_ n1_ n2_ n3_; clear ho hb hg hat))
             go_roundg k2
             case measure => have := HJ2.out; have := HK2.out; omega
             case rel => exact ⟨(y252), (wrap64 (x8_2 + 1)), (x227000_2), (by first | rfl | (simp; done) | (simp [*]; done)), H', ⟨by have := HJ2.out; have := HK2.out; omega⟩, ⟨by (with_reducible repeat (first | apply Kd.R_alloc | apply Kd.R_drewN | apply Kd.R_drew)); exact HO254.out⟩, ⟨by (with_reducible repeat (first | apply Kd.R_alloc | apply Kd.R_drewN | apply Kd.R_drew)); exact HO_7.out⟩, ⟨by (with_reducible repeat (first | refine blk_drewN ?_ _ | refine blk_drew ?_ | refine blk_alloc ?_ _)); exact BK226.out⟩, ⟨by repeat (first | (with_reducible first | exact HB.out | apply below_alloc | apply pw_below_drewN | apply below_drew1 | refine below_set ?_ GE226.out) | exact HB.out)⟩⟩
            ·rw [if_neg c43] at H
             exact absurd H (by simp)
           ·replace c42 := Bool.eq_false_iff.mpr c42
            subst c42
            have H1 : (some (0, ([] : List Int), false)) = some (r1, r2, r3) := by rw [if_neg (show ¬ (false = true) by decide)] at H; exact H
            clear H
            have H := H1
            clear H1
            simp only [Option.some.injEq, Prod.mk.injEq] at H
            obtain ⟨rfl, rfl, rfl⟩ := H
            obtain ⟨Ao46, co46, eo46⟩ := Kd.R_slice HO_7.out
            subst eo46
            have p249 : 0 ≤ (x8_2 : Int) := of_decide_eq_true (by first | (with_reducible assumption) | assumption)
            have q249 : x8_2 < (t246.length : Int) := of_decide_eq_true (by first | (with_reducible assumption) | assumption)
            obtain ⟨ad249, e249, hx249_0⟩ := Kd.at_string (Kd.R_reads' HO_7.out).2.2 x8_2 p249 q249
            cases e249
            replace p249 := eq_true p249
            replace q249 := eq_true q249
            go_wp2_with (first | ((with_reducible refine gate_callee (f := 38) rfl ?_); refine goesL_ (some 51) rfl rfl Tryd.func38 (by kernel_rfl) rfl #[.string (rdOf ByteArray.empty t246 x8_2), .int .i64 t234] rfl (by (try simp only [List.map_toArray, List.map_cons, List.map_nil]); first | done | rfl | (simp only [List.length_drop, List.length_take]; rfl)) ?_; (with_reducible refine (spec_l01Set.calls k2 (rdOf ByteArray.empty t246 x8_2) t234 t250 false _ A41.out).mono ?_); rintro e w' ⟨rfl, ⟨nd, rfl⟩⟩; refine ⟨_, rfl, ?_⟩; (try (rw [drewN_self wr]; generalize hq_ : World.drewN wr _ = wr; have n0_ : Aside0 (Kd.R (Kd.int .i64) 2 wr w.heap.size (fun _ => True) u6 x6_2) := ⟨by rw [← hq_]; exact (by (with_reducible repeat (first | apply Kd.R_alloc | apply Kd.R_drewN | apply Kd.R_drew)); exact HO_6.out)⟩; have n1_ : Aside0 (Kd.R Kd.string 9 wr w.heap.size (fun _ => True) (.slice (some ad249) t246.length co46) t246) := ⟨by rw [← hq_]; exact (by (with_reducible repeat (first | apply Kd.R_alloc | apply Kd.R_drewN | apply Kd.R_drew)); exact HO_7.out)⟩; have n2_ : Aside0 (wr.heap[gb226]? = some (.cells #[.int .i64 x227000_2, .slice none 0 0] 24 (0, 0))) := ⟨by rw [← hq_]; exact (by (with_reducible repeat (first | refine blk_drewN ?_ _ | refine blk_drew ?_ | refine blk_alloc ?_ _)); exact BK226.out)⟩; have n3_ : Aside0 (Below w.heap.size w wr) := ⟨by rw [← hq_]; exact (by repeat (first | (with_reducible first | exact HB.out | apply below_alloc | apply pw_below_drewN | apply below_drew1 | refine below_set ?_ GE226.out) | exact HB.out))⟩; clear HO_6 HO_7 BK226 HB hq_; have HO_6 := n0_; have HO_7 := n1_; have BK226 := n2_; have HB := n3_; clear n0_ n1_ n2_ n3_)); have hcz47_0 : wr.cell? ⟨gb226, 0, none⟩ = some (.int .i64 x227000_2) := (blk_cell BK226.out 0).trans rfl; have hcz47_1 : wr.cell? ⟨gb226, 1, none⟩ = some (.slice none 0 0) := (blk_cell BK226.out 1).trans rfl; have hfz47_0 := blk_frozen BK226.out 0; have hfz47_1 := blk_frozen BK226.out 1))
            refine bodyPost_ret (results_ct rfl _ _ gb226 24 #[.int .i64 0, .slice none 0 0] (0, 0) _ rfl (by (with_reducible repeat (first | refine blk_drewN ?_ _ | refine blk_drew ?_ | refine blk_alloc ?_ _)); refine blk_put (cs := #[.int .i64 0, .slice none 0 0]) ?_ 1 _ rfl; (with_reducible repeat (first | refine blk_drewN ?_ _ | refine blk_drew ?_ | refine blk_alloc ?_ _)); refine blk_put (cs := #[.int .i64 x227000_2, .slice none 0 0]) ?_ 0 _ rfl; (with_reducible repeat (first | refine blk_drewN ?_ _ | refine blk_drew ?_ | refine blk_alloc ?_ _)); exact BK226.out) Tryd.underlying24 rfl (by kernel_rfl)) rfl ?_
            exact ⟨_, by first | rfl | (simp [errW_none, errW_some] <;> rfl) | (simp [*, errW_none, errW_some] <;> rfl), by first | exact Kd.R_nil _ _ _ _ _ | exact Kd.N_nil _ _ _ _ _ | exact Kd.V_nil _ _ _ _ _ | exact Kd.Q_nil _ _ _ _ _ | exact Kd.S_nil _ _ _ _ _, by repeat (first | (with_reducible first | exact HB.out | apply below_alloc | apply pw_below_drewN | apply below_drew1 | refine below_set ?_ GE226.out) | exact HB.out)⟩
          ·rw [if_neg c40] at H
           exact absurd H (by simp)
         ·rw [if_neg c39] at H
          have c39b0 : decide (x8_2 < (t246.length : Int)) = false := decide_eq_false c39
          clear c39
          replace H := Option.bind_eq_some_iff.mp H
          obtain ⟨⟨t255, t256⟩, A480, H⟩ := H
          replace H : ((spec_l01Text.f k2 t255 t256).bind fun t260 => (some (t255, t256, (t260.toList == a0.toList)))) = some (r1, r2, r3) := H
          have A48 := Aside0.mk A480
          clear A480
          replace H := Option.bind_eq_some_iff.mp H
          obtain ⟨t260, A490, H⟩ := H
          replace H : (some (t255, t256, (t260.toList == a0.toList))) = some (r1, r2, r3) := H
          have A49 := Aside0.mk A490
          clear A490
          simp only [Option.some.injEq, Prod.mk.injEq] at H
          obtain ⟨rfl, rfl, rfl⟩ := H
          obtain ⟨Ao50, co50, eo50⟩ := Kd.R_slice HO_7.out
          subst eo50
          obtain ⟨Ao51, co51, eo51⟩ := Kd.R_slice HO_6.out
          subst eo51
          try go_wp2_with (first | ((with_reducible refine gate_callee (f := 39) rfl ?_); refine goesL_ (some 63) rfl rfl Tryd.func39 (by kernel_rfl) rfl #[.int .i64 t234, .slice Ao51 x6_2.length co51] rfl (by (try simp only [List.map_toArray, List.map_cons, List.map_nil]); first | done | rfl | (simp only [List.length_drop, List.length_take]; rfl)) ?_; (with_reducible refine (spec_l01Made.calls k2 t234 _ _ x6_2 t255 t256 _ ?side1 ?side2 A48.out).mono ?_); (case side1 => repeat (first | exact (Kd.R_reads' HO_6.out).2.2 | (with_reducible refine Kd.C_alloc ?_ _) | (with_reducible refine Kd.C_drewN ?_ _) | (with_reducible refine Kd.C_drew ?_))); (case side2 => exact (Kd.R_reads' HO_6.out).2.1); rintro e w52 ⟨v257, rfl, ho0, hb⟩; refine ⟨_, rfl, ?_⟩; have n0_ := Aside0.mk (Kd.R_elder' (by (with_reducible repeat (first | apply Kd.R_alloc | apply Kd.R_drewN | apply Kd.R_drew)); exact HO_6.out) (Kd.R_base ho0) hb); have n1_ := Aside0.mk (Kd.R_below (by (with_reducible repeat (first | apply Kd.R_alloc | apply Kd.R_drewN | apply Kd.R_drew)); exact HO_7.out) hb); have n2_ := Aside0.mk (Kd.R_lower (Kd.R_new' ho0 (Kd.R_lt (by (with_reducible repeat (first | apply Kd.R_alloc | apply Kd.R_drewN | apply Kd.R_drew)); exact HO_6.out))) (below_size (by repeat (first | (with_reducible first | exact HB.out | apply below_alloc | apply pw_below_drewN | apply below_drew1 | refine below_set ?_ GE226.out) | exact HB.out)))); have n3_ := Aside0.mk (blk_below (g := gb226) (o := .cells #[.int .i64 x227000_2, .slice none 0 0] 24 (0, 0)) (by (with_reducible repeat (first | refine blk_drewN ?_ _ | refine blk_drew ?_ | refine blk_alloc ?_ _)); exact BK226.out) hb); have n4_ := Aside0.mk (below_step (by repeat (first | (with_reducible first | exact HB.out | apply below_alloc | apply pw_below_drewN | apply below_drew1 | refine below_set ?_ GE226.out) | exact HB.out)) hb); clear HO_6; clear HO_7; clear BK226; clear HB; have HO_6 := n0_; have HO_7 := n1_; have HO258 := n2_; have BK226 := n3_; have HB := n4_; clear n0_ n1_ n2_ n3_ n4_; (try clear hb); (try clear hb2); (try clear hk); (try clear hi); (try clear ho0)) | ((with_reducible refine gate_dst (N := 11) rfl ?_); refine box_event ?hg (N := 11) ?hd (cs := #[.int .i64 0, .slice none 0 0]) (t := 24) ?hr ?_; (case hd => rfl); (case hg => rfl); (case hr => first | (go_simp; done) | (go_simp; rfl)); intro gb259 hg w53 hbox hb; have n0_ := Aside0.mk (Kd.R_below (by (with_reducible repeat (first | apply Kd.R_alloc | apply Kd.R_drewN | apply Kd.R_drew)); exact HO_6.out) hb); have n1_ := Aside0.mk (Kd.R_below (by (with_reducible repeat (first | apply Kd.R_alloc | apply Kd.R_drewN | apply Kd.R_drew)); exact HO_7.out) hb); have n2_ := Aside0.mk (Kd.R_below (by (with_reducible repeat (first | apply Kd.R_alloc | apply Kd.R_drewN | apply Kd.R_drew)); exact HO258.out) hb); have n3_ := Aside0.mk (blk_below (g := gb226) (o := .cells #[.int .i64 x227000_2, .slice none 0 0] 24 (0, 0)) (by (with_reducible repeat (first | refine blk_drewN ?_ _ | refine blk_drew ?_ | refine blk_alloc ?_ _)); exact BK226.out) hb); have n4_ := Aside0.mk (below_step (by repeat (first | (with_reducible first | exact HB.out | apply below_alloc | apply pw_below_drewN | apply below_drew1 | refine below_set ?_ GE226.out) | exact HB.out)) hb); have n5_ := Aside0.mk (hbox); have n6_ := Aside0.mk ((by rw [hg]; exact (below_size (by repeat (first | (with_reducible first | exact HB.out | apply below_alloc | apply pw_below_drewN | apply below_drew1 | refine below_set ?_ GE226.out) | exact HB.out))) : w.heap.size ≤ gb259)); have n7_ := Aside0.mk ((by rw [hg]; exact (below_size (by repeat (first | (with_reducible first | exact HB.out | apply below_alloc | apply pw_below_drewN | apply below_drew1 | refine below_set ?_ GE226.out) | exact HB.out))) : w.heap.size ≤ gb259)); have n8_ := Aside0.mk ((by rw [hg]; exact Nat.ne_of_lt (blk_lt (g := gb226) (o := .cells #[.int .i64 x227000_2, .slice none 0 0] 24 (0, 0)) (by (with_reducible repeat (first | refine blk_drewN ?_ _ | refine blk_drew ?_ | refine blk_alloc ?_ _)); exact BK226.out)) : gb226 ≠ gb259)); have n9_ := Aside0.mk ((by rw [hg]; exact Nat.ne_of_gt (blk_lt (g := gb226) (o := .cells #[.int .i64 x227000_2, .slice none 0 0] 24 (0, 0)) (by (with_reducible repeat (first | refine blk_drewN ?_ _ | refine blk_drew ?_ | refine blk_alloc ?_ _)); exact BK226.out)) : gb259 ≠ gb226)); clear HO_6; clear HO_7; clear HO258; clear BK226; clear HB; have HO_6 := n0_; have HO_7 := n1_; have HO258 := n2_; have BK226 := n3_; have HB := n4_; have BK259 := n5_; have GW259 := n6_; have GE259 := n7_; have NB226_259 := n8_; have NB259_226 := n9_; clear n0_ n1_ n2_ n3_ n4_ n5_ n6_ n7_ n8_ n9_; clear hb hbox hg; have hnb54 := NB259_226.out; have hnc54 := NB226_259.out; have hcz55_0 : w53.cell? ⟨gb259, 0, none⟩ = some (.int .i64 0) := (blk_cell BK259.out 0).trans rfl; have hcz55_1 : w53.cell? ⟨gb259, 1, none⟩ = some (.slice none 0 0) := (blk_cell BK259.out 1).trans rfl; have hfz55_0 := blk_frozen BK259.out 0; have hfz55_1 := blk_frozen BK259.out 1; obtain ⟨Ao56, co56, eo56⟩ := Kd.R_slice HO258.out; subst eo56))
          have n0_ : Aside0 (Kd.R (Kd.int .i64) 2 ((w53.setCell ⟨gb259, 0, none⟩ (.int .i64 t255)).setCell ⟨gb259, 1, none⟩ (.slice Ao56 t256.length co56)) w.heap.size (fun k_ => some k_ ≠ (.slice Ao56 t256.length co56 : Value).ownBlock) (.slice Ao51 x6_2.length co51) x6_2) := ⟨by (with_reducible repeat (first | apply Kd.R_alloc | apply Kd.R_drewN | apply Kd.R_drew)); exact Kd.R_mono (Kd.R_far (p := ⟨gb259, 1, none⟩) (Kd.R_far (p := ⟨gb259, 0, none⟩) (Kd.R_types HO_6.out BK259.out (by decide)) (fun _ hk => hk.2) (.int .i64 t255)) (fun _ hk => hk.2) (.slice Ao56 t256.length co56)) (fun _ hk => hk.1.2)⟩
          have n1_ : Aside0 (Kd.R Kd.string 9 ((w53.setCell ⟨gb259, 0, none⟩ (.int .i64 t255)).setCell ⟨gb259, 1, none⟩ (.slice Ao56 t256.length co56)) w.heap.size (fun _ => True) (.slice Ao50 t246.length co50) t246) := ⟨by (with_reducible repeat (first | apply Kd.R_alloc | apply Kd.R_drewN | apply Kd.R_drew)); exact Kd.R_mono (Kd.R_far (p := ⟨gb259, 1, none⟩) (Kd.R_far (p := ⟨gb259, 0, none⟩) (Kd.R_types HO_7.out BK259.out (by decide)) (fun _ hk => hk.2) (.int .i64 t255)) (fun _ hk => hk.2) (.slice Ao56 t256.length co56)) (fun _ hk => trivial)⟩
          have n2_ : Aside0 (Kd.R (Kd.int .i64) 2 ((w53.setCell ⟨gb259, 0, none⟩ (.int .i64 t255)).setCell ⟨gb259, 1, none⟩ (.slice Ao56 t256.length co56)) w.heap.size (fun k_ => some k_ ≠ (.slice Ao51 x6_2.length co51 : Value).ownBlock) (.slice Ao56 t256.length co56) t256) := ⟨by (with_reducible repeat (first | apply Kd.R_alloc | apply Kd.R_drewN | apply Kd.R_drew)); exact Kd.R_mono (Kd.R_far (p := ⟨gb259, 1, none⟩) (Kd.R_far (p := ⟨gb259, 0, none⟩) (Kd.R_types HO258.out BK259.out (by decide)) (fun _ hk => hk.2) (.int .i64 t255)) (fun _ hk => hk.2) (.slice Ao56 t256.length co56)) (fun _ hk => hk.1.2)⟩
          have n3_ : Aside0 (((w53.setCell ⟨gb259, 0, none⟩ (.int .i64 t255)).setCell ⟨gb259, 1, none⟩ (.slice Ao56 t256.length co56)).heap[gb226]? = some (.cells #[.int .i64 x227000_2, .slice none 0 0] 24 (0, 0))) := ⟨by (with_reducible repeat (first | refine blk_drewN ?_ _ | refine blk_drew ?_ | refine blk_alloc ?_ _)); refine blk_far ?_ NB226_259.out _; (with_reducible repeat (first | refine blk_drewN ?_ _ | refine blk_drew ?_ | refine blk_alloc ?_ _)); refine blk_far ?_ NB226_259.out _; (with_reducible repeat (first | refine blk_drewN ?_ _ | refine blk_drew ?_ | refine blk_alloc ?_ _)); exact BK226.out⟩
          have n4_ : Aside0 (((w53.setCell ⟨gb259, 0, none⟩ (.int .i64 t255)).setCell ⟨gb259, 1, none⟩ (.slice Ao56 t256.length co56)).heap[gb259]? = some (.cells #[.int .i64 t255, .slice Ao56 t256.length co56] 24 (0, 0))) := ⟨by (with_reducible repeat (first | refine blk_drewN ?_ _ | refine blk_drew ?_ | refine blk_alloc ?_ _)); refine blk_put (cs := #[.int .i64 t255, .slice none 0 0]) ?_ 1 _ rfl; (with_reducible repeat (first | refine blk_drewN ?_ _ | refine blk_drew ?_ | refine blk_alloc ?_ _)); refine blk_put (cs := #[.int .i64 0, .slice none 0 0]) ?_ 0 _ rfl; (with_reducible repeat (first | refine blk_drewN ?_ _ | refine blk_drew ?_ | refine blk_alloc ?_ _)); exact BK259.out⟩
          have n5_ : Aside0 (Below w.heap.size w ((w53.setCell ⟨gb259, 0, none⟩ (.int .i64 t255)).setCell ⟨gb259, 1, none⟩ (.slice Ao56 t256.length co56))) := ⟨by repeat (first | (with_reducible first | exact HB.out | apply below_alloc | apply pw_below_drewN | apply below_drew1 | refine below_set ?_ GE226.out | refine below_set ?_ GE259.out) | exact HB.out)⟩
          (try clear HO_6)
          (try clear HO_7)
          (try clear HO258)
          (try clear BK226)
          (try clear BK259)
          (try clear HB)
          generalize ((w53.setCell ⟨gb259, 0, none⟩ (.int .i64 t255)).setCell ⟨gb259, 1, none⟩ (.slice Ao56 t256.length co56)) = w57 at n0_ n1_ n2_ n3_ n4_ n5_ ⊢
          have HO_6 := n0_
          have HO_7 := n1_
          have HO258 := n2_
          have BK226 := n3_
          have BK259 := n4_
          have HB := n5_
          clear n0_ n1_ n2_ n3_ n4_ n5_
          have n0_ := Aside0.mk (Kd.R_drew HO_6.out)
          have n1_ := Aside0.mk (Kd.R_drew HO_7.out)
          have n2_ := Aside0.mk (Kd.R_drew HO258.out)
          have n3_ := Aside0.mk (blk_drew BK226.out)
          have n4_ := Aside0.mk (blk_drew BK259.out)
          have n5_ := Aside0.mk (below_drew1 HB.out)
          clear HO_6
          clear HO_7
          clear HO258
          clear BK226
          clear BK259
          clear HB
          have HO_6 := n0_
          have HO_7 := n1_
          have HO258 := n2_
          have BK226 := n3_
          have BK259 := n4_
          have HB := n5_
          clear n0_ n1_ n2_ n3_ n4_ n5_
          refine start_ (n := 7) (S := fun w' => w'.cell? ⟨gb259, 0, none⟩ = some (.int .i64 t255) ∧ w'.cell? ⟨gb259, 1, none⟩ = some (.slice Ao56 t256.length co56)) (ds := []) (ar 0 7) (by kernel_rfl) rfl rfl ⟨(blk_cell BK259.out 0).trans rfl, (blk_cell BK259.out 1).trans rfl⟩ (fun hHeld => ?_)
          generalize w57.drew = w58 at HO_6 HO_7 HO258 BK226 BK259 HB hHeld ⊢
          refine pure_ (i := 3) (N := some 67) (v := ?_) (a' := ?_) #[O,O,O,U,O,O,O] rfl rfl (by kernel_rfl) hh_ (Or.inl ⟨by rfl, ?_⟩) ?_ ?_; rotate_left; (intro w'; go_simp; with_reducible rfl); rotate_left; · simp only [nm_]; rfl
          refine take_ (i := 0) (N := some 64) (v := ?_) (a' := ?_) #[U,O,O,U,O,O,O] rfl rfl (by kernel_rfl) hh_ (Or.inl ⟨by rfl, ?_⟩) hHeld ?_ ?_
          rotate_left; · rintro w' ⟨s0, s1⟩; go_simp; with_reducible rfl
          rotate_left; · simp only [nm_]; rfl
          refine take_ (i := 1) (N := some 65) (v := ?_) (a' := ?_) #[U,U,O,U,O,O,O] rfl rfl (by kernel_rfl) hh_ (Or.inl ⟨by rfl, ?_⟩) hHeld ?_ ?_
          rotate_left; · rintro w' ⟨s0, s1⟩; go_simp; with_reducible rfl
          rotate_left; · simp only [nm_]; rfl
          refine one_ (i := 2) (N := some 66) (ar 4 3) rfl rfl (by kernel_rfl) (by decide) (fun K hK => ?_)
          refine goes_ Tryd.func31 (by kernel_rfl) rfl #[.agg #[.int .i64 t255, .slice Ao56 t256.length co56]] (by rfl) rfl rfl (by (try simp only [List.map_toArray, List.map_cons, List.map_nil]); first | done | rfl | (simp only [List.length_drop, List.length_take]; rfl)) ?_
          with_reducible refine (spec_l01Text.calls k2 t255 _ _ t256 t260 _ ?side1 ?side2 A49.out).mono ?_
          (case side1 => repeat (first | exact (Kd.R_reads' HO258.out).2.2 | (with_reducible refine Kd.C_alloc ?_ _) | (with_reducible refine Kd.C_drewN ?_ _) | (with_reducible refine Kd.C_drew ?_)))
          (case side2 => exact (Kd.R_reads' HO258.out).2.1)
          rintro e w59 ⟨rfl, hb⟩
          refine ⟨_, rfl, ?_⟩
          have n0_ := Aside0.mk (Kd.R_below (by (with_reducible repeat (first | apply Kd.R_alloc | apply Kd.R_drewN | apply Kd.R_drew)); exact HO_6.out) hb)
          have n1_ := Aside0.mk (Kd.R_below (by (with_reducible repeat (first | apply Kd.R_alloc | apply Kd.R_drewN | apply Kd.R_drew)); exact HO_7.out) hb)
          have n2_ := Aside0.mk (Kd.R_below (by (with_reducible repeat (first | apply Kd.R_alloc | apply Kd.R_drewN | apply Kd.R_drew)); exact HO258.out) hb)
          have n3_ := Aside0.mk (blk_below (g := gb226) (o := .cells #[.int .i64 x227000_2, .slice none 0 0] 24 (0, 0)) (by (with_reducible repeat (first | refine blk_drewN ?_ _ | refine blk_drew ?_ | refine blk_alloc ?_ _)); exact BK226.out) hb)
          have n4_ := Aside0.mk (blk_below (g := gb259) (o := .cells #[.int .i64 t255, .slice Ao56 t256.length co56] 24 (0, 0)) (by (with_reducible repeat (first | refine blk_drewN ?_ _ | refine blk_drew ?_ | refine blk_alloc ?_ _)); exact BK259.out) hb)
          have n5_ := Aside0.mk (below_step (by repeat (first | (with_reducible first | exact HB.out | apply below_alloc | apply pw_below_drewN | apply below_drew1 | refine below_set ?_ GE226.out | refine below_set ?_ GE259.out) | exact HB.out)) hb)
          clear HO_6
          clear HO_7
          clear HO258
          clear BK226
          clear BK259
          clear HB
          have HO_6 := n0_
          have HO_7 := n1_
          have HO258 := n2_
          have BK226 := n3_
          have BK259 := n4_
          have HB := n5_
          clear n0_ n1_ n2_ n3_ n4_ n5_
          (try clear hb)
          (try clear hb2)
          (try clear hk)
          (try clear hi)
          refine hK.out _ _ ⟨(blk_cell BK259.out 0).trans rfl, (blk_cell BK259.out 1).trans rfl⟩ (fun hHeld => ?_)
          clear hK K
          refine norm_ (a' := ?_) ?_ ?_
          rotate_left
          ·show Act.put _ (some 66) _ = _
           simp only [nm_]
           rfl
          refine pure_ (i := 4) (N := some 68) (v := ?_) (a' := ?_) (ar 5 2) rfl rfl (by kernel_rfl) hh_ (Or.inl ⟨by rfl, ?_⟩) ?_ ?_; rotate_left; (intro w'; go_simp; with_reducible rfl); rotate_left; · simp only [nm_]; rfl
          refine one_ (i := 5) (N := none) (ar 6 1) rfl rfl (by kernel_rfl) (by decide) (fun K hK => ?_)
          have hs60 : w59.cell? ⟨gb226, 0, none⟩ = some (.int .i64 x227000_2) := (blk_cell BK226.out 0).trans rfl
          have hfs60 := blk_frozen BK226.out 0
          have hns60_1 := NB259_226.out
          have hms60_1 := NB226_259.out
          have hs61 : w59.cell? ⟨gb226, 1, none⟩ = some (.slice none 0 0) := (blk_cell BK226.out 1).trans rfl
          have hfs61 := blk_frozen BK226.out 1
          have hns61_1 := NB259_226.out
          have hms61_1 := NB226_259.out
          refine skip_ (w1 := ?_) (by rfl) rfl ?_ ?_
          rotate_left
          ·go_simp
           rfl
          refine hK.out _ _ ⟨((cell_far (p := ⟨gb226, _, none⟩) NB259_226.out _).trans (((cell_far (p := ⟨gb226, _, none⟩) NB259_226.out _).trans (hHeld.1)))), ((cell_far (p := ⟨gb226, _, none⟩) NB259_226.out _).trans (((cell_far (p := ⟨gb226, _, none⟩) NB259_226.out _).trans (hHeld.2))))⟩ (fun hHeld => ?_)
          clear hK K
          refine pure_ (i := 6) (N := some 3) (v := ?_) (a' := ?_) (ar 7 0) rfl rfl (by kernel_rfl) hh_ (Or.inl ⟨by rfl, ?_⟩) ?_ ?_; rotate_left; (intro w'; go_simp; with_reducible rfl); rotate_left; · simp only [nm_]; rfl
          refine done_ (by kernel_rfl) ?_
          try go_wp2
          refine bodyPost_ret (results_ct rfl _ _ gb226 24 #[.int .i64 t255, .slice Ao56 t256.length co56] (0, 0) _ rfl (by (with_reducible repeat (first | refine blk_drewN ?_ _ | refine blk_drew ?_ | refine blk_alloc ?_ _)); refine blk_put (cs := #[.int .i64 t255, .slice none 0 0]) ?_ 1 _ rfl; (with_reducible repeat (first | refine blk_drewN ?_ _ | refine blk_drew ?_ | refine blk_alloc ?_ _)); refine blk_put (cs := #[.int .i64 x227000_2, .slice none 0 0]) ?_ 0 _ rfl; (with_reducible repeat (first | refine blk_drewN ?_ _ | refine blk_drew ?_ | refine blk_alloc ?_ _)); exact BK226.out) Tryd.underlying24 rfl (by kernel_rfl)) rfl ?_
          exact ⟨_, by first | rfl | (simp [errW_none, errW_some] <;> rfl) | (simp [*, errW_none, errW_some] <;> rfl), by (with_reducible repeat (first | apply Kd.R_alloc | apply Kd.R_drewN | apply Kd.R_drew)); exact Kd.R_mono (Kd.R_far (p := ⟨gb226, 1, none⟩) (Kd.R_far (p := ⟨gb226, 0, none⟩) (Kd.R_types HO258.out BK226.out (by decide)) (fun _ hk => hk.2) (.int .i64 t255)) (fun _ hk => hk.2) (.slice Ao56 t256.length co56)) (fun _ hk => trivial), by repeat (first | (with_reducible first | exact HB.out | apply below_alloc | apply pw_below_drewN | apply below_drew1 | refine below_set ?_ GE226.out | refine below_set ?_ GE259.out) | exact HB.out)⟩
     ·rw [if_neg c16] at H
      exact absurd H (by simp)
    ·rw [if_neg c14] at H
     exact absurd H (by simp)

end Go.Proofs.YtaeabbackmnioaaDoor.Q
end

section
/- Written by a program of this session (myprint.py over the kit's print). -/
namespace Go.Proofs.YtaeabbackmnioaaDoor.Q
open Go.RowKit Go.Proofs.YtaeabbackmnioaaDoorW.PrintWords Go.Proofs.YtaeabbackmnioaaDoorW.PrintLast Go.Proofs.YtaeabbackmnioaaDoorW.PrintMore
attribute [local go_sem] max2_int min2_int max_two min_two max_three min_three max_four min_four   -- for this text's walks alone
set_option linter.unusedVariables false
set_option linter.unusedSimpArgs false

/-! ### spec_ParseComplex: function 6 -/
def spec_ParseComplex.f (k : Nat) (a0 : ByteArray) : Option (Int × List Int × Int) := (spec_l01Read.f k a0).bind fun bt262 => (if bt262.2.2 = true then (some (bt262.1, bt262.2.1, 0)) else (some (0, ([] : List Int), 6)))
theorem spec_ParseComplex.mono : ∀ a0 k, LeO (spec_ParseComplex.f k a0) (spec_ParseComplex.f (k + 1) a0) := by
 intro a0 k
 unfold spec_ParseComplex.f
 repeat' first
   | (with_reducible exact spec_l01Read.mono _ _)
   | (with_reducible exact LeO.refl _)
   | (with_reducible exact LeO.none _)
   | (with_reducible refine LeO.ite ?_ ?_)
   | (with_reducible refine LeO.bind ?_ (fun _ => ?_))
   | exact spec_l01Read.mono _ _
   | exact LeO.none _
   | refine LeO.ite ?_ ?_
   | refine LeO.bind ?_ (fun _ => ?_)
set_option maxHeartbeats 8000000 in
set_option maxRecDepth 100000 in
theorem spec_ParseComplex.calls (k : Nat) (a0 : ByteArray) (r1 : Int) (r2 : List Int) (r3 : Int) (w : World) (h : spec_ParseComplex.f k a0 = some (r1, r2, r3)) :
  Calls Tryd.prog 6 #[.string a0] w fun e w' => ∃ v1_ : Value, e = .returned (.tuple #[.agg #[.int .i64 r1, v1_], .int .i64 r3]) ∧ Kd.R (Kd.int .i64) 2 w' w.heap.size (fun _ => True) v1_ r2 ∧ Below w.heap.size w w' := by
 have hu24 := Tryd.underlying24
 have HB := Aside0.mk (Below.refl w.heap.size w)
 have H : ((spec_l01Read.f k a0).bind fun bt262 => (if bt262.2.2 = true then (some (bt262.1, bt262.2.1, 0)) else (some (0, ([] : List Int), 6)))) = some (r1, r2, r3) := h
 clear h
 replace H := Option.bind_eq_some_iff.mp H
 obtain ⟨⟨t262, t263, t266⟩, A20, H⟩ := H
 replace H : (if t266 = true then (some (t262, t263, 0)) else (some (0, ([] : List Int), 6))) = some (r1, r2, r3) := H
 have A2 := Aside0.mk A20
 clear A20
 by_cases c3 : t266 = true
 ·subst c3
  have H1 : (some (t262, t263, 0)) = some (r1, r2, r3) := by rw [if_pos rfl] at H; exact H
  clear H
  have H := H1
  clear H1
  simp only [Option.some.injEq, Prod.mk.injEq] at H
  obtain ⟨rfl, rfl, rfl⟩ := H
  go_enter Tryd.func6, Tryd.ntmps6
  go_wp2_with (first | ((with_reducible refine gate_dst (N := 2) rfl ?_); refine box_event ?hg (N := 2) ?hd (cs := #[.int .i64 0, .slice none 0 0]) (t := 24) ?hr ?_; (case hd => rfl); (case hg => rfl); (case hr => first | (go_simp; done) | (go_simp; rfl)); intro gb261 hg w4 hbox hb; have n0_ := Aside0.mk (below_step (by repeat (first | (with_reducible first | exact HB.out | apply below_alloc | apply pw_below_drewN | apply below_drew1) | exact HB.out)) hb); have n1_ := Aside0.mk (hbox); have n2_ := Aside0.mk ((by rw [hg]; exact (below_size (by repeat (first | (with_reducible first | exact HB.out | apply below_alloc | apply pw_below_drewN | apply below_drew1) | exact HB.out))) : w.heap.size ≤ gb261)); have n3_ := Aside0.mk ((by rw [hg]; exact (below_size (by repeat (first | (with_reducible first | exact HB.out | apply below_alloc | apply pw_below_drewN | apply below_drew1) | exact HB.out))) : w.heap.size ≤ gb261)); clear HB; have HB := n0_; have BK261 := n1_; have GW261 := n2_; have GE261 := n3_; clear n0_ n1_ n2_ n3_; clear hb hbox hg) | ((with_reducible refine gate_callee (f := 17) rfl ?_); refine goesL_ (some 8) rfl rfl Tryd.func17 (by kernel_rfl) rfl #[.string a0] rfl (by (try simp only [List.map_toArray, List.map_cons, List.map_nil]); first | done | rfl | (simp only [List.length_drop, List.length_take]; rfl)) ?_; (with_reducible refine (spec_l01Read.calls k a0 t262 t263 true _ A2.out).mono ?_); rintro e w5 ⟨v264, rfl, ho0, hb⟩; refine ⟨_, rfl, ?_⟩; have n0_ := Aside0.mk (Kd.R_lower ho0 (below_size (by repeat (first | (with_reducible first | exact HB.out | apply below_alloc | apply pw_below_drewN | apply below_drew1 | refine below_set ?_ GE261.out) | exact HB.out)))); have n1_ := Aside0.mk (blk_below (g := gb261) (o := .cells #[.int .i64 0, .slice none 0 0] 24 (0, 0)) (by (with_reducible repeat (first | refine blk_drewN ?_ _ | refine blk_drew ?_ | refine blk_alloc ?_ _)); exact BK261.out) hb); have n2_ := Aside0.mk (below_step (by repeat (first | (with_reducible first | exact HB.out | apply below_alloc | apply pw_below_drewN | apply below_drew1 | refine below_set ?_ GE261.out) | exact HB.out)) hb); clear BK261; clear HB; have HO265 := n0_; have BK261 := n1_; have HB := n2_; clear n0_ n1_ n2_; (try clear hb); (try clear hb2); (try clear hk); (try clear hi); (try clear ho0)) | ((with_reducible refine gate_dst (N := 4) rfl ?_); refine box_event ?hg (N := 4) ?hd (cs := #[.int .i64 0, .slice none 0 0]) (t := 24) ?hr ?_; (case hd => rfl); (case hg => rfl); (case hr => first | (go_simp; done) | (go_simp; rfl)); intro gb267 hg w6 hbox hb; have n0_ := Aside0.mk (Kd.R_below (by (with_reducible repeat (first | apply Kd.R_alloc | apply Kd.R_drewN | apply Kd.R_drew)); exact HO265.out) hb); have n1_ := Aside0.mk (blk_below (g := gb261) (o := .cells #[.int .i64 0, .slice none 0 0] 24 (0, 0)) (by (with_reducible repeat (first | refine blk_drewN ?_ _ | refine blk_drew ?_ | refine blk_alloc ?_ _)); exact BK261.out) hb); have n2_ := Aside0.mk (below_step (by repeat (first | (with_reducible first | exact HB.out | apply below_alloc | apply pw_below_drewN | apply below_drew1 | refine below_set ?_ GE261.out) | exact HB.out)) hb); have n3_ := Aside0.mk (hbox); have n4_ := Aside0.mk ((by rw [hg]; exact (below_size (by repeat (first | (with_reducible first | exact HB.out | apply below_alloc | apply pw_below_drewN | apply below_drew1 | refine below_set ?_ GE261.out) | exact HB.out))) : w.heap.size ≤ gb267)); have n5_ := Aside0.mk ((by rw [hg]; exact (below_size (by repeat (first | (with_reducible first | exact HB.out | apply below_alloc | apply pw_below_drewN | apply below_drew1 | refine below_set ?_ GE261.out) | exact HB.out))) : w.heap.size ≤ gb267)); have n6_ := Aside0.mk ((by rw [hg]; exact Nat.ne_of_lt (blk_lt (g := gb261) (o := .cells #[.int .i64 0, .slice none 0 0] 24 (0, 0)) (by (with_reducible repeat (first | refine blk_drewN ?_ _ | refine blk_drew ?_ | refine blk_alloc ?_ _)); exact BK261.out)) : gb261 ≠ gb267)); have n7_ := Aside0.mk ((by rw [hg]; exact Nat.ne_of_gt (blk_lt (g := gb261) (o := .cells #[.int .i64 0, .slice none 0 0] 24 (0, 0)) (by (with_reducible repeat (first | refine blk_drewN ?_ _ | refine blk_drew ?_ | refine blk_alloc ?_ _)); exact BK261.out)) : gb267 ≠ gb261)); clear HO265; clear BK261; clear HB; have HO265 := n0_; have BK261 := n1_; have HB := n2_; have BK267 := n3_; have GW267 := n4_; have GE267 := n5_; have NB261_267 := n6_; have NB267_261 := n7_; clear n0_ n1_ n2_ n3_ n4_ n5_ n6_ n7_; clear hb hbox hg; have hnb7 := NB267_261.out; have hnc7 := NB261_267.out; have hcz8_0 : w6.cell? ⟨gb267, 0, none⟩ = some (.int .i64 0) := (blk_cell BK267.out 0).trans rfl; have hcz8_1 : w6.cell? ⟨gb267, 1, none⟩ = some (.slice none 0 0) := (blk_cell BK267.out 1).trans rfl; have hfz8_0 := blk_frozen BK267.out 0; have hfz8_1 := blk_frozen BK267.out 1; obtain ⟨Ao9, co9, eo9⟩ := Kd.R_slice HO265.out; subst eo9; have hcz10_0 : w6.cell? ⟨gb261, 0, none⟩ = some (.int .i64 0) := (blk_cell BK261.out 0).trans rfl; have hcz10_1 : w6.cell? ⟨gb261, 1, none⟩ = some (.slice none 0 0) := (blk_cell BK261.out 1).trans rfl; have hfz10_0 := blk_frozen BK261.out 0; have hfz10_1 := blk_frozen BK261.out 1))
  refine bodyPost_ret (results_ct rfl _ _ gb261 24 #[.int .i64 t262, .slice Ao9 t263.length co9] (0, 0) _ rfl (by (with_reducible repeat (first | refine blk_drewN ?_ _ | refine blk_drew ?_ | refine blk_alloc ?_ _)); refine blk_put (cs := #[.int .i64 t262, .slice none 0 0]) ?_ 1 _ rfl; (with_reducible repeat (first | refine blk_drewN ?_ _ | refine blk_drew ?_ | refine blk_alloc ?_ _)); refine blk_put (cs := #[.int .i64 0, .slice none 0 0]) ?_ 0 _ rfl; (with_reducible repeat (first | refine blk_drewN ?_ _ | refine blk_drew ?_ | refine blk_alloc ?_ _)); refine blk_far ?_ NB261_267.out _; (with_reducible repeat (first | refine blk_drewN ?_ _ | refine blk_drew ?_ | refine blk_alloc ?_ _)); refine blk_far ?_ NB261_267.out _; (with_reducible repeat (first | refine blk_drewN ?_ _ | refine blk_drew ?_ | refine blk_alloc ?_ _)); exact BK261.out) Tryd.underlying24 rfl (by kernel_rfl)) rfl ?_
  exact ⟨_, by first | rfl | (simp [errW_none, errW_some] <;> rfl) | (simp [*, errW_none, errW_some] <;> rfl), by (with_reducible repeat (first | apply Kd.R_alloc | apply Kd.R_drewN | apply Kd.R_drew)); exact Kd.R_mono (Kd.R_far (p := ⟨gb261, 1, none⟩) (Kd.R_far (p := ⟨gb261, 0, none⟩) (Kd.R_far (p := ⟨gb267, 1, none⟩) (Kd.R_far (p := ⟨gb267, 0, none⟩) (Kd.R_types (Kd.R_types HO265.out BK267.out (by decide)) BK261.out (by decide)) (fun _ hk => hk.1.2) (.int .i64 t262)) (fun _ hk => hk.1.2) (.slice Ao9 t263.length co9)) (fun _ hk => hk.2) (.int .i64 t262)) (fun _ hk => hk.2) (.slice Ao9 t263.length co9)) (fun _ hk => trivial), by repeat (first | (with_reducible first | exact HB.out | apply below_alloc | apply pw_below_drewN | apply below_drew1 | refine below_set ?_ GE261.out | refine below_set ?_ GE267.out) | exact HB.out)⟩
 ·replace c3 := Bool.eq_false_iff.mpr c3
  subst c3
  have H1 : (some (0, ([] : List Int), 6)) = some (r1, r2, r3) := by rw [if_neg (show ¬ (false = true) by decide)] at H; exact H
  clear H
  have H := H1
  clear H1
  simp only [Option.some.injEq, Prod.mk.injEq] at H
  obtain ⟨rfl, rfl, rfl⟩ := H
  go_enter Tryd.func6, Tryd.ntmps6
  go_wp2_with (first | ((with_reducible refine gate_dst (N := 2) rfl ?_); refine box_event ?hg (N := 2) ?hd (cs := #[.int .i64 0, .slice none 0 0]) (t := 24) ?hr ?_; (case hd => rfl); (case hg => rfl); (case hr => first | (go_simp; done) | (go_simp; rfl)); intro gb261 hg w11 hbox hb; have n0_ := Aside0.mk (below_step (by repeat (first | (with_reducible first | exact HB.out | apply below_alloc | apply pw_below_drewN | apply below_drew1) | exact HB.out)) hb); have n1_ := Aside0.mk (hbox); have n2_ := Aside0.mk ((by rw [hg]; exact (below_size (by repeat (first | (with_reducible first | exact HB.out | apply below_alloc | apply pw_below_drewN | apply below_drew1) | exact HB.out))) : w.heap.size ≤ gb261)); have n3_ := Aside0.mk ((by rw [hg]; exact (below_size (by repeat (first | (with_reducible first | exact HB.out | apply below_alloc | apply pw_below_drewN | apply below_drew1) | exact HB.out))) : w.heap.size ≤ gb261)); clear HB; have HB := n0_; have BK261 := n1_; have GW261 := n2_; have GE261 := n3_; clear n0_ n1_ n2_ n3_; clear hb hbox hg) | ((with_reducible refine gate_callee (f := 17) rfl ?_); refine goesL_ (some 8) rfl rfl Tryd.func17 (by kernel_rfl) rfl #[.string a0] rfl (by (try simp only [List.map_toArray, List.map_cons, List.map_nil]); first | done | rfl | (simp only [List.length_drop, List.length_take]; rfl)) ?_; (with_reducible refine (spec_l01Read.calls k a0 t262 t263 false _ A2.out).mono ?_); rintro e w12 ⟨v264, rfl, ho0, hb⟩; refine ⟨_, rfl, ?_⟩; have n0_ := Aside0.mk (Kd.R_lower ho0 (below_size (by repeat (first | (with_reducible first | exact HB.out | apply below_alloc | apply pw_below_drewN | apply below_drew1 | refine below_set ?_ GE261.out) | exact HB.out)))); have n1_ := Aside0.mk (blk_below (g := gb261) (o := .cells #[.int .i64 0, .slice none 0 0] 24 (0, 0)) (by (with_reducible repeat (first | refine blk_drewN ?_ _ | refine blk_drew ?_ | refine blk_alloc ?_ _)); exact BK261.out) hb); have n2_ := Aside0.mk (below_step (by repeat (first | (with_reducible first | exact HB.out | apply below_alloc | apply pw_below_drewN | apply below_drew1 | refine below_set ?_ GE261.out) | exact HB.out)) hb); clear BK261; clear HB; have HO265 := n0_; have BK261 := n1_; have HB := n2_; clear n0_ n1_ n2_; (try clear hb); (try clear hb2); (try clear hk); (try clear hi); (try clear ho0)) | ((with_reducible refine gate_dst (N := 4) rfl ?_); refine box_event ?hg (N := 4) ?hd (cs := #[.int .i64 0, .slice none 0 0]) (t := 24) ?hr ?_; (case hd => rfl); (case hg => rfl); (case hr => first | (go_simp; done) | (go_simp; rfl)); intro gb267 hg w13 hbox hb; have n0_ := Aside0.mk (Kd.R_below (by (with_reducible repeat (first | apply Kd.R_alloc | apply Kd.R_drewN | apply Kd.R_drew)); exact HO265.out) hb); have n1_ := Aside0.mk (blk_below (g := gb261) (o := .cells #[.int .i64 0, .slice none 0 0] 24 (0, 0)) (by (with_reducible repeat (first | refine blk_drewN ?_ _ | refine blk_drew ?_ | refine blk_alloc ?_ _)); exact BK261.out) hb); have n2_ := Aside0.mk (below_step (by repeat (first | (with_reducible first | exact HB.out | apply below_alloc | apply pw_below_drewN | apply below_drew1 | refine below_set ?_ GE261.out) | exact HB.out)) hb); have n3_ := Aside0.mk (hbox); have n4_ := Aside0.mk ((by rw [hg]; exact (below_size (by repeat (first | (with_reducible first | exact HB.out | apply below_alloc | apply pw_below_drewN | apply below_drew1 | refine below_set ?_ GE261.out) | exact HB.out))) : w.heap.size ≤ gb267)); have n5_ := Aside0.mk ((by rw [hg]; exact (below_size (by repeat (first | (with_reducible first | exact HB.out | apply below_alloc | apply pw_below_drewN | apply below_drew1 | refine below_set ?_ GE261.out) | exact HB.out))) : w.heap.size ≤ gb267)); have n6_ := Aside0.mk ((by rw [hg]; exact Nat.ne_of_lt (blk_lt (g := gb261) (o := .cells #[.int .i64 0, .slice none 0 0] 24 (0, 0)) (by (with_reducible repeat (first | refine blk_drewN ?_ _ | refine blk_drew ?_ | refine blk_alloc ?_ _)); exact BK261.out)) : gb261 ≠ gb267)); have n7_ := Aside0.mk ((by rw [hg]; exact Nat.ne_of_gt (blk_lt (g := gb261) (o := .cells #[.int .i64 0, .slice none 0 0] 24 (0, 0)) (by (with_reducible repeat (first | refine blk_drewN ?_ _ | refine blk_drew ?_ | refine blk_alloc ?_ _)); exact BK261.out)) : gb267 ≠ gb261)); clear HO265; clear BK261; clear HB; have HO265 := n0_; have BK261 := n1_; have HB := n2_; have BK267 := n3_; have GW267 := n4_; have GE267 := n5_; have NB261_267 := n6_; have NB267_261 := n7_; clear n0_ n1_ n2_ n3_ n4_ n5_ n6_ n7_; clear hb hbox hg; have hnb14 := NB267_261.out; have hnc14 := NB261_267.out; have hcz15_0 : w13.cell? ⟨gb267, 0, none⟩ = some (.int .i64 0) := (blk_cell BK267.out 0).trans rfl; have hcz15_1 : w13.cell? ⟨gb267, 1, none⟩ = some (.slice none 0 0) := (blk_cell BK267.out 1).trans rfl; have hfz15_0 := blk_frozen BK267.out 0; have hfz15_1 := blk_frozen BK267.out 1; obtain ⟨Ao16, co16, eo16⟩ := Kd.R_slice HO265.out; subst eo16; have hcz17_0 : w13.cell? ⟨gb261, 0, none⟩ = some (.int .i64 0) := (blk_cell BK261.out 0).trans rfl; have hcz17_1 : w13.cell? ⟨gb261, 1, none⟩ = some (.slice none 0 0) := (blk_cell BK261.out 1).trans rfl; have hfz17_0 := blk_frozen BK261.out 0; have hfz17_1 := blk_frozen BK261.out 1))
  refine bodyPost_ret (results_ct rfl _ _ gb261 24 #[.int .i64 0, .slice none 0 0] (0, 0) _ rfl (by (with_reducible repeat (first | refine blk_drewN ?_ _ | refine blk_drew ?_ | refine blk_alloc ?_ _)); refine blk_put (cs := #[.int .i64 0, .slice none 0 0]) ?_ 1 _ rfl; (with_reducible repeat (first | refine blk_drewN ?_ _ | refine blk_drew ?_ | refine blk_alloc ?_ _)); refine blk_put (cs := #[.int .i64 0, .slice none 0 0]) ?_ 0 _ rfl; (with_reducible repeat (first | refine blk_drewN ?_ _ | refine blk_drew ?_ | refine blk_alloc ?_ _)); refine blk_far ?_ NB261_267.out _; (with_reducible repeat (first | refine blk_drewN ?_ _ | refine blk_drew ?_ | refine blk_alloc ?_ _)); refine blk_far ?_ NB261_267.out _; (with_reducible repeat (first | refine blk_drewN ?_ _ | refine blk_drew ?_ | refine blk_alloc ?_ _)); exact BK261.out) Tryd.underlying24 rfl (by kernel_rfl)) rfl ?_
  exact ⟨_, by first | rfl | (simp [errW_none, errW_some] <;> rfl) | (simp [*, errW_none, errW_some] <;> rfl), by first | exact Kd.R_nil _ _ _ _ _ | exact Kd.N_nil _ _ _ _ _ | exact Kd.V_nil _ _ _ _ _ | exact Kd.Q_nil _ _ _ _ _ | exact Kd.S_nil _ _ _ _ _, by repeat (first | (with_reducible first | exact HB.out | apply below_alloc | apply pw_below_drewN | apply below_drew1 | refine below_set ?_ GE261.out | refine below_set ?_ GE267.out) | exact HB.out)⟩

/-! ### impl_namedText: function 28 -/
end Go.Proofs.YtaeabbackmnioaaDoor.Q
end
