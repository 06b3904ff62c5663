/- Texts of this work, put together by its pack.py. No conditions. -/
import Derived.Test.YtniikppojffiaaaJNum3
import Derived.Below
import Derived.Deep.Draws
import Derived.Deep.AppendLies
import Derived.Maps.AppendAt
import Derived.OwnWalk
import Derived.Laws.BytesArg
import Derived.Laws.MakeOwn
import Derived.Laws.OwnMore
import Derived.Deep.OwnRows
import Derived.Tactics
import Derived.Lib.ConvBytes
import Derived.Laws.Slices
import Derived.WalkKit
import Derived.KernelRfl
import Derived.RowKit3
import Derived.Deep.LoopGhost
import Derived.Deep.QuietTactic
import Derived.BigQuiet
import Derived.WideLaws
import Derived.Deep.DeepCutAuto
import Derived.Deep.CutBlock
import Derived.Deep.RegionHeld3
import Derived.Laws.Rows
import Derived.Lib.AppendStr
import Derived.ArgAppend
import Derived.Laws.IdiomCopy
import Derived.RowKit
import Derived.OrdersHeld
import Derived.Laws.BitsLemmas
import Derived.Laws.StructEq
import Derived.Test.YtniikppojffiaaaProg
import Derived.Shelf.Abstract
import Derived.RangeFuncBox
import Derived.RangeFuncLeaves
import Derived.OwnWalkIn
import Derived.TacticsInMore
import Derived.LoopNIn
import Derived.LoopIn
import Derived.LoopN
section
/- Written by a program of this session (myprint.py over the kit's print). -/
namespace Go.Proofs.Ytniikppojffiaaa.Q
open Go.RowKit Go.Proofs.YtniikppojffiaaaW.PrintWords Go.Proofs.YtniikppojffiaaaW.PrintLast Go.Proofs.YtniikppojffiaaaW.PrintMore
attribute [local go_sem] max2_int min2_int max_two min_two max_three min_three max_four min_four   -- for this text's walks alone
set_option linter.unusedVariables false
set_option linter.unusedSimpArgs false

/-! ### laws_szComplex: function 17 -/
def laws_szComplex.f (a0_0 : Int) (l0_1 : List Int) (a1 : Int) : Option (Int) := (laws_szInt64S.f l0_1 a1).bind fun t571 => (if t571 < 0 then (some (-1)) else (some t571))
set_option maxHeartbeats 8000000 in
set_option maxRecDepth 100000 in
theorem laws_szComplex.calls (a0_0 : Int) (A0_1 : Option Addr) (c0_1 : Nat) (l0_1 : List Int) (a1 : Int) (r : Int) (w : World) (hr0_1 : Kd.C (Kd.int .i64) w A0_1 l0_1.length l0_1) (hc0_1 : l0_1.length ≤ c0_1) (h : laws_szComplex.f a0_0 l0_1 a1 = some r) :
  Calls Try.prog 17 #[.agg #[.int .i64 a0_0, .slice A0_1 l0_1.length c0_1], .int .i64 a1] w fun e w' => e = .returned (.int .i64 r) ∧ Below w.heap.size w w' := by
 have hu24 := Try.underlying24
 have HR0_1 := Aside0.mk hr0_1
 have HC0_1 := Aside0.mk hc0_1
 clear hr0_1 hc0_1
 have HB := Aside0.mk (Below.refl w.heap.size w)
 have H : ((laws_szInt64S.f l0_1 a1).bind fun t571 => (if t571 < 0 then (some (-1)) else (some t571))) = some r := h
 clear h
 replace H := Option.bind_eq_some_iff.mp H
 obtain ⟨t571, A30, H⟩ := H
 replace H : (if t571 < 0 then (some (-1)) else (some t571)) = some r := H
 have A3 := Aside0.mk A30
 clear A30
 by_cases c4 : t571 < 0
 ·rw [if_pos c4] at H
  have c4b0 : decide (t571 < 0) = true := decide_eq_true c4
  clear c4
  obtain rfl := Option.some.inj H
  go_enter Try.func17, Try.ntmps17
  go_wp2_with (first | ((with_reducible refine gate_dst (N := 2) rfl ?_); refine box_event ?hg (N := 2) ?hd (cs := #[.int .i64 a0_0, .slice A0_1 l0_1.length c0_1]) (t := 24) ?hr ?_; (case hd => rfl); (case hg => rfl); (case hr => first | (go_simp; done) | (go_simp; rfl)); intro gb570 hg w5 hbox hb; have n0_ := Aside0.mk (below_step (by repeat (first | (with_reducible first | exact HB.out | apply below_alloc | apply pw_below_drewN | apply below_drew1) | exact HB.out)) hb); have n1_ := Aside0.mk (hbox); have n2_ := Aside0.mk ((by rw [hg]; exact (below_size (by repeat (first | (with_reducible first | exact HB.out | apply below_alloc | apply pw_below_drewN | apply below_drew1) | exact HB.out))) : w.heap.size ≤ gb570)); have n3_ := Aside0.mk ((by rw [hg]; exact (below_size (by repeat (first | (with_reducible first | exact HB.out | apply below_alloc | apply pw_below_drewN | apply below_drew1) | exact HB.out))) : w.heap.size ≤ gb570)); clear HB; have HB := n0_; have BK570 := n1_; have GW570 := n2_; have GE570 := n3_; clear n0_ n1_ n2_ n3_; clear hb hbox hg; have hcz6_0 : w5.cell? ⟨gb570, 0, none⟩ = some (.int .i64 a0_0) := (blk_cell BK570.out 0).trans rfl; have hcz6_1 : w5.cell? ⟨gb570, 1, none⟩ = some (.slice A0_1 l0_1.length c0_1) := (blk_cell BK570.out 1).trans rfl; have hfz6_0 := blk_frozen BK570.out 0; have hfz6_1 := blk_frozen BK570.out 1) | ((with_reducible refine gate_callee (f := 59) rfl ?_); refine goesL_ (some 8) rfl rfl Try.func59 (by kernel_rfl) rfl #[.slice A0_1 l0_1.length c0_1, .int .i64 a1] rfl (by (try simp only [List.map_toArray, List.map_cons, List.map_nil]); first | done | rfl | (simp only [List.length_drop, List.length_take]; rfl)) ?_; (with_reducible refine (laws_szInt64S.calls _ _ l0_1 a1 t571 _ ?side1 ?side2 A3.out).mono ?_); (case side1 => repeat (first | exact (Kd.C_below HR0_1.out HB.out) | (with_reducible refine Kd.C_alloc ?_ _) | (with_reducible refine Kd.C_drewN ?_ _) | (with_reducible refine Kd.C_drew ?_))); (case side2 => exact HC0_1.out); rintro e w' ⟨rfl, ⟨nd, rfl⟩⟩; refine ⟨_, rfl, ?_⟩))
  go_ret
  exact ⟨by first | rfl | (simp [errW_none, errW_some] <;> rfl) | (simp [*, errW_none, errW_some] <;> rfl), by repeat (first | (with_reducible first | exact HB.out | apply below_alloc | apply pw_below_drewN | apply below_drew1 | refine below_set ?_ GE570.out) | exact HB.out)⟩
 ·rw [if_neg c4] at H
  have c4b0 : decide (t571 < 0) = false := decide_eq_false c4
  clear c4
  obtain rfl := Option.some.inj H
  go_enter Try.func17, Try.ntmps17
  go_wp2_with (first | ((with_reducible refine gate_dst (N := 2) rfl ?_); refine box_event ?hg (N := 2) ?hd (cs := #[.int .i64 a0_0, .slice A0_1 l0_1.length c0_1]) (t := 24) ?hr ?_; (case hd => rfl); (case hg => rfl); (case hr => first | (go_simp; done) | (go_simp; rfl)); intro gb570 hg w7 hbox hb; have n0_ := Aside0.mk (below_step (by repeat (first | (with_reducible first | exact HB.out | apply below_alloc | apply pw_below_drewN | apply below_drew1) | exact HB.out)) hb); have n1_ := Aside0.mk (hbox); have n2_ := Aside0.mk ((by rw [hg]; exact (below_size (by repeat (first | (with_reducible first | exact HB.out | apply below_alloc | apply pw_below_drewN | apply below_drew1) | exact HB.out))) : w.heap.size ≤ gb570)); have n3_ := Aside0.mk ((by rw [hg]; exact (below_size (by repeat (first | (with_reducible first | exact HB.out | apply below_alloc | apply pw_below_drewN | apply below_drew1) | exact HB.out))) : w.heap.size ≤ gb570)); clear HB; have HB := n0_; have BK570 := n1_; have GW570 := n2_; have GE570 := n3_; clear n0_ n1_ n2_ n3_; clear hb hbox hg; have hcz8_0 : w7.cell? ⟨gb570, 0, none⟩ = some (.int .i64 a0_0) := (blk_cell BK570.out 0).trans rfl; have hcz8_1 : w7.cell? ⟨gb570, 1, none⟩ = some (.slice A0_1 l0_1.length c0_1) := (blk_cell BK570.out 1).trans rfl; have hfz8_0 := blk_frozen BK570.out 0; have hfz8_1 := blk_frozen BK570.out 1) | ((with_reducible refine gate_callee (f := 59) rfl ?_); refine goesL_ (some 8) rfl rfl Try.func59 (by kernel_rfl) rfl #[.slice A0_1 l0_1.length c0_1, .int .i64 a1] rfl (by (try simp only [List.map_toArray, List.map_cons, List.map_nil]); first | done | rfl | (simp only [List.length_drop, List.length_take]; rfl)) ?_; (with_reducible refine (laws_szInt64S.calls _ _ l0_1 a1 t571 _ ?side1 ?side2 A3.out).mono ?_); (case side1 => repeat (first | exact (Kd.C_below HR0_1.out HB.out) | (with_reducible refine Kd.C_alloc ?_ _) | (with_reducible refine Kd.C_drewN ?_ _) | (with_reducible refine Kd.C_drew ?_))); (case side2 => exact HC0_1.out); rintro e w' ⟨rfl, ⟨nd, rfl⟩⟩; refine ⟨_, rfl, ?_⟩))
  go_ret
  exact ⟨by first | rfl | (simp [errW_none, errW_some] <;> rfl) | (simp [*, errW_none, errW_some] <;> rfl), by repeat (first | (with_reducible first | exact HB.out | apply below_alloc | apply pw_below_drewN | apply below_drew1 | refine below_set ?_ GE570.out) | exact HB.out)⟩

/-! ### laws_szPairS: function 18 -/
def laws_szPairS.f (l0 : List (S51)) (a1 : Int) : Option (Int) := if (wrap64 (a1 - (l0.length : Int))) < 0 then (some (-1)) else (some (wrap64 (a1 - (l0.length : Int))))
set_option maxHeartbeats 8000000 in
set_option maxRecDepth 100000 in
theorem laws_szPairS.calls (A0 : Option Addr) (c0 : Nat) (l0 : List (S51)) (a1 : Int) (r : Int) (w : World) (hr0 : Kd.C k51 w A0 l0.length l0) (hc0 : l0.length ≤ c0) (h : laws_szPairS.f l0 a1 = some r) :
  Calls Try.prog 18 #[.slice A0 l0.length c0, .int .i64 a1] w fun e w' => e = .returned (.int .i64 r) ∧ Drawn0 w w' := by
 have HR0 := Aside0.mk hr0
 have HC0 := Aside0.mk hc0
 clear hr0 hc0
 have H : (if (wrap64 (a1 - (l0.length : Int))) < 0 then (some (-1)) else (some (wrap64 (a1 - (l0.length : Int))))) = some r := h
 clear h
 by_cases c3 : (wrap64 (a1 - (l0.length : Int))) < 0
 ·rw [if_pos c3] at H
  have c3b0 : decide ((wrap64 (a1 - (l0.length : Int))) < 0) = true := decide_eq_true c3
  clear c3
  obtain rfl := Option.some.inj H
  go_enter Try.func18, Try.ntmps18
  go_wp2
  go_ret
  exact ⟨by first | rfl | (simp; done) | (simp [*]; done), by repeat (first | exact Drawn0.refl _ | apply Drawn0.step)⟩
 ·rw [if_neg c3] at H
  have c3b0 : decide ((wrap64 (a1 - (l0.length : Int))) < 0) = false := decide_eq_false c3
  clear c3
  obtain rfl := Option.some.inj H
  go_enter Try.func18, Try.ntmps18
  go_wp2
  go_ret
  exact ⟨by first | rfl | (simp; done) | (simp [*]; done), by repeat (first | exact Drawn0.refl _ | apply Drawn0.step)⟩

/-! ### laws_toInt64S: function 49 -/
def laws_toInt64S.l0 : Nat → List Int → List Int → Int → Option (List Int)
 | 0, _, _, _ => none
 | k + 1, x0, x3, x4 => if x4 < (x0.length : Int) then (if 0 ≤ x4 then (if x4 < (x3.length : Int) then (laws_toInt64S.l0 k x0 (x3.set (x4 : Int).toNat (rd x0 x4)) (wrap64 (x4 + 1))) else (none)) else (none)) else (some x3)
def laws_toInt64S.f (k : Nat) (l0 : List Int) : Option (List Int) := if 0 ≤ (l0.length : Int) then (if ((l0.length : Int) : Int).toNat ≤ 35184372088832 then (laws_toInt64S.l0 k l0 (List.replicate ((l0.length : Int) : Int).toNat 0) 0) else (none)) else (none)
theorem laws_toInt64S.mono_l : ∀ k, (∀ y0 y1 y2, LeO (laws_toInt64S.l0 k y0 y1 y2) (laws_toInt64S.l0 (k + 1) y0 y1 y2))
 | 0 => fun _ _ _ r h => by simp [laws_toInt64S.l0] at h
 | k + 1 => by
  have ih0 := laws_toInt64S.mono_l k
  ·intro y0 y1 y2
   unfold laws_toInt64S.l0
   repeat' first
   | (with_reducible exact ih0 _ _ _)
   | (with_reducible exact LeO.refl _)
   | (with_reducible exact LeO.none _)
   | (with_reducible refine LeO.ite ?_ ?_)
   | (with_reducible refine LeO.bind ?_ (fun _ => ?_))
   | exact ih0 _ _ _
   | exact LeO.none _
   | refine LeO.ite ?_ ?_
   | refine LeO.bind ?_ (fun _ => ?_)
theorem laws_toInt64S.mono : ∀ a0 k, LeO (laws_toInt64S.f k a0) (laws_toInt64S.f (k + 1) a0) := by
 intro a0 k
 have ih0 := laws_toInt64S.mono_l k
 unfold laws_toInt64S.f
 repeat' first
   | (with_reducible exact ih0 _ _ _)
   | (with_reducible exact LeO.refl _)
   | (with_reducible exact LeO.none _)
   | (with_reducible refine LeO.ite ?_ ?_)
   | (with_reducible refine LeO.bind ?_ (fun _ => ?_))
   | exact ih0 _ _ _
   | exact LeO.none _
   | refine LeO.ite ?_ ?_
   | refine LeO.bind ?_ (fun _ => ?_)
set_option maxHeartbeats 8000000 in
set_option maxRecDepth 100000 in
theorem laws_toInt64S.calls (k : Nat) (A0 : Option Addr) (c0 : Nat) (l0 : List Int) (r : List Int) (w : World) (hr0 : Kd.C (Kd.int .i64) w A0 l0.length l0) (hc0 : l0.length ≤ c0) (h : laws_toInt64S.f k l0 = some r) :
  Calls Try.prog 49 #[.slice A0 l0.length c0] w fun e w' => ∃ v0_ : Value, e = .returned (v0_) ∧ Kd.R (Kd.int .i64) 2 w' w.heap.size (fun _ => True) v0_ r ∧ Below w.heap.size w w' := by
 have HR0 := Aside0.mk hr0
 have HC0 := Aside0.mk hc0
 clear hr0 hc0
 have HB := Aside0.mk (Below.refl w.heap.size w)
 have H : (if 0 ≤ (l0.length : Int) then (if ((l0.length : Int) : Int).toNat ≤ 35184372088832 then (laws_toInt64S.l0 k l0 (List.replicate ((l0.length : Int) : Int).toNat 0) 0) else (none)) else (none)) = some r := h
 clear h
 by_cases c2 : 0 ≤ (l0.length : Int)
 ·rw [if_pos c2] at H
  have c2b0 := eq_true c2
  have c2b1 : decide (0 ≤ (l0.length : Int)) = true := decide_eq_true c2
  clear c2
  by_cases c3 : ((l0.length : Int) : Int).toNat ≤ 35184372088832
  ·rw [if_pos c3] at H
   have c3b0 := eq_true c3
   have c3b1 : decide (((l0.length : Int) : Int).toNat ≤ 35184372088832) = true := decide_eq_true c3
   clear c3
   obtain ⟨y572, hy572⟩ : ∃ y_ : List Int, y_ = (List.replicate ((l0.length : Int) : Int).toNat 0) := ⟨_, rfl⟩
   replace H : (laws_toInt64S.l0 k l0 y572 0) = some r := by first | (rw [hy572]; with_reducible exact H) | (have H2_ := (Option.bind_some _ _).symm.trans H; rw [hy572]; with_reducible exact H2_) | (have H2_ := (Option.bind_some _ _).symm.trans H; with_reducible exact H2_) | with_reducible exact H | (rw [hy572]; exact H) | exact H
   have Ny572 := Aside0.mk hy572
   clear hy572
   have H' := Aside0.mk H
   clear H
   go_enter Try.func49, Try.ntmps49
   go_wp2_with (first | ((with_reducible refine gate_dst (N := 7) rfl ?_); refine Kd.R_make (Kd.int .i64) _ 2 rfl (N := 7) rfl 22 _ _ rfl (l0.length : Int) rfl rfl Try.underlying22 (.int .i64 0) 8 info2 rfl (by decide) (by omega) 0 (ok := fun _ => True) (okp := fun _ => True) rfl (fun _ hk => hk) trivial (of_decide_eq_true (by first | (with_reducible assumption) | assumption)) (Nat.le_trans (Nat.mul_le_mul_right _ (of_decide_eq_true (by first | (with_reducible assumption) | assumption) : (l0.length : Int).toNat ≤ 35184372088832)) (by omega)) (Below.refl _ _) (Nat.le_refl _) ?_; intro v573 w4 ho5 hb hg_ hnew_; clear hg_ hnew_; (first | rw [← Ny572.out] at ho5 | (simp only [Int.reduceToNat] at ho5; rw [← Ny572.out] at ho5)); have n0_ := Aside0.mk (Kd.R_lower ho5 (below_size (by repeat (first | (with_reducible first | exact HB.out | apply below_alloc | apply pw_below_drewN | apply below_drew1) | exact HB.out)))); have n1_ := Aside0.mk (below_step (by repeat (first | (with_reducible first | exact HB.out | apply below_alloc | apply pw_below_drewN | apply below_drew1) | exact HB.out)) hb); clear HB; have HO574 := n0_; have HB := n1_; clear n0_ n1_; clear hb ho5))
   go_loopg [4] k (fun kq v4 w' => ∃ (x3_1 : List Int) (x4_1 : Int), v4 = .int .i64 x4_1 ∧ Aside0 (laws_toInt64S.l0 kq l0 x3_1 x4_1 = some r) ∧ Aside0 (kq ≤ k) ∧ Aside0 (Kd.R (Kd.int .i64) 2 w' w.heap.size (fun _ => True) v573 x3_1) ∧ Aside0 (Below w.heap.size w w'))
   case atStart => exact ⟨(y572), (0), (by first | rfl | (simp; done) | (simp [*]; done)), H', ⟨Nat.le_refl _⟩, ⟨by (with_reducible repeat (first | apply Kd.R_alloc | apply Kd.R_drewN | apply Kd.R_drew)); exact HO574.out⟩, ⟨by repeat (first | (with_reducible first | exact HB.out | apply below_alloc | apply pw_below_drewN | apply below_drew1) | exact HB.out)⟩⟩
   case round =>
    clear H'
    try clear c2
    try clear c2b0
    try clear c2b1
    try clear p2
    try clear c3
    try clear c3b0
    try clear c3b1
    try clear c4
    obtain ⟨x3_1, x4_1, rfl, HA, HK1, HO_3, HB⟩ := hrel
    cases gk with
    | zero => exact absurd HA.out (by simp [laws_toInt64S.l0])
    | succ k1 =>
     have H := HA.out
     clear HA
     simp only [laws_toInt64S.l0] at H
     by_cases c6 : x4_1 < (l0.length : Int)
     ·rw [if_pos c6] at H
      have c6b0 : decide (x4_1 < (l0.length : Int)) = true := decide_eq_true c6
      clear c6
      by_cases c7 : 0 ≤ x4_1
      ·rw [if_pos c7] at H
       have c7b0 : decide (0 ≤ x4_1) = true := decide_eq_true c7
       clear c7
       by_cases c8 : x4_1 < (x3_1.length : Int)
       ·rw [if_pos c8] at H
        have c8b0 : decide (x4_1 < (x3_1.length : Int)) = true := decide_eq_true c8
        clear c8
        obtain ⟨y576, hy576⟩ : ∃ y_ : List Int, y_ = (x3_1.set (x4_1 : Int).toNat (rd l0 x4_1)) := ⟨_, rfl⟩
        replace H : (laws_toInt64S.l0 k1 l0 y576 (wrap64 (x4_1 + 1))) = some r := by first | (rw [hy576]; with_reducible exact H) | (have H2_ := (Option.bind_some _ _).symm.trans H; rw [hy576]; with_reducible exact H2_) | (have H2_ := (Option.bind_some _ _).symm.trans H; with_reducible exact H2_) | with_reducible exact H | (rw [hy576]; exact H) | exact H
        have Ny576 := Aside0.mk hy576
        clear hy576
        have H' := Aside0.mk H
        clear H
        have p575 : 0 ≤ (x4_1 : Int) := of_decide_eq_true (by first | (with_reducible assumption) | assumption)
        have q575 : x4_1 < (l0.length : Int) := of_decide_eq_true (by first | (with_reducible assumption) | assumption)
        obtain ⟨ad575, e575, hx575_0⟩ := Kd.at_int HR0.out x4_1 p575 q575
        cases e575
        replace hx575_0 := (HB.out.cell (World.block_lt_of_cell? w _ hx575_0)).trans hx575_0
        replace p575 := eq_true p575
        replace q575 := eq_true q575
        have p9 : 0 ≤ (x4_1 : Int) := of_decide_eq_true (by first | (with_reducible assumption) | assumption)
        have q9 : (x4_1 : Int) < ((x3_1.length : Int) : Int) := of_decide_eq_true (by first | (with_reducible assumption) | assumption)
        obtain ⟨go9, co9, eo9, gb9, gl9, cl9, HG9⟩ := Kd.R_form HO_3.out (by omega)
        (first | cases eo9 | (injection eo9 with ea_ en_ ec_; (first | subst ea_ | (injection ea_ with ea_; subst ea_)); subst ec_; clear en_))
        have GB9 := Aside0.mk gb9
        have GG9 := Aside0.mk HG9
        clear gb9 gl9 HG9
        obtain ⟨hx9_0, hf9_0⟩ := Kd.R_celln 0 HO_3.out (x4_1 : Int) p9 q9
        replace p9 := eq_true p9
        replace q9 := eq_true q9
        have HP10 := Kd.R_putg HO_3.out (x4_1 : Int) (rd l0 x4_1)
        go_wp2_with (first | ((with_reducible refine gate_store (t := 2) (p := 20) rfl ?_); refine store_event (t := 2) (p := 20) (v := ?vo_w11) (w1 := (wr.setCell ⟨go9, (x4_1 : Int).toNat, none⟩ (.int .i64 (rd l0 x4_1)))) ?hg ?ho ?hn ?hr ?_; (case ho => rfl); (case hg => rfl); (case hn => rfl); (case hr => first | (go_simp; done) | (go_simp; rfl)); intro w11 hw; have hg : wr.grownBy w11 (some go9) := (by rw [hw]; exact HP10.2); have hp_ : Kd.R (Kd.int .i64) 2 w11 w.heap.size (fun _ => True) (.slice (some ⟨go9, 0, none⟩) x3_1.length co9) y576 := (by rw [hw, Ny576.out]; exact HP10.1); clear HP10; have n0_ := Aside0.mk (hp_); have n1_ := Aside0.mk ((by rw [hw]; exact below_set (HB.out) GB9.out : Below w.heap.size w w11)); clear HO_3; clear HB; have HO_3 := n0_; have HB := n1_; clear n0_ n1_; clear hg hw hp_))
        go_roundg k1
        case measure => have := HK1.out; omega
        case rel => exact ⟨(y576), (wrap64 (x4_1 + 1)), (by first | rfl | (simp; done) | (simp [*]; done)), H', ⟨by have := HK1.out; omega⟩, ⟨by (with_reducible repeat (first | apply Kd.R_alloc | apply Kd.R_drewN | apply Kd.R_drew)); exact HO_3.out⟩, ⟨by repeat (first | (with_reducible first | exact HB.out | apply below_alloc | apply pw_below_drewN | apply below_drew1) | exact HB.out)⟩⟩
       ·rw [if_neg c8] at H
        exact absurd H (by simp)
      ·rw [if_neg c7] at H
       exact absurd H (by simp)
     ·rw [if_neg c6] at H
      have c6b0 : decide (x4_1 < (l0.length : Int)) = false := decide_eq_false c6
      clear c6
      obtain rfl := Option.some.inj H
      go_wp2
      go_ret
      exact ⟨_, by first | rfl | (simp [errW_none, errW_some] <;> rfl) | (simp [*, errW_none, errW_some] <;> rfl), by (with_reducible repeat (first | apply Kd.R_alloc | apply Kd.R_drewN | apply Kd.R_drew)); exact HO_3.out, by repeat (first | (with_reducible first | exact HB.out | apply below_alloc | apply pw_below_drewN | apply below_drew1) | exact HB.out)⟩
  ·rw [if_neg c3] at H
   exact absurd H (by simp)
 ·rw [if_neg c2] at H
  exact absurd H (by simp)

/-! ### laws_toComplex: function 20 -/
def laws_toComplex.f (k : Nat) (a0_0 : Int) (l0_1 : List Int) : Option (Int × List Int) := (laws_toInt64S.f k l0_1).bind fun t580 => (some (a0_0, t580))
theorem laws_toComplex.mono : ∀ a0 a1 k, LeO (laws_toComplex.f k a0 a1) (laws_toComplex.f (k + 1) a0 a1) := by
 intro a0 a1 k
 unfold laws_toComplex.f
 repeat' first
   | (with_reducible exact laws_toInt64S.mono _ _)
   | (with_reducible exact LeO.refl _)
   | (with_reducible exact LeO.none _)
   | (with_reducible refine LeO.ite ?_ ?_)
   | (with_reducible refine LeO.bind ?_ (fun _ => ?_))
   | exact laws_toInt64S.mono _ _
   | exact LeO.none _
   | refine LeO.ite ?_ ?_
   | refine LeO.bind ?_ (fun _ => ?_)
set_option maxHeartbeats 8000000 in
set_option maxRecDepth 100000 in
theorem laws_toComplex.calls (k : Nat) (a0_0 : Int) (A0_1 : Option Addr) (c0_1 : Nat) (l0_1 : List Int) (r1 : Int) (r2 : List Int) (w : World) (hr0_1 : Kd.C (Kd.int .i64) w A0_1 l0_1.length l0_1) (hc0_1 : l0_1.length ≤ c0_1) (h : laws_toComplex.f k a0_0 l0_1 = some (r1, r2)) :
  Calls Try.prog 20 #[.agg #[.int .i64 a0_0, .slice A0_1 l0_1.length c0_1]] w fun e w' => ∃ v1_ : Value, e = .returned (.agg #[.int .i64 r1, v1_]) ∧ Kd.R (Kd.int .i64) 2 w' w.heap.size (fun _ => True) v1_ r2 ∧ Below w.heap.size w w' := by
 have hu24 := Try.underlying24
 have hu30 := Try.underlying30
 have HR0_1 := Aside0.mk hr0_1
 have HC0_1 := Aside0.mk hc0_1
 clear hr0_1 hc0_1
 have HB := Aside0.mk (Below.refl w.heap.size w)
 have H : ((laws_toInt64S.f k l0_1).bind fun t580 => (some (a0_0, t580))) = some (r1, r2) := h
 clear h
 replace H := Option.bind_eq_some_iff.mp H
 obtain ⟨t580, A20, H⟩ := H
 replace H : (some (a0_0, t580)) = some (r1, r2) := H
 have A2 := Aside0.mk A20
 clear A20
 simp only [Option.some.injEq, Prod.mk.injEq] at H
 obtain ⟨rfl, rfl⟩ := H
 go_enter Try.func20, Try.ntmps20
 go_wp2_with (first | ((with_reducible refine gate_dst (N := 1) rfl ?_); refine box_event ?hg (N := 1) ?hd (cs := #[.int .i64 a0_0, .slice A0_1 l0_1.length c0_1]) (t := 24) ?hr ?_; (case hd => rfl); (case hg => rfl); (case hr => first | (go_simp; done) | (go_simp; rfl)); intro gb577 hg w3 hbox hb; have n0_ := Aside0.mk (below_step (by repeat (first | (with_reducible first | exact HB.out | apply below_alloc | apply pw_below_drewN | apply below_drew1) | exact HB.out)) hb); have n1_ := Aside0.mk (hbox); have n2_ := Aside0.mk ((by rw [hg]; exact (below_size (by repeat (first | (with_reducible first | exact HB.out | apply below_alloc | apply pw_below_drewN | apply below_drew1) | exact HB.out))) : w.heap.size ≤ gb577)); have n3_ := Aside0.mk ((by rw [hg]; exact (below_size (by repeat (first | (with_reducible first | exact HB.out | apply below_alloc | apply pw_below_drewN | apply below_drew1) | exact HB.out))) : w.heap.size ≤ gb577)); clear HB; have HB := n0_; have BK577 := n1_; have GW577 := n2_; have GE577 := n3_; clear n0_ n1_ n2_ n3_; clear hb hbox hg) | ((with_reducible refine gate_dst (N := 2) rfl ?_); refine box_event ?hg (N := 2) ?hd (cs := #[.int .i64 0, .slice none 0 0]) (t := 30) ?hr ?_; (case hd => rfl); (case hg => rfl); (case hr => first | (go_simp; done) | (go_simp; rfl)); intro gb578 hg w4 hbox hb; have n0_ := Aside0.mk (blk_below (g := gb577) (o := .cells #[.int .i64 a0_0, .slice A0_1 l0_1.length c0_1] 24 (0, 0)) (by (with_reducible repeat (first | refine blk_drewN ?_ _ | refine blk_drew ?_ | refine blk_alloc ?_ _)); exact BK577.out) hb); have n1_ := Aside0.mk (below_step (by repeat (first | (with_reducible first | exact HB.out | apply below_alloc | apply pw_below_drewN | apply below_drew1 | refine below_set ?_ GE577.out) | exact HB.out)) hb); have n2_ := Aside0.mk (hbox); have n3_ := Aside0.mk ((by rw [hg]; exact (below_size (by repeat (first | (with_reducible first | exact HB.out | apply below_alloc | apply pw_below_drewN | apply below_drew1 | refine below_set ?_ GE577.out) | exact HB.out))) : w.heap.size ≤ gb578)); have n4_ := Aside0.mk ((by rw [hg]; exact (below_size (by repeat (first | (with_reducible first | exact HB.out | apply below_alloc | apply pw_below_drewN | apply below_drew1 | refine below_set ?_ GE577.out) | exact HB.out))) : w.heap.size ≤ gb578)); have n5_ := Aside0.mk ((by rw [hg]; exact Nat.ne_of_lt (blk_lt (g := gb577) (o := .cells #[.int .i64 a0_0, .slice A0_1 l0_1.length c0_1] 24 (0, 0)) (by (with_reducible repeat (first | refine blk_drewN ?_ _ | refine blk_drew ?_ | refine blk_alloc ?_ _)); exact BK577.out)) : gb577 ≠ gb578)); have n6_ := Aside0.mk ((by rw [hg]; exact Nat.ne_of_gt (blk_lt (g := gb577) (o := .cells #[.int .i64 a0_0, .slice A0_1 l0_1.length c0_1] 24 (0, 0)) (by (with_reducible repeat (first | refine blk_drewN ?_ _ | refine blk_drew ?_ | refine blk_alloc ?_ _)); exact BK577.out)) : gb578 ≠ gb577)); clear BK577; clear HB; have BK577 := n0_; have HB := n1_; have BK578 := n2_; have GW578 := n3_; have GE578 := n4_; have NB577_578 := n5_; have NB578_577 := n6_; clear n0_ n1_ n2_ n3_ n4_ n5_ n6_; clear hb hbox hg) | ((with_reducible refine gate_dst (N := 3) rfl ?_); refine box_event ?hg (N := 3) ?hd (cs := #[.int .i64 0, .slice none 0 0]) (t := 30) ?hr ?_; (case hd => rfl); (case hg => rfl); (case hr => first | (go_simp; done) | (go_simp; rfl)); intro gb579 hg w5 hbox hb; have n0_ := Aside0.mk (blk_below (g := gb577) (o := .cells #[.int .i64 a0_0, .slice A0_1 l0_1.length c0_1] 24 (0, 0)) (by (with_reducible repeat (first | refine blk_drewN ?_ _ | refine blk_drew ?_ | refine blk_alloc ?_ _)); exact BK577.out) hb); have n1_ := Aside0.mk (blk_below (g := gb578) (o := .cells #[.int .i64 0, .slice none 0 0] 30 (0, 0)) (by (with_reducible repeat (first | refine blk_drewN ?_ _ | refine blk_drew ?_ | refine blk_alloc ?_ _)); exact BK578.out) hb); have n2_ := Aside0.mk (below_step (by repeat (first | (with_reducible first | exact HB.out | apply below_alloc | apply pw_below_drewN | apply below_drew1 | refine below_set ?_ GE577.out | refine below_set ?_ GE578.out) | exact HB.out)) hb); have n3_ := Aside0.mk (hbox); have n4_ := Aside0.mk ((by rw [hg]; exact (below_size (by repeat (first | (with_reducible first | exact HB.out | apply below_alloc | apply pw_below_drewN | apply below_drew1 | refine below_set ?_ GE577.out | refine below_set ?_ GE578.out) | exact HB.out))) : w.heap.size ≤ gb579)); have n5_ := Aside0.mk ((by rw [hg]; exact (below_size (by repeat (first | (with_reducible first | exact HB.out | apply below_alloc | apply pw_below_drewN | apply below_drew1 | refine below_set ?_ GE577.out | refine below_set ?_ GE578.out) | exact HB.out))) : w.heap.size ≤ gb579)); have n6_ := Aside0.mk ((by rw [hg]; exact Nat.ne_of_lt (blk_lt (g := gb577) (o := .cells #[.int .i64 a0_0, .slice A0_1 l0_1.length c0_1] 24 (0, 0)) (by (with_reducible repeat (first | refine blk_drewN ?_ _ | refine blk_drew ?_ | refine blk_alloc ?_ _)); exact BK577.out)) : gb577 ≠ gb579)); have n7_ := Aside0.mk ((by rw [hg]; exact Nat.ne_of_gt (blk_lt (g := gb577) (o := .cells #[.int .i64 a0_0, .slice A0_1 l0_1.length c0_1] 24 (0, 0)) (by (with_reducible repeat (first | refine blk_drewN ?_ _ | refine blk_drew ?_ | refine blk_alloc ?_ _)); exact BK577.out)) : gb579 ≠ gb577)); have n8_ := Aside0.mk ((by rw [hg]; exact Nat.ne_of_lt (blk_lt (g := gb578) (o := .cells #[.int .i64 0, .slice none 0 0] 30 (0, 0)) (by (with_reducible repeat (first | refine blk_drewN ?_ _ | refine blk_drew ?_ | refine blk_alloc ?_ _)); exact BK578.out)) : gb578 ≠ gb579)); have n9_ := Aside0.mk ((by rw [hg]; exact Nat.ne_of_gt (blk_lt (g := gb578) (o := .cells #[.int .i64 0, .slice none 0 0] 30 (0, 0)) (by (with_reducible repeat (first | refine blk_drewN ?_ _ | refine blk_drew ?_ | refine blk_alloc ?_ _)); exact BK578.out)) : gb579 ≠ gb578)); clear BK577; clear BK578; clear HB; have BK577 := n0_; have BK578 := n1_; have HB := n2_; have BK579 := n3_; have GW579 := n4_; have GE579 := n5_; have NB577_579 := n6_; have NB579_577 := n7_; have NB578_579 := n8_; have NB579_578 := n9_; clear n0_ n1_ n2_ n3_ n4_ n5_ n6_ n7_ n8_ n9_; clear hb hbox hg; have hnb6 := NB577_578.out; have hnc6 := NB578_577.out; have hnb7 := NB577_579.out; have hnc7 := NB579_577.out; have hcz8_0 : w5.cell? ⟨gb577, 0, none⟩ = some (.int .i64 a0_0) := (blk_cell BK577.out 0).trans rfl; have hcz8_1 : w5.cell? ⟨gb577, 1, none⟩ = some (.slice A0_1 l0_1.length c0_1) := (blk_cell BK577.out 1).trans rfl; have hfz8_0 := blk_frozen BK577.out 0; have hfz8_1 := blk_frozen BK577.out 1; have hnb9 := NB579_578.out; have hnc9 := NB578_579.out; have hcz10_0 : w5.cell? ⟨gb579, 0, none⟩ = some (.int .i64 0) := (blk_cell BK579.out 0).trans rfl; have hcz10_1 : w5.cell? ⟨gb579, 1, none⟩ = some (.slice none 0 0) := (blk_cell BK579.out 1).trans rfl; have hfz10_0 := blk_frozen BK579.out 0; have hfz10_1 := blk_frozen BK579.out 1) | ((with_reducible refine gate_callee (f := 49) rfl ?_); refine goesL_ (some 9) rfl rfl Try.func49 (by kernel_rfl) rfl #[.slice A0_1 l0_1.length c0_1] rfl (by (try simp only [List.map_toArray, List.map_cons, List.map_nil]); first | done | rfl | (simp only [List.length_drop, List.length_take]; rfl)) ?_; (with_reducible refine (laws_toInt64S.calls k _ _ l0_1 t580 _ ?side1 ?side2 A2.out).mono ?_); (case side1 => exact Kd.C_below HR0_1.out (by repeat (first | (with_reducible first | exact HB.out | apply below_alloc | apply pw_below_drewN | apply below_drew1 | refine below_set ?_ GE577.out | refine below_set ?_ GE578.out | refine below_set ?_ GE579.out) | exact HB.out))); (case side2 => exact HC0_1.out); rintro e w11 ⟨v581, rfl, ho0, hb⟩; refine ⟨_, rfl, ?_⟩; have n0_ := Aside0.mk (Kd.R_lower ho0 (below_size (by repeat (first | (with_reducible first | exact HB.out | apply below_alloc | apply pw_below_drewN | apply below_drew1 | refine below_set ?_ GE577.out | refine below_set ?_ GE578.out | refine below_set ?_ GE579.out) | exact HB.out)))); have n1_ := Aside0.mk (blk_below (g := gb577) (o := .cells #[.int .i64 a0_0, .slice A0_1 l0_1.length c0_1] 24 (0, 0)) (by (with_reducible repeat (first | refine blk_drewN ?_ _ | refine blk_drew ?_ | refine blk_alloc ?_ _)); refine blk_far ?_ NB577_579.out _; (with_reducible repeat (first | refine blk_drewN ?_ _ | refine blk_drew ?_ | refine blk_alloc ?_ _)); exact BK577.out) hb); have n2_ := Aside0.mk (blk_below (g := gb578) (o := .cells #[.int .i64 0, .slice none 0 0] 30 (0, 0)) (by (with_reducible repeat (first | refine blk_drewN ?_ _ | refine blk_drew ?_ | refine blk_alloc ?_ _)); refine blk_far ?_ NB578_579.out _; (with_reducible repeat (first | refine blk_drewN ?_ _ | refine blk_drew ?_ | refine blk_alloc ?_ _)); exact BK578.out) hb); have n3_ := Aside0.mk (blk_below (g := gb579) (o := .cells #[.int .i64 a0_0, .slice none 0 0] 30 (0, 0)) (by (with_reducible repeat (first | refine blk_drewN ?_ _ | refine blk_drew ?_ | refine blk_alloc ?_ _)); refine blk_put (cs := #[.int .i64 0, .slice none 0 0]) ?_ 0 _ rfl; (with_reducible repeat (first | refine blk_drewN ?_ _ | refine blk_drew ?_ | refine blk_alloc ?_ _)); exact BK579.out) hb); have n4_ := Aside0.mk (below_step (by repeat (first | (with_reducible first | exact HB.out | apply below_alloc | apply pw_below_drewN | apply below_drew1 | refine below_set ?_ GE577.out | refine below_set ?_ GE578.out | refine below_set ?_ GE579.out) | exact HB.out)) hb); clear BK577; clear BK578; clear BK579; clear HB; have HO582 := n0_; have BK577 := n1_; have BK578 := n2_; have BK579 := n3_; have HB := n4_; clear n0_ n1_ n2_ n3_ n4_; (try clear hb); (try clear hb2); (try clear hk); (try clear hi); (try clear ho0); obtain ⟨Ao12, co12, eo12⟩ := Kd.R_slice HO582.out; subst eo12; have hcz13_0 : w11.cell? ⟨gb579, 0, none⟩ = some (.int .i64 a0_0) := (blk_cell BK579.out 0).trans rfl; have hcz13_1 : w11.cell? ⟨gb579, 1, none⟩ = some (.slice none 0 0) := (blk_cell BK579.out 1).trans rfl; have hfz13_0 := blk_frozen BK579.out 0; have hfz13_1 := blk_frozen BK579.out 1; have hcz14_0 : w11.cell? ⟨gb578, 0, none⟩ = some (.int .i64 0) := (blk_cell BK578.out 0).trans rfl; have hcz14_1 : w11.cell? ⟨gb578, 1, none⟩ = some (.slice none 0 0) := (blk_cell BK578.out 1).trans rfl; have hfz14_0 := blk_frozen BK578.out 0; have hfz14_1 := blk_frozen BK578.out 1))
 refine bodyPost_ret (results_cell_row rfl _ _ gb578 30 #[.int .i64 a0_0, .slice Ao12 t580.length co12] (0, 0) _ rfl (by (with_reducible repeat (first | refine blk_drewN ?_ _ | refine blk_drew ?_ | refine blk_alloc ?_ _)); refine blk_put (cs := #[.int .i64 a0_0, .slice none 0 0]) ?_ 1 _ rfl; (with_reducible repeat (first | refine blk_drewN ?_ _ | refine blk_drew ?_ | refine blk_alloc ?_ _)); refine blk_put (cs := #[.int .i64 0, .slice none 0 0]) ?_ 0 _ rfl; (with_reducible repeat (first | refine blk_drewN ?_ _ | refine blk_drew ?_ | refine blk_alloc ?_ _)); refine blk_far ?_ NB578_579.out _; (with_reducible repeat (first | refine blk_drewN ?_ _ | refine blk_drew ?_ | refine blk_alloc ?_ _)); exact BK578.out) Try.underlying30 rfl (by kernel_rfl)) rfl ?_
 exact ⟨_, by first | rfl | (simp [errW_none, errW_some] <;> rfl) | (simp [*, errW_none, errW_some] <;> rfl), by (with_reducible repeat (first | apply Kd.R_alloc | apply Kd.R_drewN | apply Kd.R_drew)); exact Kd.R_mono (Kd.R_far (p := ⟨gb578, 1, none⟩) (Kd.R_far (p := ⟨gb578, 0, none⟩) (Kd.R_far (p := ⟨gb579, 1, none⟩) (Kd.R_types (Kd.R_types HO582.out BK579.out (by decide)) BK578.out (by decide)) (fun _ hk => hk.1.2) (.slice Ao12 t580.length co12)) (fun _ hk => hk.2) (.int .i64 a0_0)) (fun _ hk => hk.2) (.slice Ao12 t580.length co12)) (fun _ hk => trivial), by repeat (first | (with_reducible first | exact HB.out | apply below_alloc | apply pw_below_drewN | apply below_drew1 | refine below_set ?_ GE577.out | refine below_set ?_ GE578.out | refine below_set ?_ GE579.out) | exact HB.out)⟩

end Go.Proofs.Ytniikppojffiaaa.Q
end

section
/- Written by a program of this session (myprint.py over the kit's print). -/
namespace Go.Proofs.Ytniikppojffiaaa.Q
open Go.RowKit Go.Proofs.YtniikppojffiaaaW.PrintWords Go.Proofs.YtniikppojffiaaaW.PrintLast Go.Proofs.YtniikppojffiaaaW.PrintMore
attribute [local go_sem] max2_int min2_int max_two min_two max_three min_three max_four min_four   -- for this text's walks alone
set_option linter.unusedVariables false
set_option linter.unusedSimpArgs false

/-! ### laws_eqInt64S: function 27 -/
def laws_eqInt64S.l0 : Nat → List Int → List Int → Int → Option (Bool)
 | 0, _, _, _ => none
 | k + 1, x0, x1, x5 => if x5 < (x0.length : Int) then (if 0 ≤ x5 then (if x5 < (x1.length : Int) then (if (rd x0 x5) = (rd x1 x5) then (laws_eqInt64S.l0 k x0 x1 (wrap64 (x5 + 1))) else (some false)) else (none)) else (none)) else (some true)
def laws_eqInt64S.f (k : Nat) (l0 : List Int) (l1 : List Int) : Option (Bool) := if (l0.length : Int) = (l1.length : Int) then (laws_eqInt64S.l0 k l0 l1 0) else (some false)
theorem laws_eqInt64S.mono_l : ∀ k, (∀ y0 y1 y2, LeO (laws_eqInt64S.l0 k y0 y1 y2) (laws_eqInt64S.l0 (k + 1) y0 y1 y2))
 | 0 => fun _ _ _ r h => by simp [laws_eqInt64S.l0] at h
 | k + 1 => by
  have ih0 := laws_eqInt64S.mono_l k
  ·intro y0 y1 y2
   unfold laws_eqInt64S.l0
   repeat' first
   | (with_reducible exact ih0 _ _ _)
   | (with_reducible exact LeO.refl _)
   | (with_reducible exact LeO.none _)
   | (with_reducible refine LeO.ite ?_ ?_)
   | (with_reducible refine LeO.bind ?_ (fun _ => ?_))
   | exact ih0 _ _ _
   | exact LeO.none _
   | refine LeO.ite ?_ ?_
   | refine LeO.bind ?_ (fun _ => ?_)
theorem laws_eqInt64S.mono : ∀ a0 a1 k, LeO (laws_eqInt64S.f k a0 a1) (laws_eqInt64S.f (k + 1) a0 a1) := by
 intro a0 a1 k
 have ih0 := laws_eqInt64S.mono_l k
 unfold laws_eqInt64S.f
 repeat' first
   | (with_reducible exact ih0 _ _ _)
   | (with_reducible exact LeO.refl _)
   | (with_reducible exact LeO.none _)
   | (with_reducible refine LeO.ite ?_ ?_)
   | (with_reducible refine LeO.bind ?_ (fun _ => ?_))
   | exact ih0 _ _ _
   | exact LeO.none _
   | refine LeO.ite ?_ ?_
   | refine LeO.bind ?_ (fun _ => ?_)
set_option maxHeartbeats 8000000 in
set_option maxRecDepth 100000 in
theorem laws_eqInt64S.calls (k : Nat) (A0 : Option Addr) (c0 : Nat) (l0 : List Int) (A1 : Option Addr) (c1 : Nat) (l1 : List Int) (r : Bool) (w : World) (hr0 : Kd.C (Kd.int .i64) w A0 l0.length l0) (hc0 : l0.length ≤ c0) (hr1 : Kd.C (Kd.int .i64) w A1 l1.length l1) (hc1 : l1.length ≤ c1) (h : laws_eqInt64S.f k l0 l1 = some r) :
  Calls Try.prog 27 #[.slice A0 l0.length c0, .slice A1 l1.length c1] w fun e w' => e = .returned (.bool r) ∧ Drawn0 w w' := by
 have HR0 := Aside0.mk hr0
 have HC0 := Aside0.mk hc0
 clear hr0 hc0
 have HR1 := Aside0.mk hr1
 have HC1 := Aside0.mk hc1
 clear hr1 hc1
 have H : (if (l0.length : Int) = (l1.length : Int) then (laws_eqInt64S.l0 k l0 l1 0) else (some false)) = some r := h
 clear h
 by_cases c3 : (l0.length : Int) = (l1.length : Int)
 ·rw [if_pos c3] at H
  have c3b0 : ((l0.length : Int) == (l1.length : Int)) = true := beq_iff_eq.mpr c3
  have c3b1 : ((l0.length : Int) != (l1.length : Int)) = false := bne_eq_false_iff_eq.mpr c3
  have c3b2 : (l0.length == l1.length) = true := by first | simpa using c3 | (simp at c3 ⊢; omega)
  clear c3
  have H' := Aside0.mk H
  clear H
  go_enter Try.func27, Try.ntmps27
  go_wp2
  repeat (go_quiet (fail); try go_wp2)
  go_loopg [5] k (fun kq v5 w' => ∃ (x5_1 : Int), v5 = .int .i64 x5_1 ∧ Aside0 (laws_eqInt64S.l0 kq l0 l1 x5_1 = some r) ∧ Aside0 (kq ≤ k) ∧ Drawn0 w w')
  case atStart => exact ⟨(0), (by first | rfl | (simp; done) | (simp [*]; done)), H', ⟨Nat.le_refl _⟩, by repeat (first | exact Drawn0.refl _ | apply Drawn0.step)⟩
  case round =>
   clear H'
   try clear c1
   try clear c2
   try clear p2
   try clear c3
   try clear c3b0
   try clear c3b1
   try clear c3b2
   obtain ⟨x5_1, rfl, HA, HK1, ⟨m1, rfl⟩⟩ := hrel
   cases gk with
   | zero => exact absurd HA.out (by simp [laws_eqInt64S.l0])
   | succ k1 =>
    have H := HA.out
    clear HA
    simp only [laws_eqInt64S.l0] at H
    by_cases c4 : x5_1 < (l0.length : Int)
    ·rw [if_pos c4] at H
     have c4b0 : decide (x5_1 < (l0.length : Int)) = true := decide_eq_true c4
     clear c4
     by_cases c5 : 0 ≤ x5_1
     ·rw [if_pos c5] at H
      have c5b0 : decide (0 ≤ x5_1) = true := decide_eq_true c5
      clear c5
      by_cases c6 : x5_1 < (l1.length : Int)
      ·rw [if_pos c6] at H
       have c6b0 : decide (x5_1 < (l1.length : Int)) = true := decide_eq_true c6
       clear c6
       by_cases c7 : (rd l0 x5_1) = (rd l1 x5_1)
       ·rw [if_pos c7] at H
        have c7b0 : ((rd l0 x5_1) == (rd l1 x5_1)) = true := beq_iff_eq.mpr c7
        have c7b1 : ((rd l0 x5_1) != (rd l1 x5_1)) = false := bne_eq_false_iff_eq.mpr c7
        clear c7
        have H' := Aside0.mk H
        clear H
        have p583 : 0 ≤ (x5_1 : Int) := of_decide_eq_true (by first | (with_reducible assumption) | assumption)
        have q583 : x5_1 < (l0.length : Int) := of_decide_eq_true (by first | (with_reducible assumption) | assumption)
        obtain ⟨ad583, e583, hx583_0⟩ := Kd.at_int HR0.out x5_1 p583 q583
        cases e583
        replace p583 := eq_true p583
        replace q583 := eq_true q583
        have p584 : 0 ≤ (x5_1 : Int) := of_decide_eq_true (by first | (with_reducible assumption) | assumption)
        have q584 : x5_1 < (l1.length : Int) := of_decide_eq_true (by first | (with_reducible assumption) | assumption)
        obtain ⟨ad584, e584, hx584_0⟩ := Kd.at_int HR1.out x5_1 p584 q584
        cases e584
        replace p584 := eq_true p584
        replace q584 := eq_true q584
        go_wp2
        repeat (go_quiet (fail); try go_wp2)
        go_roundg k1
        case measure => have := HK1.out; omega
        case rel => exact ⟨(wrap64 (x5_1 + 1)), (by first | rfl | (simp; done) | (simp [*]; done)), H', ⟨by have := HK1.out; omega⟩, by repeat (first | exact Drawn0.refl _ | apply Drawn0.step)⟩
       ·rw [if_neg c7] at H
        have c7b0 : ((rd l0 x5_1) == (rd l1 x5_1)) = false := beq_eq_false_iff_ne.mpr c7
        have c7b1 : ((rd l0 x5_1) != (rd l1 x5_1)) = true := bne_iff_ne.mpr c7
        obtain rfl := Option.some.inj H
        have p583 : 0 ≤ (x5_1 : Int) := of_decide_eq_true (by first | (with_reducible assumption) | assumption)
        have q583 : x5_1 < (l0.length : Int) := of_decide_eq_true (by first | (with_reducible assumption) | assumption)
        obtain ⟨ad583, e583, hx583_0⟩ := Kd.at_int HR0.out x5_1 p583 q583
        cases e583
        replace p583 := eq_true p583
        replace q583 := eq_true q583
        have p584 : 0 ≤ (x5_1 : Int) := of_decide_eq_true (by first | (with_reducible assumption) | assumption)
        have q584 : x5_1 < (l1.length : Int) := of_decide_eq_true (by first | (with_reducible assumption) | assumption)
        obtain ⟨ad584, e584, hx584_0⟩ := Kd.at_int HR1.out x5_1 p584 q584
        cases e584
        replace p584 := eq_true p584
        replace q584 := eq_true q584
        go_wp2
        repeat (go_quiet (fail); try go_wp2)
        go_ret
        exact ⟨by first | rfl | (simp; done) | (simp [*]; done), by repeat (first | exact Drawn0.refl _ | apply Drawn0.step)⟩
      ·rw [if_neg c6] at H
       exact absurd H (by simp)
     ·rw [if_neg c5] at H
      exact absurd H (by simp)
    ·rw [if_neg c4] at H
     have c4b0 : decide (x5_1 < (l0.length : Int)) = false := decide_eq_false c4
     clear c4
     obtain rfl := Option.some.inj H
     go_wp2
     repeat (go_quiet (fail); try go_wp2)
     go_ret
     exact ⟨by first | rfl | (simp; done) | (simp [*]; done), by repeat (first | exact Drawn0.refl _ | apply Drawn0.step)⟩
 ·rw [if_neg c3] at H
  have c3b0 : ((l0.length : Int) == (l1.length : Int)) = false := beq_eq_false_iff_ne.mpr c3
  have c3b1 : ((l0.length : Int) != (l1.length : Int)) = true := bne_iff_ne.mpr c3
  have c3b2 : (l0.length == l1.length) = false := by first | simpa using c3 | (simp at c3 ⊢; omega)
  obtain rfl := Option.some.inj H
  go_enter Try.func27, Try.ntmps27
  go_wp2
  repeat (go_quiet (fail); try go_wp2)
  go_ret
  exact ⟨by first | rfl | (simp; done) | (simp [*]; done), by repeat (first | exact Drawn0.refl _ | apply Drawn0.step)⟩

/-! ### laws_eqComplex: function 23 -/
def laws_eqComplex.f (k : Nat) (a0_0 : Int) (l0_1 : List Int) (a1_0 : Int) (l1_1 : List Int) : Option (Bool) := if a0_0 = a1_0 then ((laws_eqInt64S.f k l0_1 l1_1).bind fun t587 => (if t587 = true then (some true) else (some false))) else (some false)
theorem laws_eqComplex.mono : ∀ a0 a1 a2 a3 k, LeO (laws_eqComplex.f k a0 a1 a2 a3) (laws_eqComplex.f (k + 1) a0 a1 a2 a3) := by
 intro a0 a1 a2 a3 k
 unfold laws_eqComplex.f
 repeat' first
   | (with_reducible exact laws_eqInt64S.mono _ _ _)
   | (with_reducible exact LeO.refl _)
   | (with_reducible exact LeO.none _)
   | (with_reducible refine LeO.ite ?_ ?_)
   | (with_reducible refine LeO.bind ?_ (fun _ => ?_))
   | exact laws_eqInt64S.mono _ _ _
   | exact LeO.none _
   | refine LeO.ite ?_ ?_
   | refine LeO.bind ?_ (fun _ => ?_)
set_option maxHeartbeats 8000000 in
set_option maxRecDepth 100000 in
theorem laws_eqComplex.calls (k : Nat) (a0_0 : Int) (A0_1 : Option Addr) (c0_1 : Nat) (l0_1 : List Int) (a1_0 : Int) (A1_1 : Option Addr) (c1_1 : Nat) (l1_1 : List Int) (r : Bool) (w : World) (hr0_1 : Kd.C (Kd.int .i64) w A0_1 l0_1.length l0_1) (hc0_1 : l0_1.length ≤ c0_1) (hr1_1 : Kd.C (Kd.int .i64) w A1_1 l1_1.length l1_1) (hc1_1 : l1_1.length ≤ c1_1) (h : laws_eqComplex.f k a0_0 l0_1 a1_0 l1_1 = some r) :
  Calls Try.prog 23 #[.agg #[.int .i64 a0_0, .slice A0_1 l0_1.length c0_1], .agg #[.int .i64 a1_0, .slice A1_1 l1_1.length c1_1]] w fun e w' => e = .returned (.bool r) ∧ Below w.heap.size w w' := by
 have hu30 := Try.underlying30
 have HR0_1 := Aside0.mk hr0_1
 have HC0_1 := Aside0.mk hc0_1
 clear hr0_1 hc0_1
 have HR1_1 := Aside0.mk hr1_1
 have HC1_1 := Aside0.mk hc1_1
 clear hr1_1 hc1_1
 have HB := Aside0.mk (Below.refl w.heap.size w)
 have H : (if a0_0 = a1_0 then ((laws_eqInt64S.f k l0_1 l1_1).bind fun t587 => (if t587 = true then (some true) else (some false))) else (some false)) = some r := h
 clear h
 by_cases c3 : a0_0 = a1_0
 ·rw [if_pos c3] at H
  have c3b0 : (a0_0 == a1_0) = true := beq_iff_eq.mpr c3
  have c3b1 : (a0_0 != a1_0) = false := bne_eq_false_iff_eq.mpr c3
  clear c3
  replace H := Option.bind_eq_some_iff.mp H
  obtain ⟨t587, A40, H⟩ := H
  replace H : (if t587 = true then (some true) else (some false)) = some r := H
  have A4 := Aside0.mk A40
  clear A40
  by_cases c5 : t587 = true
  ·subst c5
   have H1 : (some true) = some r := by rw [if_pos rfl] at H; exact H
   clear H
   have H := H1
   clear H1
   obtain rfl := Option.some.inj H
   go_enter Try.func23, Try.ntmps23
   go_wp2_with (first | ((with_reducible refine gate_dst (N := 2) rfl ?_); refine box_event ?hg (N := 2) ?hd (cs := #[.int .i64 a0_0, .slice A0_1 l0_1.length c0_1]) (t := 30) ?hr ?_; (case hd => rfl); (case hg => rfl); (case hr => first | (go_simp; done) | (go_simp; rfl)); intro gb585 hg w6 hbox hb; have n0_ := Aside0.mk (below_step (by repeat (first | (with_reducible first | exact HB.out | apply below_alloc | apply pw_below_drewN | apply below_drew1) | exact HB.out)) hb); have n1_ := Aside0.mk (hbox); have n2_ := Aside0.mk ((by rw [hg]; exact (below_size (by repeat (first | (with_reducible first | exact HB.out | apply below_alloc | apply pw_below_drewN | apply below_drew1) | exact HB.out))) : w.heap.size ≤ gb585)); have n3_ := Aside0.mk ((by rw [hg]; exact (below_size (by repeat (first | (with_reducible first | exact HB.out | apply below_alloc | apply pw_below_drewN | apply below_drew1) | exact HB.out))) : w.heap.size ≤ gb585)); clear HB; have HB := n0_; have BK585 := n1_; have GW585 := n2_; have GE585 := n3_; clear n0_ n1_ n2_ n3_; clear hb hbox hg) | ((with_reducible refine gate_dst (N := 3) rfl ?_); refine box_event ?hg (N := 3) ?hd (cs := #[.int .i64 a1_0, .slice A1_1 l1_1.length c1_1]) (t := 30) ?hr ?_; (case hd => rfl); (case hg => rfl); (case hr => first | (go_simp; done) | (go_simp; rfl)); intro gb586 hg w7 hbox hb; have n0_ := Aside0.mk (blk_below (g := gb585) (o := .cells #[.int .i64 a0_0, .slice A0_1 l0_1.length c0_1] 30 (0, 0)) (by (with_reducible repeat (first | refine blk_drewN ?_ _ | refine blk_drew ?_ | refine blk_alloc ?_ _)); exact BK585.out) hb); have n1_ := Aside0.mk (below_step (by repeat (first | (with_reducible first | exact HB.out | apply below_alloc | apply pw_below_drewN | apply below_drew1 | refine below_set ?_ GE585.out) | exact HB.out)) hb); have n2_ := Aside0.mk (hbox); have n3_ := Aside0.mk ((by rw [hg]; exact (below_size (by repeat (first | (with_reducible first | exact HB.out | apply below_alloc | apply pw_below_drewN | apply below_drew1 | refine below_set ?_ GE585.out) | exact HB.out))) : w.heap.size ≤ gb586)); have n4_ := Aside0.mk ((by rw [hg]; exact (below_size (by repeat (first | (with_reducible first | exact HB.out | apply below_alloc | apply pw_below_drewN | apply below_drew1 | refine below_set ?_ GE585.out) | exact HB.out))) : w.heap.size ≤ gb586)); have n5_ := Aside0.mk ((by rw [hg]; exact Nat.ne_of_lt (blk_lt (g := gb585) (o := .cells #[.int .i64 a0_0, .slice A0_1 l0_1.length c0_1] 30 (0, 0)) (by (with_reducible repeat (first | refine blk_drewN ?_ _ | refine blk_drew ?_ | refine blk_alloc ?_ _)); exact BK585.out)) : gb585 ≠ gb586)); have n6_ := Aside0.mk ((by rw [hg]; exact Nat.ne_of_gt (blk_lt (g := gb585) (o := .cells #[.int .i64 a0_0, .slice A0_1 l0_1.length c0_1] 30 (0, 0)) (by (with_reducible repeat (first | refine blk_drewN ?_ _ | refine blk_drew ?_ | refine blk_alloc ?_ _)); exact BK585.out)) : gb586 ≠ gb585)); clear BK585; clear HB; have BK585 := n0_; have HB := n1_; have BK586 := n2_; have GW586 := n3_; have GE586 := n4_; have NB585_586 := n5_; have NB586_585 := n6_; clear n0_ n1_ n2_ n3_ n4_ n5_ n6_; clear hb hbox hg; have hnb8 := NB585_586.out; have hnc8 := NB586_585.out; have hcz9_0 : w7.cell? ⟨gb585, 0, none⟩ = some (.int .i64 a0_0) := (blk_cell BK585.out 0).trans rfl; have hcz9_1 : w7.cell? ⟨gb585, 1, none⟩ = some (.slice A0_1 l0_1.length c0_1) := (blk_cell BK585.out 1).trans rfl; have hfz9_0 := blk_frozen BK585.out 0; have hfz9_1 := blk_frozen BK585.out 1; have hcz10_0 : w7.cell? ⟨gb586, 0, none⟩ = some (.int .i64 a1_0) := (blk_cell BK586.out 0).trans rfl; have hcz10_1 : w7.cell? ⟨gb586, 1, none⟩ = some (.slice A1_1 l1_1.length c1_1) := (blk_cell BK586.out 1).trans rfl; have hfz10_0 := blk_frozen BK586.out 0; have hfz10_1 := blk_frozen BK586.out 1) | ((with_reducible refine gate_callee (f := 27) rfl ?_); refine goesL_ (some 14) rfl rfl Try.func27 (by kernel_rfl) rfl #[.slice A0_1 l0_1.length c0_1, .slice A1_1 l1_1.length c1_1] rfl (by (try simp only [List.map_toArray, List.map_cons, List.map_nil]); first | done | rfl | (simp only [List.length_drop, List.length_take]; rfl)) ?_; (with_reducible refine (laws_eqInt64S.calls k _ _ l0_1 _ _ l1_1 true _ ?side1 ?side2 ?side3 ?side4 A4.out).mono ?_); (case side1 => repeat (first | exact (Kd.C_below HR0_1.out HB.out) | (with_reducible refine Kd.C_alloc ?_ _) | (with_reducible refine Kd.C_drewN ?_ _) | (with_reducible refine Kd.C_drew ?_))); (case side2 => exact HC0_1.out); (case side3 => repeat (first | exact (Kd.C_below HR1_1.out HB.out) | (with_reducible refine Kd.C_alloc ?_ _) | (with_reducible refine Kd.C_drewN ?_ _) | (with_reducible refine Kd.C_drew ?_))); (case side4 => exact HC1_1.out); rintro e w' ⟨rfl, ⟨nd, rfl⟩⟩; refine ⟨_, rfl, ?_⟩))
   go_ret
   exact ⟨by first | rfl | (simp [errW_none, errW_some] <;> rfl) | (simp [*, errW_none, errW_some] <;> rfl), by repeat (first | (with_reducible first | exact HB.out | apply below_alloc | apply pw_below_drewN | apply below_drew1 | refine below_set ?_ GE585.out | refine below_set ?_ GE586.out) | exact HB.out)⟩
  ·replace c5 := Bool.eq_false_iff.mpr c5
   subst c5
   have H1 : (some false) = some r := by rw [if_neg (show ¬ (false = true) by decide)] at H; exact H
   clear H
   have H := H1
   clear H1
   obtain rfl := Option.some.inj H
   go_enter Try.func23, Try.ntmps23
   go_wp2_with (first | ((with_reducible refine gate_dst (N := 2) rfl ?_); refine box_event ?hg (N := 2) ?hd (cs := #[.int .i64 a0_0, .slice A0_1 l0_1.length c0_1]) (t := 30) ?hr ?_; (case hd => rfl); (case hg => rfl); (case hr => first | (go_simp; done) | (go_simp; rfl)); intro gb585 hg w11 hbox hb; have n0_ := Aside0.mk (below_step (by repeat (first | (with_reducible first | exact HB.out | apply below_alloc | apply pw_below_drewN | apply below_drew1) | exact HB.out)) hb); have n1_ := Aside0.mk (hbox); have n2_ := Aside0.mk ((by rw [hg]; exact (below_size (by repeat (first | (with_reducible first | exact HB.out | apply below_alloc | apply pw_below_drewN | apply below_drew1) | exact HB.out))) : w.heap.size ≤ gb585)); have n3_ := Aside0.mk ((by rw [hg]; exact (below_size (by repeat (first | (with_reducible first | exact HB.out | apply below_alloc | apply pw_below_drewN | apply below_drew1) | exact HB.out))) : w.heap.size ≤ gb585)); clear HB; have HB := n0_; have BK585 := n1_; have GW585 := n2_; have GE585 := n3_; clear n0_ n1_ n2_ n3_; clear hb hbox hg) | ((with_reducible refine gate_dst (N := 3) rfl ?_); refine box_event ?hg (N := 3) ?hd (cs := #[.int .i64 a1_0, .slice A1_1 l1_1.length c1_1]) (t := 30) ?hr ?_; (case hd => rfl); (case hg => rfl); (case hr => first | (go_simp; done) | (go_simp; rfl)); intro gb586 hg w12 hbox hb; have n0_ := Aside0.mk (blk_below (g := gb585) (o := .cells #[.int .i64 a0_0, .slice A0_1 l0_1.length c0_1] 30 (0, 0)) (by (with_reducible repeat (first | refine blk_drewN ?_ _ | refine blk_drew ?_ | refine blk_alloc ?_ _)); exact BK585.out) hb); have n1_ := Aside0.mk (below_step (by repeat (first | (with_reducible first | exact HB.out | apply below_alloc | apply pw_below_drewN | apply below_drew1 | refine below_set ?_ GE585.out) | exact HB.out)) hb); have n2_ := Aside0.mk (hbox); have n3_ := Aside0.mk ((by rw [hg]; exact (below_size (by repeat (first | (with_reducible first | exact HB.out | apply below_alloc | apply pw_below_drewN | apply below_drew1 | refine below_set ?_ GE585.out) | exact HB.out))) : w.heap.size ≤ gb586)); have n4_ := Aside0.mk ((by rw [hg]; exact (below_size (by repeat (first | (with_reducible first | exact HB.out | apply below_alloc | apply pw_below_drewN | apply below_drew1 | refine below_set ?_ GE585.out) | exact HB.out))) : w.heap.size ≤ gb586)); have n5_ := Aside0.mk ((by rw [hg]; exact Nat.ne_of_lt (blk_lt (g := gb585) (o := .cells #[.int .i64 a0_0, .slice A0_1 l0_1.length c0_1] 30 (0, 0)) (by (with_reducible repeat (first | refine blk_drewN ?_ _ | refine blk_drew ?_ | refine blk_alloc ?_ _)); exact BK585.out)) : gb585 ≠ gb586)); have n6_ := Aside0.mk ((by rw [hg]; exact Nat.ne_of_gt (blk_lt (g := gb585) (o := .cells #[.int .i64 a0_0, .slice A0_1 l0_1.length c0_1] 30 (0, 0)) (by (with_reducible repeat (first | refine blk_drewN ?_ _ | refine blk_drew ?_ | refine blk_alloc ?_ _)); exact BK585.out)) : gb586 ≠ gb585)); clear BK585; clear HB; have BK585 := n0_; have HB := n1_; have BK586 := n2_; have GW586 := n3_; have GE586 := n4_; have NB585_586 := n5_; have NB586_585 := n6_; clear n0_ n1_ n2_ n3_ n4_ n5_ n6_; clear hb hbox hg; have hnb13 := NB585_586.out; have hnc13 := NB586_585.out; have hcz14_0 : w12.cell? ⟨gb585, 0, none⟩ = some (.int .i64 a0_0) := (blk_cell BK585.out 0).trans rfl; have hcz14_1 : w12.cell? ⟨gb585, 1, none⟩ = some (.slice A0_1 l0_1.length c0_1) := (blk_cell BK585.out 1).trans rfl; have hfz14_0 := blk_frozen BK585.out 0; have hfz14_1 := blk_frozen BK585.out 1; have hcz15_0 : w12.cell? ⟨gb586, 0, none⟩ = some (.int .i64 a1_0) := (blk_cell BK586.out 0).trans rfl; have hcz15_1 : w12.cell? ⟨gb586, 1, none⟩ = some (.slice A1_1 l1_1.length c1_1) := (blk_cell BK586.out 1).trans rfl; have hfz15_0 := blk_frozen BK586.out 0; have hfz15_1 := blk_frozen BK586.out 1) | ((with_reducible refine gate_callee (f := 27) rfl ?_); refine goesL_ (some 14) rfl rfl Try.func27 (by kernel_rfl) rfl #[.slice A0_1 l0_1.length c0_1, .slice A1_1 l1_1.length c1_1] rfl (by (try simp only [List.map_toArray, List.map_cons, List.map_nil]); first | done | rfl | (simp only [List.length_drop, List.length_take]; rfl)) ?_; (with_reducible refine (laws_eqInt64S.calls k _ _ l0_1 _ _ l1_1 false _ ?side1 ?side2 ?side3 ?side4 A4.out).mono ?_); (case side1 => repeat (first | exact (Kd.C_below HR0_1.out HB.out) | (with_reducible refine Kd.C_alloc ?_ _) | (with_reducible refine Kd.C_drewN ?_ _) | (with_reducible refine Kd.C_drew ?_))); (case side2 => exact HC0_1.out); (case side3 => repeat (first | exact (Kd.C_below HR1_1.out HB.out) | (with_reducible refine Kd.C_alloc ?_ _) | (with_reducible refine Kd.C_drewN ?_ _) | (with_reducible refine Kd.C_drew ?_))); (case side4 => exact HC1_1.out); rintro e w' ⟨rfl, ⟨nd, rfl⟩⟩; refine ⟨_, rfl, ?_⟩))
   go_ret
   exact ⟨by first | rfl | (simp [errW_none, errW_some] <;> rfl) | (simp [*, errW_none, errW_some] <;> rfl), by repeat (first | (with_reducible first | exact HB.out | apply below_alloc | apply pw_below_drewN | apply below_drew1 | refine below_set ?_ GE585.out | refine below_set ?_ GE586.out) | exact HB.out)⟩
 ·rw [if_neg c3] at H
  have c3b0 : (a0_0 == a1_0) = false := beq_eq_false_iff_ne.mpr c3
  have c3b1 : (a0_0 != a1_0) = true := bne_iff_ne.mpr c3
  obtain rfl := Option.some.inj H
  go_enter Try.func23, Try.ntmps23
  go_wp2_with (first | ((with_reducible refine gate_dst (N := 2) rfl ?_); refine box_event ?hg (N := 2) ?hd (cs := #[.int .i64 a0_0, .slice A0_1 l0_1.length c0_1]) (t := 30) ?hr ?_; (case hd => rfl); (case hg => rfl); (case hr => first | (go_simp; done) | (go_simp; rfl)); intro gb585 hg w16 hbox hb; have n0_ := Aside0.mk (below_step (by repeat (first | (with_reducible first | exact HB.out | apply below_alloc | apply pw_below_drewN | apply below_drew1) | exact HB.out)) hb); have n1_ := Aside0.mk (hbox); have n2_ := Aside0.mk ((by rw [hg]; exact (below_size (by repeat (first | (with_reducible first | exact HB.out | apply below_alloc | apply pw_below_drewN | apply below_drew1) | exact HB.out))) : w.heap.size ≤ gb585)); have n3_ := Aside0.mk ((by rw [hg]; exact (below_size (by repeat (first | (with_reducible first | exact HB.out | apply below_alloc | apply pw_below_drewN | apply below_drew1) | exact HB.out))) : w.heap.size ≤ gb585)); clear HB; have HB := n0_; have BK585 := n1_; have GW585 := n2_; have GE585 := n3_; clear n0_ n1_ n2_ n3_; clear hb hbox hg) | ((with_reducible refine gate_dst (N := 3) rfl ?_); refine box_event ?hg (N := 3) ?hd (cs := #[.int .i64 a1_0, .slice A1_1 l1_1.length c1_1]) (t := 30) ?hr ?_; (case hd => rfl); (case hg => rfl); (case hr => first | (go_simp; done) | (go_simp; rfl)); intro gb586 hg w17 hbox hb; have n0_ := Aside0.mk (blk_below (g := gb585) (o := .cells #[.int .i64 a0_0, .slice A0_1 l0_1.length c0_1] 30 (0, 0)) (by (with_reducible repeat (first | refine blk_drewN ?_ _ | refine blk_drew ?_ | refine blk_alloc ?_ _)); exact BK585.out) hb); have n1_ := Aside0.mk (below_step (by repeat (first | (with_reducible first | exact HB.out | apply below_alloc | apply pw_below_drewN | apply below_drew1 | refine below_set ?_ GE585.out) | exact HB.out)) hb); have n2_ := Aside0.mk (hbox); have n3_ := Aside0.mk ((by rw [hg]; exact (below_size (by repeat (first | (with_reducible first | exact HB.out | apply below_alloc | apply pw_below_drewN | apply below_drew1 | refine below_set ?_ GE585.out) | exact HB.out))) : w.heap.size ≤ gb586)); have n4_ := Aside0.mk ((by rw [hg]; exact (below_size (by repeat (first | (with_reducible first | exact HB.out | apply below_alloc | apply pw_below_drewN | apply below_drew1 | refine below_set ?_ GE585.out) | exact HB.out))) : w.heap.size ≤ gb586)); have n5_ := Aside0.mk ((by rw [hg]; exact Nat.ne_of_lt (blk_lt (g := gb585) (o := .cells #[.int .i64 a0_0, .slice A0_1 l0_1.length c0_1] 30 (0, 0)) (by (with_reducible repeat (first | refine blk_drewN ?_ _ | refine blk_drew ?_ | refine blk_alloc ?_ _)); exact BK585.out)) : gb585 ≠ gb586)); have n6_ := Aside0.mk ((by rw [hg]; exact Nat.ne_of_gt (blk_lt (g := gb585) (o := .cells #[.int .i64 a0_0, .slice A0_1 l0_1.length c0_1] 30 (0, 0)) (by (with_reducible repeat (first | refine blk_drewN ?_ _ | refine blk_drew ?_ | refine blk_alloc ?_ _)); exact BK585.out)) : gb586 ≠ gb585)); clear BK585; clear HB; have BK585 := n0_; have HB := n1_; have BK586 := n2_; have GW586 := n3_; have GE586 := n4_; have NB585_586 := n5_; have NB586_585 := n6_; clear n0_ n1_ n2_ n3_ n4_ n5_ n6_; clear hb hbox hg; have hnb18 := NB585_586.out; have hnc18 := NB586_585.out; have hcz19_0 : w17.cell? ⟨gb585, 0, none⟩ = some (.int .i64 a0_0) := (blk_cell BK585.out 0).trans rfl; have hcz19_1 : w17.cell? ⟨gb585, 1, none⟩ = some (.slice A0_1 l0_1.length c0_1) := (blk_cell BK585.out 1).trans rfl; have hfz19_0 := blk_frozen BK585.out 0; have hfz19_1 := blk_frozen BK585.out 1; have hcz20_0 : w17.cell? ⟨gb586, 0, none⟩ = some (.int .i64 a1_0) := (blk_cell BK586.out 0).trans rfl; have hcz20_1 : w17.cell? ⟨gb586, 1, none⟩ = some (.slice A1_1 l1_1.length c1_1) := (blk_cell BK586.out 1).trans rfl; have hfz20_0 := blk_frozen BK586.out 0; have hfz20_1 := blk_frozen BK586.out 1))
  go_ret
  exact ⟨by first | rfl | (simp [errW_none, errW_some] <;> rfl) | (simp [*, errW_none, errW_some] <;> rfl), by repeat (first | (with_reducible first | exact HB.out | apply below_alloc | apply pw_below_drewN | apply below_drew1 | refine below_set ?_ GE585.out | refine below_set ?_ GE586.out) | exact HB.out)⟩

/-! ### laws_markInt64S: function 30 -/
def laws_markInt64S.l0 : Nat → List Int → Int → Int → Option (Int × List Int)
 | 0, _, _, _ => none
 | k + 1, x0, x1, x5 => if x5 < (x0.length : Int) then (if 0 ≤ x5 then (laws_markInt64S.l0 k (x0.set (x5 : Int).toNat x1) (wrap64 (x1 + 1)) (wrap64 (x5 + 1))) else (none)) else (some (x1, x0))
def laws_markInt64S.f (k : Nat) (l0 : List Int) (a1 : Int) : Option (Int × List Int) := laws_markInt64S.l0 k l0 a1 0
theorem laws_markInt64S.mono_l : ∀ k, (∀ y0 y1 y2, LeO (laws_markInt64S.l0 k y0 y1 y2) (laws_markInt64S.l0 (k + 1) y0 y1 y2))
 | 0 => fun _ _ _ r h => by simp [laws_markInt64S.l0] at h
 | k + 1 => by
  have ih0 := laws_markInt64S.mono_l k
  ·intro y0 y1 y2
   unfold laws_markInt64S.l0
   repeat' first
   | (with_reducible exact ih0 _ _ _)
   | (with_reducible exact LeO.refl _)
   | (with_reducible exact LeO.none _)
   | (with_reducible refine LeO.ite ?_ ?_)
   | (with_reducible refine LeO.bind ?_ (fun _ => ?_))
   | exact ih0 _ _ _
   | exact LeO.none _
   | refine LeO.ite ?_ ?_
   | refine LeO.bind ?_ (fun _ => ?_)
theorem laws_markInt64S.mono : ∀ a0 a1 k, LeO (laws_markInt64S.f k a0 a1) (laws_markInt64S.f (k + 1) a0 a1) := by
 intro a0 a1 k
 have ih0 := laws_markInt64S.mono_l k
 unfold laws_markInt64S.f
 repeat' first
   | (with_reducible exact ih0 _ _ _)
   | (with_reducible exact LeO.refl _)
   | (with_reducible exact LeO.none _)
   | (with_reducible refine LeO.ite ?_ ?_)
   | (with_reducible refine LeO.bind ?_ (fun _ => ?_))
   | exact ih0 _ _ _
   | exact LeO.none _
   | refine LeO.ite ?_ ?_
   | refine LeO.bind ?_ (fun _ => ?_)
set_option maxHeartbeats 8000000 in
set_option maxRecDepth 100000 in
theorem laws_markInt64S.calls (k : Nat) (P0_ : Nat → Prop) (u9000_ : Value) (l0 : List Int) (a1 : Int) (r1 : Int) (r2 : List Int) (w0 w : World) (hB : Below w0.heap.size w0 w) (ho0 : Kd.R (Kd.int .i64) 2 w w0.heap.size P0_ u9000_ l0) (h : laws_markInt64S.f k l0 a1 = some (r1, r2)) :
  Calls Try.prog 30 #[u9000_, .int .i64 a1] w fun e w' => e = .returned (.int .i64 r1) ∧ Kd.R (Kd.int .i64) 2 w' w0.heap.size (fun k_ => (P0_ k_ ∨ w.heap.size ≤ k_)) u9000_ r2 ∧ Below w0.heap.size w0 w' ∧ Kept w w' (fun k_ => P0_ k_) := by
 have HO0 := Aside0.mk (show Kd.R (Kd.int .i64) 2 w w0.heap.size (fun k_ => (P0_ k_ ∨ w.heap.size ≤ k_)) u9000_ l0 from Kd.R_mono ho0 (fun k_ hk => (.inl hk)))
 have HK := Aside0.mk (Kept.refl w (fun k_ => P0_ k_))
 have HW0 := Aside0.mk hB.size
 have HB := Aside0.mk hB
 clear hB
 have H : (laws_markInt64S.l0 k l0 a1 0) = some (r1, r2) := h
 clear h
 have H' := Aside0.mk H
 clear H
 go_enter Try.func30, Try.ntmps30
 go_wp2
 go_loopg [1, 5] k (fun kq v1 v5 w' => ∃ (x0_1 : List Int) (x1_1 : Int) (x5_1 : Int), v1 = .int .i64 x1_1 ∧ v5 = .int .i64 x5_1 ∧ Aside0 (laws_markInt64S.l0 kq x0_1 x1_1 x5_1 = some (r1, r2)) ∧ Aside0 (kq ≤ k) ∧ Aside0 (Kd.R (Kd.int .i64) 2 w' w0.heap.size (fun k_ => (P0_ k_ ∨ w.heap.size ≤ k_)) u9000_ x0_1) ∧ Aside0 (Kept w w' (fun k_ => P0_ k_)) ∧ Aside0 (Below w0.heap.size w0 w'))
 case atStart => exact ⟨(l0), (a1), (0), (by first | rfl | (simp; done) | (simp [*]; done)), (by first | rfl | (simp; done) | (simp [*]; done)), H', ⟨Nat.le_refl _⟩, ⟨by (with_reducible repeat (first | apply Kd.R_alloc | apply Kd.R_drewN | apply Kd.R_drew)); exact HO0.out⟩, ⟨by repeat (first | (with_reducible first | exact HK.out | apply Kept.alloc | apply Kept.drewN | apply Kept.drew) | exact HK.out)⟩, ⟨by repeat (first | (with_reducible first | exact HB.out | apply below_alloc | apply pw_below_drewN | apply below_drew1) | exact HB.out)⟩⟩
 case round =>
  clear H'
  try clear p2
  obtain ⟨x0_1, x1_1, x5_1, rfl, rfl, HA, HK1, HO_0, HK, HB⟩ := hrel
  cases gk with
  | zero => exact absurd HA.out (by simp [laws_markInt64S.l0])
  | succ k1 =>
   have H := HA.out
   clear HA
   simp only [laws_markInt64S.l0] at H
   by_cases c3 : x5_1 < (x0_1.length : Int)
   ·rw [if_pos c3] at H
    have c3b0 : decide (x5_1 < (x0_1.length : Int)) = true := decide_eq_true c3
    clear c3
    by_cases c4 : 0 ≤ x5_1
    ·rw [if_pos c4] at H
     have c4b0 : decide (0 ≤ x5_1) = true := decide_eq_true c4
     clear c4
     obtain ⟨y588, hy588⟩ : ∃ y_ : List Int, y_ = (x0_1.set (x5_1 : Int).toNat x1_1) := ⟨_, rfl⟩
     replace H : (laws_markInt64S.l0 k1 y588 (wrap64 (x1_1 + 1)) (wrap64 (x5_1 + 1))) = some (r1, r2) := by first | (rw [hy588]; with_reducible exact H) | (have H2_ := (Option.bind_some _ _).symm.trans H; rw [hy588]; with_reducible exact H2_) | (have H2_ := (Option.bind_some _ _).symm.trans H; with_reducible exact H2_) | with_reducible exact H | (rw [hy588]; exact H) | exact H
     have Ny588 := Aside0.mk hy588
     clear hy588
     have H' := Aside0.mk H
     clear H
     obtain ⟨Ao6, co6, eo6⟩ := Kd.R_slice HO_0.out
     subst eo6
     have p5 : 0 ≤ (x5_1 : Int) := of_decide_eq_true (by first | (with_reducible assumption) | assumption)
     have q5 : (x5_1 : Int) < ((x0_1.length : Int) : Int) := of_decide_eq_true (by first | (with_reducible assumption) | assumption)
     obtain ⟨go5, co5, eo5, gb5, gl5, cl5, HG5⟩ := Kd.R_form HO_0.out (by omega)
     (first | cases eo5 | (injection eo5 with ea_ en_ ec_; (first | subst ea_ | (injection ea_ with ea_; subst ea_)); subst ec_; clear en_))
     have GB5 := Aside0.mk gb5
     have GG5 := Aside0.mk HG5
     clear gb5 gl5 HG5
     have HMgo5 := Aside0.mk (show (P0_ go5 ∨ w.heap.size ≤ go5) from (HO_0.out.1 _ rfl))
     obtain ⟨hx5_0, hf5_0⟩ := Kd.R_celln 0 HO_0.out (x5_1 : Int) p5 q5
     replace p5 := eq_true p5
     replace q5 := eq_true q5
     have HP7 := Kd.R_putg HO_0.out (x5_1 : Int) x1_1
     go_wp2_with (first | ((with_reducible refine gate_store (t := 2) (p := 15) rfl ?_); refine store_event (t := 2) (p := 15) (v := ?vo_w8) (w1 := (wr.setCell ⟨go5, (x5_1 : Int).toNat, none⟩ (.int .i64 x1_1))) ?hg ?ho ?hn ?hr ?_; (case ho => rfl); (case hg => rfl); (case hn => rfl); (case hr => first | (go_simp; done) | (go_simp; rfl)); intro w8 hw; have hg : wr.grownBy w8 (some go5) := (by rw [hw]; exact HP7.2); have hp_ : Kd.R (Kd.int .i64) 2 w8 w0.heap.size (fun k_ => (P0_ k_ ∨ w.heap.size ≤ k_)) (.slice (some ⟨go5, 0, none⟩) x0_1.length co6) y588 := (by rw [hw, Ny588.out]; exact HP7.1); clear HP7; have n0_ := Aside0.mk (hp_); have n1_ := Aside0.mk ((by rw [hw]; exact below_set (HB.out) GB5.out : Below w0.heap.size w0 w8)); have n2_ := Aside0.mk (Kept.of_grown (S := (fun k_ => P0_ k_)) hg (by repeat (first | (with_reducible first | exact HK.out | apply Kept.alloc | apply Kept.drewN | apply Kept.drew) | exact HK.out)) (fun k_ e_ => (HO_0.out.1 k_ e_))); clear HO_0; clear HB; clear HK; have HO_0 := n0_; have HB := n1_; have HK := n2_; clear n0_ n1_ n2_; clear hg hw hp_))
     go_roundg k1
     case measure => have := HK1.out; omega
     case rel => exact ⟨(y588), (wrap64 (x1_1 + 1)), (wrap64 (x5_1 + 1)), (by first | rfl | (simp; done) | (simp [*]; done)), (by first | rfl | (simp; done) | (simp [*]; done)), H', ⟨by have := HK1.out; omega⟩, ⟨by (with_reducible repeat (first | apply Kd.R_alloc | apply Kd.R_drewN | apply Kd.R_drew)); exact HO_0.out⟩, ⟨by repeat (first | (with_reducible first | exact HK.out | apply Kept.alloc | apply Kept.drewN | apply Kept.drew) | exact HK.out)⟩, ⟨by repeat (first | (with_reducible first | exact HB.out | apply below_alloc | apply pw_below_drewN | apply below_drew1) | exact HB.out)⟩⟩
    ·rw [if_neg c4] at H
     exact absurd H (by simp)
   ·rw [if_neg c3] at H
    have c3b0 : decide (x5_1 < (x0_1.length : Int)) = false := decide_eq_false c3
    clear c3
    simp only [Option.some.injEq, Prod.mk.injEq] at H
    obtain ⟨rfl, rfl⟩ := H
    obtain ⟨Ao9, co9, eo9⟩ := Kd.R_slice HO_0.out
    subst eo9
    go_wp2
    go_ret
    exact ⟨by first | rfl | (simp [errW_none, errW_some] <;> rfl) | (simp [*, errW_none, errW_some] <;> rfl), by (with_reducible repeat (first | apply Kd.R_alloc | apply Kd.R_drewN | apply Kd.R_drew)); exact HO_0.out, by repeat (first | (with_reducible first | exact HB.out | apply below_alloc | apply pw_below_drewN | apply below_drew1) | exact HB.out), by repeat (first | (with_reducible first | exact HK.out | apply Kept.alloc | apply Kept.drewN | apply Kept.drew) | exact HK.out)⟩

end Go.Proofs.Ytniikppojffiaaa.Q
end

section
/- Written by a program of this session (myprint.py over the kit's print). -/
namespace Go.Proofs.Ytniikppojffiaaa.Q
open Go.RowKit Go.Proofs.YtniikppojffiaaaW.PrintWords Go.Proofs.YtniikppojffiaaaW.PrintLast Go.Proofs.YtniikppojffiaaaW.PrintMore
attribute [local go_sem] max2_int min2_int max_two min_two max_three min_three max_four min_four   -- for this text's walks alone
set_option linter.unusedVariables false
set_option linter.unusedSimpArgs false

/-! ### laws_markComplex: function 28 -/
def laws_markComplex.f (k : Nat) (a0_0 : Int) (l0_1 : List Int) (a1 : Int) : Option (Int × List Int) := (laws_markInt64S.f k l0_1 a1).bind fun bt590 => (some (bt590.1, bt590.2))
theorem laws_markComplex.mono : ∀ a0 a1 a2 k, LeO (laws_markComplex.f k a0 a1 a2) (laws_markComplex.f (k + 1) a0 a1 a2) := by
 intro a0 a1 a2 k
 unfold laws_markComplex.f
 repeat' first
   | (with_reducible exact laws_markInt64S.mono _ _ _)
   | (with_reducible exact LeO.refl _)
   | (with_reducible exact LeO.none _)
   | (with_reducible refine LeO.ite ?_ ?_)
   | (with_reducible refine LeO.bind ?_ (fun _ => ?_))
   | exact laws_markInt64S.mono _ _ _
   | exact LeO.none _
   | refine LeO.ite ?_ ?_
   | refine LeO.bind ?_ (fun _ => ?_)
set_option maxHeartbeats 8000000 in
set_option maxRecDepth 100000 in
theorem laws_markComplex.calls (k : Nat) (a0_0 : Int) (P0_1_ : Nat → Prop) (u9000_ : Value) (l0_1 : List Int) (a1 : Int) (r1 : Int) (r2 : List Int) (w0 w : World) (hB : Below w0.heap.size w0 w) (ho0_1 : Kd.R (Kd.int .i64) 2 w w0.heap.size P0_1_ u9000_ l0_1) (h : laws_markComplex.f k a0_0 l0_1 a1 = some (r1, r2)) :
  Calls Try.prog 28 #[.agg #[.int .i64 a0_0, u9000_], .int .i64 a1] w fun e w' => e = .returned (.int .i64 r1) ∧ Kd.R (Kd.int .i64) 2 w' w0.heap.size (fun k_ => (P0_1_ k_ ∨ w.heap.size ≤ k_)) u9000_ r2 ∧ Below w0.heap.size w0 w' ∧ Kept w w' (fun k_ => P0_1_ k_) := by
 have hu30 := Try.underlying30
 have HO0_1 := Aside0.mk (show Kd.R (Kd.int .i64) 2 w w0.heap.size (fun k_ => (P0_1_ k_ ∨ w.heap.size ≤ k_)) u9000_ l0_1 from Kd.R_mono ho0_1 (fun k_ hk => (.inl hk)))
 have HK := Aside0.mk (Kept.refl w (fun k_ => P0_1_ k_))
 have HW0 := Aside0.mk hB.size
 have HB := Aside0.mk hB
 clear hB
 have H : ((laws_markInt64S.f k l0_1 a1).bind fun bt590 => (some (bt590.1, bt590.2))) = some (r1, r2) := h
 clear h
 replace H := Option.bind_eq_some_iff.mp H
 obtain ⟨⟨t590, t591⟩, A30, H⟩ := H
 replace H : (some (t590, t591)) = some (r1, r2) := H
 have A3 := Aside0.mk A30
 clear A30
 simp only [Option.some.injEq, Prod.mk.injEq] at H
 obtain ⟨rfl, rfl⟩ := H
 obtain ⟨Ao4, co4, eo4⟩ := Kd.R_slice HO0_1.out
 subst eo4
 go_enter Try.func28, Try.ntmps28
 go_wp2_with (first | ((with_reducible refine gate_dst (N := 2) rfl ?_); refine box_event ?hg (N := 2) ?hd (cs := #[.int .i64 a0_0, .slice Ao4 l0_1.length co4]) (t := 30) ?hr ?_; (case hd => rfl); (case hg => rfl); (case hr => first | (go_simp; done) | (go_simp; rfl)); intro gb589 hg w5 hbox hb; have n0_ := Aside0.mk (Kd.R_below (by (with_reducible repeat (first | apply Kd.R_alloc | apply Kd.R_drewN | apply Kd.R_drew)); exact HO0_1.out) hb); have n1_ := Aside0.mk (Kept.below (S := (fun k_ => P0_1_ k_)) (by repeat (first | (with_reducible first | exact HK.out | apply Kept.alloc | apply Kept.drewN | apply Kept.drew) | exact HK.out)) hb); have n2_ := Aside0.mk (below_step (by repeat (first | (with_reducible first | exact HB.out | apply below_alloc | apply pw_below_drewN | apply below_drew1) | exact HB.out)) hb); have n3_ := Aside0.mk (hbox); have n4_ := Aside0.mk ((by rw [hg]; exact (by first | exact HK.out.1 | exact (show Kept w _ (fun k_ => P0_1_ k_) from by repeat (first | (with_reducible first | exact HK.out | apply Kept.alloc | apply Kept.drewN | apply Kept.drew) | exact HK.out)).1) : w.heap.size ≤ gb589)); have n5_ := Aside0.mk ((by rw [hg]; exact (below_size (by repeat (first | (with_reducible first | exact HB.out | apply below_alloc | apply pw_below_drewN | apply below_drew1) | exact HB.out))) : w0.heap.size ≤ gb589)); clear HO0_1; clear HK; clear HB; have HO0_1 := n0_; have HK := n1_; have HB := n2_; have BK589 := n3_; have GW589 := n4_; have GE589 := n5_; clear n0_ n1_ n2_ n3_ n4_ n5_; clear hb hbox hg; have hcz6_0 : w5.cell? ⟨gb589, 0, none⟩ = some (.int .i64 a0_0) := (blk_cell BK589.out 0).trans rfl; have hcz6_1 : w5.cell? ⟨gb589, 1, none⟩ = some (.slice Ao4 l0_1.length co4) := (blk_cell BK589.out 1).trans rfl; have hfz6_0 := blk_frozen BK589.out 0; have hfz6_1 := blk_frozen BK589.out 1) | ((with_reducible refine gate_callee (f := 30) rfl ?_); refine goesL_ (some 8) rfl rfl Try.func30 (by kernel_rfl) rfl #[.slice Ao4 l0_1.length co4, .int .i64 a1] rfl (by (try simp only [List.map_toArray, List.map_cons, List.map_nil]); first | done | rfl | (simp only [List.length_drop, List.length_take]; rfl)) ?_; (with_reducible refine (laws_markInt64S.calls k (fun k_ => some k_ = (.slice Ao4 l0_1.length co4 : Value).ownBlock) (.slice Ao4 l0_1.length co4) l0_1 a1 t590 t591 w0 _ ?side1 ?side2 A3.out).mono ?_); (case side1 => repeat (first | (with_reducible first | exact HB.out | apply below_alloc | apply pw_below_drewN | apply below_drew1 | refine below_set ?_ GE589.out) | exact HB.out)); (case side2 => exact Kd.R_tight rfl HO0_1.out); rintro e w7 ⟨rfl, hy0, hb, hkp⟩; refine ⟨_, rfl, ?_⟩; have n0_ := Aside0.mk (Kd.R_reok rfl hy0 (fun k_ e_ => HO0_1.out.1 k_ e_)); have n1_ := Aside0.mk (blk_kept (by (with_reducible repeat (first | refine blk_drewN ?_ _ | refine blk_drew ?_ | refine blk_alloc ?_ _)); exact BK589.out) hkp (fun hs_ => (fun e_ => (Kd.R_ne HO0_1.out BK589.out (by decide)) e_) hs_)); have n2_ := Aside0.mk (Kept.then_ (S := (fun k_ => P0_1_ k_)) (by repeat (first | (with_reducible first | exact HK.out | apply Kept.alloc | apply Kept.drewN | apply Kept.drew | refine Kept.setCell ?_ (.inr GW589.out) _) | exact HK.out)) hkp (fun k_ hs_ => (fun e_ => (HO0_1.out.1 k_ e_.symm)) hs_)); have n3_ := Aside0.mk (hb); clear HO0_1; clear BK589; clear HK; clear HB; have HO0_1 := n0_; have BK589 := n1_; have HK := n2_; have HB := n3_; clear n0_ n1_ n2_ n3_; (try clear hb); (try clear hkp); (try clear hy0)))
 go_ret
 exact ⟨by first | rfl | (simp [errW_none, errW_some] <;> rfl) | (simp [*, errW_none, errW_some] <;> rfl), by (with_reducible repeat (first | apply Kd.R_alloc | apply Kd.R_drewN | apply Kd.R_drew)); exact HO0_1.out, by repeat (first | (with_reducible first | exact HB.out | apply below_alloc | apply pw_below_drewN | apply below_drew1 | refine below_set ?_ GE589.out) | exact HB.out), by repeat (first | (with_reducible first | exact HK.out | apply Kept.alloc | apply Kept.drewN | apply Kept.drew | refine Kept.setCell ?_ (.inr GW589.out) _) | exact HK.out)⟩

/-! ### laws_heldInt64S: function 31 -/
def laws_heldInt64S.l0 : Nat → List Int → Int → Int → Option (Int)
 | 0, _, _, _ => none
 | k + 1, x0, x1, x5 => if x5 < (x0.length : Int) then (if 0 ≤ x5 then (if (rd x0 x5) = x1 then (laws_heldInt64S.l0 k x0 (wrap64 (x1 + 1)) (wrap64 (x5 + 1))) else (some (-1))) else (none)) else (some x1)
def laws_heldInt64S.f (k : Nat) (l0 : List Int) (a1 : Int) : Option (Int) := laws_heldInt64S.l0 k l0 a1 0
theorem laws_heldInt64S.mono_l : ∀ k, (∀ y0 y1 y2, LeO (laws_heldInt64S.l0 k y0 y1 y2) (laws_heldInt64S.l0 (k + 1) y0 y1 y2))
 | 0 => fun _ _ _ r h => by simp [laws_heldInt64S.l0] at h
 | k + 1 => by
  have ih0 := laws_heldInt64S.mono_l k
  ·intro y0 y1 y2
   unfold laws_heldInt64S.l0
   repeat' first
   | (with_reducible exact ih0 _ _ _)
   | (with_reducible exact LeO.refl _)
   | (with_reducible exact LeO.none _)
   | (with_reducible refine LeO.ite ?_ ?_)
   | (with_reducible refine LeO.bind ?_ (fun _ => ?_))
   | exact ih0 _ _ _
   | exact LeO.none _
   | refine LeO.ite ?_ ?_
   | refine LeO.bind ?_ (fun _ => ?_)
theorem laws_heldInt64S.mono : ∀ a0 a1 k, LeO (laws_heldInt64S.f k a0 a1) (laws_heldInt64S.f (k + 1) a0 a1) := by
 intro a0 a1 k
 have ih0 := laws_heldInt64S.mono_l k
 unfold laws_heldInt64S.f
 repeat' first
   | (with_reducible exact ih0 _ _ _)
   | (with_reducible exact LeO.refl _)
   | (with_reducible exact LeO.none _)
   | (with_reducible refine LeO.ite ?_ ?_)
   | (with_reducible refine LeO.bind ?_ (fun _ => ?_))
   | exact ih0 _ _ _
   | exact LeO.none _
   | refine LeO.ite ?_ ?_
   | refine LeO.bind ?_ (fun _ => ?_)
set_option maxHeartbeats 8000000 in
set_option maxRecDepth 100000 in
theorem laws_heldInt64S.calls (k : Nat) (A0 : Option Addr) (c0 : Nat) (l0 : List Int) (a1 : Int) (r : Int) (w : World) (hr0 : Kd.C (Kd.int .i64) w A0 l0.length l0) (hc0 : l0.length ≤ c0) (h : laws_heldInt64S.f k l0 a1 = some r) :
  Calls Try.prog 31 #[.slice A0 l0.length c0, .int .i64 a1] w fun e w' => e = .returned (.int .i64 r) ∧ Drawn0 w w' := by
 have HR0 := Aside0.mk hr0
 have HC0 := Aside0.mk hc0
 clear hr0 hc0
 have H : (laws_heldInt64S.l0 k l0 a1 0) = some r := h
 clear h
 have H' := Aside0.mk H
 clear H
 go_enter Try.func31, Try.ntmps31
 go_wp2
 go_loopg [1, 5] k (fun kq v1 v5 w' => ∃ (x1_1 : Int) (x5_1 : Int), v1 = .int .i64 x1_1 ∧ v5 = .int .i64 x5_1 ∧ Aside0 (laws_heldInt64S.l0 kq l0 x1_1 x5_1 = some r) ∧ Aside0 (kq ≤ k) ∧ Drawn0 w w')
 case atStart => exact ⟨(a1), (0), (by first | rfl | (simp; done) | (simp [*]; done)), (by first | rfl | (simp; done) | (simp [*]; done)), H', ⟨Nat.le_refl _⟩, by repeat (first | exact Drawn0.refl _ | apply Drawn0.step)⟩
 case round =>
  clear H'
  try clear p2
  obtain ⟨x1_1, x5_1, rfl, rfl, HA, HK1, ⟨m1, rfl⟩⟩ := hrel
  cases gk with
  | zero => exact absurd HA.out (by simp [laws_heldInt64S.l0])
  | succ k1 =>
   have H := HA.out
   clear HA
   simp only [laws_heldInt64S.l0] at H
   by_cases c3 : x5_1 < (l0.length : Int)
   ·rw [if_pos c3] at H
    have c3b0 : decide (x5_1 < (l0.length : Int)) = true := decide_eq_true c3
    clear c3
    by_cases c4 : 0 ≤ x5_1
    ·rw [if_pos c4] at H
     have c4b0 : decide (0 ≤ x5_1) = true := decide_eq_true c4
     clear c4
     by_cases c5 : (rd l0 x5_1) = x1_1
     ·rw [if_pos c5] at H
      have c5b0 : ((rd l0 x5_1) == x1_1) = true := beq_iff_eq.mpr c5
      have c5b1 : ((rd l0 x5_1) != x1_1) = false := bne_eq_false_iff_eq.mpr c5
      clear c5
      have H' := Aside0.mk H
      clear H
      have p592 : 0 ≤ (x5_1 : Int) := of_decide_eq_true (by first | (with_reducible assumption) | assumption)
      have q592 : x5_1 < (l0.length : Int) := of_decide_eq_true (by first | (with_reducible assumption) | assumption)
      obtain ⟨ad592, e592, hx592_0⟩ := Kd.at_int HR0.out x5_1 p592 q592
      cases e592
      replace p592 := eq_true p592
      replace q592 := eq_true q592
      go_wp2
      go_roundg k1
      case measure => have := HK1.out; omega
      case rel => exact ⟨(wrap64 (x1_1 + 1)), (wrap64 (x5_1 + 1)), (by first | rfl | (simp; done) | (simp [*]; done)), (by first | rfl | (simp; done) | (simp [*]; done)), H', ⟨by have := HK1.out; omega⟩, by repeat (first | exact Drawn0.refl _ | apply Drawn0.step)⟩
     ·rw [if_neg c5] at H
      have c5b0 : ((rd l0 x5_1) == x1_1) = false := beq_eq_false_iff_ne.mpr c5
      have c5b1 : ((rd l0 x5_1) != x1_1) = true := bne_iff_ne.mpr c5
      obtain rfl := Option.some.inj H
      have p592 : 0 ≤ (x5_1 : Int) := of_decide_eq_true (by first | (with_reducible assumption) | assumption)
      have q592 : x5_1 < (l0.length : Int) := of_decide_eq_true (by first | (with_reducible assumption) | assumption)
      obtain ⟨ad592, e592, hx592_0⟩ := Kd.at_int HR0.out x5_1 p592 q592
      cases e592
      replace p592 := eq_true p592
      replace q592 := eq_true q592
      go_wp2
      go_ret
      exact ⟨by first | rfl | (simp; done) | (simp [*]; done), by repeat (first | exact Drawn0.refl _ | apply Drawn0.step)⟩
    ·rw [if_neg c4] at H
     exact absurd H (by simp)
   ·rw [if_neg c3] at H
    have c3b0 : decide (x5_1 < (l0.length : Int)) = false := decide_eq_false c3
    clear c3
    obtain rfl := Option.some.inj H
    go_wp2
    go_ret
    exact ⟨by first | rfl | (simp; done) | (simp [*]; done), by repeat (first | exact Drawn0.refl _ | apply Drawn0.step)⟩

/-! ### impl_Complex_full: function 145 -/
def impl_Complex_full.f (a0_0 : Int) (l0_1 : List Int) : Option (Int) := if 0 ≤ a0_0 then (some (wrap64 ((shl .i64 1 a0_0) - 1))) else (none)
set_option maxHeartbeats 8000000 in
set_option maxRecDepth 100000 in
theorem impl_Complex_full.calls (a0_0 : Int) (A0_1 : Option Addr) (c0_1 : Nat) (l0_1 : List Int) (r : Int) (w : World) (hr0_1 : Kd.C (Kd.int .i64) w A0_1 l0_1.length l0_1) (hc0_1 : l0_1.length ≤ c0_1) (h : impl_Complex_full.f a0_0 l0_1 = some r) :
  Calls Try.prog 145 #[.agg #[.int .i64 a0_0, .slice A0_1 l0_1.length c0_1]] w fun e w' => e = .returned (.int .i64 r) ∧ Below w.heap.size w w' := by
 have hu30 := Try.underlying30
 have HR0_1 := Aside0.mk hr0_1
 have HC0_1 := Aside0.mk hc0_1
 clear hr0_1 hc0_1
 have HB := Aside0.mk (Below.refl w.heap.size w)
 have H : (if 0 ≤ a0_0 then (some (wrap64 ((shl .i64 1 a0_0) - 1))) else (none)) = some r := h
 clear h
 by_cases c2 : 0 ≤ a0_0
 ·rw [if_pos c2] at H
  have c2b0 := eq_true c2
  have c2b1 : decide (0 ≤ a0_0) = true := decide_eq_true c2
  clear c2
  obtain ⟨ji3, hji3⟩ : ∃ j_ : Int, (shl .i64 1 a0_0) = j_ := ⟨_, rfl⟩
  replace H : (some (wrap64 ((ji3) - 1))) = some r := by first | (rw [hji3] at H; exact H) | (simp only [hji3] at H ⊢; exact H)
  have hji3_ : (IntKind.i64.wrap (1 * 2 ^ min a0_0.toNat 64)) = ji3 := hji3
  have hji3z : a0_0 ≤ 64 → (IntKind.i64.wrap (1 * 2 ^ a0_0.toNat)) = ji3 := shl_small hji3
  have hji3u : (IntKind.i64.wrap (2 ^ min a0_0.toNat 64)) = ji3 := by have h_ := hji3_; rw [Int.one_mul] at h_; exact h_
  have hji3v : a0_0 ≤ 64 → (IntKind.i64.wrap (2 ^ a0_0.toNat)) = ji3 := fun hle_ => by have h_ := hji3z hle_; rw [Int.one_mul] at h_; exact h_
  have hji3y : (wrap64 (1 * 2 ^ min a0_0.toNat 64)) = ji3 := (i64_w _).symm.trans hji3_
  have hji3x : a0_0 ≤ 64 → (wrap64 (1 * 2 ^ a0_0.toNat)) = ji3 := fun h_ => (i64_w _).symm.trans (hji3z h_)
  obtain rfl := Option.some.inj H
  go_enter Try.func145, Try.ntmps145
  go_wp2_with (first | ((with_reducible refine gate_dst (N := 1) rfl ?_); refine box_event ?hg (N := 1) ?hd (cs := #[.int .i64 a0_0, .slice A0_1 l0_1.length c0_1]) (t := 30) ?hr ?_; (case hd => rfl); (case hg => rfl); (case hr => first | (go_simp; done) | (go_simp; rfl)); intro gb593 hg w4 hbox hb; have n0_ := Aside0.mk (below_step (by repeat (first | (with_reducible first | exact HB.out | apply below_alloc | apply pw_below_drewN | apply below_drew1) | exact HB.out)) hb); have n1_ := Aside0.mk (hbox); have n2_ := Aside0.mk ((by rw [hg]; exact (below_size (by repeat (first | (with_reducible first | exact HB.out | apply below_alloc | apply pw_below_drewN | apply below_drew1) | exact HB.out))) : w.heap.size ≤ gb593)); have n3_ := Aside0.mk ((by rw [hg]; exact (below_size (by repeat (first | (with_reducible first | exact HB.out | apply below_alloc | apply pw_below_drewN | apply below_drew1) | exact HB.out))) : w.heap.size ≤ gb593)); clear HB; have HB := n0_; have BK593 := n1_; have GW593 := n2_; have GE593 := n3_; clear n0_ n1_ n2_ n3_; clear hb hbox hg; have hcz5_0 : w4.cell? ⟨gb593, 0, none⟩ = some (.int .i64 a0_0) := (blk_cell BK593.out 0).trans rfl; have hcz5_1 : w4.cell? ⟨gb593, 1, none⟩ = some (.slice A0_1 l0_1.length c0_1) := (blk_cell BK593.out 1).trans rfl; have hfz5_0 := blk_frozen BK593.out 0; have hfz5_1 := blk_frozen BK593.out 1))
  go_ret
  exact ⟨by first | rfl | (simp [errW_none, errW_some] <;> rfl) | (simp only [← hji3]; first | rfl | (simp [errW_none, errW_some] <;> rfl)) | (simp [*, errW_none, errW_some] <;> rfl), by repeat (first | (with_reducible first | exact HB.out | apply below_alloc | apply pw_below_drewN | apply below_drew1 | refine below_set ?_ GE593.out) | exact HB.out)⟩
 ·rw [if_neg c2] at H
  exact absurd H (by simp)

/-! ### impl_isIn: function 99 -/
def impl_isIn.f (a0 : Int) (a1 : Int) : Option (Bool) := some ((Go.bits .andNot .i64 a0 a1) == 0)
set_option maxHeartbeats 8000000 in
set_option maxRecDepth 100000 in
theorem impl_isIn.calls (a0 : Int) (a1 : Int) (r : Bool) (w : World) (h : impl_isIn.f a0 a1 = some r) :
  Calls Try.prog 99 #[.int .i64 a0, .int .i64 a1] w fun e w' => e = .returned (.bool r) ∧ Drawn0 w w' := by
 have H : (some ((Go.bits .andNot .i64 a0 a1) == 0)) = some r := h
 clear h
 obtain rfl := Option.some.inj H
 go_enter Try.func99, Try.ntmps99
 go_wp2
 go_ret
 exact ⟨by first | rfl | (simp; done) | (simp [*]; done), by repeat (first | exact Drawn0.refl _ | apply Drawn0.step)⟩

/-! ### impl_within: function 144 -/
def impl_within.f (a0 : Int) (a1 : Int) (a2 : Int) : Option (Bool) := if a1 ≤ a0 then (some (decide (a0 ≤ a2))) else (some false)
set_option maxHeartbeats 8000000 in
set_option maxRecDepth 100000 in
theorem impl_within.calls (a0 : Int) (a1 : Int) (a2 : Int) (r : Bool) (w : World) (h : impl_within.f a0 a1 a2 = some r) :
  Calls Try.prog 144 #[.int .i64 a0, .int .i64 a1, .int .i64 a2] w fun e w' => e = .returned (.bool r) ∧ Drawn0 w w' := by
 have H : (if a1 ≤ a0 then (some (decide (a0 ≤ a2))) else (some false)) = some r := h
 clear h
 by_cases c4 : a1 ≤ a0
 ·rw [if_pos c4] at H
  have c4b0 : decide (a1 ≤ a0) = true := decide_eq_true c4
  clear c4
  obtain rfl := Option.some.inj H
  go_enter Try.func144, Try.ntmps144
  go_wp2
  go_ret
  exact ⟨by first | rfl | (simp; done) | (simp [*]; done), by repeat (first | exact Drawn0.refl _ | apply Drawn0.step)⟩
 ·rw [if_neg c4] at H
  have c4b0 : decide (a1 ≤ a0) = false := decide_eq_false c4
  clear c4
  obtain rfl := Option.some.inj H
  go_enter Try.func144, Try.ntmps144
  go_wp2
  go_ret
  exact ⟨by first | rfl | (simp; done) | (simp [*]; done), by repeat (first | exact Drawn0.refl _ | apply Drawn0.step)⟩

/-! ### impl_isSize: function 143 -/
def impl_isSize.f (a0 : Int) : Option (Bool) := (impl_within.f a0 1 6).bind fun t594 => (some t594)
set_option maxHeartbeats 8000000 in
set_option maxRecDepth 100000 in
theorem impl_isSize.calls (a0 : Int) (r : Bool) (w : World) (h : impl_isSize.f a0 = some r) :
  Calls Try.prog 143 #[.int .i64 a0] w fun e w' => e = .returned (.bool r) ∧ Drawn0 w w' := by
 have H : ((impl_within.f a0 1 6).bind fun t594 => (some t594)) = some r := h
 clear h
 replace H := Option.bind_eq_some_iff.mp H
 obtain ⟨t594, A20, H⟩ := H
 replace H : (some t594) = some r := H
 have A2 := Aside0.mk A20
 clear A20
 obtain rfl := Option.some.inj H
 go_enter Try.func143, Try.ntmps143
 go_wp2_with (first | ((with_reducible refine gate_callee (f := 144) rfl ?_); refine goesL_ (some 4) rfl rfl Try.func144 (by kernel_rfl) rfl #[.int .i64 a0, .int .i64 1, .int .i64 6] rfl (by (try simp only [List.map_toArray, List.map_cons, List.map_nil]); first | done | rfl | (simp only [List.length_drop, List.length_take]; rfl)) ?_; (with_reducible refine (impl_within.calls a0 1 6 t594 _ A2.out).mono ?_); rintro e w' ⟨rfl, ⟨nd, rfl⟩⟩; refine ⟨_, rfl, ?_⟩))
 go_ret
 exact ⟨by first | rfl | (simp; done) | (simp [*]; done), by repeat (first | exact Drawn0.refl _ | apply Drawn0.step)⟩

/-! ### impl_vertices: function 177 -/
def impl_vertices.l0 : Nat → Int → List Int → Int → Option (List Int)
 | 0, _, _, _ => none
 | k + 1, x0, x3, x5 => if x5 < 6 then (if 0 ≤ x5 then (if (Go.bits .and .i64 (shr .i64 x0 x5) 1) = 1 then (if x3.length < 17592186044416 then (impl_vertices.l0 k x0 (x3 ++ [x5]) (wrap64 (x5 + 1))) else (none)) else (impl_vertices.l0 k x0 x3 (wrap64 (x5 + 1)))) else (none)) else (some x3)
def impl_vertices.f (k : Nat) (a0 : Int) : Option (List Int) := impl_vertices.l0 k a0 ([] : List Int) 0
theorem impl_vertices.mono_l : ∀ k, (∀ y0 y1 y2, LeO (impl_vertices.l0 k y0 y1 y2) (impl_vertices.l0 (k + 1) y0 y1 y2))
 | 0 => fun _ _ _ r h => by simp [impl_vertices.l0] at h
 | k + 1 => by
  have ih0 := impl_vertices.mono_l k
  ·intro y0 y1 y2
   unfold impl_vertices.l0
   repeat' first
   | (with_reducible exact ih0 _ _ _)
   | (with_reducible exact LeO.refl _)
   | (with_reducible exact LeO.none _)
   | (with_reducible refine LeO.ite ?_ ?_)
   | (with_reducible refine LeO.bind ?_ (fun _ => ?_))
   | exact ih0 _ _ _
   | exact LeO.none _
   | refine LeO.ite ?_ ?_
   | refine LeO.bind ?_ (fun _ => ?_)
theorem impl_vertices.mono : ∀ a0 k, LeO (impl_vertices.f k a0) (impl_vertices.f (k + 1) a0) := by
 intro a0 k
 have ih0 := impl_vertices.mono_l k
 unfold impl_vertices.f
 repeat' first
   | (with_reducible exact ih0 _ _ _)
   | (with_reducible exact LeO.refl _)
   | (with_reducible exact LeO.none _)
   | (with_reducible refine LeO.ite ?_ ?_)
   | (with_reducible refine LeO.bind ?_ (fun _ => ?_))
   | exact ih0 _ _ _
   | exact LeO.none _
   | refine LeO.ite ?_ ?_
   | refine LeO.bind ?_ (fun _ => ?_)
set_option maxHeartbeats 8000000 in
set_option maxRecDepth 100000 in
theorem impl_vertices.calls (k : Nat) (a0 : Int) (r : List Int) (w : World) (h : impl_vertices.f k a0 = some r) :
  Calls Try.prog 177 #[.int .i64 a0] w fun e w' => ∃ v0_ : Value, e = .returned (v0_) ∧ Kd.R (Kd.int .i64) 2 w' w.heap.size (fun _ => True) v0_ r ∧ Below w.heap.size w w' := by
 have HB := Aside0.mk (Below.refl w.heap.size w)
 have H : (impl_vertices.l0 k a0 ([] : List Int) 0) = some r := h
 clear h
 have H' := Aside0.mk H
 clear H
 go_enter Try.func177, Try.ntmps177
 go_wp2
 go_loopg [3, 5] k (fun kq v3 v5 w' => ∃ (x3_1 : List Int) (x5_1 : Int), v5 = .int .i64 x5_1 ∧ Aside0 (impl_vertices.l0 kq a0 x3_1 x5_1 = some r) ∧ Aside0 (kq ≤ k) ∧ Aside0 (Kd.R (Kd.int .i64) 2 w' w.heap.size (fun _ => True) v3 x3_1) ∧ Aside0 (Below w.heap.size w w'))
 case atStart => exact ⟨(([] : List Int)), (0), (by first | rfl | (simp; done) | (simp [*]; done)), H', ⟨Nat.le_refl _⟩, ⟨by first | exact Kd.R_nil _ _ _ _ _ | exact Kd.N_nil _ _ _ _ _ | exact Kd.V_nil _ _ _ _ _ | exact Kd.Q_nil _ _ _ _ _ | exact Kd.S_nil _ _ _ _ _⟩, ⟨by repeat (first | (with_reducible first | exact HB.out | apply below_alloc | apply pw_below_drewN | apply below_drew1) | exact HB.out)⟩⟩
 case round =>
  clear H'
  try clear c1
  obtain ⟨x3_1, x5_1, rfl, HA, HK1, HO_3, HB⟩ := hrel
  cases gk with
  | zero => exact absurd HA.out (by simp [impl_vertices.l0])
  | succ k1 =>
   have H := HA.out
   clear HA
   simp only [impl_vertices.l0] at H
   by_cases c2 : x5_1 < 6
   ·rw [if_pos c2] at H
    have c2b0 : decide (x5_1 < 6) = true := decide_eq_true c2
    clear c2
    by_cases c3 : 0 ≤ x5_1
    ·rw [if_pos c3] at H
     have c3b0 := eq_true c3
     have c3b1 : decide (0 ≤ x5_1) = true := decide_eq_true c3
     clear c3
     obtain ⟨ji4, hji4⟩ : ∃ j_ : Int, (shr .i64 a0 x5_1) = j_ := ⟨_, rfl⟩
     replace H : (if (Go.bits .and .i64 (ji4) 1) = 1 then (if x3_1.length < 17592186044416 then (impl_vertices.l0 k1 a0 (x3_1 ++ [x5_1]) (wrap64 (x5_1 + 1))) else (none)) else (impl_vertices.l0 k1 a0 x3_1 (wrap64 (x5_1 + 1)))) = some r := by first | (rw [hji4] at H; exact H) | (simp only [hji4] at H ⊢; exact H)
     have hji4_ : (a0 / 2 ^ min x5_1.toNat 64) = ji4 := hji4
     have hji4z : x5_1 ≤ 64 → (a0 / 2 ^ x5_1.toNat) = ji4 := shr_small hji4
     by_cases c5 : (Go.bits .and .i64 (ji4) 1) = 1
     ·rw [if_pos c5] at H
      have c5b0 : ((Go.bits .and .i64 (ji4) 1) == 1) = true := beq_iff_eq.mpr c5
      have c5b1 : ((Go.bits .and .i64 (ji4) 1) != 1) = false := bne_eq_false_iff_eq.mpr c5
      clear c5
      by_cases c6 : x3_1.length < 17592186044416
      ·rw [if_pos c6] at H
       have LMc6 := Aside0.mk c6
       clear c6
       obtain ⟨y595, hy595⟩ : ∃ y_ : List Int, y_ = (x3_1 ++ [x5_1]) := ⟨_, rfl⟩
       replace H : (impl_vertices.l0 k1 a0 y595 (wrap64 (x5_1 + 1))) = some r := by first | (rw [hy595]; with_reducible exact H) | (have H2_ := (Option.bind_some _ _).symm.trans H; rw [hy595]; with_reducible exact H2_) | (have H2_ := (Option.bind_some _ _).symm.trans H; with_reducible exact H2_) | with_reducible exact H | (rw [hy595]; exact H) | exact H
       have Ny595 := Aside0.mk hy595
       clear hy595
       have H' := Aside0.mk H
       clear H
       go_wp2_with (first | ((with_reducible refine gate_builtin (b := .append) (xs := #[.tmp 13, .tmp 15]) rfl ?_); at_builtin; refine Kd.R_append (Kd.int .i64) (w0 := w) w.heap.size rfl (.tmp 13) (.tmp 15) 22 2 (.int .i64 0) 8 rfl Try.underlying22 info2 rfl (by decide) (by omega) u3 x3_1 x5_1 [.int .i64 x5_1] (fun _ => True) (fun _ => False) rfl rfl ?aP (fun _ hk => hk.elim) ?aF ?aO ?aB ?aS ?aL ?_; (case aP => exact rfl); (case aB => exact (by repeat (first | (with_reducible first | exact HB.out | apply below_alloc | apply pw_below_drewN | apply below_drew1) | exact HB.out))); (case aF => exact (fun _ _ => trivial)); (case aO => exact (by (with_reducible repeat (first | apply Kd.R_alloc | apply Kd.R_drewN | apply Kd.R_drew)); exact HO_3.out)); (case aS => exact (below_size (by repeat (first | (with_reducible first | exact HB.out | apply below_alloc | apply pw_below_drewN | apply below_drew1) | exact HB.out)))); (case aL => have := LMc6.out; omega); intro v596 w7 ho hb hg hat; rw [← Ny595.out] at ho; have n0_ := Aside0.mk (hb); have n1_ := Aside0.mk (ho); clear HB; clear HO_3; have HB := n0_; have HO597 := n1_; clear n0_ n1_; clear ho hb hg hat))
       go_roundg k1
       case measure => have := HK1.out; omega
       case rel => exact ⟨(y595), (wrap64 (x5_1 + 1)), (by first | rfl | (simp; done) | (simp [*]; done)), H', ⟨by have := HK1.out; omega⟩, ⟨by (with_reducible repeat (first | apply Kd.R_alloc | apply Kd.R_drewN | apply Kd.R_drew)); exact HO597.out⟩, ⟨by repeat (first | (with_reducible first | exact HB.out | apply below_alloc | apply pw_below_drewN | apply below_drew1) | exact HB.out)⟩⟩
      ·rw [if_neg c6] at H
       exact absurd H (by simp)
     ·rw [if_neg c5] at H
      have c5b0 : ((Go.bits .and .i64 (ji4) 1) == 1) = false := beq_eq_false_iff_ne.mpr c5
      have c5b1 : ((Go.bits .and .i64 (ji4) 1) != 1) = true := bne_iff_ne.mpr c5
      have H' := Aside0.mk H
      clear H
      go_wp2
      go_roundg k1
      case measure => have := HK1.out; omega
      case rel => exact ⟨(x3_1), (wrap64 (x5_1 + 1)), (by first | rfl | (simp; done) | (simp [*]; done)), H', ⟨by have := HK1.out; omega⟩, ⟨by (with_reducible repeat (first | apply Kd.R_alloc | apply Kd.R_drewN | apply Kd.R_drew)); exact HO_3.out⟩, ⟨by repeat (first | (with_reducible first | exact HB.out | apply below_alloc | apply pw_below_drewN | apply below_drew1) | exact HB.out)⟩⟩
    ·rw [if_neg c3] at H
     exact absurd H (by simp)
   ·rw [if_neg c2] at H
    have c2b0 : decide (x5_1 < 6) = false := decide_eq_false c2
    clear c2
    obtain rfl := Option.some.inj H
    go_wp2
    go_ret
    exact ⟨_, by first | rfl | (simp [errW_none, errW_some] <;> rfl) | (simp [*, errW_none, errW_some] <;> rfl), by (with_reducible repeat (first | apply Kd.R_alloc | apply Kd.R_drewN | apply Kd.R_drew)); exact HO_3.out, by repeat (first | (with_reducible first | exact HB.out | apply below_alloc | apply pw_below_drewN | apply below_drew1) | exact HB.out)⟩

end Go.Proofs.Ytniikppojffiaaa.Q
end

section
/- Plain laws of the laws' own helpers: copies, comparisons, marks. -/
namespace Go.Proofs.Ytniikppojffiaaa.K
open Go.RowKit Go.Shelf Go.Proofs.Ytniikppojffiaaa.Q Go.Proofs.YtniikppojffiaaaW.PrintWords Go.Proofs.YtniikppojffiaaaW.PrintLast Go.Proofs.YtniikppojffiaaaW.PrintMore
set_option linter.unusedVariables false
set_option linter.unusedSimpArgs false

theorem w64 (x : Int) (h0 : -9223372036854775808 ≤ x) (h1 : x ≤ 9223372036854775807) : wrap64 x = x := by unfold wrap64; omega
theorem rd_nat (l : List Int) (i : Nat) (h : i < l.length) : rd l (i : Int) = l[i] := by simp [rd, h]
theorem nat_succ (i : Nat) : (i : Int) + 1 = ((i + 1 : Nat) : Int) := by omega

theorem szInt64S_is (l : List Int) (a : Int) (ha : 0 ≤ a ∧ a ≤ 1048576) (hl : l.length ≤ 9223372036854775807) : laws_szInt64S.f l a = some (if a < l.length then -1 else a - l.length) := by
  unfold laws_szInt64S.f
  rw [w64 _ (by omega) (by omega)]
  by_cases h : a < l.length
  · rw [if_pos (by omega), if_pos h]
  · rw [if_neg (by omega), if_neg h]
theorem szComplex_is (n : Int) (l : List Int) (a : Int) (ha : 0 ≤ a ∧ a ≤ 1048576) (hl : l.length ≤ 9223372036854775807) : laws_szComplex.f n l a = some (if a < l.length then -1 else a - l.length) := by
  unfold laws_szComplex.f
  rw [szInt64S_is l a ha hl]
  simp only [Option.bind_some]
  by_cases h : a < l.length
  · rw [if_pos h, if_pos (by omega)]
  · rw [if_neg h, if_neg (by omega)]

theorem set_take (l : List Int) (i : Nat) (h : i < l.length) : (l.take i ++ List.replicate (l.length - i) 0).set i l[i] = l.take (i + 1) ++ List.replicate (l.length - (i + 1)) 0 := by
  rw [List.set_append_right _ _ (by simp; omega)]
  rw [List.take_succ_eq_append_getElem h, List.append_assoc]
  congr 1
  obtain ⟨m, hm⟩ : ∃ m, l.length - i = m + 1 := ⟨l.length - i - 1, by omega⟩
  rw [hm, List.replicate_succ]
  simp
  have e1 : i - min i l.length = 0 := by omega
  rw [e1]
  simp
  omega

theorem toInt64S_loop (l : List Int) (hl : l.length ≤ 2097152) : ∀ (d i k : Nat), l.length - i = d → i ≤ l.length → d < k → laws_toInt64S.l0 k l (l.take i ++ List.replicate (l.length - i) 0) (i : Int) = some l := by
  intro d
  induction d with
  | zero =>
    intro i k hd hi hk
    obtain ⟨k, rfl⟩ : ∃ m, k = m + 1 := ⟨k - 1, by omega⟩
    obtain rfl : i = l.length := by omega
    simp only [laws_toInt64S.l0]
    rw [if_neg (by omega)]
    simp
  | succ d ih =>
    intro i k hd hi hk
    obtain ⟨k, rfl⟩ : ∃ m, k = m + 1 := ⟨k - 1, by omega⟩
    simp only [laws_toInt64S.l0]
    have hil : i < l.length := by omega
    rw [if_pos (by omega), if_pos (by omega), if_pos (by simp; omega), rd_nat l i hil, w64 _ (by omega) (by omega), nat_succ, Int.toNat_natCast, set_take l i hil]
    exact ih (i + 1) k (by omega) (by omega) (by omega)
theorem toInt64S_is (l : List Int) (hl : l.length ≤ 2097152) (k : Nat) (hk : l.length < k) : laws_toInt64S.f k l = some l := by
  unfold laws_toInt64S.f
  rw [if_pos (by omega), if_pos (by simp; omega)]
  have := toInt64S_loop l hl l.length 0 k (by omega) (by omega) hk
  simpa using this
theorem toComplex_is (n : Int) (l : List Int) (hl : l.length ≤ 2097152) (k : Nat) (hk : l.length < k) : laws_toComplex.f k n l = some (n, l) := by
  unfold laws_toComplex.f
  rw [toInt64S_is l hl k hk]
  rfl

theorem eqInt64S_loop (a b : List Int) (hab : a.length = b.length) (hl : a.length ≤ 9223372036854775807) : ∀ (d i k : Nat), a.length - i = d → i ≤ a.length → d < k →
    laws_eqInt64S.l0 k a b (i : Int) = some (decide (a.drop i = b.drop i)) := by
  intro d
  induction d with
  | zero =>
    intro i k hd hi hk
    obtain ⟨k, rfl⟩ : ∃ m, k = m + 1 := ⟨k - 1, by omega⟩
    obtain rfl : i = a.length := by omega
    simp only [laws_eqInt64S.l0]
    rw [if_neg (by omega)]
    have : b.drop a.length = [] := by rw [hab]; simp
    simp [this]
  | succ d ih =>
    intro i k hd hi hk
    obtain ⟨k, rfl⟩ : ∃ m, k = m + 1 := ⟨k - 1, by omega⟩
    simp only [laws_eqInt64S.l0]
    have hia : i < a.length := by omega
    have hib : i < b.length := by omega
    rw [if_pos (by omega), if_pos (by omega), if_pos (by omega), rd_nat a i hia, rd_nat b i hib, w64 _ (by omega) (by omega), nat_succ]
    rw [List.drop_eq_getElem_cons hia, List.drop_eq_getElem_cons hib]
    by_cases h : a[i] = b[i]
    · rw [if_pos h, ih (i + 1) k (by omega) (by omega) (by omega)]
      exact congrArg some (decide_eq_decide.2 (by rw [List.cons.injEq]; simp only [h, true_and]))
    · rw [if_neg h]
      exact congrArg some (decide_eq_false (by rw [List.cons.injEq]; exact fun e => h e.1)).symm
theorem eqInt64S_is (a b : List Int) (hl : a.length ≤ 9223372036854775807) (k : Nat) (hk : a.length < k) : laws_eqInt64S.f k a b = some (decide (a = b)) := by
  unfold laws_eqInt64S.f
  by_cases h : a.length = b.length
  · rw [if_pos (by omega)]
    have := eqInt64S_loop a b h hl a.length 0 k (by omega) (by omega) hk
    simpa using this
  · rw [if_neg (by omega)]
    have : a ≠ b := fun e => h (by rw [e])
    simp [this]
theorem eqComplex_is (n : Int) (a : List Int) (m : Int) (b : List Int) (hl : a.length ≤ 9223372036854775807) (k : Nat) (hk : a.length < k) : laws_eqComplex.f k n a m b = some (decide (n = m ∧ a = b)) := by
  unfold laws_eqComplex.f
  by_cases h : n = m
  · rw [if_pos h, eqInt64S_is a b hl k hk]
    by_cases h2 : a = b <;> simp [h, h2]
  · rw [if_neg h]
    simp [h]

/-- The marks from a on. -/
def marks (a : Int) (m : Nat) : List Int := (List.range m).map fun (i : Nat) => a + (i : Int)
theorem marks_length (a : Int) (m : Nat) : (marks a m).length = m := by simp [marks]
theorem marks_get (a : Int) (m i : Nat) (h : i < m) : (marks a m)[i]'(by rw [marks_length]; exact h) = a + i := by simp [marks]

theorem mark_loop (l : List Int) (a : Int) (ha : 0 ≤ a ∧ a ≤ 1000000000) (hl : l.length ≤ 100000000) : ∀ (d i k : Nat), l.length - i = d → i ≤ l.length → d < k →
    laws_markInt64S.l0 k (marks a i ++ l.drop i) (a + i) (i : Int) = some (a + l.length, marks a l.length) := by
  intro d
  induction d with
  | zero =>
    intro i k hd hi hk
    obtain ⟨k, rfl⟩ : ∃ m, k = m + 1 := ⟨k - 1, by omega⟩
    obtain rfl : i = l.length := by omega
    simp only [laws_markInt64S.l0]
    rw [if_neg (by simp [marks_length])]
    simp
  | succ d ih =>
    intro i k hd hi hk
    obtain ⟨k, rfl⟩ : ∃ m, k = m + 1 := ⟨k - 1, by omega⟩
    simp only [laws_markInt64S.l0]
    have hil : i < l.length := by omega
    rw [if_pos (by simp [marks_length]; omega), if_pos (by omega), w64 _ (by omega) (by omega), w64 _ (by omega) (by omega), nat_succ, Int.toNat_natCast]
    have e : (marks a i ++ l.drop i).set i (a + i) = marks a (i + 1) ++ l.drop (i + 1) := by
      rw [List.set_append_right _ _ (by simp [marks_length]), marks_length, Nat.sub_self, List.drop_eq_getElem_cons hil, List.set_cons_zero, show marks a (i + 1) = marks a i ++ [a + (i : Int)] by simp [marks, List.range_succ], List.append_assoc]
      rfl
    rw [e, show a + (i : Int) + 1 = a + ((i + 1 : Nat) : Int) by omega]
    exact ih (i + 1) k (by omega) (by omega) (by omega)
theorem markInt64S_is (l : List Int) (a : Int) (ha : 0 ≤ a ∧ a ≤ 1000000000) (hl : l.length ≤ 100000000) (k : Nat) (hk : l.length < k) : laws_markInt64S.f k l a = some (a + l.length, marks a l.length) := by
  unfold laws_markInt64S.f
  have := mark_loop l a ha hl l.length 0 k (by omega) (by omega) hk
  simpa [marks] using this
theorem markComplex_is (n : Int) (l : List Int) (a : Int) (ha : 0 ≤ a ∧ a ≤ 1000000000) (hl : l.length ≤ 100000000) (k : Nat) (hk : l.length < k) : laws_markComplex.f k n l a = some (a + l.length, marks a l.length) := by
  unfold laws_markComplex.f
  rw [markInt64S_is l a ha hl k hk]
  rfl

theorem held_loop (m : Nat) (a : Int) (ha : 0 ≤ a ∧ a ≤ 1000000000) (hl : m ≤ 100000000) : ∀ (d i k : Nat), m - i = d → i ≤ m → d < k →
    laws_heldInt64S.l0 k (marks a m) (a + i) (i : Int) = some (a + m) := by
  intro d
  induction d with
  | zero =>
    intro i k hd hi hk
    obtain ⟨k, rfl⟩ : ∃ m, k = m + 1 := ⟨k - 1, by omega⟩
    obtain rfl : i = m := by omega
    simp only [laws_heldInt64S.l0]
    rw [if_neg (by simp [marks_length])]
  | succ d ih =>
    intro i k hd hi hk
    obtain ⟨k, rfl⟩ : ∃ m, k = m + 1 := ⟨k - 1, by omega⟩
    simp only [laws_heldInt64S.l0]
    have him : i < m := by omega
    rw [if_pos (by simp [marks_length]; omega), if_pos (by omega), rd_nat _ i (by rw [marks_length]; exact him), marks_get a m i him, if_pos rfl, w64 _ (by omega) (by omega), w64 _ (by omega) (by omega), nat_succ,
      show a + (i : Int) + 1 = a + ((i + 1 : Nat) : Int) by omega]
    exact ih (i + 1) k (by omega) (by omega) (by omega)
theorem heldInt64S_is (m : Nat) (a : Int) (ha : 0 ≤ a ∧ a ≤ 1000000000) (hl : m ≤ 100000000) (k : Nat) (hk : m < k) : laws_heldInt64S.f k (marks a m) a = some (a + m) := by
  unfold laws_heldInt64S.f
  have := held_loop m a ha hl m 0 k (by omega) (by omega) hk
  simpa using this

end Go.Proofs.Ytniikppojffiaaa.K
end

section
/- Contracts of the library's functions that take a function value (numbers). -/
namespace Go.Proofs.Ytniikppojffiaaa.K
open Go.RowKit Go.Shelf Go.Proofs.YtniikppojffiaaaW.PrintWords Go.Proofs.YtniikppojffiaaaW.PrintLast Go.Proofs.YtniikppojffiaaaW.PrintMore
set_option linter.unusedVariables false
set_option linter.unusedSimpArgs false

/-- The first index at which p holds, or -1. -/
def idx {α : Type} (p : α → Bool) (l : List α) : Int := match l.findIdx? p with | some i => (i : Int) | none => -1

theorem idx_hit {α : Type} (p : α → Bool) (l : List α) (k : Nat) (h : k < l.length) (hp : p l[k] = true) (hn : ∀ j (hj : j < k), p (l[j]'(by omega)) = false) : idx p l = k := by
  have : l.findIdx? p = some k := by
    rw [List.findIdx?_eq_some_iff_getElem]
    exact ⟨h, hp, fun j hj => by simp [hn j hj]⟩
  simp [idx, this]
theorem idx_miss {α : Type} (p : α → Bool) (l : List α) (hn : ∀ j (hj : j < l.length), p l[j] = false) : idx p l = -1 := by
  have : l.findIdx? p = none := by
    rw [List.findIdx?_eq_none_iff]
    intro x hx
    obtain ⟨j, hj, rfl⟩ := List.mem_iff_getElem.1 hx
    exact hn j hj
  simp [idx, this]

set_option maxHeartbeats 2000000 in
theorem IndexFunc_int (p : Int → Bool) (A : Option Addr) (c : Nat) (l : List Int) (g : Nat) (first caps : Array Value) (w : World)
    (hr : Ki.C w A l.length l) (hc : l.length ≤ c) (hbig : l.length ≤ 9223372036854775807) (eg : EntersG g)
    (hp : ∀ x, x ∈ l → Answers w g (first.push (I x) ++ caps) (.bool (p x))) :
    Calls Try.prog 150 #[.slice A l.length c, .func (.func g) first caps] w fun e w' => e = .returned (I (idx p l)) ∧ Grew w w' := by
  have HR := Aside0.mk hr
  have HC := Aside0.mk hc
  have HP := Aside0.mk hp
  clear hr hc hp
  go_enter Try.func150, Try.ntmps150
  go_wp2
  go_loopg [5, 8] l.length (fun gg _ s8 wr => ∃ kk : Nat, kk ≤ l.length ∧ l.length - kk ≤ gg ∧ s8 = .int .i64 kk ∧ Aside0 (Grew w wr) ∧ Aside0 (∀ j (h : j < l.length), j < kk → p l[j] = false))
  case atStart => exact ⟨0, Nat.zero_le _, by omega, rfl, ⟨Below.refl _ w⟩, ⟨fun j _ hj => absurd hj (Nat.not_lt_zero _)⟩⟩
  case round =>
    obtain ⟨kk, hkk, hg, rfl, BW, A0⟩ := hrel
    by_cases hlt : kk < l.length
    · have hltz : (kk : Int) < (l.length : Int) := by omega
      obtain ⟨ad, e0, hx⟩ := Kd.at_int (Kd.C_below HR.out BW.out) (kk : Int) (by omega) (by omega)
      cases e0
      have hrd : rd l (kk : Int) = l[kk] := by simp [rd, hlt]
      rw [hrd, Int.toNat_natCast] at hx
      have hcall := HP.out l[kk] (by simp) wr BW.out
      clear hrd
      generalize hy : l[kk] = y at hx hcall
      have B := Aside0.mk hy
      clear hy
      cases hq : p y with
      | true =>
        rw [hq] at hcall
        go_wp2_with fail
        refine hcall.mono ?_
        rintro e w' ⟨rfl, hb'⟩
        clear hcall
        go_wp2_with fail
        go_ret
        refine ⟨?_, Grew.trans BW.out hb'⟩
        rw [idx_hit p l kk hlt (by rw [B.out]; exact hq) (fun j hj => A0.out j (by omega) hj)]
        rfl
      | false =>
        rw [hq] at hcall
        go_wp2_with fail
        refine hcall.mono ?_
        rintro e w' ⟨rfl, hb'⟩
        clear hcall
        go_wp2_with fail
        go_roundg (l.length - (kk + 1))
        case measure => omega
        case rel =>
          refine ⟨kk + 1, by omega, by omega, by go_num, ⟨Grew.trans BW.out hb'⟩, ⟨fun j h hj => ?_⟩⟩
          by_cases e : j = kk
          · subst e
            rw [B.out]; exact hq
          · exact A0.out j h (by omega)
    · have hltz : ¬ (kk : Int) < (l.length : Int) := by omega
      have e : kk = l.length := by omega
      have H := idx_miss p l (fun j hj => A0.out j hj (by omega))
      have HM := Aside0.mk H
      clear H e
      go_wp2
      go_ret
      exact ⟨by rw [HM.out]; rfl, BW.out⟩

theorem idx_nonneg {α : Type} (p : α → Bool) (l : List α) : decide (0 ≤ idx p l) = l.any p := by
  unfold idx
  cases h : l.findIdx? p with
  | none =>
    rw [List.findIdx?_eq_none_iff] at h
    have : l.any p = false := by rw [List.any_eq_false]; intro x hx; simp [h x hx]
    simp [this]
  | some i =>
    rw [List.findIdx?_eq_some_iff_getElem] at h
    obtain ⟨hi, hp, _⟩ := h
    have : l.any p = true := List.any_eq_true.2 ⟨l[i], by simp, hp⟩
    simp [this]

set_option maxHeartbeats 2000000 in
theorem ContainsFunc_int (p : Int → Bool) (A : Option Addr) (c : Nat) (l : List Int) (g : Nat) (first caps : Array Value) (w : World)
    (hr : Ki.C w A l.length l) (hc : l.length ≤ c) (hbig : l.length ≤ 9223372036854775807) (eg : EntersG g)
    (hp : ∀ x, x ∈ l → Answers w g (first.push (I x) ++ caps) (.bool (p x))) :
    Calls Try.prog 174 #[.slice A l.length c, .func (.func g) first caps] w fun e w' => e = .returned (.bool (l.any p)) ∧ Grew w w' := by
  rw [← idx_nonneg]
  have H := Aside0.mk (IndexFunc_int p A c l g first caps w hr hc hbig eg hp)
  clear hr hc hbig hp
  go_enter Try.func174, Try.ntmps174
  go_wp2_with fail
  refine H.out.mono ?_
  rintro e w' ⟨rfl, hb'⟩
  go_wp2_with fail
  go_ret
  exact ⟨by rfl, hb'⟩

end Go.Proofs.Ytniikppojffiaaa.K
end

section
/- areAll over numbers: it answers whether the function value answers true at all elements. -/
namespace Go.Proofs.Ytniikppojffiaaa.K
open Go.RowKit Go.Shelf Go.Proofs.YtniikppojffiaaaW.PrintWords Go.Proofs.YtniikppojffiaaaW.PrintLast Go.Proofs.YtniikppojffiaaaW.PrintMore
set_option linter.unusedVariables false
set_option linter.unusedSimpArgs false

set_option maxHeartbeats 1000000 in
theorem areAll1_int (b : Bool) (x : Int) (B : Nat) (g : Nat) (first caps : Array Value) (w : World)
    (hB : w.cell? ⟨B, 0, none⟩ = some (.func (.func g) first caps)) (eg : EntersG g)
    (hp : Answers w g (first.push (I x) ++ caps) (.bool b)) :
    Calls Try.prog 175 #[I x, .pointer (some ⟨B, 0, none⟩)] w fun e w' => e = .returned (.bool (!b)) ∧ Grew w w' := by
  have HP := Aside0.mk hp
  clear hp
  go_enter Try.func175, Try.ntmps175
  go_wp2_with fail
  refine (HP.out _ (Grew.refl _)).mono ?_
  rintro e w' ⟨rfl, hb'⟩
  cases b <;> go_wp2_with fail
  all_goals go_ret
  all_goals exact ⟨by rfl, hb'⟩

set_option maxHeartbeats 1000000 in
theorem areAll_int (p : Int → Bool) (A : Option Addr) (c : Nat) (l : List Int) (g : Nat) (first caps : Array Value) (w : World)
    (hr : Ki.C w A l.length l) (hc : l.length ≤ c) (hbig : l.length ≤ 9223372036854775807) (eg : EntersG g)
    (hp : ∀ x, x ∈ l → Answers w g (first.push (I x) ++ caps) (.bool (p x))) :
    Calls Try.prog 146 #[.slice A l.length c, .func (.func g) first caps] w fun e w' => e = .returned (.bool (l.all p)) ∧ Grew w w' := by
  have HR := Aside0.mk hr
  have HC := Aside0.mk hc
  have HP := Aside0.mk hp
  have hg : Grew w (w.alloc (.cells #[.func (.func g) first caps] 75)) := below_alloc (Below.refl _ _) _
  have H := Aside0.mk (ContainsFunc_int (fun x => !p x) A c l 175 #[] #[.pointer (some ⟨w.heap.size, 0, none⟩)] (w.alloc (.cells #[.func (.func g) first caps] 75))
    (Kd.C_below HR.out hg) hc hbig (enters_of Try.func175 (by kernel_rfl) rfl) (fun x hx W hW =>
      areAll1_int (p x) x w.heap.size g first caps W (blk_cell (blk_below (blk_new w _) hW) 0) eg (((HP.out x hx).later hg).later hW)))
  have hall : l.all p = !(l.any fun x => !p x) := by
    rw [List.not_any_eq_all_not]; simp
  rw [hall]
  clear hr hc hp hall
  generalize (l.any fun x => !p x) = b at H ⊢
  go_enter Try.func146, Try.ntmps146
  go_wp2_with fail
  refine H.out.mono ?_
  rintro e w' ⟨rfl, hb'⟩
  have HG := Aside0.mk (Grew.trans hg hb')
  clear hb' hg
  cases b <;> go_wp2_with fail
  all_goals go_ret
  all_goals exact ⟨by rfl, HG.out⟩

end Go.Proofs.Ytniikppojffiaaa.K
end

section
/- slices.Backward over numbers: the iterator's contract. -/
namespace Go.Proofs.Ytniikppojffiaaa.K
open Go.RowKit Go.Shelf Go.Proofs.YtniikppojffiaaaW.PrintWords Go.Proofs.YtniikppojffiaaaW.PrintLast Go.Proofs.YtniikppojffiaaaW.PrintMore
set_option linter.unusedVariables false
set_option linter.unusedSimpArgs false
attribute [local go_sem] Oper.semAt_some

/-- A number that a vertex can be. -/
abbrev Vx : Type := { v : Int // 0 ≤ v ∧ v < 64 }
/-- What comes: the last element first, with its index. -/
def bwd (zs : List Vx) : List (Nat × Vx) := (zs.zipIdx.map fun p => (p.2, p.1)).reverse
theorem bwd_length (zs : List Vx) : (bwd zs).length = zs.length := by simp [bwd]
theorem bwd_get (zs : List Vx) (m : Nat) (h : m < zs.length) : (bwd zs)[m]'(by rw [bwd_length]; exact h) = (zs.length - 1 - m, zs[zs.length - 1 - m]) := by
  simp [bwd, List.getElem_reverse]
theorem bwd_snd (zs : List Vx) : (bwd zs).map (·.2) = zs.reverse := by
  simp only [bwd, List.map_reverse, List.map_map]
  congr 1
  apply List.ext_getElem
  · simp
  · intro i h1 h2; simp

/-- What a round keeps: the blocks below n, but for B. -/
def KeptBut (B n : Nat) (X Y : World) : Prop := ∀ k, k < n → k ≠ B → Y.heap[k]? = X.heap[k]?
theorem KeptBut.refl (B n : Nat) (X : World) : KeptBut B n X X := fun _ _ _ => rfl
theorem KeptBut.t {B n : Nat} {X Y Z : World} (h : KeptBut B n X Y) (k : KeptBut B n Y Z) : KeptBut B n X Z := fun j h1 h2 => (k j h1 h2).trans (h j h1 h2)

set_option maxRecDepth 100000 in
set_option maxHeartbeats 2000000 in
theorem Backward1_in (F : Fence) (n : Nat) (hF : F.fn 187) (hro : F.round = none) (hn : 1 ≤ n) (l Bs B n₀ b cap : Nat) (zs : List Vx) (hreach : zs.length ≤ 64) (hb : b < n₀) (hbB : b ≠ B) (hs : Bs < n₀) (hsB : Bs ≠ B)
    (J Jx : List (Nat × Vx) → World → Prop)
    (hY : ∀ pre x W, J pre W → pre.length < zs.length → YieldAt F (n - 1) Try.prog l #[.int .i64 (x.1 : Int), .int .i64 x.2.val] W fun e W' =>
      (e = .returned (.bool true) ∧ J (pre ++ [x]) W' ∧ KeptBut B n₀ W W') ∨ (e = .returned (.bool false) ∧ Jx (pre ++ [x]) W'))
    (W : World) (hBs : W.cell? ⟨Bs, 0, none⟩ = some (.slice (some ⟨b, 0, none⟩) zs.length cap)) (hc : ∀ j (h : j < zs.length), W.cell? ⟨b, j, none⟩ = some (I zs[j].val)) (h0 : J [] W) :
    CallsIn F n Try.prog 187 #[.func (.yield l) #[] #[], .pointer (some ⟨Bs, 0, none⟩)] W fun e W' => (∃ v, e = .returned v) ∧
      ((∃ ys, ys = bwd zs ∧ J ys W') ∨ (∃ pre, pre <+: bwd zs ∧ Jx pre W')) := by
  refine callsIn_of_wp Try.func187 rfl hF ?_ hro
  simp only [Try.ntmps187, List.size_toArray, List.length_cons, List.length_nil, Nat.reduceAdd, Nat.reduceSub, Array.replicate_succ, Array.replicate_zero, List.push_toArray, List.append_toArray, List.nil_append, List.cons_append]
  gi_wp2
  gi_loopw [3] (fun i wr => ∃ k : Nat, k ≤ zs.length ∧ i = .int .i64 ((zs.length : Int) - 1 - k) ∧ J ((bwd zs).take k) wr ∧ KeptBut B n₀ W wr)
    (fun i _ => (intOf i + 1).toNat)
  case atStart => exact ⟨0, Nat.zero_le _, by simp, by simpa using h0, KeptBut.refl _ _ _⟩
  case round =>
    obtain ⟨k, hk, rfl, hJs, hnx⟩ := hrel
    by_cases hlt : k < zs.length
    · obtain ⟨r, hr⟩ : ∃ r : Nat, r = zs.length - 1 - k := ⟨_, rfl⟩
      have hrl : r < zs.length := by omega
      have er : ((zs.length : Int) - 1 - k) = (r : Int) := by omega
      have hcx : wr.cell? ⟨b, r, none⟩ = some (I zs[r].val) := (World.cell?_of_block (w := W) (a := ⟨b, r, none⟩) (hnx b hb hbB)).trans (hc r hrl)
      have hbx : wr.cell? ⟨Bs, 0, none⟩ = some (.slice (some ⟨b, 0, none⟩) zs.length cap) := (World.cell?_of_block (w := W) (a := ⟨Bs, 0, none⟩) (hnx Bs hs hsB)).trans hBs
      have HE := Aside0.mk er
      obtain ⟨fn, tmps, assign, body, hy, hR⟩ := hY _ (r, zs[r]) wr hJs (by simp; omega)
      dsimp only at hy
      rw [er]
      clear er
      have HR := Aside0.mk hr
      clear hr
      generalize hz : zs[r] = z at hcx hy hR
      have HZ := Aside0.mk hz
      clear hz
      clear hc hBs
      have HT := Aside0.mk (show (bwd zs).take (k + 1) = (bwd zs).take k ++ [(r, z)] by
        rw [List.take_succ_eq_append_getElem (by rw [bwd_length]; exact hlt), bwd_get zs k hlt]
        have e1 := HR.out
        have e2 := HZ.out
        subst e1
        rw [e2])
      gi_wp2
      refine hR.mono ?_
      rintro e W3 (⟨rfl, hJ3, hk3⟩ | ⟨rfl, hJx3⟩)
      · gi_wp2
        go_roundw
        case rel => exact ⟨k + 1, by omega, by have := HR.out; congr 1; omega, by rw [HT.out]; exact hJ3, hnx.t hk3⟩
        case measure => simp [intOf]
      · gi_wp2
        refine bodyPost_ret (results_none rfl _ _ _) rfl ?_
        exact ⟨⟨_, rfl⟩, .inr ⟨_, by rw [← HT.out]; exact List.take_prefix _ _, hJx3⟩⟩
    · obtain rfl : k = zs.length := by omega
      rw [List.take_of_length_le (by rw [bwd_length]; exact Nat.le_refl _)] at hJs
      gi_wp2
      go_end0
      exact ⟨⟨_, rfl⟩, .inl ⟨_, rfl, hJs⟩⟩

set_option maxRecDepth 100000 in
set_option maxHeartbeats 1000000 in
theorem Backward1_nil_in (F : Fence) (n : Nat) (hF : F.fn 187) (hro : F.round = none) (l Bs : Nat) (J : List (Nat × Vx) → World → Prop)
    (W : World) (hBs : W.cell? ⟨Bs, 0, none⟩ = some (.slice none 0 0)) (h0 : J [] W) :
    CallsIn F n Try.prog 187 #[.func (.yield l) #[] #[], .pointer (some ⟨Bs, 0, none⟩)] W fun e W' => (∃ v, e = .returned v) ∧ J [] W' := by
  refine callsIn_of_wp Try.func187 rfl hF ?_ hro
  simp only [Try.ntmps187, List.size_toArray, List.length_cons, List.length_nil, Nat.reduceAdd, Nat.reduceSub, Array.replicate_succ, Array.replicate_zero, List.push_toArray, List.append_toArray, List.nil_append, List.cons_append]
  gi_wp2
  gi_loopw [3] (fun i wr => i = .int .i64 (-1) ∧ J [] wr) (fun _ _ => 0)
  case atStart => exact ⟨rfl, h0⟩
  case round =>
    obtain ⟨rfl, hJs⟩ := hrel
    gi_wp2
    go_end0
    exact ⟨⟨_, rfl⟩, hJs⟩

set_option maxHeartbeats 1000000 in
theorem Backward_in (F : Fence) (n : Nat) (hF : F.fn 176) (hro : F.round = none) (a : Option Addr) (len cap : Nat) (w : World) :
    CallsIn F n Try.prog 176 #[.slice a len cap] w fun e w' => e = .returned (.func (.func 187) #[] #[.pointer (some ⟨w.heap.size, 0, none⟩)]) ∧ w' = w.alloc (.cells #[.slice a len cap] 22) := by
  refine callsIn_of_wp Try.func176 rfl hF ?_ hro
  simp only [Try.ntmps176, List.size_toArray, List.length_cons, List.length_nil, Nat.reduceAdd, Nat.reduceSub, Array.replicate_succ, Array.replicate_zero, List.push_toArray, List.append_toArray, List.nil_append, List.cons_append]
  gi_wp2
  go_ret
  exact ⟨rfl, rfl⟩

/-- The slice value sv holds the vertices zs, in a block below n that isn't B; or it is nil and there are none. -/
def Vs (B n : Nat) (W : World) (sv : Value) (zs : List Vx) : Prop :=
  (sv = .slice none 0 0 ∧ zs = []) ∨ ∃ b cap, sv = .slice (some ⟨b, 0, none⟩) zs.length cap ∧ b < n ∧ b ≠ B ∧ ∀ j (h : j < zs.length), W.cell? ⟨b, j, none⟩ = some (I zs[j].val)

theorem Backward_stops (F : Fence) (n : Nat) (hF : F.fn 187) (hro : F.round = none) (hn : 1 ≤ n) (Bs B n₀ : Nat) (sv : Value) (zs : List Vx) (hreach : zs.length ≤ 64) (w : World) (hBs : Bs < n₀) (hBB : Bs ≠ B) (hn₀ : n₀ ≤ w.heap.size)
    (hc : w.cell? ⟨Bs, 0, none⟩ = some sv) (hI : Vs B n₀ w sv zs) :
    SeqStopsK F n Try.prog 187 #[.pointer (some ⟨Bs, 0, none⟩)] (fun x : Nat × Vx => #[Value.int .i64 (x.1 : Int), Value.int .i64 x.2.val]) (KeptBut B n₀) (fun ys => ys = bwd zs) (fun pre => pre <+: bwd zs) zs.length w := fun l J Jx W hW _ _ hY h0 => by
  have hc' := (hW.cell (p := ⟨Bs, 0, none⟩) (by show Bs < _; omega)).trans hc
  rcases hI with ⟨rfl, rfl⟩ | ⟨b, cap, rfl, hb, hbB, hcs⟩
  · exact (Backward1_nil_in F n hF hro l Bs J W hc' h0).mono fun e W' ⟨he, hj⟩ => ⟨he, .inl ⟨_, rfl, hj⟩⟩
  · exact Backward1_in F n hF hro hn l Bs B n₀ b cap zs hreach hb hbB hBs hBB J Jx hY W hc' (fun j h => (hW.cell (p := ⟨b, j, none⟩) (by show b < _; omega)).trans (hcs j h)) h0

end Go.Proofs.Ytniikppojffiaaa.K
end

section
/- The vertices of a face: what the walk's function comes to, and its contract. -/
namespace Go.Proofs.Ytniikppojffiaaa.K
open Go.RowKit Go.Shelf Go.Proofs.Ytniikppojffiaaa.Q Go.Proofs.YtniikppojffiaaaW.PrintWords Go.Proofs.YtniikppojffiaaaW.PrintLast Go.Proofs.YtniikppojffiaaaW.PrintMore
set_option linter.unusedVariables false
set_option linter.unusedSimpArgs false

def vbit (f v : Int) : Bool := decide (Go.bits .and .i64 (shr .i64 f v) 1 = 1)
def verts (f : Int) : List Int := [0, 1, 2, 3, 4, 5].filter (vbit f)

theorem verts_step (k : Nat) (f : Int) (acc : List Int) (i : Int) (h0 : 0 ≤ i) (h6 : i < 6) (ha : acc.length < 100) :
    impl_vertices.l0 (k + 1) f acc i = impl_vertices.l0 k f (acc ++ [i].filter (vbit f)) (i + 1) := by
  have hw : wrap64 (i + 1) = i + 1 := by unfold wrap64; omega
  simp only [impl_vertices.l0]
  rw [if_pos h6, if_pos h0, hw]
  by_cases hb : Go.bits .and .i64 (shr .i64 f i) 1 = 1
  · rw [if_pos hb, if_pos (by omega)]
    simp [vbit, hb]
  · rw [if_neg hb]
    simp [vbit, hb]

theorem verts_is (f : Int) : impl_vertices.f 7 f = some (verts f) := by
  unfold impl_vertices.f
  have hl : ∀ (i : Int), ([i].filter (vbit f)).length ≤ 1 := fun i => by have := List.length_filter_le (vbit f) [i]; simpa using this
  rw [verts_step _ _ _ _ (by omega) (by omega) (by simp), verts_step _ _ _ _ (by omega) (by omega) (by have := hl 0; simp; omega),
    verts_step _ _ _ _ (by omega) (by omega) (by have := hl 0; have := hl 1; simp; omega),
    verts_step _ _ _ _ (by omega) (by omega) (by have := hl 0; have := hl 1; have := hl 2; simp; omega),
    verts_step _ _ _ _ (by omega) (by omega) (by have := hl 0; have := hl 1; have := hl 2; have := hl 3; simp; omega),
    verts_step _ _ _ _ (by omega) (by omega) (by have := hl 0; have := hl 1; have := hl 2; have := hl 3; have := hl 4; simp; omega)]
  simp only [impl_vertices.l0]
  rw [if_neg (by omega)]
  congr 1
  unfold verts
  rw [show ([0, 1, 2, 3, 4, 5] : List Int) = [0] ++ [1] ++ [2] ++ [3] ++ [4] ++ [5] from rfl]
  simp only [List.filter_append, List.nil_append]
  rfl

theorem verts_range (f v : Int) (h : v ∈ verts f) : 0 ≤ v ∧ v < 6 := by
  unfold verts at h
  have := (List.mem_filter.1 h).1
  simp at this
  omega

theorem vertices_calls (f : Int) (w : World) :
    Calls Try.prog 177 #[I f] w fun e w' => ∃ v, e = .returned v ∧ Ki.R 2 w' w.heap.size (fun _ => True) v (verts f) ∧ Grew w w' :=
  impl_vertices.calls 7 f (verts f) w (verts_is f)

end Go.Proofs.Ytniikppojffiaaa.K
end

section
/- borders: the sets with one vertex less than a face, ascending, without the empty one. -/
namespace Go.Proofs.Ytniikppojffiaaa.K
open Go.RowKit Go.Shelf Go.Proofs.YtniikppojffiaaaW.PrintWords Go.Proofs.YtniikppojffiaaaW.PrintLast Go.Proofs.YtniikppojffiaaaW.PrintMore
set_option linter.unusedVariables false
set_option linter.unusedSimpArgs false
attribute [local go_sem] Oper.semAt_some

/-- f without the vertex v. -/
def without (f v : Int) : Int := Go.bits .andNot .i64 f (IntKind.i64.wrap (2 ^ v.toNat))
def bordsOf (f : Int) (vs : List Int) : List Int := (vs.map (without f)).filter (· ≠ 0)
def bords (f : Int) : List Int := bordsOf f (verts f).reverse

theorem info2 : (Try.prog.info? 2).map (fun i => (i.zero, i.size, i.bytes)) = some (some (.int .i64 0), 1, 8) := by kernel_rfl

theorem bordsOf_snoc (f : Int) (vs : List Int) (v : Int) : bordsOf f (vs ++ [v]) = bordsOf f vs ++ if without f v = 0 then [] else [without f v] := by
  unfold bordsOf
  by_cases h : without f v = 0 <;> simp [List.filter_cons, h]
theorem bordsOf_length (f : Int) (vs : List Int) : (bordsOf f vs).length ≤ vs.length := by
  unfold bordsOf
  have := List.length_filter_le (fun x : Int => decide (x ≠ 0)) (vs.map (without f))
  simpa using this

theorem boxed_own' {β : Type} (B : Nat) (t : TypeId) (f : β → Value) : Own (fun s W => Boxed W B t (f s)) := fun s X Y row hs hg hrow =>
  hs.kept hg (fun e' => by
    obtain ⟨o, ho, hc⟩ := hrow B e'.symm
    rw [show X.heap[B]? = _ from hs] at ho
    cases ho
    cases hc)
theorem own_size {β : Type} (n B : Nat) : OwnFrom B (fun (_ : β) W => n ≤ W.heap.size) := fun _ _ _ _ hs hg _ => Nat.le_trans hs hg.size
def vxs (f : Int) : List Vx := (verts f).attach.map fun x => ⟨x.1, by have := verts_range f x.1 x.2; omega⟩
theorem vxs_val (f : Int) : (vxs f).map (·.val) = verts f := by simp [vxs]
theorem verts_length (f : Int) : (verts f).length ≤ 6 := by
  unfold verts
  have := List.length_filter_le (vbit f) [0, 1, 2, 3, 4, 5]
  simpa using this
theorem vxs_length (f : Int) : (vxs f).length ≤ 6 := by
  have := congrArg List.length (vxs_val f)
  have h := verts_length f
  simp at this; omega

theorem R_Vs {W : World} {base B n : Nat} {ok : Nat → Prop} {v : Value} {zs : List Vx} (h : Ki.R 2 W base ok v (zs.map (·.val))) (hB : B < base) (hn : W.heap.size ≤ n) : Vs B n W v zs := by
  have ho := Kd.own_of_R h
  rcases ho.2 with ⟨rfl, h0⟩ | ⟨g, cap, cur, rfl, hg, hh, r⟩
  · left
    simp at h0
    exact ⟨rfl, h0⟩
  · right
    refine ⟨g, cap, by simp, ?_, by omega, fun j hj => ?_⟩
    · have := (Array.getElem?_eq_some_iff.1 hh).1; omega
    · have := (Kd.R_cell (0 : Int) h (j : Int) (by omega) (by simpa using hj)).1
      simpa [rdOf, hj] using this

set_option maxRecDepth 100000 in
set_option maxHeartbeats 2000000 in
theorem borders_in (f : Int) (w : World) :
    CallsIn Fence.wide 3 Try.prog 148 #[I f] w fun e w' => ∃ v, e = .returned v ∧ Ki.R 2 w' w.heap.size (fun _ => True) v (bords f) ∧ Grew w w' := by
  obtain ⟨i0, hi, hz0, hz1, hz2⟩ := info_parts info2
  refine callsIn_of_wp_marks Try.func148 rfl trivial ?_ rfl
  simp only [Try.ntmps148, List.size_toArray, List.length_cons, List.length_nil, Nat.reduceAdd, Nat.reduceSub, Array.replicate_succ, Array.replicate_zero, List.push_toArray, List.append_toArray, List.nil_append, List.cons_append]
  gi_wp2
  refine ⟨trivial, ?_⟩
  refine (callsIn_wide.2 (vertices_calls f _)).mono ?_
  rintro e w1 ⟨v, rfl, hR, hG⟩
  have hz : w.heap.size + 2 ≤ w1.heap.size := by have := hG.size; simpa using this
  have hB1 : Grew w w1 := (below_alloc (below_alloc (Grew.refl w) _) _).trans (hG.mono (by simp; omega))
  obtain ⟨A, c, hv⟩ := Kd.R_slice hR
  subst hv
  have bF : Boxed w1 w.heap.size 2 (I f) := blk_below (blk_alloc (blk_new w _) _) hG
  have bO : Boxed w1 (w.heap.size + 1) 22 (.slice none 0 0) := by
    have := blk_new (w.alloc (.cells #[I f] 2)) (.cells #[.slice none 0 0] 22)
    rw [World.size_alloc] at this
    exact blk_below this hG
  have hVs : Vs (w.heap.size + 1) (w1.heap.size + 1) w1 (.slice A (verts f).length c) (vxs f) := R_Vs (base := w.heap.size + 2) (by rw [vxs_val]; simpa using hR) (by omega) (by omega)
  have HVs := Aside0.mk hVs
  have HB1 := Aside0.mk hB1
  have HBF := Aside0.mk bF
  have HBO := Aside0.mk bO
  clear hVs hB1 bF bO hR hG
  gi_wp2
  refine ⟨trivial, ?_⟩
  refine (Backward_in Fence.wide _ trivial rfl _ _ _ _).mono ?_
  rintro e w2 ⟨rfl, rfl⟩
  gi_wp2
  have hBo : Boxed (w1.alloc (.cells #[.slice A (verts f).length c] 22)) (w.heap.size + 1) 22 (.slice none 0 0) := HBO.out.alloc _
  refine wpIn_rangeFunc_ownG rfl (by omega) (gf := 187) (lb := #[.pointer (some ⟨w1.heap.size, 0, none⟩)]) rfl trivial (enters_of Try.func187 (by kernel_rfl) rfl)
    (Backward_stops Fence.wide _ trivial rfl (by omega) w1.heap.size (w.heap.size + 1) (w1.heap.size + 1) (.slice A (verts f).length c) (vxs f) (by have := vxs_length f; omega) _ (by omega) (by omega) (by simp) (Boxed.new w1 22 _).cell
      (by
        rcases HVs.out with h | ⟨b, cap, h1, h2, h3, h4⟩
        · exact .inl h
        · exact .inr ⟨b, cap, h1, h2, h3, fun j hj => by
            have h5 := h4 j hj
            have hlt : b < w1.heap.size := by
              unfold World.cell? at h5
              split at h5
              · rename_i he; exact (Array.getElem?_eq_some_iff.1 he).1
              · cases h5
            exact ((below_alloc (Grew.refl w1) _).cell (p := ⟨b, j, none⟩) hlt).trans h5⟩))
    (fun h k => KeptBut.t h k)
    (fun W l o o' hl ho _ _ k hk _ => by
      have := (grownBy_putObj' W l o').block k (by have := (Array.getElem?_eq_some_iff.1 ho).1; simp at hl; omega) (by intro e; cases e; simp at hl; omega)
      exact this)
    (Grew.refl _) (fun _ => rfl)
    (fun pre W => ((∃ v, Boxed W (w.heap.size + 1) 22 v ∧ W.ownsRow (w1.heap.size + 1) 2 1 v (bordsOf f (pre.map (·.2.val))).length ((bordsOf f (pre.map (·.2.val))).map (Value.int .i64)) ∧ True) ∧ Boxed W w.heap.size 2 (I f)) ∧ w1.heap.size + 1 ≤ W.heap.size ∧ Below w.heap.size w W)
    (fun _ _ _ => False)
    (OwnFrom.and (OwnFrom.and (Own.from (holdsRow_own (w1.heap.size + 1) (w.heap.size + 1) 22 2 1 (fun pre : List (Nat × Vx) => (bordsOf f (pre.map (·.2.val))).length) (fun pre => (bordsOf f (pre.map (·.2.val))).map (Value.int .i64)) (fun _ _ => True)) _) (Own.from (boxed_own' _ _ (fun _ => I f)) _)) (OwnFrom.and (own_size (w1.heap.size + 1) _) (ownFrom_below (Nat.le_refl _) (by simp; omega))))
    (fun _ _ _ _ _ hs _ _ => hs)
    ⟨⟨⟨_, hBo, World.ownsRow_nil _ _ _ _, trivial⟩, HBF.out.alloc _⟩, by simp, HB1.out.trans ((below_alloc (Grew.refl w1) _).mono (by omega))⟩
    (fun x => { tmps := #[I f, .pointer (some ⟨w.heap.size, 0, none⟩), .slice none 0 0, .pointer (some ⟨w.heap.size + 1, 0, none⟩), undef, I x.2.val, undef, I f, .slice A (verts f).length c, .func (.func 187) #[] #[.pointer (some ⟨w1.heap.size, 0, none⟩)], I x.1, I x.2.val, undef, undef, undef, undef, undef, undef, undef, undef, undef, undef, undef], defers := [] }) ?assign ?body ?done ?stop
  case assign =>
    intro l x W K hK
    gi_wp2
    exact hK
  case body =>
    rintro l pre x W ⟨⟨⟨v, hv, hrow, -⟩, hF⟩, hsz, hB⟩ hlt
    have hc := hv.cell
    have hcf := hF.cell
    have hx := x.2.property
    have hsn := bordsOf_snoc f (pre.map (·.2.val)) x.2.val
    have hln := bordsOf_length f (pre.map (·.2.val))
    have hvl := vxs_length f
    rw [List.length_map] at hln
    generalize hb : bordsOf f (pre.map (·.2.val)) = bs at hrow hsn hln
    have HSN := Aside0.mk hsn
    have HX := Aside0.mk hb
    clear hsn hb
    gi_wp2
    gi_region
    all_goals
      generalize hy : bits BinOp.andNot IntKind.i64 f (IntKind.i64.wrap (2 ^ x.snd.val.toNat)) = y
      have HY := Aside0.mk (show without f x.2.val = y from hy)
      clear hy
      obtain ⟨W2, hW2⟩ : ∃ W2, W2 = W.drew := ⟨_, rfl⟩
      have hv2 : Boxed W2 (w.heap.size + 1) 22 v := by rw [hW2]; exact hv
      have hF2 : Boxed W2 w.heap.size 2 (I f) := by rw [hW2]; exact hF
      have hrow2 : W2.ownsRow (w1.heap.size + 1) 2 1 v bs.length (bs.map (Value.int .i64)) := by rw [hW2]; exact hrow
      have hB2 : Below w.heap.size w W2 := by rw [hW2]; exact hB.drew
      have hs2 : w1.heap.size + 1 ≤ W2.heap.size := by rw [hW2]; exact hsz
      have hKO : KeepsFrom (w1.heap.size + 1) W W2 := by rw [hW2]; exact ⟨Nat.le_refl _, fun k o _ hk _ => hk⟩
      have hKB : KeptBut (w.heap.size + 1) (w1.heap.size + 1) W W2 := by rw [hW2]; exact fun _ _ _ => rfl
      have hc2 := hv2.cell
      rw [← hW2]
      clear hW2 hc hcf hv hF hrow hB
      have hm1 : bs.length + 1 ≤ maxLen := by unfold maxLen; omega
      have hm2 : (bs.length + 1) * 8 ≤ 140737488355328 := by omega
      by_cases h0 : y = 0
      · subst h0
        gi_wp2
        have HN : bordsOf f ((pre ++ [x]).map (·.2.val)) = bs := by
          have := HSN.out
          rw [HY.out] at this
          simpa using this
        refine ⟨by simpa using hKO, hKB, ⟨⟨v, hv2, ?_, trivial⟩, hF2⟩, hs2, hB2⟩
        rw [HN]
        exact hrow2
      · gi_wp2_with (gi_at_builtin; refine wpListIn_append_own _ rfl _ _ 22 rfl (w1.heap.size + 1) 2 i0 (.int .i64 0) 1 8 Try.underlying22 hi hz0 hz1 hz2 rfl (by decide) _ _ _ rfl (hrow2.alloc _) ⟨W2.heap.size, 0, none⟩ 1 1 [.int .i64 y] rfl rfl (cell_one_new _ _ _) (by simp [Value.oneCell']) hm1 hm2 (by simp; omega) ?_; intro v' w3 hown' hgrow _; obtain ⟨g', cap', rfl⟩ := ownsRow_succ hown'; obtain ⟨hv1, hv3, hr3, hk3, hb3⟩ := hv2.appended (n₀ := w.heap.size) (by decide) (own_weaken hrow2 (by omega)) hB2.size (by omega) (own_weaken hown' (by omega)) hgrow; have hc1 := hv1.cell; have hf1 := hv1.frozen)
        have HN : bordsOf f ((pre ++ [x]).map (·.2.val)) = bs ++ [y] := by
          have := HSN.out
          rw [HY.out, if_neg h0] at this
          simpa using this
        have hro : ∀ k, v.ownBlock = some k → w1.heap.size + 1 ≤ k := fun k hk => own_base hrow2 k hk
        refine ⟨by simpa using hKO.trans (hk3.from _), hKB.t (fun k h1 h2 => ?_), ⟨⟨_, hv3, ?_, trivial⟩, ?_⟩, Nat.le_trans hs2 hb3.size, hB2.trans hb3⟩
        · rw [Below.heap_setCell _ _ _ _ (by show k ≠ w.heap.size + 1; exact h2)]
          rw [hgrow.block k (by simp; omega) (fun e => by have := hro k e.symm; omega)]
          exact Below.heap_alloc _ _ _ (by omega)
        · rw [HN]
          have := hown'.kept (grownBy_setCell' w3 (w.heap.size + 1) (.slice (some ⟨g', 0, none⟩) (bs.length + 1) cap')) (.inr (hv1.not_row (by decide) hown').symm)
          simpa using this
        · show (w3.setCell _ _).heap[w.heap.size]? = _
          rw [Below.heap_setCell _ _ _ _ (by show w.heap.size ≠ w.heap.size + 1; omega)]
          rw [hgrow.block w.heap.size (by simp; omega) (fun e => by have := hro _ e.symm; omega)]
          exact (Below.heap_alloc _ _ _ (by omega)).trans hF2
  case done =>
    rintro D ys W hD rfl ⟨⟨⟨v, hv, hrow, -⟩, hF⟩, hsz, hB⟩ hK
    have hc := hv.cell
    have HV : (bwd (vxs f)).map (·.2.val) = (verts f).reverse := by
      have := congrArg (List.map Subtype.val) (bwd_snd (vxs f))
      rw [List.map_map, List.map_reverse, vxs_val] at this
      exact this
    have HVA := Aside0.mk HV
    clear HV
    gi_wp2
    refine ⟨by simp, .inl ⟨_, _, rfl, run_takeDeferred hK, ?_⟩⟩
    refine ⟨_, results_tmp rfl _ _ _, v, rfl, ?_, hB.trans (belowK_b (w := w) (Nat.le_refl _) W D _ _ (by simp at hD; omega) hK rfl rfl)⟩
    rw [HVA.out] at hrow
    exact Kd.R_lower (Kd.R_of_own (ownsRow_putObj hrow _ hK rfl) (fun _ _ => trivial)) (by omega)
  case stop =>
    rintro D c pre W _ _ h _
    exact h.elim

theorem borders_calls (f : Int) (w : World) :
    Calls Try.prog 148 #[I f] w fun e w' => ∃ v, e = .returned v ∧ Ki.R 2 w' w.heap.size (fun _ => True) v (bords f) ∧ Grew w w' :=
  callsIn_wide.1 (borders_in f w)

end Go.Proofs.Ytniikppojffiaaa.K
end

section
/- Written by a program of this session (myprint.py over the kit's print). -/
namespace Go.Proofs.Ytniikppojffiaaa.Q
open Go.RowKit Go.Proofs.YtniikppojffiaaaW.PrintWords Go.Proofs.YtniikppojffiaaaW.PrintLast Go.Proofs.YtniikppojffiaaaW.PrintMore
attribute [local go_sem] max2_int min2_int max_two min_two max_three min_three max_four min_four   -- for this text's walks alone
set_option linter.unusedVariables false
set_option linter.unusedSimpArgs false

/-! ### cmp_isNaN_int64: function 179 -/
def cmp_isNaN_int64.f (a0 : Int) : Option (Bool) := some (a0 != a0)
set_option maxHeartbeats 8000000 in
set_option maxRecDepth 100000 in
theorem cmp_isNaN_int64.calls (a0 : Int) (r : Bool) (w : World) (h : cmp_isNaN_int64.f a0 = some r) :
  Calls Try.prog 179 #[.int .i64 a0] w fun e w' => e = .returned (.bool r) ∧ Drawn0 w w' := by
 have H : (some (a0 != a0)) = some r := h
 clear h
 obtain rfl := Option.some.inj H
 go_enter Try.func179, Try.ntmps179
 go_wp2
 go_ret
 exact ⟨by first | rfl | (simp; done) | (simp [*]; done), by repeat (first | exact Drawn0.refl _ | apply Drawn0.step)⟩

/-! ### cmp_Less_int64: function 153 -/
def cmp_Less_int64.f (a0 : Int) (a1 : Int) : Option (Bool) := (cmp_isNaN_int64.f a0).bind fun t598 => (if t598 = true then ((cmp_isNaN_int64.f a1).bind fun t599 => (if t599 = true then (some (decide (a0 < a1))) else (some true))) else (some (decide (a0 < a1))))
set_option maxHeartbeats 8000000 in
set_option maxRecDepth 100000 in
theorem cmp_Less_int64.calls (a0 : Int) (a1 : Int) (r : Bool) (w : World) (h : cmp_Less_int64.f a0 a1 = some r) :
  Calls Try.prog 153 #[.int .i64 a0, .int .i64 a1] w fun e w' => e = .returned (.bool r) ∧ Drawn0 w w' := by
 have H : ((cmp_isNaN_int64.f a0).bind fun t598 => (if t598 = true then ((cmp_isNaN_int64.f a1).bind fun t599 => (if t599 = true then (some (decide (a0 < a1))) else (some true))) else (some (decide (a0 < a1))))) = some r := h
 clear h
 replace H := Option.bind_eq_some_iff.mp H
 obtain ⟨t598, A30, H⟩ := H
 replace H : (if t598 = true then ((cmp_isNaN_int64.f a1).bind fun t599 => (if t599 = true then (some (decide (a0 < a1))) else (some true))) else (some (decide (a0 < a1)))) = some r := H
 have A3 := Aside0.mk A30
 clear A30
 by_cases c4 : t598 = true
 ·subst c4
  have H1 : ((cmp_isNaN_int64.f a1).bind fun t599 => (if t599 = true then (some (decide (a0 < a1))) else (some true))) = some r := by rw [if_pos rfl] at H; exact H
  clear H
  have H := H1
  clear H1
  replace H := Option.bind_eq_some_iff.mp H
  obtain ⟨t599, A50, H⟩ := H
  replace H : (if t599 = true then (some (decide (a0 < a1))) else (some true)) = some r := H
  have A5 := Aside0.mk A50
  clear A50
  by_cases c6 : t599 = true
  ·subst c6
   have H1 : (some (decide (a0 < a1))) = some r := by rw [if_pos rfl] at H; exact H
   clear H
   have H := H1
   clear H1
   obtain rfl := Option.some.inj H
   go_enter Try.func153, Try.ntmps153
   go_wp2_with (first | ((with_reducible refine gate_callee (f := 179) rfl ?_); refine goesL_ (some 6) rfl rfl Try.func179 (by kernel_rfl) rfl #[.int .i64 a0] rfl (by (try simp only [List.map_toArray, List.map_cons, List.map_nil]); first | done | rfl | (simp only [List.length_drop, List.length_take]; rfl)) ?_; (with_reducible refine (cmp_isNaN_int64.calls a0 true _ A3.out).mono ?_); rintro e w' ⟨rfl, ⟨nd, rfl⟩⟩; refine ⟨_, rfl, ?_⟩) | (go_at_call 179; (with_reducible refine (cmp_isNaN_int64.calls a1 true _ A5.out).mono ?_); rintro e w' ⟨rfl, ⟨nd, rfl⟩⟩))
   go_ret
   exact ⟨by first | rfl | (simp; done) | (simp [*]; done), by repeat (first | exact Drawn0.refl _ | apply Drawn0.step)⟩
  ·replace c6 := Bool.eq_false_iff.mpr c6
   subst c6
   have H1 : (some true) = some r := by rw [if_neg (show ¬ (false = true) by decide)] at H; exact H
   clear H
   have H := H1
   clear H1
   obtain rfl := Option.some.inj H
   go_enter Try.func153, Try.ntmps153
   go_wp2_with (first | ((with_reducible refine gate_callee (f := 179) rfl ?_); refine goesL_ (some 6) rfl rfl Try.func179 (by kernel_rfl) rfl #[.int .i64 a0] rfl (by (try simp only [List.map_toArray, List.map_cons, List.map_nil]); first | done | rfl | (simp only [List.length_drop, List.length_take]; rfl)) ?_; (with_reducible refine (cmp_isNaN_int64.calls a0 true _ A3.out).mono ?_); rintro e w' ⟨rfl, ⟨nd, rfl⟩⟩; refine ⟨_, rfl, ?_⟩) | (go_at_call 179; (with_reducible refine (cmp_isNaN_int64.calls a1 false _ A5.out).mono ?_); rintro e w' ⟨rfl, ⟨nd, rfl⟩⟩))
   go_ret
   exact ⟨by first | rfl | (simp; done) | (simp [*]; done), by repeat (first | exact Drawn0.refl _ | apply Drawn0.step)⟩
 ·replace c4 := Bool.eq_false_iff.mpr c4
  subst c4
  have H1 : (some (decide (a0 < a1))) = some r := by rw [if_neg (show ¬ (false = true) by decide)] at H; exact H
  clear H
  have H := H1
  clear H1
  obtain rfl := Option.some.inj H
  go_enter Try.func153, Try.ntmps153
  go_wp2_with (first | ((with_reducible refine gate_callee (f := 179) rfl ?_); refine goesL_ (some 6) rfl rfl Try.func179 (by kernel_rfl) rfl #[.int .i64 a0] rfl (by (try simp only [List.map_toArray, List.map_cons, List.map_nil]); first | done | rfl | (simp only [List.length_drop, List.length_take]; rfl)) ?_; (with_reducible refine (cmp_isNaN_int64.calls a0 false _ A3.out).mono ?_); rintro e w' ⟨rfl, ⟨nd, rfl⟩⟩; refine ⟨_, rfl, ?_⟩))
  go_ret
  exact ⟨by first | rfl | (simp; done) | (simp [*]; done), by repeat (first | exact Drawn0.refl _ | apply Drawn0.step)⟩

/-! ### slices_isNaN_int64: function 154 -/
def slices_isNaN_int64.f (a0 : Int) : Option (Bool) := some (a0 != a0)
set_option maxHeartbeats 8000000 in
set_option maxRecDepth 100000 in
theorem slices_isNaN_int64.calls (a0 : Int) (r : Bool) (w : World) (h : slices_isNaN_int64.f a0 = some r) :
  Calls Try.prog 154 #[.int .i64 a0] w fun e w' => e = .returned (.bool r) ∧ Drawn0 w w' := by
 have H : (some (a0 != a0)) = some r := h
 clear h
 obtain rfl := Option.some.inj H
 go_enter Try.func154, Try.ntmps154
 go_wp2
 go_ret
 exact ⟨by first | rfl | (simp; done) | (simp [*]; done), by repeat (first | exact Drawn0.refl _ | apply Drawn0.step)⟩

/-! ### slices_BinarySearch_int64_int64: function 124 -/
def slices_BinarySearch_int64_int64.l0 : Nat → List Int → Int → Int → Int → Int → Option (Int × Bool)
 | 0, _, _, _, _, _ => none
 | k + 1, x0, x1, x6, x7, x8 => if x7 < x8 then (if 0 ≤ (wrap64 ((IntKind.u64.wrap (wrap64 (x7 + x8))) / 2)) then (if (wrap64 ((IntKind.u64.wrap (wrap64 (x7 + x8))) / 2)) < (x0.length : Int) then ((cmp_Less_int64.f (rd x0 (wrap64 ((IntKind.u64.wrap (wrap64 (x7 + x8))) / 2))) x1).bind fun t601 => (if t601 = true then (slices_BinarySearch_int64_int64.l0 k x0 x1 x6 (wrap64 ((wrap64 ((IntKind.u64.wrap (wrap64 (x7 + x8))) / 2)) + 1)) x8) else (slices_BinarySearch_int64_int64.l0 k x0 x1 x6 x7 (wrap64 ((IntKind.u64.wrap (wrap64 (x7 + x8))) / 2))))) else (none)) else (none)) else (if x7 < x6 then (if 0 ≤ x7 then (if x7 < (x0.length : Int) then (if (rd x0 x7) = x1 then (some (x7, true)) else ((slices_isNaN_int64.f (rd x0 x7)).bind fun t604 => (if t604 = true then ((slices_isNaN_int64.f x1).bind fun t605 => (some (x7, t605))) else (some (x7, false))))) else (none)) else (none)) else (some (x7, false)))
def slices_BinarySearch_int64_int64.f (k : Nat) (l0 : List Int) (a1 : Int) : Option (Int × Bool) := slices_BinarySearch_int64_int64.l0 k l0 a1 (l0.length : Int) 0 (l0.length : Int)
theorem slices_BinarySearch_int64_int64.mono_l : ∀ k, (∀ y0 y1 y2 y3 y4, LeO (slices_BinarySearch_int64_int64.l0 k y0 y1 y2 y3 y4) (slices_BinarySearch_int64_int64.l0 (k + 1) y0 y1 y2 y3 y4))
 | 0 => fun _ _ _ _ _ r h => by simp [slices_BinarySearch_int64_int64.l0] at h
 | k + 1 => by
  have ih0 := slices_BinarySearch_int64_int64.mono_l k
  ·intro y0 y1 y2 y3 y4
   unfold slices_BinarySearch_int64_int64.l0
   repeat' first
   | (with_reducible exact ih0 _ _ _ _ _)
   | (with_reducible exact LeO.refl _)
   | (with_reducible exact LeO.none _)
   | (with_reducible refine LeO.ite ?_ ?_)
   | (with_reducible refine LeO.bind ?_ (fun _ => ?_))
   | exact ih0 _ _ _ _ _
   | exact LeO.none _
   | refine LeO.ite ?_ ?_
   | refine LeO.bind ?_ (fun _ => ?_)
theorem slices_BinarySearch_int64_int64.mono : ∀ a0 a1 k, LeO (slices_BinarySearch_int64_int64.f k a0 a1) (slices_BinarySearch_int64_int64.f (k + 1) a0 a1) := by
 intro a0 a1 k
 have ih0 := slices_BinarySearch_int64_int64.mono_l k
 unfold slices_BinarySearch_int64_int64.f
 repeat' first
   | (with_reducible exact ih0 _ _ _ _ _)
   | (with_reducible exact LeO.refl _)
   | (with_reducible exact LeO.none _)
   | (with_reducible refine LeO.ite ?_ ?_)
   | (with_reducible refine LeO.bind ?_ (fun _ => ?_))
   | exact ih0 _ _ _ _ _
   | exact LeO.none _
   | refine LeO.ite ?_ ?_
   | refine LeO.bind ?_ (fun _ => ?_)
set_option maxHeartbeats 8000000 in
set_option maxRecDepth 100000 in
theorem slices_BinarySearch_int64_int64.calls (k : Nat) (A0 : Option Addr) (c0 : Nat) (l0 : List Int) (a1 : Int) (r1 : Int) (r2 : Bool) (w : World) (hr0 : Kd.C (Kd.int .i64) w A0 l0.length l0) (hc0 : l0.length ≤ c0) (h : slices_BinarySearch_int64_int64.f k l0 a1 = some (r1, r2)) :
  Calls Try.prog 124 #[.slice A0 l0.length c0, .int .i64 a1] w fun e w' => e = .returned (.tuple #[.int .i64 r1, .bool r2]) ∧ Drawn0 w w' := by
 have HR0 := Aside0.mk hr0
 have HC0 := Aside0.mk hc0
 clear hr0 hc0
 have H : (slices_BinarySearch_int64_int64.l0 k l0 a1 (l0.length : Int) 0 (l0.length : Int)) = some (r1, r2) := h
 clear h
 have H' := Aside0.mk H
 clear H
 go_enter Try.func124, Try.ntmps124
 go_wp2
 go_loopg [7, 8] k (fun kq v7 v8 w' => ∃ (x7_1 : Int) (x8_1 : Int), v7 = .int .i64 x7_1 ∧ v8 = .int .i64 x8_1 ∧ Aside0 (slices_BinarySearch_int64_int64.l0 kq l0 a1 (l0.length : Int) x7_1 x8_1 = some (r1, r2)) ∧ Aside0 (kq ≤ k) ∧ Drawn0 w w')
 case atStart => exact ⟨(0), ((l0.length : Int)), (by first | rfl | (simp; done) | (simp [*]; done)), (by first | rfl | (simp; done) | (simp [*]; done)), H', ⟨Nat.le_refl _⟩, by repeat (first | exact Drawn0.refl _ | apply Drawn0.step)⟩
 case round =>
  clear H'
  try clear c1
  try clear p2
  obtain ⟨x7_1, x8_1, rfl, rfl, HA, HK1, ⟨m1, rfl⟩⟩ := hrel
  cases gk with
  | zero => exact absurd HA.out (by simp [slices_BinarySearch_int64_int64.l0])
  | succ k1 =>
   have H := HA.out
   clear HA
   simp only [slices_BinarySearch_int64_int64.l0] at H
   by_cases c3 : x7_1 < x8_1
   ·rw [if_pos c3] at H
    have c3b0 : decide (x7_1 < x8_1) = true := decide_eq_true c3
    clear c3
    obtain ⟨ji4, hji4⟩ : ∃ j_ : Int, (wrap64 ((IntKind.u64.wrap (wrap64 (x7_1 + x8_1))) / 2)) = j_ := ⟨_, rfl⟩
    replace H : (if 0 ≤ (ji4) then (if (ji4) < (l0.length : Int) then ((cmp_Less_int64.f (rd l0 (ji4)) a1).bind fun t601 => (if t601 = true then (slices_BinarySearch_int64_int64.l0 k1 l0 a1 (l0.length : Int) (wrap64 ((ji4) + 1)) x8_1) else (slices_BinarySearch_int64_int64.l0 k1 l0 a1 (l0.length : Int) x7_1 ji4))) else (none)) else (none)) = some (r1, r2) := by first | (rw [hji4] at H; exact H) | (simp only [hji4] at H ⊢; exact H)
    have hji4w : (IntKind.i64.wrap ((IntKind.u64.wrap (wrap64 (x7_1 + x8_1))) / 2)) = ji4 := (i64_w _).trans hji4
    by_cases c5 : 0 ≤ (ji4)
    ·rw [if_pos c5] at H
     have c5b0 : decide (0 ≤ (ji4)) = true := decide_eq_true c5
     clear c5
     by_cases c6 : (ji4) < (l0.length : Int)
     ·rw [if_pos c6] at H
      have c6b0 : decide ((ji4) < (l0.length : Int)) = true := decide_eq_true c6
      clear c6
      replace H := Option.bind_eq_some_iff.mp H
      obtain ⟨t601, A70, H⟩ := H
      replace H : (if t601 = true then (slices_BinarySearch_int64_int64.l0 k1 l0 a1 (l0.length : Int) (wrap64 ((ji4) + 1)) x8_1) else (slices_BinarySearch_int64_int64.l0 k1 l0 a1 (l0.length : Int) x7_1 ji4)) = some (r1, r2) := H
      have A7 := Aside0.mk A70
      clear A70
      by_cases c8 : t601 = true
      ·subst c8
       have H1 : (slices_BinarySearch_int64_int64.l0 k1 l0 a1 (l0.length : Int) (wrap64 ((ji4) + 1)) x8_1) = some (r1, r2) := by rw [if_pos rfl] at H; exact H
       clear H
       have H := H1
       clear H1
       have H' := Aside0.mk H
       clear H
       have p600 : 0 ≤ ((ji4) : Int) := of_decide_eq_true (by first | (with_reducible assumption) | assumption)
       have q600 : (ji4) < (l0.length : Int) := of_decide_eq_true (by first | (with_reducible assumption) | assumption)
       obtain ⟨ad600, e600, hx600_0⟩ := Kd.at_int HR0.out (ji4) p600 q600
       cases e600
       replace p600 := eq_true p600
       replace q600 := eq_true q600
       go_wp2_with (first | ((with_reducible refine gate_callee (f := 153) rfl ?_); refine goesL_ (some 27) rfl rfl Try.func153 (by kernel_rfl) rfl #[.int .i64 (rd l0 (ji4)), .int .i64 a1] rfl (by (try simp only [List.map_toArray, List.map_cons, List.map_nil]); first | done | (simp only [hji4]; rfl) | rfl | (simp only [List.length_drop, List.length_take]; rfl)) ?_; (with_reducible refine (cmp_Less_int64.calls (rd l0 (ji4)) a1 true _ A7.out).mono ?_); rintro e w' ⟨rfl, ⟨nd, rfl⟩⟩; refine ⟨_, rfl, ?_⟩))
       go_roundg k1
       case measure => have := HK1.out; omega
       case rel => exact ⟨(wrap64 ((ji4) + 1)), (x8_1), (by first | rfl | (simp; done) | (simp only [← hji4] <;> (first | rfl | simp)) | (simp [*]; done)), (by first | rfl | (simp; done) | (simp [*]; done)), H', ⟨by have := HK1.out; omega⟩, by repeat (first | exact Drawn0.refl _ | apply Drawn0.step)⟩
      ·replace c8 := Bool.eq_false_iff.mpr c8
       subst c8
       have H1 : (slices_BinarySearch_int64_int64.l0 k1 l0 a1 (l0.length : Int) x7_1 ji4) = some (r1, r2) := by rw [if_neg (show ¬ (false = true) by decide)] at H; exact H
       clear H
       have H := H1
       clear H1
       have H' := Aside0.mk H
       clear H
       have p600 : 0 ≤ ((ji4) : Int) := of_decide_eq_true (by first | (with_reducible assumption) | assumption)
       have q600 : (ji4) < (l0.length : Int) := of_decide_eq_true (by first | (with_reducible assumption) | assumption)
       obtain ⟨ad600, e600, hx600_0⟩ := Kd.at_int HR0.out (ji4) p600 q600
       cases e600
       replace p600 := eq_true p600
       replace q600 := eq_true q600
       go_wp2_with (first | ((with_reducible refine gate_callee (f := 153) rfl ?_); refine goesL_ (some 27) rfl rfl Try.func153 (by kernel_rfl) rfl #[.int .i64 (rd l0 (ji4)), .int .i64 a1] rfl (by (try simp only [List.map_toArray, List.map_cons, List.map_nil]); first | done | (simp only [hji4]; rfl) | rfl | (simp only [List.length_drop, List.length_take]; rfl)) ?_; (with_reducible refine (cmp_Less_int64.calls (rd l0 (ji4)) a1 false _ A7.out).mono ?_); rintro e w' ⟨rfl, ⟨nd, rfl⟩⟩; refine ⟨_, rfl, ?_⟩))
       go_roundg k1
       case measure => have := HK1.out; omega
       case rel => exact ⟨(x7_1), (ji4), (by first | rfl | (simp; done) | (simp [*]; done)), (by first | rfl | (simp; done) | (simp only [← hji4] <;> (first | rfl | simp)) | (simp [*]; done)), H', ⟨by have := HK1.out; omega⟩, by repeat (first | exact Drawn0.refl _ | apply Drawn0.step)⟩
     ·rw [if_neg c6] at H
      exact absurd H (by simp)
    ·rw [if_neg c5] at H
     exact absurd H (by simp)
   ·rw [if_neg c3] at H
    have c3b0 : decide (x7_1 < x8_1) = false := decide_eq_false c3
    clear c3
    by_cases c9 : x7_1 < (l0.length : Int)
    ·rw [if_pos c9] at H
     have c9b0 : decide (x7_1 < (l0.length : Int)) = true := decide_eq_true c9
     clear c9
     by_cases c10 : 0 ≤ x7_1
     ·rw [if_pos c10] at H
      have c10b0 : decide (0 ≤ x7_1) = true := decide_eq_true c10
      clear c10
      by_cases c11 : x7_1 < (l0.length : Int)
      ·rw [if_pos c11] at H
       have c11b0 : decide (x7_1 < (l0.length : Int)) = true := decide_eq_true c11
       clear c11
       by_cases c12 : (rd l0 x7_1) = a1
       ·rw [if_pos c12] at H
        have c12b0 : ((rd l0 x7_1) == a1) = true := beq_iff_eq.mpr c12
        have c12b1 : ((rd l0 x7_1) != a1) = false := bne_eq_false_iff_eq.mpr c12
        clear c12
        simp only [Option.some.injEq, Prod.mk.injEq] at H
        obtain ⟨rfl, rfl⟩ := H
        have p602 : 0 ≤ (x7_1 : Int) := of_decide_eq_true (by first | (with_reducible assumption) | assumption)
        have q602 : x7_1 < (l0.length : Int) := of_decide_eq_true (by first | (with_reducible assumption) | assumption)
        obtain ⟨ad602, e602, hx602_0⟩ := Kd.at_int HR0.out x7_1 p602 q602
        cases e602
        replace p602 := eq_true p602
        replace q602 := eq_true q602
        go_wp2
        go_ret2
        exact ⟨by first | rfl | (simp; done) | (simp [*]; done), by repeat (first | exact Drawn0.refl _ | apply Drawn0.step)⟩
       ·rw [if_neg c12] at H
        have c12b0 : ((rd l0 x7_1) == a1) = false := beq_eq_false_iff_ne.mpr c12
        have c12b1 : ((rd l0 x7_1) != a1) = true := bne_iff_ne.mpr c12
        replace H := Option.bind_eq_some_iff.mp H
        obtain ⟨t604, A130, H⟩ := H
        replace H : (if t604 = true then ((slices_isNaN_int64.f a1).bind fun t605 => (some (x7_1, t605))) else (some (x7_1, false))) = some (r1, r2) := H
        have A13 := Aside0.mk A130
        clear A130
        by_cases c14 : t604 = true
        ·subst c14
         have H1 : ((slices_isNaN_int64.f a1).bind fun t605 => (some (x7_1, t605))) = some (r1, r2) := by rw [if_pos rfl] at H; exact H
         clear H
         have H := H1
         clear H1
         replace H := Option.bind_eq_some_iff.mp H
         obtain ⟨t605, A150, H⟩ := H
         replace H : (some (x7_1, t605)) = some (r1, r2) := H
         have A15 := Aside0.mk A150
         clear A150
         simp only [Option.some.injEq, Prod.mk.injEq] at H
         obtain ⟨rfl, rfl⟩ := H
         have p602 : 0 ≤ (x7_1 : Int) := of_decide_eq_true (by first | (with_reducible assumption) | assumption)
         have q602 : x7_1 < (l0.length : Int) := of_decide_eq_true (by first | (with_reducible assumption) | assumption)
         obtain ⟨ad602, e602, hx602_0⟩ := Kd.at_int HR0.out x7_1 p602 q602
         cases e602
         replace p602 := eq_true p602
         replace q602 := eq_true q602
         have p603 : 0 ≤ (x7_1 : Int) := of_decide_eq_true (by first | (with_reducible assumption) | assumption)
         have q603 : x7_1 < (l0.length : Int) := of_decide_eq_true (by first | (with_reducible assumption) | assumption)
         obtain ⟨ad603, e603, hx603_0⟩ := Kd.at_int HR0.out x7_1 p603 q603
         obtain rfl : ad602 = ad603 := (by injection e603)
         replace p603 := eq_true p603
         replace q603 := eq_true q603
         go_wp2_with (first | (go_at_call 154; (with_reducible refine (slices_isNaN_int64.calls (rd l0 x7_1) true _ A13.out).mono ?_); rintro e w' ⟨rfl, ⟨nd, rfl⟩⟩) | (go_at_call 154; (with_reducible refine (slices_isNaN_int64.calls a1 t605 _ A15.out).mono ?_); rintro e w' ⟨rfl, ⟨nd, rfl⟩⟩))
         go_ret2
         exact ⟨by first | rfl | (simp; done) | (simp [*]; done), by repeat (first | exact Drawn0.refl _ | apply Drawn0.step)⟩
        ·replace c14 := Bool.eq_false_iff.mpr c14
         subst c14
         have H1 : (some (x7_1, false)) = some (r1, r2) := by rw [if_neg (show ¬ (false = true) by decide)] at H; exact H
         clear H
         have H := H1
         clear H1
         simp only [Option.some.injEq, Prod.mk.injEq] at H
         obtain ⟨rfl, rfl⟩ := H
         have p602 : 0 ≤ (x7_1 : Int) := of_decide_eq_true (by first | (with_reducible assumption) | assumption)
         have q602 : x7_1 < (l0.length : Int) := of_decide_eq_true (by first | (with_reducible assumption) | assumption)
         obtain ⟨ad602, e602, hx602_0⟩ := Kd.at_int HR0.out x7_1 p602 q602
         cases e602
         replace p602 := eq_true p602
         replace q602 := eq_true q602
         have p603 : 0 ≤ (x7_1 : Int) := of_decide_eq_true (by first | (with_reducible assumption) | assumption)
         have q603 : x7_1 < (l0.length : Int) := of_decide_eq_true (by first | (with_reducible assumption) | assumption)
         obtain ⟨ad603, e603, hx603_0⟩ := Kd.at_int HR0.out x7_1 p603 q603
         obtain rfl : ad602 = ad603 := (by injection e603)
         replace p603 := eq_true p603
         replace q603 := eq_true q603
         go_wp2_with (first | (go_at_call 154; (with_reducible refine (slices_isNaN_int64.calls (rd l0 x7_1) false _ A13.out).mono ?_); rintro e w' ⟨rfl, ⟨nd, rfl⟩⟩))
         go_ret2
         exact ⟨by first | rfl | (simp; done) | (simp [*]; done), by repeat (first | exact Drawn0.refl _ | apply Drawn0.step)⟩
      ·rw [if_neg c11] at H
       exact absurd H (by simp)
     ·rw [if_neg c10] at H
      exact absurd H (by simp)
    ·rw [if_neg c9] at H
     have c9b0 : decide (x7_1 < (l0.length : Int)) = false := decide_eq_false c9
     clear c9
     simp only [Option.some.injEq, Prod.mk.injEq] at H
     obtain ⟨rfl, rfl⟩ := H
     go_wp2
     go_ret2
     exact ⟨by first | rfl | (simp; done) | (simp [*]; done), by repeat (first | exact Drawn0.refl _ | apply Drawn0.step)⟩

/-! ### impl_Complex_has: function 76 -/
def impl_Complex_has.f (k : Nat) (a0_0 : Int) (l0_1 : List Int) (a1 : Int) : Option (Bool) := (slices_BinarySearch_int64_int64.f k l0_1 a1).bind fun bt607 => (some bt607.2)
theorem impl_Complex_has.mono : ∀ a0 a1 a2 k, LeO (impl_Complex_has.f k a0 a1 a2) (impl_Complex_has.f (k + 1) a0 a1 a2) := by
 intro a0 a1 a2 k
 unfold impl_Complex_has.f
 repeat' first
   | (with_reducible exact slices_BinarySearch_int64_int64.mono _ _ _)
   | (with_reducible exact LeO.refl _)
   | (with_reducible exact LeO.none _)
   | (with_reducible refine LeO.ite ?_ ?_)
   | (with_reducible refine LeO.bind ?_ (fun _ => ?_))
   | exact slices_BinarySearch_int64_int64.mono _ _ _
   | exact LeO.none _
   | refine LeO.ite ?_ ?_
   | refine LeO.bind ?_ (fun _ => ?_)
set_option maxHeartbeats 8000000 in
set_option maxRecDepth 100000 in
theorem impl_Complex_has.calls (k : Nat) (a0_0 : Int) (A0_1 : Option Addr) (c0_1 : Nat) (l0_1 : List Int) (a1 : Int) (r : Bool) (w : World) (hr0_1 : Kd.C (Kd.int .i64) w A0_1 l0_1.length l0_1) (hc0_1 : l0_1.length ≤ c0_1) (h : impl_Complex_has.f k a0_0 l0_1 a1 = some r) :
  Calls Try.prog 76 #[.agg #[.int .i64 a0_0, .slice A0_1 l0_1.length c0_1], .int .i64 a1] w fun e w' => e = .returned (.bool r) ∧ Below w.heap.size w w' := by
 have hu30 := Try.underlying30
 have HR0_1 := Aside0.mk hr0_1
 have HC0_1 := Aside0.mk hc0_1
 clear hr0_1 hc0_1
 have HB := Aside0.mk (Below.refl w.heap.size w)
 have H : ((slices_BinarySearch_int64_int64.f k l0_1 a1).bind fun bt607 => (some bt607.2)) = some r := h
 clear h
 replace H := Option.bind_eq_some_iff.mp H
 obtain ⟨⟨t607, t608⟩, A30, H⟩ := H
 replace H : (some t608) = some r := H
 have A3 := Aside0.mk A30
 clear A30
 obtain rfl := Option.some.inj H
 go_enter Try.func76, Try.ntmps76
 go_wp2_with (first | ((with_reducible refine gate_dst (N := 2) rfl ?_); refine box_event ?hg (N := 2) ?hd (cs := #[.int .i64 a0_0, .slice A0_1 l0_1.length c0_1]) (t := 30) ?hr ?_; (case hd => rfl); (case hg => rfl); (case hr => first | (go_simp; done) | (go_simp; rfl)); intro gb606 hg w4 hbox hb; have n0_ := Aside0.mk (below_step (by repeat (first | (with_reducible first | exact HB.out | apply below_alloc | apply pw_below_drewN | apply below_drew1) | exact HB.out)) hb); have n1_ := Aside0.mk (hbox); have n2_ := Aside0.mk ((by rw [hg]; exact (below_size (by repeat (first | (with_reducible first | exact HB.out | apply below_alloc | apply pw_below_drewN | apply below_drew1) | exact HB.out))) : w.heap.size ≤ gb606)); have n3_ := Aside0.mk ((by rw [hg]; exact (below_size (by repeat (first | (with_reducible first | exact HB.out | apply below_alloc | apply pw_below_drewN | apply below_drew1) | exact HB.out))) : w.heap.size ≤ gb606)); clear HB; have HB := n0_; have BK606 := n1_; have GW606 := n2_; have GE606 := n3_; clear n0_ n1_ n2_ n3_; clear hb hbox hg; have hcz5_0 : w4.cell? ⟨gb606, 0, none⟩ = some (.int .i64 a0_0) := (blk_cell BK606.out 0).trans rfl; have hcz5_1 : w4.cell? ⟨gb606, 1, none⟩ = some (.slice A0_1 l0_1.length c0_1) := (blk_cell BK606.out 1).trans rfl; have hfz5_0 := blk_frozen BK606.out 0; have hfz5_1 := blk_frozen BK606.out 1) | ((with_reducible refine gate_callee (f := 124) rfl ?_); refine goesL_ (some 11) rfl rfl Try.func124 (by kernel_rfl) rfl #[.slice A0_1 l0_1.length c0_1, .int .i64 a1] rfl (by (try simp only [List.map_toArray, List.map_cons, List.map_nil]); first | done | rfl | (simp only [List.length_drop, List.length_take]; rfl)) ?_; (with_reducible refine (slices_BinarySearch_int64_int64.calls k _ _ l0_1 a1 t607 t608 _ ?side1 ?side2 A3.out).mono ?_); (case side1 => repeat (first | exact (Kd.C_below HR0_1.out HB.out) | (with_reducible refine Kd.C_alloc ?_ _) | (with_reducible refine Kd.C_drewN ?_ _) | (with_reducible refine Kd.C_drew ?_))); (case side2 => exact HC0_1.out); rintro e w' ⟨rfl, ⟨nd, rfl⟩⟩; refine ⟨_, rfl, ?_⟩))
 go_ret
 exact ⟨by first | rfl | (simp [errW_none, errW_some] <;> rfl) | (simp [*, errW_none, errW_some] <;> rfl), by repeat (first | (with_reducible first | exact HB.out | apply below_alloc | apply pw_below_drewN | apply below_drew1 | refine below_set ?_ GE606.out) | exact HB.out)⟩

end Go.Proofs.Ytniikppojffiaaa.Q
end

section
/- slices.BinarySearch over numbers, and has: on a strictly ascending list it tells membership. -/
namespace Go.Proofs.Ytniikppojffiaaa.K
open Go.RowKit Go.Shelf Go.Proofs.Ytniikppojffiaaa.Q Go.Proofs.YtniikppojffiaaaW.PrintWords Go.Proofs.YtniikppojffiaaaW.PrintLast Go.Proofs.YtniikppojffiaaaW.PrintMore
set_option linter.unusedVariables false
set_option linter.unusedSimpArgs false

/-- Strictly ascending. -/
abbrev Asc (l : List Int) : Prop := l.Pairwise (· < ·)
/-- How many are less than t. -/
def below (l : List Int) (t : Int) : Nat := l.countP (· < t)

theorem mid_eq (i j : Nat) (h : j ≤ 2305843009213693952) (hij : i ≤ j) : wrap64 ((IntKind.u64.wrap (wrap64 ((i : Int) + (j : Int)))) / 2) = (((i + j) / 2 : Nat) : Int) := by
  have h1 : wrap64 ((i : Int) + (j : Int)) = (i : Int) + j := by unfold wrap64; omega
  have h2 : IntKind.u64.wrap ((i : Int) + (j : Int)) = (i : Int) + j := by
    simp [IntKind.wrap, IntKind.signed, IntKind.bits]; omega
  rw [h1, h2]
  unfold wrap64
  omega

theorem rd_get (l : List Int) (i : Nat) (h : i < l.length) : rd l (i : Int) = l[i] := by simp [rd, h]

theorem less_is (a b : Int) : cmp_Less_int64.f a b = some (decide (a < b)) := by
  simp [cmp_Less_int64.f, cmp_isNaN_int64.f]

theorem bs_loop (l : List Int) (t : Int) (hl : l.length ≤ 2305843009213693952) : ∀ (d k i j : Nat), j - i ≤ d → d < k → i ≤ j → j ≤ l.length →
    ∃ (m : Nat) (ok : Bool), slices_BinarySearch_int64_int64.l0 k l t (l.length : Int) (i : Int) (j : Int) = some ((m : Int), ok) ∧ i ≤ m ∧ m ≤ j ∧
      (Asc l → (∀ q (h : q < l.length), q < i → l[q] < t) → (∀ q (h : q < l.length), j ≤ q → t ≤ l[q]) →
        ((∀ q (h : q < l.length), q < m → l[q] < t) ∧ (∀ q (h : q < l.length), m ≤ q → t ≤ l[q]) ∧ ok = decide (t ∈ l))) := by
  intro d
  induction d with
  | zero =>
    intro k i j hd hk hij hj
    obtain ⟨k, rfl⟩ : ∃ m, k = m + 1 := ⟨k - 1, by omega⟩
    obtain rfl : i = j := by omega
    simp only [slices_BinarySearch_int64_int64.l0]
    rw [if_neg (by omega)]
    by_cases hi : i < l.length
    · rw [if_pos (by omega), if_pos (by omega), if_pos (by omega), rd_get l i hi]
      by_cases he : l[i] = t
      · rw [if_pos he]
        refine ⟨i, true, rfl, Nat.le_refl _, Nat.le_refl _, fun hs h1 h2 => ⟨h1, h2, ?_⟩⟩
        have : t ∈ l := he ▸ List.getElem_mem hi
        simp [this]
      · rw [if_neg he]
        refine ⟨i, false, by simp [slices_isNaN_int64.f], Nat.le_refl _, Nat.le_refl _, fun hs h1 h2 => ⟨h1, h2, ?_⟩⟩
        have : t ∉ l := by
          intro hm
          obtain ⟨q, hq, rfl⟩ := List.mem_iff_getElem.1 hm
          rcases Nat.lt_trichotomy q i with h | h | h
          · have := h1 q hq h; omega
          · subst h; exact he rfl
          · have := h2 i hi (Nat.le_refl _)
            have := List.pairwise_iff_getElem.1 hs i q hi hq h
            omega
        simp [this]
    · rw [if_neg (by omega)]
      refine ⟨i, false, rfl, Nat.le_refl _, Nat.le_refl _, fun hs h1 h2 => ⟨h1, h2, ?_⟩⟩
      have : t ∉ l := by
        intro hm
        obtain ⟨q, hq, rfl⟩ := List.mem_iff_getElem.1 hm
        have := h1 q hq (by omega); omega
      simp [this]
  | succ d ih =>
    intro k i j hd hk hij hj
    by_cases hlt : i < j
    · obtain ⟨k, rfl⟩ : ∃ m, k = m + 1 := ⟨k - 1, by omega⟩
      have hm1 : (i + j) / 2 < l.length := by omega
      simp only [slices_BinarySearch_int64_int64.l0]
      rw [if_pos (by omega), mid_eq i j (by omega) hij, if_pos (by omega), if_pos (by omega), rd_get l _ hm1, less_is]
      simp only [Option.bind_some]
      by_cases hc : l[(i + j) / 2] < t
      · have hw : wrap64 ((((i + j) / 2 : Nat) : Int) + 1) = (((i + j) / 2 + 1 : Nat) : Int) := by unfold wrap64; omega
        simp only [hc, decide_true, if_true, hw]
        obtain ⟨m, ok, h1, h2, h3, h4⟩ := ih k ((i + j) / 2 + 1) j (by omega) (by omega) (by omega) hj
        refine ⟨m, ok, h1, by omega, h3, fun hs g1 g2 => h4 hs (fun q hq hqi => ?_) g2⟩
        rcases Nat.lt_or_ge q ((i + j) / 2) with h | h
        · have := List.pairwise_iff_getElem.1 hs q _ hq hm1 h; omega
        · obtain rfl : q = (i + j) / 2 := by omega
          exact hc
      · simp only [hc, decide_false, Bool.false_eq_true, if_false]
        obtain ⟨m, ok, h1, h2, h3, h4⟩ := ih k i ((i + j) / 2) (by omega) (by omega) (by omega) (by omega)
        refine ⟨m, ok, h1, h2, by omega, fun hs g1 g2 => h4 hs g1 (fun q hq hqi => ?_)⟩
        rcases Nat.lt_or_ge ((i + j) / 2) q with h | h
        · have := List.pairwise_iff_getElem.1 hs _ q hm1 hq h; omega
        · obtain rfl : q = (i + j) / 2 := by omega
          omega
    · obtain ⟨m, ok, h1, h2⟩ := ih k i j (by omega) (by omega) hij hj
      exact ⟨m, ok, h1, h2⟩

/-- What the search comes to. -/
def bsOf (l : List Int) (t : Int) : Int × Bool := (slices_BinarySearch_int64_int64.f (l.length + 1) l t).getD (0, false)
theorem bs_is (l : List Int) (t : Int) (hl : l.length ≤ 2305843009213693952) : slices_BinarySearch_int64_int64.f (l.length + 1) l t = some (bsOf l t) := by
  obtain ⟨m, ok, h, _⟩ := bs_loop l t hl l.length (l.length + 1) 0 l.length (by omega) (by omega) (by omega) (Nat.le_refl _)
  unfold bsOf slices_BinarySearch_int64_int64.f
  rw [show ((0 : Nat) : Int) = 0 from rfl] at h
  rw [h]; rfl
theorem bs_asc (l : List Int) (t : Int) (hl : l.length ≤ 2305843009213693952) (hs : Asc l) : ∃ m : Nat, (bsOf l t).1 = m ∧ m ≤ l.length ∧ (∀ q (h : q < l.length), q < m → l[q] < t) ∧ (∀ q (h : q < l.length), m ≤ q → t ≤ l[q]) ∧ (bsOf l t).2 = decide (t ∈ l) := by
  obtain ⟨m, ok, h, _, h3, h4⟩ := bs_loop l t hl l.length (l.length + 1) 0 l.length (by omega) (by omega) (by omega) (Nat.le_refl _)
  have := bs_is l t hl
  unfold slices_BinarySearch_int64_int64.f at this
  rw [show ((0 : Nat) : Int) = 0 from rfl] at h
  rw [h] at this
  injection this with this
  obtain ⟨g1, g2, g3⟩ := h4 hs (fun q _ h => by omega) (fun q hq h => by omega)
  rw [← this]
  exact ⟨m, rfl, h3, g1, g2, g3⟩

/-- What has answers. -/
def hasB (l : List Int) (f : Int) : Bool := (bsOf l f).2
theorem has_asc (l : List Int) (f : Int) (hl : l.length ≤ 2305843009213693952) (hs : Asc l) : hasB l f = decide (f ∈ l) := by
  obtain ⟨_, _, _, _, _, h⟩ := bs_asc l f hl hs
  exact h
theorem has_calls (n : Int) (A : Option Addr) (c : Nat) (l : List Int) (f : Int) (w : World) (hr : Ki.C w A l.length l) (hc : l.length ≤ c) (hl : l.length ≤ 2305843009213693952) :
    Calls Try.prog 76 #[.agg #[I n, .slice A l.length c], I f] w fun e w' => e = .returned (.bool (hasB l f)) ∧ Grew w w' :=
  impl_Complex_has.calls (l.length + 1) n A c l f (hasB l f) w hr hc (by unfold impl_Complex_has.f; rw [bs_is l f hl]; rfl)

end Go.Proofs.Ytniikppojffiaaa.K
end

section
/- Contracts of small functions of numbers, out of the printed ones. -/
namespace Go.Proofs.Ytniikppojffiaaa.K
open Go.RowKit Go.Shelf Go.Proofs.Ytniikppojffiaaa.Q Go.Proofs.YtniikppojffiaaaW.PrintWords Go.Proofs.YtniikppojffiaaaW.PrintLast Go.Proofs.YtniikppojffiaaaW.PrintMore
set_option linter.unusedVariables false
set_option linter.unusedSimpArgs false

theorem within_is (a b c : Int) : impl_within.f a b c = some (decide (b ≤ a ∧ a ≤ c)) := by
  unfold impl_within.f
  by_cases h : b ≤ a <;> simp [h]
theorem within_calls (a b c : Int) (r : Bool) (h : decide (b ≤ a ∧ a ≤ c) = r) (w : World) :
    Calls Try.prog 144 #[I a, I b, I c] w fun e w' => e = .returned (.bool r) ∧ Grew w w' :=
  (impl_within.calls a b c r w (by rw [within_is, h])).mono fun e w' ⟨he, hd⟩ => ⟨he, hd.below⟩
theorem isSize_calls (n : Int) (r : Bool) (h : decide (1 ≤ n ∧ n ≤ 6) = r) (w : World) :
    Calls Try.prog 143 #[I n] w fun e w' => e = .returned (.bool r) ∧ Grew w w' :=
  (impl_isSize.calls n r w (by unfold impl_isSize.f; rw [within_is, h]; rfl)).mono fun e w' ⟨he, hd⟩ => ⟨he, hd.below⟩

/-- The set of all vertices. -/
def fullOf (n : Int) : Int := 2 ^ n.toNat - 1
theorem two_pow (m k : Nat) (h : m ≤ k) : (1 : Int) ≤ 2 ^ m ∧ (2 : Int) ^ m ≤ 2 ^ k := by
  have h1 : (2 : Nat) ^ m ≤ 2 ^ k := Nat.pow_le_pow_right (by omega) h
  have h2 : (1 : Nat) ≤ 2 ^ m := Nat.one_le_two_pow
  have e1 : (2 : Int) ^ m = ((2 ^ m : Nat) : Int) := by simp
  have e2 : (2 : Int) ^ k = ((2 ^ k : Nat) : Int) := by simp
  rw [e1, e2]
  omega
theorem full_range (n : Int) (h : 1 ≤ n ∧ n ≤ 6) : 1 ≤ fullOf n ∧ fullOf n ≤ 63 := by
  unfold fullOf
  have h1 := two_pow n.toNat 6 (by omega)
  have h2 := two_pow 1 n.toNat (by omega)
  omega
theorem shl_one (n : Int) (h0 : 0 ≤ n) (h6 : n ≤ 62) : shl .i64 1 n = 2 ^ n.toNat := by
  have h := two_pow n.toNat 62 (by omega)
  unfold shl
  rw [Nat.min_eq_left (by show n.toNat ≤ 64; omega), Int.one_mul]
  show IntKind.wrap .i64 _ = _
  rw [IntKind.wrap_i64]
  omega
theorem full_is (n : Int) (l : List Int) (h0 : 0 ≤ n) (h6 : n ≤ 62) : impl_Complex_full.f n l = some (fullOf n) := by
  unfold impl_Complex_full.f fullOf
  rw [if_pos h0, shl_one n h0 h6]
  congr 1
  have h := two_pow n.toNat 62 (by omega)
  unfold wrap64
  omega
theorem full_calls (n : Int) (A : Option Addr) (c : Nat) (l : List Int) (w : World) (h0 : 0 ≤ n) (h6 : n ≤ 62) (hr : Ki.C w A l.length l) (hc : l.length ≤ c) :
    Calls Try.prog 145 #[.agg #[I n, .slice A l.length c]] w fun e w' => e = .returned (I (fullOf n)) ∧ Grew w w' :=
  impl_Complex_full.calls n A c l (fullOf n) w hr hc (full_is n l h0 h6)

end Go.Proofs.Ytniikppojffiaaa.K
end

section
/- IsComplex. -/
namespace Go.Proofs.Ytniikppojffiaaa.K
open Go.RowKit Go.Shelf Go.Proofs.YtniikppojffiaaaW.PrintWords Go.Proofs.YtniikppojffiaaaW.PrintLast Go.Proofs.YtniikppojffiaaaW.PrintMore
set_option linter.unusedVariables false
set_option linter.unusedSimpArgs false

/-- All borders of f are in l (as has tells it). -/
def closedAt (l : List Int) (f : Int) : Bool := (bords f).all (hasB l)

theorem bords_length (f : Int) : (bords f).length ≤ 6 := by
  have h1 := bordsOf_length f (verts f).reverse
  have h2 := verts_length f
  unfold bords
  simp at h1; omega

theorem has_answers (n : Int) (A : Option Addr) (c : Nat) (l : List Int) (w : World) (hr : Ki.C w A l.length l) (hc : l.length ≤ c) (hl : l.length ≤ 2305843009213693952) (x : Int) :
    Answers w 76 (#[.agg #[I n, .slice A l.length c]].push (I x) ++ #[]) (.bool (hasB l x)) :=
  fun W hW => has_calls n A c l x W (Kd.C_below hr hW) hc hl

set_option maxHeartbeats 2000000 in
theorem IsComplex1_calls (n f : Int) (B : Nat) (A : Option Addr) (c : Nat) (l : List Int) (w : World) (hb : w.heap[B]? = some (.cells #[I n, .slice A l.length c] 30 (0, 0)))
    (hr : Ki.C w A l.length l) (hc : l.length ≤ c) (hl : l.length ≤ 2305843009213693952) :
    Calls Try.prog 147 #[I f, .pointer (some ⟨B, 0, none⟩)] w fun e w' => e = .returned (.bool (closedAt l f)) ∧ Grew w w' := by
  have hlt : B < w.heap.size := (Array.getElem?_eq_some_iff.1 hb).1
  have h0 : w.cell? ⟨B, 0, none⟩ = some (I n) := blk_cell hb 0
  have h1 : w.cell? ⟨B, 1, none⟩ = some (.slice A l.length c) := blk_cell hb 1
  have HR := Aside0.mk hr
  have HC := Aside0.mk hc
  clear hr hc hb
  go_enter Try.func147, Try.ntmps147
  go_wp2_with fail
  go_region_held3 (fun w' => w'.cell? ⟨B, 0, none⟩ = some (I n) ∧ w'.cell? ⟨B, 1, none⟩ = some (.slice A l.length c))
    (first | exact ⟨(HG2.out.cell (p := ⟨B, 0, none⟩) hlt).trans h0, (HG2.out.cell (p := ⟨B, 1, none⟩) hlt).trans h1⟩ | exact ⟨(HG.out.cell (p := ⟨B, 0, none⟩) hlt).trans h0, (HG.out.cell (p := ⟨B, 1, none⟩) hlt).trans h1⟩ | go_keep)
    (first
      | (go_at_call 148; refine (borders_calls f _).mono ?_; rintro e w1 ⟨v, rfl, hR, hG⟩; obtain ⟨A1, c1, hv, hle, hCr⟩ := Kd.R_reads hR; subst hv; have HG : Aside0 (Grew w w1) := ⟨Below.trans ((Below.refl _ w).drew) hG⟩; have HL := Aside0.mk hle; have HCR := Aside0.mk hCr; clear hR hle hCr)
      | (go_at_call 146; refine (areAll_int (hasB l) A1 c1 (bords f) _ _ _ _ HCR.out HL.out (by have := bords_length f; omega) (enters_of Try.func76 (by kernel_rfl) rfl) (fun x _ => has_answers n A c l _ (Kd.C_below HR.out HG.out) HC.out hl x)).mono ?_; rintro e w2 ⟨rfl, hG2⟩; have HG2 : Aside0 (Grew w w2) := ⟨Grew.trans HG.out hG2⟩; clear hG2))
  all_goals (go_wp2_with fail; go_ret; exact ⟨rfl, HG2.out⟩)

/-- The face at place j is in range, and behind the one before it. -/
def goodAt (n : Int) (l : List Int) (j : Nat) : Prop := ∀ (h : j < l.length), 1 ≤ l[j] ∧ l[j] ≤ fullOf n ∧ (∀ (h0 : 0 < j), l[j - 1]'(by omega) < l[j])
instance (n : Int) (l : List Int) (j : Nat) : Decidable (goodAt n l j) := by unfold goodAt; infer_instance
def rangeAsc (n : Int) (l : List Int) : Bool := decide (∀ j, j < l.length → goodAt n l j)
/-- What IsComplex answers. -/
def isC (n : Int) (l : List Int) : Bool := decide (1 ≤ n ∧ n ≤ 6) && (rangeAsc n l && l.all (closedAt l))

theorem rangeAsc_false (n : Int) (l : List Int) (j : Nat) (h : j < l.length) (hb : ¬ goodAt n l j) : rangeAsc n l = false := by
  unfold rangeAsc
  exact decide_eq_false fun hall => hb (hall j h)

set_option maxRecDepth 100000 in
set_option maxHeartbeats 4000000 in
theorem IsComplex_calls (n : Int) (A : Option Addr) (c : Nat) (l : List Int) (w : World) (hr : Ki.C w A l.length l) (hc : l.length ≤ c) (hl : l.length ≤ 1152921504606846976) :
    Calls Try.prog 109 #[.agg #[I n, .slice A l.length c]] w fun e w' => e = .returned (.bool (isC n l)) ∧ Grew w w' := by
  have HR := Aside0.mk hr
  have HC := Aside0.mk hc
  clear hr hc
  by_cases hn : 1 ≤ n ∧ n ≤ 6
  · have hF := full_range n hn
    have HI := Aside0.mk (show isC n l = (rangeAsc n l && l.all (closedAt l)) by simp [isC, hn])
    go_enter Try.func109, Try.ntmps109
    go_wp2_with fail
    refine (isSize_calls n true (by simp [hn]) _).mono ?_
    rintro e w1 ⟨rfl, hG1⟩
    have HB1 : Aside0 (w1.heap[w.heap.size]? = some (.cells #[I n, .slice A l.length c] 30 (0, 0))) := ⟨blk_below (blk_new w _) hG1⟩
    have HG1 : Aside0 (Grew w w1) := ⟨Grew.trans (below_alloc (Grew.refl w) _) hG1⟩
    clear hG1
    have h0 : w1.cell? ⟨w.heap.size, 0, none⟩ = some (I n) := blk_cell HB1.out 0
    have h1 : w1.cell? ⟨w.heap.size, 1, none⟩ = some (.slice A l.length c) := blk_cell HB1.out 1
    go_wp2_with fail
    clear h0 h1
    go_loopg [12] l.length (fun gg s12 wr => ∃ kk : Nat, kk ≤ l.length ∧ l.length - kk ≤ gg ∧ s12 = .int .i64 kk ∧ Aside0 (Grew w1 wr) ∧ Aside0 (∀ j, j < kk → goodAt n l j))
    case atStart => exact ⟨0, Nat.zero_le _, by omega, rfl, ⟨Below.refl _ _⟩, ⟨fun j hj => absurd hj (Nat.not_lt_zero _)⟩⟩
    case round =>
      obtain ⟨kk, hkk, hg, rfl, BW, A0⟩ := hrel
      have HBr : Aside0 (wr.heap[w.heap.size]? = some (.cells #[I n, .slice A l.length c] 30 (0, 0))) := ⟨blk_below HB1.out BW.out⟩
      have HGr : Aside0 (Grew w wr) := ⟨Grew.trans HG1.out BW.out⟩
      have h0 : wr.cell? ⟨w.heap.size, 0, none⟩ = some (I n) := blk_cell HBr.out 0
      have h1 : wr.cell? ⟨w.heap.size, 1, none⟩ = some (.slice A l.length c) := blk_cell HBr.out 1
      by_cases hlt : kk < l.length
      · have hltz : (kk : Int) < (l.length : Int) := by omega
        obtain ⟨ad, e0, hx⟩ := Kd.at_int (Kd.C_below HR.out HGr.out) (kk : Int) (by omega) (by omega)
        cases e0
        have hrd : rd l (kk : Int) = l[kk] := by simp [rd, hlt]
        rw [hrd, Int.toNat_natCast] at hx
        clear hrd
        obtain ⟨y, hy⟩ : ∃ y, y = l[kk] := ⟨_, rfl⟩
        rw [← hy] at hx
        have HY := Aside0.mk hy
        clear hy
        go_wp2_with fail
        refine (full_calls n _ c l _ (by omega) (by omega) (Kd.C_below HR.out HGr.out) HC.out).mono ?_
        rintro e w2 ⟨rfl, hG2⟩
        go_wp2_with fail
        by_cases hin : 1 ≤ y ∧ y ≤ fullOf n
        · refine (within_calls y 1 (fullOf n) true (by simp [hin]) _).mono ?_
          rintro e w3 ⟨rfl, hG3⟩
          have HG3 : Aside0 (Grew wr w3) := ⟨Grew.trans hG2 hG3⟩
          have HB3 := Aside0.mk (blk_below HBr.out HG3.out)
          have h03 : w3.cell? ⟨w.heap.size, 0, none⟩ = some (I n) := blk_cell HB3.out 0
          have h13 : w3.cell? ⟨w.heap.size, 1, none⟩ = some (.slice (some ad) l.length c) := blk_cell HB3.out 1
          clear hG2 hG3 h0 h1 hx
          rcases Nat.eq_zero_or_pos kk with rfl | hpos
          · go_wp2_with fail
            go_roundg (l.length - 1)
            case measure => omega
            case rel => exact ⟨1, by omega, by omega, rfl, ⟨Grew.trans BW.out HG3.out⟩, ⟨fun j hj h => by
              obtain rfl : j = 0 := by omega
              have := HY.out
              exact ⟨by omega, by omega, fun h0 => absurd h0 (Nat.lt_irrefl 0)⟩⟩⟩
          · obtain ⟨m, rfl⟩ : ∃ m, kk = m + 1 := ⟨kk - 1, by omega⟩
            obtain ⟨ad', e0, hx'⟩ := Kd.at_int (Kd.C_below HR.out (Grew.trans HGr.out HG3.out)) (m : Int) (by omega) (by omega)
            cases e0
            have hrd : rd l (m : Int) = l[m] := by simp [rd, show m < l.length by omega]
            rw [hrd, Int.toNat_natCast] at hx'
            clear hrd
            obtain ⟨z, hz⟩ : ∃ z, z = l[m] := ⟨_, rfl⟩
            rw [← hz] at hx'
            have HZ := Aside0.mk hz
            clear hz
            by_cases hyz : y ≤ z
            · have HF : Aside0 (isC n l = false) := ⟨by
                rw [HI.out, rangeAsc_false n l (m + 1) hlt (fun hg => by
                  have h2 := (hg hlt).2.2 (by omega)
                  have e1 := HY.out
                  have e2 := HZ.out
                  simp only [Nat.add_sub_cancel] at h2
                  omega)]
                rfl⟩
              go_wp2_with fail
              go_ret
              exact ⟨by rw [HF.out]; rfl, Grew.trans HGr.out HG3.out⟩
            · go_wp2_with fail
              go_roundg (l.length - (m + 1 + 1))
              case measure => omega
              case rel => exact ⟨m + 1 + 1, by omega, by omega, by go_num, ⟨Grew.trans BW.out HG3.out⟩, ⟨fun j hj h => by
                rcases Nat.lt_or_ge j (m + 1) with h' | h'
                · exact A0.out j h' h
                · obtain rfl : j = m + 1 := by omega
                  have e1 := HY.out
                  have e2 := HZ.out
                  exact ⟨by omega, by omega, fun _ => by simp only [Nat.add_sub_cancel]; omega⟩⟩⟩
        · have HF : Aside0 (isC n l = false) := ⟨by
            rw [HI.out, rangeAsc_false n l kk hlt (fun hg => by
              have h2 := hg hlt
              have e1 := HY.out
              omega)]
            rfl⟩
          refine (within_calls y 1 (fullOf n) false (by simpa using hin) _).mono ?_
          rintro e w3 ⟨rfl, hG3⟩
          have HG3 : Aside0 (Grew wr w3) := ⟨Grew.trans hG2 hG3⟩
          clear hG2 hG3 h0 h1 hx
          go_wp2_with fail
          go_ret
          exact ⟨by rw [HF.out]; rfl, Grew.trans HGr.out HG3.out⟩
      · obtain rfl : kk = l.length := by omega
        have HT : Aside0 (isC n l = l.all (closedAt l)) := ⟨by
          rw [HI.out, show rangeAsc n l = true from decide_eq_true fun j hj => A0.out j hj]
          rfl⟩
        have H := Aside0.mk (areAll_int (closedAt l) A c l 147 #[] #[.pointer (some ⟨w.heap.size, 0, none⟩)] wr (Kd.C_below HR.out HGr.out) HC.out (by omega)
          (enters_of Try.func147 (by kernel_rfl) rfl)
          (fun x hx W hW => IsComplex1_calls n x w.heap.size A c l W (blk_below HBr.out hW) (Kd.C_below HR.out (Grew.trans HGr.out hW)) HC.out (by omega)))
        generalize l.all (closedAt l) = b at H HT
        go_wp2_with fail
        refine H.out.mono ?_
        rintro e w4 ⟨rfl, hG4⟩
        go_wp2_with fail
        go_ret
        exact ⟨by rw [HT.out]; rfl, Grew.trans HGr.out hG4⟩
  · have HF : Aside0 (isC n l = false) := ⟨by simp only [isC, decide_eq_false hn, Bool.false_and]⟩
    go_enter Try.func109, Try.ntmps109
    go_wp2_with fail
    refine (isSize_calls n false (by simpa using hn) _).mono ?_
    rintro e w1 ⟨rfl, hG1⟩
    have HG1 : Aside0 (Grew w w1) := ⟨Grew.trans (below_alloc (Grew.refl w) _) hG1⟩
    clear hG1
    go_wp2_with fail
    go_ret
    exact ⟨by rw [HF.out]; rfl, HG1.out⟩

end Go.Proofs.Ytniikppojffiaaa.K
end

section
/- The faces' row of a complex as it lies. -/
namespace Go.Proofs.Ytniikppojffiaaa.K
open Go.RowKit Go.Shelf Go.Proofs.YtniikppojffiaaaW.PrintWords Go.Proofs.YtniikppojffiaaaW.PrintLast Go.Proofs.YtniikppojffiaaaW.PrintMore
set_option linter.unusedVariables false
set_option linter.unusedSimpArgs false

theorem CB.later {w w' : World} {g : Nat} {n : Int} {v : Value} (h : CB w g n v) (hb : Grew w w') : CB w' g n v := blk_below h hb

/-- The faces' row of a complex as it lies. -/
structure Kx (w : World) (A : Option Addr) (c : Nat) (l : List Int) : Prop where
  r : Ki.C w A l.length l
  c : l.length ≤ c
  b : l.length ≤ 1152921504606846976
theorem Kx.later {w w' : World} {A : Option Addr} {c : Nat} {l : List Int} (h : Kx w A c l) (hb : Grew w w') : Kx w' A c l := ⟨Kd.C_below h.r hb, h.c, h.b⟩
theorem isC_size {n : Int} {l : List Int} (h : isC n l = true) : 1 ≤ n ∧ n ≤ 6 := by
  unfold isC at h
  simp at h
  exact h.1

end Go.Proofs.Ytniikppojffiaaa.K
end

section
/- Words of the walks through laws: what lies in memory, and the laws' helpers in one form. -/
namespace Go.Proofs.Ytniikppojffiaaa.K
open Go.RowKit Go.Shelf Go.Proofs.Ytniikppojffiaaa.Q Go.Proofs.YtniikppojffiaaaW.PrintWords Go.Proofs.YtniikppojffiaaaW.PrintLast Go.Proofs.YtniikppojffiaaaW.PrintMore
set_option linter.unusedVariables false
set_option linter.unusedSimpArgs false

/-- A row of numbers whose block lies in lo .. hi - 1. -/
def Row (w : World) (lo hi : Nat) (v : Value) (l : List Int) : Prop := Ki.R 2 w lo (fun k => lo ≤ k ∧ k < hi) v l
theorem Row.of_R {w w' : World} {v : Value} {l : List Int} (h : Ki.R 2 w' w.heap.size (fun _ => True) v l) : Row w' w.heap.size w'.heap.size v l :=
  Kd.R_mono (Kd.R_bound h) (fun k hk => ⟨hk.2.1, hk.2.2.1⟩)
theorem Row.kept {w w' : World} {lo hi : Nat} {v : Value} {l : List Int} {S : Nat → Prop} (h : Row w lo hi v l) (hk : Kept w w' S) (hs : ∀ k, lo ≤ k → k < hi → ¬ S k) : Row w' lo hi v l :=
  Kd.R_step h (fun k ho hlt => hk.2 k hlt (hs k ho.1 ho.2))
theorem Row.reads {w : World} {lo hi : Nat} {v : Value} {l : List Int} (h : Row w lo hi v l) : ∃ A c, v = .slice A l.length c ∧ l.length ≤ c ∧ Ki.C w A l.length l := Kd.R_reads h
theorem Row.slice {w : World} {lo hi m c : Nat} {A : Option Addr} {l : List Int} (h : Row w lo hi (.slice A m c) l) : m = l.length ∧ m ≤ c ∧ Ki.C w A l.length l := by
  obtain ⟨A', c', e, h1, h2⟩ := h.reads
  injection e with e1 e2 e3
  subst e1 e2 e3
  exact ⟨rfl, h1, h2⟩

/-- A row of pairs whose block lies in lo .. hi - 1. -/
def PRow (w : World) (lo hi : Nat) (v : Value) (l : List PairT) : Prop := Kq.R 53 w lo (fun k => lo ≤ k ∧ k < hi) v l
theorem PRow.of_R {w w' : World} {v : Value} {l : List PairT} (h : Kq.R 53 w' w.heap.size (fun _ => True) v l) : PRow w' w.heap.size w'.heap.size v l :=
  Kd.R_mono (Kd.R_bound h) (fun k hk => ⟨hk.2.1, hk.2.2.1⟩)
theorem PRow.kept {w w' : World} {lo hi : Nat} {v : Value} {l : List PairT} {S : Nat → Prop} (h : PRow w lo hi v l) (hk : Kept w w' S) (hs : ∀ k, lo ≤ k → k < hi → ¬ S k) : PRow w' lo hi v l :=
  Kd.R_step h (fun k ho hlt => hk.2 k hlt (hs k ho.1 ho.2))
theorem PRow.reads {w : World} {lo hi : Nat} {v : Value} {l : List PairT} (h : PRow w lo hi v l) : ∃ A c, v = .slice A l.length c ∧ l.length ≤ c ∧ Kq.C w A l.length l := Kd.R_reads h
theorem PRow.slice {w : World} {lo hi m c : Nat} {A : Option Addr} {l : List PairT} (h : PRow w lo hi (.slice A m c) l) : m = l.length ∧ m ≤ c ∧ Kq.C w A l.length l := by
  obtain ⟨A', c', e, h1, h2⟩ := h.reads
  injection e with e1 e2 e3
  subst e1 e2 e3
  exact ⟨rfl, h1, h2⟩
/-- What lies in memory: boxes and rows. -/
inductive Item where
  | box (g t : Nat) (cs : Array Value)
  | row (lo hi : Nat) (v : Value) (l : List Int)
  | prow (lo hi : Nat) (v : Value) (l : List PairT)
def Item.ok (W : World) : Item → Prop
  | .box g t cs => W.heap[g]? = some (.cells cs t (0, 0))
  | .row lo hi v l => Row W lo hi v l
  | .prow lo hi v l => PRow W lo hi v l
def Item.at_ : Item → Nat → Prop
  | .box g _ _, k => k = g
  | .row lo hi _ _, k => lo ≤ k ∧ k < hi
  | .prow lo hi _ _, k => lo ≤ k ∧ k < hi
theorem Item.kept {W W' : World} {S : Nat → Prop} {it : Item} (h : it.ok W) (hk : Kept W W' S) (hs : ∀ k, it.at_ k → ¬ S k) : it.ok W' := by
  cases it with
  | box g t cs => exact blk_kept h hk (hs g rfl)
  | row lo hi v l => exact Row.kept h hk (fun k h1 h2 => hs k ⟨h1, h2⟩)
  | prow lo hi v l => exact PRow.kept h hk (fun k h1 h2 => hs k ⟨h1, h2⟩)
def Mem (W : World) (its : List Item) : Prop := ∀ it ∈ its, it.ok W
theorem Mem.nil (W : World) : Mem W [] := fun _ h => by cases h
theorem Mem.cons {W : World} {it : Item} {its : List Item} (h : it.ok W) (hs : Mem W its) : Mem W (it :: its) := fun x hx => by
  rcases List.mem_cons.1 hx with rfl | hx
  · exact h
  · exact hs x hx
theorem Mem.head {W : World} {it : Item} {its : List Item} (h : Mem W (it :: its)) : it.ok W := h it List.mem_cons_self
theorem Mem.tail {W : World} {it : Item} {its : List Item} (h : Mem W (it :: its)) : Mem W its := fun x hx => h x (List.mem_cons_of_mem _ hx)
theorem Mem.kept {W W' : World} {S : Nat → Prop} {its : List Item} (h : Mem W its) (hk : Kept W W' S) (hs : ∀ it ∈ its, ∀ k, it.at_ k → ¬ S k) : Mem W' its := fun it hit => Item.kept (h it hit) hk (hs it hit)
theorem Mem.grew {W W' : World} {its : List Item} (h : Mem W its) (hb : Grew W W') : Mem W' its := h.kept (Kept.of_below hb (fun _ => False)) (fun _ _ _ _ hf => hf)

theorem szC_calls (n : Int) (A : Option Addr) (c : Nat) (l : List Int) (a : Int) (ha : 0 ≤ a ∧ a ≤ 1048576) (w : World) (hr : Ki.C w A l.length l) (hc : l.length ≤ c) :
    Calls Try.prog 17 #[.agg #[I n, .slice A l.length c], I a] w fun e w' => e = .returned (I (if a < l.length then -1 else a - l.length)) ∧ Grew w w' :=
  laws_szComplex.calls n A c l a _ w hr hc (szComplex_is n l a ha hr.2.1)
theorem toC_calls (n : Int) (A : Option Addr) (c : Nat) (l : List Int) (w : World) (hr : Ki.C w A l.length l) (hc : l.length ≤ c) (hl : l.length ≤ 2097152) :
    Calls Try.prog 20 #[.agg #[I n, .slice A l.length c]] w fun e w' => ∃ A' c', e = .returned (.agg #[I n, .slice A' l.length c']) ∧ Row w' w.heap.size w'.heap.size (.slice A' l.length c') l ∧ Grew w w' := by
  refine (laws_toComplex.calls (l.length + 1) n A c l n l w hr hc (toComplex_is n l hl _ (Nat.lt_succ_self _))).mono ?_
  rintro e w' ⟨v, rfl, hR, hG⟩
  obtain ⟨A', c', rfl⟩ := Kd.R_slice hR
  exact ⟨A', c', rfl, Row.of_R hR, hG⟩
theorem eqC_calls (n : Int) (l : List Int) (A1 A2 : Option Addr) (c1 c2 m1 m2 lo1 hi1 lo2 hi2 : Nat) (w : World) (h1 : Row w lo1 hi1 (.slice A1 m1 c1) l) (h2 : Row w lo2 hi2 (.slice A2 m2 c2) l) :
    Calls Try.prog 23 #[.agg #[I n, .slice A1 m1 c1], .agg #[I n, .slice A2 m2 c2]] w fun e w' => e = .returned (.bool true) ∧ Grew w w' := by
  obtain ⟨rfl, k1, r1⟩ := h1.slice
  obtain ⟨rfl, k2, r2⟩ := h2.slice
  exact laws_eqComplex.calls (l.length + 1) n A1 c1 l n A2 c2 l true w r1 k1 r2 k2 (by rw [eqComplex_is n l n l r1.2.1 _ (Nat.lt_succ_self _)]; simp)
theorem markC_calls (n : Int) (A : Option Addr) (m c : Nat) (l : List Int) (a : Int) (ha : 0 ≤ a ∧ a ≤ 1000000000) (hl : l.length ≤ 100000000) (lo hi : Nat) (w0 w : World) (hB : Below w0.heap.size w0 w) (hlo : w0.heap.size ≤ lo) (h : Row w lo hi (.slice A m c) l) :
    Calls Try.prog 28 #[.agg #[I n, .slice A m c], I a] w fun e w' => e = .returned (I (a + l.length)) ∧ Row w' lo hi (.slice A m c) (marks a l.length) ∧ Below w0.heap.size w0 w' ∧ Kept w w' (fun k => lo ≤ k ∧ k < hi) := by
  refine (laws_markComplex.calls (l.length + 1) n (fun k => lo ≤ k ∧ k < hi) (.slice A m c) l a _ _ w0 w hB (Kd.R_lower h hlo) (markComplex_is n l a ha hl _ (Nat.lt_succ_self _))).mono ?_
  rintro e w' ⟨rfl, hR, hB', hK⟩
  exact ⟨rfl, Kd.R_of_own (Kd.own_raise (Kd.own_of_R hR) (fun k hk => (h.1 k hk).1)) (fun k hk => h.1 k hk), hB', hK⟩

end Go.Proofs.Ytniikppojffiaaa.K
end

section
/- The laws' helpers over rows of numbers, in one form. -/
namespace Go.Proofs.Ytniikppojffiaaa.K
open Go.RowKit Go.Shelf Go.Proofs.Ytniikppojffiaaa.Q Go.Proofs.YtniikppojffiaaaW.PrintWords Go.Proofs.YtniikppojffiaaaW.PrintLast Go.Proofs.YtniikppojffiaaaW.PrintMore
set_option linter.unusedVariables false
set_option linter.unusedSimpArgs false

theorem eqI_calls (l : List Int) (A1 A2 : Option Addr) (c1 c2 m1 m2 lo1 hi1 lo2 hi2 : Nat) (w : World) (h1 : Row w lo1 hi1 (.slice A1 m1 c1) l) (h2 : Row w lo2 hi2 (.slice A2 m2 c2) l) :
    Calls Try.prog 27 #[.slice A1 m1 c1, .slice A2 m2 c2] w fun e w' => e = .returned (.bool true) ∧ Grew w w' := by
  obtain ⟨rfl, k1, r1⟩ := h1.slice
  obtain ⟨rfl, k2, r2⟩ := h2.slice
  exact (laws_eqInt64S.calls (l.length + 1) A1 c1 l A2 c2 l true w r1 k1 r2 k2 (by rw [eqInt64S_is l l r1.2.1 _ (Nat.lt_succ_self _)]; simp)).mono fun e w' ⟨he, hd⟩ => ⟨he, hd.below⟩
theorem markI_calls (A : Option Addr) (m c : Nat) (l : List Int) (a : Int) (ha : 0 ≤ a ∧ a ≤ 1000000000) (hl : l.length ≤ 100000000) (lo hi : Nat) (w0 w : World) (hB : Below w0.heap.size w0 w) (hlo : w0.heap.size ≤ lo) (h : Row w lo hi (.slice A m c) l) :
    Calls Try.prog 30 #[.slice A m c, I a] w fun e w' => e = .returned (I (a + l.length)) ∧ Row w' lo hi (.slice A m c) (marks a l.length) ∧ Below w0.heap.size w0 w' ∧ Kept w w' (fun k => lo ≤ k ∧ k < hi) := by
  refine (laws_markInt64S.calls (l.length + 1) (fun k => lo ≤ k ∧ k < hi) (.slice A m c) l a _ _ w0 w hB (Kd.R_lower h hlo) (markInt64S_is l a ha hl _ (Nat.lt_succ_self _))).mono ?_
  rintro e w' ⟨rfl, hR, hB', hK⟩
  exact ⟨rfl, Kd.R_of_own (Kd.own_raise (Kd.own_of_R hR) (fun k hk => (h.1 k hk).1)) (fun k hk => h.1 k hk), hB', hK⟩
theorem heldI_calls (A : Option Addr) (m m' c lo hi : Nat) (a : Int) (ha : 0 ≤ a ∧ a ≤ 1000000000) (hl : m ≤ 100000000) (w : World) (h : Row w lo hi (.slice A m' c) (marks a m)) :
    Calls Try.prog 31 #[.slice A m' c, I a] w fun e w' => e = .returned (I (a + m)) ∧ Grew w w' := by
  obtain ⟨rfl, k1, r1⟩ := h.slice
  exact (laws_heldInt64S.calls (m + 1) A c (marks a m) a _ w r1 k1 (heldInt64S_is m a ha hl _ (Nat.lt_succ_self _))).mono fun e w' ⟨he, hd⟩ => ⟨he, hd.below⟩

end Go.Proofs.Ytniikppojffiaaa.K
end

section
/- Pairs: the laws' copy of a pair and the comparison of two pairs. -/
namespace Go.Proofs.Ytniikppojffiaaa.K
open Go.RowKit Go.Shelf Go.Proofs.YtniikppojffiaaaW.PrintWords Go.Proofs.YtniikppojffiaaaW.PrintLast Go.Proofs.YtniikppojffiaaaW.PrintMore
set_option linter.unusedVariables false
set_option linter.unusedSimpArgs false

set_option maxRecDepth 100000 in
set_option maxHeartbeats 4000000 in
theorem toPr_calls (a b : Int) (w : World) : Calls Try.prog 46 #[.agg #[I a, I b]] w fun e w' => e = .returned (.agg #[I a, I b]) ∧ Grew w w' := by
  go_enter Try.func46, Try.ntmps46
  go_wp2
  refine wp_loop_rounds 3 ?_
  rw [rounds_succ]
  go_wp2
  rw [rounds_succ]
  go_wp2
  rw [rounds_succ]
  go_wp2
  exact bodyPost_ret (v := .agg #[I a, I b]) (by simp [results, Try.results46, go_sem]) rfl ⟨rfl, below_alloc (below_alloc (below_alloc (Grew.refl w) _) _) _⟩
set_option maxRecDepth 100000 in
set_option maxHeartbeats 4000000 in
theorem eqPr_calls (a b c d : Int) (w : World) : Calls Try.prog 65 #[.agg #[I a, I b], .agg #[I c, I d]] w fun e w' => e = .returned (.bool (a == c && b == d)) ∧ Grew w w' := by
  have HE : Aside0 ((a == c && b == d) = decide (a = c ∧ b = d)) := ⟨by rw [Bool.eq_iff_iff]; simp⟩
  rw [HE.out]
  by_cases h1 : a = c
  · subst h1
    by_cases h2 : b = d
    · subst h2
      have HT : Aside0 (decide (a = a ∧ b = b) = true) := ⟨by simp⟩
      rw [HT.out]
      go_enter Try.func65, Try.ntmps65
      go_wp2
      refine wp_loop_rounds 3 ?_
      rw [rounds_succ]
      go_wp2
      go_quiet (fail)
      go_wp2
      rw [rounds_succ]
      go_wp2
      go_quiet (fail)
      go_wp2
      rw [rounds_succ]
      go_wp2
      go_ret
      exact ⟨rfl, by repeat (first | exact Grew.refl w | apply below_drew | apply pw_below_drewN | apply below_alloc)⟩
    · have HT : Aside0 (decide (a = a ∧ b = d) = false) := ⟨by simp [h2]⟩
      have h3 : (b != d) = true := by simp [h2]
      rw [HT.out]
      go_enter Try.func65, Try.ntmps65
      go_wp2
      refine wp_loop_rounds 3 ?_
      rw [rounds_succ]
      go_wp2
      go_quiet (fail)
      go_wp2
      rw [rounds_succ]
      go_wp2
      go_quiet (fail)
      go_wp2
      go_ret
      exact ⟨rfl, by repeat (first | exact Grew.refl w | apply below_drew | apply pw_below_drewN | apply below_alloc)⟩
  · have HT : Aside0 (decide (a = c ∧ b = d) = false) := ⟨by simp [h1]⟩
    have h3 : (a != c) = true := by simp [h1]
    rw [HT.out]
    go_enter Try.func65, Try.ntmps65
    go_wp2
    refine wp_loop_rounds 3 ?_
    rw [rounds_succ]
    go_wp2
    go_quiet (fail)
    go_wp2
    go_ret
    exact ⟨rfl, by repeat (first | exact Grew.refl w | apply below_drew | apply pw_below_drewN | apply below_alloc)⟩

end Go.Proofs.Ytniikppojffiaaa.K
namespace Go.Proofs.Ytniikppojffiaaa.X
open Go.RowKit Go.Shelf Go.Proofs.Ytniikppojffiaaa.K Go.Proofs.YtniikppojffiaaaW.PrintWords Go.Proofs.YtniikppojffiaaaW.PrintLast Go.Proofs.YtniikppojffiaaaW.PrintMore
def laws_toPair.f (a0_0 a0_1 : Int) : Option (Int × Int) := some (a0_0, a0_1)
theorem laws_toPair.calls (a0_0 a0_1 : Int) (r1 r2 : Int) (w : World) (h : laws_toPair.f a0_0 a0_1 = some (r1, r2)) :
    Calls Try.prog 46 #[.agg #[.int .i64 a0_0, .int .i64 a0_1]] w fun e w' => e = .returned (.agg #[.int .i64 r1, .int .i64 r2]) ∧ Below w.heap.size w w' := by
  unfold laws_toPair.f at h
  injection h with h
  injection h with h1 h2
  subst h1 h2
  exact toPr_calls a0_0 a0_1 w
def laws_eqPair.f (a0_0 a0_1 a1_0 a1_1 : Int) : Option Bool := some (a0_0 == a1_0 && a0_1 == a1_1)
theorem laws_eqPair.calls (a0_0 a0_1 a1_0 a1_1 : Int) (r : Bool) (w : World) (h : laws_eqPair.f a0_0 a0_1 a1_0 a1_1 = some r) :
    Calls Try.prog 65 #[.agg #[.int .i64 a0_0, .int .i64 a0_1], .agg #[.int .i64 a1_0, .int .i64 a1_1]] w fun e w' => e = .returned (.bool r) ∧ Below w.heap.size w w' := by
  unfold laws_eqPair.f at h
  injection h with h
  subst h
  exact eqPr_calls a0_0 a0_1 a1_0 a1_1 w
end Go.Proofs.Ytniikppojffiaaa.X
end

section
/- Written by a program of this session (myprint.py over the kit's print). -/
namespace Go.Proofs.Ytniikppojffiaaa.C
open Go.RowKit Go.Proofs.Ytniikppojffiaaa.Q Go.Proofs.Ytniikppojffiaaa.X Go.Proofs.YtniikppojffiaaaW.PrintWords Go.Proofs.YtniikppojffiaaaW.PrintLast Go.Proofs.YtniikppojffiaaaW.PrintMore
attribute [local go_sem] max2_int min2_int max_two min_two max_three min_three max_four min_four   -- for this text's walks alone
set_option linter.unusedVariables false
set_option linter.unusedSimpArgs false


/-! ### laws_toPairS: function 21 -/
def laws_toPairS.l0 : Nat → List (S51) → List (S53) → Int → Option ((List (S53)))
  | 0, _, _, _ => none
  | k + 1, x0, x3, x4 => if x4 < (x0.length : Int) then (if 0 ≤ x4 then ((laws_toPair.f ((rd_T51 x0 x4).f0) ((rd_T51 x0 x4).f1)).bind fun bt105 => (if x4 < (x3.length : Int) then (laws_toPairS.l0 k x0 (x3.set (x4 : Int).toNat (⟨bt105.1, bt105.2⟩ : S53)) (wrap64 (x4 + 1))) else (none))) else (none)) else (some x3)
def laws_toPairS.f (k : Nat) (l0 : List (S51)) : Option ((List (S53))) := if 0 ≤ (l0.length : Int) then (if ((l0.length : Int) : Int).toNat ≤ 17592186044416 then (laws_toPairS.l0 k l0 (List.replicate ((l0.length : Int) : Int).toNat z53) 0) else (none)) else (none)
theorem laws_toPairS.mono_l : ∀ k, (∀ y0 y1 y2, LeO (laws_toPairS.l0 k y0 y1 y2) (laws_toPairS.l0 (k + 1) y0 y1 y2))
  | 0 => fun _ _ _ r h => by simp [laws_toPairS.l0] at h
  | k + 1 => by
    have ih0 := laws_toPairS.mono_l k
    · intro y0 y1 y2
      unfold laws_toPairS.l0
      repeat' first
      | (with_reducible exact ih0 _ _ _)
      | (with_reducible exact LeO.refl _)
      | (with_reducible exact LeO.none _)
      | (with_reducible refine LeO.ite ?_ ?_)
      | (with_reducible refine LeO.bind ?_ (fun _ => ?_))
      | exact ih0 _ _ _
      | exact LeO.none _
      | refine LeO.ite ?_ ?_
      | refine LeO.bind ?_ (fun _ => ?_)
theorem laws_toPairS.mono : ∀ a0 k, LeO (laws_toPairS.f k a0) (laws_toPairS.f (k + 1) a0) := by
  intro a0 k
  have ih0 := laws_toPairS.mono_l k
  unfold laws_toPairS.f
  repeat' first
      | (with_reducible exact ih0 _ _ _)
      | (with_reducible exact LeO.refl _)
      | (with_reducible exact LeO.none _)
      | (with_reducible refine LeO.ite ?_ ?_)
      | (with_reducible refine LeO.bind ?_ (fun _ => ?_))
      | exact ih0 _ _ _
      | exact LeO.none _
      | refine LeO.ite ?_ ?_
      | refine LeO.bind ?_ (fun _ => ?_)
set_option maxHeartbeats 8000000 in
set_option maxRecDepth 100000 in
theorem laws_toPairS.calls (k : Nat) (A0 : Option Addr) (c0 : Nat) (l0 : List (S51)) (r : List (S53)) (w : World) (hr0 : Kd.C k51 w A0 l0.length l0) (hc0 : l0.length ≤ c0) (h : laws_toPairS.f k l0 = some r) :
    Calls Try.prog 21 #[.slice A0 l0.length c0] w fun e w' => ∃ v0_ : Value, e = .returned (v0_) ∧ Kd.R k53 53 w' w.heap.size (fun _ => True) v0_ r ∧ Below w.heap.size w w' := by
  have hu51 := Try.underlying51
  have hu53 := Try.underlying53
  have HR0 := Aside0.mk hr0
  have HC0 := Aside0.mk hc0
  clear hr0 hc0
  have HB := Aside0.mk (Below.refl w.heap.size w)
  have H : (if 0 ≤ (l0.length : Int) then (if ((l0.length : Int) : Int).toNat ≤ 17592186044416 then (laws_toPairS.l0 k l0 (List.replicate ((l0.length : Int) : Int).toNat z53) 0) else (none)) else (none)) = some r := h
  clear h
  by_cases c2 : 0 ≤ (l0.length : Int)
  · rw [if_pos c2] at H
    have c2b0 := eq_true c2
    have c2b1 : decide (0 ≤ (l0.length : Int)) = true := decide_eq_true c2
    clear c2
    by_cases c3 : ((l0.length : Int) : Int).toNat ≤ 17592186044416
    · rw [if_pos c3] at H
      have c3b0 := eq_true c3
      have c3b1 : decide (((l0.length : Int) : Int).toNat ≤ 17592186044416) = true := decide_eq_true c3
      clear c3
      obtain ⟨y101, hy101⟩ : ∃ y_ : List (S53), y_ = (List.replicate ((l0.length : Int) : Int).toNat z53) := ⟨_, rfl⟩
      replace H : (laws_toPairS.l0 k l0 y101 0) = some r := by first | (rw [hy101]; with_reducible exact H) | (have H2_ := (Option.bind_some _ _).symm.trans H; rw [hy101]; with_reducible exact H2_) | (have H2_ := (Option.bind_some _ _).symm.trans H; with_reducible exact H2_) | with_reducible exact H | (rw [hy101]; exact H) | exact H
      have Ny101 := Aside0.mk hy101
      clear hy101
      have H' := Aside0.mk H
      clear H
      go_enter Try.func21, Try.ntmps21
      go_wp2_with (first | ((with_reducible refine gate_dst (N := 7) rfl ?_); refine Kd.R_make k53 _ 53 rfl (N := 7) rfl 32 _ _ rfl (l0.length : Int) rfl rfl Try.underlying32 (.agg #[(.int .i64 0), (.int .i64 0)]) 16 info53 rfl (by decide) (by omega) z53 (ok := fun _ => True) (okp := fun _ => True) (k53_mkM _ _ _ z53 ) (fun _ hk => hk) trivial (of_decide_eq_true (by first | (with_reducible assumption) | assumption)) (Nat.le_trans (Nat.mul_le_mul_right _ (of_decide_eq_true (by first | (with_reducible assumption) | assumption) : (l0.length : Int).toNat ≤ 17592186044416)) (by omega)) (Below.refl _ _) (Nat.le_refl _) ?_; intro v102 w4 ho5 hb hg_ hnew_; clear hg_ hnew_; (first | rw [← Ny101.out] at ho5 | (simp only [Int.reduceToNat] at ho5; rw [← Ny101.out] at ho5)); have n0_ := Aside0.mk (Kd.R_lower ho5 (below_size (by repeat (first | (with_reducible first | exact HB.out | apply below_alloc | apply pw_below_drewN | apply below_drew1) | exact HB.out)))); have n1_ := Aside0.mk (below_step (by repeat (first | (with_reducible first | exact HB.out | apply below_alloc | apply pw_below_drewN | apply below_drew1) | exact HB.out)) hb); clear HB; have HO103 := n0_; have HB := n1_; clear n0_ n1_; clear hb ho5))
      go_loopg [4] k (fun kq v4 w' => ∃ (x3_1 : List (S53)) (x4_1 : Int), v4 = .int .i64 x4_1 ∧ Aside0 (laws_toPairS.l0 kq l0 x3_1 x4_1 = some r) ∧ Aside0 (kq ≤ k) ∧ Aside0 (Kd.R k53 53 w' w.heap.size (fun _ => True) v102 x3_1) ∧ Aside0 (Below w.heap.size w w'))
      case atStart => exact ⟨(y101), (0), (by first | rfl | (simp; done) | (simp [*]; done)), H', ⟨Nat.le_refl _⟩, ⟨by (with_reducible repeat (first | apply Kd.R_alloc | apply Kd.R_drewN | apply Kd.R_drew)); exact HO103.out⟩, ⟨by repeat (first | (with_reducible first | exact HB.out | apply below_alloc | apply pw_below_drewN | apply below_drew1) | exact HB.out)⟩⟩
      case round =>
        clear H'
        try clear c2
        try clear c2b0
        try clear c2b1
        try clear p2
        try clear c3
        try clear c3b0
        try clear c3b1
        obtain ⟨x3_1, x4_1, rfl, HA, HK1, HO_3, HB⟩ := hrel
        cases gk with
        | zero => exact absurd HA.out (by simp [laws_toPairS.l0])
        | succ k1 =>
          have H := HA.out
          clear HA
          simp only [laws_toPairS.l0] at H
          by_cases c6 : x4_1 < (l0.length : Int)
          · rw [if_pos c6] at H
            have c6b0 : decide (x4_1 < (l0.length : Int)) = true := decide_eq_true c6
            clear c6
            by_cases c7 : 0 ≤ x4_1
            · rw [if_pos c7] at H
              have c7b0 : decide (0 ≤ x4_1) = true := decide_eq_true c7
              clear c7
              replace H := Option.bind_eq_some_iff.mp H
              obtain ⟨⟨t105, t106⟩, A80, H⟩ := H
              replace H : (if x4_1 < (x3_1.length : Int) then (laws_toPairS.l0 k1 l0 (x3_1.set (x4_1 : Int).toNat (⟨t105, t106⟩ : S53)) (wrap64 (x4_1 + 1))) else (none)) = some r := H
              have A8 := Aside0.mk A80
              clear A80
              by_cases c9 : x4_1 < (x3_1.length : Int)
              · rw [if_pos c9] at H
                have c9b0 : decide (x4_1 < (x3_1.length : Int)) = true := decide_eq_true c9
                clear c9
                obtain ⟨y107, hy107⟩ : ∃ y_ : List (S53), y_ = (x3_1.set (x4_1 : Int).toNat (⟨t105, t106⟩ : S53)) := ⟨_, rfl⟩
                replace H : (laws_toPairS.l0 k1 l0 y107 (wrap64 (x4_1 + 1))) = some r := by first | (rw [hy107]; with_reducible exact H) | (have H2_ := (Option.bind_some _ _).symm.trans H; rw [hy107]; with_reducible exact H2_) | (have H2_ := (Option.bind_some _ _).symm.trans H; with_reducible exact H2_) | with_reducible exact H | (rw [hy107]; exact H) | exact H
                have Ny107 := Aside0.mk hy107
                clear hy107
                have H' := Aside0.mk H
                clear H
                have p104 : 0 ≤ (x4_1 : Int) := of_decide_eq_true (by first | (with_reducible assumption) | assumption)
                have q104 : x4_1 < (l0.length : Int) := of_decide_eq_true (by first | (with_reducible assumption) | assumption)
                obtain ⟨ad104, e104, hx104_0, hx104_1⟩ := at_T51 HR0.out x4_1 p104 q104
                cases e104
                replace hx104_0 := (HB.out.cell (World.block_lt_of_cell? w _ hx104_0)).trans hx104_0
                replace hx104_1 := (HB.out.cell (World.block_lt_of_cell? w _ hx104_1)).trans hx104_1
                replace p104 := eq_true p104
                replace q104 := eq_true q104
                go_wp2_with (first | ((with_reducible refine gate_callee (f := 46) rfl ?_); refine goesL_ (some 20) rfl rfl Try.func46 (by kernel_rfl) rfl #[.agg #[.int .i64 ((rd_T51 l0 x4_1).f0), .int .i64 ((rd_T51 l0 x4_1).f1)]] rfl (by (try simp only [List.map_toArray, List.map_cons, List.map_nil]); first | done | rfl | (simp only [List.length_drop, List.length_take]; rfl)) ?_; (with_reducible refine (laws_toPair.calls ((rd_T51 l0 x4_1).f0) ((rd_T51 l0 x4_1).f1) t105 t106 _ A8.out).mono ?_); rintro e w11 ⟨rfl, hb⟩; refine ⟨_, rfl, ?_⟩; have n0_ := Aside0.mk (Kd.R_below (by (with_reducible repeat (first | apply Kd.R_alloc | apply Kd.R_drewN | apply Kd.R_drew)); exact HO_3.out) hb); have n1_ := Aside0.mk (below_step (by repeat (first | (with_reducible first | exact HB.out | apply below_alloc | apply pw_below_drewN | apply below_drew1) | exact HB.out)) hb); clear HO_3; clear HB; have HO_3 := n0_; have HB := n1_; clear n0_ n1_; (try clear hb); (try clear hb2); (try clear hk); (try clear hi); have p10 : 0 ≤ (x4_1 : Int) := of_decide_eq_true (by first | (with_reducible assumption) | assumption); have q10 : (x4_1 : Int) < ((x3_1.length : Int) : Int) := of_decide_eq_true (by first | (with_reducible assumption) | assumption); obtain ⟨go10, co10, eo10, gb10, gl10, cl10, HG10⟩ := Kd.R_form HO_3.out (by omega); (first | cases eo10 | (injection eo10 with ea_ en_ ec_; (first | subst ea_ | (injection ea_ with ea_; subst ea_)); subst ec_; clear en_)); have GB10 := Aside0.mk gb10; have GG10 := Aside0.mk HG10; clear gb10 gl10 HG10; obtain ⟨ce10, hcl10, hM10, hcc10, hfr10⟩ := Kd.R_elem HO_3.out z53 (x4_1 : Int) p10 q10; obtain rfl := k53_openM hM10; have hx10_0 : w11.cell? ⟨go10, (x4_1 : Int).toNat * 2, none⟩ = some (.int .i64 ((rd_T53 x3_1 x4_1).f0)) := hcc10 0 _ rfl; have hx10_1 : w11.cell? ⟨go10, (x4_1 : Int).toNat * 2 + 1, none⟩ = some (.int .i64 ((rd_T53 x3_1 x4_1).f1)) := hcc10 1 _ rfl; have hf10_0 : w11.frozen? ⟨go10, (x4_1 : Int).toNat * 2, none⟩ = false := hfr10 0; have hf10_1 : w11.frozen? ⟨go10, (x4_1 : Int).toNat * 2 + 1, none⟩ = false := hfr10 1; clear hcl10 hcc10 hfr10 hM10; replace p10 := eq_true p10; replace q10 := eq_true q10; have HX12 := Aside0.mk (show Kd.R k53 53 w11 w.heap.size (fun _ => True) (.slice (some ⟨go10, 0, none⟩) x3_1.length co10) x3_1 from (by (with_reducible repeat (first | apply Kd.R_alloc | apply Kd.R_drewN | apply Kd.R_drew)); exact HO_3.out)); obtain ⟨ce12, hcl12, hM12, hcc12, hfr12⟩ := Kd.R_elem HX12.out z53 (x4_1 : Int) (of_decide_eq_true (by first | (with_reducible assumption) | assumption)) (by have h_ : (x4_1 : Int) < ((x3_1.length : Int) : Int) := of_decide_eq_true (by first | (with_reducible assumption) | assumption); first | exact h_ | (have e_ := (Kd.R_reads' HO_3.out).1; omega) | simpa using h_); obtain rfl := k53_openM hM12; have HP12 := Kd.R_seg HX12.out (x4_1 : Int) (of_decide_eq_true (by first | (with_reducible assumption) | assumption)) (by have h_ : (x4_1 : Int) < ((x3_1.length : Int) : Int) := of_decide_eq_true (by first | (with_reducible assumption) | assumption); first | exact h_ | (have e_ := (Kd.R_reads' HO_3.out).1; omega) | simpa using h_) (seg := [.int .i64 t105, .int .i64 t106]) (j := 0) hcl12 hcc12 (show 2 ≤ 2 from by decide) (x' := (⟨t105, t106⟩ : S53)) (k53_mkM _ _ _ (⟨t105, t106⟩ : S53) ) (fun _ hk => hk); have hx12_0 := hcc12 0 _ rfl; (try simp only [show (k53).sz = 2 from rfl, Nat.mul_one, Nat.add_zero] at hx12_0); have hf12_0 := hfr12 0; (try simp only [show (k53).sz = 2 from rfl, Nat.mul_one, Nat.add_zero] at hf12_0); have hx12_1 := hcc12 1 _ rfl; (try simp only [show (k53).sz = 2 from rfl, Nat.mul_one, Nat.add_zero] at hx12_1); have hf12_1 := hfr12 1; (try simp only [show (k53).sz = 2 from rfl, Nat.mul_one, Nat.add_zero] at hf12_1); clear hcl12 hcc12 hfr12 hM12) | ((with_reducible refine gate_store (t := 53) (p := 21) rfl ?_); refine store_event (t := 53) (p := 21) (v := ?vo_w13) (w1 := ((w11.setCell ⟨go10, (x4_1 : Int).toNat * 2, none⟩ (.int .i64 t105)).setCell ⟨go10, (x4_1 : Int).toNat * 2 + 1, none⟩ (.int .i64 t106))) ?hg ?ho ?hn ?hr ?_; (case ho => rfl); (case hg => rfl); (case hn => rfl); (case hr => first | (go_simp; done) | (go_simp; rfl)); intro w13 hw; have hg : w11.grownBy w13 (some go10) := (by rw [hw]; exact HP12.2); have hp_ : Kd.R k53 53 w13 w.heap.size (fun _ => True) (.slice (some ⟨go10, 0, none⟩) x3_1.length co10) y107 := (by rw [hw, Ny107.out]; exact HP12.1); clear HP12; have n0_ := Aside0.mk (hp_); have n1_ := Aside0.mk ((by rw [hw]; exact below_set (below_set (HB.out) GB10.out) GB10.out : Below w.heap.size w w13)); clear HO_3; clear HB; have HO_3 := n0_; have HB := n1_; clear n0_ n1_; clear hg hw hp_))
                go_roundg k1
                case measure => have := HK1.out; omega
                case rel => exact ⟨(y107), (wrap64 (x4_1 + 1)), (by first | rfl | (simp; done) | (simp [*]; done)), H', ⟨by have := HK1.out; omega⟩, ⟨by (with_reducible repeat (first | apply Kd.R_alloc | apply Kd.R_drewN | apply Kd.R_drew)); exact HO_3.out⟩, ⟨by repeat (first | (with_reducible first | exact HB.out | apply below_alloc | apply pw_below_drewN | apply below_drew1) | exact HB.out)⟩⟩
              · rw [if_neg c9] at H
                exact absurd H (by simp)
            · rw [if_neg c7] at H
              exact absurd H (by simp)
          · rw [if_neg c6] at H
            have c6b0 : decide (x4_1 < (l0.length : Int)) = false := decide_eq_false c6
            clear c6
            obtain rfl := Option.some.inj H
            go_wp2
            go_ret
            exact ⟨_, by first | rfl | (simp [errW_none, errW_some] <;> rfl) | (simp [*, errW_none, errW_some] <;> rfl), by (with_reducible repeat (first | apply Kd.R_alloc | apply Kd.R_drewN | apply Kd.R_drew)); exact HO_3.out, by repeat (first | (with_reducible first | exact HB.out | apply below_alloc | apply pw_below_drewN | apply below_drew1) | exact HB.out)⟩
    · rw [if_neg c3] at H
      exact absurd H (by simp)
  · rw [if_neg c2] at H
    exact absurd H (by simp)


end Go.Proofs.Ytniikppojffiaaa.C
end

section
/- Written by a program of this session (myprint.py over the kit's print). -/
namespace Go.Proofs.Ytniikppojffiaaa.C
open Go.RowKit Go.Proofs.Ytniikppojffiaaa.Q Go.Proofs.Ytniikppojffiaaa.X Go.Proofs.YtniikppojffiaaaW.PrintWords Go.Proofs.YtniikppojffiaaaW.PrintLast Go.Proofs.YtniikppojffiaaaW.PrintMore
attribute [local go_sem] max2_int min2_int max_two min_two max_three min_three max_four min_four   -- for this text's walks alone
set_option linter.unusedVariables false
set_option linter.unusedSimpArgs false

/-! ### laws_eqPairS: function 24 -/
def laws_eqPairS.l0 : Nat → List (S53) → List (S53) → Int → Option (Bool)
 | 0, _, _, _ => none
 | k + 1, x0, x1, x5 => if x5 < (x0.length : Int) then (if 0 ≤ x5 then (if x5 < (x1.length : Int) then ((laws_eqPair.f ((rd_T53 x0 x5).f0) ((rd_T53 x0 x5).f1) ((rd_T53 x1 x5).f0) ((rd_T53 x1 x5).f1)).bind fun t110 => (if t110 = true then (laws_eqPairS.l0 k x0 x1 (wrap64 (x5 + 1))) else (some false))) else (none)) else (none)) else (some true)
def laws_eqPairS.f (k : Nat) (l0 : List (S53)) (l1 : List (S53)) : Option (Bool) := if (l0.length : Int) = (l1.length : Int) then (laws_eqPairS.l0 k l0 l1 0) else (some false)
theorem laws_eqPairS.mono_l : ∀ k, (∀ y0 y1 y2, LeO (laws_eqPairS.l0 k y0 y1 y2) (laws_eqPairS.l0 (k + 1) y0 y1 y2))
 | 0 => fun _ _ _ r h => by simp [laws_eqPairS.l0] at h
 | k + 1 => by
  have ih0 := laws_eqPairS.mono_l k
  ·intro y0 y1 y2
   unfold laws_eqPairS.l0
   repeat' first
   | (with_reducible exact ih0 _ _ _)
   | (with_reducible exact LeO.refl _)
   | (with_reducible exact LeO.none _)
   | (with_reducible refine LeO.ite ?_ ?_)
   | (with_reducible refine LeO.bind ?_ (fun _ => ?_))
   | exact ih0 _ _ _
   | exact LeO.none _
   | refine LeO.ite ?_ ?_
   | refine LeO.bind ?_ (fun _ => ?_)
theorem laws_eqPairS.mono : ∀ a0 a1 k, LeO (laws_eqPairS.f k a0 a1) (laws_eqPairS.f (k + 1) a0 a1) := by
 intro a0 a1 k
 have ih0 := laws_eqPairS.mono_l k
 unfold laws_eqPairS.f
 repeat' first
   | (with_reducible exact ih0 _ _ _)
   | (with_reducible exact LeO.refl _)
   | (with_reducible exact LeO.none _)
   | (with_reducible refine LeO.ite ?_ ?_)
   | (with_reducible refine LeO.bind ?_ (fun _ => ?_))
   | exact ih0 _ _ _
   | exact LeO.none _
   | refine LeO.ite ?_ ?_
   | refine LeO.bind ?_ (fun _ => ?_)
def laws_eqPairS.T6 : Bool × List (List Nat × List Nat) := (true, [([], []), ([], []), ([0, 1], [0, 1]), ([2], [2]), ([], []), ([], []), ([4, 5], [4, 5]), ([6], [6]), ([3, 7], [3, 7]), ([8], [8])])
def laws_eqPairS.B6 : List Nat := [0, 0, 3, 7, 0, 0, 48, 112, 255, 511]
theorem laws_eqPairS.tab6 : rtab .any (opsOf Try.f24 6) = laws_eqPairS.T6 := by kernel_rfl
theorem laws_eqPairS.bits6 : waitsOk laws_eqPairS.T6.2 laws_eqPairS.B6 = true := by kernel_rfl
set_option maxHeartbeats 8000000 in
set_option maxRecDepth 100000 in
theorem laws_eqPairS.calls (k : Nat) (A0 : Option Addr) (c0 : Nat) (l0 : List (S53)) (A1 : Option Addr) (c1 : Nat) (l1 : List (S53)) (r : Bool) (w : World) (hr0 : Kd.C k53 w A0 l0.length l0) (hc0 : l0.length ≤ c0) (hr1 : Kd.C k53 w A1 l1.length l1) (hc1 : l1.length ≤ c1) (h : laws_eqPairS.f k l0 l1 = some r) :
  Calls Try.prog 24 #[.slice A0 l0.length c0, .slice A1 l1.length c1] w fun e w' => e = .returned (.bool r) ∧ Below w.heap.size w w' := by
 have hu53 := Try.underlying53
 have HR0 := Aside0.mk hr0
 have HC0 := Aside0.mk hc0
 clear hr0 hc0
 have HR1 := Aside0.mk hr1
 have HC1 := Aside0.mk hc1
 clear hr1 hc1
 have HB := Aside0.mk (Below.refl w.heap.size w)
 have H : (if (l0.length : Int) = (l1.length : Int) then (laws_eqPairS.l0 k l0 l1 0) else (some false)) = some r := h
 clear h
 by_cases c3 : (l0.length : Int) = (l1.length : Int)
 ·rw [if_pos c3] at H
  have c3b0 : ((l0.length : Int) == (l1.length : Int)) = true := beq_iff_eq.mpr c3
  have c3b1 : ((l0.length : Int) != (l1.length : Int)) = false := bne_eq_false_iff_eq.mpr c3
  have c3b2 : (l0.length == l1.length) = true := by first | simpa using c3 | (simp at c3 ⊢; omega)
  clear c3
  have H' := Aside0.mk H
  clear H
  go_enter Try.func24, Try.ntmps24
  go_wp2
  go_loopg [5] k (fun kq v5 w' => ∃ (x5_1 : Int), v5 = .int .i64 x5_1 ∧ Aside0 (laws_eqPairS.l0 kq l0 l1 x5_1 = some r) ∧ Aside0 (kq ≤ k) ∧ Aside0 (Below w.heap.size w w'))
  case atStart => exact ⟨(0), (by first | rfl | (simp; done) | (simp [*]; done)), H', ⟨Nat.le_refl _⟩, ⟨by repeat (first | (with_reducible first | exact HB.out | apply below_alloc | apply pw_below_drewN | apply below_drew1) | exact HB.out)⟩⟩
  case round =>
   clear H'
   try clear c1
   try clear c2
   try clear p2
   try clear c3
   try clear c3b0
   try clear c3b1
   try clear c3b2
   obtain ⟨x5_1, rfl, HA, HK1, HB⟩ := hrel
   cases gk with
   | zero => exact absurd HA.out (by simp [laws_eqPairS.l0])
   | succ k1 =>
    have H := HA.out
    clear HA
    simp only [laws_eqPairS.l0] at H
    by_cases c4 : x5_1 < (l0.length : Int)
    ·rw [if_pos c4] at H
     have c4b0 : decide (x5_1 < (l0.length : Int)) = true := decide_eq_true c4
     clear c4
     by_cases c5 : 0 ≤ x5_1
     ·rw [if_pos c5] at H
      have c5b0 : decide (0 ≤ x5_1) = true := decide_eq_true c5
      clear c5
      by_cases c6 : x5_1 < (l1.length : Int)
      ·rw [if_pos c6] at H
       have c6b0 : decide (x5_1 < (l1.length : Int)) = true := decide_eq_true c6
       clear c6
       replace H := Option.bind_eq_some_iff.mp H
       obtain ⟨t110, A70, H⟩ := H
       replace H : (if t110 = true then (laws_eqPairS.l0 k1 l0 l1 (wrap64 (x5_1 + 1))) else (some false)) = some r := H
       have A7 := Aside0.mk A70
       clear A70
       by_cases c8 : t110 = true
       ·subst c8
        have H1 : (laws_eqPairS.l0 k1 l0 l1 (wrap64 (x5_1 + 1))) = some r := by rw [if_pos rfl] at H; exact H
        clear H
        have H := H1
        clear H1
        have H' := Aside0.mk H
        clear H
        try go_wp2
        have n0_ := Aside0.mk (below_drew1 HB.out)
        clear HB
        have HB := n0_
        clear n0_
        have p108 : 0 ≤ (x5_1 : Int) := of_decide_eq_true (by first | (with_reducible assumption) | assumption)
        have q108 : x5_1 < (l0.length : Int) := of_decide_eq_true (by first | (with_reducible assumption) | assumption)
        obtain ⟨ad108, e108, hx108_0, hx108_1⟩ := at_T53 HR0.out x5_1 p108 q108
        have hw108_1 := hx108_1
        have hw108_0 := hx108_0
        cases e108
        replace hx108_0 := (HB.out.cell (World.block_lt_of_cell? w _ hx108_0)).trans hx108_0
        replace hx108_1 := (HB.out.cell (World.block_lt_of_cell? w _ hx108_1)).trans hx108_1
        replace p108 := eq_true p108
        replace q108 := eq_true q108
        have p109 : 0 ≤ (x5_1 : Int) := of_decide_eq_true (by first | (with_reducible assumption) | assumption)
        have q109 : x5_1 < (l1.length : Int) := of_decide_eq_true (by first | (with_reducible assumption) | assumption)
        obtain ⟨ad109, e109, hx109_0, hx109_1⟩ := at_T53 HR1.out x5_1 p109 q109
        have hw109_1 := hx109_1
        have hw109_0 := hx109_0
        cases e109
        replace hx109_0 := (HB.out.cell (World.block_lt_of_cell? w _ hx109_0)).trans hx109_0
        replace hx109_1 := (HB.out.cell (World.block_lt_of_cell? w _ hx109_1)).trans hx109_1
        replace p109 := eq_true p109
        replace q109 := eq_true q109
        refine start_ (n := 10) (S := fun w' => w'.cell? (ad108.add ((x5_1).toNat * 2)) = some (.int .i64 ((rd_T53 l0 x5_1).f0)) ∧ w'.cell? ⟨(ad108.add ((x5_1).toNat * 2)).block, (ad108.add ((x5_1).toNat * 2)).off + 1, none⟩ = some (.int .i64 ((rd_T53 l0 x5_1).f1)) ∧ w'.cell? (ad109.add ((x5_1).toNat * 2)) = some (.int .i64 ((rd_T53 l1 x5_1).f0)) ∧ w'.cell? ⟨(ad109.add ((x5_1).toNat * 2)).block, (ad109.add ((x5_1).toNat * 2)).off + 1, none⟩ = some (.int .i64 ((rd_T53 l1 x5_1).f1))) (ds := []) #[false,false,false,false,false,false,false,false,false,false] (by kernel_rfl) rfl rfl ⟨((HB.out.cell (World.block_lt_of_cell? w _ hw108_0)).trans hw108_0), ((HB.out.cell (World.block_lt_of_cell? w _ hw108_1)).trans hw108_1), ((HB.out.cell (World.block_lt_of_cell? w _ hw109_0)).trans hw109_0), ((HB.out.cell (World.block_lt_of_cell? w _ hw109_1)).trans hw109_1)⟩ (fun hHeld => ?_); refine with_tabW laws_eqPairS.tab6 laws_eqPairS.bits6 (fun HT_ HW_ => ?_)
        generalize wr.drew = w9 at HB hx108_0 hx108_1 hx109_0 hx109_1 hHeld ⊢
        refine pure_ (i := 0) (N := some 17) (v := ?_) (a' := ?_) #[true,false,false,false,false,false,false,false,false,false] rfl rfl (any_of HT_.out (by kernel_rfl)) (fun _ _ _ h => h) (Or.inl ⟨by rfl, ?_⟩) ?_ ?_
        rotate_left; · intro w'; go_simp; with_reducible rfl
        rotate_left; · simp only [Act.put, List.setIfInBounds_toArray, List.set_cons_zero, List.set_cons_succ, i64_w, i32_w]; rfl
        refine pure_ (i := 1) (N := some 18) (v := ?_) (a' := ?_) #[true,true,false,false,false,false,false,false,false,false] rfl rfl (any_of HT_.out (by kernel_rfl)) (fun _ _ _ h => h) (Or.inl ⟨by rfl, ?_⟩) ?_ ?_
        rotate_left; · intro w'; go_simp; with_reducible rfl
        rotate_left; · simp only [Act.put, List.setIfInBounds_toArray, List.set_cons_zero, List.set_cons_succ, i64_w, i32_w]; rfl
        refine pure_ (i := 2) (N := some 19) (v := ?_) (a' := ?_) #[true,true,true,false,false,false,false,false,false,false] rfl rfl (any_of HT_.out (by kernel_rfl)) (fun _ _ _ h => h) (Or.inl ⟨by rfl, ?_⟩) ?_ ?_
        rotate_left; · intro w'; go_simp; with_reducible rfl
        rotate_left; · simp only [Act.put, List.setIfInBounds_toArray, List.set_cons_zero, List.set_cons_succ, i64_w, i32_w]; rfl
        refine pure_ (i := 4) (N := some 21) (v := ?_) (a' := ?_) #[true,true,true,false,true,false,false,false,false,false] rfl rfl (any_of HT_.out (by kernel_rfl)) (fun _ _ _ h => h) (Or.inl ⟨by rfl, ?_⟩) ?_ ?_
        rotate_left; · intro w'; go_simp; with_reducible rfl
        rotate_left; · simp only [Act.put, List.setIfInBounds_toArray, List.set_cons_zero, List.set_cons_succ, i64_w, i32_w]; rfl
        refine pure_ (i := 5) (N := some 22) (v := ?_) (a' := ?_) #[true,true,true,false,true,true,false,false,false,false] rfl rfl (any_of HT_.out (by kernel_rfl)) (fun _ _ _ h => h) (Or.inl ⟨by rfl, ?_⟩) ?_ ?_
        rotate_left; · intro w'; go_simp; with_reducible rfl
        rotate_left; · simp only [Act.put, List.setIfInBounds_toArray, List.set_cons_zero, List.set_cons_succ, i64_w, i32_w]; rfl
        refine pure_ (i := 6) (N := some 23) (v := ?_) (a' := ?_) #[true,true,true,false,true,true,true,false,false,false] rfl rfl (any_of HT_.out (by kernel_rfl)) (fun _ _ _ h => h) (Or.inl ⟨by rfl, ?_⟩) ?_ ?_
        rotate_left; · intro w'; go_simp; with_reducible rfl
        rotate_left; · simp only [Act.put, List.setIfInBounds_toArray, List.set_cons_zero, List.set_cons_succ, i64_w, i32_w]; rfl
        refine take_ (i := 3) (N := some 20) (v := ?_) (a' := ?_) #[true,true,true,true,true,true,true,false,false,false] rfl rfl (take_ofW HT_.out HW_.out (by kernel_rfl)) (fun _ _ _ h => h) (Or.inl ⟨by rfl, ?_⟩) hHeld ?_ ?_
        rotate_left; · rintro w' ⟨s0, s1, s2, s3⟩; go_simp; with_reducible rfl
        rotate_left; · simp only [Act.put, List.setIfInBounds_toArray, List.set_cons_zero, List.set_cons_succ, i64_w, i32_w]; rfl
        refine take_ (i := 7) (N := some 24) (v := ?_) (a' := ?_) #[true,true,true,true,true,true,true,true,false,false] rfl rfl (take_ofW HT_.out HW_.out (by kernel_rfl)) (fun _ _ _ h => h) (Or.inl ⟨by rfl, ?_⟩) hHeld ?_ ?_
        rotate_left; · rintro w' ⟨s0, s1, s2, s3⟩; go_simp; with_reducible rfl
        rotate_left; · simp only [Act.put, List.setIfInBounds_toArray, List.set_cons_zero, List.set_cons_succ, i64_w, i32_w]; rfl
        refine one_ (i := 8) (N := some 25) #[true,true,true,true,true,true,true,true,true,false] rfl rfl (one_of HT_.out (by kernel_rfl)) (by decide) (fun K hK => ?_)
        refine goes_ Try.func65 (by kernel_rfl) rfl #[.agg #[.int .i64 ((rd_T53 l0 x5_1).f0), .int .i64 ((rd_T53 l0 x5_1).f1)], .agg #[.int .i64 ((rd_T53 l1 x5_1).f0), .int .i64 ((rd_T53 l1 x5_1).f1)]] (by rfl) rfl rfl (by (try simp only [List.map_toArray, List.map_cons, List.map_nil]); first | done | rfl | (simp only [List.length_drop, List.length_take]; rfl)) ?_
        with_reducible refine (laws_eqPair.calls ((rd_T53 l0 x5_1).f0) ((rd_T53 l0 x5_1).f1) ((rd_T53 l1 x5_1).f0) ((rd_T53 l1 x5_1).f1) true _ A7.out).mono ?_
        rintro e w10 ⟨rfl, hb⟩
        refine ⟨_, rfl, ?_⟩
        have n0_ := Aside0.mk (below_step (by repeat (first | (with_reducible first | exact HB.out | apply below_alloc | apply pw_below_drewN | apply below_drew1) | exact HB.out)) hb)
        clear HB
        have HB := n0_
        clear n0_
        (try clear hb)
        (try clear hb2)
        (try clear hk)
        (try clear hi)
        refine hK.out _ _ ⟨((HB.out.cell (World.block_lt_of_cell? w _ hw108_0)).trans hw108_0), ((HB.out.cell (World.block_lt_of_cell? w _ hw108_1)).trans hw108_1), ((HB.out.cell (World.block_lt_of_cell? w _ hw109_0)).trans hw109_0), ((HB.out.cell (World.block_lt_of_cell? w _ hw109_1)).trans hw109_1)⟩ (fun hHeld => ?_)
        clear hK K
        refine norm_ (a' := ?_) ?_ ?_
        rotate_left
        ·show Act.put _ (some 25) _ = _
         simp only [Act.put, List.setIfInBounds_toArray, List.set_cons_zero, List.set_cons_succ, i64_w, i32_w]
         rfl
        refine pure_ (i := 9) (N := some 26) (v := ?_) (a' := ?_) #[true,true,true,true,true,true,true,true,true,true] rfl rfl (any_of HT_.out (by kernel_rfl)) (fun _ _ _ h => h) (Or.inl ⟨by rfl, ?_⟩) ?_ ?_
        rotate_left; · intro w'; go_simp; with_reducible rfl
        rotate_left; · simp only [Act.put, List.setIfInBounds_toArray, List.set_cons_zero, List.set_cons_succ, i64_w, i32_w]; rfl
        refine done_ (done_of HT_.out (by kernel_rfl)) ?_
        try go_wp2
        go_roundg k1
        case measure => have := HK1.out; omega
        case rel => exact ⟨(wrap64 (x5_1 + 1)), (by first | rfl | (simp; done) | (simp [*]; done)), H', ⟨by have := HK1.out; omega⟩, ⟨by repeat (first | (with_reducible first | exact HB.out | apply below_alloc | apply pw_below_drewN | apply below_drew1) | exact HB.out)⟩⟩
       ·replace c8 := Bool.eq_false_iff.mpr c8
        subst c8
        have H1 : (some false) = some r := by rw [if_neg (show ¬ (false = true) by decide)] at H; exact H
        clear H
        have H := H1
        clear H1
        obtain rfl := Option.some.inj H
        try go_wp2
        have n0_ := Aside0.mk (below_drew1 HB.out)
        clear HB
        have HB := n0_
        clear n0_
        have p108 : 0 ≤ (x5_1 : Int) := of_decide_eq_true (by first | (with_reducible assumption) | assumption)
        have q108 : x5_1 < (l0.length : Int) := of_decide_eq_true (by first | (with_reducible assumption) | assumption)
        obtain ⟨ad108, e108, hx108_0, hx108_1⟩ := at_T53 HR0.out x5_1 p108 q108
        have hw108_1 := hx108_1
        have hw108_0 := hx108_0
        cases e108
        replace hx108_0 := (HB.out.cell (World.block_lt_of_cell? w _ hx108_0)).trans hx108_0
        replace hx108_1 := (HB.out.cell (World.block_lt_of_cell? w _ hx108_1)).trans hx108_1
        replace p108 := eq_true p108
        replace q108 := eq_true q108
        have p109 : 0 ≤ (x5_1 : Int) := of_decide_eq_true (by first | (with_reducible assumption) | assumption)
        have q109 : x5_1 < (l1.length : Int) := of_decide_eq_true (by first | (with_reducible assumption) | assumption)
        obtain ⟨ad109, e109, hx109_0, hx109_1⟩ := at_T53 HR1.out x5_1 p109 q109
        have hw109_1 := hx109_1
        have hw109_0 := hx109_0
        cases e109
        replace hx109_0 := (HB.out.cell (World.block_lt_of_cell? w _ hx109_0)).trans hx109_0
        replace hx109_1 := (HB.out.cell (World.block_lt_of_cell? w _ hx109_1)).trans hx109_1
        replace p109 := eq_true p109
        replace q109 := eq_true q109
        refine start_ (n := 10) (S := fun w' => w'.cell? (ad108.add ((x5_1).toNat * 2)) = some (.int .i64 ((rd_T53 l0 x5_1).f0)) ∧ w'.cell? ⟨(ad108.add ((x5_1).toNat * 2)).block, (ad108.add ((x5_1).toNat * 2)).off + 1, none⟩ = some (.int .i64 ((rd_T53 l0 x5_1).f1)) ∧ w'.cell? (ad109.add ((x5_1).toNat * 2)) = some (.int .i64 ((rd_T53 l1 x5_1).f0)) ∧ w'.cell? ⟨(ad109.add ((x5_1).toNat * 2)).block, (ad109.add ((x5_1).toNat * 2)).off + 1, none⟩ = some (.int .i64 ((rd_T53 l1 x5_1).f1))) (ds := []) #[false,false,false,false,false,false,false,false,false,false] (by kernel_rfl) rfl rfl ⟨((HB.out.cell (World.block_lt_of_cell? w _ hw108_0)).trans hw108_0), ((HB.out.cell (World.block_lt_of_cell? w _ hw108_1)).trans hw108_1), ((HB.out.cell (World.block_lt_of_cell? w _ hw109_0)).trans hw109_0), ((HB.out.cell (World.block_lt_of_cell? w _ hw109_1)).trans hw109_1)⟩ (fun hHeld => ?_); refine with_tabW laws_eqPairS.tab6 laws_eqPairS.bits6 (fun HT_ HW_ => ?_)
        generalize wr.drew = w11 at HB hx108_0 hx108_1 hx109_0 hx109_1 hHeld ⊢
        refine pure_ (i := 0) (N := some 17) (v := ?_) (a' := ?_) #[true,false,false,false,false,false,false,false,false,false] rfl rfl (any_of HT_.out (by kernel_rfl)) (fun _ _ _ h => h) (Or.inl ⟨by rfl, ?_⟩) ?_ ?_
        rotate_left; · intro w'; go_simp; with_reducible rfl
        rotate_left; · simp only [Act.put, List.setIfInBounds_toArray, List.set_cons_zero, List.set_cons_succ, i64_w, i32_w]; rfl
        refine pure_ (i := 1) (N := some 18) (v := ?_) (a' := ?_) #[true,true,false,false,false,false,false,false,false,false] rfl rfl (any_of HT_.out (by kernel_rfl)) (fun _ _ _ h => h) (Or.inl ⟨by rfl, ?_⟩) ?_ ?_
        rotate_left; · intro w'; go_simp; with_reducible rfl
        rotate_left; · simp only [Act.put, List.setIfInBounds_toArray, List.set_cons_zero, List.set_cons_succ, i64_w, i32_w]; rfl
        refine pure_ (i := 2) (N := some 19) (v := ?_) (a' := ?_) #[true,true,true,false,false,false,false,false,false,false] rfl rfl (any_of HT_.out (by kernel_rfl)) (fun _ _ _ h => h) (Or.inl ⟨by rfl, ?_⟩) ?_ ?_
        rotate_left; · intro w'; go_simp; with_reducible rfl
        rotate_left; · simp only [Act.put, List.setIfInBounds_toArray, List.set_cons_zero, List.set_cons_succ, i64_w, i32_w]; rfl
        refine pure_ (i := 4) (N := some 21) (v := ?_) (a' := ?_) #[true,true,true,false,true,false,false,false,false,false] rfl rfl (any_of HT_.out (by kernel_rfl)) (fun _ _ _ h => h) (Or.inl ⟨by rfl, ?_⟩) ?_ ?_
        rotate_left; · intro w'; go_simp; with_reducible rfl
        rotate_left; · simp only [Act.put, List.setIfInBounds_toArray, List.set_cons_zero, List.set_cons_succ, i64_w, i32_w]; rfl
        refine pure_ (i := 5) (N := some 22) (v := ?_) (a' := ?_) #[true,true,true,false,true,true,false,false,false,false] rfl rfl (any_of HT_.out (by kernel_rfl)) (fun _ _ _ h => h) (Or.inl ⟨by rfl, ?_⟩) ?_ ?_
        rotate_left; · intro w'; go_simp; with_reducible rfl
        rotate_left; · simp only [Act.put, List.setIfInBounds_toArray, List.set_cons_zero, List.set_cons_succ, i64_w, i32_w]; rfl
        refine pure_ (i := 6) (N := some 23) (v := ?_) (a' := ?_) #[true,true,true,false,true,true,true,false,false,false] rfl rfl (any_of HT_.out (by kernel_rfl)) (fun _ _ _ h => h) (Or.inl ⟨by rfl, ?_⟩) ?_ ?_
        rotate_left; · intro w'; go_simp; with_reducible rfl
        rotate_left; · simp only [Act.put, List.setIfInBounds_toArray, List.set_cons_zero, List.set_cons_succ, i64_w, i32_w]; rfl
        refine take_ (i := 3) (N := some 20) (v := ?_) (a' := ?_) #[true,true,true,true,true,true,true,false,false,false] rfl rfl (take_ofW HT_.out HW_.out (by kernel_rfl)) (fun _ _ _ h => h) (Or.inl ⟨by rfl, ?_⟩) hHeld ?_ ?_
        rotate_left; · rintro w' ⟨s0, s1, s2, s3⟩; go_simp; with_reducible rfl
        rotate_left; · simp only [Act.put, List.setIfInBounds_toArray, List.set_cons_zero, List.set_cons_succ, i64_w, i32_w]; rfl
        refine take_ (i := 7) (N := some 24) (v := ?_) (a' := ?_) #[true,true,true,true,true,true,true,true,false,false] rfl rfl (take_ofW HT_.out HW_.out (by kernel_rfl)) (fun _ _ _ h => h) (Or.inl ⟨by rfl, ?_⟩) hHeld ?_ ?_
        rotate_left; · rintro w' ⟨s0, s1, s2, s3⟩; go_simp; with_reducible rfl
        rotate_left; · simp only [Act.put, List.setIfInBounds_toArray, List.set_cons_zero, List.set_cons_succ, i64_w, i32_w]; rfl
        refine one_ (i := 8) (N := some 25) #[true,true,true,true,true,true,true,true,true,false] rfl rfl (one_of HT_.out (by kernel_rfl)) (by decide) (fun K hK => ?_)
        refine goes_ Try.func65 (by kernel_rfl) rfl #[.agg #[.int .i64 ((rd_T53 l0 x5_1).f0), .int .i64 ((rd_T53 l0 x5_1).f1)], .agg #[.int .i64 ((rd_T53 l1 x5_1).f0), .int .i64 ((rd_T53 l1 x5_1).f1)]] (by rfl) rfl rfl (by (try simp only [List.map_toArray, List.map_cons, List.map_nil]); first | done | rfl | (simp only [List.length_drop, List.length_take]; rfl)) ?_
        with_reducible refine (laws_eqPair.calls ((rd_T53 l0 x5_1).f0) ((rd_T53 l0 x5_1).f1) ((rd_T53 l1 x5_1).f0) ((rd_T53 l1 x5_1).f1) false _ A7.out).mono ?_
        rintro e w12 ⟨rfl, hb⟩
        refine ⟨_, rfl, ?_⟩
        have n0_ := Aside0.mk (below_step (by repeat (first | (with_reducible first | exact HB.out | apply below_alloc | apply pw_below_drewN | apply below_drew1) | exact HB.out)) hb)
        clear HB
        have HB := n0_
        clear n0_
        (try clear hb)
        (try clear hb2)
        (try clear hk)
        (try clear hi)
        refine hK.out _ _ ⟨((HB.out.cell (World.block_lt_of_cell? w _ hw108_0)).trans hw108_0), ((HB.out.cell (World.block_lt_of_cell? w _ hw108_1)).trans hw108_1), ((HB.out.cell (World.block_lt_of_cell? w _ hw109_0)).trans hw109_0), ((HB.out.cell (World.block_lt_of_cell? w _ hw109_1)).trans hw109_1)⟩ (fun hHeld => ?_)
        clear hK K
        refine norm_ (a' := ?_) ?_ ?_
        rotate_left
        ·show Act.put _ (some 25) _ = _
         simp only [Act.put, List.setIfInBounds_toArray, List.set_cons_zero, List.set_cons_succ, i64_w, i32_w]
         rfl
        refine pure_ (i := 9) (N := some 26) (v := ?_) (a' := ?_) #[true,true,true,true,true,true,true,true,true,true] rfl rfl (any_of HT_.out (by kernel_rfl)) (fun _ _ _ h => h) (Or.inl ⟨by rfl, ?_⟩) ?_ ?_
        rotate_left; · intro w'; go_simp; with_reducible rfl
        rotate_left; · simp only [Act.put, List.setIfInBounds_toArray, List.set_cons_zero, List.set_cons_succ, i64_w, i32_w]; rfl
        refine done_ (done_of HT_.out (by kernel_rfl)) ?_
        try go_wp2
        go_ret
        exact ⟨by first | rfl | (simp [errW_none, errW_some] <;> rfl) | (simp [*, errW_none, errW_some] <;> rfl), by repeat (first | (with_reducible first | exact HB.out | apply below_alloc | apply pw_below_drewN | apply below_drew1) | exact HB.out)⟩
      ·rw [if_neg c6] at H
       exact absurd H (by simp)
     ·rw [if_neg c5] at H
      exact absurd H (by simp)
    ·rw [if_neg c4] at H
     have c4b0 : decide (x5_1 < (l0.length : Int)) = false := decide_eq_false c4
     clear c4
     obtain rfl := Option.some.inj H
     go_wp2
     go_ret
     exact ⟨by first | rfl | (simp [errW_none, errW_some] <;> rfl) | (simp [*, errW_none, errW_some] <;> rfl), by repeat (first | (with_reducible first | exact HB.out | apply below_alloc | apply pw_below_drewN | apply below_drew1) | exact HB.out)⟩
 ·rw [if_neg c3] at H
  have c3b0 : ((l0.length : Int) == (l1.length : Int)) = false := beq_eq_false_iff_ne.mpr c3
  have c3b1 : ((l0.length : Int) != (l1.length : Int)) = true := bne_iff_ne.mpr c3
  have c3b2 : (l0.length == l1.length) = false := by first | simpa using c3 | (simp at c3 ⊢; omega)
  obtain rfl := Option.some.inj H
  go_enter Try.func24, Try.ntmps24
  go_wp2
  go_ret
  exact ⟨by first | rfl | (simp [errW_none, errW_some] <;> rfl) | (simp [*, errW_none, errW_some] <;> rfl), by repeat (first | (with_reducible first | exact HB.out | apply below_alloc | apply pw_below_drewN | apply below_drew1) | exact HB.out)⟩

end Go.Proofs.Ytniikppojffiaaa.C
end

section
/- The laws' helpers over rows of pairs, in one form. -/
namespace Go.Proofs.Ytniikppojffiaaa.K
open Go.RowKit Go.Shelf Go.Proofs.Ytniikppojffiaaa.Q Go.Proofs.Ytniikppojffiaaa.C Go.Proofs.Ytniikppojffiaaa.X Go.Proofs.YtniikppojffiaaaW.PrintWords Go.Proofs.YtniikppojffiaaaW.PrintLast Go.Proofs.YtniikppojffiaaaW.PrintMore
set_option linter.unusedVariables false
set_option linter.unusedSimpArgs false

/-- The arguments' pairs, as the laws read them. -/
def toA (p : PairT) : S51 := ⟨p.f0, p.f1⟩
theorem Kq_toA {w : World} {A : Option Addr} {n : Nat} {l : List PairT} (h : Kq.C w A n l) : Kd.C k51 w A (l.map toA).length (l.map toA) := by
  have hn := h.1
  refine ⟨rfl, by rw [List.length_map, hn]; exact h.2.1, fun h0 => ?_⟩
  rw [List.length_map] at h0
  obtain ⟨ad, e, hc⟩ := h.2.2 (by omega)
  refine ⟨ad, e, fun j p hj => ?_⟩
  rw [List.getElem?_map, Option.map_eq_some_iff] at hj
  obtain ⟨q, hq, rfl⟩ := hj
  obtain ⟨cs, h1, h2, h3⟩ := hc j q hq
  refine ⟨cs, h1, ?_, h3⟩
  rw [k53_open h2]
  exact k51_mk w (toA q)
theorem szPairS_is (l : List PairT) (a : Int) (ha : 0 ≤ a ∧ a ≤ 1048576) (hl : l.length ≤ 9223372036854775807) : laws_szPairS.f (l.map toA) a = some (if a < l.length then -1 else a - l.length) := by
  unfold laws_szPairS.f
  rw [List.length_map]
  by_cases h : a < (l.length : Int)
  · rw [if_pos h]
    by_cases h2 : (wrap64 (a - (l.length : Int))) < 0
    · rw [if_pos h2]
    · exfalso; rw [w64 _ (by omega) (by omega)] at h2; omega
  · rw [if_neg h, w64 _ (by omega) (by omega), if_neg (by omega)]
theorem toPairS_loop (l : List PairT) (hl : l.length ≤ 2097152) : ∀ (d i k : Nat), l.length - i = d → i ≤ l.length → d < k → laws_toPairS.l0 k (l.map toA) (l.take i ++ List.replicate (l.length - i) z53) (i : Int) = some l := by
  intro d
  induction d with
  | zero =>
    intro i k he hi hk
    obtain ⟨k, rfl⟩ : ∃ m, k = m + 1 := ⟨k - 1, by omega⟩
    obtain rfl : i = l.length := by omega
    simp only [laws_toPairS.l0]
    rw [if_neg (by rw [List.length_map]; omega)]
    simp
  | succ d ih =>
    intro i k he hi hk
    obtain ⟨k, rfl⟩ : ∃ m, k = m + 1 := ⟨k - 1, by omega⟩
    have hil : i < l.length := by omega
    simp only [laws_toPairS.l0]
    have hr : rd_T51 (l.map toA) (i : Int) = toA l[i] := by simp [rd_T51, hil]
    rw [if_pos (by rw [List.length_map]; omega), if_pos (by omega), hr]
    simp only [laws_toPair.f, Option.bind_some]
    rw [if_pos (by simp; omega), w64 ((i : Int) + 1) (by omega) (by omega), nat_succ, Int.toNat_natCast]
    have hs : (l.take i ++ List.replicate (l.length - i) z53).set i (⟨(toA l[i]).f0, (toA l[i]).f1⟩ : PairT) = l.take (i + 1) ++ List.replicate (l.length - (i + 1)) z53 := by
      rw [show l.length - i = (l.length - (i + 1)) + 1 by omega, List.replicate_succ, List.set_append_right _ _ (by rw [List.length_take]; omega), List.length_take, Nat.min_eq_left hi, Nat.sub_self, List.set_cons_zero, List.take_succ_eq_append_getElem hil, List.append_assoc]
      rfl
    rw [hs]
    exact ih (i + 1) k (by omega) (by omega) (by omega)
theorem toPairS_is (l : List PairT) (hl : l.length ≤ 2097152) (k : Nat) (hk : l.length < k) : laws_toPairS.f k (l.map toA) = some l := by
  unfold laws_toPairS.f
  rw [List.length_map, if_pos (by omega), if_pos (by omega), Int.toNat_natCast]
  have := toPairS_loop l hl l.length 0 k (by omega) (by omega) hk
  simpa using this
theorem eqPairS_loop (l : List PairT) (hl : l.length ≤ 9223372036854775807) : ∀ (d i k : Nat), l.length - i = d → i ≤ l.length → d < k → laws_eqPairS.l0 k l l (i : Int) = some true := by
  intro d
  induction d with
  | zero =>
    intro i k he hi hk
    obtain ⟨k, rfl⟩ : ∃ m, k = m + 1 := ⟨k - 1, by omega⟩
    obtain rfl : i = l.length := by omega
    simp only [laws_eqPairS.l0]
    rw [if_neg (by omega)]
  | succ d ih =>
    intro i k he hi hk
    obtain ⟨k, rfl⟩ : ∃ m, k = m + 1 := ⟨k - 1, by omega⟩
    simp only [laws_eqPairS.l0]
    rw [if_pos (by omega), if_pos (by omega), if_pos (by omega)]
    simp only [laws_eqPair.f, Option.bind_some, beq_self_eq_true, Bool.and_self, if_true]
    rw [w64 ((i : Int) + 1) (by omega) (by omega), nat_succ]
    exact ih (i + 1) k (by omega) (by omega) (by omega)
theorem eqPairS_is (l : List PairT) (hl : l.length ≤ 9223372036854775807) (k : Nat) (hk : l.length < k) : laws_eqPairS.f k l l = some true := by
  unfold laws_eqPairS.f
  rw [if_pos rfl]
  exact eqPairS_loop l hl l.length 0 k (by omega) (by omega) hk

theorem szP_calls (A : Option Addr) (c : Nat) (l : List PairT) (a : Int) (ha : 0 ≤ a ∧ a ≤ 1048576) (w : World) (hr : Kq.C w A l.length l) (hc : l.length ≤ c) :
    Calls Try.prog 18 #[.slice A l.length c, I a] w fun e w' => e = .returned (I (if a < l.length then -1 else a - l.length)) ∧ Grew w w' := by
  have h := laws_szPairS.calls A c (l.map toA) a _ w (Kq_toA hr) (by rw [List.length_map]; exact hc) (szPairS_is l a ha hr.2.1)
  rw [List.length_map] at h
  exact h.mono fun e w' ⟨he, hd⟩ => ⟨he, hd.below⟩
theorem toP_calls (A : Option Addr) (c : Nat) (l : List PairT) (w : World) (hr : Kq.C w A l.length l) (hc : l.length ≤ c) (hl : l.length ≤ 2097152) :
    Calls Try.prog 21 #[.slice A l.length c] w fun e w' => ∃ A' c', e = .returned (.slice A' l.length c') ∧ PRow w' w.heap.size w'.heap.size (.slice A' l.length c') l ∧ Grew w w' := by
  have h := laws_toPairS.calls (l.length + 1) A c (l.map toA) l w (Kq_toA hr) (by rw [List.length_map]; exact hc) (toPairS_is l hl _ (Nat.lt_succ_self _))
  rw [List.length_map] at h
  refine h.mono ?_
  rintro e w' ⟨v, rfl, hR, hG⟩
  obtain ⟨A', c', rfl⟩ := Kd.R_slice hR
  exact ⟨A', c', rfl, PRow.of_R hR, hG⟩
theorem eqP_calls (l : List PairT) (A1 A2 : Option Addr) (c1 c2 m1 m2 lo1 hi1 lo2 hi2 : Nat) (w : World) (h1 : PRow w lo1 hi1 (.slice A1 m1 c1) l) (h2 : PRow w lo2 hi2 (.slice A2 m2 c2) l) :
    Calls Try.prog 24 #[.slice A1 m1 c1, .slice A2 m2 c2] w fun e w' => e = .returned (.bool true) ∧ Grew w w' := by
  obtain ⟨rfl, k1, r1⟩ := h1.slice
  obtain ⟨rfl, k2, r2⟩ := h2.slice
  exact laws_eqPairS.calls (l.length + 1) A1 c1 l A2 c2 l true w r1 k1 r2 k2 (eqPairS_is l r1.2.1 _ (Nat.lt_succ_self _))

/-- The marks from a on, two a pair. -/
def pmarks (a : Int) (m : Nat) : List PairT := (List.range m).map fun (i : Nat) => ⟨a + 2 * (i : Int), a + 2 * (i : Int) + 1⟩
theorem pmarks_succ (a : Int) (m : Nat) : pmarks a (m + 1) = pmarks a m ++ [⟨a + 2 * (m : Int), a + 2 * (m : Int) + 1⟩] := by simp [pmarks, List.range_succ]
theorem Kept.setCell {w w' : World} {S : Nat → Prop} (h : Kept w w' S) {g o : Nat} (hg : S g) (u : Value) : Kept w (w'.setCell ⟨g, o, none⟩ u) S :=
  ⟨by simpa [World.setCell] using h.1, fun k hk hs => (Below.heap_setCell w' _ u k (fun e => hs (by rw [e]; exact hg))).trans (h.2 k hk hs)⟩

set_option maxRecDepth 100000 in
set_option maxHeartbeats 8000000 in
theorem markP_calls (A : Option Addr) (m c : Nat) (l : List PairT) (a : Int) (ha : 0 ≤ a ∧ a ≤ 1000000000) (hl : l.length ≤ 100000000) (lo hi : Nat) (w0 w : World) (hB : Below w0.heap.size w0 w) (hlo : w0.heap.size ≤ lo) (h : PRow w lo hi (.slice A m c) l) :
    Calls Try.prog 29 #[.slice A m c, I a] w fun e w' => e = .returned (I (a + 2 * (l.length : Int))) ∧ PRow w' lo hi (.slice A m c) (pmarks a l.length) ∧ Below w0.heap.size w0 w' ∧ Kept w w' (fun k => lo ≤ k ∧ k < hi) := by
  obtain ⟨rfl, hmc, _⟩ := h.slice
  have HB := Aside0.mk hB
  have HR := Aside0.mk h
  clear hB h
  by_cases h0 : l.length = 0
  · have hl0 : l = [] := List.length_eq_zero_iff.1 h0
    subst hl0
    go_enter Try.func29, Try.ntmps29
    go_wp2
    refine wp_loop_rounds 1 ?_
    rw [rounds_succ]
    go_wp2
    go_ret
    exact ⟨by simp, HR.out, HB.out, Kept.of_below (Grew.refl w) _⟩
  · obtain ⟨G, c2, e, hG0, hG1, _⟩ := Kd.R_form HR.out (by omega)
    injection e with e1 e2 e3
    subst e1 e3
    clear e2
    have hok : lo ≤ G ∧ G < hi := HR.out.1 G (by simp [Value.ownBlock])
    go_enter Try.func29, Try.ntmps29
    go_wp2
    go_loopg [1, 5, 6] l.length (fun gg s1 s5 _ wr => ∃ (i : Nat) (xs : List PairT), i ≤ l.length ∧ l.length - i ≤ gg ∧ s5 = .int .i64 i ∧ s1 = .int .i64 (a + 2 * (i : Int)) ∧ Aside0 (xs.length = l.length) ∧ Aside0 (xs.take i = pmarks a i) ∧
      Aside0 (PRow wr lo hi (.slice (some ⟨G, 0, none⟩) l.length c) xs) ∧ Aside0 (Below w0.heap.size w0 wr) ∧ Aside0 (Kept w wr (fun k => lo ≤ k ∧ k < hi)))
    case atStart => exact ⟨0, l, Nat.zero_le _, by omega, rfl, by simp, ⟨rfl⟩, ⟨rfl⟩, HR, HB, ⟨Kept.of_below (Grew.refl w) _⟩⟩
    case round =>
      obtain ⟨i, xs, hi1, hg, rfl, rfl, hx, hT, hR, hBr, hK⟩ := hrel
      by_cases hlt : i < l.length
      · have hltz : (i : Int) < (l.length : Int) := by omega
        have hix : i < xs.length := by rw [hx.out]; exact hlt
        obtain ⟨k0, k1, k2, k3⟩ := Kq_cells hR.out i hix
        have HW := Aside0.mk (Kq_put1 (Kq_put0 hR.out i hix (a + 2 * (i : Int))) i (by rw [List.length_set]; exact hix) (a + 2 * (i : Int) + 1))
        have hlo2 : lo ≤ G := hok.1
        go_wp2
        refine wp_loop_rounds 3 ?_
        rw [rounds_succ]
        go_wp2
        rw [rounds_succ]
        go_wp2
        rw [rounds_succ]
        go_wp2
        go_roundg (l.length - (i + 1))
        case measure => omega
        case rel =>
          refine ⟨i + 1, (xs.set i ⟨a + 2 * (i : Int), xs[i].f1⟩).set i ⟨a + 2 * (i : Int), a + 2 * (i : Int) + 1⟩, by omega, by omega, by go_num, ?_, ⟨by rw [List.length_set, List.length_set]; exact hx.out⟩, ⟨?_⟩, ⟨?_⟩, ⟨?_⟩, ⟨?_⟩⟩
          · congr 1; omega
          · rw [pmarks_succ, List.take_succ_eq_append_getElem (by rw [List.length_set, List.length_set]; exact hix), List.take_set, List.take_set, List.getElem_set_self]
            rw [List.set_eq_of_length_le (by simp; omega), List.set_eq_of_length_le (by simp; omega), hT.out]
          · have := HW.out
            rw [List.getElem_set_self] at this
            exact this
          · exact Below.setCell (Below.setCell hBr.out (by show _ ≤ G; omega) _) (by show _ ≤ G; omega) _
          · exact Kept.setCell (Kept.setCell hK.out hok _) hok _
      · have hltz : ¬ (i : Int) < (l.length : Int) := by omega
        have HE : Aside0 (i = l.length) := ⟨by omega⟩
        have HXS : Aside0 (xs = pmarks a l.length) := ⟨by have := hT.out; rwa [HE.out, ← hx.out, List.take_length, hx.out] at this⟩
        go_wp2
        go_ret
        exact ⟨by rw [HE.out]; rfl, by rw [← HXS.out]; exact hR.out, hBr.out, hK.out⟩

end Go.Proofs.Ytniikppojffiaaa.K
end

section
/- comparePairs. -/
namespace Go.Proofs.Ytniikppojffiaaa.K
open Go.RowKit Go.Shelf Go.Proofs.Ytniikppojffiaaa.Q Go.Proofs.YtniikppojffiaaaW.PrintWords Go.Proofs.YtniikppojffiaaaW.PrintLast Go.Proofs.YtniikppojffiaaaW.PrintMore
set_option linter.unusedVariables false
set_option linter.unusedSimpArgs false

/-- How two numbers compare. -/
def cmp1 (a c : Int) : Int := if a < c then -1 else if c < a then 1 else 0
set_option maxHeartbeats 1000000 in
theorem cmp_calls (a c : Int) (w : World) : Calls Try.prog 178 #[I a, I c] w fun e w' => e = .returned (I (cmp1 a c)) ∧ Grew w w' := by
  unfold cmp1
  rcases Int.lt_trichotomy a c with h | h | h
  · rw [if_pos h]
    go_enter Try.func178, Try.ntmps178
    go_wp2
    all_goals (try go_ret)
    all_goals exact ⟨rfl, by repeat (first | exact Grew.refl w | apply below_drew | apply pw_below_drewN | apply below_alloc)⟩
  · subst h
    rw [if_neg (by omega), if_neg (by omega)]
    go_enter Try.func178, Try.ntmps178
    go_wp2
    all_goals (try go_ret)
    all_goals exact ⟨rfl, by repeat (first | exact Grew.refl w | apply below_drew | apply pw_below_drewN | apply below_alloc)⟩
  · rw [if_neg (by omega), if_pos h]
    go_enter Try.func178, Try.ntmps178
    go_wp2
    all_goals (try go_ret)
    all_goals exact ⟨rfl, by repeat (first | exact Grew.refl w | apply below_drew | apply pw_below_drewN | apply below_alloc)⟩

/-- How two pairs compare. -/
def cmp2 (a b c d : Int) : Int := if cmp1 a c = 0 then cmp1 b d else cmp1 a c
theorem cmp1_cases (a c : Int) : cmp1 a c = -1 ∨ cmp1 a c = 0 ∨ cmp1 a c = 1 := by unfold cmp1; split <;> (try split) <;> simp
set_option maxRecDepth 100000 in
set_option maxHeartbeats 4000000 in
theorem Compare_calls (a b c d : Int) (B1 B2 : Nat) (w : World) (h1 : w.cell? ⟨B1, 0, none⟩ = some (I a)) (h2 : w.cell? ⟨B1, 1, none⟩ = some (I b)) (h3 : w.cell? ⟨B2, 0, none⟩ = some (I c)) (h4 : w.cell? ⟨B2, 1, none⟩ = some (I d)) :
    Calls Try.prog 149 #[.slice (some ⟨B1, 0, none⟩) 2 2, .slice (some ⟨B2, 0, none⟩) 2 2] w fun e w' => e = .returned (I (cmp2 a b c d)) ∧ Grew w w' := by
  have l1 := World.block_lt_of_cell? w _ h1
  have l2 := World.block_lt_of_cell? w _ h3
  have H := Aside0.mk (cmp_calls a c w)
  have H2 := Aside0.mk (fun w => cmp_calls b d w)
  unfold cmp2
  obtain ⟨x, hx⟩ : ∃ x, x = cmp1 a c := ⟨_, rfl⟩
  have hc : x = -1 ∨ x = 0 ∨ x = 1 := by rw [hx]; exact cmp1_cases a c
  rw [← hx] at H ⊢
  clear hx
  by_cases hz : x = 0
  · subst hz
    have hi : ∀ u v : Int, (if (0 : Int) = 0 then u else v) = u := fun u v => if_pos rfl
    rw [hi]
    clear hc hi
    obtain ⟨y, hy⟩ : ∃ y, y = cmp1 b d := ⟨_, rfl⟩
    have hc : y = -1 ∨ y = 0 ∨ y = 1 := by rw [hy]; exact cmp1_cases b d
    rw [← hy] at H2 ⊢
    clear hy
    by_cases hz2 : y = 0
    · subst hz2
      clear hc
      go_enter Try.func149, Try.ntmps149
      go_wp2_with fail
      refine wp_loop_rounds 3 ?_
      rw [rounds_succ]
      go_wp2_with fail
      refine H.out.mono ?_
      rintro e w1 ⟨rfl, hG1⟩
      have m2 : w1.cell? ⟨B1, 1, none⟩ = some (I b) := (Below.cell hG1 (p := ⟨B1, 1, none⟩) l1).trans h2
      have m4 : w1.cell? ⟨B2, 1, none⟩ = some (I d) := (Below.cell hG1 (p := ⟨B2, 1, none⟩) l2).trans h4
      go_wp2_with fail
      rw [rounds_succ]
      go_wp2_with fail
      refine (H2.out w1).mono ?_
      rintro e w2 ⟨rfl, hG2⟩
      go_wp2_with fail
      rw [rounds_succ]
      go_wp2_with fail
      go_ret
      exact ⟨rfl, Grew.trans hG1 hG2⟩
    · have hyn : (y != 0) = true := by simp [hz2]
      go_enter Try.func149, Try.ntmps149
      go_wp2_with fail
      refine wp_loop_rounds 3 ?_
      rw [rounds_succ]
      go_wp2_with fail
      refine H.out.mono ?_
      rintro e w1 ⟨rfl, hG1⟩
      have m2 : w1.cell? ⟨B1, 1, none⟩ = some (I b) := (Below.cell hG1 (p := ⟨B1, 1, none⟩) l1).trans h2
      have m4 : w1.cell? ⟨B2, 1, none⟩ = some (I d) := (Below.cell hG1 (p := ⟨B2, 1, none⟩) l2).trans h4
      go_wp2_with fail
      rw [rounds_succ]
      go_wp2_with fail
      refine (H2.out w1).mono ?_
      rintro e w2 ⟨rfl, hG2⟩
      go_wp2_with fail
      go_ret
      exact ⟨rfl, Grew.trans hG1 hG2⟩
  · have hyn : (x != 0) = true := by simp [hz]
    have HV := Aside0.mk (fun u v : Int => (if_neg hz : (if x = 0 then u else v) = v))
    rw [HV.out]
    go_enter Try.func149, Try.ntmps149
    go_wp2_with fail
    refine wp_loop_rounds 3 ?_
    rw [rounds_succ]
    go_wp2_with fail
    refine H.out.mono ?_
    rintro e w1 ⟨rfl, hG1⟩
    go_wp2_with fail
    go_ret
    exact ⟨rfl, hG1⟩
set_option maxRecDepth 100000 in
set_option maxHeartbeats 4000000 in
theorem comparePairs_calls (a b c d : Int) (w : World) : Calls Try.prog 110 #[.agg #[I a, I b], .agg #[I c, I d]] w fun e w' => e = .returned (I (cmp2 a b c d)) ∧ Grew w w' := by
  obtain ⟨W, hW⟩ : ∃ W, W = (w.alloc (.cells #[I a, I b] 53)).alloc (.cells #[I c, I d] 53) := ⟨_, rfl⟩
  have h1 : W.heap[w.heap.size]? = some (.cells #[I a, I b] 53 (0, 0)) := by rw [hW]; exact blk_alloc (blk_new w _) _
  have h2 : W.heap[w.heap.size + 1]? = some (.cells #[I c, I d] 53 (0, 0)) := by
    rw [hW]
    have := blk_new (w.alloc (.cells #[I a, I b] 53)) (.cells #[I c, I d] 53)
    rwa [World.size_alloc] at this
  have hg : Grew w W := by rw [hW]; exact below_alloc (below_alloc (Grew.refl w) _) _
  have H := Aside0.mk (fun (n : Nat) => Compare_calls a b c d w.heap.size (w.heap.size + 1) (W.drewN n) (blk_cell h1 0) (blk_cell h1 1) (blk_cell h2 0) (blk_cell h2 1))
  have HG := Aside0.mk hg
  clear h1 h2 hg
  subst hW
  go_enter Try.func110, Try.ntmps110
  go_wp2_with fail
  go_region_held3 (fun w' => True) (exact trivial) (first | (go_at_call 149; refine (H.out _).mono ?_; rintro e w1 ⟨rfl, hG1⟩))
  go_wp2_with fail
  go_ret
  exact ⟨rfl, Grew.trans (show Grew w _ by repeat (first | exact HG.out | apply below_drew | apply pw_below_drewN)) hG1⟩

end Go.Proofs.Ytniikppojffiaaa.K
end

section
/- The reference's small functions: ranges, all vertices, numbers of vertices. -/
namespace Go.Proofs.Ytniikppojffiaaa.K
open Go.RowKit Go.Shelf Go.Proofs.Ytniikppojffiaaa.Q Go.Proofs.YtniikppojffiaaaW.PrintWords Go.Proofs.YtniikppojffiaaaW.PrintLast Go.Proofs.YtniikppojffiaaaW.PrintMore
set_option linter.unusedVariables false
set_option linter.unusedSimpArgs false

theorem specIn_is (a b c : Int) : spec_l01In.f a b c = some (decide (b ≤ a ∧ a ≤ c)) := by
  unfold spec_l01In.f
  by_cases h : b ≤ a
  · rw [if_pos (by omega)]; simp [h]
  · rw [if_neg (by omega)]; simp [h]
theorem u64_id (n : Int) (h0 : 0 ≤ n) (h1 : n ≤ 9223372036854775807) : IntKind.u64.wrap n = n := by
  simp [IntKind.wrap, IntKind.signed, IntKind.bits]; omega
theorem specAll_is (n : Int) (h0 : 0 ≤ n) (h6 : n ≤ 62) : spec_l01All.f n = some (fullOf n) := by
  unfold spec_l01All.f fullOf
  have h := two_pow n.toNat 62 (by omega)
  rw [u64_id n h0 (by omega), if_pos h0, shl_one n h0 h6, w64 _ (by omega) (by omega)]

end Go.Proofs.Ytniikppojffiaaa.K
end

section
/- The reference's IsComplex comes to what the program's comes to. -/
namespace Go.Proofs.Ytniikppojffiaaa.K
open Go.RowKit Go.Shelf Go.Proofs.Ytniikppojffiaaa.Q Go.Proofs.YtniikppojffiaaaW.PrintWords Go.Proofs.YtniikppojffiaaaW.PrintLast Go.Proofs.YtniikppojffiaaaW.PrintMore
set_option linter.unusedVariables false
set_option linter.unusedSimpArgs false

theorem specHas_loop (n x : Int) (l : List Int) (hl : l.length ≤ 9223372036854775806) : ∀ (d i k : Nat), l.length - i = d → i ≤ l.length → d < k →
    spec_l01Has.l0 k x (i : Int) n l = some (decide (x ∈ l.drop i)) := by
  intro d
  induction d with
  | zero =>
    intro i k hd hi hk
    obtain ⟨k, rfl⟩ : ∃ m, k = m + 1 := ⟨k - 1, by omega⟩
    obtain rfl : i = l.length := by omega
    simp only [spec_l01Has.l0]
    rw [if_neg (by omega)]
    simp
  | succ d ih =>
    intro i k hd hi hk
    obtain ⟨k, rfl⟩ : ∃ m, k = m + 1 := ⟨k - 1, by omega⟩
    simp only [spec_l01Has.l0]
    have hil : i < l.length := by omega
    rw [if_pos (by omega), if_pos (by omega), rd_nat l i hil, w64 _ (by omega) (by omega), nat_succ, List.drop_eq_getElem_cons hil]
    by_cases h : l[i] = x
    · rw [if_pos h]
      exact congrArg some (decide_eq_true (by rw [h]; exact List.mem_cons_self)).symm
    · rw [if_neg h, ih (i + 1) k (by omega) (by omega) (by omega)]
      exact congrArg some (decide_eq_decide.2 (by rw [List.mem_cons]; constructor <;> intro h2; exact .inr h2; exact h2.resolve_left (fun e => h e.symm)))
theorem specHas_is (n x : Int) (l : List Int) (hl : l.length ≤ 9223372036854775806) (k : Nat) (hk : l.length < k) : spec_l01Has.f k n l x = some (decide (x ∈ l)) := by
  unfold spec_l01Has.f
  have := specHas_loop n x l hl l.length 0 k (by omega) (by omega) hk
  simpa using this

theorem specBelow_64 : ∀ m : Fin 64, m.val ≠ 0 → spec_l01Below.f 64 (m.val : Int) = some (bords (m.val : Int)) := by decide +kernel
theorem specBelow_is (f : Int) (h1 : 1 ≤ f) (h2 : f ≤ 63) (k : Nat) (hk : 64 ≤ k) : spec_l01Below.f k f = some (bords f) := by
  obtain ⟨m, rfl⟩ := Int.eq_ofNat_of_zero_le (show 0 ≤ f by omega)
  exact at_rounds (fun k => spec_l01Below.mono _ k) hk (specBelow_64 ⟨m, by omega⟩ (by show m ≠ 0; omega))

/-- A list that is in range and ascending is ascending. -/
theorem asc_of_good (n : Int) (l : List Int) (h : ∀ j, j < l.length → goodAt n l j) : Asc l := by
  rw [Asc, List.pairwise_iff_getElem]
  intro i j hi hj hij
  induction j with
  | zero => omega
  | succ j ih =>
    have h1 := (h (j + 1) hj hj).2.2 (by omega)
    simp only [Nat.add_sub_cancel] at h1
    rcases Nat.lt_or_ge i j with h2 | h2
    · have := ih (by omega) h2
      omega
    · obtain rfl : i = j := by omega
      exact h1
theorem good_iff (n : Int) (l : List Int) : rangeAsc n l = true ↔ ∀ j, j < l.length → goodAt n l j := by simp [rangeAsc]
theorem specIs_l2 (n : Int) (l : List Int) (hl : l.length ≤ 2097152) (hs : Asc l) (x4 : Int) (bs : List Int) (hb : bs.length ≤ 6) (R : Nat) (r : Bool)
    (hnext : ∀ k, R ≤ k → spec_l01Is.l1 k (wrap64 (x4 + 1)) n l = some r) : ∀ (d i k : Nat), bs.length - i = d → i ≤ bs.length → R + l.length + 1 + d < k →
    spec_l01Is.l2 k x4 bs (i : Int) n l = some ((bs.drop i).all (hasB l) && r) := by
  intro d
  induction d with
  | zero =>
    intro i k hd hi hk
    obtain ⟨k, rfl⟩ : ∃ m, k = m + 1 := ⟨k - 1, by omega⟩
    obtain rfl : i = bs.length := by omega
    simp only [spec_l01Is.l2]
    rw [if_neg (by omega), hnext k (by omega)]
    simp
  | succ d ih =>
    intro i k hd hi hk
    obtain ⟨k, rfl⟩ : ∃ m, k = m + 1 := ⟨k - 1, by omega⟩
    simp only [spec_l01Is.l2]
    have hil : i < bs.length := by omega
    rw [if_pos (by omega), if_pos (by omega), rd_nat bs i hil, specHas_is n _ l (by omega) k (by omega)]
    simp only [Option.bind_some]
    rw [w64 ((i : Int) + 1) (by omega) (by omega), nat_succ, List.drop_eq_getElem_cons hil, List.all_cons, has_asc l _ (by omega) hs]
    by_cases h : bs[i] ∈ l
    · simp only [h, decide_true, if_true, Bool.true_and]
      exact ih (i + 1) k (by omega) (by omega) (by omega)
    · simp only [h, decide_false, Bool.false_and, Bool.false_eq_true, if_false]

theorem specIs_l1 (n : Int) (l : List Int) (hl : l.length ≤ 2097152) (hn : 1 ≤ n ∧ n ≤ 6) (hg : ∀ j, j < l.length → goodAt n l j) : ∀ (d i k : Nat), l.length - i = d → i ≤ l.length → 9 * d + (d + 1) * (l.length + 2) + 70 < k →
    spec_l01Is.l1 k (i : Int) n l = some ((l.drop i).all (closedAt l)) := by
  have hs := asc_of_good n l hg
  have hF := full_range n hn
  intro d
  induction d with
  | zero =>
    intro i k hd hi hk
    obtain ⟨k, rfl⟩ : ∃ m, k = m + 1 := ⟨k - 1, by omega⟩
    obtain rfl : i = l.length := by omega
    simp only [spec_l01Is.l1]
    rw [if_neg (by omega)]
    simp
  | succ d ih =>
    intro i k hd hi hk
    obtain ⟨k, rfl⟩ : ∃ m, k = m + 1 := ⟨k - 1, by omega⟩
    simp only [spec_l01Is.l1]
    have hil : i < l.length := by omega
    have hgi := hg i hil hil
    have hmul : (d + 1 + 1) * (l.length + 2) = (d + 1) * (l.length + 2) + (l.length + 2) := by rw [Nat.add_mul]; omega
    rw [if_pos (by omega), if_pos (by omega), rd_nat l i hil, specBelow_is l[i] (by omega) (by omega) k (by omega)]
    simp only [Option.bind_some]
    have := specIs_l2 n l hl hs (i : Int) (bords l[i]) (bords_length _) (9 * d + (d + 1) * (l.length + 2) + 71) ((l.drop (i + 1)).all (closedAt l))
      (fun k hk => by rw [w64 _ (by omega) (by omega), nat_succ]; exact ih (i + 1) k (by omega) (by omega) (by omega)) (bords l[i]).length 0 k (by omega) (by omega) (by have := bords_length l[i]; omega)
    rw [show ((0 : Nat) : Int) = 0 from rfl] at this
    rw [this, List.drop_eq_getElem_cons hil, List.all_cons, List.drop_zero]
    rfl

theorem specIs_l0 (n : Int) (l : List Int) (hl : l.length ≤ 2097152) (hn : 1 ≤ n ∧ n ≤ 6) : ∀ (d i k : Nat), l.length - i = d → i ≤ l.length → (∀ j, j < i → goodAt n l j) →
    d + 9 * l.length + (l.length + 1) * (l.length + 2) + 72 < k → spec_l01Is.l0 k (i : Int) n l = some (isC n l) := by
  have hF := full_range n hn
  intro d
  induction d with
  | zero =>
    intro i k hd hi hg hk
    obtain ⟨k, rfl⟩ : ∃ m, k = m + 1 := ⟨k - 1, by omega⟩
    obtain rfl : i = l.length := by omega
    simp only [spec_l01Is.l0]
    rw [if_neg (by omega)]
    have := specIs_l1 n l hl hn hg l.length 0 k (by omega) (by omega) (by omega)
    rw [show ((0 : Nat) : Int) = 0 from rfl] at this
    rw [this, List.drop_zero]
    have h2 := (good_iff n l).2 hg
    simp [isC, hn, h2]
  | succ d ih =>
    intro i k hd hi hg hk
    obtain ⟨k, rfl⟩ : ∃ m, k = m + 1 := ⟨k - 1, by omega⟩
    simp only [spec_l01Is.l0]
    have hil : i < l.length := by omega
    have hbad : ¬ goodAt n l i → isC n l = false := fun hb => by
      unfold isC
      rw [rangeAsc_false n l i hil hb]
      simp
    rw [if_pos (by omega), if_pos (by omega), specAll_is n (by omega) (by omega)]
    simp only [Option.bind_some]
    rw [rd_nat l i hil, specIn_is, w64 ((i : Int) + 1) (by omega) (by omega), nat_succ]
    simp only [Option.bind_some]
    by_cases hin : 1 ≤ l[i] ∧ l[i] ≤ fullOf n
    · simp only [hin, and_self, decide_true, if_true]
      by_cases hi0 : i = 0
      · subst hi0
        rw [if_neg (by omega)]
        exact ih 1 k (by omega) (by omega) (fun j hj => (show j = 0 by omega) ▸ (fun h => ⟨hin.1, hin.2, fun h0 => absurd h0 (Nat.lt_irrefl 0)⟩)) (by omega)
      · have e1 : ((i : Int) - 1) = ((i - 1 : Nat) : Int) := by omega
        rw [if_pos (by omega), w64 _ (by omega) (by omega), e1, if_pos (by omega), if_pos (by omega), rd_nat l (i - 1) (by omega)]
        by_cases hle : l[i] ≤ l[i - 1]
        · rw [if_pos hle, hbad (fun h => by have := (h hil).2.2 (by omega); omega)]
        · rw [if_neg hle]
          exact ih (i + 1) k (by omega) (by omega) (fun j hj => by
            rcases Nat.lt_or_ge j i with h | h
            · exact hg j h
            · obtain rfl : j = i := by omega
              exact fun _ => ⟨hin.1, hin.2, fun _ => by omega⟩) (by omega)
    · simp only [hin, decide_false, Bool.false_eq_true, if_false]
      rw [hbad (fun h => hin ⟨(h hil).1, (h hil).2.1⟩)]

/-- How many rounds the reference's IsComplex takes at most. -/
def isK (l : List Int) : Nat := 10 * l.length + (l.length + 1) * (l.length + 2) + 73
theorem specIs_is (n : Int) (l : List Int) (hl : l.length ≤ 2097152) (k : Nat) (hk : isK l ≤ k) : spec_l01Is.f k n l = some (isC n l) := by
  unfold isK at hk
  unfold spec_l01Is.f
  rw [specIn_is]
  simp only [Option.bind_some]
  by_cases hn : 1 ≤ n ∧ n ≤ 6
  · simp only [hn, and_self, decide_true, if_true]
    have := specIs_l0 n l hl hn l.length 0 k (by omega) (by omega) (fun j hj => absurd hj (Nat.not_lt_zero _)) (by omega)
    simpa using this
  · simp only [hn, decide_false, Bool.false_eq_true, if_false]
    simp [isC, hn]

end Go.Proofs.Ytniikppojffiaaa.K
end

section
/- isIn: whether a face is in another one. -/
namespace Go.Proofs.Ytniikppojffiaaa.K
open Go.RowKit Go.Shelf Go.Proofs.Ytniikppojffiaaa.Q Go.Proofs.YtniikppojffiaaaW.PrintWords Go.Proofs.YtniikppojffiaaaW.PrintLast Go.Proofs.YtniikppojffiaaaW.PrintMore
set_option linter.unusedVariables false
set_option linter.unusedSimpArgs false

/-- All vertices of f are in g. -/
def inB (f g : Int) : Bool := Go.bits .andNot .i64 f g == 0
end Go.Proofs.Ytniikppojffiaaa.K
end
