/- Texts of this work, put together by its pack.py. No conditions. -/
import Derived.Test.YtoeapnempdgagaaZC2
import Derived.Below
import Derived.Deep.Draws
import Derived.Deep.AppendLies
import Derived.Maps.AppendAt
import Derived.OwnWalk
import Derived.Laws.BytesArg
import Derived.Laws.MakeOwn
import Derived.Laws.OwnMore
import Derived.Deep.OwnRows
import Derived.Tactics
import Derived.Lib.ConvBytes
import Derived.Laws.Slices
import Derived.WalkKit
import Derived.KernelRfl
import Derived.RowKit3
import Derived.Deep.LoopGhost
import Derived.Deep.QuietTactic
import Derived.BigQuiet
import Derived.WideLaws
import Derived.Deep.DeepCutAuto
import Derived.Deep.CutBlock
import Derived.Deep.RegionHeld3
import Derived.Laws.Rows
import Derived.Lib.AppendStr
import Derived.ArgAppend
import Derived.Laws.IdiomCopy
import Derived.RowKit
import Derived.OrdersHeld
import Derived.Laws.BitsLemmas
import Derived.Laws.StructEq
import Derived.Test.YtoeapnempdgagaaProg
import Derived.Shelf.Abstract
import Derived.RangeFuncBox
import Derived.RangeFuncLeaves
import Derived.OwnWalkIn
import Derived.TacticsInMore
import Derived.LoopNIn
import Derived.LoopIn
import Derived.Lib.SliceRun
section
/- Written by a program of this session (myprint.py over the kit's print). -/
namespace Go.Proofs.Ytoeapnempdgagaa.Q
open Go.RowKit Go.Proofs.YtoeapnempdgagaaW.PrintWords Go.Proofs.YtoeapnempdgagaaW.PrintLast Go.Proofs.YtoeapnempdgagaaW.PrintMore
attribute [local go_sem] max2_int min2_int max_two min_two max_three min_three max_four min_four   -- for this text's walks alone
set_option linter.unusedVariables false
set_option linter.unusedSimpArgs false

/-! ### slices_BinarySearch_int64_int64: function 93 -/
def slices_BinarySearch_int64_int64.l0 : Nat → List Int → Int → Int → Int → Int → Option (Int × Bool)
  | 0, _, _, _, _, _ => none
  | k + 1, x0, x1, x6, x7, x8 => if x7 < x8 then (if 0 ≤ (wrap64 ((IntKind.u64.wrap (wrap64 (x7 + x8))) / 2)) then (if (wrap64 ((IntKind.u64.wrap (wrap64 (x7 + x8))) / 2)) < (x0.length : Int) then ((cmp_Less_int64.f (rd x0 (wrap64 ((IntKind.u64.wrap (wrap64 (x7 + x8))) / 2))) x1).bind fun t330 => (if t330 = true then (slices_BinarySearch_int64_int64.l0 k x0 x1 x6 (wrap64 ((wrap64 ((IntKind.u64.wrap (wrap64 (x7 + x8))) / 2)) + 1)) x8) else (slices_BinarySearch_int64_int64.l0 k x0 x1 x6 x7 (wrap64 ((IntKind.u64.wrap (wrap64 (x7 + x8))) / 2))))) else (none)) else (none)) else (if x7 < x6 then (if 0 ≤ x7 then (if x7 < (x0.length : Int) then (if (rd x0 x7) = x1 then (some (x7, true)) else ((slices_isNaN_int64.f (rd x0 x7)).bind fun t333 => (if t333 = true then ((slices_isNaN_int64.f x1).bind fun t334 => (some (x7, t334))) else (some (x7, false))))) else (none)) else (none)) else (some (x7, false)))
def slices_BinarySearch_int64_int64.f (k : Nat) (l0 : List Int) (a1 : Int) : Option (Int × Bool) := slices_BinarySearch_int64_int64.l0 k l0 a1 (l0.length : Int) 0 (l0.length : Int)
theorem slices_BinarySearch_int64_int64.mono_l : ∀ k, (∀ y0 y1 y2 y3 y4, LeO (slices_BinarySearch_int64_int64.l0 k y0 y1 y2 y3 y4) (slices_BinarySearch_int64_int64.l0 (k + 1) y0 y1 y2 y3 y4))
  | 0 => fun _ _ _ _ _ r h => by simp [slices_BinarySearch_int64_int64.l0] at h
  | k + 1 => by
    have ih0 := slices_BinarySearch_int64_int64.mono_l k
    · intro y0 y1 y2 y3 y4
      unfold slices_BinarySearch_int64_int64.l0
      repeat' first
      | (with_reducible exact ih0 _ _ _ _ _)
      | (with_reducible exact LeO.refl _)
      | (with_reducible exact LeO.none _)
      | (with_reducible refine LeO.ite ?_ ?_)
      | (with_reducible refine LeO.bind ?_ (fun _ => ?_))
      | exact ih0 _ _ _ _ _
      | exact LeO.none _
      | refine LeO.ite ?_ ?_
      | refine LeO.bind ?_ (fun _ => ?_)
theorem slices_BinarySearch_int64_int64.mono : ∀ a0 a1 k, LeO (slices_BinarySearch_int64_int64.f k a0 a1) (slices_BinarySearch_int64_int64.f (k + 1) a0 a1) := by
  intro a0 a1 k
  have ih0 := slices_BinarySearch_int64_int64.mono_l k
  unfold slices_BinarySearch_int64_int64.f
  repeat' first
      | (with_reducible exact ih0 _ _ _ _ _)
      | (with_reducible exact LeO.refl _)
      | (with_reducible exact LeO.none _)
      | (with_reducible refine LeO.ite ?_ ?_)
      | (with_reducible refine LeO.bind ?_ (fun _ => ?_))
      | exact ih0 _ _ _ _ _
      | exact LeO.none _
      | refine LeO.ite ?_ ?_
      | refine LeO.bind ?_ (fun _ => ?_)
set_option maxHeartbeats 8000000 in
set_option maxRecDepth 100000 in
theorem slices_BinarySearch_int64_int64.calls (k : Nat) (A0 : Option Addr) (c0 : Nat) (l0 : List Int) (a1 : Int) (r1 : Int) (r2 : Bool) (w : World) (hr0 : Kd.C (Kd.int .i64) w A0 l0.length l0) (hc0 : l0.length ≤ c0) (h : slices_BinarySearch_int64_int64.f k l0 a1 = some (r1, r2)) :
    Calls Try.prog 93 #[.slice A0 l0.length c0, .int .i64 a1] w fun e w' => e = .returned (.tuple #[.int .i64 r1, .bool r2]) ∧ Drawn0 w w' := by
  have HR0 := Aside0.mk hr0
  have HC0 := Aside0.mk hc0
  clear hr0 hc0
  have H : (slices_BinarySearch_int64_int64.l0 k l0 a1 (l0.length : Int) 0 (l0.length : Int)) = some (r1, r2) := h
  clear h
  have H' := Aside0.mk H
  clear H
  go_enter Try.func93, Try.ntmps93
  go_wp2
  go_loopg [7, 8] k (fun kq v7 v8 w' => ∃ (x7_1 : Int) (x8_1 : Int), v7 = .int .i64 x7_1 ∧ v8 = .int .i64 x8_1 ∧ Aside0 (slices_BinarySearch_int64_int64.l0 kq l0 a1 (l0.length : Int) x7_1 x8_1 = some (r1, r2)) ∧ Aside0 (kq ≤ k) ∧ Drawn0 w w')
  case atStart => exact ⟨(0), ((l0.length : Int)), (by first | rfl | (simp; done) | (simp [*]; done)), (by first | rfl | (simp; done) | (simp [*]; done)), H', ⟨Nat.le_refl _⟩, by repeat (first | exact Drawn0.refl _ | apply Drawn0.step)⟩
  case round =>
    clear H'
    try clear p2
    obtain ⟨x7_1, x8_1, rfl, rfl, HA, HK1, ⟨m1, rfl⟩⟩ := hrel
    cases gk with
    | zero => exact absurd HA.out (by simp [slices_BinarySearch_int64_int64.l0])
    | succ k1 =>
      have H := HA.out
      clear HA
      simp only [slices_BinarySearch_int64_int64.l0] at H
      by_cases c3 : x7_1 < x8_1
      · rw [if_pos c3] at H
        have c3b0 : decide (x7_1 < x8_1) = true := decide_eq_true c3
        clear c3
        obtain ⟨ji4, hji4⟩ : ∃ j_ : Int, (wrap64 ((IntKind.u64.wrap (wrap64 (x7_1 + x8_1))) / 2)) = j_ := ⟨_, rfl⟩
        replace H : (if 0 ≤ (ji4) then (if (ji4) < (l0.length : Int) then ((cmp_Less_int64.f (rd l0 (ji4)) a1).bind fun t330 => (if t330 = true then (slices_BinarySearch_int64_int64.l0 k1 l0 a1 (l0.length : Int) (wrap64 ((ji4) + 1)) x8_1) else (slices_BinarySearch_int64_int64.l0 k1 l0 a1 (l0.length : Int) x7_1 ji4))) else (none)) else (none)) = some (r1, r2) := by first | (rw [hji4] at H; exact H) | (simp only [hji4] at H ⊢; exact H)
        have hji4w : (IntKind.i64.wrap ((IntKind.u64.wrap (wrap64 (x7_1 + x8_1))) / 2)) = ji4 := (i64_w _).trans hji4
        by_cases c5 : 0 ≤ (ji4)
        · rw [if_pos c5] at H
          have c5b0 : decide (0 ≤ (ji4)) = true := decide_eq_true c5
          clear c5
          by_cases c6 : (ji4) < (l0.length : Int)
          · rw [if_pos c6] at H
            have c6b0 : decide ((ji4) < (l0.length : Int)) = true := decide_eq_true c6
            clear c6
            replace H := Option.bind_eq_some_iff.mp H
            obtain ⟨t330, A70, H⟩ := H
            replace H : (if t330 = true then (slices_BinarySearch_int64_int64.l0 k1 l0 a1 (l0.length : Int) (wrap64 ((ji4) + 1)) x8_1) else (slices_BinarySearch_int64_int64.l0 k1 l0 a1 (l0.length : Int) x7_1 ji4)) = some (r1, r2) := H
            have A7 := Aside0.mk A70
            clear A70
            by_cases c8 : t330 = true
            · subst c8
              have H1 : (slices_BinarySearch_int64_int64.l0 k1 l0 a1 (l0.length : Int) (wrap64 ((ji4) + 1)) x8_1) = some (r1, r2) := by rw [if_pos rfl] at H; exact H
              clear H
              have H := H1
              clear H1
              have H' := Aside0.mk H
              clear H
              have p329 : 0 ≤ ((ji4) : Int) := of_decide_eq_true (by first | (with_reducible assumption) | assumption)
              have q329 : (ji4) < (l0.length : Int) := of_decide_eq_true (by first | (with_reducible assumption) | assumption)
              obtain ⟨ad329, e329, hx329_0⟩ := Kd.at_int HR0.out (ji4) p329 q329
              cases e329
              replace p329 := eq_true p329
              replace q329 := eq_true q329
              go_wp2_with (first | ((with_reducible refine gate_callee (f := 105) rfl ?_); refine goesL_ (some 27) rfl rfl Try.func105 (by kernel_rfl) rfl #[.int .i64 (rd l0 (ji4)), .int .i64 a1] rfl (by (try simp only [List.map_toArray, List.map_cons, List.map_nil]); first | done | (simp only [hji4]; rfl) | rfl | (simp only [List.length_drop, List.length_take]; rfl)) ?_; (with_reducible refine (cmp_Less_int64.calls (rd l0 (ji4)) a1 true _ A7.out).mono ?_); rintro e w' ⟨rfl, ⟨nd, rfl⟩⟩; refine ⟨_, rfl, ?_⟩))
              go_roundg k1
              case measure => have := HK1.out; omega
              case rel => exact ⟨(wrap64 ((ji4) + 1)), (x8_1), (by first | rfl | (simp; done) | (simp only [← hji4] <;> (first | rfl | simp)) | (simp [*]; done)), (by first | rfl | (simp; done) | (simp [*]; done)), H', ⟨by have := HK1.out; omega⟩, by repeat (first | exact Drawn0.refl _ | apply Drawn0.step)⟩
            · replace c8 := Bool.eq_false_iff.mpr c8
              subst c8
              have H1 : (slices_BinarySearch_int64_int64.l0 k1 l0 a1 (l0.length : Int) x7_1 ji4) = some (r1, r2) := by rw [if_neg (show ¬ (false = true) by decide)] at H; exact H
              clear H
              have H := H1
              clear H1
              have H' := Aside0.mk H
              clear H
              have p329 : 0 ≤ ((ji4) : Int) := of_decide_eq_true (by first | (with_reducible assumption) | assumption)
              have q329 : (ji4) < (l0.length : Int) := of_decide_eq_true (by first | (with_reducible assumption) | assumption)
              obtain ⟨ad329, e329, hx329_0⟩ := Kd.at_int HR0.out (ji4) p329 q329
              cases e329
              replace p329 := eq_true p329
              replace q329 := eq_true q329
              go_wp2_with (first | ((with_reducible refine gate_callee (f := 105) rfl ?_); refine goesL_ (some 27) rfl rfl Try.func105 (by kernel_rfl) rfl #[.int .i64 (rd l0 (ji4)), .int .i64 a1] rfl (by (try simp only [List.map_toArray, List.map_cons, List.map_nil]); first | done | (simp only [hji4]; rfl) | rfl | (simp only [List.length_drop, List.length_take]; rfl)) ?_; (with_reducible refine (cmp_Less_int64.calls (rd l0 (ji4)) a1 false _ A7.out).mono ?_); rintro e w' ⟨rfl, ⟨nd, rfl⟩⟩; refine ⟨_, rfl, ?_⟩))
              go_roundg k1
              case measure => have := HK1.out; omega
              case rel => exact ⟨(x7_1), (ji4), (by first | rfl | (simp; done) | (simp [*]; done)), (by first | rfl | (simp; done) | (simp only [← hji4] <;> (first | rfl | simp)) | (simp [*]; done)), H', ⟨by have := HK1.out; omega⟩, by repeat (first | exact Drawn0.refl _ | apply Drawn0.step)⟩
          · rw [if_neg c6] at H
            exact absurd H (by simp)
        · rw [if_neg c5] at H
          exact absurd H (by simp)
      · rw [if_neg c3] at H
        have c3b0 : decide (x7_1 < x8_1) = false := decide_eq_false c3
        clear c3
        by_cases c9 : x7_1 < (l0.length : Int)
        · rw [if_pos c9] at H
          have c9b0 : decide (x7_1 < (l0.length : Int)) = true := decide_eq_true c9
          clear c9
          by_cases c10 : 0 ≤ x7_1
          · rw [if_pos c10] at H
            have c10b0 : decide (0 ≤ x7_1) = true := decide_eq_true c10
            clear c10
            by_cases c11 : x7_1 < (l0.length : Int)
            · rw [if_pos c11] at H
              have c11b0 : decide (x7_1 < (l0.length : Int)) = true := decide_eq_true c11
              clear c11
              by_cases c12 : (rd l0 x7_1) = a1
              · rw [if_pos c12] at H
                have c12b0 : ((rd l0 x7_1) == a1) = true := beq_iff_eq.mpr c12
                have c12b1 : ((rd l0 x7_1) != a1) = false := bne_eq_false_iff_eq.mpr c12
                clear c12
                simp only [Option.some.injEq, Prod.mk.injEq] at H
                obtain ⟨rfl, rfl⟩ := H
                have p331 : 0 ≤ (x7_1 : Int) := of_decide_eq_true (by first | (with_reducible assumption) | assumption)
                have q331 : x7_1 < (l0.length : Int) := of_decide_eq_true (by first | (with_reducible assumption) | assumption)
                obtain ⟨ad331, e331, hx331_0⟩ := Kd.at_int HR0.out x7_1 p331 q331
                cases e331
                replace p331 := eq_true p331
                replace q331 := eq_true q331
                go_wp2
                go_ret2
                exact ⟨by first | rfl | (simp; done) | (simp [*]; done), by repeat (first | exact Drawn0.refl _ | apply Drawn0.step)⟩
              · rw [if_neg c12] at H
                have c12b0 : ((rd l0 x7_1) == a1) = false := beq_eq_false_iff_ne.mpr c12
                have c12b1 : ((rd l0 x7_1) != a1) = true := bne_iff_ne.mpr c12
                replace H := Option.bind_eq_some_iff.mp H
                obtain ⟨t333, A130, H⟩ := H
                replace H : (if t333 = true then ((slices_isNaN_int64.f a1).bind fun t334 => (some (x7_1, t334))) else (some (x7_1, false))) = some (r1, r2) := H
                have A13 := Aside0.mk A130
                clear A130
                by_cases c14 : t333 = true
                · subst c14
                  have H1 : ((slices_isNaN_int64.f a1).bind fun t334 => (some (x7_1, t334))) = some (r1, r2) := by rw [if_pos rfl] at H; exact H
                  clear H
                  have H := H1
                  clear H1
                  replace H := Option.bind_eq_some_iff.mp H
                  obtain ⟨t334, A150, H⟩ := H
                  replace H : (some (x7_1, t334)) = some (r1, r2) := H
                  have A15 := Aside0.mk A150
                  clear A150
                  simp only [Option.some.injEq, Prod.mk.injEq] at H
                  obtain ⟨rfl, rfl⟩ := H
                  have p331 : 0 ≤ (x7_1 : Int) := of_decide_eq_true (by first | (with_reducible assumption) | assumption)
                  have q331 : x7_1 < (l0.length : Int) := of_decide_eq_true (by first | (with_reducible assumption) | assumption)
                  obtain ⟨ad331, e331, hx331_0⟩ := Kd.at_int HR0.out x7_1 p331 q331
                  cases e331
                  replace p331 := eq_true p331
                  replace q331 := eq_true q331
                  have p332 : 0 ≤ (x7_1 : Int) := of_decide_eq_true (by first | (with_reducible assumption) | assumption)
                  have q332 : x7_1 < (l0.length : Int) := of_decide_eq_true (by first | (with_reducible assumption) | assumption)
                  obtain ⟨ad332, e332, hx332_0⟩ := Kd.at_int HR0.out x7_1 p332 q332
                  obtain rfl : ad331 = ad332 := (by injection e332)
                  replace p332 := eq_true p332
                  replace q332 := eq_true q332
                  go_wp2_with (first | (go_at_call 106; (with_reducible refine (slices_isNaN_int64.calls (rd l0 x7_1) true _ A13.out).mono ?_); rintro e w' ⟨rfl, ⟨nd, rfl⟩⟩) | (go_at_call 106; (with_reducible refine (slices_isNaN_int64.calls a1 t334 _ A15.out).mono ?_); rintro e w' ⟨rfl, ⟨nd, rfl⟩⟩))
                  go_ret2
                  exact ⟨by first | rfl | (simp; done) | (simp [*]; done), by repeat (first | exact Drawn0.refl _ | apply Drawn0.step)⟩
                · replace c14 := Bool.eq_false_iff.mpr c14
                  subst c14
                  have H1 : (some (x7_1, false)) = some (r1, r2) := by rw [if_neg (show ¬ (false = true) by decide)] at H; exact H
                  clear H
                  have H := H1
                  clear H1
                  simp only [Option.some.injEq, Prod.mk.injEq] at H
                  obtain ⟨rfl, rfl⟩ := H
                  have p331 : 0 ≤ (x7_1 : Int) := of_decide_eq_true (by first | (with_reducible assumption) | assumption)
                  have q331 : x7_1 < (l0.length : Int) := of_decide_eq_true (by first | (with_reducible assumption) | assumption)
                  obtain ⟨ad331, e331, hx331_0⟩ := Kd.at_int HR0.out x7_1 p331 q331
                  cases e331
                  replace p331 := eq_true p331
                  replace q331 := eq_true q331
                  have p332 : 0 ≤ (x7_1 : Int) := of_decide_eq_true (by first | (with_reducible assumption) | assumption)
                  have q332 : x7_1 < (l0.length : Int) := of_decide_eq_true (by first | (with_reducible assumption) | assumption)
                  obtain ⟨ad332, e332, hx332_0⟩ := Kd.at_int HR0.out x7_1 p332 q332
                  obtain rfl : ad331 = ad332 := (by injection e332)
                  replace p332 := eq_true p332
                  replace q332 := eq_true q332
                  go_wp2_with (first | (go_at_call 106; (with_reducible refine (slices_isNaN_int64.calls (rd l0 x7_1) false _ A13.out).mono ?_); rintro e w' ⟨rfl, ⟨nd, rfl⟩⟩))
                  go_ret2
                  exact ⟨by first | rfl | (simp; done) | (simp [*]; done), by repeat (first | exact Drawn0.refl _ | apply Drawn0.step)⟩
            · rw [if_neg c11] at H
              exact absurd H (by simp)
          · rw [if_neg c10] at H
            exact absurd H (by simp)
        · rw [if_neg c9] at H
          have c9b0 : decide (x7_1 < (l0.length : Int)) = false := decide_eq_false c9
          clear c9
          simp only [Option.some.injEq, Prod.mk.injEq] at H
          obtain ⟨rfl, rfl⟩ := H
          go_wp2
          go_ret2
          exact ⟨by first | rfl | (simp; done) | (simp [*]; done), by repeat (first | exact Drawn0.refl _ | apply Drawn0.step)⟩

/-! ### impl_Complex_has: function 59 -/
def impl_Complex_has.f (k : Nat) (a0_0 : Int) (l0_1 : List Int) (a1 : Int) : Option (Bool) := (slices_BinarySearch_int64_int64.f k l0_1 a1).bind fun bt336 => (some bt336.2)
theorem impl_Complex_has.mono : ∀ a0 a1 a2 k, LeO (impl_Complex_has.f k a0 a1 a2) (impl_Complex_has.f (k + 1) a0 a1 a2) := by
  intro a0 a1 a2 k
  unfold impl_Complex_has.f
  repeat' first
      | (with_reducible exact slices_BinarySearch_int64_int64.mono _ _ _)
      | (with_reducible exact LeO.refl _)
      | (with_reducible exact LeO.none _)
      | (with_reducible refine LeO.ite ?_ ?_)
      | (with_reducible refine LeO.bind ?_ (fun _ => ?_))
      | exact slices_BinarySearch_int64_int64.mono _ _ _
      | exact LeO.none _
      | refine LeO.ite ?_ ?_
      | refine LeO.bind ?_ (fun _ => ?_)
set_option maxHeartbeats 8000000 in
set_option maxRecDepth 100000 in
theorem impl_Complex_has.calls (k : Nat) (a0_0 : Int) (A0_1 : Option Addr) (c0_1 : Nat) (l0_1 : List Int) (a1 : Int) (r : Bool) (w : World) (hr0_1 : Kd.C (Kd.int .i64) w A0_1 l0_1.length l0_1) (hc0_1 : l0_1.length ≤ c0_1) (h : impl_Complex_has.f k a0_0 l0_1 a1 = some r) :
    Calls Try.prog 59 #[.agg #[.int .i64 a0_0, .slice A0_1 l0_1.length c0_1], .int .i64 a1] w fun e w' => e = .returned (.bool r) ∧ Below w.heap.size w w' := by
  have hu25 := Try.underlying25
  have HR0_1 := Aside0.mk hr0_1
  have HC0_1 := Aside0.mk hc0_1
  clear hr0_1 hc0_1
  have HB := Aside0.mk (Below.refl w.heap.size w)
  have H : ((slices_BinarySearch_int64_int64.f k l0_1 a1).bind fun bt336 => (some bt336.2)) = some r := h
  clear h
  replace H := Option.bind_eq_some_iff.mp H
  obtain ⟨⟨t336, t337⟩, A30, H⟩ := H
  replace H : (some t337) = some r := H
  have A3 := Aside0.mk A30
  clear A30
  obtain rfl := Option.some.inj H
  go_enter Try.func59, Try.ntmps59
  go_wp2_with (first | ((with_reducible refine gate_dst (N := 2) rfl ?_); refine box_event ?hg (N := 2) ?hd (cs := #[.int .i64 a0_0, .slice A0_1 l0_1.length c0_1]) (t := 25) ?hr ?_; (case hd => rfl); (case hg => rfl); (case hr => first | (go_simp; done) | (go_simp; rfl)); intro gb335 hg w4 hbox hb; have n0_ := Aside0.mk (below_step (by repeat (first | (with_reducible first | exact HB.out | apply below_alloc | apply pw_below_drewN | apply below_drew1) | exact HB.out)) hb); have n1_ := Aside0.mk (hbox); have n2_ := Aside0.mk ((by rw [hg]; exact (below_size (by repeat (first | (with_reducible first | exact HB.out | apply below_alloc | apply pw_below_drewN | apply below_drew1) | exact HB.out))) : w.heap.size ≤ gb335)); have n3_ := Aside0.mk ((by rw [hg]; exact (below_size (by repeat (first | (with_reducible first | exact HB.out | apply below_alloc | apply pw_below_drewN | apply below_drew1) | exact HB.out))) : w.heap.size ≤ gb335)); clear HB; have HB := n0_; have BK335 := n1_; have GW335 := n2_; have GE335 := n3_; clear n0_ n1_ n2_ n3_; clear hb hbox hg; have hcz5_0 : w4.cell? ⟨gb335, 0, none⟩ = some (.int .i64 a0_0) := (blk_cell BK335.out 0).trans rfl; have hcz5_1 : w4.cell? ⟨gb335, 1, none⟩ = some (.slice A0_1 l0_1.length c0_1) := (blk_cell BK335.out 1).trans rfl; have hfz5_0 := blk_frozen BK335.out 0; have hfz5_1 := blk_frozen BK335.out 1) | ((with_reducible refine gate_callee (f := 93) rfl ?_); refine goesL_ (some 11) rfl rfl Try.func93 (by kernel_rfl) rfl #[.slice A0_1 l0_1.length c0_1, .int .i64 a1] rfl (by (try simp only [List.map_toArray, List.map_cons, List.map_nil]); first | done | rfl | (simp only [List.length_drop, List.length_take]; rfl)) ?_; (with_reducible refine (slices_BinarySearch_int64_int64.calls k _ _ l0_1 a1 t336 t337 _ ?side1 ?side2 A3.out).mono ?_); (case side1 => repeat (first | exact (Kd.C_below HR0_1.out HB.out) | (with_reducible refine Kd.C_alloc ?_ _) | (with_reducible refine Kd.C_drewN ?_ _) | (with_reducible refine Kd.C_drew ?_))); (case side2 => exact HC0_1.out); rintro e w' ⟨rfl, ⟨nd, rfl⟩⟩; refine ⟨_, rfl, ?_⟩))
  go_ret
  exact ⟨by first | rfl | (simp [errW_none, errW_some] <;> rfl) | (simp [*, errW_none, errW_some] <;> rfl), by repeat (first | (with_reducible first | exact HB.out | apply below_alloc | apply pw_below_drewN | apply below_drew1 | refine below_set ?_ GE335.out) | exact HB.out)⟩

end Go.Proofs.Ytoeapnempdgagaa.Q
end

section
/- slices.BinarySearch over numbers, and has: on a strictly ascending list it tells membership. -/
namespace Go.Proofs.Ytoeapnempdgagaa.K
open Go.RowKit Go.Shelf Go.Proofs.Ytoeapnempdgagaa.Q Go.Proofs.YtoeapnempdgagaaW.PrintWords Go.Proofs.YtoeapnempdgagaaW.PrintLast Go.Proofs.YtoeapnempdgagaaW.PrintMore
set_option linter.unusedVariables false
set_option linter.unusedSimpArgs false

/-- Strictly ascending. -/
abbrev Asc (l : List Int) : Prop := l.Pairwise (· < ·)
/-- How many are less than t. -/
def below (l : List Int) (t : Int) : Nat := l.countP (· < t)

theorem mid_eq (i j : Nat) (h : j ≤ 2305843009213693952) (hij : i ≤ j) : wrap64 ((IntKind.u64.wrap (wrap64 ((i : Int) + (j : Int)))) / 2) = (((i + j) / 2 : Nat) : Int) := by
  have h1 : wrap64 ((i : Int) + (j : Int)) = (i : Int) + j := by unfold wrap64; omega
  have h2 : IntKind.u64.wrap ((i : Int) + (j : Int)) = (i : Int) + j := by
    simp [IntKind.wrap, IntKind.signed, IntKind.bits]; omega
  rw [h1, h2]
  unfold wrap64
  omega

theorem rd_get (l : List Int) (i : Nat) (h : i < l.length) : rd l (i : Int) = l[i] := by simp [rd, h]

theorem less_is (a b : Int) : cmp_Less_int64.f a b = some (decide (a < b)) := by
  simp [cmp_Less_int64.f, cmp_isNaN_int64.f]

theorem bs_loop (l : List Int) (t : Int) (hl : l.length ≤ 2305843009213693952) : ∀ (d k i j : Nat), j - i ≤ d → d < k → i ≤ j → j ≤ l.length →
    ∃ (m : Nat) (ok : Bool), slices_BinarySearch_int64_int64.l0 k l t (l.length : Int) (i : Int) (j : Int) = some ((m : Int), ok) ∧ i ≤ m ∧ m ≤ j ∧
      (Asc l → (∀ q (h : q < l.length), q < i → l[q] < t) → (∀ q (h : q < l.length), j ≤ q → t ≤ l[q]) →
        ((∀ q (h : q < l.length), q < m → l[q] < t) ∧ (∀ q (h : q < l.length), m ≤ q → t ≤ l[q]) ∧ ok = decide (t ∈ l))) := by
  intro d
  induction d with
  | zero =>
    intro k i j hd hk hij hj
    obtain ⟨k, rfl⟩ : ∃ m, k = m + 1 := ⟨k - 1, by omega⟩
    obtain rfl : i = j := by omega
    simp only [slices_BinarySearch_int64_int64.l0]
    rw [if_neg (by omega)]
    by_cases hi : i < l.length
    · rw [if_pos (by omega), if_pos (by omega), if_pos (by omega), rd_get l i hi]
      by_cases he : l[i] = t
      · rw [if_pos he]
        refine ⟨i, true, rfl, Nat.le_refl _, Nat.le_refl _, fun hs h1 h2 => ⟨h1, h2, ?_⟩⟩
        have : t ∈ l := he ▸ List.getElem_mem hi
        simp [this]
      · rw [if_neg he]
        refine ⟨i, false, by simp [slices_isNaN_int64.f], Nat.le_refl _, Nat.le_refl _, fun hs h1 h2 => ⟨h1, h2, ?_⟩⟩
        have : t ∉ l := by
          intro hm
          obtain ⟨q, hq, rfl⟩ := List.mem_iff_getElem.1 hm
          rcases Nat.lt_trichotomy q i with h | h | h
          · have := h1 q hq h; omega
          · subst h; exact he rfl
          · have := h2 i hi (Nat.le_refl _)
            have := List.pairwise_iff_getElem.1 hs i q hi hq h
            omega
        simp [this]
    · rw [if_neg (by omega)]
      refine ⟨i, false, rfl, Nat.le_refl _, Nat.le_refl _, fun hs h1 h2 => ⟨h1, h2, ?_⟩⟩
      have : t ∉ l := by
        intro hm
        obtain ⟨q, hq, rfl⟩ := List.mem_iff_getElem.1 hm
        have := h1 q hq (by omega); omega
      simp [this]
  | succ d ih =>
    intro k i j hd hk hij hj
    by_cases hlt : i < j
    · obtain ⟨k, rfl⟩ : ∃ m, k = m + 1 := ⟨k - 1, by omega⟩
      have hm1 : (i + j) / 2 < l.length := by omega
      simp only [slices_BinarySearch_int64_int64.l0]
      rw [if_pos (by omega), mid_eq i j (by omega) hij, if_pos (by omega), if_pos (by omega), rd_get l _ hm1, less_is]
      simp only [Option.bind_some]
      by_cases hc : l[(i + j) / 2] < t
      · have hw : wrap64 ((((i + j) / 2 : Nat) : Int) + 1) = (((i + j) / 2 + 1 : Nat) : Int) := by unfold wrap64; omega
        simp only [hc, decide_true, if_true, hw]
        obtain ⟨m, ok, h1, h2, h3, h4⟩ := ih k ((i + j) / 2 + 1) j (by omega) (by omega) (by omega) hj
        refine ⟨m, ok, h1, by omega, h3, fun hs g1 g2 => h4 hs (fun q hq hqi => ?_) g2⟩
        rcases Nat.lt_or_ge q ((i + j) / 2) with h | h
        · have := List.pairwise_iff_getElem.1 hs q _ hq hm1 h; omega
        · obtain rfl : q = (i + j) / 2 := by omega
          exact hc
      · simp only [hc, decide_false, Bool.false_eq_true, if_false]
        obtain ⟨m, ok, h1, h2, h3, h4⟩ := ih k i ((i + j) / 2) (by omega) (by omega) (by omega) (by omega)
        refine ⟨m, ok, h1, h2, by omega, fun hs g1 g2 => h4 hs g1 (fun q hq hqi => ?_)⟩
        rcases Nat.lt_or_ge ((i + j) / 2) q with h | h
        · have := List.pairwise_iff_getElem.1 hs _ q hm1 hq h; omega
        · obtain rfl : q = (i + j) / 2 := by omega
          omega
    · obtain ⟨m, ok, h1, h2⟩ := ih k i j (by omega) (by omega) hij hj
      exact ⟨m, ok, h1, h2⟩

/-- What the search comes to. -/
def bsOf (l : List Int) (t : Int) : Int × Bool := (slices_BinarySearch_int64_int64.f (l.length + 1) l t).getD (0, false)
theorem bs_is (l : List Int) (t : Int) (hl : l.length ≤ 2305843009213693952) : slices_BinarySearch_int64_int64.f (l.length + 1) l t = some (bsOf l t) := by
  obtain ⟨m, ok, h, _⟩ := bs_loop l t hl l.length (l.length + 1) 0 l.length (by omega) (by omega) (by omega) (Nat.le_refl _)
  unfold bsOf slices_BinarySearch_int64_int64.f
  rw [show ((0 : Nat) : Int) = 0 from rfl] at h
  rw [h]; rfl
theorem bs_asc (l : List Int) (t : Int) (hl : l.length ≤ 2305843009213693952) (hs : Asc l) : ∃ m : Nat, (bsOf l t).1 = m ∧ m ≤ l.length ∧ (∀ q (h : q < l.length), q < m → l[q] < t) ∧ (∀ q (h : q < l.length), m ≤ q → t ≤ l[q]) ∧ (bsOf l t).2 = decide (t ∈ l) := by
  obtain ⟨m, ok, h, _, h3, h4⟩ := bs_loop l t hl l.length (l.length + 1) 0 l.length (by omega) (by omega) (by omega) (Nat.le_refl _)
  have := bs_is l t hl
  unfold slices_BinarySearch_int64_int64.f at this
  rw [show ((0 : Nat) : Int) = 0 from rfl] at h
  rw [h] at this
  injection this with this
  obtain ⟨g1, g2, g3⟩ := h4 hs (fun q _ h => by omega) (fun q hq h => by omega)
  rw [← this]
  exact ⟨m, rfl, h3, g1, g2, g3⟩

/-- What has answers. -/
def hasB (l : List Int) (f : Int) : Bool := (bsOf l f).2
theorem has_asc (l : List Int) (f : Int) (hl : l.length ≤ 2305843009213693952) (hs : Asc l) : hasB l f = decide (f ∈ l) := by
  obtain ⟨_, _, _, _, _, h⟩ := bs_asc l f hl hs
  exact h
theorem has_calls (n : Int) (A : Option Addr) (c : Nat) (l : List Int) (f : Int) (w : World) (hr : Ki.C w A l.length l) (hc : l.length ≤ c) (hl : l.length ≤ 2305843009213693952) :
    Calls Try.prog 59 #[.agg #[I n, .slice A l.length c], I f] w fun e w' => e = .returned (.bool (hasB l f)) ∧ Grew w w' :=
  impl_Complex_has.calls (l.length + 1) n A c l f (hasB l f) w hr hc (by unfold impl_Complex_has.f; rw [bs_is l f hl]; rfl)

end Go.Proofs.Ytoeapnempdgagaa.K
end

section
/- IsComplex. -/
namespace Go.Proofs.Ytoeapnempdgagaa.K
open Go.RowKit Go.Shelf Go.Proofs.YtoeapnempdgagaaW.PrintWords Go.Proofs.YtoeapnempdgagaaW.PrintLast Go.Proofs.YtoeapnempdgagaaW.PrintMore
set_option linter.unusedVariables false
set_option linter.unusedSimpArgs false

/-- All borders of f are in l (as has tells it). -/
def closedAt (l : List Int) (f : Int) : Bool := (bords f).all (hasB l)

theorem bords_length (f : Int) : (bords f).length ≤ 6 := by
  have h1 := bordsOf_length f (verts f).reverse
  have h2 := verts_length f
  unfold bords
  simp at h1; omega

theorem has_answers (n : Int) (A : Option Addr) (c : Nat) (l : List Int) (w : World) (hr : Ki.C w A l.length l) (hc : l.length ≤ c) (hl : l.length ≤ 2305843009213693952) (x : Int) :
    Answers w 59 (#[.agg #[I n, .slice A l.length c]].push (I x) ++ #[]) (.bool (hasB l x)) :=
  fun W hW => has_calls n A c l x W (Kd.C_below hr hW) hc hl

set_option maxHeartbeats 2000000 in
theorem IsComplex1_calls (n f : Int) (B : Nat) (A : Option Addr) (c : Nat) (l : List Int) (w : World) (hb : w.heap[B]? = some (.cells #[I n, .slice A l.length c] 25 (0, 0)))
    (hr : Ki.C w A l.length l) (hc : l.length ≤ c) (hl : l.length ≤ 2305843009213693952) :
    Calls Try.prog 57 #[I f, .pointer (some ⟨B, 0, none⟩)] w fun e w' => e = .returned (.bool (closedAt l f)) ∧ Grew w w' := by
  have hlt : B < w.heap.size := (Array.getElem?_eq_some_iff.1 hb).1
  have h0 : w.cell? ⟨B, 0, none⟩ = some (I n) := blk_cell hb 0
  have h1 : w.cell? ⟨B, 1, none⟩ = some (.slice A l.length c) := blk_cell hb 1
  have HR := Aside0.mk hr
  have HC := Aside0.mk hc
  clear hr hc hb
  go_enter Try.func57, Try.ntmps57
  go_wp2_with fail
  go_region_held3 (fun w' => w'.cell? ⟨B, 0, none⟩ = some (I n) ∧ w'.cell? ⟨B, 1, none⟩ = some (.slice A l.length c))
    (first | exact ⟨(HG2.out.cell (p := ⟨B, 0, none⟩) hlt).trans h0, (HG2.out.cell (p := ⟨B, 1, none⟩) hlt).trans h1⟩ | exact ⟨(HG.out.cell (p := ⟨B, 0, none⟩) hlt).trans h0, (HG.out.cell (p := ⟨B, 1, none⟩) hlt).trans h1⟩ | go_keep)
    (first
      | (go_at_call 58; refine (borders_calls f _).mono ?_; rintro e w1 ⟨v, rfl, hR, hG⟩; obtain ⟨A1, c1, hv, hle, hCr⟩ := Kd.R_reads hR; subst hv; have HG : Aside0 (Grew w w1) := ⟨Below.trans ((Below.refl _ w).drew) hG⟩; have HL := Aside0.mk hle; have HCR := Aside0.mk hCr; clear hR hle hCr)
      | (go_at_call 50; refine (areAll_int (hasB l) A1 c1 (bords f) _ _ _ _ HCR.out HL.out (by have := bords_length f; omega) (enters_of Try.func59 (by kernel_rfl) rfl) (fun x _ => has_answers n A c l _ (Kd.C_below HR.out HG.out) HC.out hl x)).mono ?_; rintro e w2 ⟨rfl, hG2⟩; have HG2 : Aside0 (Grew w w2) := ⟨Grew.trans HG.out hG2⟩; clear hG2))
  all_goals (go_wp2_with fail; go_ret; exact ⟨rfl, HG2.out⟩)

/-- The face at place j is in range, and behind the one before it. -/
def goodAt (n : Int) (l : List Int) (j : Nat) : Prop := ∀ (h : j < l.length), 1 ≤ l[j] ∧ l[j] ≤ fullOf n ∧ (∀ (h0 : 0 < j), l[j - 1]'(by omega) < l[j])
instance (n : Int) (l : List Int) (j : Nat) : Decidable (goodAt n l j) := by unfold goodAt; infer_instance
def rangeAsc (n : Int) (l : List Int) : Bool := decide (∀ j, j < l.length → goodAt n l j)
/-- What IsComplex answers. -/
def isC (n : Int) (l : List Int) : Bool := decide (1 ≤ n ∧ n ≤ 6) && (rangeAsc n l && l.all (closedAt l))

theorem rangeAsc_false (n : Int) (l : List Int) (j : Nat) (h : j < l.length) (hb : ¬ goodAt n l j) : rangeAsc n l = false := by
  unfold rangeAsc
  exact decide_eq_false fun hall => hb (hall j h)

set_option maxRecDepth 100000 in
set_option maxHeartbeats 4000000 in
theorem IsComplex_calls (n : Int) (A : Option Addr) (c : Nat) (l : List Int) (w : World) (hr : Ki.C w A l.length l) (hc : l.length ≤ c) (hl : l.length ≤ 1152921504606846976) :
    Calls Try.prog 26 #[.agg #[I n, .slice A l.length c]] w fun e w' => e = .returned (.bool (isC n l)) ∧ Grew w w' := by
  have HR := Aside0.mk hr
  have HC := Aside0.mk hc
  clear hr hc
  by_cases hn : 1 ≤ n ∧ n ≤ 6
  · have hF := full_range n hn
    have HI := Aside0.mk (show isC n l = (rangeAsc n l && l.all (closedAt l)) by simp [isC, hn])
    go_enter Try.func26, Try.ntmps26
    go_wp2_with fail
    refine (isSize_calls n true (by simp [hn]) _).mono ?_
    rintro e w1 ⟨rfl, hG1⟩
    have HB1 : Aside0 (w1.heap[w.heap.size]? = some (.cells #[I n, .slice A l.length c] 25 (0, 0))) := ⟨blk_below (blk_new w _) hG1⟩
    have HG1 : Aside0 (Grew w w1) := ⟨Grew.trans (below_alloc (Grew.refl w) _) hG1⟩
    clear hG1
    have h0 : w1.cell? ⟨w.heap.size, 0, none⟩ = some (I n) := blk_cell HB1.out 0
    have h1 : w1.cell? ⟨w.heap.size, 1, none⟩ = some (.slice A l.length c) := blk_cell HB1.out 1
    go_wp2_with fail
    clear h0 h1
    go_loopg [12] l.length (fun gg s12 wr => ∃ kk : Nat, kk ≤ l.length ∧ l.length - kk ≤ gg ∧ s12 = .int .i64 kk ∧ Aside0 (Grew w1 wr) ∧ Aside0 (∀ j, j < kk → goodAt n l j))
    case atStart => exact ⟨0, Nat.zero_le _, by omega, rfl, ⟨Below.refl _ _⟩, ⟨fun j hj => absurd hj (Nat.not_lt_zero _)⟩⟩
    case round =>
      obtain ⟨kk, hkk, hg, rfl, BW, A0⟩ := hrel
      have HBr : Aside0 (wr.heap[w.heap.size]? = some (.cells #[I n, .slice A l.length c] 25 (0, 0))) := ⟨blk_below HB1.out BW.out⟩
      have HGr : Aside0 (Grew w wr) := ⟨Grew.trans HG1.out BW.out⟩
      have h0 : wr.cell? ⟨w.heap.size, 0, none⟩ = some (I n) := blk_cell HBr.out 0
      have h1 : wr.cell? ⟨w.heap.size, 1, none⟩ = some (.slice A l.length c) := blk_cell HBr.out 1
      by_cases hlt : kk < l.length
      · have hltz : (kk : Int) < (l.length : Int) := by omega
        obtain ⟨ad, e0, hx⟩ := Kd.at_int (Kd.C_below HR.out HGr.out) (kk : Int) (by omega) (by omega)
        cases e0
        have hrd : rd l (kk : Int) = l[kk] := by simp [rd, hlt]
        rw [hrd, Int.toNat_natCast] at hx
        clear hrd
        obtain ⟨y, hy⟩ : ∃ y, y = l[kk] := ⟨_, rfl⟩
        rw [← hy] at hx
        have HY := Aside0.mk hy
        clear hy
        go_wp2_with fail
        refine (full_calls n _ c l _ (by omega) (by omega) (Kd.C_below HR.out HGr.out) HC.out).mono ?_
        rintro e w2 ⟨rfl, hG2⟩
        go_wp2_with fail
        by_cases hin : 1 ≤ y ∧ y ≤ fullOf n
        · refine (within_calls y 1 (fullOf n) true (by simp [hin]) _).mono ?_
          rintro e w3 ⟨rfl, hG3⟩
          have HG3 : Aside0 (Grew wr w3) := ⟨Grew.trans hG2 hG3⟩
          have HB3 := Aside0.mk (blk_below HBr.out HG3.out)
          have h03 : w3.cell? ⟨w.heap.size, 0, none⟩ = some (I n) := blk_cell HB3.out 0
          have h13 : w3.cell? ⟨w.heap.size, 1, none⟩ = some (.slice (some ad) l.length c) := blk_cell HB3.out 1
          clear hG2 hG3 h0 h1 hx
          rcases Nat.eq_zero_or_pos kk with rfl | hpos
          · go_wp2_with fail
            go_roundg (l.length - 1)
            case measure => omega
            case rel => exact ⟨1, by omega, by omega, rfl, ⟨Grew.trans BW.out HG3.out⟩, ⟨fun j hj h => by
              obtain rfl : j = 0 := by omega
              have := HY.out
              exact ⟨by omega, by omega, fun h0 => absurd h0 (Nat.lt_irrefl 0)⟩⟩⟩
          · obtain ⟨m, rfl⟩ : ∃ m, kk = m + 1 := ⟨kk - 1, by omega⟩
            obtain ⟨ad', e0, hx'⟩ := Kd.at_int (Kd.C_below HR.out (Grew.trans HGr.out HG3.out)) (m : Int) (by omega) (by omega)
            cases e0
            have hrd : rd l (m : Int) = l[m] := by simp [rd, show m < l.length by omega]
            rw [hrd, Int.toNat_natCast] at hx'
            clear hrd
            obtain ⟨z, hz⟩ : ∃ z, z = l[m] := ⟨_, rfl⟩
            rw [← hz] at hx'
            have HZ := Aside0.mk hz
            clear hz
            by_cases hyz : y ≤ z
            · have HF : Aside0 (isC n l = false) := ⟨by
                rw [HI.out, rangeAsc_false n l (m + 1) hlt (fun hg => by
                  have h2 := (hg hlt).2.2 (by omega)
                  have e1 := HY.out
                  have e2 := HZ.out
                  simp only [Nat.add_sub_cancel] at h2
                  omega)]
                rfl⟩
              go_wp2_with fail
              go_ret
              exact ⟨by rw [HF.out]; rfl, Grew.trans HGr.out HG3.out⟩
            · go_wp2_with fail
              go_roundg (l.length - (m + 1 + 1))
              case measure => omega
              case rel => exact ⟨m + 1 + 1, by omega, by omega, by go_num, ⟨Grew.trans BW.out HG3.out⟩, ⟨fun j hj h => by
                rcases Nat.lt_or_ge j (m + 1) with h' | h'
                · exact A0.out j h' h
                · obtain rfl : j = m + 1 := by omega
                  have e1 := HY.out
                  have e2 := HZ.out
                  exact ⟨by omega, by omega, fun _ => by simp only [Nat.add_sub_cancel]; omega⟩⟩⟩
        · have HF : Aside0 (isC n l = false) := ⟨by
            rw [HI.out, rangeAsc_false n l kk hlt (fun hg => by
              have h2 := hg hlt
              have e1 := HY.out
              omega)]
            rfl⟩
          refine (within_calls y 1 (fullOf n) false (by simpa using hin) _).mono ?_
          rintro e w3 ⟨rfl, hG3⟩
          have HG3 : Aside0 (Grew wr w3) := ⟨Grew.trans hG2 hG3⟩
          clear hG2 hG3 h0 h1 hx
          go_wp2_with fail
          go_ret
          exact ⟨by rw [HF.out]; rfl, Grew.trans HGr.out HG3.out⟩
      · obtain rfl : kk = l.length := by omega
        have HT : Aside0 (isC n l = l.all (closedAt l)) := ⟨by
          rw [HI.out, show rangeAsc n l = true from decide_eq_true fun j hj => A0.out j hj]
          rfl⟩
        have H := Aside0.mk (areAll_int (closedAt l) A c l 57 #[] #[.pointer (some ⟨w.heap.size, 0, none⟩)] wr (Kd.C_below HR.out HGr.out) HC.out (by omega)
          (enters_of Try.func57 (by kernel_rfl) rfl)
          (fun x hx W hW => IsComplex1_calls n x w.heap.size A c l W (blk_below HBr.out hW) (Kd.C_below HR.out (Grew.trans HGr.out hW)) HC.out (by omega)))
        generalize l.all (closedAt l) = b at H HT
        go_wp2_with fail
        refine H.out.mono ?_
        rintro e w4 ⟨rfl, hG4⟩
        go_wp2_with fail
        go_ret
        exact ⟨by rw [HT.out]; rfl, Grew.trans HGr.out hG4⟩
  · have HF : Aside0 (isC n l = false) := ⟨by simp only [isC, decide_eq_false hn, Bool.false_and]⟩
    go_enter Try.func26, Try.ntmps26
    go_wp2_with fail
    refine (isSize_calls n false (by simpa using hn) _).mono ?_
    rintro e w1 ⟨rfl, hG1⟩
    have HG1 : Aside0 (Grew w w1) := ⟨Grew.trans (below_alloc (Grew.refl w) _) hG1⟩
    clear hG1
    go_wp2_with fail
    go_ret
    exact ⟨by rw [HF.out]; rfl, HG1.out⟩

end Go.Proofs.Ytoeapnempdgagaa.K
end

section
/- complexCode and always. -/
namespace Go.Proofs.Ytoeapnempdgagaa.K
open Go.RowKit Go.Shelf Go.Proofs.YtoeapnempdgagaaW.PrintWords Go.Proofs.YtoeapnempdgagaaW.PrintLast Go.Proofs.YtoeapnempdgagaaW.PrintMore
set_option linter.unusedVariables false
set_option linter.unusedSimpArgs false

theorem CB.later {w w' : World} {g : Nat} {n : Int} {v : Value} (h : CB w g n v) (hb : Grew w w') : CB w' g n v := blk_below h hb

/-- The faces' row of a complex as it lies. -/
structure Kx (w : World) (A : Option Addr) (c : Nat) (l : List Int) : Prop where
  r : Ki.C w A l.length l
  c : l.length ≤ c
  b : l.length ≤ 1152921504606846976
theorem Kx.later {w w' : World} {A : Option Addr} {c : Nat} {l : List Int} (h : Kx w A c l) (hb : Grew w w') : Kx w' A c l := ⟨Kd.C_below h.r hb, h.c, h.b⟩
theorem Kx.has {w : World} {A : Option Addr} {c : Nat} {l : List Int} (h : Kx w A c l) (n f : Int) :
    Calls Try.prog 59 #[.agg #[I n, .slice A l.length c], I f] w fun e w' => e = .returned (.bool (hasB l f)) ∧ Grew w w' :=
  has_calls n A c l f w h.r h.c (Nat.le_trans h.b (by decide))

theorem always_calls (w : World) : Calls Try.prog 70 #[] w fun e w' => e = .returned (.bool true) ∧ Grew w w' := by
  go_enter Try.func70, Try.ntmps70
  go_wp2_with fail
  go_ret
  exact ⟨rfl, Grew.refl w⟩
theorem always_answers (w : World) : Answers w 70 (#[] ++ #[]) (.bool true) := fun W _ => always_calls W

/-- The code of a complex and of a range. -/
def codeOf (n : Int) (l : List Int) (b : Bool) : Int := if isC n l then (if b then 0 else 2) else 1

set_option maxHeartbeats 1000000 in
theorem complexCode_calls (b : Bool) (n : Int) (A : Option Addr) (c : Nat) (l : List Int) (g : Nat) (first caps : Array Value) (w : World) (hk : Kx w A c l) (eg : EntersG g)
    (ha : isC n l = true → Answers w g (first ++ caps) (.bool b)) :
    Calls Try.prog 64 #[.agg #[I n, .slice A l.length c], .func (.func g) first caps] w fun e w' => e = .returned (I (codeOf n l b)) ∧ Grew w w' := by
  have hg : Grew w (w.alloc (.cells #[I n, .slice A l.length c] 25)) := below_alloc (Grew.refl w) _
  have H := Aside0.mk (IsComplex_calls n A c l _ (hk.later hg).r hk.c hk.b)
  have HA := Aside0.mk ha
  have HG := Aside0.mk hg
  clear hk ha hg
  obtain ⟨i, hi⟩ : ∃ i, i = isC n l := ⟨_, rfl⟩
  rw [← hi] at H
  cases i with
  | false =>
    have HV : Aside0 (codeOf n l b = 1) := ⟨by simp [codeOf, ← hi]⟩
    clear hi
    go_enter Try.func64, Try.ntmps64
    go_wp2_with fail
    refine H.out.mono ?_
    rintro e w1 ⟨rfl, hG1⟩
    go_wp2_with fail
    go_ret
    exact ⟨by rw [HV.out]; rfl, Grew.trans HG.out hG1⟩
  | true =>
    have HA2 := Aside0.mk (HA.out hi.symm)
    have HI := Aside0.mk hi
    clear hi HA
    cases b with
    | false =>
      have HV : Aside0 (codeOf n l false = 2) := ⟨by simp [codeOf, ← HI.out]⟩
      go_enter Try.func64, Try.ntmps64
      go_wp2_with fail
      refine H.out.mono ?_
      rintro e w1 ⟨rfl, hG1⟩
      have HG1 := Aside0.mk (Grew.trans HG.out hG1)
      have hcall := HA2.out w1 HG1.out
      clear hG1
      go_wp2_with fail
      refine hcall.mono ?_
      rintro e w2 ⟨rfl, hG2⟩
      clear hcall
      go_wp2_with fail
      go_ret
      exact ⟨by rw [HV.out]; rfl, Grew.trans HG1.out hG2⟩
    | true =>
      have HV : Aside0 (codeOf n l true = 0) := ⟨by simp [codeOf, ← HI.out]⟩
      go_enter Try.func64, Try.ntmps64
      go_wp2_with fail
      refine H.out.mono ?_
      rintro e w1 ⟨rfl, hG1⟩
      have HG1 := Aside0.mk (Grew.trans HG.out hG1)
      have hcall := HA2.out w1 HG1.out
      clear hG1
      go_wp2_with fail
      refine hcall.mono ?_
      rintro e w2 ⟨rfl, hG2⟩
      clear hcall
      go_wp2_with fail
      go_ret
      exact ⟨by rw [HV.out]; rfl, Grew.trans HG1.out hG2⟩

end Go.Proofs.Ytoeapnempdgagaa.K
end

section
/- part: the faces of a complex that are as told. -/
namespace Go.Proofs.Ytoeapnempdgagaa.K
open Go.RowKit Go.Shelf Go.Proofs.YtoeapnempdgagaaW.PrintWords Go.Proofs.YtoeapnempdgagaaW.PrintLast Go.Proofs.YtoeapnempdgagaaW.PrintMore
set_option linter.unusedVariables false
set_option linter.unusedSimpArgs false

set_option maxHeartbeats 1000000 in
theorem part1_calls (pb : Bool) (x n : Int) (B1 B2 : Nat) (A : Option Addr) (c : Nat) (l : List Int) (g : Nat) (first caps : Array Value) (w : World) (h1 : CB w B1 n (.slice A l.length c))
    (h2 : w.cell? ⟨B2, 0, none⟩ = some (.func (.func g) first caps)) (hk : Kx w A c l) (eg : EntersG g) (ha : hasB l x = true → Answers w g (first.push (I x) ++ caps) (.bool pb)) :
    Calls Try.prog 95 #[I x, .pointer (some ⟨B1, 0, none⟩), .pointer (some ⟨B2, 0, none⟩)] w fun e w' => e = .returned (.bool (hasB l x && pb)) ∧ Grew w w' := by
  have hlt := World.block_lt_of_cell? w _ h2
  have k0 := h1.c0
  have k1 := h1.c1
  have H := Aside0.mk (hk.has n x)
  have HA := Aside0.mk ha
  clear hk ha h1
  obtain ⟨i, hi⟩ : ∃ i, i = hasB l x := ⟨_, rfl⟩
  rw [← hi]
  rw [← hi] at H HA
  clear hi
  cases i with
  | false =>
    go_enter Try.func95, Try.ntmps95
    go_wp2_with fail
    refine H.out.mono ?_
    rintro e w1 ⟨rfl, hG1⟩
    go_wp2_with fail
    go_ret
    exact ⟨rfl, hG1⟩
  | true =>
    have HA2 := Aside0.mk (HA.out rfl)
    clear HA
    go_enter Try.func95, Try.ntmps95
    go_wp2_with fail
    refine H.out.mono ?_
    rintro e w1 ⟨rfl, hG1⟩
    have hcall := HA2.out w1 hG1
    have h21 := (Below.cell hG1 (p := ⟨B2, 0, none⟩) hlt).trans h2
    go_wp2_with fail
    refine hcall.mono ?_
    rintro e w2 ⟨rfl, hG2⟩
    clear hcall
    go_wp2_with fail
    go_ret
    exact ⟨by cases pb <;> rfl, Grew.trans hG1 hG2⟩

set_option maxHeartbeats 2000000 in
theorem part_calls (p : Int → Bool) (n : Int) (hn : 0 ≤ n ∧ n ≤ 6) (A : Option Addr) (c : Nat) (l : List Int) (g : Nat) (first caps : Array Value) (w : World) (hk : Kx w A c l) (eg : EntersG g)
    (hp : ∀ x, 1 ≤ x → x ≤ fullOf n → hasB l x = true → Answers w g (first.push (I x) ++ caps) (.bool (p x))) :
    Calls Try.prog 66 #[.agg #[I n, .slice A l.length c], .func (.func g) first caps] w fun e w' =>
      ∃ v, e = .returned (.agg #[I n, v]) ∧ Ki.R 2 w' w.heap.size (fun _ => True) v (thoseL n fun x => hasB l x && p x) ∧ Grew w w' := by
  obtain ⟨W3, hW3⟩ : ∃ W3, W3 = ((w.alloc (.cells #[I n, .slice A l.length c] 25)).alloc (.cells #[.func (.func g) first caps] 51)).alloc (.cells #[I 0, .slice none 0 0] 25) := ⟨_, rfl⟩
  have hB : CB W3 w.heap.size n (.slice A l.length c) := by rw [hW3]; exact blk_alloc (blk_alloc (blk_new w _) _) _
  have hF : W3.heap[w.heap.size + 1]? = some (.cells #[.func (.func g) first caps] 51 (0, 0)) := by
    rw [hW3]
    refine blk_alloc ?_ _
    have := blk_new (w.alloc (.cells #[I n, .slice A l.length c] 25)) (.cells #[.func (.func g) first caps] 51)
    rwa [World.size_alloc] at this
  have hO : CB W3 (w.heap.size + 2) 0 (.slice none 0 0) := by
    rw [hW3]
    have := blk_new ((w.alloc (.cells #[I n, .slice A l.length c] 25)).alloc (.cells #[.func (.func g) first caps] 51)) (.cells #[I 0, .slice none 0 0] 25)
    rwa [World.size_alloc, World.size_alloc] at this
  have hg : Grew w W3 := by rw [hW3]; exact below_alloc (below_alloc (below_alloc (Grew.refl w) _) _) _
  have H := Aside0.mk (those_calls (fun x => hasB l x && p x) n hn 95 #[] #[.pointer (some ⟨w.heap.size, 0, none⟩), .pointer (some ⟨w.heap.size + 1, 0, none⟩)] W3 (enters_of Try.func95 (by kernel_rfl) rfl)
    (fun x h1 h2 W hW => part1_calls (p x) x n w.heap.size (w.heap.size + 1) A c l g first caps W (blk_below hB hW) (blk_cell (blk_below hF hW) 0) (hk.later (Grew.trans hg hW)) eg (fun hh => (hp x h1 h2 hh).later (Grew.trans hg hW))))
  have k0 := hB.c0
  have HO := Aside0.mk hO
  have HG := Aside0.mk hg
  clear hk hp hB hF hO hg
  subst hW3
  go_enter Try.func66, Try.ntmps66
  go_wp2_with fail
  refine H.out.mono ?_
  rintro e w2 ⟨v, rfl, hR, hG⟩
  have hB2 : CB w2 (w.heap.size + 2) 0 (.slice none 0 0) := blk_below HO.out hG
  have HB2 := Aside0.mk hB2
  have HR2 := Aside0.mk hR
  have HG2 := Aside0.mk (Grew.trans HG.out hG)
  have hsz := HG.out.size
  have k0 := hB2.c0
  have k1 := hB2.c1
  have f0 := blk_frozen hB2 0
  have f1 := blk_frozen hB2 1
  obtain ⟨A2, c2, e2⟩ := Kd.R_slice hR
  subst e2
  clear hB2 hR hG
  go_wp2_with fail
  refine bodyPost_ret (results_cell_row rfl _ _ (w.heap.size + 2) 25 #[I n, _] (0, 0) _ rfl HB2.out.set Try.underlying25 rfl (by kernel_rfl)) rfl ?_
  refine ⟨_, rfl, ?_, below_set (below_set HG2.out (by omega)) (by omega)⟩
  exact Kd.R_lower (Ri.setCB2 HR2.out HB2.out) hsz

theorem isC_size {n : Int} {l : List Int} (h : isC n l = true) : 1 ≤ n ∧ n ≤ 6 := by
  unfold isC at h
  simp at h
  exact h.1
theorem codeOf_zero {n : Int} {l : List Int} {b : Bool} (h : codeOf n l b = 0) : isC n l = true ∧ b = true := by
  unfold codeOf at h
  cases hi : isC n l <;> cases b <;> simp [hi] at h ⊢
/-- A part of a complex, and the code. -/
def partOf (n : Int) (l : List Int) (b : Bool) (p : Int → Bool) : Int × List Int × Int :=
  if codeOf n l b = 0 then (n, thoseL n (fun x => hasB l x && p x), 0) else (0, [], codeOf n l b)

end Go.Proofs.Ytoeapnempdgagaa.K
end

section
/- Faces of a complex: numbers 1 to 63, ascending; rows of sets that are as told. -/
namespace Go.Proofs.Ytoeapnempdgagaa.K
open Go.RowKit Go.Shelf Go.Proofs.YtoeapnempdgagaaW.PrintWords Go.Proofs.YtoeapnempdgagaaW.PrintLast Go.Proofs.YtoeapnempdgagaaW.PrintMore
set_option linter.unusedVariables false
set_option linter.unusedSimpArgs false

/-- An ascending row of numbers 1 to N has at most N of them. -/
theorem asc_get (l : List Int) (hs : l.Pairwise (· < ·)) (h1 : ∀ x ∈ l, 1 ≤ x) : ∀ i (h : i < l.length), (i : Int) + 1 ≤ l[i] := by
  intro i
  induction i with
  | zero => intro h; have := h1 _ (List.getElem_mem h); omega
  | succ i ih =>
    intro h
    have h2 := ih (by omega)
    have h3 := List.pairwise_iff_getElem.1 hs i (i + 1) (by omega) h (by omega)
    omega
theorem asc_length (l : List Int) (N : Nat) (hs : l.Pairwise (· < ·)) (h1 : ∀ x ∈ l, 1 ≤ x ∧ x ≤ (N : Int)) : l.length ≤ N := by
  rcases Nat.eq_zero_or_pos l.length with h | h
  · omega
  · have h2 := asc_get l hs (fun x hx => (h1 x hx).1) (l.length - 1) (by omega)
    have h3 := h1 _ (List.getElem_mem (show l.length - 1 < l.length by omega))
    omega
/-- What a complex's faces are: numbers 1 to 63, ascending. -/
theorem isC_faces {n : Int} {l : List Int} (h : isC n l = true) : (1 ≤ n ∧ n ≤ 6) ∧ l.Pairwise (· < ·) ∧ (∀ x ∈ l, 1 ≤ x ∧ x ≤ fullOf n ∧ x ≤ 63) ∧ l.length ≤ 63 := by
  have hn := isC_size h
  have hF := full_range n hn
  unfold isC at h
  simp only [Bool.and_eq_true, decide_eq_true_eq, rangeAsc] at h
  obtain ⟨_, hg, _⟩ := h
  have hr : ∀ x ∈ l, 1 ≤ x ∧ x ≤ fullOf n ∧ x ≤ 63 := by
    intro x hx
    obtain ⟨i, hi, rfl⟩ := List.mem_iff_getElem.1 hx
    have := hg i hi hi
    omega
  have hs : l.Pairwise (· < ·) := by
    rw [List.pairwise_iff_getElem]
    intro i j hi hj hij
    induction j with
    | zero => omega
    | succ j ih =>
      have h1 := (hg (j + 1) hj hj).2.2 (by omega)
      simp only [Nat.add_sub_cancel] at h1
      rcases Nat.lt_or_ge i j with h2 | h2
      · have := ih (by omega) h2
        omega
      · obtain rfl : i = j := by omega
        exact h1
  exact ⟨hn, hs, hr, asc_length l 63 hs (fun x hx => ⟨(hr x hx).1, (hr x hx).2.2⟩)⟩

/-- Two ascending rows with the same numbers are the same. -/
theorem asc_ext : ∀ (a b : List Int), a.Pairwise (· < ·) → b.Pairwise (· < ·) → (∀ x, x ∈ a ↔ x ∈ b) → a = b
  | [], [], _, _, _ => rfl
  | [], y :: b, _, _, h => absurd ((h y).2 List.mem_cons_self) (by simp)
  | x :: a, [], _, _, h => absurd ((h x).1 List.mem_cons_self) (by simp)
  | x :: a, y :: b, ha, hb, h => by
    rw [List.pairwise_cons] at ha hb
    have hxy : x = y := by
      have h1 := (h x).1 List.mem_cons_self
      have h2 := (h y).2 List.mem_cons_self
      rw [List.mem_cons] at h1 h2
      rcases h1 with h1 | h1
      · exact h1
      · rcases h2 with h2 | h2
        · exact h2.symm
        · have := hb.1 x h1
          have := ha.1 y h2
          omega
    subst hxy
    congr 1
    refine asc_ext a b ha.2 hb.2 fun z => ?_
    have hz := h z
    rw [List.mem_cons, List.mem_cons] at hz
    constructor
    · intro h1
      rcases hz.1 (.inr h1) with h2 | h2
      · have := ha.1 z h1
        omega
      · exact h2
    · intro h1
      rcases hz.2 (.inr h1) with h2 | h2
      · have := hb.1 z h1
        omega
      · exact h2
theorem upTo_asc (m : Nat) : (upTo m).Pairwise (· < ·) := by
  unfold upTo
  rw [List.pairwise_map]
  refine List.Pairwise.imp ?_ List.pairwise_lt_range
  intro a b h
  omega
theorem mem_upTo (m : Nat) (x : Int) : x ∈ upTo m ↔ 1 ≤ x ∧ x ≤ m := by
  unfold upTo
  rw [List.mem_map]
  constructor
  · rintro ⟨i, hi, rfl⟩
    rw [List.mem_range] at hi
    omega
  · rintro ⟨h1, h2⟩
    exact ⟨(x - 1).toNat, by rw [List.mem_range]; omega, by omega⟩
theorem those_asc (n : Int) (p : Int → Bool) : (thoseL n p).Pairwise (· < ·) := (upTo_asc _).filter _
theorem mem_those (n : Int) (p : Int → Bool) (x : Int) : x ∈ thoseL n p ↔ (1 ≤ x ∧ x ≤ fullOf n) ∧ p x = true := by
  unfold thoseL
  rw [List.mem_filter, mem_upTo, full_nat]
/-- The faces of a complex that are as told. -/
theorem those_filter {n : Int} {l : List Int} (h : isC n l = true) (p : Int → Bool) : thoseL n (fun x => hasB l x && p x) = l.filter p := by
  obtain ⟨hn, hs, hr, hl⟩ := isC_faces h
  refine asc_ext _ _ (those_asc _ _) (hs.filter _) fun x => ?_
  rw [mem_those, List.mem_filter, has_asc l x (by omega) hs]
  simp only [Bool.and_eq_true, decide_eq_true_eq]
  constructor
  · rintro ⟨_, h1, h2⟩
    exact ⟨h1, h2⟩
  · rintro ⟨h1, h2⟩
    have := hr x h1
    exact ⟨⟨this.1, this.2.1⟩, h1, h2⟩
theorem part_filter {n : Int} {l : List Int} (h : isC n l = true) (p : Int → Bool) : partOf n l true p = (n, l.filter p, 0) := by
  have : codeOf n l true = 0 := by simp [codeOf, h]
  unfold partOf
  rw [if_pos this, those_filter h]
theorem partOf_length (n : Int) (l : List Int) (b : Bool) (p : Int → Bool) : (partOf n l b p).2.1.length ≤ 63 := by
  unfold partOf
  by_cases h : codeOf n l b = 0
  · rw [if_pos h]
    have hn := isC_size (codeOf_zero h).1
    have h2 := upTo_filter_length (fun x => hasB l x && p x) (2 ^ n.toNat - 1)
    have h3 : 2 ^ n.toNat ≤ 2 ^ 6 := Nat.pow_le_pow_right (by omega) (by omega)
    show (thoseL n _).length ≤ 63
    unfold thoseL
    omega
  · rw [if_neg h]
    exact Nat.zero_le _

end Go.Proofs.Ytoeapnempdgagaa.K
end

section
/- Plain laws of the laws' own helpers: copies, comparisons, marks. -/
namespace Go.Proofs.Ytoeapnempdgagaa.K
open Go.RowKit Go.Shelf Go.Proofs.Ytoeapnempdgagaa.Q Go.Proofs.YtoeapnempdgagaaW.PrintWords Go.Proofs.YtoeapnempdgagaaW.PrintLast Go.Proofs.YtoeapnempdgagaaW.PrintMore
set_option linter.unusedVariables false
set_option linter.unusedSimpArgs false

theorem w64 (x : Int) (h0 : -9223372036854775808 ≤ x) (h1 : x ≤ 9223372036854775807) : wrap64 x = x := by unfold wrap64; omega
theorem rd_nat (l : List Int) (i : Nat) (h : i < l.length) : rd l (i : Int) = l[i] := by simp [rd, h]
theorem nat_succ (i : Nat) : (i : Int) + 1 = ((i + 1 : Nat) : Int) := by omega

theorem szInt64S_is (l : List Int) (a : Int) (ha : 0 ≤ a ∧ a ≤ 1048576) (hl : l.length ≤ 9223372036854775807) : laws_szInt64S.f l a = some (if a < l.length then -1 else a - l.length) := by
  unfold laws_szInt64S.f
  rw [w64 _ (by omega) (by omega)]
  by_cases h : a < l.length
  · rw [if_pos (by omega), if_pos h]
  · rw [if_neg (by omega), if_neg h]
theorem szComplex_is (n : Int) (l : List Int) (a : Int) (ha : 0 ≤ a ∧ a ≤ 1048576) (hl : l.length ≤ 9223372036854775807) : laws_szComplex.f n l a = some (if a < l.length then -1 else a - l.length) := by
  unfold laws_szComplex.f
  rw [szInt64S_is l a ha hl]
  simp only [Option.bind_some]
  by_cases h : a < l.length
  · rw [if_pos h, if_pos (by omega)]
  · rw [if_neg h, if_neg (by omega)]

theorem set_take (l : List Int) (i : Nat) (h : i < l.length) : (l.take i ++ List.replicate (l.length - i) 0).set i l[i] = l.take (i + 1) ++ List.replicate (l.length - (i + 1)) 0 := by
  rw [List.set_append_right _ _ (by simp; omega)]
  rw [List.take_succ_eq_append_getElem h, List.append_assoc]
  congr 1
  obtain ⟨m, hm⟩ : ∃ m, l.length - i = m + 1 := ⟨l.length - i - 1, by omega⟩
  rw [hm, List.replicate_succ]
  simp
  have e1 : i - min i l.length = 0 := by omega
  rw [e1]
  simp
  omega

theorem toInt64S_loop (l : List Int) (hl : l.length ≤ 2097152) : ∀ (d i k : Nat), l.length - i = d → i ≤ l.length → d < k → laws_toInt64S.l0 k l (l.take i ++ List.replicate (l.length - i) 0) (i : Int) = some l := by
  intro d
  induction d with
  | zero =>
    intro i k hd hi hk
    obtain ⟨k, rfl⟩ : ∃ m, k = m + 1 := ⟨k - 1, by omega⟩
    obtain rfl : i = l.length := by omega
    simp only [laws_toInt64S.l0]
    rw [if_neg (by omega)]
    simp
  | succ d ih =>
    intro i k hd hi hk
    obtain ⟨k, rfl⟩ : ∃ m, k = m + 1 := ⟨k - 1, by omega⟩
    simp only [laws_toInt64S.l0]
    have hil : i < l.length := by omega
    rw [if_pos (by omega), if_pos (by omega), if_pos (by simp; omega), rd_nat l i hil, w64 _ (by omega) (by omega), nat_succ, Int.toNat_natCast, set_take l i hil]
    exact ih (i + 1) k (by omega) (by omega) (by omega)
theorem toInt64S_is (l : List Int) (hl : l.length ≤ 2097152) (k : Nat) (hk : l.length < k) : laws_toInt64S.f k l = some l := by
  unfold laws_toInt64S.f
  rw [if_pos (by omega), if_pos (by simp; omega)]
  have := toInt64S_loop l hl l.length 0 k (by omega) (by omega) hk
  simpa using this
theorem toComplex_is (n : Int) (l : List Int) (hl : l.length ≤ 2097152) (k : Nat) (hk : l.length < k) : laws_toComplex.f k n l = some (n, l) := by
  unfold laws_toComplex.f
  rw [toInt64S_is l hl k hk]
  rfl

theorem eqInt64S_loop (a b : List Int) (hab : a.length = b.length) (hl : a.length ≤ 9223372036854775807) : ∀ (d i k : Nat), a.length - i = d → i ≤ a.length → d < k →
    laws_eqInt64S.l0 k a b (i : Int) = some (decide (a.drop i = b.drop i)) := by
  intro d
  induction d with
  | zero =>
    intro i k hd hi hk
    obtain ⟨k, rfl⟩ : ∃ m, k = m + 1 := ⟨k - 1, by omega⟩
    obtain rfl : i = a.length := by omega
    simp only [laws_eqInt64S.l0]
    rw [if_neg (by omega)]
    have : b.drop a.length = [] := by rw [hab]; simp
    simp [this]
  | succ d ih =>
    intro i k hd hi hk
    obtain ⟨k, rfl⟩ : ∃ m, k = m + 1 := ⟨k - 1, by omega⟩
    simp only [laws_eqInt64S.l0]
    have hia : i < a.length := by omega
    have hib : i < b.length := by omega
    rw [if_pos (by omega), if_pos (by omega), if_pos (by omega), rd_nat a i hia, rd_nat b i hib, w64 _ (by omega) (by omega), nat_succ]
    rw [List.drop_eq_getElem_cons hia, List.drop_eq_getElem_cons hib]
    by_cases h : a[i] = b[i]
    · rw [if_pos h, ih (i + 1) k (by omega) (by omega) (by omega)]
      exact congrArg some (decide_eq_decide.2 (by rw [List.cons.injEq]; simp only [h, true_and]))
    · rw [if_neg h]
      exact congrArg some (decide_eq_false (by rw [List.cons.injEq]; exact fun e => h e.1)).symm
theorem eqInt64S_is (a b : List Int) (hl : a.length ≤ 9223372036854775807) (k : Nat) (hk : a.length < k) : laws_eqInt64S.f k a b = some (decide (a = b)) := by
  unfold laws_eqInt64S.f
  by_cases h : a.length = b.length
  · rw [if_pos (by omega)]
    have := eqInt64S_loop a b h hl a.length 0 k (by omega) (by omega) hk
    simpa using this
  · rw [if_neg (by omega)]
    have : a ≠ b := fun e => h (by rw [e])
    simp [this]
theorem eqComplex_is (n : Int) (a : List Int) (m : Int) (b : List Int) (hl : a.length ≤ 9223372036854775807) (k : Nat) (hk : a.length < k) : laws_eqComplex.f k n a m b = some (decide (n = m ∧ a = b)) := by
  unfold laws_eqComplex.f
  by_cases h : n = m
  · rw [if_pos h, eqInt64S_is a b hl k hk]
    by_cases h2 : a = b <;> simp [h, h2]
  · rw [if_neg h]
    simp [h]

/-- The marks from a on. -/
def marks (a : Int) (m : Nat) : List Int := (List.range m).map fun (i : Nat) => a + (i : Int)
theorem marks_length (a : Int) (m : Nat) : (marks a m).length = m := by simp [marks]
theorem marks_get (a : Int) (m i : Nat) (h : i < m) : (marks a m)[i]'(by rw [marks_length]; exact h) = a + i := by simp [marks]

theorem mark_loop (l : List Int) (a : Int) (ha : 0 ≤ a ∧ a ≤ 1000000000) (hl : l.length ≤ 100000000) : ∀ (d i k : Nat), l.length - i = d → i ≤ l.length → d < k →
    laws_markInt64S.l0 k (marks a i ++ l.drop i) (a + i) (i : Int) = some (a + l.length, marks a l.length) := by
  intro d
  induction d with
  | zero =>
    intro i k hd hi hk
    obtain ⟨k, rfl⟩ : ∃ m, k = m + 1 := ⟨k - 1, by omega⟩
    obtain rfl : i = l.length := by omega
    simp only [laws_markInt64S.l0]
    rw [if_neg (by simp [marks_length])]
    simp
  | succ d ih =>
    intro i k hd hi hk
    obtain ⟨k, rfl⟩ : ∃ m, k = m + 1 := ⟨k - 1, by omega⟩
    simp only [laws_markInt64S.l0]
    have hil : i < l.length := by omega
    rw [if_pos (by simp [marks_length]; omega), if_pos (by omega), w64 _ (by omega) (by omega), w64 _ (by omega) (by omega), nat_succ, Int.toNat_natCast]
    have e : (marks a i ++ l.drop i).set i (a + i) = marks a (i + 1) ++ l.drop (i + 1) := by
      rw [List.set_append_right _ _ (by simp [marks_length]), marks_length, Nat.sub_self, List.drop_eq_getElem_cons hil, List.set_cons_zero, show marks a (i + 1) = marks a i ++ [a + (i : Int)] by simp [marks, List.range_succ], List.append_assoc]
      rfl
    rw [e, show a + (i : Int) + 1 = a + ((i + 1 : Nat) : Int) by omega]
    exact ih (i + 1) k (by omega) (by omega) (by omega)
theorem markInt64S_is (l : List Int) (a : Int) (ha : 0 ≤ a ∧ a ≤ 1000000000) (hl : l.length ≤ 100000000) (k : Nat) (hk : l.length < k) : laws_markInt64S.f k l a = some (a + l.length, marks a l.length) := by
  unfold laws_markInt64S.f
  have := mark_loop l a ha hl l.length 0 k (by omega) (by omega) hk
  simpa [marks] using this
theorem markComplex_is (n : Int) (l : List Int) (a : Int) (ha : 0 ≤ a ∧ a ≤ 1000000000) (hl : l.length ≤ 100000000) (k : Nat) (hk : l.length < k) : laws_markComplex.f k n l a = some (a + l.length, marks a l.length) := by
  unfold laws_markComplex.f
  rw [markInt64S_is l a ha hl k hk]
  rfl

theorem held_loop (m : Nat) (a : Int) (ha : 0 ≤ a ∧ a ≤ 1000000000) (hl : m ≤ 100000000) : ∀ (d i k : Nat), m - i = d → i ≤ m → d < k →
    laws_heldInt64S.l0 k (marks a m) (a + i) (i : Int) = some (a + m) := by
  intro d
  induction d with
  | zero =>
    intro i k hd hi hk
    obtain ⟨k, rfl⟩ : ∃ m, k = m + 1 := ⟨k - 1, by omega⟩
    obtain rfl : i = m := by omega
    simp only [laws_heldInt64S.l0]
    rw [if_neg (by simp [marks_length])]
  | succ d ih =>
    intro i k hd hi hk
    obtain ⟨k, rfl⟩ : ∃ m, k = m + 1 := ⟨k - 1, by omega⟩
    simp only [laws_heldInt64S.l0]
    have him : i < m := by omega
    rw [if_pos (by simp [marks_length]; omega), if_pos (by omega), rd_nat _ i (by rw [marks_length]; exact him), marks_get a m i him, if_pos rfl, w64 _ (by omega) (by omega), w64 _ (by omega) (by omega), nat_succ,
      show a + (i : Int) + 1 = a + ((i + 1 : Nat) : Int) by omega]
    exact ih (i + 1) k (by omega) (by omega) (by omega)
theorem heldInt64S_is (m : Nat) (a : Int) (ha : 0 ≤ a ∧ a ≤ 1000000000) (hl : m ≤ 100000000) (k : Nat) (hk : m < k) : laws_heldInt64S.f k (marks a m) a = some (a + m) := by
  unfold laws_heldInt64S.f
  have := held_loop m a ha hl m 0 k (by omega) (by omega) hk
  simpa using this
theorem heldComplex_is (n : Int) (m : Nat) (a : Int) (ha : 0 ≤ a ∧ a ≤ 1000000000) (hl : m ≤ 100000000) (k : Nat) (hk : m < k) : laws_heldComplex.f k n (marks a m) a = some (a + m) := by
  unfold laws_heldComplex.f
  rw [heldInt64S_is m a ha hl k hk]
  simp only [Option.bind_some]
  rw [if_neg (by omega)]

end Go.Proofs.Ytoeapnempdgagaa.K
end

section
/- The reference's small functions: ranges, all vertices, numbers of vertices. -/
namespace Go.Proofs.Ytoeapnempdgagaa.K
open Go.RowKit Go.Shelf Go.Proofs.Ytoeapnempdgagaa.Q Go.Proofs.YtoeapnempdgagaaW.PrintWords Go.Proofs.YtoeapnempdgagaaW.PrintLast Go.Proofs.YtoeapnempdgagaaW.PrintMore
set_option linter.unusedVariables false
set_option linter.unusedSimpArgs false

theorem specIn_is (a b c : Int) : spec_l01In.f a b c = some (decide (b ≤ a ∧ a ≤ c)) := by
  unfold spec_l01In.f
  by_cases h : b ≤ a
  · rw [if_pos (by omega)]; simp [h]
  · rw [if_neg (by omega)]; simp [h]
theorem u64_id (n : Int) (h0 : 0 ≤ n) (h1 : n ≤ 9223372036854775807) : IntKind.u64.wrap n = n := by
  simp [IntKind.wrap, IntKind.signed, IntKind.bits]; omega
theorem specAll_is (n : Int) (h0 : 0 ≤ n) (h6 : n ≤ 62) : spec_l01All.f n = some (fullOf n) := by
  unfold spec_l01All.f fullOf
  have h := two_pow n.toNat 62 (by omega)
  rw [u64_id n h0 (by omega), if_pos h0, shl_one n h0 h6, w64 _ (by omega) (by omega)]

end Go.Proofs.Ytoeapnempdgagaa.K
end

section
/- Written by a program of this session (myprint.py over the kit's print). -/
namespace Go.Proofs.Ytoeapnempdgagaa.Q
open Go.RowKit Go.Proofs.YtoeapnempdgagaaW.PrintWords Go.Proofs.YtoeapnempdgagaaW.PrintLast Go.Proofs.YtoeapnempdgagaaW.PrintMore
attribute [local go_sem] max2_int min2_int max_two min_two max_three min_three max_four min_four   -- for this text's walks alone
set_option linter.unusedVariables false
set_option linter.unusedSimpArgs false

/-! ### spec_IsComplex: function 24 -/
def spec_IsComplex.f (k : Nat) (a0_0 : Int) (l0_1 : List Int) : Option (Bool) := (spec_l01Is.f k a0_0 l0_1).bind fun t142 => (some t142)
theorem spec_IsComplex.mono : ∀ a0 a1 k, LeO (spec_IsComplex.f k a0 a1) (spec_IsComplex.f (k + 1) a0 a1) := by
  intro a0 a1 k
  unfold spec_IsComplex.f
  repeat' first
      | (with_reducible exact spec_l01Is.mono _ _ _)
      | (with_reducible exact LeO.refl _)
      | (with_reducible exact LeO.none _)
      | (with_reducible refine LeO.ite ?_ ?_)
      | (with_reducible refine LeO.bind ?_ (fun _ => ?_))
      | exact spec_l01Is.mono _ _ _
      | exact LeO.none _
      | refine LeO.ite ?_ ?_
      | refine LeO.bind ?_ (fun _ => ?_)
set_option maxHeartbeats 8000000 in
set_option maxRecDepth 100000 in
theorem spec_IsComplex.calls (k : Nat) (a0_0 : Int) (A0_1 : Option Addr) (c0_1 : Nat) (l0_1 : List Int) (r : Bool) (w : World) (hr0_1 : Kd.C (Kd.int .i64) w A0_1 l0_1.length l0_1) (hc0_1 : l0_1.length ≤ c0_1) (h : spec_IsComplex.f k a0_0 l0_1 = some r) :
    Calls Try.prog 24 #[.agg #[.int .i64 a0_0, .slice A0_1 l0_1.length c0_1]] w fun e w' => e = .returned (.bool r) ∧ Below w.heap.size w w' := by
  have hu25 := Try.underlying25
  have HR0_1 := Aside0.mk hr0_1
  have HC0_1 := Aside0.mk hc0_1
  clear hr0_1 hc0_1
  have HB := Aside0.mk (Below.refl w.heap.size w)
  have H : ((spec_l01Is.f k a0_0 l0_1).bind fun t142 => (some t142)) = some r := h
  clear h
  replace H := Option.bind_eq_some_iff.mp H
  obtain ⟨t142, A20, H⟩ := H
  replace H : (some t142) = some r := H
  have A2 := Aside0.mk A20
  clear A20
  obtain rfl := Option.some.inj H
  go_enter Try.func24, Try.ntmps24
  go_wp2_with (first | ((with_reducible refine gate_dst (N := 1) rfl ?_); refine box_event ?hg (N := 1) ?hd (cs := #[.int .i64 a0_0, .slice A0_1 l0_1.length c0_1]) (t := 25) ?hr ?_; (case hd => rfl); (case hg => rfl); (case hr => first | (go_simp; done) | (go_simp; rfl)); intro gb141 hg w3 hbox hb; have n0_ := Aside0.mk (below_step (by repeat (first | (with_reducible first | exact HB.out | apply below_alloc | apply pw_below_drewN | apply below_drew1) | exact HB.out)) hb); have n1_ := Aside0.mk (hbox); have n2_ := Aside0.mk ((by rw [hg]; exact (below_size (by repeat (first | (with_reducible first | exact HB.out | apply below_alloc | apply pw_below_drewN | apply below_drew1) | exact HB.out))) : w.heap.size ≤ gb141)); have n3_ := Aside0.mk ((by rw [hg]; exact (below_size (by repeat (first | (with_reducible first | exact HB.out | apply below_alloc | apply pw_below_drewN | apply below_drew1) | exact HB.out))) : w.heap.size ≤ gb141)); clear HB; have HB := n0_; have BK141 := n1_; have GW141 := n2_; have GE141 := n3_; clear n0_ n1_ n2_ n3_; clear hb hbox hg; have hcz4_0 : w3.cell? ⟨gb141, 0, none⟩ = some (.int .i64 a0_0) := (blk_cell BK141.out 0).trans rfl; have hcz4_1 : w3.cell? ⟨gb141, 1, none⟩ = some (.slice A0_1 l0_1.length c0_1) := (blk_cell BK141.out 1).trans rfl; have hfz4_0 := blk_frozen BK141.out 0; have hfz4_1 := blk_frozen BK141.out 1) | ((with_reducible refine gate_callee (f := 55) rfl ?_); refine goesL_ (some 4) rfl rfl Try.func55 (by kernel_rfl) rfl #[.agg #[.int .i64 a0_0, .slice A0_1 l0_1.length c0_1]] rfl (by (try simp only [List.map_toArray, List.map_cons, List.map_nil]); first | done | rfl | (simp only [List.length_drop, List.length_take]; rfl)) ?_; (with_reducible refine (spec_l01Is.calls k a0_0 _ _ l0_1 t142 _ ?side1 ?side2 A2.out).mono ?_); (case side1 => repeat (first | exact (Kd.C_below HR0_1.out HB.out) | (with_reducible refine Kd.C_alloc ?_ _) | (with_reducible refine Kd.C_drewN ?_ _) | (with_reducible refine Kd.C_drew ?_))); (case side2 => exact HC0_1.out); rintro e w5 ⟨rfl, hb⟩; refine ⟨_, rfl, ?_⟩; have n0_ := Aside0.mk (blk_below (g := gb141) (o := .cells #[.int .i64 a0_0, .slice A0_1 l0_1.length c0_1] 25 (0, 0)) (by (with_reducible repeat (first | refine blk_drewN ?_ _ | refine blk_drew ?_ | refine blk_alloc ?_ _)); exact BK141.out) hb); have n1_ := Aside0.mk (below_step (by repeat (first | (with_reducible first | exact HB.out | apply below_alloc | apply pw_below_drewN | apply below_drew1 | refine below_set ?_ GE141.out) | exact HB.out)) hb); clear BK141; clear HB; have BK141 := n0_; have HB := n1_; clear n0_ n1_; (try clear hb); (try clear hb2); (try clear hk); (try clear hi)))
  go_ret
  exact ⟨by first | rfl | (simp [errW_none, errW_some] <;> rfl) | (simp [*, errW_none, errW_some] <;> rfl), by repeat (first | (with_reducible first | exact HB.out | apply below_alloc | apply pw_below_drewN | apply below_drew1 | refine below_set ?_ GE141.out) | exact HB.out)⟩

/-! ### spec_l01Own: function 94 -/
def spec_l01Own.f (l0 : List Int) : Option (List Int) := (some (([] : List Int) : List Int)).bind fun y143 => (if y143.length + l0.length < 17592186044416 then (some (y143 ++ l0)) else (none))
set_option maxHeartbeats 8000000 in
set_option maxRecDepth 100000 in
theorem spec_l01Own.calls (A0 : Option Addr) (c0 : Nat) (l0 : List Int) (r : List Int) (w : World) (hr0 : Kd.C (Kd.int .i64) w A0 l0.length l0) (hc0 : l0.length ≤ c0) (h : spec_l01Own.f l0 = some r) :
    Calls Try.prog 94 #[.slice A0 l0.length c0] w fun e w' => ∃ v0_ : Value, e = .returned (v0_) ∧ Kd.R (Kd.int .i64) 2 w' w.heap.size (fun _ => True) v0_ r ∧ Below w.heap.size w w' := by
  have HR0 := Aside0.mk hr0
  have HC0 := Aside0.mk hc0
  clear hr0 hc0
  have HB := Aside0.mk (Below.refl w.heap.size w)
  have H : ((some (([] : List Int) : List Int)).bind fun y143 => (if y143.length + l0.length < 17592186044416 then (some (y143 ++ l0)) else (none))) = some r := h
  clear h
  obtain ⟨y143, hy143⟩ : ∃ y_ : List Int, y_ = (([] : List Int)) := ⟨_, rfl⟩
  replace H : (if y143.length + l0.length < 17592186044416 then (some (y143 ++ l0)) else (none)) = some r := by first | (rw [hy143]; with_reducible exact H) | (have H2_ := (Option.bind_some _ _).symm.trans H; rw [hy143]; with_reducible exact H2_) | (have H2_ := (Option.bind_some _ _).symm.trans H; with_reducible exact H2_) | with_reducible exact H | (rw [hy143]; exact H) | exact H
  have Ny143 := Aside0.mk hy143
  clear hy143
  by_cases c2 : y143.length + l0.length < 17592186044416
  · rw [if_pos c2] at H
    have LMc2 := Aside0.mk c2
    clear c2
    obtain ⟨y146, hy146⟩ : ∃ y_ : List Int, y_ = (y143 ++ l0) := ⟨_, rfl⟩
    replace H : (some y146) = some r := by first | (rw [hy146]; with_reducible exact H) | (have H2_ := (Option.bind_some _ _).symm.trans H; rw [hy146]; with_reducible exact H2_) | (have H2_ := (Option.bind_some _ _).symm.trans H; with_reducible exact H2_) | with_reducible exact H | (rw [hy146]; exact H) | exact H
    have Ny146 := Aside0.mk hy146
    clear hy146
    obtain rfl := Option.some.inj H
    go_enter Try.func94, Try.ntmps94
    go_wp2_with (first | ((with_reducible refine gate_dst (N := 3) rfl ?_); refine Kd.R_lit (Kd.int .i64) _ 2 ?hg (N := 3) ?hd (xs := ([] : List Int)) (inner := []) (ok := fun _ => True) (okp := fun _ => True) ?hr ?hp (fun _ hk => hk) trivial (Below.refl _ _) (Nat.le_refl _) (by simp) ?_; (case hd => rfl); (case hg => rfl); (case hr => first | (go_simp; done) | (go_simp; rfl)); (case hp => exact (Reps.none _ _)); intro v144 w3 ho4 hb hg_ hnew_; clear hg_ hnew_; (first | rw [← Ny143.out] at ho4 | (simp only [Int.reduceToNat] at ho4; rw [← Ny143.out] at ho4)); have n0_ := Aside0.mk (Kd.R_lower ho4 (below_size (by repeat (first | (with_reducible first | exact HB.out | apply below_alloc | apply pw_below_drewN | apply below_drew1) | exact HB.out)))); have n1_ := Aside0.mk (below_step (by repeat (first | (with_reducible first | exact HB.out | apply below_alloc | apply pw_below_drewN | apply below_drew1) | exact HB.out)) hb); clear HB; have HO145 := n0_; have HB := n1_; clear n0_ n1_; clear hb ho4) | ((with_reducible refine gate_builtin (b := .append) (xs := #[.tmp 3, .tmp 4]) rfl ?_); at_builtin; refine Kd.R_append_rows (Kd.int .i64) (w0 := w) w.heap.size rfl (.tmp 3) (.tmp 4) 23 2 (.int .i64 0) 8 rfl Try.underlying23 info2 rfl (by decide) (by omega) v144 y143 l0 _ _ _ (fun _ => True) (fun _ => False) rfl rfl ?aO ?aR (fun _ _ h => h) (fun _ h => h.elim) ?aF ?aB ?aS ?aL ?_; (case aR => repeat (first | exact (Kd.C_below HR0.out HB.out) | (with_reducible refine Kd.C_alloc ?_ _) | (with_reducible refine Kd.C_drewN ?_ _) | (with_reducible refine Kd.C_drew ?_))); (case aB => exact (by repeat (first | (with_reducible first | exact HB.out | apply below_alloc | apply pw_below_drewN | apply below_drew1) | exact HB.out))); (case aF => exact (fun _ _ => trivial)); (case aO => exact (by (with_reducible repeat (first | apply Kd.R_alloc | apply Kd.R_drewN | apply Kd.R_drew)); exact HO145.out)); (case aS => exact (below_size (by repeat (first | (with_reducible first | exact HB.out | apply below_alloc | apply pw_below_drewN | apply below_drew1) | exact HB.out)))); (case aL => have := LMc2.out; omega); intro v147 w5 ho hb hg hat; rw [← Ny146.out] at ho; have n0_ := Aside0.mk (hb); have n1_ := Aside0.mk (ho); clear HB; clear HO145; have HB := n0_; have HO148 := n1_; clear n0_ n1_; clear ho hb hg hat))
    go_ret
    exact ⟨_, by first | rfl | (simp [errW_none, errW_some] <;> rfl) | (simp [*, errW_none, errW_some] <;> rfl), by (with_reducible repeat (first | apply Kd.R_alloc | apply Kd.R_drewN | apply Kd.R_drew)); exact HO148.out, by repeat (first | (with_reducible first | exact HB.out | apply below_alloc | apply pw_below_drewN | apply below_drew1) | exact HB.out)⟩
  · rw [if_neg c2] at H
    exact absurd H (by simp)

end Go.Proofs.Ytoeapnempdgagaa.Q
end

section
/- The reference's IsComplex comes to what the program's comes to. -/
namespace Go.Proofs.Ytoeapnempdgagaa.K
open Go.RowKit Go.Shelf Go.Proofs.Ytoeapnempdgagaa.Q Go.Proofs.YtoeapnempdgagaaW.PrintWords Go.Proofs.YtoeapnempdgagaaW.PrintLast Go.Proofs.YtoeapnempdgagaaW.PrintMore
set_option linter.unusedVariables false
set_option linter.unusedSimpArgs false

theorem specHas_loop (n x : Int) (l : List Int) (hl : l.length ≤ 9223372036854775806) : ∀ (d i k : Nat), l.length - i = d → i ≤ l.length → d < k →
    spec_l01Has.l0 k x (i : Int) n l = some (decide (x ∈ l.drop i)) := by
  intro d
  induction d with
  | zero =>
    intro i k hd hi hk
    obtain ⟨k, rfl⟩ : ∃ m, k = m + 1 := ⟨k - 1, by omega⟩
    obtain rfl : i = l.length := by omega
    simp only [spec_l01Has.l0]
    rw [if_neg (by omega)]
    simp
  | succ d ih =>
    intro i k hd hi hk
    obtain ⟨k, rfl⟩ : ∃ m, k = m + 1 := ⟨k - 1, by omega⟩
    simp only [spec_l01Has.l0]
    have hil : i < l.length := by omega
    rw [if_pos (by omega), if_pos (by omega), rd_nat l i hil, w64 _ (by omega) (by omega), nat_succ, List.drop_eq_getElem_cons hil]
    by_cases h : l[i] = x
    · rw [if_pos h]
      exact congrArg some (decide_eq_true (by rw [h]; exact List.mem_cons_self)).symm
    · rw [if_neg h, ih (i + 1) k (by omega) (by omega) (by omega)]
      exact congrArg some (decide_eq_decide.2 (by rw [List.mem_cons]; constructor <;> intro h2; exact .inr h2; exact h2.resolve_left (fun e => h e.symm)))
theorem specHas_is (n x : Int) (l : List Int) (hl : l.length ≤ 9223372036854775806) (k : Nat) (hk : l.length < k) : spec_l01Has.f k n l x = some (decide (x ∈ l)) := by
  unfold spec_l01Has.f
  have := specHas_loop n x l hl l.length 0 k (by omega) (by omega) hk
  simpa using this

theorem specBelow_64 : ∀ m : Fin 64, m.val ≠ 0 → spec_l01Below.f 64 (m.val : Int) = some (bords (m.val : Int)) := by decide +kernel
theorem specBelow_is (f : Int) (h1 : 1 ≤ f) (h2 : f ≤ 63) (k : Nat) (hk : 64 ≤ k) : spec_l01Below.f k f = some (bords f) := by
  obtain ⟨m, rfl⟩ := Int.eq_ofNat_of_zero_le (show 0 ≤ f by omega)
  exact at_rounds (fun k => spec_l01Below.mono _ k) hk (specBelow_64 ⟨m, by omega⟩ (by show m ≠ 0; omega))

/-- A list that is in range and ascending is ascending. -/
theorem asc_of_good (n : Int) (l : List Int) (h : ∀ j, j < l.length → goodAt n l j) : Asc l := by
  rw [Asc, List.pairwise_iff_getElem]
  intro i j hi hj hij
  induction j with
  | zero => omega
  | succ j ih =>
    have h1 := (h (j + 1) hj hj).2.2 (by omega)
    simp only [Nat.add_sub_cancel] at h1
    rcases Nat.lt_or_ge i j with h2 | h2
    · have := ih (by omega) h2
      omega
    · obtain rfl : i = j := by omega
      exact h1
theorem good_iff (n : Int) (l : List Int) : rangeAsc n l = true ↔ ∀ j, j < l.length → goodAt n l j := by simp [rangeAsc]
theorem isC_iff (n : Int) (l : List Int) : isC n l = true ↔ (1 ≤ n ∧ n ≤ 6) ∧ (∀ j, j < l.length → goodAt n l j) ∧ ∀ f ∈ l, closedAt l f = true := by
  simp [isC, good_iff, and_assoc]

theorem specIs_l2 (n : Int) (l : List Int) (hl : l.length ≤ 2097152) (hs : Asc l) (x4 : Int) (bs : List Int) (hb : bs.length ≤ 6) (R : Nat) (r : Bool)
    (hnext : ∀ k, R ≤ k → spec_l01Is.l1 k (wrap64 (x4 + 1)) n l = some r) : ∀ (d i k : Nat), bs.length - i = d → i ≤ bs.length → R + l.length + 1 + d < k →
    spec_l01Is.l2 k x4 bs (i : Int) n l = some ((bs.drop i).all (hasB l) && r) := by
  intro d
  induction d with
  | zero =>
    intro i k hd hi hk
    obtain ⟨k, rfl⟩ : ∃ m, k = m + 1 := ⟨k - 1, by omega⟩
    obtain rfl : i = bs.length := by omega
    simp only [spec_l01Is.l2]
    rw [if_neg (by omega), hnext k (by omega)]
    simp
  | succ d ih =>
    intro i k hd hi hk
    obtain ⟨k, rfl⟩ : ∃ m, k = m + 1 := ⟨k - 1, by omega⟩
    simp only [spec_l01Is.l2]
    have hil : i < bs.length := by omega
    rw [if_pos (by omega), if_pos (by omega), rd_nat bs i hil, specHas_is n _ l (by omega) k (by omega)]
    simp only [Option.bind_some]
    rw [w64 ((i : Int) + 1) (by omega) (by omega), nat_succ, List.drop_eq_getElem_cons hil, List.all_cons, has_asc l _ (by omega) hs]
    by_cases h : bs[i] ∈ l
    · simp only [h, decide_true, if_true, Bool.true_and]
      exact ih (i + 1) k (by omega) (by omega) (by omega)
    · simp only [h, decide_false, Bool.false_and, Bool.false_eq_true, if_false]

theorem specIs_l1 (n : Int) (l : List Int) (hl : l.length ≤ 2097152) (hn : 1 ≤ n ∧ n ≤ 6) (hg : ∀ j, j < l.length → goodAt n l j) : ∀ (d i k : Nat), l.length - i = d → i ≤ l.length → 9 * d + (d + 1) * (l.length + 2) + 70 < k →
    spec_l01Is.l1 k (i : Int) n l = some ((l.drop i).all (closedAt l)) := by
  have hs := asc_of_good n l hg
  have hF := full_range n hn
  intro d
  induction d with
  | zero =>
    intro i k hd hi hk
    obtain ⟨k, rfl⟩ : ∃ m, k = m + 1 := ⟨k - 1, by omega⟩
    obtain rfl : i = l.length := by omega
    simp only [spec_l01Is.l1]
    rw [if_neg (by omega)]
    simp
  | succ d ih =>
    intro i k hd hi hk
    obtain ⟨k, rfl⟩ : ∃ m, k = m + 1 := ⟨k - 1, by omega⟩
    simp only [spec_l01Is.l1]
    have hil : i < l.length := by omega
    have hgi := hg i hil hil
    have hmul : (d + 1 + 1) * (l.length + 2) = (d + 1) * (l.length + 2) + (l.length + 2) := by rw [Nat.add_mul]; omega
    rw [if_pos (by omega), if_pos (by omega), rd_nat l i hil, specBelow_is l[i] (by omega) (by omega) k (by omega)]
    simp only [Option.bind_some]
    have := specIs_l2 n l hl hs (i : Int) (bords l[i]) (bords_length _) (9 * d + (d + 1) * (l.length + 2) + 71) ((l.drop (i + 1)).all (closedAt l))
      (fun k hk => by rw [w64 _ (by omega) (by omega), nat_succ]; exact ih (i + 1) k (by omega) (by omega) (by omega)) (bords l[i]).length 0 k (by omega) (by omega) (by have := bords_length l[i]; omega)
    rw [show ((0 : Nat) : Int) = 0 from rfl] at this
    rw [this, List.drop_eq_getElem_cons hil, List.all_cons, List.drop_zero]
    rfl

theorem specIs_l0 (n : Int) (l : List Int) (hl : l.length ≤ 2097152) (hn : 1 ≤ n ∧ n ≤ 6) : ∀ (d i k : Nat), l.length - i = d → i ≤ l.length → (∀ j, j < i → goodAt n l j) →
    d + 9 * l.length + (l.length + 1) * (l.length + 2) + 72 < k → spec_l01Is.l0 k (i : Int) n l = some (isC n l) := by
  have hF := full_range n hn
  intro d
  induction d with
  | zero =>
    intro i k hd hi hg hk
    obtain ⟨k, rfl⟩ : ∃ m, k = m + 1 := ⟨k - 1, by omega⟩
    obtain rfl : i = l.length := by omega
    simp only [spec_l01Is.l0]
    rw [if_neg (by omega)]
    have := specIs_l1 n l hl hn hg l.length 0 k (by omega) (by omega) (by omega)
    rw [show ((0 : Nat) : Int) = 0 from rfl] at this
    rw [this, List.drop_zero]
    have h2 := (good_iff n l).2 hg
    simp [isC, hn, h2]
  | succ d ih =>
    intro i k hd hi hg hk
    obtain ⟨k, rfl⟩ : ∃ m, k = m + 1 := ⟨k - 1, by omega⟩
    simp only [spec_l01Is.l0]
    have hil : i < l.length := by omega
    have hbad : ¬ goodAt n l i → isC n l = false := fun hb => by
      unfold isC
      rw [rangeAsc_false n l i hil hb]
      simp
    rw [if_pos (by omega), if_pos (by omega), specAll_is n (by omega) (by omega)]
    simp only [Option.bind_some]
    rw [rd_nat l i hil, specIn_is, w64 ((i : Int) + 1) (by omega) (by omega), nat_succ]
    simp only [Option.bind_some]
    by_cases hin : 1 ≤ l[i] ∧ l[i] ≤ fullOf n
    · simp only [hin, and_self, decide_true, if_true]
      by_cases hi0 : i = 0
      · subst hi0
        rw [if_neg (by omega)]
        exact ih 1 k (by omega) (by omega) (fun j hj => (show j = 0 by omega) ▸ (fun h => ⟨hin.1, hin.2, fun h0 => absurd h0 (Nat.lt_irrefl 0)⟩)) (by omega)
      · have e1 : ((i : Int) - 1) = ((i - 1 : Nat) : Int) := by omega
        rw [if_pos (by omega), w64 _ (by omega) (by omega), e1, if_pos (by omega), if_pos (by omega), rd_nat l (i - 1) (by omega)]
        by_cases hle : l[i] ≤ l[i - 1]
        · rw [if_pos hle, hbad (fun h => by have := (h hil).2.2 (by omega); omega)]
        · rw [if_neg hle]
          exact ih (i + 1) k (by omega) (by omega) (fun j hj => by
            rcases Nat.lt_or_ge j i with h | h
            · exact hg j h
            · obtain rfl : j = i := by omega
              exact fun _ => ⟨hin.1, hin.2, fun _ => by omega⟩) (by omega)
    · simp only [hin, decide_false, Bool.false_eq_true, if_false]
      rw [hbad (fun h => hin ⟨(h hil).1, (h hil).2.1⟩)]

/-- How many rounds the reference's IsComplex takes at most. -/
def isK (l : List Int) : Nat := 10 * l.length + (l.length + 1) * (l.length + 2) + 73
theorem specIs_is (n : Int) (l : List Int) (hl : l.length ≤ 2097152) (k : Nat) (hk : isK l ≤ k) : spec_l01Is.f k n l = some (isC n l) := by
  unfold isK at hk
  unfold spec_l01Is.f
  rw [specIn_is]
  simp only [Option.bind_some]
  by_cases hn : 1 ≤ n ∧ n ≤ 6
  · simp only [hn, and_self, decide_true, if_true]
    have := specIs_l0 n l hl hn l.length 0 k (by omega) (by omega) (fun j hj => absurd hj (Nat.not_lt_zero _)) (by omega)
    simpa using this
  · simp only [hn, decide_false, Bool.false_eq_true, if_false]
    simp [isC, hn]

end Go.Proofs.Ytoeapnempdgagaa.K
end

section
/- Written by a program of this session (myprint.py over the kit's print). -/
namespace Go.Proofs.Ytoeapnempdgagaa.Q
open Go.RowKit Go.Proofs.YtoeapnempdgagaaW.PrintWords Go.Proofs.YtoeapnempdgagaaW.PrintLast Go.Proofs.YtoeapnempdgagaaW.PrintMore
attribute [local go_sem] max2_int min2_int max_two min_two max_three min_three max_four min_four   -- for this text's walks alone
set_option linter.unusedVariables false
set_option linter.unusedSimpArgs false

/-! ### spec_l01On: function 63 -/
def spec_l01On.l0 : Nat → Int → Int → Int → List Int → Int → List Int → Option (Int × List Int)
  | 0, _, _, _, _, _, _ => none
  | k + 1, x1, x6, x184000, x184001, x189000, x189001 => if x6 < (x184001.length : Int) then (if 0 ≤ x6 then (if (Go.bits .and .i64 (rd x184001 x6) x1) = (rd x184001 x6) then (if x189001.length < 17592186044416 then (spec_l01On.l0 k x1 (wrap64 (x6 + 1)) x184000 x184001 x189000 (x189001 ++ [rd x184001 x6])) else (none)) else (spec_l01On.l0 k x1 (wrap64 (x6 + 1)) x184000 x184001 x189000 x189001)) else (none)) else (some (x189000, x189001))
def spec_l01On.f (k : Nat) (a0_0 : Int) (l0_1 : List Int) (a1 : Int) : Option (Int × List Int) := spec_l01On.l0 k a1 0 a0_0 l0_1 a0_0 (([] : List Int))
theorem spec_l01On.mono_l : ∀ k, (∀ y0 y1 y2 y3 y4 y5, LeO (spec_l01On.l0 k y0 y1 y2 y3 y4 y5) (spec_l01On.l0 (k + 1) y0 y1 y2 y3 y4 y5))
  | 0 => fun _ _ _ _ _ _ r h => by simp [spec_l01On.l0] at h
  | k + 1 => by
    have ih0 := spec_l01On.mono_l k
    · intro y0 y1 y2 y3 y4 y5
      unfold spec_l01On.l0
      repeat' first
      | (with_reducible exact ih0 _ _ _ _ _ _)
      | (with_reducible exact LeO.refl _)
      | (with_reducible exact LeO.none _)
      | (with_reducible refine LeO.ite ?_ ?_)
      | (with_reducible refine LeO.bind ?_ (fun _ => ?_))
      | exact ih0 _ _ _ _ _ _
      | exact LeO.none _
      | refine LeO.ite ?_ ?_
      | refine LeO.bind ?_ (fun _ => ?_)
theorem spec_l01On.mono : ∀ a0 a1 a2 k, LeO (spec_l01On.f k a0 a1 a2) (spec_l01On.f (k + 1) a0 a1 a2) := by
  intro a0 a1 a2 k
  have ih0 := spec_l01On.mono_l k
  unfold spec_l01On.f
  repeat' first
      | (with_reducible exact ih0 _ _ _ _ _ _)
      | (with_reducible exact LeO.refl _)
      | (with_reducible exact LeO.none _)
      | (with_reducible refine LeO.ite ?_ ?_)
      | (with_reducible refine LeO.bind ?_ (fun _ => ?_))
      | exact ih0 _ _ _ _ _ _
      | exact LeO.none _
      | refine LeO.ite ?_ ?_
      | refine LeO.bind ?_ (fun _ => ?_)
def spec_l01On.T5 : Bool × List (List Nat × List Nat) := (true, [([], []), ([0], [0]), ([], []), ([1, 2], [1, 2]), ([3], [3]), ([], []), ([4, 5], [4, 5]), ([], []), ([7], [7]), ([], []), ([8, 9], [8, 9]), ([10], [10]), ([6, 11], [6, 11])])
def spec_l01On.B5 : List Nat := [0, 1, 0, 7, 15, 0, 63, 0, 128, 0, 896, 1920, 4095]
theorem spec_l01On.tab5 : rtab .any (opsOf Try.f63 5) = spec_l01On.T5 := by kernel_rfl
theorem spec_l01On.bits5 : waitsOk spec_l01On.T5.2 spec_l01On.B5 = true := by kernel_rfl
def spec_l01On.T6 : Bool × List (List Nat × List Nat) := (true, [([], []), ([0], [0]), ([], []), ([2], [2]), ([], []), ([3, 4], [3, 4]), ([5], [5]), ([6], [6]), ([1, 7], [1, 7]), ([0, 1, 2, 3, 4, 5, 6, 7, 8], []), ([9, 8, 8, 0, 1, 2, 3, 4, 5, 6, 7, 8], [8, 9])])
def spec_l01On.B6 : List Nat := [0, 1, 0, 4, 0, 28, 60, 124, 255, 511, 1023]
theorem spec_l01On.tab6 : rtab .any (opsOf Try.f63 6) = spec_l01On.T6 := by kernel_rfl
theorem spec_l01On.bits6 : waitsOk spec_l01On.T6.2 spec_l01On.B6 = true := by kernel_rfl
set_option maxHeartbeats 8000000 in
set_option maxRecDepth 100000 in
theorem spec_l01On.calls (k : Nat) (a0_0 : Int) (A0_1 : Option Addr) (c0_1 : Nat) (l0_1 : List Int) (a1 : Int) (r1 : Int) (r2 : List Int) (w : World) (hr0_1 : Kd.C (Kd.int .i64) w A0_1 l0_1.length l0_1) (hc0_1 : l0_1.length ≤ c0_1) (h : spec_l01On.f k a0_0 l0_1 a1 = some (r1, r2)) :
    Calls Try.prog 63 #[.agg #[.int .i64 a0_0, .slice A0_1 l0_1.length c0_1], .int .i64 a1] w fun e w' => ∃ v1_ : Value, e = .returned (.agg #[.int .i64 r1, v1_]) ∧ Kd.R (Kd.int .i64) 2 w' w.heap.size (fun _ => True) v1_ r2 ∧ Below w.heap.size w w' := by
  have hu25 := Try.underlying25
  have HR0_1 := Aside0.mk hr0_1
  have HC0_1 := Aside0.mk hc0_1
  clear hr0_1 hc0_1
  have HB := Aside0.mk (Below.refl w.heap.size w)
  have H : (spec_l01On.l0 k a1 0 a0_0 l0_1 a0_0 (([] : List Int))) = some (r1, r2) := h
  clear h
  obtain ⟨y185, hy185⟩ : ∃ y_ : List Int, y_ = (([] : List Int)) := ⟨_, rfl⟩
  replace H : (spec_l01On.l0 k a1 0 a0_0 l0_1 a0_0 y185) = some (r1, r2) := by first | (rw [hy185]; with_reducible exact H) | (have H2_ := (Option.bind_some _ _).symm.trans H; rw [hy185]; with_reducible exact H2_) | (have H2_ := (Option.bind_some _ _).symm.trans H; with_reducible exact H2_) | with_reducible exact H | (rw [hy185]; exact H) | exact H
  have Ny185 := Aside0.mk hy185
  clear hy185
  have H' := Aside0.mk H
  clear H
  go_enter Try.func63, Try.ntmps63
  go_wp2_with (first | ((with_reducible refine gate_dst (N := 2) rfl ?_); refine box_event ?hg (N := 2) ?hd (cs := #[.int .i64 a0_0, .slice A0_1 l0_1.length c0_1]) (t := 25) ?hr ?_; (case hd => rfl); (case hg => rfl); (case hr => first | (go_simp; done) | (go_simp; rfl)); intro gb183 hg w3 hbox hb; have n0_ := Aside0.mk (below_step (by repeat (first | (with_reducible first | exact HB.out | apply below_alloc | apply pw_below_drewN | apply below_drew1) | exact HB.out)) hb); have n1_ := Aside0.mk (hbox); have n2_ := Aside0.mk ((by rw [hg]; exact (below_size (by repeat (first | (with_reducible first | exact HB.out | apply below_alloc | apply pw_below_drewN | apply below_drew1) | exact HB.out))) : w.heap.size ≤ gb183)); have n3_ := Aside0.mk ((by rw [hg]; exact (below_size (by repeat (first | (with_reducible first | exact HB.out | apply below_alloc | apply pw_below_drewN | apply below_drew1) | exact HB.out))) : w.heap.size ≤ gb183)); clear HB; have HB := n0_; have BK183 := n1_; have GW183 := n2_; have GE183 := n3_; clear n0_ n1_ n2_ n3_; clear hb hbox hg) | ((with_reducible refine gate_dst (N := 4) rfl ?_); refine box_event ?hg (N := 4) ?hd (cs := #[.int .i64 0, .slice none 0 0]) (t := 25) ?hr ?_; (case hd => rfl); (case hg => rfl); (case hr => first | (go_simp; done) | (go_simp; rfl)); intro gb184 hg w4 hbox hb; have n0_ := Aside0.mk (blk_below (g := gb183) (o := .cells #[.int .i64 a0_0, .slice A0_1 l0_1.length c0_1] 25 (0, 0)) (by (with_reducible repeat (first | refine blk_drewN ?_ _ | refine blk_drew ?_ | refine blk_alloc ?_ _)); exact BK183.out) hb); have n1_ := Aside0.mk (below_step (by repeat (first | (with_reducible first | exact HB.out | apply below_alloc | apply pw_below_drewN | apply below_drew1 | refine below_set ?_ GE183.out) | exact HB.out)) hb); have n2_ := Aside0.mk (hbox); have n3_ := Aside0.mk ((by rw [hg]; exact (below_size (by repeat (first | (with_reducible first | exact HB.out | apply below_alloc | apply pw_below_drewN | apply below_drew1 | refine below_set ?_ GE183.out) | exact HB.out))) : w.heap.size ≤ gb184)); have n4_ := Aside0.mk ((by rw [hg]; exact (below_size (by repeat (first | (with_reducible first | exact HB.out | apply below_alloc | apply pw_below_drewN | apply below_drew1 | refine below_set ?_ GE183.out) | exact HB.out))) : w.heap.size ≤ gb184)); have n5_ := Aside0.mk ((by rw [hg]; exact Nat.ne_of_lt (blk_lt (g := gb183) (o := .cells #[.int .i64 a0_0, .slice A0_1 l0_1.length c0_1] 25 (0, 0)) (by (with_reducible repeat (first | refine blk_drewN ?_ _ | refine blk_drew ?_ | refine blk_alloc ?_ _)); exact BK183.out)) : gb183 ≠ gb184)); have n6_ := Aside0.mk ((by rw [hg]; exact Nat.ne_of_gt (blk_lt (g := gb183) (o := .cells #[.int .i64 a0_0, .slice A0_1 l0_1.length c0_1] 25 (0, 0)) (by (with_reducible repeat (first | refine blk_drewN ?_ _ | refine blk_drew ?_ | refine blk_alloc ?_ _)); exact BK183.out)) : gb184 ≠ gb183)); clear BK183; clear HB; have BK183 := n0_; have HB := n1_; have BK184 := n2_; have GW184 := n3_; have GE184 := n4_; have NB183_184 := n5_; have NB184_183 := n6_; clear n0_ n1_ n2_ n3_ n4_ n5_ n6_; clear hb hbox hg; have hnb5 := NB183_184.out; have hnc5 := NB184_183.out; have hcz6_0 : w4.cell? ⟨gb183, 0, none⟩ = some (.int .i64 a0_0) := (blk_cell BK183.out 0).trans rfl; have hcz6_1 : w4.cell? ⟨gb183, 1, none⟩ = some (.slice A0_1 l0_1.length c0_1) := (blk_cell BK183.out 1).trans rfl; have hfz6_0 := blk_frozen BK183.out 0; have hfz6_1 := blk_frozen BK183.out 1) | ((with_reducible refine gate_dst (N := 9) rfl ?_); refine Kd.R_lit (Kd.int .i64) _ 2 ?hg (N := 9) ?hd (xs := ([] : List Int)) (inner := []) (ok := fun _ => True) (okp := fun _ => True) ?hr ?hp (fun _ hk => hk) trivial (Below.refl _ _) (Nat.le_refl _) (by simp) ?_; (case hd => rfl); (case hg => rfl); (case hr => first | (go_simp; done) | (go_simp; rfl)); (case hp => exact (Reps.none _ _)); intro v186 w7 ho8 hb hg_ hnew_; clear hg_ hnew_; (first | rw [← Ny185.out] at ho8 | (simp only [Int.reduceToNat] at ho8; rw [← Ny185.out] at ho8)); have n0_ := Aside0.mk (Kd.R_lower ho8 (below_size (by repeat (first | (with_reducible first | exact HB.out | apply below_alloc | apply pw_below_drewN | apply below_drew1 | refine below_set ?_ GE183.out | refine below_set ?_ GE184.out) | exact HB.out)))); have n1_ := Aside0.mk (blk_below (g := gb183) (o := .cells #[.int .i64 a0_0, .slice A0_1 l0_1.length c0_1] 25 (0, 0)) (by (with_reducible repeat (first | refine blk_drewN ?_ _ | refine blk_drew ?_ | refine blk_alloc ?_ _)); exact BK183.out) hb); have n2_ := Aside0.mk (blk_below (g := gb184) (o := .cells #[.int .i64 0, .slice none 0 0] 25 (0, 0)) (by (with_reducible repeat (first | refine blk_drewN ?_ _ | refine blk_drew ?_ | refine blk_alloc ?_ _)); exact BK184.out) hb); have n3_ := Aside0.mk (below_step (by repeat (first | (with_reducible first | exact HB.out | apply below_alloc | apply pw_below_drewN | apply below_drew1 | refine below_set ?_ GE183.out | refine below_set ?_ GE184.out) | exact HB.out)) hb); clear BK183; clear BK184; clear HB; have HO187 := n0_; have BK183 := n1_; have BK184 := n2_; have HB := n3_; clear n0_ n1_ n2_ n3_; clear hb ho8; obtain ⟨Ao9, co9, eo9⟩ := Kd.R_slice HO187.out; subst eo9) | ((with_reducible refine gate_dst (N := 5) rfl ?_); refine box_event ?hg (N := 5) ?hd (cs := #[.int .i64 0, .slice none 0 0]) (t := 25) ?hr ?_; (case hd => rfl); (case hg => rfl); (case hr => first | (go_simp; done) | (go_simp; rfl)); intro gb188 hg w10 hbox hb; have n0_ := Aside0.mk (Kd.R_below (by (with_reducible repeat (first | apply Kd.R_alloc | apply Kd.R_drewN | apply Kd.R_drew)); exact HO187.out) hb); have n1_ := Aside0.mk (blk_below (g := gb183) (o := .cells #[.int .i64 a0_0, .slice A0_1 l0_1.length c0_1] 25 (0, 0)) (by (with_reducible repeat (first | refine blk_drewN ?_ _ | refine blk_drew ?_ | refine blk_alloc ?_ _)); exact BK183.out) hb); have n2_ := Aside0.mk (blk_below (g := gb184) (o := .cells #[.int .i64 0, .slice none 0 0] 25 (0, 0)) (by (with_reducible repeat (first | refine blk_drewN ?_ _ | refine blk_drew ?_ | refine blk_alloc ?_ _)); exact BK184.out) hb); have n3_ := Aside0.mk (below_step (by repeat (first | (with_reducible first | exact HB.out | apply below_alloc | apply pw_below_drewN | apply below_drew1 | refine below_set ?_ GE183.out | refine below_set ?_ GE184.out) | exact HB.out)) hb); have n4_ := Aside0.mk (hbox); have n5_ := Aside0.mk ((by rw [hg]; exact (below_size (by repeat (first | (with_reducible first | exact HB.out | apply below_alloc | apply pw_below_drewN | apply below_drew1 | refine below_set ?_ GE183.out | refine below_set ?_ GE184.out) | exact HB.out))) : w.heap.size ≤ gb188)); have n6_ := Aside0.mk ((by rw [hg]; exact (below_size (by repeat (first | (with_reducible first | exact HB.out | apply below_alloc | apply pw_below_drewN | apply below_drew1 | refine below_set ?_ GE183.out | refine below_set ?_ GE184.out) | exact HB.out))) : w.heap.size ≤ gb188)); have n7_ := Aside0.mk ((by rw [hg]; exact Nat.ne_of_lt (blk_lt (g := gb183) (o := .cells #[.int .i64 a0_0, .slice A0_1 l0_1.length c0_1] 25 (0, 0)) (by (with_reducible repeat (first | refine blk_drewN ?_ _ | refine blk_drew ?_ | refine blk_alloc ?_ _)); exact BK183.out)) : gb183 ≠ gb188)); have n8_ := Aside0.mk ((by rw [hg]; exact Nat.ne_of_gt (blk_lt (g := gb183) (o := .cells #[.int .i64 a0_0, .slice A0_1 l0_1.length c0_1] 25 (0, 0)) (by (with_reducible repeat (first | refine blk_drewN ?_ _ | refine blk_drew ?_ | refine blk_alloc ?_ _)); exact BK183.out)) : gb188 ≠ gb183)); have n9_ := Aside0.mk ((by rw [hg]; exact Nat.ne_of_lt (blk_lt (g := gb184) (o := .cells #[.int .i64 0, .slice none 0 0] 25 (0, 0)) (by (with_reducible repeat (first | refine blk_drewN ?_ _ | refine blk_drew ?_ | refine blk_alloc ?_ _)); exact BK184.out)) : gb184 ≠ gb188)); have n10_ := Aside0.mk ((by rw [hg]; exact Nat.ne_of_gt (blk_lt (g := gb184) (o := .cells #[.int .i64 0, .slice none 0 0] 25 (0, 0)) (by (with_reducible repeat (first | refine blk_drewN ?_ _ | refine blk_drew ?_ | refine blk_alloc ?_ _)); exact BK184.out)) : gb188 ≠ gb184)); clear HO187; clear BK183; clear BK184; clear HB; have HO187 := n0_; have BK183 := n1_; have BK184 := n2_; have HB := n3_; have BK188 := n4_; have GW188 := n5_; have GE188 := n6_; have NB183_188 := n7_; have NB188_183 := n8_; have NB184_188 := n9_; have NB188_184 := n10_; clear n0_ n1_ n2_ n3_ n4_ n5_ n6_ n7_ n8_ n9_ n10_; clear hb hbox hg; have hnb11 := NB188_183.out; have hnc11 := NB183_188.out; have hnb12 := NB188_184.out; have hnc12 := NB184_188.out; have hcz13_0 : w10.cell? ⟨gb188, 0, none⟩ = some (.int .i64 0) := (blk_cell BK188.out 0).trans rfl; have hcz13_1 : w10.cell? ⟨gb188, 1, none⟩ = some (.slice none 0 0) := (blk_cell BK188.out 1).trans rfl; have hfz13_0 := blk_frozen BK188.out 0; have hfz13_1 := blk_frozen BK188.out 1))
  go_loopg [6] k (fun kq v6 w' => ∃ (x6_1 : Int) (x189001_1 : List Int) (u189001 : Value), v6 = .int .i64 x6_1 ∧ Aside0 (spec_l01On.l0 kq a1 x6_1 a0_0 l0_1 a0_0 x189001_1 = some (r1, r2)) ∧ Aside0 (kq ≤ k) ∧ Aside0 (Kd.R (Kd.int .i64) 2 w' w.heap.size (fun _ => True) u189001 x189001_1) ∧ Aside0 (w'.heap[gb183]? = some (.cells #[.int .i64 a0_0, (.slice A0_1 l0_1.length c0_1)] 25 (0, 0))) ∧ Aside0 (w'.heap[gb184]? = some (.cells #[.int .i64 0, (.slice none 0 0)] 25 (0, 0))) ∧ Aside0 (w'.heap[gb188]? = some (.cells #[.int .i64 a0_0, u189001] 25 (0, 0))) ∧ Aside0 (Below w.heap.size w w'))
  case atStart => exact ⟨(0), (y185), (.slice Ao9 y185.length co9), (by first | rfl | (simp; done) | (simp [*]; done)), H', ⟨Nat.le_refl _⟩, ⟨by (with_reducible repeat (first | apply Kd.R_alloc | apply Kd.R_drewN | apply Kd.R_drew)); exact Kd.R_mono (Kd.R_far (p := ⟨gb188, 1, none⟩) (Kd.R_far (p := ⟨gb188, 0, none⟩) (Kd.R_types HO187.out BK188.out (by decide)) (fun _ hk => hk.2) (.int .i64 a0_0)) (fun _ hk => hk.2) (.slice Ao9 y185.length co9)) (fun _ hk => trivial)⟩, ⟨by (with_reducible repeat (first | refine blk_drewN ?_ _ | refine blk_drew ?_ | refine blk_alloc ?_ _)); refine blk_far ?_ NB183_188.out _; (with_reducible repeat (first | refine blk_drewN ?_ _ | refine blk_drew ?_ | refine blk_alloc ?_ _)); refine blk_far ?_ NB183_188.out _; (with_reducible repeat (first | refine blk_drewN ?_ _ | refine blk_drew ?_ | refine blk_alloc ?_ _)); exact BK183.out⟩, ⟨by (with_reducible repeat (first | refine blk_drewN ?_ _ | refine blk_drew ?_ | refine blk_alloc ?_ _)); refine blk_far ?_ NB184_188.out _; (with_reducible repeat (first | refine blk_drewN ?_ _ | refine blk_drew ?_ | refine blk_alloc ?_ _)); refine blk_far ?_ NB184_188.out _; (with_reducible repeat (first | refine blk_drewN ?_ _ | refine blk_drew ?_ | refine blk_alloc ?_ _)); exact BK184.out⟩, ⟨by (with_reducible repeat (first | refine blk_drewN ?_ _ | refine blk_drew ?_ | refine blk_alloc ?_ _)); refine blk_put (cs := #[.int .i64 a0_0, .slice none 0 0]) ?_ 1 _ rfl; (with_reducible repeat (first | refine blk_drewN ?_ _ | refine blk_drew ?_ | refine blk_alloc ?_ _)); refine blk_put (cs := #[.int .i64 0, .slice none 0 0]) ?_ 0 _ rfl; (with_reducible repeat (first | refine blk_drewN ?_ _ | refine blk_drew ?_ | refine blk_alloc ?_ _)); exact BK188.out⟩, ⟨by repeat (first | (with_reducible first | exact HB.out | apply below_alloc | apply pw_below_drewN | apply below_drew1 | refine below_set ?_ GE183.out | refine below_set ?_ GE184.out | refine below_set ?_ GE188.out) | exact HB.out)⟩⟩
  case round =>
    clear H'
    try clear c1
    try clear p2
    try clear c5
    try clear c6
    try clear c11
    try clear c12
    try clear hcz13_0
    try clear hcz13_1
    try clear hcz6_0
    try clear hcz6_1
    try clear hfz13_0
    try clear hfz13_1
    try clear hfz6_0
    try clear hfz6_1
    obtain ⟨x6_1, x189001_1, u189001, rfl, HA, HK1, HO_189001, BK183, BK184, BK188, HB⟩ := hrel
    cases gk with
    | zero => exact absurd HA.out (by simp [spec_l01On.l0])
    | succ k1 =>
      have H := HA.out
      clear HA
      simp only [spec_l01On.l0] at H
      by_cases c14 : x6_1 < (l0_1.length : Int)
      · rw [if_pos c14] at H
        have c14b0 : decide (x6_1 < (l0_1.length : Int)) = true := decide_eq_true c14
        clear c14
        by_cases c15 : 0 ≤ x6_1
        · rw [if_pos c15] at H
          have c15b0 : decide (0 ≤ x6_1) = true := decide_eq_true c15
          clear c15
          by_cases c16 : (Go.bits .and .i64 (rd l0_1 x6_1) a1) = (rd l0_1 x6_1)
          · rw [if_pos c16] at H
            have c16b0 : ((Go.bits .and .i64 (rd l0_1 x6_1) a1) == (rd l0_1 x6_1)) = true := beq_iff_eq.mpr c16
            have c16b1 : ((Go.bits .and .i64 (rd l0_1 x6_1) a1) != (rd l0_1 x6_1)) = false := bne_eq_false_iff_eq.mpr c16
            clear c16
            by_cases c17 : x189001_1.length < 17592186044416
            · rw [if_pos c17] at H
              have LMc17 := Aside0.mk c17
              clear c17
              obtain ⟨y192, hy192⟩ : ∃ y_ : List Int, y_ = (x189001_1 ++ [rd l0_1 x6_1]) := ⟨_, rfl⟩
              replace H : (spec_l01On.l0 k1 a1 (wrap64 (x6_1 + 1)) a0_0 l0_1 a0_0 y192) = some (r1, r2) := by first | (rw [hy192]; with_reducible exact H) | (have H2_ := (Option.bind_some _ _).symm.trans H; rw [hy192]; with_reducible exact H2_) | (have H2_ := (Option.bind_some _ _).symm.trans H; with_reducible exact H2_) | with_reducible exact H | (rw [hy192]; exact H) | exact H
              have Ny192 := Aside0.mk hy192
              clear hy192
              have H' := Aside0.mk H
              clear H
              have hnb18 := NB183_184.out
              have hnc18 := NB184_183.out
              have hnb19 := NB183_188.out
              have hnc19 := NB188_183.out
              have hcz20_0 : wr.cell? ⟨gb183, 0, none⟩ = some (.int .i64 a0_0) := (blk_cell BK183.out 0).trans rfl
              have hcz20_1 : wr.cell? ⟨gb183, 1, none⟩ = some (.slice A0_1 l0_1.length c0_1) := (blk_cell BK183.out 1).trans rfl
              have hfz20_0 := blk_frozen BK183.out 0
              have hfz20_1 := blk_frozen BK183.out 1
              try go_wp2
              have n0_ := Aside0.mk (Kd.R_drew HO_189001.out)
              have n1_ := Aside0.mk (blk_drew BK183.out)
              have n2_ := Aside0.mk (blk_drew BK184.out)
              have n3_ := Aside0.mk (blk_drew BK188.out)
              have n4_ := Aside0.mk (below_drew1 HB.out)
              clear HO_189001
              clear BK183
              clear BK184
              clear BK188
              clear HB
              have HO_189001 := n0_
              have BK183 := n1_
              have BK184 := n2_
              have BK188 := n3_
              have HB := n4_
              clear n0_ n1_ n2_ n3_ n4_
              have p189 : 0 ≤ (x6_1 : Int) := of_decide_eq_true (by first | (with_reducible assumption) | assumption)
              have q189 : x6_1 < (l0_1.length : Int) := of_decide_eq_true (by first | (with_reducible assumption) | assumption)
              obtain ⟨ad189, e189, hx189_0⟩ := Kd.at_int HR0_1.out x6_1 p189 q189
              have hw189_0 := hx189_0
              cases e189
              replace hx189_0 := (HB.out.cell (World.block_lt_of_cell? w _ hx189_0)).trans hx189_0
              replace p189 := eq_true p189
              replace q189 := eq_true q189
              have p190 : 0 ≤ (x6_1 : Int) := of_decide_eq_true (by first | (with_reducible assumption) | assumption)
              have q190 : x6_1 < (l0_1.length : Int) := of_decide_eq_true (by first | (with_reducible assumption) | assumption)
              obtain ⟨ad190, e190, hx190_0⟩ := Kd.at_int HR0_1.out x6_1 p190 q190
              have hw190_0 := hx190_0
              obtain rfl : ad189 = ad190 := (by injection e190)
              replace hx190_0 := (HB.out.cell (World.block_lt_of_cell? w _ hx190_0)).trans hx190_0
              replace p190 := eq_true p190
              replace q190 := eq_true q190
              refine start_ (n := 13) (S := fun w' => w'.cell? ⟨gb183, 0, none⟩ = some (.int .i64 a0_0) ∧ w'.cell? ⟨gb183, 1, none⟩ = some (.slice (some ad189) l0_1.length c0_1) ∧ w'.cell? (ad189.add (x6_1).toNat) = some (.int .i64 (rd l0_1 x6_1)) ∧ w'.cell? (ad189.add (x6_1).toNat) = some (.int .i64 (rd l0_1 x6_1))) (ds := []) #[false, false, false, false, false, false, false, false, false, false, false, false, false] (by kernel_rfl) rfl rfl ⟨(blk_cell BK183.out 0).trans rfl, (blk_cell BK183.out 1).trans rfl, ((HB.out.cell (World.block_lt_of_cell? w _ hw189_0)).trans hw189_0), ((HB.out.cell (World.block_lt_of_cell? w _ hw190_0)).trans hw190_0)⟩ (fun hHeld => ?_); refine with_tabW spec_l01On.tab5 spec_l01On.bits5 (fun HT_ HW_ => ?_)
              generalize wr.drew = w21 at HO_189001 BK183 BK184 BK188 HB hx189_0 hx190_0 hHeld ⊢
              refine pure_ (i := 0) (N := some 18) (v := ?_) (a' := ?_) #[true, false, false, false, false, false, false, false, false, false, false, false, false] rfl rfl (any_of HT_.out (by kernel_rfl)) (fun _ _ _ h => h) (Or.inl ⟨by rfl, ?_⟩) ?_ ?_
              rotate_left
              · intro w'
                go_simp
                with_reducible rfl
              rotate_left
              · simp only [Act.put, List.setIfInBounds_toArray, List.set_cons_zero, List.set_cons_succ, i64_w, i32_w]
                rfl
              refine pure_ (i := 2) (N := some 20) (v := ?_) (a' := ?_) #[true, false, true, false, false, false, false, false, false, false, false, false, false] rfl rfl (any_of HT_.out (by kernel_rfl)) (fun _ _ _ h => h) (Or.inl ⟨by rfl, ?_⟩) ?_ ?_
              rotate_left
              · intro w'
                go_simp
                with_reducible rfl
              rotate_left
              · simp only [Act.put, List.setIfInBounds_toArray, List.set_cons_zero, List.set_cons_succ, i64_w, i32_w]
                rfl
              refine pure_ (i := 5) (N := some 23) (v := ?_) (a' := ?_) #[true, false, true, false, false, true, false, false, false, false, false, false, false] rfl rfl (any_of HT_.out (by kernel_rfl)) (fun _ _ _ h => h) (Or.inl ⟨by rfl, ?_⟩) ?_ ?_
              rotate_left
              · intro w'
                go_simp
                with_reducible rfl
              rotate_left
              · simp only [Act.put, List.setIfInBounds_toArray, List.set_cons_zero, List.set_cons_succ, i64_w, i32_w]
                rfl
              refine pure_ (i := 7) (N := some 25) (v := ?_) (a' := ?_) #[true, false, true, false, false, true, false, true, false, false, false, false, false] rfl rfl (any_of HT_.out (by kernel_rfl)) (fun _ _ _ h => h) (Or.inl ⟨by rfl, ?_⟩) ?_ ?_
              rotate_left
              · intro w'
                go_simp
                with_reducible rfl
              rotate_left
              · simp only [Act.put, List.setIfInBounds_toArray, List.set_cons_zero, List.set_cons_succ, i64_w, i32_w]
                rfl
              refine pure_ (i := 9) (N := some 27) (v := ?_) (a' := ?_) #[true, false, true, false, false, true, false, true, false, true, false, false, false] rfl rfl (any_of HT_.out (by kernel_rfl)) (fun _ _ _ h => h) (Or.inl ⟨by rfl, ?_⟩) ?_ ?_
              rotate_left
              · intro w'
                go_simp
                with_reducible rfl
              rotate_left
              · simp only [Act.put, List.setIfInBounds_toArray, List.set_cons_zero, List.set_cons_succ, i64_w, i32_w]
                rfl
              refine take_ (i := 1) (N := some 19) (v := ?_) (a' := ?_) #[true, true, true, false, false, true, false, true, false, true, false, false, false] rfl rfl (take_ofW HT_.out HW_.out (by kernel_rfl)) (fun _ _ _ h => h) (Or.inl ⟨by rfl, ?_⟩) hHeld ?_ ?_
              rotate_left
              · rintro w' ⟨s0, s1, s2, s3⟩
                go_simp
                with_reducible rfl
              rotate_left
              · simp only [Act.put, List.setIfInBounds_toArray, List.set_cons_zero, List.set_cons_succ, i64_w, i32_w]
                rfl
              refine pure_ (i := 3) (N := some 21) (v := ?_) (a' := ?_) #[true, true, true, true, false, true, false, true, false, true, false, false, false] rfl rfl (any_of HT_.out (by kernel_rfl)) (fun _ _ _ h => h) (Or.inl ⟨by rfl, ?_⟩) ?_ ?_
              rotate_left
              · intro w'
                go_simp
                with_reducible rfl
              rotate_left
              · simp only [Act.put, List.setIfInBounds_toArray, List.set_cons_zero, List.set_cons_succ, i64_w, i32_w]
                rfl
              refine take_ (i := 4) (N := some 22) (v := ?_) (a' := ?_) #[true, true, true, true, true, true, false, true, false, true, false, false, false] rfl rfl (take_ofW HT_.out HW_.out (by kernel_rfl)) (fun _ _ _ h => h) (Or.inl ⟨by rfl, ?_⟩) hHeld ?_ ?_
              rotate_left
              · rintro w' ⟨s0, s1, s2, s3⟩
                go_simp
                with_reducible rfl
              rotate_left
              · simp only [Act.put, List.setIfInBounds_toArray, List.set_cons_zero, List.set_cons_succ, i64_w, i32_w]
                rfl
              refine pure_ (i := 6) (N := some 24) (v := ?_) (a' := ?_) #[true, true, true, true, true, true, true, true, false, true, false, false, false] rfl rfl (any_of HT_.out (by kernel_rfl)) (fun _ _ _ h => h) (Or.inl ⟨by rfl, ?_⟩) ?_ ?_
              rotate_left
              · intro w'
                go_simp
                with_reducible rfl
              rotate_left
              · simp only [Act.put, List.setIfInBounds_toArray, List.set_cons_zero, List.set_cons_succ, i64_w, i32_w]
                rfl
              refine take_ (i := 8) (N := some 26) (v := ?_) (a' := ?_) #[true, true, true, true, true, true, true, true, true, true, false, false, false] rfl rfl (take_ofW HT_.out HW_.out (by kernel_rfl)) (fun _ _ _ h => h) (Or.inl ⟨by rfl, ?_⟩) hHeld ?_ ?_
              rotate_left
              · rintro w' ⟨s0, s1, s2, s3⟩
                go_simp
                with_reducible rfl
              rotate_left
              · simp only [Act.put, List.setIfInBounds_toArray, List.set_cons_zero, List.set_cons_succ, i64_w, i32_w]
                rfl
              refine pure_ (i := 10) (N := some 28) (v := ?_) (a' := ?_) #[true, true, true, true, true, true, true, true, true, true, true, false, false] rfl rfl (any_of HT_.out (by kernel_rfl)) (fun _ _ _ h => h) (Or.inl ⟨by rfl, ?_⟩) ?_ ?_
              rotate_left
              · intro w'
                go_simp
                with_reducible rfl
              rotate_left
              · simp only [Act.put, List.setIfInBounds_toArray, List.set_cons_zero, List.set_cons_succ, i64_w, i32_w]
                rfl
              refine take_ (i := 11) (N := some 29) (v := ?_) (a' := ?_) #[true, true, true, true, true, true, true, true, true, true, true, true, false] rfl rfl (take_ofW HT_.out HW_.out (by kernel_rfl)) (fun _ _ _ h => h) (Or.inl ⟨by rfl, ?_⟩) hHeld ?_ ?_
              rotate_left
              · rintro w' ⟨s0, s1, s2, s3⟩
                go_simp
                with_reducible rfl
              rotate_left
              · simp only [Act.put, List.setIfInBounds_toArray, List.set_cons_zero, List.set_cons_succ, i64_w, i32_w]
                rfl
              refine pure_ (i := 12) (N := some 30) (v := ?_) (a' := ?_) #[true, true, true, true, true, true, true, true, true, true, true, true, true] rfl rfl (any_of HT_.out (by kernel_rfl)) (fun _ _ _ h => h) (Or.inl ⟨by rfl, ?_⟩) ?_ ?_
              rotate_left
              · intro w'
                go_simp
                with_reducible rfl
              rotate_left
              · simp only [Act.put, List.setIfInBounds_toArray, List.set_cons_zero, List.set_cons_succ, i64_w, i32_w]
                rfl
              refine done_ (done_of HT_.out (by kernel_rfl)) ?_
              try go_wp2
              have n0_ := Aside0.mk (Kd.R_drew HO_189001.out)
              have n1_ := Aside0.mk (blk_drew BK183.out)
              have n2_ := Aside0.mk (blk_drew BK184.out)
              have n3_ := Aside0.mk (blk_drew BK188.out)
              have n4_ := Aside0.mk (below_drew1 HB.out)
              clear HO_189001
              clear BK183
              clear BK184
              clear BK188
              clear HB
              have HO_189001 := n0_
              have BK183 := n1_
              have BK184 := n2_
              have BK188 := n3_
              have HB := n4_
              clear n0_ n1_ n2_ n3_ n4_
              have p191 : 0 ≤ (x6_1 : Int) := of_decide_eq_true (by first | (with_reducible assumption) | assumption)
              have q191 : x6_1 < (l0_1.length : Int) := of_decide_eq_true (by first | (with_reducible assumption) | assumption)
              obtain ⟨ad191, e191, hx191_0⟩ := Kd.at_int HR0_1.out x6_1 p191 q191
              have hw191_0 := hx191_0
              obtain rfl : ad189 = ad191 := (by injection e191)
              replace hx191_0 := (HB.out.cell (World.block_lt_of_cell? w _ hx191_0)).trans hx191_0
              replace p191 := eq_true p191
              replace q191 := eq_true q191
              refine start_ (n := 11) (S := fun w' => w'.cell? ⟨gb188, 0, none⟩ = some (.int .i64 a0_0) ∧ w'.cell? ⟨gb188, 1, none⟩ = some (u189001) ∧ w'.cell? ⟨gb183, 0, none⟩ = some (.int .i64 a0_0) ∧ w'.cell? ⟨gb183, 1, none⟩ = some (.slice (some ad189) l0_1.length c0_1) ∧ w'.cell? (ad189.add (x6_1).toNat) = some (.int .i64 (rd l0_1 x6_1))) (ds := [10]) #[false, false, false, false, false, false, false, false, false, false, false] (by kernel_rfl) rfl rfl ⟨(blk_cell BK188.out 0).trans rfl, (blk_cell BK188.out 1).trans rfl, (blk_cell BK183.out 0).trans rfl, (blk_cell BK183.out 1).trans rfl, ((HB.out.cell (World.block_lt_of_cell? w _ hw191_0)).trans hw191_0)⟩ (fun hHeld => ?_); refine with_tabW spec_l01On.tab6 spec_l01On.bits6 (fun HT_ HW_ => ?_)
              generalize w21.drew = w22 at HO_189001 BK183 BK184 BK188 HB hx191_0 hHeld ⊢
              refine pure_ (i := 0) (N := some 31) (v := ?_) (a' := ?_) #[true, false, false, false, false, false, false, false, false, false, false] rfl rfl (any_of HT_.out (by kernel_rfl)) (fun _ _ _ h => h) (Or.inl ⟨by rfl, ?_⟩) ?_ ?_
              rotate_left
              · intro w'
                go_simp
                with_reducible rfl
              rotate_left
              · simp only [Act.put, List.setIfInBounds_toArray, List.set_cons_zero, List.set_cons_succ, i64_w, i32_w]
                rfl
              refine pure_ (i := 2) (N := some 33) (v := ?_) (a' := ?_) #[true, false, true, false, false, false, false, false, false, false, false] rfl rfl (any_of HT_.out (by kernel_rfl)) (fun _ _ _ h => h) (Or.inl ⟨by rfl, ?_⟩) ?_ ?_
              rotate_left
              · intro w'
                go_simp
                with_reducible rfl
              rotate_left
              · simp only [Act.put, List.setIfInBounds_toArray, List.set_cons_zero, List.set_cons_succ, i64_w, i32_w]
                rfl
              refine pure_ (i := 4) (N := some 35) (v := ?_) (a' := ?_) #[true, false, true, false, true, false, false, false, false, false, false] rfl rfl (any_of HT_.out (by kernel_rfl)) (fun _ _ _ h => h) (Or.inl ⟨by rfl, ?_⟩) ?_ ?_
              rotate_left
              · intro w'
                go_simp
                with_reducible rfl
              rotate_left
              · simp only [Act.put, List.setIfInBounds_toArray, List.set_cons_zero, List.set_cons_succ, i64_w, i32_w]
                rfl
              refine take_ (i := 1) (N := some 32) (v := ?_) (a' := ?_) #[true, true, true, false, true, false, false, false, false, false, false] rfl rfl (take_ofW HT_.out HW_.out (by kernel_rfl)) (fun _ _ _ h => h) (Or.inl ⟨by rfl, ?_⟩) hHeld ?_ ?_
              rotate_left
              · rintro w' ⟨s0, s1, s2, s3, s4⟩
                go_simp
                with_reducible rfl
              rotate_left
              · simp only [Act.put, List.setIfInBounds_toArray, List.set_cons_zero, List.set_cons_succ, i64_w, i32_w]
                rfl
              refine take_ (i := 3) (N := some 34) (v := ?_) (a' := ?_) #[true, true, true, true, true, false, false, false, false, false, false] rfl rfl (take_ofW HT_.out HW_.out (by kernel_rfl)) (fun _ _ _ h => h) (Or.inl ⟨by rfl, ?_⟩) hHeld ?_ ?_
              rotate_left
              · rintro w' ⟨s0, s1, s2, s3, s4⟩
                go_simp
                with_reducible rfl
              rotate_left
              · simp only [Act.put, List.setIfInBounds_toArray, List.set_cons_zero, List.set_cons_succ, i64_w, i32_w]
                rfl
              refine pure_ (i := 5) (N := some 36) (v := ?_) (a' := ?_) #[true, true, true, true, true, true, false, false, false, false, false] rfl rfl (any_of HT_.out (by kernel_rfl)) (fun _ _ _ h => h) (Or.inl ⟨by rfl, ?_⟩) ?_ ?_
              rotate_left
              · intro w'
                go_simp
                with_reducible rfl
              rotate_left
              · simp only [Act.put, List.setIfInBounds_toArray, List.set_cons_zero, List.set_cons_succ, i64_w, i32_w]
                rfl
              refine take_ (i := 6) (N := some 37) (v := ?_) (a' := ?_) #[true, true, true, true, true, true, true, false, false, false, false] rfl rfl (take_ofW HT_.out HW_.out (by kernel_rfl)) (fun _ _ _ h => h) (Or.inl ⟨by rfl, ?_⟩) hHeld ?_ ?_
              rotate_left
              · rintro w' ⟨s0, s1, s2, s3, s4⟩
                go_simp
                with_reducible rfl
              rotate_left
              · simp only [Act.put, List.setIfInBounds_toArray, List.set_cons_zero, List.set_cons_succ, i64_w, i32_w]
                rfl
              refine one_ (i := 7) (N := some 38) #[true, true, true, true, true, true, true, true, false, false, false] rfl rfl (one_of HT_.out (by kernel_rfl)) (by decide) (fun K hK => ?_)
              refine value_ (w1 := ?_) (v := ?_) (by rfl) rfl ?_ ?_
              rotate_left 2
              · go_simp
                constructor
                · rfl
                · rfl
              refine hK.out _ _ ⟨(blk_cell (blk_alloc BK188.out _) 0).trans rfl, (blk_cell (blk_alloc BK188.out _) 1).trans rfl, (blk_cell (blk_alloc BK183.out _) 0).trans rfl, (blk_cell (blk_alloc BK183.out _) 1).trans rfl, (World.cell?_alloc_lt _ _ _ (World.block_lt_of_cell? _ _ (((HB.out.cell (World.block_lt_of_cell? w _ hw191_0)).trans hw191_0)))).trans (((HB.out.cell (World.block_lt_of_cell? w _ hw191_0)).trans hw191_0))⟩ (fun hHeld => ?_)
              clear hK K
              refine norm_ (a' := ?_) ?_ ?_
              rotate_left
              · show Act.put _ (some 38) _ = _
                simp only [Act.put, List.setIfInBounds_toArray, List.set_cons_zero, List.set_cons_succ, i64_w, i32_w]
                rfl
              refine one_ (i := 8) (N := some 39) #[true, true, true, true, true, true, true, true, true, false, false] rfl rfl (one_of HT_.out (by kernel_rfl)) (by decide) (fun K hK => ?_)
              refine Kd.R_append_step (Kd.int .i64) (w0 := w) w.heap.size (by rfl) (.tmp 32) (.tmp 38) 23 2 (.int .i64 0) 8 rfl Try.underlying23 info2 rfl (by decide) (by omega) u189001 x189001_1 (rd l0_1 x6_1) [.int .i64 (rd l0_1 x6_1)] (fun _ => True) (fun _ => False) rfl rfl ?aP (fun _ hk => hk.elim) ?aF ?aO ?aB ?aS ?aL ?_
              (case aP => exact rfl)
              (case aB => exact (by repeat (first | (with_reducible first | exact HB.out | apply below_alloc | apply pw_below_drewN | apply below_drew1 | refine below_set ?_ GE183.out | refine below_set ?_ GE184.out | refine below_set ?_ GE188.out) | exact HB.out)))
              (case aF => exact (fun _ _ => trivial))
              (case aO => exact (by (with_reducible repeat (first | apply Kd.R_alloc | apply Kd.R_drewN | apply Kd.R_drew)); exact HO_189001.out))
              (case aS => exact (below_size (by repeat (first | (with_reducible first | exact HB.out | apply below_alloc | apply pw_below_drewN | apply below_drew1 | refine below_set ?_ GE183.out | refine below_set ?_ GE184.out | refine below_set ?_ GE188.out) | exact HB.out))))
              (case aL => have := LMc17.out; omega)
              intro v193 w23 ho hb hg hat
              rw [← Ny192.out] at ho
              have n0_ := Aside0.mk (blk_grown (g := gb183) (o := .cells #[.int .i64 a0_0, .slice (some ad189) l0_1.length c0_1] 25 (0, 0)) (by (with_reducible repeat (first | refine blk_drewN ?_ _ | refine blk_drew ?_ | refine blk_alloc ?_ _)); exact BK183.out) hg (Kd.R_ne HO_189001.out BK183.out (by decide)))
              have n1_ := Aside0.mk (blk_grown (g := gb184) (o := .cells #[.int .i64 0, .slice none 0 0] 25 (0, 0)) (by (with_reducible repeat (first | refine blk_drewN ?_ _ | refine blk_drew ?_ | refine blk_alloc ?_ _)); exact BK184.out) hg (Kd.R_ne HO_189001.out BK184.out (by decide)))
              have n2_ := Aside0.mk (blk_grown (g := gb188) (o := .cells #[.int .i64 a0_0, u189001] 25 (0, 0)) (by (with_reducible repeat (first | refine blk_drewN ?_ _ | refine blk_drew ?_ | refine blk_alloc ?_ _)); exact BK188.out) hg (Kd.R_ne HO_189001.out BK188.out (by decide)))
              have n3_ := Aside0.mk (hb)
              have n4_ := Aside0.mk (ho)
              clear BK183
              clear BK184
              clear BK188
              clear HB
              clear HO_189001
              have BK183 := n0_
              have BK184 := n1_
              have BK188 := n2_
              have HB := n3_
              have HO194 := n4_
              clear n0_ n1_ n2_ n3_ n4_
              clear ho hb hg hat
              obtain ⟨Ao24, co24, eo24⟩ := Kd.R_slice HO194.out
              (first | subst eo24 | (injection eo24 with f1_ f2_ f3_; have f4_ := f1_.symm; have f5_ := f3_.symm; clear f1_ f2_ f3_; subst f4_; subst f5_))
              refine hK.out _ _ ⟨(blk_cell BK188.out 0).trans rfl, (blk_cell BK188.out 1).trans rfl, (blk_cell BK183.out 0).trans rfl, (blk_cell BK183.out 1).trans rfl, ((HB.out.cell (World.block_lt_of_cell? w _ hw191_0)).trans hw191_0)⟩ (fun hHeld => ?_)
              clear hK K
              refine norm_ (a' := ?_) ?_ ?_
              rotate_left
              · show Act.put _ (some 39) _ = _
                simp only [Act.put, List.setIfInBounds_toArray, List.set_cons_zero, List.set_cons_succ, i64_w, i32_w]
                rfl
              refine pure_ (i := 9) (N := some 40) (v := ?_) (a' := ?_) #[true, true, true, true, true, true, true, true, true, true, false] rfl rfl (any_of HT_.out (by kernel_rfl)) (fun _ _ _ h => h) (Or.inl ⟨by rfl, ?_⟩) ?_ ?_
              rotate_left
              · intro w'
                go_simp
                with_reducible rfl
              rotate_left
              · simp only [Act.put, List.setIfInBounds_toArray, List.set_cons_zero, List.set_cons_succ, i64_w, i32_w]
                rfl
              refine last_ (i := 10) (N := none) #[true, true, true, true, true, true, true, true, true, true, true] rfl rfl (one_of HT_.out (by kernel_rfl)) (by decide) (fun K hK => ?_)
              have hs25 : w23.cell? ⟨gb188, 1, none⟩ = some (u189001) := (blk_cell BK188.out 1).trans rfl
              have hfs25 := blk_frozen BK188.out 1
              have hns25_0 := NB183_188.out
              have hns25_1 := NB184_188.out
              have hms25_0 := NB188_183.out
              have hms25_1 := NB188_184.out
              refine skip_ (w1 := ?_) (by rfl) rfl ?_ ?_
              rotate_left
              · go_simp
                rfl
              refine hK.out _ _ ?_
              clear hK K
              refine done_ (done_of HT_.out (by kernel_rfl)) ?_
              try go_wp2
              go_roundg k1
              case measure => have := HK1.out; omega
              case rel => exact ⟨(wrap64 (x6_1 + 1)), (y192), (.slice Ao24 y192.length co24), (by first | rfl | (simp; done) | (simp [*]; done)), H', ⟨by have := HK1.out; omega⟩, ⟨by (with_reducible repeat (first | apply Kd.R_alloc | apply Kd.R_drewN | apply Kd.R_drew)); exact Kd.R_mono (Kd.R_far (p := ⟨gb188, 1, none⟩) (Kd.R_types HO194.out BK188.out (by decide)) (fun _ hk => hk.2) (.slice Ao24 y192.length co24)) (fun _ hk => trivial)⟩, ⟨by (with_reducible repeat (first | refine blk_drewN ?_ _ | refine blk_drew ?_ | refine blk_alloc ?_ _)); refine blk_far ?_ NB183_188.out _; (with_reducible repeat (first | refine blk_drewN ?_ _ | refine blk_drew ?_ | refine blk_alloc ?_ _)); exact BK183.out⟩, ⟨by (with_reducible repeat (first | refine blk_drewN ?_ _ | refine blk_drew ?_ | refine blk_alloc ?_ _)); refine blk_far ?_ NB184_188.out _; (with_reducible repeat (first | refine blk_drewN ?_ _ | refine blk_drew ?_ | refine blk_alloc ?_ _)); exact BK184.out⟩, ⟨by (with_reducible repeat (first | refine blk_drewN ?_ _ | refine blk_drew ?_ | refine blk_alloc ?_ _)); refine blk_put (cs := #[.int .i64 a0_0, u189001]) ?_ 1 _ rfl; (with_reducible repeat (first | refine blk_drewN ?_ _ | refine blk_drew ?_ | refine blk_alloc ?_ _)); exact BK188.out⟩, ⟨by repeat (first | (with_reducible first | exact HB.out | apply below_alloc | apply pw_below_drewN | apply below_drew1 | refine below_set ?_ GE183.out | refine below_set ?_ GE184.out | refine below_set ?_ GE188.out) | exact HB.out)⟩⟩
            · rw [if_neg c17] at H
              exact absurd H (by simp)
          · rw [if_neg c16] at H
            have c16b0 : ((Go.bits .and .i64 (rd l0_1 x6_1) a1) == (rd l0_1 x6_1)) = false := beq_eq_false_iff_ne.mpr c16
            have c16b1 : ((Go.bits .and .i64 (rd l0_1 x6_1) a1) != (rd l0_1 x6_1)) = true := bne_iff_ne.mpr c16
            have H' := Aside0.mk H
            clear H
            have hnb26 := NB183_184.out
            have hnc26 := NB184_183.out
            have hnb27 := NB183_188.out
            have hnc27 := NB188_183.out
            have hcz28_0 : wr.cell? ⟨gb183, 0, none⟩ = some (.int .i64 a0_0) := (blk_cell BK183.out 0).trans rfl
            have hcz28_1 : wr.cell? ⟨gb183, 1, none⟩ = some (.slice A0_1 l0_1.length c0_1) := (blk_cell BK183.out 1).trans rfl
            have hfz28_0 := blk_frozen BK183.out 0
            have hfz28_1 := blk_frozen BK183.out 1
            try go_wp2
            have n0_ := Aside0.mk (Kd.R_drew HO_189001.out)
            have n1_ := Aside0.mk (blk_drew BK183.out)
            have n2_ := Aside0.mk (blk_drew BK184.out)
            have n3_ := Aside0.mk (blk_drew BK188.out)
            have n4_ := Aside0.mk (below_drew1 HB.out)
            clear HO_189001
            clear BK183
            clear BK184
            clear BK188
            clear HB
            have HO_189001 := n0_
            have BK183 := n1_
            have BK184 := n2_
            have BK188 := n3_
            have HB := n4_
            clear n0_ n1_ n2_ n3_ n4_
            have p189 : 0 ≤ (x6_1 : Int) := of_decide_eq_true (by first | (with_reducible assumption) | assumption)
            have q189 : x6_1 < (l0_1.length : Int) := of_decide_eq_true (by first | (with_reducible assumption) | assumption)
            obtain ⟨ad189, e189, hx189_0⟩ := Kd.at_int HR0_1.out x6_1 p189 q189
            have hw189_0 := hx189_0
            cases e189
            replace hx189_0 := (HB.out.cell (World.block_lt_of_cell? w _ hx189_0)).trans hx189_0
            replace p189 := eq_true p189
            replace q189 := eq_true q189
            have p190 : 0 ≤ (x6_1 : Int) := of_decide_eq_true (by first | (with_reducible assumption) | assumption)
            have q190 : x6_1 < (l0_1.length : Int) := of_decide_eq_true (by first | (with_reducible assumption) | assumption)
            obtain ⟨ad190, e190, hx190_0⟩ := Kd.at_int HR0_1.out x6_1 p190 q190
            have hw190_0 := hx190_0
            obtain rfl : ad189 = ad190 := (by injection e190)
            replace hx190_0 := (HB.out.cell (World.block_lt_of_cell? w _ hx190_0)).trans hx190_0
            replace p190 := eq_true p190
            replace q190 := eq_true q190
            refine start_ (n := 13) (S := fun w' => w'.cell? ⟨gb183, 0, none⟩ = some (.int .i64 a0_0) ∧ w'.cell? ⟨gb183, 1, none⟩ = some (.slice (some ad189) l0_1.length c0_1) ∧ w'.cell? (ad189.add (x6_1).toNat) = some (.int .i64 (rd l0_1 x6_1)) ∧ w'.cell? (ad189.add (x6_1).toNat) = some (.int .i64 (rd l0_1 x6_1))) (ds := []) #[false, false, false, false, false, false, false, false, false, false, false, false, false] (by kernel_rfl) rfl rfl ⟨(blk_cell BK183.out 0).trans rfl, (blk_cell BK183.out 1).trans rfl, ((HB.out.cell (World.block_lt_of_cell? w _ hw189_0)).trans hw189_0), ((HB.out.cell (World.block_lt_of_cell? w _ hw190_0)).trans hw190_0)⟩ (fun hHeld => ?_); refine with_tabW spec_l01On.tab5 spec_l01On.bits5 (fun HT_ HW_ => ?_)
            generalize wr.drew = w29 at HO_189001 BK183 BK184 BK188 HB hx189_0 hx190_0 hHeld ⊢
            refine pure_ (i := 0) (N := some 18) (v := ?_) (a' := ?_) #[true, false, false, false, false, false, false, false, false, false, false, false, false] rfl rfl (any_of HT_.out (by kernel_rfl)) (fun _ _ _ h => h) (Or.inl ⟨by rfl, ?_⟩) ?_ ?_
            rotate_left
            · intro w'
              go_simp
              with_reducible rfl
            rotate_left
            · simp only [Act.put, List.setIfInBounds_toArray, List.set_cons_zero, List.set_cons_succ, i64_w, i32_w]
              rfl
            refine pure_ (i := 2) (N := some 20) (v := ?_) (a' := ?_) #[true, false, true, false, false, false, false, false, false, false, false, false, false] rfl rfl (any_of HT_.out (by kernel_rfl)) (fun _ _ _ h => h) (Or.inl ⟨by rfl, ?_⟩) ?_ ?_
            rotate_left
            · intro w'
              go_simp
              with_reducible rfl
            rotate_left
            · simp only [Act.put, List.setIfInBounds_toArray, List.set_cons_zero, List.set_cons_succ, i64_w, i32_w]
              rfl
            refine pure_ (i := 5) (N := some 23) (v := ?_) (a' := ?_) #[true, false, true, false, false, true, false, false, false, false, false, false, false] rfl rfl (any_of HT_.out (by kernel_rfl)) (fun _ _ _ h => h) (Or.inl ⟨by rfl, ?_⟩) ?_ ?_
            rotate_left
            · intro w'
              go_simp
              with_reducible rfl
            rotate_left
            · simp only [Act.put, List.setIfInBounds_toArray, List.set_cons_zero, List.set_cons_succ, i64_w, i32_w]
              rfl
            refine pure_ (i := 7) (N := some 25) (v := ?_) (a' := ?_) #[true, false, true, false, false, true, false, true, false, false, false, false, false] rfl rfl (any_of HT_.out (by kernel_rfl)) (fun _ _ _ h => h) (Or.inl ⟨by rfl, ?_⟩) ?_ ?_
            rotate_left
            · intro w'
              go_simp
              with_reducible rfl
            rotate_left
            · simp only [Act.put, List.setIfInBounds_toArray, List.set_cons_zero, List.set_cons_succ, i64_w, i32_w]
              rfl
            refine pure_ (i := 9) (N := some 27) (v := ?_) (a' := ?_) #[true, false, true, false, false, true, false, true, false, true, false, false, false] rfl rfl (any_of HT_.out (by kernel_rfl)) (fun _ _ _ h => h) (Or.inl ⟨by rfl, ?_⟩) ?_ ?_
            rotate_left
            · intro w'
              go_simp
              with_reducible rfl
            rotate_left
            · simp only [Act.put, List.setIfInBounds_toArray, List.set_cons_zero, List.set_cons_succ, i64_w, i32_w]
              rfl
            refine take_ (i := 1) (N := some 19) (v := ?_) (a' := ?_) #[true, true, true, false, false, true, false, true, false, true, false, false, false] rfl rfl (take_ofW HT_.out HW_.out (by kernel_rfl)) (fun _ _ _ h => h) (Or.inl ⟨by rfl, ?_⟩) hHeld ?_ ?_
            rotate_left
            · rintro w' ⟨s0, s1, s2, s3⟩
              go_simp
              with_reducible rfl
            rotate_left
            · simp only [Act.put, List.setIfInBounds_toArray, List.set_cons_zero, List.set_cons_succ, i64_w, i32_w]
              rfl
            refine pure_ (i := 3) (N := some 21) (v := ?_) (a' := ?_) #[true, true, true, true, false, true, false, true, false, true, false, false, false] rfl rfl (any_of HT_.out (by kernel_rfl)) (fun _ _ _ h => h) (Or.inl ⟨by rfl, ?_⟩) ?_ ?_
            rotate_left
            · intro w'
              go_simp
              with_reducible rfl
            rotate_left
            · simp only [Act.put, List.setIfInBounds_toArray, List.set_cons_zero, List.set_cons_succ, i64_w, i32_w]
              rfl
            refine take_ (i := 4) (N := some 22) (v := ?_) (a' := ?_) #[true, true, true, true, true, true, false, true, false, true, false, false, false] rfl rfl (take_ofW HT_.out HW_.out (by kernel_rfl)) (fun _ _ _ h => h) (Or.inl ⟨by rfl, ?_⟩) hHeld ?_ ?_
            rotate_left
            · rintro w' ⟨s0, s1, s2, s3⟩
              go_simp
              with_reducible rfl
            rotate_left
            · simp only [Act.put, List.setIfInBounds_toArray, List.set_cons_zero, List.set_cons_succ, i64_w, i32_w]
              rfl
            refine pure_ (i := 6) (N := some 24) (v := ?_) (a' := ?_) #[true, true, true, true, true, true, true, true, false, true, false, false, false] rfl rfl (any_of HT_.out (by kernel_rfl)) (fun _ _ _ h => h) (Or.inl ⟨by rfl, ?_⟩) ?_ ?_
            rotate_left
            · intro w'
              go_simp
              with_reducible rfl
            rotate_left
            · simp only [Act.put, List.setIfInBounds_toArray, List.set_cons_zero, List.set_cons_succ, i64_w, i32_w]
              rfl
            refine take_ (i := 8) (N := some 26) (v := ?_) (a' := ?_) #[true, true, true, true, true, true, true, true, true, true, false, false, false] rfl rfl (take_ofW HT_.out HW_.out (by kernel_rfl)) (fun _ _ _ h => h) (Or.inl ⟨by rfl, ?_⟩) hHeld ?_ ?_
            rotate_left
            · rintro w' ⟨s0, s1, s2, s3⟩
              go_simp
              with_reducible rfl
            rotate_left
            · simp only [Act.put, List.setIfInBounds_toArray, List.set_cons_zero, List.set_cons_succ, i64_w, i32_w]
              rfl
            refine pure_ (i := 10) (N := some 28) (v := ?_) (a' := ?_) #[true, true, true, true, true, true, true, true, true, true, true, false, false] rfl rfl (any_of HT_.out (by kernel_rfl)) (fun _ _ _ h => h) (Or.inl ⟨by rfl, ?_⟩) ?_ ?_
            rotate_left
            · intro w'
              go_simp
              with_reducible rfl
            rotate_left
            · simp only [Act.put, List.setIfInBounds_toArray, List.set_cons_zero, List.set_cons_succ, i64_w, i32_w]
              rfl
            refine take_ (i := 11) (N := some 29) (v := ?_) (a' := ?_) #[true, true, true, true, true, true, true, true, true, true, true, true, false] rfl rfl (take_ofW HT_.out HW_.out (by kernel_rfl)) (fun _ _ _ h => h) (Or.inl ⟨by rfl, ?_⟩) hHeld ?_ ?_
            rotate_left
            · rintro w' ⟨s0, s1, s2, s3⟩
              go_simp
              with_reducible rfl
            rotate_left
            · simp only [Act.put, List.setIfInBounds_toArray, List.set_cons_zero, List.set_cons_succ, i64_w, i32_w]
              rfl
            refine pure_ (i := 12) (N := some 30) (v := ?_) (a' := ?_) #[true, true, true, true, true, true, true, true, true, true, true, true, true] rfl rfl (any_of HT_.out (by kernel_rfl)) (fun _ _ _ h => h) (Or.inl ⟨by rfl, ?_⟩) ?_ ?_
            rotate_left
            · intro w'
              go_simp
              with_reducible rfl
            rotate_left
            · simp only [Act.put, List.setIfInBounds_toArray, List.set_cons_zero, List.set_cons_succ, i64_w, i32_w]
              rfl
            refine done_ (done_of HT_.out (by kernel_rfl)) ?_
            try go_wp2
            go_roundg k1
            case measure => have := HK1.out; omega
            case rel => exact ⟨(wrap64 (x6_1 + 1)), (x189001_1), (u189001), (by first | rfl | (simp; done) | (simp [*]; done)), H', ⟨by have := HK1.out; omega⟩, ⟨by (with_reducible repeat (first | apply Kd.R_alloc | apply Kd.R_drewN | apply Kd.R_drew)); exact HO_189001.out⟩, ⟨by (with_reducible repeat (first | refine blk_drewN ?_ _ | refine blk_drew ?_ | refine blk_alloc ?_ _)); exact BK183.out⟩, ⟨by (with_reducible repeat (first | refine blk_drewN ?_ _ | refine blk_drew ?_ | refine blk_alloc ?_ _)); exact BK184.out⟩, ⟨by (with_reducible repeat (first | refine blk_drewN ?_ _ | refine blk_drew ?_ | refine blk_alloc ?_ _)); exact BK188.out⟩, ⟨by repeat (first | (with_reducible first | exact HB.out | apply below_alloc | apply pw_below_drewN | apply below_drew1 | refine below_set ?_ GE183.out | refine below_set ?_ GE184.out | refine below_set ?_ GE188.out) | exact HB.out)⟩⟩
        · rw [if_neg c15] at H
          exact absurd H (by simp)
      · rw [if_neg c14] at H
        have c14b0 : decide (x6_1 < (l0_1.length : Int)) = false := decide_eq_false c14
        clear c14
        simp only [Option.some.injEq, Prod.mk.injEq] at H
        obtain ⟨rfl, rfl⟩ := H
        have hnb30 := NB183_184.out
        have hnc30 := NB184_183.out
        have hnb31 := NB183_188.out
        have hnc31 := NB188_183.out
        have hcz32_0 : wr.cell? ⟨gb183, 0, none⟩ = some (.int .i64 a0_0) := (blk_cell BK183.out 0).trans rfl
        have hcz32_1 : wr.cell? ⟨gb183, 1, none⟩ = some (.slice A0_1 l0_1.length c0_1) := (blk_cell BK183.out 1).trans rfl
        have hfz32_0 := blk_frozen BK183.out 0
        have hfz32_1 := blk_frozen BK183.out 1
        have hnb33 := NB188_184.out
        have hnc33 := NB184_188.out
        have hcz34_0 : wr.cell? ⟨gb188, 0, none⟩ = some (.int .i64 a0_0) := (blk_cell BK188.out 0).trans rfl
        have hcz34_1 : wr.cell? ⟨gb188, 1, none⟩ = some (u189001) := (blk_cell BK188.out 1).trans rfl
        have hfz34_0 := blk_frozen BK188.out 0
        have hfz34_1 := blk_frozen BK188.out 1
        have hcz35_0 : wr.cell? ⟨gb184, 0, none⟩ = some (.int .i64 0) := (blk_cell BK184.out 0).trans rfl
        have hcz35_1 : wr.cell? ⟨gb184, 1, none⟩ = some (.slice none 0 0) := (blk_cell BK184.out 1).trans rfl
        have hfz35_0 := blk_frozen BK184.out 0
        have hfz35_1 := blk_frozen BK184.out 1
        obtain ⟨Ao36, co36, eo36⟩ := Kd.R_slice HO_189001.out
        subst eo36
        go_wp2
        refine bodyPost_ret (results_cell_row rfl _ _ gb184 25 #[.int .i64 a0_0, .slice Ao36 x189001_1.length co36] (0, 0) _ rfl (by (with_reducible repeat (first | refine blk_drewN ?_ _ | refine blk_drew ?_ | refine blk_alloc ?_ _)); refine blk_put (cs := #[.int .i64 a0_0, .slice none 0 0]) ?_ 1 _ rfl; (with_reducible repeat (first | refine blk_drewN ?_ _ | refine blk_drew ?_ | refine blk_alloc ?_ _)); refine blk_put (cs := #[.int .i64 0, .slice none 0 0]) ?_ 0 _ rfl; (with_reducible repeat (first | refine blk_drewN ?_ _ | refine blk_drew ?_ | refine blk_alloc ?_ _)); exact BK184.out) Try.underlying25 rfl (by kernel_rfl)) rfl ?_
        exact ⟨_, by first | rfl | (simp [errW_none, errW_some] <;> rfl) | (simp [*, errW_none, errW_some] <;> rfl), by (with_reducible repeat (first | apply Kd.R_alloc | apply Kd.R_drewN | apply Kd.R_drew)); exact Kd.R_mono (Kd.R_far (p := ⟨gb184, 1, none⟩) (Kd.R_far (p := ⟨gb184, 0, none⟩) (Kd.R_types HO_189001.out BK184.out (by decide)) (fun _ hk => hk.2) (.int .i64 a0_0)) (fun _ hk => hk.2) (.slice Ao36 x189001_1.length co36)) (fun _ hk => trivial), by repeat (first | (with_reducible first | exact HB.out | apply below_alloc | apply pw_below_drewN | apply below_drew1 | refine below_set ?_ GE183.out | refine below_set ?_ GE184.out | refine below_set ?_ GE188.out) | exact HB.out)⟩

end Go.Proofs.Ytoeapnempdgagaa.Q
end

section
/- The reference's part on a set. -/
namespace Go.Proofs.Ytoeapnempdgagaa.K
open Go.RowKit Go.Shelf Go.Proofs.Ytoeapnempdgagaa.Q Go.Proofs.YtoeapnempdgagaaW.PrintWords Go.Proofs.YtoeapnempdgagaaW.PrintLast Go.Proofs.YtoeapnempdgagaaW.PrintMore
set_option linter.unusedVariables false
set_option linter.unusedSimpArgs false

theorem specOn_loop (n f m : Int) (l : List Int) (hl : l.length ≤ 2097152) : ∀ (d i k : Nat) (acc : List Int), l.length - i = d → i ≤ l.length → d + l.length + 1 < k → acc.length ≤ i →
    spec_l01On.l0 k f (i : Int) n l m acc = some (m, acc ++ (l.drop i).filter (fun x => decide (Go.bits .and .i64 x f = x))) := by
  intro d
  induction d with
  | zero =>
    intro i k acc hd hi hk ha
    obtain ⟨k, rfl⟩ : ∃ m, k = m + 1 := ⟨k - 1, by omega⟩
    obtain rfl : i = l.length := by omega
    simp only [spec_l01On.l0]
    rw [if_neg (by omega)]
    simp
  | succ d ih =>
    intro i k acc hd hi hk ha
    obtain ⟨k, rfl⟩ : ∃ m, k = m + 1 := ⟨k - 1, by omega⟩
    simp only [spec_l01On.l0]
    have hil : i < l.length := by omega
    have hin := fun acc' (h : acc'.length ≤ i + 1) => ih (i + 1) k acc' (by omega) (by omega) (by omega) h
    rw [if_pos (by omega), if_pos (by omega), rd_nat l i hil, w64 _ (by omega) (by omega), nat_succ, List.drop_eq_getElem_cons hil, List.filter_cons]
    by_cases h : Go.bits .and .i64 l[i] f = l[i]
    · rw [if_pos h]
      simp only [h, decide_true, if_true]
      rw [if_pos (show acc.length < 17592186044416 by omega), hin _ (by simp; omega), List.append_assoc]
      rfl
    · rw [if_neg h]
      simp only [h, decide_false, Bool.false_eq_true, if_false]
      exact hin _ (by omega)
theorem specOn_is (n f : Int) (l : List Int) (hl : l.length ≤ 2097152) (k : Nat) (hk : l.length + l.length + 1 < k) : spec_l01On.f k n l f = some (n, l.filter (fun x => decide (Go.bits .and .i64 x f = x))) := by
  have := specOn_loop n f n l hl l.length 0 k [] (by omega) (by omega) (by omega) (by simp)
  rw [show ((0 : Nat) : Int) = 0 from rfl, List.nil_append, List.drop_zero] at this
  exact this

end Go.Proofs.Ytoeapnempdgagaa.K
end

section
/- The reference's PartOn (its contract is typed by hand). -/
namespace Go.Proofs.Ytoeapnempdgagaa.K
open Go.RowKit Go.Shelf Go.Proofs.Ytoeapnempdgagaa.Q Go.Proofs.YtoeapnempdgagaaW.PrintWords Go.Proofs.YtoeapnempdgagaaW.PrintLast Go.Proofs.YtoeapnempdgagaaW.PrintMore
set_option linter.unusedVariables false
set_option linter.unusedSimpArgs false

def specPartOn (n : Int) (l : List Int) (f : Int) : Int × List Int × Int :=
  if isC n l = true then (if 0 ≤ f ∧ f ≤ fullOf n then (n, l.filter (fun x => decide (Go.bits .and .i64 x f = x)), 0) else (0, [], 2)) else (0, [], 1)

set_option maxHeartbeats 4000000 in
theorem specPartOn_calls (n : Int) (A : Option Addr) (c : Nat) (l : List Int) (f : Int) (w : World) (hk : Kx w A c l) (hl : l.length ≤ 2097152) :
    Calls Try.prog 31 #[.agg #[I n, .slice A l.length c], I f] w fun e w' => ∃ v, e = .returned (.tuple #[.agg #[I (specPartOn n l f).1, v], I (specPartOn n l f).2.2]) ∧ Ki.R 2 w' w.heap.size (fun _ => True) v (specPartOn n l f).2.1 ∧ Grew w w' := by
  obtain ⟨W2, hW2⟩ : ∃ W2, W2 = (w.alloc (.cells #[I n, .slice A l.length c] 25)).alloc (.cells #[I 0, .slice none 0 0] 25) := ⟨_, rfl⟩
  have hB : CB W2 w.heap.size n (.slice A l.length c) := by rw [hW2]; exact blk_alloc (blk_new w _) _
  have hO : CB W2 (w.heap.size + 1) 0 (.slice none 0 0) := by
    rw [hW2]
    have := blk_new (w.alloc (.cells #[I n, .slice A l.length c] 25)) (.cells #[I 0, .slice none 0 0] 25)
    rwa [World.size_alloc] at this
  have hg : Grew w W2 := by rw [hW2]; exact below_alloc (below_alloc (Grew.refl w) _) _
  have H := Aside0.mk (spec_l01Is.calls (isK l) n A c l (isC n l) W2 (hk.later hg).r hk.c (specIs_is n l hl _ (Nat.le_refl _)))
  obtain ⟨r, hr⟩ : ∃ r, r = specPartOn n l f := ⟨_, rfl⟩
  rw [← hr]
  have k0 := hB.c0
  have k1 := hB.c1
  have HK := Aside0.mk hk
  have HB := Aside0.mk hB
  have HO := Aside0.mk hO
  have HG := Aside0.mk hg
  clear hk hB hO hg
  obtain ⟨i, hi⟩ : ∃ i, i = isC n l := ⟨_, rfl⟩
  rw [← hi] at H
  cases i with
  | false =>
    have HV : Aside0 (r = (0, [], 1)) := ⟨by rw [hr]; unfold specPartOn; rw [← hi]; rfl⟩
    clear hr hi
    subst hW2
    go_enter Try.func31, Try.ntmps31
    go_wp2_with fail
    refine H.out.mono ?_
    rintro e w1 ⟨rfl, hG1⟩
    clear k0 k1
    have hB1 : CB w1 (w.heap.size + 1) 0 (.slice none 0 0) := blk_below HO.out hG1
    have HB1 := Aside0.mk hB1
    have HG1 := Aside0.mk (Grew.trans HG.out hG1)
    have k0 := hB1.c0
    have k1 := hB1.c1
    have f0 := blk_frozen hB1 0
    have f1 := blk_frozen hB1 1
    clear hB1 hG1
    go_wp2_with fail
    refine bodyPost_ret (results_ct rfl _ _ (w.heap.size + 1) 25 #[I 0, .slice none 0 0] (0, 0) _ rfl HB1.out.set Try.underlying25 rfl (by kernel_rfl)) rfl ?_
    rw [HV.out]
    exact ⟨_, rfl, Kd.R_nil _ _ _ _ _, below_set (below_set HG1.out (by omega)) (by omega)⟩
  | true =>
    have hn := isC_size hi.symm
    have HR : Aside0 (r = if 0 ≤ f ∧ f ≤ fullOf n then (n, l.filter (fun x => decide (Go.bits .and .i64 x f = x)), 0) else (0, [], 2)) := ⟨by rw [hr]; unfold specPartOn; rw [← hi]; rfl⟩
    clear hr hi
    obtain ⟨F, hF⟩ : ∃ F, F = fullOf n := ⟨_, rfl⟩
    have HA := Aside0.mk (fun w => spec_l01All.calls n F w (by rw [hF]; exact specAll_is n (by omega) (by omega)))
    rw [← hF] at HR
    clear hF
    have HIn := Aside0.mk (fun w => spec_l01In.calls f 0 F (decide (0 ≤ f ∧ f ≤ F)) w (specIn_is f 0 F))
    by_cases hf : 0 ≤ f ∧ f ≤ F
    · have HV : Aside0 (r = (n, l.filter (fun x => decide (Go.bits .and .i64 x f = x)), 0)) := ⟨by rw [HR.out, if_pos hf]⟩
      rw [decide_eq_true hf] at HIn
      have HOn := Aside0.mk (fun w' (h : Grew w w') => spec_l01On.calls (l.length + l.length + 2) n A c l f n (l.filter (fun x => decide (Go.bits .and .i64 x f = x))) w' (HK.out.later h).r HK.out.c (specOn_is n f l hl _ (by omega)))
      generalize l.filter (fun x => decide (Go.bits .and .i64 x f = x)) = L at HOn HV
      clear HR
      subst hW2
      go_enter Try.func31, Try.ntmps31
      go_wp2_with fail
      refine H.out.mono ?_
      rintro e w1 ⟨rfl, hG1⟩
      have k0 := (CB.later HB.out hG1).c0
      have k1 := (CB.later HB.out hG1).c1
      go_wp2_with fail
      refine (HA.out w1).mono ?_
      rintro e w2 ⟨rfl, hG2⟩
      go_wp2_with fail
      refine (HIn.out w2).mono ?_
      rintro e w3 ⟨rfl, hG3⟩
      have hG3' := Grew.trans (Grew.trans hG1 hG2.below) hG3.below
      have HB3 := Aside0.mk (CB.later HB.out hG3')
      have HO3 := Aside0.mk (CB.later HO.out hG3')
      have HG3 := Aside0.mk (Grew.trans HG.out hG3')
      have k0 := HB3.out.c0
      have k1 := HB3.out.c1
      clear hG1 hG2 hG3 hG3'
      go_wp2_with fail
      refine (HOn.out w3 HG3.out).mono ?_
      rintro e w4 ⟨v, rfl, hR, hG⟩
      clear k0 k1
      have hB2 : CB w4 (w.heap.size + 1) 0 (.slice none 0 0) := CB.later HO3.out hG
      have HB4 := Aside0.mk hB2
      have HR4 := Aside0.mk hR
      have HG4 := Aside0.mk (Grew.trans HG3.out hG)
      have hsz := HG3.out.size
      have k0 := hB2.c0
      have k1 := hB2.c1
      have f0 := blk_frozen hB2 0
      have f1 := blk_frozen hB2 1
      obtain ⟨A2, c2, e2⟩ := Kd.R_slice hR
      subst e2
      clear hB2 hR hG
      go_wp2_with fail
      refine bodyPost_ret (results_ct rfl _ _ (w.heap.size + 1) 25 #[I n, _] (0, 0) _ rfl HB4.out.set Try.underlying25 rfl (by kernel_rfl)) rfl ?_
      rw [HV.out]
      exact ⟨_, rfl, Kd.R_lower (Ri.setCB2 HR4.out HB4.out) hsz, below_set (below_set HG4.out (by omega)) (by omega)⟩
    · have HV : Aside0 (r = (0, [], 2)) := ⟨by rw [HR.out, if_neg hf]⟩
      rw [decide_eq_false hf] at HIn
      clear HR
      subst hW2
      go_enter Try.func31, Try.ntmps31
      go_wp2_with fail
      refine H.out.mono ?_
      rintro e w1 ⟨rfl, hG1⟩
      have k0 := (CB.later HB.out hG1).c0
      have k1 := (CB.later HB.out hG1).c1
      go_wp2_with fail
      refine (HA.out w1).mono ?_
      rintro e w2 ⟨rfl, hG2⟩
      go_wp2_with fail
      refine (HIn.out w2).mono ?_
      rintro e w3 ⟨rfl, hG3⟩
      have hG3' := Grew.trans (Grew.trans hG1 hG2.below) hG3.below
      have HB1 := Aside0.mk (CB.later HO.out hG3')
      have HG1 := Aside0.mk (Grew.trans HG.out hG3')
      clear hG1 hG2 hG3 hG3' k0 k1
      have k0 := HB1.out.c0
      have k1 := HB1.out.c1
      have f0 := blk_frozen HB1.out 0
      have f1 := blk_frozen HB1.out 1
      go_wp2_with fail
      refine bodyPost_ret (results_ct rfl _ _ (w.heap.size + 1) 25 #[I 0, .slice none 0 0] (0, 0) _ rfl HB1.out.set Try.underlying25 rfl (by kernel_rfl)) rfl ?_
      rw [HV.out]
      exact ⟨_, rfl, Kd.R_nil _ _ _ _ _, below_set (below_set HG1.out (by omega)) (by omega)⟩

end Go.Proofs.Ytoeapnempdgagaa.K
end

section
/- PartOn in the form that the printed law takes. -/
namespace Go.Proofs.Ytoeapnempdgagaa.X
open Go.RowKit Go.Shelf Go.Proofs.Ytoeapnempdgagaa.K Go.Proofs.YtoeapnempdgagaaW.PrintWords Go.Proofs.YtoeapnempdgagaaW.PrintLast Go.Proofs.YtoeapnempdgagaaW.PrintMore
set_option linter.unusedVariables false
set_option linter.unusedSimpArgs false

def spec_PartOn.f (a0_0 : Int) (l0_1 : List Int) (a1 : Int) : Option (Int × List Int × Int) := if l0_1.length ≤ 2097152 then some (specPartOn a0_0 l0_1 a1) else none
theorem spec_PartOn.calls (a0_0 : Int) (A0_1 : Option Addr) (c0_1 : Nat) (l0_1 : List Int) (a1 : Int) (r1 : Int) (r2 : List Int) (r3 : Int) (w : World) (hr0_1 : Kd.C (Kd.int .i64) w A0_1 l0_1.length l0_1) (hc0_1 : l0_1.length ≤ c0_1) (h : spec_PartOn.f a0_0 l0_1 a1 = some (r1, r2, r3)) :
    Calls Try.prog 31 #[.agg #[.int .i64 a0_0, .slice A0_1 l0_1.length c0_1], .int .i64 a1] w fun e w' => ∃ v1_ : Value, e = .returned (.tuple #[.agg #[.int .i64 r1, v1_], .int .i64 r3]) ∧ Kd.R (Kd.int .i64) 2 w' w.heap.size (fun _ => True) v1_ r2 ∧ Below w.heap.size w w' := by
  unfold spec_PartOn.f at h
  by_cases hl : l0_1.length ≤ 2097152
  · rw [if_pos hl] at h
    injection h with h
    have H := specPartOn_calls a0_0 A0_1 c0_1 l0_1 a1 w ⟨hr0_1, hc0_1, by omega⟩ hl
    rw [h] at H
    exact H
  · rw [if_neg hl] at h
    cases h

end Go.Proofs.Ytoeapnempdgagaa.X
end

section
/- JoinOf. -/
namespace Go.Proofs.Ytoeapnempdgagaa.K
open Go.RowKit Go.Shelf Go.Proofs.YtoeapnempdgagaaW.PrintWords Go.Proofs.YtoeapnempdgagaaW.PrintLast Go.Proofs.YtoeapnempdgagaaW.PrintMore
set_option linter.unusedVariables false
set_option linter.unusedSimpArgs false

/-- Whether a set is a face of the join. -/
def joinP (n : Int) (k l : List Int) (x : Int) : Bool := (Go.bits .and .i64 x (fullOf n) == 0 || hasB k (Go.bits .and .i64 x (fullOf n))) && (x / 2 ^ n.toNat == 0 || hasB l (x / 2 ^ n.toNat))

set_option maxHeartbeats 4000000 in
theorem JoinOf1_calls (x n m : Int) (hn : 1 ≤ n ∧ n ≤ 6) (Bk Bl : Nat) (A : Option Addr) (c : Nat) (k : List Int) (A' : Option Addr) (c' : Nat) (l : List Int) (w : World) (hb : CB w Bk n (.slice A k.length c)) (hf : CB w Bl m (.slice A' l.length c')) (hk : Kx w A c k) (hl : Kx w A' c' l) :
    Calls Try.prog 62 #[I x, .pointer (some ⟨Bk, 0, none⟩), .pointer (some ⟨Bl, 0, none⟩)] w fun e w' => e = .returned (.bool (joinP n k l x)) ∧ Grew w w' := by
  have k0 := hb.c0
  have k1 := hb.c1
  have l0 := hf.c0
  have l1 := hf.c1
  have hlk : Bk < w.heap.size := World.block_lt_of_cell? w _ k0
  have hll : Bl < w.heap.size := World.block_lt_of_cell? w _ l0
  obtain ⟨a, ha⟩ : ∃ a, a = Go.bits .and .i64 x (fullOf n) := ⟨_, rfl⟩
  obtain ⟨b, hb2⟩ : ∃ b, b = x / 2 ^ n.toNat := ⟨_, rfl⟩
  have HJ : Aside0 (joinP n k l x = ((a == 0 || hasB k a) && (b == 0 || hasB l b))) := ⟨by rw [ha, hb2]; rfl⟩
  have HK := Aside0.mk hk
  have HL := Aside0.mk hl
  clear hk hl hb hf
  obtain ⟨F, hF⟩ : ∃ F, F = fullOf n := ⟨_, rfl⟩
  rw [← hF] at ha
  have HFull : Aside0 (∀ W, Grew w W → Calls Try.prog 56 #[.agg #[I n, .slice A k.length c]] W fun e w' => e = .returned (I F) ∧ Grew W w') :=
    ⟨fun W hW => by rw [hF]; exact full_calls n A c k W (by omega) (by omega) (Kd.C_below HK.out.r hW) HK.out.c⟩
  clear hF
  obtain ⟨r, hr⟩ : ∃ r, r = joinP n k l x := ⟨_, rfl⟩
  rw [← hr]
  rw [← hr] at HJ
  clear hr
  go_enter Try.func62, Try.ntmps62
  go_wp2_with fail
  go_region_held3 (fun w' => w'.cell? ⟨Bk, 0, none⟩ = some (I n) ∧ w'.cell? ⟨Bk, 1, none⟩ = some (.slice A k.length c))
    (first | exact ⟨(HG.out.cell (p := ⟨Bk, 0, none⟩) hlk).trans k0, (HG.out.cell (p := ⟨Bk, 1, none⟩) hlk).trans k1⟩ | go_keep)
    ((go_at_call 56; refine (HFull.out _ ((Below.refl _ w).drew)).mono ?_; rintro e w1 ⟨rfl, hG⟩; have HG : Aside0 (Grew w w1) := ⟨Below.trans ((Below.refl _ w).drew) hG⟩; clear hG))
  rw [← ha, ← hb2]
  have q0 := (HG.out.cell (p := ⟨Bk, 0, none⟩) hlk).trans k0
  have q1 := (HG.out.cell (p := ⟨Bk, 1, none⟩) hlk).trans k1
  have r0 := (HG.out.cell (p := ⟨Bl, 0, none⟩) hll).trans l0
  have r1 := (HG.out.cell (p := ⟨Bl, 1, none⟩) hll).trans l1
  clear k0 k1 l0 l1 ha hb2
  have H1 := Aside0.mk ((HK.out.later HG.out).has n a)
  by_cases haz : a = 0
  · have ha2 : (a == 0) = true := by simp [haz]
    by_cases hbz : b = 0
    · have HV : Aside0 (r = true) := ⟨by rw [HJ.out, ha2]; simp [hbz]⟩
      clear ha2
      go_wp2_with fail
      go_ret
      exact ⟨by rw [HV.out]; rfl, HG.out⟩
    · have HV : Aside0 (r = (b == 0 || hasB l b)) := ⟨by rw [HJ.out, ha2]; rfl⟩
      have H2 := Aside0.mk ((HL.out.later HG.out).has m b)
      clear ha2
      go_wp2_with fail
      refine H2.out.mono ?_
      rintro e w2 ⟨rfl, hG2⟩
      go_wp2_with fail
      go_ret
      exact ⟨by rw [HV.out]; rfl, Grew.trans HG.out hG2⟩
  · have ha2 : (a == 0) = false := by simp [haz]
    obtain ⟨h1, hh1⟩ : ∃ h1, h1 = hasB k a := ⟨_, rfl⟩
    rw [← hh1] at H1 HJ
    clear hh1
    cases h1 with
    | false =>
      have HV : Aside0 (r = false) := ⟨by rw [HJ.out, ha2]; simp⟩
      clear ha2
      go_wp2_with fail
      refine H1.out.mono ?_
      rintro e w2 ⟨rfl, hG2⟩
      go_wp2_with fail
      go_ret
      exact ⟨by rw [HV.out]; rfl, Grew.trans HG.out hG2⟩
    | true =>
      by_cases hbz : b = 0
      · have HV : Aside0 (r = true) := ⟨by rw [HJ.out, ha2]; simp [hbz]⟩
        clear ha2
        go_wp2_with fail
        refine H1.out.mono ?_
        rintro e w2 ⟨rfl, hG2⟩
        go_wp2_with fail
        go_ret
        exact ⟨by rw [HV.out]; rfl, Grew.trans HG.out hG2⟩
      · have HV : Aside0 (r = (b == 0 || hasB l b)) := ⟨by rw [HJ.out, ha2]; simp⟩
        clear ha2
        go_wp2_with fail
        refine H1.out.mono ?_
        rintro e w2 ⟨rfl, hG2⟩
        have HG2 := Aside0.mk (Grew.trans HG.out hG2)
        have H2 := Aside0.mk ((HL.out.later HG2.out).has m b)
        have r0 := (hG2.cell (p := ⟨Bl, 0, none⟩) (Nat.lt_of_lt_of_le hll HG.out.size)).trans r0
        have r1 := (hG2.cell (p := ⟨Bl, 1, none⟩) (Nat.lt_of_lt_of_le hll HG.out.size)).trans r1
        clear hG2
        go_wp2_with fail
        refine H2.out.mono ?_
        rintro e w3 ⟨rfl, hG3⟩
        go_wp2_with fail
        go_ret
        exact ⟨by rw [HV.out]; rfl, Grew.trans HG2.out hG3⟩

/-- What JoinOf answers. -/
def joinOf (n : Int) (k : List Int) (m : Int) (l : List Int) : Int × List Int × Int :=
  if isC n k = true ∧ isC m l = true then (if 6 < n + m then (0, [], 3) else (n + m, thoseL (n + m) (joinP n k l), 0)) else (0, [], 1)

set_option maxHeartbeats 4000000 in
theorem JoinOf_calls (n : Int) (A : Option Addr) (c : Nat) (k : List Int) (m : Int) (A' : Option Addr) (c' : Nat) (l : List Int) (w : World) (hk : Kx w A c k) (hl : Kx w A' c' l) :
    Calls Try.prog 28 #[.agg #[I n, .slice A k.length c], .agg #[I m, .slice A' l.length c']] w fun e w' => ∃ v, e = .returned (.tuple #[.agg #[I (joinOf n k m l).1, v], I (joinOf n k m l).2.2]) ∧ Ki.R 2 w' w.heap.size (fun _ => True) v (joinOf n k m l).2.1 ∧ Grew w w' := by
  obtain ⟨W3, hW3⟩ : ∃ W3, W3 = ((w.alloc (.cells #[I n, .slice A k.length c] 25)).alloc (.cells #[I m, .slice A' l.length c'] 25)).alloc (.cells #[I 0, .slice none 0 0] 25) := ⟨_, rfl⟩
  have hB : CB W3 w.heap.size n (.slice A k.length c) := by rw [hW3]; exact blk_alloc (blk_alloc (blk_new w _) _) _
  have hF : CB W3 (w.heap.size + 1) m (.slice A' l.length c') := by
    rw [hW3]
    refine blk_alloc ?_ _
    have := blk_new (w.alloc (.cells #[I n, .slice A k.length c] 25)) (.cells #[I m, .slice A' l.length c'] 25)
    rwa [World.size_alloc] at this
  have hO : CB W3 (w.heap.size + 2) 0 (.slice none 0 0) := by
    rw [hW3]
    have := blk_new ((w.alloc (.cells #[I n, .slice A k.length c] 25)).alloc (.cells #[I m, .slice A' l.length c'] 25)) (.cells #[I 0, .slice none 0 0] 25)
    rwa [World.size_alloc, World.size_alloc] at this
  have hg : Grew w W3 := by rw [hW3]; exact below_alloc (below_alloc (below_alloc (Grew.refl w) _) _) _
  have H := Aside0.mk (fun W (hW : Grew W3 W) => IsComplex_calls n A c k W (hk.later (Grew.trans hg hW)).r hk.c hk.b)
  have HH := Aside0.mk (fun W (hW : Grew W3 W) => IsComplex_calls m A' c' l W (hl.later (Grew.trans hg hW)).r hl.c hl.b)
  obtain ⟨r, hr⟩ : ∃ r, r = joinOf n k m l := ⟨_, rfl⟩
  rw [← hr]
  have k0 := hB.c0
  have k1 := hB.c1
  have HK := Aside0.mk hk
  have HL := Aside0.mk hl
  have HB := Aside0.mk hB
  have HF := Aside0.mk hF
  have HO := Aside0.mk hO
  have HG := Aside0.mk hg
  clear hk hl hB hF hO hg
  obtain ⟨i, hi⟩ : ∃ i, i = isC n k := ⟨_, rfl⟩
  obtain ⟨j, hj⟩ : ∃ j, j = isC m l := ⟨_, rfl⟩
  rw [← hi] at H
  rw [← hj] at HH
  cases i with
  | false =>
    have HV : Aside0 (r = (0, [], 1)) := ⟨by rw [hr]; unfold joinOf; rw [← hi]; rfl⟩
    clear hr hi hj
    subst hW3
    go_enter Try.func28, Try.ntmps28
    go_wp2_with fail
    refine (H.out _ (Grew.refl _)).mono ?_
    rintro e w1 ⟨rfl, hG1⟩
    clear k0 k1
    have hB1 : CB w1 (w.heap.size + 2) 0 (.slice none 0 0) := blk_below HO.out hG1
    have HB1 := Aside0.mk hB1
    have HG1 := Aside0.mk (Grew.trans HG.out hG1)
    have k0 := hB1.c0
    have k1 := hB1.c1
    have f0 := blk_frozen hB1 0
    have f1 := blk_frozen hB1 1
    clear hB1 hG1
    go_wp2_with fail
    refine bodyPost_ret (results_ct rfl _ _ (w.heap.size + 2) 25 #[I 0, .slice none 0 0] (0, 0) _ rfl HB1.out.set Try.underlying25 rfl (by kernel_rfl)) rfl ?_
    rw [HV.out]
    exact ⟨_, rfl, Kd.R_nil _ _ _ _ _, below_set (below_set HG1.out (by omega)) (by omega)⟩
  | true =>
    cases j with
    | false =>
      have HV : Aside0 (r = (0, [], 1)) := ⟨by rw [hr]; unfold joinOf; rw [← hj]; simp⟩
      clear hr hi hj
      subst hW3
      go_enter Try.func28, Try.ntmps28
      go_wp2_with fail
      refine (H.out _ (Grew.refl _)).mono ?_
      rintro e w1 ⟨rfl, hG1⟩
      have l0 := (CB.later HF.out hG1).c0
      have l1 := (CB.later HF.out hG1).c1
      clear k0 k1
      go_wp2_with fail
      refine (HH.out w1 hG1).mono ?_
      rintro e w2 ⟨rfl, hG2⟩
      clear l0 l1
      have hB1 : CB w2 (w.heap.size + 2) 0 (.slice none 0 0) := blk_below HO.out (Grew.trans hG1 hG2)
      have HB1 := Aside0.mk hB1
      have HG1 := Aside0.mk (Grew.trans HG.out (Grew.trans hG1 hG2))
      have k0 := hB1.c0
      have k1 := hB1.c1
      have f0 := blk_frozen hB1 0
      have f1 := blk_frozen hB1 1
      clear hB1 hG1 hG2
      go_wp2_with fail
      refine bodyPost_ret (results_ct rfl _ _ (w.heap.size + 2) 25 #[I 0, .slice none 0 0] (0, 0) _ rfl HB1.out.set Try.underlying25 rfl (by kernel_rfl)) rfl ?_
      rw [HV.out]
      exact ⟨_, rfl, Kd.R_nil _ _ _ _ _, below_set (below_set HG1.out (by omega)) (by omega)⟩
    | true =>
      have hn := isC_size hi.symm
      have hm := isC_size hj.symm
      have hw : wrap64 (n + m) = n + m := by unfold wrap64; omega
      by_cases h6 : 6 < n + m
      · have HV : Aside0 (r = (0, [], 3)) := ⟨by rw [hr]; unfold joinOf; rw [← hi, ← hj]; simp [h6]⟩
        clear hr hi hj
        subst hW3
        go_enter Try.func28, Try.ntmps28
        go_wp2_with fail
        refine (H.out _ (Grew.refl _)).mono ?_
        rintro e w1 ⟨rfl, hG1⟩
        have l0 := (CB.later HF.out hG1).c0
        have l1 := (CB.later HF.out hG1).c1
        clear k0 k1
        go_wp2_with fail
        refine (HH.out w1 hG1).mono ?_
        rintro e w2 ⟨rfl, hG2⟩
        clear l0 l1
        have hB1 : CB w2 (w.heap.size + 2) 0 (.slice none 0 0) := blk_below HO.out (Grew.trans hG1 hG2)
        have HB1 := Aside0.mk hB1
        have HG1 := Aside0.mk (Grew.trans HG.out (Grew.trans hG1 hG2))
        have a0 := (CB.later HB.out (Grew.trans hG1 hG2)).c0
        have b0 := (CB.later HF.out (Grew.trans hG1 hG2)).c0
        have k0 := hB1.c0
        have k1 := hB1.c1
        have f0 := blk_frozen hB1 0
        have f1 := blk_frozen hB1 1
        clear hB1 hG1 hG2
        go_wp2_with fail
        refine bodyPost_ret (results_ct rfl _ _ (w.heap.size + 2) 25 #[I 0, .slice none 0 0] (0, 0) _ rfl HB1.out.set Try.underlying25 rfl (by kernel_rfl)) rfl ?_
        rw [HV.out]
        exact ⟨_, rfl, Kd.R_nil _ _ _ _ _, below_set (below_set HG1.out (by omega)) (by omega)⟩
      · have HV : Aside0 (r = (n + m, thoseL (n + m) (joinP n k l), 0)) := ⟨by rw [hr]; unfold joinOf; rw [← hi, ← hj]; simp [h6]⟩
        clear hr hi hj
        subst hW3
        go_enter Try.func28, Try.ntmps28
        go_wp2_with fail
        refine (H.out _ (Grew.refl _)).mono ?_
        rintro e w1 ⟨rfl, hG1⟩
        have l0 := (CB.later HF.out hG1).c0
        have l1 := (CB.later HF.out hG1).c1
        clear k0 k1
        go_wp2_with fail
        refine (HH.out w1 hG1).mono ?_
        rintro e w2 ⟨rfl, hG2⟩
        clear l0 l1
        have hB2 : CB w2 w.heap.size n (.slice A k.length c) := blk_below HB.out (Grew.trans hG1 hG2)
        have hF2 : CB w2 (w.heap.size + 1) m (.slice A' l.length c') := blk_below HF.out (Grew.trans hG1 hG2)
        have HB2 := Aside0.mk hB2
        have HF2 := Aside0.mk hF2
        have HO2 : Aside0 (CB w2 (w.heap.size + 2) 0 (.slice none 0 0)) := ⟨blk_below HO.out (Grew.trans hG1 hG2)⟩
        have HG2 := Aside0.mk (Grew.trans HG.out (Grew.trans hG1 hG2))
        have a0 := hB2.c0
        have b0 := hF2.c0
        clear hB2 hF2 hG1 hG2
        go_wp2_with fail
        refine (those_calls (joinP n k l) (n + m) (by omega) 62 #[] #[.pointer (some ⟨w.heap.size, 0, none⟩), .pointer (some ⟨w.heap.size + 1, 0, none⟩)] w2 (enters_of Try.func62 (by kernel_rfl) rfl)
          (fun x _ _ W hW => JoinOf1_calls x n m hn w.heap.size (w.heap.size + 1) A c k A' c' l W (blk_below HB2.out hW) (blk_below HF2.out hW) (HK.out.later (Grew.trans HG2.out hW)) (HL.out.later (Grew.trans HG2.out hW)))).mono ?_
        rintro e w3 ⟨v, rfl, hR, hG⟩
        clear a0 b0
        have hB2 : CB w3 (w.heap.size + 2) 0 (.slice none 0 0) := blk_below HO2.out hG
        have HB3 := Aside0.mk hB2
        have HR3 := Aside0.mk hR
        have HG3 := Aside0.mk (Grew.trans HG2.out hG)
        have hsz := HG2.out.size
        have k0 := hB2.c0
        have k1 := hB2.c1
        have f0 := blk_frozen hB2 0
        have f1 := blk_frozen hB2 1
        obtain ⟨A2, c2, e2⟩ := Kd.R_slice hR
        subst e2
        clear hB2 hR hG
        go_wp2_with fail
        refine bodyPost_ret (results_ct rfl _ _ (w.heap.size + 2) 25 #[I (n + m), _] (0, 0) _ rfl HB3.out.set Try.underlying25 rfl (by kernel_rfl)) rfl ?_
        rw [HV.out]
        exact ⟨_, rfl, Kd.R_lower (Ri.setCB2 HR3.out HB3.out) hsz, below_set (below_set HG3.out (by omega)) (by omega)⟩

end Go.Proofs.Ytoeapnempdgagaa.K
end

section
/- ConeOf. -/
namespace Go.Proofs.Ytoeapnempdgagaa.K
open Go.RowKit Go.Shelf Go.Proofs.YtoeapnempdgagaaW.PrintWords Go.Proofs.YtoeapnempdgagaaW.PrintLast Go.Proofs.YtoeapnempdgagaaW.PrintMore
set_option linter.unusedVariables false
set_option linter.unusedSimpArgs false

theorem Kx.one (w : World) (x : Int) : Kx (w.alloc (.cells #[I x] 2)) (some ⟨w.heap.size, 0, none⟩) 1 [x] := by
  have := own_lit w 0 2 .i64 [x] (Nat.zero_le _) (by simp)
  have hR : Ki.R 2 (w.alloc (.cells #[I x] 2)) 0 (fun _ => True) (.slice (some ⟨w.heap.size, 0, none⟩) 1 1) [x] := Kd.R_of_own (h1 := fun _ => rfl) this (fun _ _ => trivial)
  obtain ⟨A, c, e, hc, hC⟩ := Kd.R_reads hR
  injection e with e1 e2 e3
  subst e1 e3
  exact ⟨hC, Nat.le_refl _, by simp⟩

set_option maxHeartbeats 2000000 in
theorem ConeOf_calls (n : Int) (A : Option Addr) (c : Nat) (l : List Int) (w : World) (hk : Kx w A c l) :
    Calls Try.prog 30 #[.agg #[I n, .slice A l.length c]] w fun e w' => ∃ v, e = .returned (.tuple #[.agg #[I (joinOf n l 1 [1]).1, v], I (joinOf n l 1 [1]).2.2]) ∧ Ki.R 2 w' w.heap.size (fun _ => True) v (joinOf n l 1 [1]).2.1 ∧ Grew w w' := by
  obtain ⟨W2, hW2⟩ : ∃ W2, W2 = (w.alloc (.cells #[I n, .slice A l.length c] 25)).alloc (.cells #[I 0, .slice none 0 0] 25) := ⟨_, rfl⟩
  have hB : CB W2 w.heap.size n (.slice A l.length c) := by rw [hW2]; exact blk_alloc (blk_new w _) _
  have hO : CB W2 (w.heap.size + 1) 0 (.slice none 0 0) := by
    rw [hW2]
    have := blk_new (w.alloc (.cells #[I n, .slice A l.length c] 25)) (.cells #[I 0, .slice none 0 0] 25)
    rwa [World.size_alloc] at this
  have hg : Grew w W2 := by rw [hW2]; exact below_alloc (below_alloc (Grew.refl w) _) _
  have hs : W2.heap.size = w.heap.size + 2 := by rw [hW2]; simp
  have hg2 : Grew W2 (W2.alloc (.cells #[I 1] 2)) := below_alloc (Grew.refl _) _
  have H := Aside0.mk (JoinOf_calls n A c l 1 _ _ [1] _ (hk.later (Grew.trans hg hg2)) (Kx.one W2 1))
  obtain ⟨r, hr⟩ : ∃ r, r = joinOf n l 1 [1] := ⟨_, rfl⟩
  rw [← hr] at H ⊢
  obtain ⟨r1, r2, r3⟩ := r
  have k0 := hB.c0
  have k1 := hB.c1
  have HO := Aside0.mk (CB.later hO hg2)
  have HG := Aside0.mk (Grew.trans hg hg2)
  rw [hs] at H
  clear hk hB hO hg hg2 hr hs
  subst hW2
  go_enter Try.func30, Try.ntmps30
  go_wp2_with fail
  refine H.out.mono ?_
  rintro e w2 ⟨v, rfl, hR, hG⟩
  clear k0 k1
  have hB2 : CB w2 (w.heap.size + 1) 0 (.slice none 0 0) := CB.later HO.out hG
  have HB2 := Aside0.mk hB2
  have HR2 := Aside0.mk hR
  have HG2 := Aside0.mk (Grew.trans HG.out hG)
  have hsz := HG.out.size
  have k0 := hB2.c0
  have k1 := hB2.c1
  have f0 := blk_frozen hB2 0
  have f1 := blk_frozen hB2 1
  obtain ⟨A2, c2, e2⟩ := Kd.R_slice hR
  subst e2
  clear hB2 hR hG
  go_wp2_with fail
  refine bodyPost_ret (results_ct rfl _ _ (w.heap.size + 1) 25 #[I r1, _] (0, 0) _ rfl HB2.out.set Try.underlying25 rfl (by kernel_rfl)) rfl ?_
  exact ⟨_, rfl, Kd.R_lower (Ri.setCB2 HR2.out HB2.out) hsz, below_set (below_set HG2.out (by omega)) (by omega)⟩

end Go.Proofs.Ytoeapnempdgagaa.K
end

section
/- ConeOf in the form that the printed law takes. -/
namespace Go.Proofs.Ytoeapnempdgagaa.X
open Go.RowKit Go.Shelf Go.Proofs.Ytoeapnempdgagaa.K Go.Proofs.YtoeapnempdgagaaW.PrintWords Go.Proofs.YtoeapnempdgagaaW.PrintLast Go.Proofs.YtoeapnempdgagaaW.PrintMore
set_option linter.unusedVariables false
set_option linter.unusedSimpArgs false

def impl_ConeOf.f (a0_0 : Int) (l0_1 : List Int) : Option (Int × List Int × Int) := if l0_1.length ≤ 2097152 then some (joinOf a0_0 l0_1 1 [1]) else none
theorem impl_ConeOf.calls (a0_0 : Int) (A0_1 : Option Addr) (c0_1 : Nat) (l0_1 : List Int) (r1 : Int) (r2 : List Int) (r3 : Int) (w : World) (hr0_1 : Kd.C (Kd.int .i64) w A0_1 l0_1.length l0_1) (hc0_1 : l0_1.length ≤ c0_1) (h : impl_ConeOf.f a0_0 l0_1 = some (r1, r2, r3)) :
    Calls Try.prog 30 #[.agg #[.int .i64 a0_0, .slice A0_1 l0_1.length c0_1]] w fun e w' => ∃ v1_ : Value, e = .returned (.tuple #[.agg #[.int .i64 r1, v1_], .int .i64 r3]) ∧ Kd.R (Kd.int .i64) 2 w' w.heap.size (fun _ => True) v1_ r2 ∧ Below w.heap.size w w' := by
  unfold impl_ConeOf.f at h
  by_cases hl : l0_1.length ≤ 2097152
  · rw [if_pos hl] at h
    injection h with h
    have H := ConeOf_calls a0_0 A0_1 c0_1 l0_1 w ⟨hr0_1, hc0_1, by omega⟩
    rw [h] at H
    exact H
  · rw [if_neg hl] at h
    cases h

end Go.Proofs.Ytoeapnempdgagaa.X
end

section
/- PartOn. -/
namespace Go.Proofs.Ytoeapnempdgagaa.K
open Go.RowKit Go.Shelf Go.Proofs.YtoeapnempdgagaaW.PrintWords Go.Proofs.YtoeapnempdgagaaW.PrintLast Go.Proofs.YtoeapnempdgagaaW.PrintMore
set_option linter.unusedVariables false
set_option linter.unusedSimpArgs false

set_option maxHeartbeats 1000000 in
theorem PartOn1_calls (n f : Int) (hn : 1 ≤ n ∧ n ≤ 6) (Bk Bf : Nat) (A : Option Addr) (c : Nat) (l : List Int) (w : World) (hb : CB w Bk n (.slice A l.length c)) (hf : w.cell? ⟨Bf, 0, none⟩ = some (I f)) (hk : Kx w A c l) :
    Calls Try.prog 65 #[.pointer (some ⟨Bf, 0, none⟩), .pointer (some ⟨Bk, 0, none⟩)] w fun e w' => e = .returned (.bool (decide (0 ≤ f ∧ f ≤ fullOf n))) ∧ Grew w w' := by
  have k0 := hb.c0
  have k1 := hb.c1
  have hlk : Bk < w.heap.size := World.block_lt_of_cell? w _ k0
  have hlf : Bf < w.heap.size := World.block_lt_of_cell? w _ hf
  have HK := Aside0.mk hk
  have H2 := Aside0.mk (within_calls f 0 (fullOf n) _ rfl)
  generalize decide (0 ≤ f ∧ f ≤ fullOf n) = r at H2 ⊢
  clear hk hb
  go_enter Try.func65, Try.ntmps65
  go_wp2_with fail
  go_region_held3 (fun w' => w'.cell? ⟨Bk, 0, none⟩ = some (I n) ∧ w'.cell? ⟨Bk, 1, none⟩ = some (.slice A l.length c) ∧ w'.cell? ⟨Bf, 0, none⟩ = some (I f))
    (first | exact ⟨(HG2.out.cell (p := ⟨Bk, 0, none⟩) hlk).trans k0, (HG2.out.cell (p := ⟨Bk, 1, none⟩) hlk).trans k1, (HG2.out.cell (p := ⟨Bf, 0, none⟩) hlf).trans hf⟩ | exact ⟨(HG.out.cell (p := ⟨Bk, 0, none⟩) hlk).trans k0, (HG.out.cell (p := ⟨Bk, 1, none⟩) hlk).trans k1, (HG.out.cell (p := ⟨Bf, 0, none⟩) hlf).trans hf⟩ | go_keep)
    (first
      | (go_at_call 56; refine (full_calls n A c l _ (by omega) (by omega) (Kd.C_below HK.out.r ((Below.refl _ w).drew)) HK.out.c).mono ?_; rintro e w1 ⟨rfl, hG⟩; have HG : Aside0 (Grew w w1) := ⟨Below.trans ((Below.refl _ w).drew) hG⟩; clear hG)
      | (go_at_call 52; refine (H2.out _).mono ?_; rintro e w2 ⟨rfl, hG2⟩; have HG2 : Aside0 (Grew w w2) := ⟨Grew.trans HG.out hG2⟩; clear hG2))
  all_goals (go_wp2_with fail; go_ret; exact ⟨rfl, HG2.out⟩)

set_option maxHeartbeats 1000000 in
theorem PartOn2_calls (x n f : Int) (Bk Bf : Nat) (A : Option Addr) (c : Nat) (l : List Int) (w : World) (hb : CB w Bk n (.slice A l.length c)) (hf : w.cell? ⟨Bf, 0, none⟩ = some (I f)) (hk : Kx w A c l) :
    Calls Try.prog 67 (#[I x] ++ #[.pointer (some ⟨Bf, 0, none⟩)]) w fun e w' => e = .returned (.bool (inB x f)) ∧ Grew w w' := by
  have H := Aside0.mk (isIn_calls x f w)
  clear hk hb
  go_enter Try.func67, Try.ntmps67
  go_wp2_with fail
  refine H.out.mono ?_
  rintro e w1 ⟨rfl, hG1⟩
  go_wp2_with fail
  go_ret
  exact ⟨rfl, hG1⟩

/-- What PartOn answers. -/
def PartOn_b (n : Int) (l : List Int) (f : Int) : Bool := decide (0 ≤ f ∧ f ≤ fullOf n)
def PartOn_p (l : List Int) (f x : Int) : Bool := inB x f

set_option maxHeartbeats 2000000 in
theorem PartOn_calls (n : Int) (A : Option Addr) (c : Nat) (l : List Int) (f : Int) (w : World) (hk : Kx w A c l) :
    Calls Try.prog 32 #[.agg #[I n, .slice A l.length c], I f] w fun e w' => ∃ v, e = .returned (.tuple #[.agg #[I (partOf n l (PartOn_b n l f) (PartOn_p l f)).1, v], I (partOf n l (PartOn_b n l f) (PartOn_p l f)).2.2]) ∧ Ki.R 2 w' w.heap.size (fun _ => True) v (partOf n l (PartOn_b n l f) (PartOn_p l f)).2.1 ∧ Grew w w' := by
  obtain ⟨W3, hW3⟩ : ∃ W3, W3 = ((w.alloc (.cells #[I n, .slice A l.length c] 25)).alloc (.cells #[I f] 2)).alloc (.cells #[I 0, .slice none 0 0] 25) := ⟨_, rfl⟩
  have hB : CB W3 w.heap.size n (.slice A l.length c) := by rw [hW3]; exact blk_alloc (blk_alloc (blk_new w _) _) _
  have hF : W3.heap[w.heap.size + 1]? = some (.cells #[I f] 2 (0, 0)) := by
    rw [hW3]
    refine blk_alloc ?_ _
    have := blk_new (w.alloc (.cells #[I n, .slice A l.length c] 25)) (.cells #[I f] 2)
    rwa [World.size_alloc] at this
  have hO : CB W3 (w.heap.size + 2) 0 (.slice none 0 0) := by
    rw [hW3]
    have := blk_new ((w.alloc (.cells #[I n, .slice A l.length c] 25)).alloc (.cells #[I f] 2)) (.cells #[I 0, .slice none 0 0] 25)
    rwa [World.size_alloc, World.size_alloc] at this
  have hg : Grew w W3 := by rw [hW3]; exact below_alloc (below_alloc (below_alloc (Grew.refl w) _) _) _
  have H := Aside0.mk (complexCode_calls (PartOn_b n l f) n A c l 65 #[] #[.pointer (some ⟨w.heap.size + 1, 0, none⟩), .pointer (some ⟨w.heap.size, 0, none⟩)] W3 (hk.later hg) (enters_of Try.func65 (by kernel_rfl) rfl)
    (fun hi W hW => by
      have := PartOn1_calls n f (isC_size hi) w.heap.size (w.heap.size + 1) A c l W (blk_below hB hW) (blk_cell (blk_below hF hW) 0) (hk.later (Grew.trans hg hW))
      rw [Array.empty_append]
      exact this))
  obtain ⟨r, hr⟩ : ∃ r, r = partOf n l (PartOn_b n l f) (PartOn_p l f) := ⟨_, rfl⟩
  rw [← hr]
  have k0 := hB.c0
  have k1 := hB.c1
  have HK := Aside0.mk hk
  have HB := Aside0.mk hB
  have HF := Aside0.mk hF
  have HO := Aside0.mk hO
  have HG := Aside0.mk hg
  clear hk hB hF hO hg
  obtain ⟨cc, hcc⟩ : ∃ cc, cc = codeOf n l (PartOn_b n l f) := ⟨_, rfl⟩
  rw [← hcc] at H
  by_cases hz : cc = 0
  · subst hz
    obtain ⟨hi, hb⟩ := codeOf_zero hcc.symm
    have HN := Aside0.mk (isC_size hi)
    have HV : Aside0 (r = (n, thoseL n (fun x => hasB l x && PartOn_p l f x), 0)) := ⟨by rw [hr]; unfold partOf; rw [if_pos hcc.symm]⟩
    clear hr hcc hi hb
    subst hW3
    go_enter Try.func32, Try.ntmps32
    go_wp2_with fail
    refine H.out.mono ?_
    rintro e w1 ⟨rfl, hG1⟩
    have HB1 := Aside0.mk (blk_below HB.out hG1)
    have HF1 := Aside0.mk (blk_below HF.out hG1)
    have HO1 := Aside0.mk (blk_below HO.out hG1)
    have HG1 := Aside0.mk (Grew.trans HG.out hG1)
    have H2 := Aside0.mk (part_calls (PartOn_p l f) n (by have := HN.out; omega) A c l 67 #[] #[.pointer (some ⟨w.heap.size + 1, 0, none⟩)] w1 (HK.out.later HG1.out) (enters_of Try.func67 (by kernel_rfl) rfl)
      (fun x _ _ _ W hW => PartOn2_calls x n f w.heap.size (w.heap.size + 1) A c l W (blk_below HB1.out hW) (blk_cell (blk_below HF1.out hW) 0) (HK.out.later (Grew.trans HG1.out hW))))
    have k0 : w1.cell? ⟨w.heap.size, 0, none⟩ = some (I n) := blk_cell HB1.out 0
    have k1 : w1.cell? ⟨w.heap.size, 1, none⟩ = some (.slice A l.length c) := blk_cell HB1.out 1
    clear hG1
    go_wp2_with fail
    refine H2.out.mono ?_
    rintro e w2 ⟨v, rfl, hR, hG⟩
    clear k0 k1
    have hB2 : CB w2 (w.heap.size + 2) 0 (.slice none 0 0) := blk_below HO1.out hG
    have HB2 := Aside0.mk hB2
    have HR2 := Aside0.mk hR
    have HG2 := Aside0.mk (Grew.trans HG1.out hG)
    have hsz := HG1.out.size
    have k0 := hB2.c0
    have k1 := hB2.c1
    have f0 := blk_frozen hB2 0
    have f1 := blk_frozen hB2 1
    obtain ⟨A2, c2, e2⟩ := Kd.R_slice hR
    subst e2
    clear hB2 hR hG
    go_wp2_with fail
    refine bodyPost_ret (results_ct rfl _ _ (w.heap.size + 2) 25 #[I n, _] (0, 0) _ rfl HB2.out.set Try.underlying25 rfl (by kernel_rfl)) rfl ?_
    rw [HV.out]
    exact ⟨_, rfl, Kd.R_lower (Ri.setCB2 HR2.out HB2.out) hsz, below_set (below_set HG2.out (by omega)) (by omega)⟩
  · have HV : Aside0 (r = (0, [], cc)) := ⟨by rw [hr, hcc]; unfold partOf; rw [if_neg (by rw [← hcc]; exact hz)]⟩
    clear hr hcc
    subst hW3
    go_enter Try.func32, Try.ntmps32
    go_wp2_with fail
    refine H.out.mono ?_
    rintro e w1 ⟨rfl, hG1⟩
    clear k0 k1
    have hB1 : CB w1 (w.heap.size + 2) 0 (.slice none 0 0) := blk_below HO.out hG1
    have HB1 := Aside0.mk hB1
    have HG1 := Aside0.mk (Grew.trans HG.out hG1)
    have k0 := hB1.c0
    have k1 := hB1.c1
    have f0 := blk_frozen hB1 0
    have f1 := blk_frozen hB1 1
    clear hB1 hG1
    go_wp2_with fail
    refine bodyPost_ret (results_ct rfl _ _ (w.heap.size + 2) 25 #[I 0, .slice none 0 0] (0, 0) _ rfl HB1.out.set Try.underlying25 rfl (by kernel_rfl)) rfl ?_
    rw [HV.out]
    exact ⟨_, rfl, Kd.R_nil _ _ _ _ _, below_set (below_set HG1.out (by omega)) (by omega)⟩

end Go.Proofs.Ytoeapnempdgagaa.K
end

section
/- PartOn in the form that the printed law takes. -/
namespace Go.Proofs.Ytoeapnempdgagaa.X
open Go.RowKit Go.Shelf Go.Proofs.Ytoeapnempdgagaa.K Go.Proofs.YtoeapnempdgagaaW.PrintWords Go.Proofs.YtoeapnempdgagaaW.PrintLast Go.Proofs.YtoeapnempdgagaaW.PrintMore
set_option linter.unusedVariables false
set_option linter.unusedSimpArgs false

def impl_PartOn.f (a0_0 : Int) (l0_1 : List Int) (a1 : Int) : Option (Int × List Int × Int) := if l0_1.length ≤ 2097152 then some (partOf a0_0 l0_1 (PartOn_b a0_0 l0_1 a1) (PartOn_p l0_1 a1)) else none
theorem impl_PartOn.calls (a0_0 : Int) (A0_1 : Option Addr) (c0_1 : Nat) (l0_1 : List Int) (a1 : Int) (r1 : Int) (r2 : List Int) (r3 : Int) (w : World) (hr0_1 : Kd.C (Kd.int .i64) w A0_1 l0_1.length l0_1) (hc0_1 : l0_1.length ≤ c0_1) (h : impl_PartOn.f a0_0 l0_1 a1 = some (r1, r2, r3)) :
    Calls Try.prog 32 #[.agg #[.int .i64 a0_0, .slice A0_1 l0_1.length c0_1], .int .i64 a1] w fun e w' => ∃ v1_ : Value, e = .returned (.tuple #[.agg #[.int .i64 r1, v1_], .int .i64 r3]) ∧ Kd.R (Kd.int .i64) 2 w' w.heap.size (fun _ => True) v1_ r2 ∧ Below w.heap.size w w' := by
  unfold impl_PartOn.f at h
  by_cases hl : l0_1.length ≤ 2097152
  · rw [if_pos hl] at h
    injection h with h
    have H := PartOn_calls a0_0 A0_1 c0_1 l0_1 a1 w ⟨hr0_1, hc0_1, by omega⟩
    rw [h] at H
    exact H
  · rw [if_neg hl] at h
    cases h

end Go.Proofs.Ytoeapnempdgagaa.X
end

section
/- Written by a program of this session (myprint.py over the kit's print). -/
namespace Go.Proofs.Ytoeapnempdgagaa.Q
open Go.RowKit Go.Proofs.YtoeapnempdgagaaW.PrintWords Go.Proofs.YtoeapnempdgagaaW.PrintLast Go.Proofs.YtoeapnempdgagaaW.PrintMore
attribute [local go_sem] max2_int min2_int max_two min_two max_three min_three max_four min_four   -- for this text's walks alone
set_option linter.unusedVariables false
set_option linter.unusedSimpArgs false

/-! ### impl_Complex_euler: function 71 -/
def impl_Complex_euler.l0 : Nat → Int → List Int → Int → Int → Option (Int)
  | 0, _, _, _, _ => none
  | k + 1, x3, x7, x8, x9 => if x9 < x8 then (if 0 ≤ x9 then (if x9 < (x7.length : Int) then ((impl_dimension.f (rd x7 x9)).bind fun t340 => (impl_Complex_euler.l0 k (wrap64 (x3 + (wrap64 (1 - (wrap64 (2 * (Int.tmod t340 2))))))) x7 x8 (wrap64 (x9 + 1)))) else (none)) else (none)) else (some x3)
def impl_Complex_euler.f (k : Nat) (a0_0 : Int) (l0_1 : List Int) : Option (Int) := impl_Complex_euler.l0 k 0 l0_1 (l0_1.length : Int) 0
theorem impl_Complex_euler.mono_l : ∀ k, (∀ y0 y1 y2 y3, LeO (impl_Complex_euler.l0 k y0 y1 y2 y3) (impl_Complex_euler.l0 (k + 1) y0 y1 y2 y3))
  | 0 => fun _ _ _ _ r h => by simp [impl_Complex_euler.l0] at h
  | k + 1 => by
    have ih0 := impl_Complex_euler.mono_l k
    · intro y0 y1 y2 y3
      unfold impl_Complex_euler.l0
      repeat' first
      | (with_reducible exact ih0 _ _ _ _)
      | (with_reducible exact LeO.refl _)
      | (with_reducible exact LeO.none _)
      | (with_reducible refine LeO.ite ?_ ?_)
      | (with_reducible refine LeO.bind ?_ (fun _ => ?_))
      | exact ih0 _ _ _ _
      | exact LeO.none _
      | refine LeO.ite ?_ ?_
      | refine LeO.bind ?_ (fun _ => ?_)
theorem impl_Complex_euler.mono : ∀ a0 a1 k, LeO (impl_Complex_euler.f k a0 a1) (impl_Complex_euler.f (k + 1) a0 a1) := by
  intro a0 a1 k
  have ih0 := impl_Complex_euler.mono_l k
  unfold impl_Complex_euler.f
  repeat' first
      | (with_reducible exact ih0 _ _ _ _)
      | (with_reducible exact LeO.refl _)
      | (with_reducible exact LeO.none _)
      | (with_reducible refine LeO.ite ?_ ?_)
      | (with_reducible refine LeO.bind ?_ (fun _ => ?_))
      | exact ih0 _ _ _ _
      | exact LeO.none _
      | refine LeO.ite ?_ ?_
      | refine LeO.bind ?_ (fun _ => ?_)
set_option maxHeartbeats 8000000 in
set_option maxRecDepth 100000 in
theorem impl_Complex_euler.calls (k : Nat) (a0_0 : Int) (A0_1 : Option Addr) (c0_1 : Nat) (l0_1 : List Int) (r : Int) (w : World) (hr0_1 : Kd.C (Kd.int .i64) w A0_1 l0_1.length l0_1) (hc0_1 : l0_1.length ≤ c0_1) (h : impl_Complex_euler.f k a0_0 l0_1 = some r) :
    Calls Try.prog 71 #[.agg #[.int .i64 a0_0, .slice A0_1 l0_1.length c0_1]] w fun e w' => e = .returned (.int .i64 r) ∧ Below w.heap.size w w' := by
  have hu25 := Try.underlying25
  have HR0_1 := Aside0.mk hr0_1
  have HC0_1 := Aside0.mk hc0_1
  clear hr0_1 hc0_1
  have HB := Aside0.mk (Below.refl w.heap.size w)
  have H : (impl_Complex_euler.l0 k 0 l0_1 (l0_1.length : Int) 0) = some r := h
  clear h
  have H' := Aside0.mk H
  clear H
  go_enter Try.func71, Try.ntmps71
  go_wp2_with (first | ((with_reducible refine gate_dst (N := 1) rfl ?_); refine box_event ?hg (N := 1) ?hd (cs := #[.int .i64 a0_0, .slice A0_1 l0_1.length c0_1]) (t := 25) ?hr ?_; (case hd => rfl); (case hg => rfl); (case hr => first | (go_simp; done) | (go_simp; rfl)); intro gb338 hg w2 hbox hb; have n0_ := Aside0.mk (below_step (by repeat (first | (with_reducible first | exact HB.out | apply below_alloc | apply pw_below_drewN | apply below_drew1) | exact HB.out)) hb); have n1_ := Aside0.mk (hbox); have n2_ := Aside0.mk ((by rw [hg]; exact (below_size (by repeat (first | (with_reducible first | exact HB.out | apply below_alloc | apply pw_below_drewN | apply below_drew1) | exact HB.out))) : w.heap.size ≤ gb338)); have n3_ := Aside0.mk ((by rw [hg]; exact (below_size (by repeat (first | (with_reducible first | exact HB.out | apply below_alloc | apply pw_below_drewN | apply below_drew1) | exact HB.out))) : w.heap.size ≤ gb338)); clear HB; have HB := n0_; have BK338 := n1_; have GW338 := n2_; have GE338 := n3_; clear n0_ n1_ n2_ n3_; clear hb hbox hg; have hcz3_0 : w2.cell? ⟨gb338, 0, none⟩ = some (.int .i64 a0_0) := (blk_cell BK338.out 0).trans rfl; have hcz3_1 : w2.cell? ⟨gb338, 1, none⟩ = some (.slice A0_1 l0_1.length c0_1) := (blk_cell BK338.out 1).trans rfl; have hfz3_0 := blk_frozen BK338.out 0; have hfz3_1 := blk_frozen BK338.out 1))
  go_loopg [3, 9] k (fun kq v3 v9 w' => ∃ (x3_1 : Int) (x9_1 : Int), v3 = .int .i64 x3_1 ∧ v9 = .int .i64 x9_1 ∧ Aside0 (impl_Complex_euler.l0 kq x3_1 l0_1 (l0_1.length : Int) x9_1 = some r) ∧ Aside0 (kq ≤ k) ∧ Aside0 (w'.heap[gb338]? = some (.cells #[.int .i64 a0_0, (.slice A0_1 l0_1.length c0_1)] 25 (0, 0))) ∧ Aside0 (Below w.heap.size w w'))
  case atStart => exact ⟨(0), (0), (by first | rfl | (simp; done) | (simp [*]; done)), (by first | rfl | (simp; done) | (simp [*]; done)), H', ⟨Nat.le_refl _⟩, ⟨by (with_reducible repeat (first | refine blk_drewN ?_ _ | refine blk_drew ?_ | refine blk_alloc ?_ _)); exact BK338.out⟩, ⟨by repeat (first | (with_reducible first | exact HB.out | apply below_alloc | apply pw_below_drewN | apply below_drew1 | refine below_set ?_ GE338.out) | exact HB.out)⟩⟩
  case round =>
    clear H'
    try clear p2
    try clear hcz3_0
    try clear hcz3_1
    try clear hfz3_0
    try clear hfz3_1
    obtain ⟨x3_1, x9_1, rfl, rfl, HA, HK1, BK338, HB⟩ := hrel
    cases gk with
    | zero => exact absurd HA.out (by simp [impl_Complex_euler.l0])
    | succ k1 =>
      have H := HA.out
      clear HA
      simp only [impl_Complex_euler.l0] at H
      by_cases c4 : x9_1 < (l0_1.length : Int)
      · rw [if_pos c4] at H
        have c4b0 : decide (x9_1 < (l0_1.length : Int)) = true := decide_eq_true c4
        clear c4
        by_cases c5 : 0 ≤ x9_1
        · rw [if_pos c5] at H
          have c5b0 : decide (0 ≤ x9_1) = true := decide_eq_true c5
          clear c5
          by_cases c6 : x9_1 < (l0_1.length : Int)
          · rw [if_pos c6] at H
            have c6b0 : decide (x9_1 < (l0_1.length : Int)) = true := decide_eq_true c6
            clear c6
            replace H := Option.bind_eq_some_iff.mp H
            obtain ⟨t340, A70, H⟩ := H
            replace H : (impl_Complex_euler.l0 k1 (wrap64 (x3_1 + (wrap64 (1 - (wrap64 (2 * (Int.tmod t340 2))))))) l0_1 (l0_1.length : Int) (wrap64 (x9_1 + 1))) = some r := H
            have A7 := Aside0.mk A70
            clear A70
            have H' := Aside0.mk H
            clear H
            have p339 : 0 ≤ (x9_1 : Int) := of_decide_eq_true (by first | (with_reducible assumption) | assumption)
            have q339 : x9_1 < (l0_1.length : Int) := of_decide_eq_true (by first | (with_reducible assumption) | assumption)
            obtain ⟨ad339, e339, hx339_0⟩ := Kd.at_int HR0_1.out x9_1 p339 q339
            cases e339
            replace hx339_0 := (HB.out.cell (World.block_lt_of_cell? w _ hx339_0)).trans hx339_0
            replace p339 := eq_true p339
            replace q339 := eq_true q339
            go_wp2_with (first | ((with_reducible refine gate_callee (f := 83) rfl ?_); refine goesL_ (some 15) rfl rfl Try.func83 (by kernel_rfl) rfl #[.int .i64 (rd l0_1 x9_1)] rfl (by (try simp only [List.map_toArray, List.map_cons, List.map_nil]); first | done | rfl | (simp only [List.length_drop, List.length_take]; rfl)) ?_; (with_reducible refine (impl_dimension.calls (rd l0_1 x9_1) t340 _ A7.out).mono ?_); rintro e w' ⟨rfl, ⟨nd, rfl⟩⟩; refine ⟨_, rfl, ?_⟩))
            go_roundg k1
            case measure => have := HK1.out; omega
            case rel => exact ⟨(wrap64 (x3_1 + (wrap64 (1 - (wrap64 (2 * (Int.tmod t340 2))))))), (wrap64 (x9_1 + 1)), (by first | rfl | (simp; done) | (simp [*]; done)), (by first | rfl | (simp; done) | (simp [*]; done)), H', ⟨by have := HK1.out; omega⟩, ⟨by (with_reducible repeat (first | refine blk_drewN ?_ _ | refine blk_drew ?_ | refine blk_alloc ?_ _)); exact BK338.out⟩, ⟨by repeat (first | (with_reducible first | exact HB.out | apply below_alloc | apply pw_below_drewN | apply below_drew1 | refine below_set ?_ GE338.out) | exact HB.out)⟩⟩
          · rw [if_neg c6] at H
            exact absurd H (by simp)
        · rw [if_neg c5] at H
          exact absurd H (by simp)
      · rw [if_neg c4] at H
        have c4b0 : decide (x9_1 < (l0_1.length : Int)) = false := decide_eq_false c4
        clear c4
        obtain rfl := Option.some.inj H
        go_wp2
        go_ret
        exact ⟨by first | rfl | (simp [errW_none, errW_some] <;> rfl) | (simp [*, errW_none, errW_some] <;> rfl), by repeat (first | (with_reducible first | exact HB.out | apply below_alloc | apply pw_below_drewN | apply below_drew1 | refine below_set ?_ GE338.out) | exact HB.out)⟩

end Go.Proofs.Ytoeapnempdgagaa.Q
end

section
/- dimension, EulerNumber, DimensionFunction; ascending rows. -/
namespace Go.Proofs.Ytoeapnempdgagaa.K
open Go.RowKit Go.Shelf Go.Proofs.Ytoeapnempdgagaa.Q Go.Proofs.YtoeapnempdgagaaW.PrintWords Go.Proofs.YtoeapnempdgagaaW.PrintLast Go.Proofs.YtoeapnempdgagaaW.PrintMore
set_option linter.unusedVariables false
set_option linter.unusedSimpArgs false

/-- The number of a face's vertices, and its dimension. -/
def onesI (f : Int) : Int := f % 2 + f / 2 % 2 + f / 4 % 2 + f / 8 % 2 + f / 16 % 2 + f / 32 % 2
def dimI (f : Int) : Int := onesI f - 1
theorem dim_64 : ∀ m : Fin 64, impl_dimension.f (m.val : Int) = some (dimI (m.val : Int)) := by decide +kernel
theorem dim_is (f : Int) (h0 : 0 ≤ f) (h1 : f ≤ 63) : impl_dimension.f f = some (dimI f) := by
  obtain ⟨m, rfl⟩ := Int.eq_ofNat_of_zero_le h0
  exact dim_64 ⟨m, by omega⟩
theorem dim_range (f : Int) : -1 ≤ dimI f ∧ dimI f ≤ 5 := by
  unfold dimI onesI
  omega
theorem dimension_calls (f : Int) (h0 : 0 ≤ f) (h1 : f ≤ 63) (w : World) : Calls Try.prog 83 #[I f] w fun e w' => e = .returned (I (dimI f)) ∧ Grew w w' :=
  (impl_dimension.calls f (dimI f) w (dim_is f h0 h1)).mono fun e w' ⟨he, hd⟩ => ⟨he, hd.below⟩

theorem tm_range (d : Int) (h : -1 ≤ d ∧ d ≤ 5) : -1 ≤ Int.tmod d 2 ∧ Int.tmod d 2 ≤ 1 := by
  have : d = -1 ∨ d = 0 ∨ d = 1 ∨ d = 2 ∨ d = 3 ∨ d = 4 ∨ d = 5 := by omega
  rcases this with rfl | rfl | rfl | rfl | rfl | rfl | rfl <;> decide
/-- The Euler number. -/
def eulerI (l : List Int) : Int := (l.map fun f => 1 - 2 * (Int.tmod (dimI f) 2)).sum
theorem eulerI_cons (x : Int) (l : List Int) : eulerI (x :: l) = (1 - 2 * Int.tmod (dimI x) 2) + eulerI l := by
  simp only [eulerI, List.map_cons, List.sum_cons]
theorem euler_step (s t : Int) (i : Nat) (hi : i ≤ 63) (hs : -3 * (i : Int) ≤ s ∧ s ≤ 3 * (i : Int)) (htm : -1 ≤ t ∧ t ≤ 1) :
    wrap64 (2 * t) = 2 * t ∧ wrap64 (1 - 2 * t) = 1 - 2 * t ∧ wrap64 (s + (1 - 2 * t)) = s + (1 - 2 * t) ∧ wrap64 ((i : Int) + 1) = ((i + 1 : Nat) : Int) ∧ (-3 * ((i + 1 : Nat) : Int) ≤ s + (1 - 2 * t) ∧ s + (1 - 2 * t) ≤ 3 * ((i + 1 : Nat) : Int)) := by
  unfold wrap64
  omega
theorem euler_loop (l : List Int) (hl : l.length ≤ 63) (hr : ∀ x ∈ l, 1 ≤ x ∧ x ≤ 63) : ∀ (d i k : Nat) (s : Int), l.length - i = d → i ≤ l.length → d < k → -3 * (i : Int) ≤ s ∧ s ≤ 3 * (i : Int) →
    impl_Complex_euler.l0 k s l (l.length : Int) (i : Int) = some (s + eulerI (l.drop i)) := by
  intro d
  induction d with
  | zero =>
    intro i k s hd hi hk hs
    obtain ⟨k, rfl⟩ : ∃ m, k = m + 1 := ⟨k - 1, by omega⟩
    obtain rfl : i = l.length := by omega
    simp only [impl_Complex_euler.l0]
    rw [if_neg (by omega)]
    simp [eulerI]
  | succ d ih =>
    intro i k s hd hi hk hs
    obtain ⟨k, rfl⟩ : ∃ m, k = m + 1 := ⟨k - 1, by omega⟩
    simp only [impl_Complex_euler.l0]
    have hil : i < l.length := by omega
    have hx := hr _ (List.getElem_mem hil)
    have hrd : rd l (i : Int) = l[i] := by simp [rd, hil]
    rw [if_pos (by omega), if_pos (by omega), if_pos (by omega), hrd, dim_is l[i] (by omega) hx.2]
    simp only [Option.bind_some]
    have ih2 := fun s' hs' => ih (i + 1) k s' (by omega) (by omega) (by omega) hs'
    have hE : eulerI (l.drop i) = (1 - 2 * Int.tmod (dimI l[i]) 2) + eulerI (l.drop (i + 1)) := by
      rw [List.drop_eq_getElem_cons hil, eulerI_cons]
    obtain ⟨e1, e2, e3, e4, e5⟩ := euler_step s (Int.tmod (dimI l[i]) 2) i (by omega) hs (tm_range _ (dim_range l[i]))
    rw [hE, e1, e2, e3, e4, ih2 _ e5, Int.add_assoc]
theorem euler_is (n : Int) (l : List Int) (hl : l.length ≤ 63) (hr : ∀ x ∈ l, 1 ≤ x ∧ x ≤ 63) (k : Nat) (hk : 64 ≤ k) : impl_Complex_euler.f k n l = some (eulerI l) := by
  unfold impl_Complex_euler.f
  have := euler_loop l hl hr l.length 0 k 0 (by omega) (by omega) (by omega) (by omega)
  simpa using this

set_option maxHeartbeats 2000000 in
theorem EulerNumber_calls (n : Int) (A : Option Addr) (c : Nat) (l : List Int) (w : World) (hk : Kx w A c l) :
    Calls Try.prog 34 #[.agg #[I n, .slice A l.length c]] w fun e w' => e = .returned (.tuple #[I (if isC n l = true then eulerI l else 0), I (codeOf n l true)]) ∧ Grew w w' := by
  have hg : Grew w (w.alloc (.cells #[I n, .slice A l.length c] 25)) := below_alloc (Grew.refl w) _
  have hB : CB (w.alloc (.cells #[I n, .slice A l.length c] 25)) w.heap.size n (.slice A l.length c) := blk_new w _
  have H := Aside0.mk (complexCode_calls true n A c l 70 #[] #[] _ (hk.later hg) (enters_of Try.func70 (by kernel_rfl) rfl) (fun _ => always_answers _))
  have HK := Aside0.mk hk
  have HG := Aside0.mk hg
  have HB := Aside0.mk hB
  clear hk hg hB
  cases hi : isC n l with
  | false =>
    have HV : Aside0 (codeOf n l true = 1) := ⟨by simp [codeOf, hi]⟩
    rw [HV.out] at H ⊢
    clear hi
    go_enter Try.func34, Try.ntmps34
    go_wp2_with fail
    refine H.out.mono ?_
    rintro e w1 ⟨rfl, hG1⟩
    go_wp2_with fail
    go_ret2
    exact ⟨rfl, Grew.trans HG.out hG1⟩
  | true =>
    have HV : Aside0 (codeOf n l true = 0) := ⟨by simp [codeOf, hi]⟩
    rw [HV.out] at H ⊢
    have HI := Aside0.mk (isC_faces hi)
    clear hi
    go_enter Try.func34, Try.ntmps34
    go_wp2_with fail
    refine H.out.mono ?_
    rintro e w1 ⟨rfl, hG1⟩
    have HG1 := Aside0.mk (Grew.trans HG.out hG1)
    have k0 := (CB.later HB.out hG1).c0
    have k1 := (CB.later HB.out hG1).c1
    clear hG1
    go_wp2_with fail
    refine (impl_Complex_euler.calls 64 n A c l (eulerI l) w1 (HK.out.later HG1.out).r HK.out.c (euler_is n l HI.out.2.2.2 (fun x hx => ⟨(HI.out.2.2.1 x hx).1, (HI.out.2.2.1 x hx).2.2⟩) 64 (Nat.le_refl _))).mono ?_
    rintro e w2 ⟨rfl, hG2⟩
    go_wp2_with fail
    go_ret2
    exact ⟨rfl, Grew.trans HG1.out hG2⟩

set_option maxRecDepth 100000 in
set_option maxHeartbeats 4000000 in
theorem DimensionFunction_calls (n : Int) (A : Option Addr) (c : Nat) (l : List Int) (w : World) (hk : Kx w A c l) :
    Calls Try.prog 42 #[.agg #[I n, .slice A l.length c]] w fun e w' => ∃ v, e = .returned (.tuple #[v, I (codeOf n l true)]) ∧ Ki.R 2 w' w.heap.size (fun _ => True) v (if isC n l = true then l.map dimI else []) ∧ Grew w w' := by
  have hg : Grew w (w.alloc (.cells #[I n, .slice A l.length c] 25)) := below_alloc (Grew.refl w) _
  have hB : CB (w.alloc (.cells #[I n, .slice A l.length c] 25)) w.heap.size n (.slice A l.length c) := blk_new w _
  have H := Aside0.mk (complexCode_calls true n A c l 70 #[] #[] _ (hk.later hg) (enters_of Try.func70 (by kernel_rfl) rfl) (fun _ => always_answers _))
  have HK := Aside0.mk hk
  have HG := Aside0.mk hg
  have HB := Aside0.mk hB
  clear hk hg hB
  cases hi : isC n l with
  | false =>
    have HV : Aside0 (codeOf n l true = 1) := ⟨by simp [codeOf, hi]⟩
    rw [HV.out] at H ⊢
    clear hi
    go_enter Try.func42, Try.ntmps42
    go_wp2_with fail
    refine H.out.mono ?_
    rintro e w1 ⟨rfl, hG1⟩
    go_wp2_with fail
    go_ret2
    exact ⟨_, rfl, Kd.R_nil _ _ _ _ _, Grew.trans HG.out hG1⟩
  | true =>
    have HV : Aside0 (codeOf n l true = 0) := ⟨by simp [codeOf, hi]⟩
    rw [HV.out] at H ⊢
    have HI := Aside0.mk (isC_faces hi)
    clear hi
    have hlen := HI.out.2.2.2
    go_enter Try.func42, Try.ntmps42
    go_wp2_with fail
    refine H.out.mono ?_
    rintro e w1 ⟨rfl, hG1⟩
    have HG1 := Aside0.mk (Grew.trans HG.out hG1)
    have k0 := (CB.later HB.out hG1).c0
    have k1 := (CB.later HB.out hG1).c1
    clear hG1
    go_wp2_with fail
    clear k0 k1
    go_loopg [5, 16] l.length (fun gg s5 s16 wr => ∃ kk : Nat, kk ≤ l.length ∧ l.length - kk ≤ gg ∧ s16 = .int .i64 kk ∧
      (∃ A c, s5 = .slice A kk c ∧ Aside0 (Ki.R 2 wr w.heap.size (fun _ => True) (.slice A kk c) ((l.take kk).map dimI))) ∧ Aside0 (Grew w wr))
    case atStart => exact ⟨0, Nat.zero_le _, by omega, rfl, ⟨none, 0, rfl, ⟨Kd.R_nil _ _ _ _ _⟩⟩, HG1⟩
    case round =>
      obtain ⟨kk, hkk, hg, rfl, ⟨A5, c5, rfl, HR⟩, HGr⟩ := hrel
      by_cases hlt : kk < l.length
      · have hltz : (kk : Int) < (l.length : Int) := by omega
        obtain ⟨ad, e0, hx⟩ := Kd.at_int (HK.out.later HGr.out).r (kk : Int) (by omega) (by omega)
        cases e0
        have hrd : rd l (kk : Int) = l[kk] := by simp [rd, hlt]
        rw [hrd, Int.toNat_natCast] at hx
        have hxr := HI.out.2.2.1 _ (List.getElem_mem hlt)
        obtain ⟨y, hy⟩ : ∃ y, y = l[kk] := ⟨_, rfl⟩
        rw [← hy] at hx hxr
        have HN : Aside0 ((l.take (kk + 1)).map dimI = (l.take kk).map dimI ++ [dimI y]) := ⟨by rw [List.take_succ_eq_append_getElem hlt, List.map_append, hy]; rfl⟩
        have HL : Aside0 (((l.take kk).map dimI).length = kk) := ⟨by simp; omega⟩
        clear hrd hy
        go_wp2_with fail
        refine (dimension_calls y (by omega) (by omega) wr).mono ?_
        rintro e w2 ⟨rfl, hG2⟩
        have HR2 : Aside0 (Ki.R 2 w2 w.heap.size (fun _ => True) (.slice A5 kk c5) ((l.take kk).map dimI)) := ⟨Kd.R_below HR.out hG2⟩
        have HG2 := Aside0.mk (Grew.trans HGr.out hG2)
        clear hG2 HR hx
        generalize (l.take kk).map dimI = L at HR2 HN HL
        have hLk := HL.out
        subst hLk
        go_wp2_with (at_builtin; refine append_int w.heap.size rfl (.tmp 20) (.tmp 23) rfl _ L (dimI y) rfl rfl HR2.out HG2.out.size (by omega) ?_; intro A3 c3 w3 hR3 hB3 hg3; have HR3 := Aside0.mk hR3; have HG3 : Aside0 (Below w.heap.size w w3) := ⟨Below.trans HG2.out hB3⟩; clear hR3 hB3 hg3)
        go_roundg (l.length - (L.length + 1))
        case measure => omega
        case rel => exact ⟨L.length + 1, by omega, by omega, by go_num, ⟨A3, c3, rfl, ⟨by rw [HN.out]; exact HR3.out⟩⟩, HG3⟩
      · obtain rfl : kk = l.length := by omega
        have HT : Aside0 ((l.take l.length).map dimI = l.map dimI) := ⟨by rw [List.take_length]⟩
        rw [HT.out] at HR
        go_wp2_with fail
        go_ret2
        exact ⟨_, rfl, HR.out, HGr.out⟩

end Go.Proofs.Ytoeapnempdgagaa.K
end

section
/- EulerNumber in the form that the printed law takes. -/
namespace Go.Proofs.Ytoeapnempdgagaa.X
open Go.RowKit Go.Shelf Go.Proofs.Ytoeapnempdgagaa.K Go.Proofs.YtoeapnempdgagaaW.PrintWords Go.Proofs.YtoeapnempdgagaaW.PrintLast Go.Proofs.YtoeapnempdgagaaW.PrintMore
set_option linter.unusedVariables false
set_option linter.unusedSimpArgs false

def impl_EulerNumber.f (a0_0 : Int) (l0_1 : List Int) : Option (Int × Int) := if l0_1.length ≤ 2097152 then some (((if isC a0_0 l0_1 = true then eulerI l0_1 else 0), codeOf a0_0 l0_1 true)) else none
theorem impl_EulerNumber.calls (a0_0 : Int) (A0_1 : Option Addr) (c0_1 : Nat) (l0_1 : List Int) (r1 : Int) (r2 : Int) (w : World) (hr0_1 : Kd.C (Kd.int .i64) w A0_1 l0_1.length l0_1) (hc0_1 : l0_1.length ≤ c0_1) (h : impl_EulerNumber.f a0_0 l0_1 = some (r1, r2)) :
    Calls Try.prog 34 #[.agg #[.int .i64 a0_0, .slice A0_1 l0_1.length c0_1]] w fun e w' => e = .returned (.tuple #[.int .i64 r1, .int .i64 r2]) ∧ Below w.heap.size w w' := by
  unfold impl_EulerNumber.f at h
  by_cases hl : l0_1.length ≤ 2097152
  · rw [if_pos hl] at h
    injection h with h
    have H := EulerNumber_calls a0_0 A0_1 c0_1 l0_1 w ⟨hr0_1, hc0_1, by omega⟩
    obtain ⟨h1, h2⟩ := Prod.mk.inj h
    rw [h1, h2] at H
    exact H
  · rw [if_neg hl] at h
    cases h

end Go.Proofs.Ytoeapnempdgagaa.X
end

section
/- DimensionFunction in the form that the printed law takes. -/
namespace Go.Proofs.Ytoeapnempdgagaa.X
open Go.RowKit Go.Shelf Go.Proofs.Ytoeapnempdgagaa.K Go.Proofs.YtoeapnempdgagaaW.PrintWords Go.Proofs.YtoeapnempdgagaaW.PrintLast Go.Proofs.YtoeapnempdgagaaW.PrintMore
set_option linter.unusedVariables false
set_option linter.unusedSimpArgs false

def impl_DimensionFunction.f (a0_0 : Int) (l0_1 : List Int) : Option (List Int × Int) := if l0_1.length ≤ 2097152 then some (((if isC a0_0 l0_1 = true then l0_1.map dimI else []), codeOf a0_0 l0_1 true)) else none
theorem impl_DimensionFunction.calls (a0_0 : Int) (A0_1 : Option Addr) (c0_1 : Nat) (l0_1 : List Int) (r1 : List Int) (r2 : Int) (w : World) (hr0_1 : Kd.C (Kd.int .i64) w A0_1 l0_1.length l0_1) (hc0_1 : l0_1.length ≤ c0_1) (h : impl_DimensionFunction.f a0_0 l0_1 = some (r1, r2)) :
    Calls Try.prog 42 #[.agg #[.int .i64 a0_0, .slice A0_1 l0_1.length c0_1]] w fun e w' => ∃ v0_ : Value, e = .returned (.tuple #[v0_, .int .i64 r2]) ∧ Kd.R (Kd.int .i64) 2 w' w.heap.size (fun _ => True) v0_ r1 ∧ Below w.heap.size w w' := by
  unfold impl_DimensionFunction.f at h
  by_cases hl : l0_1.length ≤ 2097152
  · rw [if_pos hl] at h
    injection h with h
    have H := DimensionFunction_calls a0_0 A0_1 c0_1 l0_1 w ⟨hr0_1, hc0_1, by omega⟩
    obtain ⟨h1, h2⟩ := Prod.mk.inj h
    rw [h1, h2] at H
    exact H
  · rw [if_neg hl] at h
    cases h

end Go.Proofs.Ytoeapnempdgagaa.X
end

section
/- slices.Clone and slices.DeleteFunc over rows of numbers of the call's own. -/
namespace Go.Proofs.Ytoeapnempdgagaa.K
open Go.RowKit Go.Shelf Go.Proofs.YtoeapnempdgagaaW.PrintWords Go.Proofs.YtoeapnempdgagaaW.PrintLast Go.Proofs.YtoeapnempdgagaaW.PrintMore
set_option linter.unusedVariables false
set_option linter.unusedSimpArgs false

theorem below_setCells {base : Nat} {w : World} {G : Nat} (hb : base ≤ G) : ∀ (vs : List Value) (i : Nat) (W : World), Below base w W → Below base w (W.setCells G i vs)
  | [], _, _, h => h
  | v :: r, i, W, h => below_setCells hb r (i + 1) _ (Below.setCell h hb v)
theorem Ri.clear {base : Nat} {ok : Nat → Prop} {G n c : Nat} : ∀ (m i : Nat) (W : World) (xs : List Int), Ki.R 2 W base ok (.slice (some ⟨G, 0, none⟩) n c) xs →
    ∃ ys : List Int, ys.take i = xs.take i ∧ ys.length = xs.length ∧ Ki.R 2 (W.setCells G i (List.replicate m (I 0))) base ok (.slice (some ⟨G, 0, none⟩) n c) ys
  | 0, i, W, xs, h => ⟨xs, rfl, rfl, h⟩
  | m + 1, i, W, xs, h => by
    have h1 := Kd.R_putn h (i : Int) 0
    rw [Int.toNat_natCast] at h1
    obtain ⟨ys, e1, e2, e3⟩ := Ri.clear m (i + 1) _ _ h1
    refine ⟨ys, ?_, by rw [e2, List.length_set], e3⟩
    have := congrArg (List.take i) e1
    rw [List.take_take, List.take_take, List.take_set, List.set_eq_of_length_le (by simp; omega)] at this
    simpa [Nat.min_eq_left (Nat.le_succ i)] using this

theorem del_keep (q : Int → Bool) (l xs : List Int) (i j : Nat) (hij : i < j) (hj : j < l.length) (hx : xs.length = l.length) (h1 : xs.take i = (l.take j).filter q) (h2 : xs.drop j = l.drop j) (hp : q l[j] = true) :
    (xs.set i l[j]).take (i + 1) = (l.take (j + 1)).filter q ∧ (xs.set i l[j]).drop (j + 1) = l.drop (j + 1) := by
  constructor
  · rw [List.take_succ_eq_append_getElem hj, List.filter_append, ← h1, List.take_set, List.take_succ_eq_append_getElem (show i < xs.length by omega), List.set_append_right _ _ (by simp; omega)]
    simp [hp]
    have : i - min i xs.length = 0 := by omega
    rw [this]
    rfl
  · rw [List.drop_set_of_lt (by omega)]
    have := congrArg (List.drop 1) h2
    simpa using this
theorem del_skip (q : Int → Bool) (l xs : List Int) (i j : Nat) (hj : j < l.length) (h1 : xs.take i = (l.take j).filter q) (h2 : xs.drop j = l.drop j) (hp : q l[j] = false) :
    xs.take i = (l.take (j + 1)).filter q ∧ xs.drop (j + 1) = l.drop (j + 1) := by
  constructor
  · rw [List.take_succ_eq_append_getElem hj, List.filter_append, ← h1]
    simp [hp]
  · have := congrArg (List.drop 1) h2
    simpa using this
theorem del_get (l xs : List Int) (j : Nat) (hj : j < l.length) (hx : xs.length = l.length) (h2 : xs.drop j = l.drop j) : xs[j]'(by omega) = l[j] := by
  rw [List.drop_eq_getElem_cons hj, List.drop_eq_getElem_cons (show j < xs.length by omega)] at h2
  injection h2
theorem idx_some {p : Int → Bool} {l : List Int} (h : idx p l ≠ -1) : ∃ i : Nat, idx p l = i ∧ ∃ hi : i < l.length, p l[i] = true ∧ ∀ j (hj : j < i), p (l[j]'(by omega)) = false := by
  unfold idx at h ⊢
  cases hf : l.findIdx? p with
  | none => rw [hf] at h; exact absurd rfl h
  | some i =>
    rw [List.findIdx?_eq_some_iff_getElem] at hf
    obtain ⟨hi, hp, hn⟩ := hf
    exact ⟨i, rfl, hi, hp, fun j hj => by have := hn j hj; simpa using this⟩
theorem idx_none {p : Int → Bool} {l : List Int} (h : idx p l = -1) : l.filter (fun x => !p x) = l := by
  unfold idx at h
  cases hf : l.findIdx? p with
  | some i => rw [hf] at h; have : ((i : Int)) = -1 := h; omega
  | none =>
    rw [List.findIdx?_eq_none_iff] at hf
    rw [List.filter_eq_self]
    intro x hx
    simp [hf x hx]
theorem del_start {p : Int → Bool} {l : List Int} {i : Nat} (hi : i < l.length) (hp : p l[i] = true) (hn : ∀ j (hj : j < i), p (l[j]'(by omega)) = false) : l.take i = (l.take (i + 1)).filter (fun x => !p x) := by
  rw [List.take_succ_eq_append_getElem hi, List.filter_append]
  have : (l.take i).filter (fun x => !p x) = l.take i := by
    rw [List.filter_eq_self]
    intro x hx
    obtain ⟨j, hj, rfl⟩ := List.mem_iff_getElem.1 hx
    rw [List.length_take] at hj
    rw [List.getElem_take, hn j (by omega)]
    rfl
  rw [this]
  simp [hp]

set_option maxRecDepth 100000 in
set_option maxHeartbeats 4000000 in
theorem DeleteFunc_calls (p : Int → Bool) (base : Nat) (v : Value) (l : List Int) (g : Nat) (first caps : Array Value) (w : World) (hbase : base ≤ w.heap.size) (hR : Ki.R 2 w base (fun _ => True) v l) (hbig : l.length ≤ 1000000000) (eg : EntersG g)
    (hp : ∀ x, x ∈ l → ∀ W, Below base w W → Calls Try.prog g (first.push (I x) ++ caps) W fun e w' => e = .returned (.bool (p x)) ∧ Grew W w') :
    Calls Try.prog 99 #[v, .func (.func g) first caps] w fun e w' => ∃ v', e = .returned v' ∧ Ki.R 2 w' base (fun _ => True) v' (l.filter fun x => !p x) ∧ Below base w w' := by
  obtain ⟨A, c, hv, hc, hC⟩ := Kd.R_reads hR
  subst hv
  have H := Aside0.mk (IndexFunc_int p A c l g first caps w hC hc (by omega) eg (fun x hx W hW => hp x hx W (hW.mono hbase)))
  have HR := Aside0.mk hR
  have HP := Aside0.mk hp
  have HC := Aside0.mk hc
  clear hR hp hC hc
  by_cases hi : idx p l = -1
  · have HV := Aside0.mk (idx_none hi)
    rw [hi] at H
    rw [HV.out]
    go_enter Try.func99, Try.ntmps99
    go_wp2_with fail
    refine H.out.mono ?_
    rintro e w1 ⟨rfl, hG1⟩
    go_wp2_with fail
    go_ret
    exact ⟨_, rfl, Kd.R_below HR.out hG1, hG1.mono hbase⟩
  · obtain ⟨i0, he, hi0, hp0, hn0⟩ := idx_some hi
    rw [he] at H hi
    have HS := Aside0.mk (del_start hi0 hp0 hn0)
    clear hn0 hp0 he
    go_enter Try.func99, Try.ntmps99
    go_wp2_with fail
    refine H.out.mono ?_
    rintro e w1 ⟨rfl, hG1⟩
    have HR1 := Aside0.mk (Kd.R_below HR.out hG1)
    have HG1 : Aside0 (Below base w w1) := ⟨hG1.mono hbase⟩
    clear hG1 H HR
    obtain ⟨G, cc, eo, gb, gl, _⟩ := Kd.R_form HR1.out (by omega)
    injection eo with ea en ec
    subst ea ec
    clear en
    go_wp2_with fail
    go_loopg [5, 6] l.length (fun gg s5 s6 wr => ∃ (i j : Nat) (xs : List Int), s5 = .int .i64 i ∧ s6 = .int .i64 j ∧ i < j ∧ j ≤ l.length ∧ l.length - j ≤ gg ∧ xs.length = l.length ∧
      Aside0 (xs.take i = (l.take j).filter (fun x => !p x)) ∧ Aside0 (xs.drop j = l.drop j) ∧ Aside0 (Ki.R 2 wr base (fun _ => True) (.slice (some ⟨G, 0, none⟩) l.length c) xs) ∧ Aside0 (Below base w wr))
    case atStart => exact ⟨i0, i0 + 1, l, rfl, by go_num, by omega, by omega, by omega, rfl, HS, ⟨rfl⟩, HR1, HG1⟩
    case round =>
      obtain ⟨i, j, xs, rfl, rfl, hij, hj, hg, hxl, HT, HD, HRr, HGr⟩ := hrel
      by_cases hlt : j < l.length
      · have hltz : (j : Int) < (l.length : Int) := by omega
        obtain ⟨hx, _⟩ := Kd.R_celln 0 HRr.out (j : Int) (by omega) (by omega)
        obtain ⟨hy, hf⟩ := Kd.R_celln 0 HRr.out (i : Int) (by omega) (by omega)
        have hrd : rdOf 0 xs (j : Int) = l[j] := by rw [← del_get l xs j hlt hxl HD.out]; simp [rdOf, show j < xs.length by omega]
        rw [hrd, Int.toNat_natCast] at hx
        rw [Int.toNat_natCast] at hy hf
        have hcall := HP.out l[j] (List.getElem_mem hlt) wr HGr.out
        have HK := Aside0.mk (fun h => del_keep (fun x => !p x) l xs i j hij hlt hxl HT.out HD.out h)
        have HS2 := Aside0.mk (fun h => del_skip (fun x => !p x) l xs i j hlt HT.out HD.out h)
        clear hrd
        generalize l[j] = y at hx hcall HK HS2
        cases hq : p y with
        | false =>
          rw [hq] at hcall
          have HK2 := Aside0.mk (HK.out (by simp [hq]))
          clear HK HS2
          go_wp2_with fail
          refine hcall.mono ?_
          rintro e w2 ⟨rfl, hG2⟩
          have HR2 := Aside0.mk (Kd.R_below HRr.out hG2)
          have HG2 := Aside0.mk (Below.trans HGr.out (hG2.mono (Nat.le_trans hbase HGr.out.size)))
          obtain ⟨hy, hf⟩ := Kd.R_celln 0 HR2.out (i : Int) (by omega) (by omega)
          rw [Int.toNat_natCast] at hy hf
          have HW := Aside0.mk (Kd.R_putn HR2.out (i : Int) y)
          clear hcall hx hG2
          go_wp2_with fail
          go_roundg (l.length - (j + 1))
          case measure => omega
          case rel => exact ⟨i + 1, j + 1, xs.set i y, by go_num, by go_num, by omega, by omega, by omega, by rw [List.length_set]; exact hxl, ⟨HK2.out.1⟩, ⟨HK2.out.2⟩, HW, ⟨Below.setCell HG2.out gb _⟩⟩
        | true =>
          rw [hq] at hcall
          have HK2 := Aside0.mk (HS2.out (by simp [hq]))
          clear HK HS2
          go_wp2_with fail
          refine hcall.mono ?_
          rintro e w2 ⟨rfl, hG2⟩
          have HR2 := Aside0.mk (Kd.R_below HRr.out hG2)
          have HG2 := Aside0.mk (Below.trans HGr.out (hG2.mono (Nat.le_trans hbase HGr.out.size)))
          clear hcall hx hy hf hG2
          go_wp2_with fail
          go_roundg (l.length - (j + 1))
          case measure => omega
          case rel => exact ⟨i, j + 1, xs, rfl, by go_num, by omega, by omega, by omega, hxl, ⟨HK2.out.1⟩, ⟨HK2.out.2⟩, HR2, HG2⟩
      · obtain rfl : j = l.length := by omega
        have hltz : ¬ (l.length : Int) < (l.length : Int) := by omega
        have HT2 : Aside0 (xs.take i = l.filter (fun x => !p x)) := ⟨by have := HT.out; rwa [List.take_length] at this⟩
        clear HT HD
        have hcl : ∀ ty, (Builtin.clear_ #[23] ty #[.slice (some ⟨G, i, none⟩) (l.length - i) (c - i)]).run Try.prog wr = .ok (.tuple #[]) (wr.setCells G i (List.replicate (l.length - i) (I 0))) :=
          fun ty => Lib.run_clear_slice wr _ _ ty _ Try.underlying23 (fun w => by kernel_rfl) rfl rfl G i _ _ (by omega) (fun t ht => by
            obtain ⟨h1, h2⟩ := Kd.R_celln 0 HRr.out ((i + t : Nat) : Int) (by omega) (by omega)
            rw [Int.toNat_natCast] at h1
            rw [h1]; rfl) (fun t ht => by
            obtain ⟨h1, h2⟩ := Kd.R_celln 0 HRr.out ((i + t : Nat) : Int) (by omega) (by omega)
            rw [Int.toNat_natCast] at h2
            exact h2)
        have hic : i < c := by have := HC.out; omega
        go_wp2_with fail
        go_ret
        obtain ⟨ys, h1, h2, h3⟩ := Ri.clear (l.length - i) i wr xs HRr.out
        refine ⟨_, rfl, ?_, below_setCells gb _ _ _ HGr.out⟩
        have h4 := Kd.R_take h3 (m := i) (by omega)
        rw [h1, HT2.out] at h4
        exact h4

end Go.Proofs.Ytoeapnempdgagaa.K
end

section
/- slices.Clone over numbers; facets, FacetsOf. -/
namespace Go.Proofs.Ytoeapnempdgagaa.K
open Go.RowKit Go.Shelf Go.Proofs.YtoeapnempdgagaaW.PrintWords Go.Proofs.YtoeapnempdgagaaW.PrintLast Go.Proofs.YtoeapnempdgagaaW.PrintMore
set_option linter.unusedVariables false
set_option linter.unusedSimpArgs false

section
variable {ops : Array Oper} {rest : List Oper} {o : Oper} {a : Act} {Q : Exit → Act → World → Prop}
/-- 'append' of a row of numbers to a row of the call's own. -/
theorem append_ints {W : World} (base : Nat) (hgd : o.guard = none) (s x : Operand)
    (ho : o.op = .call { callee := .builtin .append, args := #[s, x], argTypes := #[23, 23] })
    (v : Value) (xs ys : List Int) (A : Option Addr) (c : Nat) (hs : a.eval s = v) (hx : a.eval x = .slice A ys.length c)
    (HO : Ki.R 2 W base (fun _ => True) v xs) (HR : Ki.C W A ys.length ys) (hbase : base ≤ W.heap.size) (hl : xs.length + ys.length ≤ 1000000000000)
    (h : ∀ A' c' w1, Ki.R 2 w1 base (fun _ => True) (.slice A' (xs.length + ys.length) c') (xs ++ ys) → Below base W w1 → W.grownBy w1 v.ownBlock → wpList Try.prog ops Q rest (a.put o.dst (.slice A' (xs.length + ys.length) c')) w1) :
    wpList Try.prog ops Q (o :: rest) a W := by
  refine Kd.R_append_rows Ki (w0 := W) base hgd s x 23 2 (.int .i64 0) 8 ho Try.underlying23 infoI rfl (by decide) (by omega) v xs ys A ys.length c (fun _ => True) (fun _ => False) hs hx HO HR (fun _ _ h => h) (fun _ h => h.elim) (fun _ _ => trivial) (Below.refl _ _) hbase (by omega) ?_
  intro v1 w1 hR hB hg _
  obtain ⟨A', c', e⟩ := Kd.R_slice hR
  rw [List.length_append] at e
  subst e
  exact h A' c' w1 hR hB hg
end
theorem Ri.empty (w : World) (base : Nat) (hb : base ≤ w.heap.size) : Ki.R 2 (w.alloc (.cells #[] 2)) base (fun _ => True) (.slice (some ⟨w.heap.size, 0, none⟩) 0 0) [] := by
  have := own_lit w base 2 .i64 [] hb (by simp)
  exact ⟨fun _ _ => trivial, [], this, Reps.none _ _⟩

set_option maxHeartbeats 2000000 in
theorem Clone_calls (A : Option Addr) (c : Nat) (l : List Int) (w : World) (hr : Ki.C w A l.length l) (hc : l.length ≤ c) (hl : l.length ≤ 1000000000) :
    Calls Try.prog 100 #[.slice A l.length c] w fun e w' => ∃ v, e = .returned v ∧ Ki.R 2 w' w.heap.size (fun _ => True) v l ∧ Grew w w' := by
  have hq : ∀ (w : World) (a : Option Addr) (n c n' c' : Nat), (binOp .eql 23 (.slice a n c) (.slice none n' c')).run Try.prog w = .ok (.bool a.isNone) w := fun w a n c n' c' => Lib.run_eql_slice_nil w _ _ a n c n' c' Try.underlying23
  cases A with
  | none =>
    have h0 : l.length = 0 := by
      rcases Nat.eq_zero_or_pos l.length with h | h
      · exact h
      · obtain ⟨a, ha, _⟩ := hr.2.2 h
        cases ha
    have HL : Aside0 (l = []) := ⟨List.length_eq_zero_iff.1 h0⟩
    clear hr
    go_enter Try.func100, Try.ntmps100
    go_wp2_with fail
    go_ret
    exact ⟨_, rfl, by rw [HL.out]; exact Kd.R_nil _ _ _ _ _, Grew.refl w⟩
  | some ad =>
    have HR := Aside0.mk hr
    have HG : Aside0 (Grew w (w.alloc (.cells #[] 2))) := ⟨below_alloc (Grew.refl w) _⟩
    clear hr
    go_enter Try.func100, Try.ntmps100
    go_wp2_with (at_builtin; refine append_ints w.heap.size rfl (.tmp 5) (.tmp 6) rfl _ [] l (some ad) c rfl rfl (Ri.empty w _ (Nat.le_refl _)) (Kd.C_below HR.out HG.out) HG.out.size (by simp; omega) ?_; intro A3 c3 w3 hR3 hB3 hg3; have HR3 := Aside0.mk hR3; have HG3 : Aside0 (Below w.heap.size w w3) := ⟨Below.trans HG.out hB3⟩; clear hR3 hB3 hg3)
    go_ret
    refine ⟨_, rfl, ?_, HG3.out⟩
    have := HR3.out
    rw [List.length_nil, Nat.zero_add, List.nil_append] at this
    exact this

set_option maxHeartbeats 1000000 in
theorem facets11_calls (x f : Int) (B : Nat) (w : World) (hb : w.cell? ⟨B, 0, none⟩ = some (I f)) :
    Calls Try.prog 102 #[I x, .pointer (some ⟨B, 0, none⟩)] w fun e w' => e = .returned (.bool (f != x && inB f x)) ∧ Grew w w' := by
  by_cases h : f = x
  · have HV : Aside0 ((f != x && inB f x) = false) := ⟨by simp [h]⟩
    rw [HV.out]
    go_enter Try.func102, Try.ntmps102
    go_wp2_with fail
    go_ret
    exact ⟨rfl, Grew.refl w⟩
  · have H := Aside0.mk (isIn_calls f x w)
    generalize inB f x = r at H ⊢
    go_enter Try.func102, Try.ntmps102
    go_wp2_with fail
    refine H.out.mono ?_
    rintro e w1 ⟨rfl, hG1⟩
    go_wp2_with fail
    go_ret
    exact ⟨rfl, hG1⟩

/-- Whether a face is in another one, and the facets. -/
def innerB (l : List Int) (f : Int) : Bool := l.any fun x => f != x && inB f x
def facetsL (l : List Int) : List Int := l.filter fun f => !innerB l f

set_option maxHeartbeats 1000000 in
theorem facets1_calls (f n : Int) (B : Nat) (A : Option Addr) (c : Nat) (l : List Int) (w : World) (hb : CB w B n (.slice A l.length c)) (hk : Kx w A c l) :
    Calls Try.prog 101 #[I f, .pointer (some ⟨B, 0, none⟩)] w fun e w' => e = .returned (.bool (innerB l f)) ∧ Grew w w' := by
  have hg : Grew w (w.alloc (.cells #[I f] 2)) := below_alloc (Below.refl _ _) _
  have H := Aside0.mk (ContainsFunc_int (fun x => f != x && inB f x) A c l 102 #[] #[.pointer (some ⟨w.heap.size, 0, none⟩)] (w.alloc (.cells #[I f] 2))
    (hk.later hg).r hk.c hk.r.2.1 (enters_of Try.func102 (by kernel_rfl) rfl) (fun x hx W hW => facets11_calls x f w.heap.size W (blk_cell (blk_below (blk_new w _) hW) 0)))
  have HI : Aside0 (innerB l f = l.any (fun x => f != x && inB f x)) := ⟨rfl⟩
  rw [HI.out]
  generalize l.any (fun x => f != x && inB f x) = r at H ⊢
  have k1 := (CB.later hb hg).c1
  clear hk HI
  go_enter Try.func101, Try.ntmps101
  go_wp2_with fail
  refine H.out.mono ?_
  rintro e w' ⟨rfl, hb'⟩
  have HG := Aside0.mk (Grew.trans hg hb')
  clear hb' hg
  go_wp2_with fail
  go_ret
  exact ⟨rfl, HG.out⟩

set_option maxHeartbeats 2000000 in
theorem facets_calls (n : Int) (A : Option Addr) (c : Nat) (l : List Int) (w : World) (hk : Kx w A c l) (hl : l.length ≤ 1000000000) :
    Calls Try.prog 85 #[.agg #[I n, .slice A l.length c]] w fun e w' => ∃ v, e = .returned v ∧ Ki.R 2 w' w.heap.size (fun _ => True) v (facetsL l) ∧ Grew w w' := by
  have hg : Grew w (w.alloc (.cells #[I n, .slice A l.length c] 25)) := below_alloc (Grew.refl w) _
  have hB : CB (w.alloc (.cells #[I n, .slice A l.length c] 25)) w.heap.size n (.slice A l.length c) := blk_new w _
  have H := Aside0.mk (Clone_calls A c l _ (hk.later hg).r hk.c hl)
  have k1 := hB.c1
  have HK := Aside0.mk hk
  have HG := Aside0.mk hg
  have HB := Aside0.mk hB
  clear hk hg hB
  go_enter Try.func85, Try.ntmps85
  go_wp2_with fail
  refine H.out.mono ?_
  rintro e w1 ⟨v, rfl, hR, hG1⟩
  have HR1 := Aside0.mk hR
  have HG1 := Aside0.mk hG1
  clear hR hG1 k1
  have hs := HG.out.size
  have hs2 : w.heap.size + 1 ≤ w1.heap.size := by have := HG1.out.size; rwa [World.size_alloc] at this
  have H2 := Aside0.mk (DeleteFunc_calls (innerB l) (w.heap.size + 1) v l 101 #[] #[.pointer (some ⟨w.heap.size, 0, none⟩)] w1 hs2 (by have := HR1.out; rwa [World.size_alloc] at this) hl (enters_of Try.func101 (by kernel_rfl) rfl)
    (fun x _ W hW => facets1_calls x n w.heap.size A c l W (by
      have h1 := CB.later HB.out HG1.out
      rw [CB, hW.block _ (Nat.lt_succ_self _)]
      exact h1) (HK.out.later (Below.trans (Grew.trans HG.out HG1.out) (hW.mono (Nat.le_succ _))))))
  go_wp2_with fail
  refine H2.out.mono ?_
  rintro e w2 ⟨v2, rfl, hR2, hG2⟩
  go_wp2_with fail
  go_ret
  exact ⟨_, rfl, Kd.R_lower hR2 (Nat.le_succ _), Below.trans (Grew.trans HG.out HG1.out) (hG2.mono (Nat.le_succ _))⟩

set_option maxHeartbeats 2000000 in
theorem FacetsOf_calls (n : Int) (A : Option Addr) (c : Nat) (l : List Int) (w : World) (hk : Kx w A c l) (hl : l.length ≤ 1000000000) :
    Calls Try.prog 45 #[.agg #[I n, .slice A l.length c]] w fun e w' => ∃ v, e = .returned (.tuple #[v, I (codeOf n l true)]) ∧ Ki.R 2 w' w.heap.size (fun _ => True) v (if isC n l = true then facetsL l else []) ∧ Grew w w' := by
  have hg : Grew w (w.alloc (.cells #[I n, .slice A l.length c] 25)) := below_alloc (Grew.refl w) _
  have hB : CB (w.alloc (.cells #[I n, .slice A l.length c] 25)) w.heap.size n (.slice A l.length c) := blk_new w _
  have H := Aside0.mk (complexCode_calls true n A c l 70 #[] #[] _ (hk.later hg) (enters_of Try.func70 (by kernel_rfl) rfl) (fun _ => always_answers _))
  have HK := Aside0.mk hk
  have HG := Aside0.mk hg
  have HB := Aside0.mk hB
  clear hk hg hB
  cases hi : isC n l with
  | false =>
    have HV : Aside0 (codeOf n l true = 1) := ⟨by simp [codeOf, hi]⟩
    rw [HV.out] at H ⊢
    clear hi
    go_enter Try.func45, Try.ntmps45
    go_wp2_with fail
    refine H.out.mono ?_
    rintro e w1 ⟨rfl, hG1⟩
    go_wp2_with fail
    go_ret2
    exact ⟨_, rfl, Kd.R_nil _ _ _ _ _, Grew.trans HG.out hG1⟩
  | true =>
    have HV : Aside0 (codeOf n l true = 0) := ⟨by simp [codeOf, hi]⟩
    rw [HV.out] at H ⊢
    clear hi
    go_enter Try.func45, Try.ntmps45
    go_wp2_with fail
    refine H.out.mono ?_
    rintro e w1 ⟨rfl, hG1⟩
    have HG1 := Aside0.mk (Grew.trans HG.out hG1)
    have k0 := (CB.later HB.out hG1).c0
    have k1 := (CB.later HB.out hG1).c1
    have H2 := Aside0.mk (facets_calls n A c l w1 (HK.out.later HG1.out) hl)
    clear hG1
    go_wp2_with fail
    refine H2.out.mono ?_
    rintro e w2 ⟨v, rfl, hR2, hG2⟩
    go_wp2_with fail
    go_ret2
    exact ⟨_, rfl, Kd.R_lower hR2 HG1.out.size, Grew.trans HG1.out hG2⟩

end Go.Proofs.Ytoeapnempdgagaa.K
end

section
/- FacetsOf in the form that the printed law takes. -/
namespace Go.Proofs.Ytoeapnempdgagaa.X
open Go.RowKit Go.Shelf Go.Proofs.Ytoeapnempdgagaa.K Go.Proofs.YtoeapnempdgagaaW.PrintWords Go.Proofs.YtoeapnempdgagaaW.PrintLast Go.Proofs.YtoeapnempdgagaaW.PrintMore
set_option linter.unusedVariables false
set_option linter.unusedSimpArgs false

def impl_FacetsOf.f (a0_0 : Int) (l0_1 : List Int) : Option (List Int × Int) := if l0_1.length ≤ 2097152 then some (((if isC a0_0 l0_1 = true then facetsL l0_1 else []), codeOf a0_0 l0_1 true)) else none
theorem impl_FacetsOf.calls (a0_0 : Int) (A0_1 : Option Addr) (c0_1 : Nat) (l0_1 : List Int) (r1 : List Int) (r2 : Int) (w : World) (hr0_1 : Kd.C (Kd.int .i64) w A0_1 l0_1.length l0_1) (hc0_1 : l0_1.length ≤ c0_1) (h : impl_FacetsOf.f a0_0 l0_1 = some (r1, r2)) :
    Calls Try.prog 45 #[.agg #[.int .i64 a0_0, .slice A0_1 l0_1.length c0_1]] w fun e w' => ∃ v0_ : Value, e = .returned (.tuple #[v0_, .int .i64 r2]) ∧ Kd.R (Kd.int .i64) 2 w' w.heap.size (fun _ => True) v0_ r1 ∧ Below w.heap.size w w' := by
  unfold impl_FacetsOf.f at h
  by_cases hl : l0_1.length ≤ 2097152
  · rw [if_pos hl] at h
    injection h with h
    have H := FacetsOf_calls a0_0 A0_1 c0_1 l0_1 w ⟨hr0_1, hc0_1, by omega⟩ (by omega)
    obtain ⟨h1, h2⟩ := Prod.mk.inj h
    rw [h1, h2] at H
    exact H
  · rw [if_neg hl] at h
    cases h

end Go.Proofs.Ytoeapnempdgagaa.X
end

section
/- Written by a program of this session (myprint.py over the kit's print). -/
namespace Go.Proofs.Ytoeapnempdgagaa.RB
open Go.RowKit Go.Proofs.Ytoeapnempdgagaa.Q Go.Proofs.Ytoeapnempdgagaa.X Go.Proofs.YtoeapnempdgagaaW.PrintWords Go.Proofs.YtoeapnempdgagaaW.PrintLast Go.Proofs.YtoeapnempdgagaaW.PrintMore
attribute [local go_sem] max2_int min2_int max_two min_two max_three min_three max_four min_four   -- for this text's walks alone
set_option linter.unusedVariables false
set_option linter.unusedSimpArgs false



def errW : Option Int → Value
  | none => .nilIface
  | some c => .iface 0 (.int .i64 c)
theorem errW_none : errW none = .nilIface := rfl
theorem errW_some (c : Int) : errW (some c) = .iface 0 (.int .i64 c) := rfl

-- the values' own types

end Go.Proofs.Ytoeapnempdgagaa.RB
end

section
/- The reference's numbers of vertices, dimensions, Euler numbers. -/
namespace Go.Proofs.Ytoeapnempdgagaa.K
open Go.RowKit Go.Shelf Go.Proofs.Ytoeapnempdgagaa.Q Go.Proofs.YtoeapnempdgagaaW.PrintWords Go.Proofs.YtoeapnempdgagaaW.PrintLast Go.Proofs.YtoeapnempdgagaaW.PrintMore
set_option linter.unusedVariables false
set_option linter.unusedSimpArgs false

theorem specOnes_64 : ∀ m : Fin 64, spec_l01Ones.f 8 (m.val : Int) = some (onesI (m.val : Int)) := by decide +kernel
theorem specOnes_is (f : Int) (h1 : 0 ≤ f) (h2 : f ≤ 63) (k : Nat) (hk : 8 ≤ k) : spec_l01Ones.f k f = some (onesI f) := by
  obtain ⟨m, rfl⟩ := Int.eq_ofNat_of_zero_le h1
  exact at_rounds (fun k => spec_l01Ones.mono _ k) hk (specOnes_64 ⟨m, by omega⟩)
theorem ones_64 : ∀ m : Fin 64, m.val ≠ 0 → 1 ≤ onesI (m.val : Int) ∧ onesI (m.val : Int) ≤ 6 := by decide +kernel
theorem ones_range (f : Int) (h1 : 1 ≤ f) (h2 : f ≤ 63) : 1 ≤ onesI f ∧ onesI f ≤ 6 := by
  obtain ⟨m, rfl⟩ := Int.eq_ofNat_of_zero_le (show 0 ≤ f by omega)
  exact ones_64 ⟨m, by omega⟩ (by show m ≠ 0; omega)

end Go.Proofs.Ytoeapnempdgagaa.K
end
