/- The row of the law FnExactCountCycles: for every input the law answers true, and the arguments read as before. No conditions. -/
import Derived.Test.YthganpmmhfoodaaJ4
import Derived.Below
import Derived.Deep.Draws
import Derived.Deep.AppendLies
import Derived.Maps.AppendAt
import Derived.OwnWalk
import Derived.Laws.BytesArg
import Derived.Laws.MakeOwn
import Derived.Laws.OwnMore
import Derived.Deep.OwnRows
import Derived.Tactics
import Derived.Lib.ConvBytes
import Derived.Laws.Slices
import Derived.WalkKit
import Derived.KernelRfl
import Derived.RowKit3
import Derived.Deep.LoopGhost
import Derived.Deep.QuietTactic
import Derived.BigQuiet
import Derived.WideLaws
import Derived.Deep.DeepCutAuto
import Derived.Deep.CutBlock
import Derived.Deep.RegionHeld3
import Derived.Laws.Rows
import Derived.Lib.AppendStr
import Derived.ArgAppend
import Derived.Laws.IdiomCopy
import Derived.RowKit
import Derived.OrdersHeld
import Derived.Laws.BitsLemmas
import Derived.Laws.StructEq
import Derived.Test.YthganpmmhfoodaaProg
import Derived.Shelf.Abstract
import Derived.Lib.SliceRun
import Derived.RangeFuncBox
import Derived.RangeFuncLeaves
import Derived.OwnWalkIn
import Derived.TacticsInMore
import Derived.LoopNIn
import Derived.LoopIn
import Derived.Test.YthganpmmhfoodaaRows
import Derived.ProofKit
import Derived.OpenShut
import Derived.ShutString
import Derived.ChangeOld
import Derived.SizedLaws
import Derived.Lib.SmallJoins
section
/- Written by a program of this session (myprint.py over the kit's print). -/
namespace Go.Proofs.Ythganpmmhfoodaa.Q
open Go.RowKit Go.Proofs.YthganpmmhfoodaaW.PrintWords Go.Proofs.YthganpmmhfoodaaW.PrintLast Go.Proofs.YthganpmmhfoodaaW.PrintMore
attribute [local go_sem] max2_int min2_int max_two min_two max_three min_three max_four min_four   -- for this text's walks alone
set_option linter.unusedVariables false
set_option linter.unusedSimpArgs false

/-! ### impl_reduced: function 111 -/
def impl_reduced.l0 : Nat → Int → List Int → Int → Int → Option (Int)
  | 0, _, _, _, _ => none
  | k + 1, x0, x7, x8, x9 => if x9 < x8 then (if 0 ≤ x9 then (if x9 < (x7.length : Int) then (impl_reduced.l0 k (mn x0 (Go.bits .xor .u64 x0 (rd x7 x9))) x7 x8 (wrap64 (x9 + 1))) else (none)) else (none)) else (some x0)
def impl_reduced.f (k : Nat) (a0 : Int) (l1 : List Int) : Option (Int) := impl_reduced.l0 k a0 l1 (l1.length : Int) 0
theorem impl_reduced.mono_l : ∀ k, (∀ y0 y1 y2 y3, LeO (impl_reduced.l0 k y0 y1 y2 y3) (impl_reduced.l0 (k + 1) y0 y1 y2 y3))
  | 0 => fun _ _ _ _ r h => by simp [impl_reduced.l0] at h
  | k + 1 => by
    have ih0 := impl_reduced.mono_l k
    · intro y0 y1 y2 y3
      unfold impl_reduced.l0
      repeat' first
      | (with_reducible exact ih0 _ _ _ _)
      | (with_reducible exact LeO.refl _)
      | (with_reducible exact LeO.none _)
      | (with_reducible refine LeO.ite ?_ ?_)
      | (with_reducible refine LeO.bind ?_ (fun _ => ?_))
      | exact ih0 _ _ _ _
      | exact LeO.none _
      | refine LeO.ite ?_ ?_
      | refine LeO.bind ?_ (fun _ => ?_)
theorem impl_reduced.mono : ∀ a0 a1 k, LeO (impl_reduced.f k a0 a1) (impl_reduced.f (k + 1) a0 a1) := by
  intro a0 a1 k
  have ih0 := impl_reduced.mono_l k
  unfold impl_reduced.f
  repeat' first
      | (with_reducible exact ih0 _ _ _ _)
      | (with_reducible exact LeO.refl _)
      | (with_reducible exact LeO.none _)
      | (with_reducible refine LeO.ite ?_ ?_)
      | (with_reducible refine LeO.bind ?_ (fun _ => ?_))
      | exact ih0 _ _ _ _
      | exact LeO.none _
      | refine LeO.ite ?_ ?_
      | refine LeO.bind ?_ (fun _ => ?_)
set_option maxHeartbeats 8000000 in
set_option maxRecDepth 100000 in
theorem impl_reduced.calls (k : Nat) (a0 : Int) (A1 : Option Addr) (c1 : Nat) (l1 : List Int) (r : Int) (w : World) (hr1 : Kd.C (Kd.int .u64) w A1 l1.length l1) (hc1 : l1.length ≤ c1) (h : impl_reduced.f k a0 l1 = some r) :
    Calls Try.prog 111 #[.int .u64 a0, .slice A1 l1.length c1] w fun e w' => e = .returned (.int .u64 r) ∧ Below w.heap.size w w' := by
  have HR1 := Aside0.mk hr1
  have HC1 := Aside0.mk hc1
  clear hr1 hc1
  have HB := Aside0.mk (Below.refl w.heap.size w)
  have H : (impl_reduced.l0 k a0 l1 (l1.length : Int) 0) = some r := h
  clear h
  have H' := Aside0.mk H
  clear H
  go_enter Try.func111, Try.ntmps111
  go_wp2
  go_loopg [0, 9] k (fun kq v0 v9 w' => ∃ (x0_1 : Int) (x9_1 : Int), v0 = .int .u64 x0_1 ∧ v9 = .int .i64 x9_1 ∧ Aside0 (impl_reduced.l0 kq x0_1 l1 (l1.length : Int) x9_1 = some r) ∧ Aside0 (kq ≤ k) ∧ Aside0 (Below w.heap.size w w'))
  case atStart => exact ⟨(a0), (0), (by first | rfl | (simp; done) | (simp [*]; done)), (by first | rfl | (simp; done) | (simp [*]; done)), H', ⟨Nat.le_refl _⟩, ⟨by repeat (first | (with_reducible first | exact HB.out | apply below_alloc | apply pw_below_drewN | apply below_drew1) | exact HB.out)⟩⟩
  case round =>
    clear H'
    try clear c1
    try clear p2
    obtain ⟨x0_1, x9_1, rfl, rfl, HA, HK1, HB⟩ := hrel
    cases gk with
    | zero => exact absurd HA.out (by simp [impl_reduced.l0])
    | succ k1 =>
      have H := HA.out
      clear HA
      simp only [impl_reduced.l0] at H
      by_cases c3 : x9_1 < (l1.length : Int)
      · rw [if_pos c3] at H
        have c3b0 : decide (x9_1 < (l1.length : Int)) = true := decide_eq_true c3
        clear c3
        by_cases c4 : 0 ≤ x9_1
        · rw [if_pos c4] at H
          have c4b0 : decide (0 ≤ x9_1) = true := decide_eq_true c4
          clear c4
          by_cases c5 : x9_1 < (l1.length : Int)
          · rw [if_pos c5] at H
            have c5b0 : decide (x9_1 < (l1.length : Int)) = true := decide_eq_true c5
            clear c5
            obtain ⟨ji6, hji6⟩ : ∃ j_ : Int, (mn x0_1 (Go.bits .xor .u64 x0_1 (rd l1 x9_1))) = j_ := ⟨_, rfl⟩
            replace H : (impl_reduced.l0 k1 ji6 l1 (l1.length : Int) (wrap64 (x9_1 + 1))) = some r := by first | (rw [hji6] at H; exact H) | (simp only [hji6] at H ⊢; exact H)
            have hji6_ : (if (Go.bits .xor .u64 x0_1 (rd l1 x9_1)) < x0_1 then (Go.bits .xor .u64 x0_1 (rd l1 x9_1)) else x0_1) = ji6 := hji6
            have H' := Aside0.mk H
            clear H
            have p375 : 0 ≤ (x9_1 : Int) := of_decide_eq_true (by first | (with_reducible assumption) | assumption)
            have q375 : x9_1 < (l1.length : Int) := of_decide_eq_true (by first | (with_reducible assumption) | assumption)
            obtain ⟨ad375, e375, hx375_0⟩ := Kd.at_int HR1.out x9_1 p375 q375
            cases e375
            replace hx375_0 := (HB.out.cell (World.block_lt_of_cell? w _ hx375_0)).trans hx375_0
            replace p375 := eq_true p375
            replace q375 := eq_true q375
            go_wp2
            go_roundg k1
            case measure => have := HK1.out; omega
            case rel => exact ⟨(ji6), (wrap64 (x9_1 + 1)), (by first | rfl | (simp; done) | (simp only [← hji6] <;> (first | rfl | simp)) | (simp [*]; done)), (by first | rfl | (simp; done) | (simp [*]; done)), H', ⟨by have := HK1.out; omega⟩, ⟨by repeat (first | (with_reducible first | exact HB.out | apply below_alloc | apply pw_below_drewN | apply below_drew1) | exact HB.out)⟩⟩
          · rw [if_neg c5] at H
            exact absurd H (by simp)
        · rw [if_neg c4] at H
          exact absurd H (by simp)
      · rw [if_neg c3] at H
        have c3b0 : decide (x9_1 < (l1.length : Int)) = false := decide_eq_false c3
        clear c3
        obtain rfl := Option.some.inj H
        go_wp2
        go_ret
        exact ⟨by first | rfl | (simp [errW_none, errW_some] <;> rfl) | (simp [*, errW_none, errW_some] <;> rfl), by repeat (first | (with_reducible first | exact HB.out | apply below_alloc | apply pw_below_drewN | apply below_drew1) | exact HB.out)⟩

/-! ### impl_chain_131: function 131 -/
def impl_chain_131.f (a0 : Int) : Option (Bool) := some (a0 != a0)
set_option maxHeartbeats 8000000 in
set_option maxRecDepth 100000 in
theorem impl_chain_131.calls (a0 : Int) (r : Bool) (w : World) (h : impl_chain_131.f a0 = some r) :
    Calls Try.prog 131 #[.int .u64 a0] w fun e w' => e = .returned (.bool r) ∧ Drawn0 w w' := by
  have H : (some (a0 != a0)) = some r := h
  clear h
  obtain rfl := Option.some.inj H
  go_enter Try.func131, Try.ntmps131
  go_wp2
  go_ret
  exact ⟨by first | rfl | (simp; done) | (simp [*]; done), by repeat (first | exact Drawn0.refl _ | apply Drawn0.step)⟩

/-! ### impl_chain_126: function 126 -/
def impl_chain_126.f (a0 : Int) (a1 : Int) : Option (Int) := (impl_chain_131.f a0).bind fun t376 => ((impl_chain_131.f a1).bind fun t377 => (if t376 = true then (if t377 = true then (some 0) else (some (-1))) else (if t377 = true then (some 1) else (if a0 < a1 then (some (-1)) else (if a0 > a1 then (some 1) else (some 0))))))
set_option maxHeartbeats 8000000 in
set_option maxRecDepth 100000 in
theorem impl_chain_126.calls (a0 : Int) (a1 : Int) (r : Int) (w : World) (h : impl_chain_126.f a0 a1 = some r) :
    Calls Try.prog 126 #[.int .u64 a0, .int .u64 a1] w fun e w' => e = .returned (.int .i64 r) ∧ Drawn0 w w' := by
  have H : ((impl_chain_131.f a0).bind fun t376 => ((impl_chain_131.f a1).bind fun t377 => (if t376 = true then (if t377 = true then (some 0) else (some (-1))) else (if t377 = true then (some 1) else (if a0 < a1 then (some (-1)) else (if a0 > a1 then (some 1) else (some 0))))))) = some r := h
  clear h
  replace H := Option.bind_eq_some_iff.mp H
  obtain ⟨t376, A30, H⟩ := H
  replace H : ((impl_chain_131.f a1).bind fun t377 => (if t376 = true then (if t377 = true then (some 0) else (some (-1))) else (if t377 = true then (some 1) else (if a0 < a1 then (some (-1)) else (if a0 > a1 then (some 1) else (some 0)))))) = some r := H
  have A3 := Aside0.mk A30
  clear A30
  replace H := Option.bind_eq_some_iff.mp H
  obtain ⟨t377, A40, H⟩ := H
  replace H : (if t376 = true then (if t377 = true then (some 0) else (some (-1))) else (if t377 = true then (some 1) else (if a0 < a1 then (some (-1)) else (if a0 > a1 then (some 1) else (some 0))))) = some r := H
  have A4 := Aside0.mk A40
  clear A40
  by_cases c5 : t376 = true
  · subst c5
    have H1 : (if t377 = true then (some 0) else (some (-1))) = some r := by rw [if_pos rfl] at H; exact H
    clear H
    have H := H1
    clear H1
    by_cases c6 : t377 = true
    · subst c6
      have H1 : (some 0) = some r := by rw [if_pos rfl] at H; exact H
      clear H
      have H := H1
      clear H1
      obtain rfl := Option.some.inj H
      go_enter Try.func126, Try.ntmps126
      go_wp2_with (first | ((with_reducible refine gate_callee (f := 131) rfl ?_); refine goesL_ (some 8) rfl rfl Try.func131 (by kernel_rfl) rfl #[.int .u64 a0] rfl (by (try simp only [List.map_toArray, List.map_cons, List.map_nil]); first | done | rfl | (simp only [List.length_drop, List.length_take]; rfl)) ?_; (with_reducible refine (impl_chain_131.calls a0 true _ A3.out).mono ?_); rintro e w' ⟨rfl, ⟨nd, rfl⟩⟩; refine ⟨_, rfl, ?_⟩) | ((with_reducible refine gate_callee (f := 131) rfl ?_); refine goesL_ (some 10) rfl rfl Try.func131 (by kernel_rfl) rfl #[.int .u64 a1] rfl (by (try simp only [List.map_toArray, List.map_cons, List.map_nil]); first | done | rfl | (simp only [List.length_drop, List.length_take]; rfl)) ?_; (with_reducible refine (impl_chain_131.calls a1 true _ A4.out).mono ?_); rintro e w' ⟨rfl, ⟨nd, rfl⟩⟩; refine ⟨_, rfl, ?_⟩))
      go_ret
      exact ⟨by first | rfl | (simp; done) | (simp [*]; done), by repeat (first | exact Drawn0.refl _ | apply Drawn0.step)⟩
    · replace c6 := Bool.eq_false_iff.mpr c6
      subst c6
      have H1 : (some (-1)) = some r := by rw [if_neg (show ¬ (false = true) by decide)] at H; exact H
      clear H
      have H := H1
      clear H1
      obtain rfl := Option.some.inj H
      go_enter Try.func126, Try.ntmps126
      go_wp2_with (first | ((with_reducible refine gate_callee (f := 131) rfl ?_); refine goesL_ (some 8) rfl rfl Try.func131 (by kernel_rfl) rfl #[.int .u64 a0] rfl (by (try simp only [List.map_toArray, List.map_cons, List.map_nil]); first | done | rfl | (simp only [List.length_drop, List.length_take]; rfl)) ?_; (with_reducible refine (impl_chain_131.calls a0 true _ A3.out).mono ?_); rintro e w' ⟨rfl, ⟨nd, rfl⟩⟩; refine ⟨_, rfl, ?_⟩) | ((with_reducible refine gate_callee (f := 131) rfl ?_); refine goesL_ (some 10) rfl rfl Try.func131 (by kernel_rfl) rfl #[.int .u64 a1] rfl (by (try simp only [List.map_toArray, List.map_cons, List.map_nil]); first | done | rfl | (simp only [List.length_drop, List.length_take]; rfl)) ?_; (with_reducible refine (impl_chain_131.calls a1 false _ A4.out).mono ?_); rintro e w' ⟨rfl, ⟨nd, rfl⟩⟩; refine ⟨_, rfl, ?_⟩))
      go_ret
      exact ⟨by first | rfl | (simp; done) | (simp [*]; done), by repeat (first | exact Drawn0.refl _ | apply Drawn0.step)⟩
  · replace c5 := Bool.eq_false_iff.mpr c5
    subst c5
    have H1 : (if t377 = true then (some 1) else (if a0 < a1 then (some (-1)) else (if a0 > a1 then (some 1) else (some 0)))) = some r := by rw [if_neg (show ¬ (false = true) by decide)] at H; exact H
    clear H
    have H := H1
    clear H1
    by_cases c7 : t377 = true
    · subst c7
      have H1 : (some 1) = some r := by rw [if_pos rfl] at H; exact H
      clear H
      have H := H1
      clear H1
      obtain rfl := Option.some.inj H
      go_enter Try.func126, Try.ntmps126
      go_wp2_with (first | ((with_reducible refine gate_callee (f := 131) rfl ?_); refine goesL_ (some 8) rfl rfl Try.func131 (by kernel_rfl) rfl #[.int .u64 a0] rfl (by (try simp only [List.map_toArray, List.map_cons, List.map_nil]); first | done | rfl | (simp only [List.length_drop, List.length_take]; rfl)) ?_; (with_reducible refine (impl_chain_131.calls a0 false _ A3.out).mono ?_); rintro e w' ⟨rfl, ⟨nd, rfl⟩⟩; refine ⟨_, rfl, ?_⟩) | ((with_reducible refine gate_callee (f := 131) rfl ?_); refine goesL_ (some 10) rfl rfl Try.func131 (by kernel_rfl) rfl #[.int .u64 a1] rfl (by (try simp only [List.map_toArray, List.map_cons, List.map_nil]); first | done | rfl | (simp only [List.length_drop, List.length_take]; rfl)) ?_; (with_reducible refine (impl_chain_131.calls a1 true _ A4.out).mono ?_); rintro e w' ⟨rfl, ⟨nd, rfl⟩⟩; refine ⟨_, rfl, ?_⟩))
      go_ret
      exact ⟨by first | rfl | (simp; done) | (simp [*]; done), by repeat (first | exact Drawn0.refl _ | apply Drawn0.step)⟩
    · replace c7 := Bool.eq_false_iff.mpr c7
      subst c7
      have H1 : (if a0 < a1 then (some (-1)) else (if a0 > a1 then (some 1) else (some 0))) = some r := by rw [if_neg (show ¬ (false = true) by decide)] at H; exact H
      clear H
      have H := H1
      clear H1
      by_cases c8 : a0 < a1
      · rw [if_pos c8] at H
        have c8b0 : decide (a0 < a1) = true := decide_eq_true c8
        clear c8
        obtain rfl := Option.some.inj H
        go_enter Try.func126, Try.ntmps126
        go_wp2_with (first | ((with_reducible refine gate_callee (f := 131) rfl ?_); refine goesL_ (some 8) rfl rfl Try.func131 (by kernel_rfl) rfl #[.int .u64 a0] rfl (by (try simp only [List.map_toArray, List.map_cons, List.map_nil]); first | done | rfl | (simp only [List.length_drop, List.length_take]; rfl)) ?_; (with_reducible refine (impl_chain_131.calls a0 false _ A3.out).mono ?_); rintro e w' ⟨rfl, ⟨nd, rfl⟩⟩; refine ⟨_, rfl, ?_⟩) | ((with_reducible refine gate_callee (f := 131) rfl ?_); refine goesL_ (some 10) rfl rfl Try.func131 (by kernel_rfl) rfl #[.int .u64 a1] rfl (by (try simp only [List.map_toArray, List.map_cons, List.map_nil]); first | done | rfl | (simp only [List.length_drop, List.length_take]; rfl)) ?_; (with_reducible refine (impl_chain_131.calls a1 false _ A4.out).mono ?_); rintro e w' ⟨rfl, ⟨nd, rfl⟩⟩; refine ⟨_, rfl, ?_⟩))
        go_ret
        exact ⟨by first | rfl | (simp; done) | (simp [*]; done), by repeat (first | exact Drawn0.refl _ | apply Drawn0.step)⟩
      · rw [if_neg c8] at H
        have c8b0 : decide (a0 < a1) = false := decide_eq_false c8
        clear c8
        by_cases c9 : a0 > a1
        · rw [if_pos c9] at H
          have c9b0 : decide (a1 < a0) = true := decide_eq_true c9
          clear c9
          obtain rfl := Option.some.inj H
          go_enter Try.func126, Try.ntmps126
          go_wp2_with (first | ((with_reducible refine gate_callee (f := 131) rfl ?_); refine goesL_ (some 8) rfl rfl Try.func131 (by kernel_rfl) rfl #[.int .u64 a0] rfl (by (try simp only [List.map_toArray, List.map_cons, List.map_nil]); first | done | rfl | (simp only [List.length_drop, List.length_take]; rfl)) ?_; (with_reducible refine (impl_chain_131.calls a0 false _ A3.out).mono ?_); rintro e w' ⟨rfl, ⟨nd, rfl⟩⟩; refine ⟨_, rfl, ?_⟩) | ((with_reducible refine gate_callee (f := 131) rfl ?_); refine goesL_ (some 10) rfl rfl Try.func131 (by kernel_rfl) rfl #[.int .u64 a1] rfl (by (try simp only [List.map_toArray, List.map_cons, List.map_nil]); first | done | rfl | (simp only [List.length_drop, List.length_take]; rfl)) ?_; (with_reducible refine (impl_chain_131.calls a1 false _ A4.out).mono ?_); rintro e w' ⟨rfl, ⟨nd, rfl⟩⟩; refine ⟨_, rfl, ?_⟩))
          go_ret
          exact ⟨by first | rfl | (simp; done) | (simp [*]; done), by repeat (first | exact Drawn0.refl _ | apply Drawn0.step)⟩
        · rw [if_neg c9] at H
          have c9b0 : decide (a1 < a0) = false := decide_eq_false c9
          clear c9
          obtain rfl := Option.some.inj H
          go_enter Try.func126, Try.ntmps126
          go_wp2_with (first | ((with_reducible refine gate_callee (f := 131) rfl ?_); refine goesL_ (some 8) rfl rfl Try.func131 (by kernel_rfl) rfl #[.int .u64 a0] rfl (by (try simp only [List.map_toArray, List.map_cons, List.map_nil]); first | done | rfl | (simp only [List.length_drop, List.length_take]; rfl)) ?_; (with_reducible refine (impl_chain_131.calls a0 false _ A3.out).mono ?_); rintro e w' ⟨rfl, ⟨nd, rfl⟩⟩; refine ⟨_, rfl, ?_⟩) | ((with_reducible refine gate_callee (f := 131) rfl ?_); refine goesL_ (some 10) rfl rfl Try.func131 (by kernel_rfl) rfl #[.int .u64 a1] rfl (by (try simp only [List.map_toArray, List.map_cons, List.map_nil]); first | done | rfl | (simp only [List.length_drop, List.length_take]; rfl)) ?_; (with_reducible refine (impl_chain_131.calls a1 false _ A4.out).mono ?_); rintro e w' ⟨rfl, ⟨nd, rfl⟩⟩; refine ⟨_, rfl, ?_⟩))
          go_ret
          exact ⟨by first | rfl | (simp; done) | (simp [*]; done), by repeat (first | exact Drawn0.refl _ | apply Drawn0.step)⟩

/-! ### impl_length_int64: function 75 -/
def impl_length_int64.f (l0 : List Int) : Option (Int) := some (l0.length : Int)
set_option maxHeartbeats 8000000 in
set_option maxRecDepth 100000 in
theorem impl_length_int64.calls (A0 : Option Addr) (c0 : Nat) (l0 : List Int) (r : Int) (w : World) (hr0 : Kd.C (Kd.int .i64) w A0 l0.length l0) (hc0 : l0.length ≤ c0) (h : impl_length_int64.f l0 = some r) :
    Calls Try.prog 75 #[.slice A0 l0.length c0] w fun e w' => e = .returned (.int .i64 r) ∧ Drawn0 w w' := by
  have HR0 := Aside0.mk hr0
  have HC0 := Aside0.mk hc0
  clear hr0 hc0
  have H : (some (l0.length : Int)) = some r := h
  clear h
  obtain rfl := Option.some.inj H
  go_enter Try.func75, Try.ntmps75
  go_wp2
  go_ret
  exact ⟨by first | rfl | (simp; done) | (simp [*]; done), by repeat (first | exact Drawn0.refl _ | apply Drawn0.step)⟩

end Go.Proofs.Ythganpmmhfoodaa.Q
end

section
/- CountCycles. -/
namespace Go.Proofs.Ythganpmmhfoodaa.K
open Go.RowKit Go.Shelf Go.Proofs.Ythganpmmhfoodaa.Q Go.Proofs.YthganpmmhfoodaaW.PrintWords Go.Proofs.YthganpmmhfoodaaW.PrintLast Go.Proofs.YthganpmmhfoodaaW.PrintMore
set_option linter.unusedVariables false
set_option linter.unusedSimpArgs false

set_option maxHeartbeats 1000000 in
theorem CountCycles1_calls (d : Int) {B : Nat} (w : World) (hb : w.cell? ⟨B, 0, none⟩ = some (I d)) :
    Calls Try.prog 74 #[.pointer (some ⟨B, 0, none⟩)] w fun e w' => e = .returned (.bool (decide (0 ≤ d ∧ d ≤ 5))) ∧ Grew w w' := by
  have H := Aside0.mk (isDim_calls d w)
  generalize decide (0 ≤ d ∧ d ≤ 5) = r at H ⊢
  go_enter Try.func74, Try.ntmps74
  go_wp2_with fail
  refine H.out.mono ?_
  rintro e w1 ⟨rfl, hG1⟩
  go_wp2_with fail
  go_ret
  exact ⟨rfl, hG1⟩
theorem length_calls (A : Option Addr) (c : Nat) (l : List Int) (w : World) (hr : Ki.C w A l.length l) (hc : l.length ≤ c) :
    Calls Try.prog 75 #[.slice A l.length c] w fun e w' => e = .returned (I (l.length : Int)) ∧ Grew w w' :=
  (impl_length_int64.calls A c l _ w hr hc rfl).mono fun e w' ⟨he, hd⟩ => ⟨he, hd.below⟩

set_option maxRecDepth 100000 in
set_option maxHeartbeats 4000000 in
theorem CountCycles_calls (n : Int) (A : Option Addr) (c : Nat) (l : List Int) (d : Int) (w : World) (hk : Kx w A c l) :
    Calls Try.prog 35 #[.agg #[I n, .slice A l.length c], I d] w fun e w' => e = .returned (.tuple #[I (if (codeOf n l (decide (0 ≤ d ∧ d ≤ 5))) = 0 then (shl .i64 1 (((ofL l d).length : Int) - rankL l d 2)) else 0), I (if (codeOf n l (decide (0 ≤ d ∧ d ≤ 5))) = 0 then (shl .i64 1 (rankL l (d + 1) 2)) else 0), I (codeOf n l (decide (0 ≤ d ∧ d ≤ 5)))]) ∧ Grew w w' := by
  obtain ⟨W3, hW3⟩ : ∃ W3, W3 = ((w.alloc (.cells #[I n, .slice A l.length c] 28)).alloc (.cells #[I d] 2)) := ⟨_, rfl⟩
  have hB : CB W3 w.heap.size n (.slice A l.length c) := by rw [hW3]; exact blk_alloc (blk_new w _) _
  have hFd : W3.heap[w.heap.size + 1]? = some (.cells #[I d] 2 (0, 0)) := by
    rw [hW3]
    have := blk_new (w.alloc (.cells #[I n, .slice A l.length c] 28)) (.cells #[I d] 2)
    rwa [World.size_alloc] at this
  have hg : Grew w W3 := by rw [hW3]; exact below_alloc (below_alloc (Grew.refl w) _) _
  have H := Aside0.mk (complexCode_calls (decide (0 ≤ d ∧ d ≤ 5)) n A c l 74 #[] #[.pointer (some ⟨w.heap.size + 1, 0, none⟩)] W3 (hk.later hg) (enters_of Try.func74 (by kernel_rfl) rfl)
    (fun hi W hW => by
      have := CountCycles1_calls d W (blk_cell (blk_below hFd hW) 0)
      rw [Array.empty_append]
      exact this))
  have k_0 := hB.c0
  have k_1 := hB.c1
  have d_0 : W3.cell? ⟨w.heap.size + 1, 0, none⟩ = some (I d) := blk_cell hFd 0
  have HK := Aside0.mk hk
  have HB := Aside0.mk hB
  have HG := Aside0.mk hg
  have HFd := Aside0.mk hFd
  clear hk hB hg hFd
  obtain ⟨cc, hcc⟩ : ∃ cc, cc = codeOf n l (decide (0 ≤ d ∧ d ≤ 5)) := ⟨_, rfl⟩
  rw [← hcc] at H ⊢
  by_cases hz : cc = 0
  · subst hz
    have hb := codeOf_zero hcc.symm
    have HI := Aside0.mk hb.1
    have HBt : Aside0 ((decide (0 ≤ d ∧ d ≤ 5)) = true) := ⟨hb.2⟩
    have HZ := Aside0.mk hcc
    have hx0 : ∀ {α : Type} (a b : α), (if (0 : Int) = 0 then a else b) = a := fun a b => if_pos rfl
    simp only [hx0]
    clear hcc hb hx0
    subst hW3
    go_enter Try.func35, Try.ntmps35
    go_wp2_with fail
    refine H.out.mono ?_
    rintro e w1 ⟨rfl, hG1⟩
    have HB1 : Aside0 (CB w1 w.heap.size n (.slice A l.length c)) := ⟨blk_below HB.out hG1⟩
    have HFd1 : Aside0 (w1.heap[w.heap.size + 1]? = some (.cells #[I d] 2 (0, 0))) := ⟨blk_below HFd.out hG1⟩
    have HG1 := Aside0.mk (Grew.trans HG.out hG1)
    clear hG1 k_0 k_1 d_0
    have k_0 := HB1.out.c0
    have k_1 := HB1.out.c1
    have d_0 : w1.cell? ⟨w.heap.size + 1, 0, none⟩ = some (I d) := blk_cell HFd1.out 0
    have hb := HBt.out
    rw [decide_eq_true_eq] at hb
    have hf := isC_faces HI.out
    have HF := Aside0.mk (isC_of HI.out)
    have H1 := Aside0.mk (fun W (h : Kx W A c l) => of_calls n A c l d W h (by omega) HF.out)
    obtain ⟨rk, hrk⟩ : ∃ rk : Int → Int, rk = fun x => rankL l x 2 := ⟨_, rfl⟩
    have HRK := Aside0.mk (fun W x (h0 : x = d ∨ x = d + 1) (h : Kx W A c l) => rank_calls n A c l x 2 W h HI.out (by omega) (by omega))
    have e1 : ∀ x, rankL l x 2 = rk x := fun x => by rw [hrk]
    have hr1 := rankL_range l d 2 (by omega)
    have hr2 := betti_rng HI.out (d + 1) 2 (by omega)
    have ho := of_length l d
    have hl63 := hf.2.2.2
    simp only [e1] at HRK hr1 hr2
    have HE1 := Aside0.mk e1
    obtain ⟨F, hF⟩ : ∃ F, F = ofL l d := ⟨_, rfl⟩
    rw [← hF] at H1 hr1 ho
    have HF0 := Aside0.mk hF
    clear e1 hrk hf hF
    have hw1 : IntKind.i64.wrap ((F.length : Int) - rk d) = (F.length : Int) - rk d := i64w _ (by omega)
    have hw2 : IntKind.i64.wrap (d + 1) = d + 1 := i64w _ (by omega)
    have hsh1 : (0 : Int) ≤ (F.length : Int) - rk d := by omega
    have hsh1' : ¬ ((F.length : Int) - rk d < 0) := by omega
    have hsh2 : (0 : Int) ≤ rk (d + 1) := hr2.1
    have hsh2' : ¬ (rk (d + 1) < 0) := by omega
    have hs1 : ∀ W : World, (Op.shift .shl .i64 1 .i64 ((F.length : Int) - rk d)).run Try.prog W = .ok (.int .i64 (shl .i64 1 ((F.length : Int) - rk d))) W := fun W => by unfold Op.shift; rw [if_neg hsh1']; rfl
    have hs2 : ∀ W : World, (Op.shift .shl .i64 1 .i64 (rk (d + 1))).run Try.prog W = .ok (.int .i64 (shl .i64 1 (rk (d + 1)))) W := fun W => by unfold Op.shift; rw [if_neg hsh2']; rfl
    have hlk : w.heap.size < w1.heap.size := World.block_lt_of_cell? w1 _ k_0
    have hld : w.heap.size + 1 < w1.heap.size := World.block_lt_of_cell? w1 _ d_0
    clear hb hr1 hr2 ho hl63
    go_wp2_with fail
    go_region_held3 (fun w' => w'.cell? ⟨w.heap.size, 0, none⟩ = some (I n) ∧ w'.cell? ⟨w.heap.size, 1, none⟩ = some (.slice A l.length c) ∧ w'.cell? ⟨w.heap.size + 1, 0, none⟩ = some (I d))
      (first | exact ⟨(HDc.out.cell (p := ⟨w.heap.size, 0, none⟩) hlk).trans k_0, (HDc.out.cell (p := ⟨w.heap.size, 1, none⟩) hlk).trans k_1, (HDc.out.cell (p := ⟨w.heap.size + 1, 0, none⟩) hld).trans d_0⟩ | exact ⟨(HDb.out.cell (p := ⟨w.heap.size, 0, none⟩) hlk).trans k_0, (HDb.out.cell (p := ⟨w.heap.size, 1, none⟩) hlk).trans k_1, (HDb.out.cell (p := ⟨w.heap.size + 1, 0, none⟩) hld).trans d_0⟩ | exact ⟨(HDa.out.cell (p := ⟨w.heap.size, 0, none⟩) hlk).trans k_0, (HDa.out.cell (p := ⟨w.heap.size, 1, none⟩) hlk).trans k_1, (HDa.out.cell (p := ⟨w.heap.size + 1, 0, none⟩) hld).trans d_0⟩ | go_keep)
      (first
        | (go_at_call 66; refine (H1.out _ (HK.out.later (Below.trans HG1.out ((Below.refl _ w1).drew)))).mono ?_; rintro e w2 ⟨v2, rfl, hRa, hGa⟩; obtain ⟨A2, c2, e2, hc2, hr2'⟩ := Kd.R_reads hRa; subst e2; have HDa : Aside0 (Grew w1 w2) := ⟨Below.trans ((Below.refl _ w1).drew) hGa⟩; have HRa := Aside0.mk hr2'; have HCa := Aside0.mk hc2; clear hRa hGa hr2' hc2)
        | (go_at_call 75; refine (length_calls A2 c2 F _ HRa.out HCa.out).mono ?_; rintro e w3 ⟨rfl, hGb⟩; have HDb : Aside0 (Grew w1 w3) := ⟨Grew.trans HDa.out hGb⟩; clear hGb)
        | (go_at_call 73; refine (HRK.out _ _ (by first | exact .inl rfl | exact .inr rfl) (HK.out.later (Grew.trans HG1.out (by first | exact HDc.out | exact HDb.out)))).mono ?_; rintro e w4 ⟨rfl, hGc⟩; have HDc : Aside0 (Grew w1 w4) := ⟨by first | exact Grew.trans HDc.out hGc | exact Grew.trans HDb.out hGc⟩; clear hGc))
    have hsl : shl .i64 1 (rk (d + 1)) = IntKind.i64.wrap (2 ^ min (rk (d + 1)).toNat 64) := by unfold shl; rw [Int.one_mul]; rfl
    all_goals (go_wp2_with fail; go_ret3; exact ⟨by rw [HE1.out, HE1.out, ← HF0.out, hsl]; rfl, Grew.trans HG1.out HDc.out⟩)
  · have HV : Aside0 (∀ {α : Type} (a b : α), (if cc = 0 then a else b) = b) := ⟨fun a b => if_neg hz⟩
    simp only [HV.out]
    clear hcc
    subst hW3
    go_enter Try.func35, Try.ntmps35
    go_wp2_with fail
    refine H.out.mono ?_
    rintro e w1 ⟨rfl, hG1⟩
    have HG1 := Aside0.mk (Grew.trans HG.out hG1)
    clear hG1 k_0 k_1 d_0
    go_wp2_with fail
    go_ret3
    exact ⟨rfl, HG1.out⟩

end Go.Proofs.Ythganpmmhfoodaa.K
end

section
/- The walk through the law FnExactCountCycles. -/
namespace Go.Proofs.Ythganpmmhfoodaa.K
open Go.RowKit Go.Shelf Go.Proofs.Ythganpmmhfoodaa.Q Go.Proofs.Ythganpmmhfoodaa.D Go.Proofs.YthganpmmhfoodaaW.PrintWords Go.Proofs.YthganpmmhfoodaaW.PrintLast Go.Proofs.YthganpmmhfoodaaW.PrintMore
set_option linter.unusedVariables false
set_option linter.unusedSimpArgs false

set_option maxRecDepth 100000 in
set_option maxHeartbeats 4000000 in
theorem LCountCycles_calls (n0 : Int) (A0 : Option Addr) (c0 : Nat) (l0 : List Int) (n1 : Int) (w : World) (hr0 : Ki.C w A0 l0.length l0) (hc0 : l0.length ≤ c0) :
    Calls Try.prog 9 #[.agg #[I n0, .slice A0 l0.length c0], I n1] w fun e w' => e = .returned (.bool true) ∧ Grew w w' := by
  have hbig0 := hr0.2.1
  have HR0 := Aside0.mk hr0
  have HC0 := Aside0.mk hc0
  clear hr0 hc0
  have hg0 : Grew w (w.alloc (.cells #[I n0, .slice A0 l0.length c0] 24)) := below_alloc (Grew.refl w) _
  have H0 := Aside0.mk (szC_calls n0 A0 c0 l0 1048576 (by omega) _ (Kd.C_below HR0.out hg0) HC0.out)
  have HM0 := Aside0.mk (Mem.cons (it := .box w.heap.size 24 #[I n0, .slice A0 l0.length c0]) (blk_new w _) (Mem.nil _))
  have HG0 := Aside0.mk hg0
  clear hg0
  by_cases hl0 : 1048576 < (l0.length : Int)
  · rw [if_pos (by omega)] at H0
    go_enter Try.func9, Try.ntmps9
    go_wp2_with fail
    refine H0.out.mono ?_
    rintro e w1 ⟨rfl, hG1⟩
    go_wp2_with fail
    go_ret
    exact ⟨rfl, Grew.trans HG0.out hG1⟩
  · rw [if_neg (by omega)] at H0
    have hcmp : ¬ ((1048576 : Int) - l0.length < 0) := by omega
    obtain ⟨r0, r1, r2, HS, HI⟩ : ∃ (r0 : Int) (r1 : Int) (r2 : Int), Aside0 (∀ W A0 c0, Ki.C W A0 l0.length l0 → l0.length ≤ c0 → Calls Try.prog 34 #[.agg #[I n0, .slice A0 l0.length c0], I n1] W fun e w' => e = .returned (.tuple #[I r0, I r1, I r2]) ∧ Grew W w') ∧ Aside0 (∀ W A0 c0, Ki.C W A0 l0.length l0 → l0.length ≤ c0 → Calls Try.prog 35 #[.agg #[I n0, .slice A0 l0.length c0], I n1] W fun e w' => e = .returned (.tuple #[I r0, I r1, I r2]) ∧ Grew W w') := by
      have hS := fun (W : World) (A0 : Option Addr) (c0 : Nat) => fun (hr0 : Ki.C W A0 l0.length l0) (hc0 : l0.length ≤ c0) => spec_CountCycles.calls (isK l0 + 100) n0 A0 c0 l0 n1 _ _ _ W hr0 hc0 (specCountCycles_is n0 l0 n1 (by omega) _ (Nat.le_refl _))
      have hI := fun (W : World) (A0 : Option Addr) (c0 : Nat) => fun (hr0 : Ki.C W A0 l0.length l0) (hc0 : l0.length ≤ c0) => CountCycles_calls n0 A0 c0 l0 n1 W ⟨hr0, hc0, by omega⟩
      exact ⟨(if codeOf n0 l0 (decide (0 ≤ n1 ∧ n1 ≤ 5)) = 0 then shl .i64 1 (((ofL l0 n1).length : Int) - rankL l0 n1 2) else 0), (if codeOf n0 l0 (decide (0 ≤ n1 ∧ n1 ≤ 5)) = 0 then shl .i64 1 (rankL l0 (n1 + 1) 2) else 0), (codeOf n0 l0 (decide (0 ≤ n1 ∧ n1 ≤ 5))), ⟨hS⟩, ⟨hI⟩⟩
    go_enter Try.func9, Try.ntmps9
    go_wp2_with fail
    refine H0.out.mono ?_
    rintro e w1 ⟨rfl, hG1⟩
    clear H0
    have HM1 := Aside0.mk (HM0.out.grew hG1)
    have HG1 := Aside0.mk (Grew.trans HG0.out hG1)
    have hs0 : w.heap.size + 1 ≤ w1.heap.size := by have := hG1.size; simpa using this
    clear hG1 HM0 HG0
    have p0_0 : w1.cell? ⟨w.heap.size, 0, none⟩ = some (I n0) := blk_cell HM1.out.head 0
    have p0_1 : w1.cell? ⟨w.heap.size, 1, none⟩ = some (.slice A0 l0.length c0) := blk_cell HM1.out.head 1
    go_wp2_with fail
    clear p0_0 p0_1
    refine (toC_calls n0 A0 c0 l0 w1 (Kd.C_below HR0.out HG1.out) HC0.out (by omega)).mono ?_
    rintro e w2 ⟨AS0, cS0, rfl, hR2, hG2⟩
    have HM2 : Aside0 (Mem w2 [.row w1.heap.size w2.heap.size (.slice AS0 l0.length cS0) l0, .box w.heap.size 24 #[I n0, .slice A0 l0.length c0]]) := ⟨Mem.cons (it := .row w1.heap.size w2.heap.size (.slice AS0 l0.length cS0) l0) (hR2) (HM1.out.grew hG2)⟩
    have HG2 := Aside0.mk (Grew.trans HG1.out hG2)
    have hs2 := hG2.size
    clear hG2 
    go_wp2_with fail
    refine (HS.out w2 AS0 cS0 (Row.slice HM2.out.head).2.2 (Row.slice HM2.out.head).2.1).mono ?_
    rintro e w3 ⟨rfl, hG3⟩
    have HM3 := Aside0.mk (HM2.out.grew hG3)
    have HG3 := Aside0.mk (Grew.trans HG2.out hG3)
    have hs3 := hG3.size
    clear hG3
    have p0_0 : w3.cell? ⟨w.heap.size, 0, none⟩ = some (I n0) := blk_cell HM3.out.tail.head 0
    have p0_1 : w3.cell? ⟨w.heap.size, 1, none⟩ = some (.slice A0 l0.length c0) := blk_cell HM3.out.tail.head 1
    go_wp2_with fail
    clear p0_0 p0_1
    refine (toC_calls n0 A0 c0 l0 w3 (Kd.C_below HR0.out HG3.out) HC0.out (by omega)).mono ?_
    rintro e w4 ⟨Ax0, cx0, rfl, hR4, hG4⟩
    have HM4 : Aside0 (Mem w4 [.row w3.heap.size w4.heap.size (.slice Ax0 l0.length cx0) l0, .row w1.heap.size w2.heap.size (.slice AS0 l0.length cS0) l0, .box w.heap.size 24 #[I n0, .slice A0 l0.length c0]]) := ⟨Mem.cons (it := .row w3.heap.size w4.heap.size (.slice Ax0 l0.length cx0) l0) (hR4) (HM3.out.grew hG4)⟩
    have HG4 := Aside0.mk (Grew.trans HG3.out hG4)
    have hs4 := hG4.size
    clear hG4 
    have HM5 : Aside0 (Mem (w4.alloc (.cells #[I n0, .slice Ax0 l0.length cx0] 28)) [.box w4.heap.size 28 #[I n0, .slice Ax0 l0.length cx0], .row w3.heap.size w4.heap.size (.slice Ax0 l0.length cx0) l0, .row w1.heap.size w2.heap.size (.slice AS0 l0.length cS0) l0, .box w.heap.size 24 #[I n0, .slice A0 l0.length c0]]) := ⟨Mem.cons (blk_new w4 _) (HM4.out.grew (below_alloc (Grew.refl w4) _))⟩
    have HG5 : Aside0 (Grew w (w4.alloc (.cells #[I n0, .slice Ax0 l0.length cx0] 28))) := ⟨Grew.trans HG4.out (below_alloc (Grew.refl w4) _)⟩
    have hS5 : (w4.alloc (.cells #[I n0, .slice Ax0 l0.length cx0] 28)).heap.size = w4.heap.size + 1 := by simp
    have bx0_0 : (w4.alloc (.cells #[I n0, .slice Ax0 l0.length cx0] 28)).cell? ⟨w4.heap.size, 0, none⟩ = some (I n0) := blk_cell HM5.out.head 0
    have bx0_1 : (w4.alloc (.cells #[I n0, .slice Ax0 l0.length cx0] 28)).cell? ⟨w4.heap.size, 1, none⟩ = some (.slice Ax0 l0.length cx0) := blk_cell HM5.out.head 1
    go_wp2_with fail
    generalize (w4.alloc (.cells #[I n0, .slice Ax0 l0.length cx0] 28)) = W5 at HM5 HG5 hS5 bx0_0 bx0_1 ⊢
    clear bx0_0 bx0_1
    refine (HI.out W5 Ax0 cx0 (Row.slice HM5.out.tail.head).2.2 (Row.slice HM5.out.tail.head).2.1).mono ?_
    rintro e w6 ⟨rfl, hG6⟩
    have HM6 := Aside0.mk (HM5.out.grew hG6)
    have HG6 := Aside0.mk (Grew.trans HG5.out hG6)
    have hs6 := hG6.size
    clear hG6
    go_wp2_with fail
    have bx0_0 : w6.cell? ⟨w4.heap.size, 0, none⟩ = some (I n0) := blk_cell HM6.out.head 0
    have bx0_1 : w6.cell? ⟨w4.heap.size, 1, none⟩ = some (.slice Ax0 l0.length cx0) := blk_cell HM6.out.head 1
    have p0_0 : w6.cell? ⟨w.heap.size, 0, none⟩ = some (I n0) := blk_cell HM6.out.tail.tail.tail.head 0
    have p0_1 : w6.cell? ⟨w.heap.size, 1, none⟩ = some (.slice A0 l0.length c0) := blk_cell HM6.out.tail.tail.tail.head 1
    have hlx : w4.heap.size < w6.heap.size := World.block_lt_of_cell? w6 _ bx0_0
    have hlp : w.heap.size < w6.heap.size := World.block_lt_of_cell? w6 _ p0_0
    go_region_held3 (fun w' => w'.cell? ⟨w4.heap.size, 0, none⟩ = some (I n0) ∧ w'.cell? ⟨w4.heap.size, 1, none⟩ = some (.slice Ax0 l0.length cx0) ∧ w'.cell? ⟨w.heap.size, 0, none⟩ = some (I n0) ∧ w'.cell? ⟨w.heap.size, 1, none⟩ = some (.slice A0 l0.length c0))
      (first | exact ⟨(HDb.out.cell (p := ⟨w4.heap.size, 0, none⟩) hlx).trans bx0_0, (HDb.out.cell (p := ⟨w4.heap.size, 1, none⟩) hlx).trans bx0_1, (HDb.out.cell (p := ⟨w.heap.size, 0, none⟩) hlp).trans p0_0, (HDb.out.cell (p := ⟨w.heap.size, 1, none⟩) hlp).trans p0_1⟩ | exact ⟨(HDa.out.cell (p := ⟨w4.heap.size, 0, none⟩) hlx).trans bx0_0, (HDa.out.cell (p := ⟨w4.heap.size, 1, none⟩) hlx).trans bx0_1, (HDa.out.cell (p := ⟨w.heap.size, 0, none⟩) hlp).trans p0_0, (HDa.out.cell (p := ⟨w.heap.size, 1, none⟩) hlp).trans p0_1⟩ | go_keep)
      (first
        | (go_at_call 16; refine (toC_calls n0 A0 c0 l0 _ (Kd.C_below HR0.out (Below.trans HG6.out ((Below.refl _ w6).drew))) HC0.out (by omega)).mono ?_; rintro e w7 ⟨Aq0, cq0, rfl, hRa, hGa⟩; have HDa : Aside0 (Grew w6 w7) := ⟨Below.trans ((Below.refl _ w6).drew) hGa⟩; have HRa := Aside0.mk hRa; clear hRa hGa)
        | (go_at_call 19; refine (eqC_calls n0 l0 Ax0 Aq0 cx0 cq0 _ _ _ _ _ _ w7 (HM6.out.grew HDa.out).tail.head HRa.out).mono ?_; rintro e w8 ⟨rfl, hGb⟩; have HDb : Aside0 (Grew w6 w8) := ⟨Grew.trans HDa.out hGb⟩; clear hGb))
    clear bx0_0 bx0_1 p0_0 p0_1
    have hG8 := HDb.out
    clear hlx hlp HDa HDb HRa
    have HM8 := Aside0.mk (HM6.out.grew hG8)
    have HG8 := Aside0.mk (Grew.trans HG6.out hG8)
    have hs8 := hG8.size
    clear hG8
    go_wp2_with fail
    go_ret
    exact ⟨rfl, HG8.out⟩

end Go.Proofs.Ythganpmmhfoodaa.K
end

section

namespace Go.Proofs.Ythganpmmhfoodaa.fnExactCountCycles
open Go.ChangeShapes Go.WideShapes Go.ChangeAt Go.RowKit Go.Joins Go.Proofs.Ythganpmmhfoodaa.K Go.Proofs.YthganpmmhfoodaaW.PrintWords
open Go.ChangeMaps (open_string shut_string)
set_option linter.unusedVariables false
set_option maxRecDepth 100000 in
theorem lifted (os : Os) (started : os.Started) (H : Type) (enc : TypeId × Value → H) :
    ReturnsInHanded {} Try.checked os 9 .any (Rows.fnExactCountCyclesSpec.pre6 enc Try.prog Try.f9 Rows.fnExactCountCyclesRow.domain false) (Rows.fnExactCountCyclesSpec.post enc Try.prog Try.f9 false true false false) := by
  refine returnsInHanded_of_change_sized (C := Try.checked) ownKnob_none started (by kernel_rfl) Try.func9
    (ChangeSpec.witness6 (enc := enc) (C := Try.checked) false ⟨#[], #[.agg #[.int .i64 0, .slice none 0 0], .int .i64 0], []⟩ 8 (by kernel_rfl) (by kernel_rfl) (by kernel_rfl) (by kernel_rfl)) ?_
  intro W base args ds gs before hval0 hW hcnd hsz0 _
  have hsz : (DataW.weightsEach Try.prog (Try.f9.params.toList ++ Rows.fnExactCountCyclesSpec.plain.varTypes Try.prog) (ds ++ gs)).all (· ≤ reachBytes) = true := hsz0
  have hval : ∀ (j : Nat) t v, Try.f9.params[j]? = some t → args[j]? = some v → Value.okWide Try.prog W .any base t v := hval0
  have hW' := hW
  obtain ⟨p, q, hA0, hV, rfl, hfz, hnd⟩ := hW
  have hA : DataW.TrodAll enc Try.prog W 0 (fun _ => true) true Try.f9.params.toList args.toList ds p := hA0
  rw [Try.params9] at hA hval hsz
  obtain ⟨v0, vs0, d0, ds0, p0, q0, hargs, rfl, rfl, h0, r0⟩ := trodAll_cons hA
  obtain ⟨v1, vs1, d1, ds1, p1, q1, rfl, rfl, rfl, h1, r1⟩ := trodAll_cons r0
  obtain ⟨rfl, rfl, rfl⟩ := trodAll_nil r1
  obtain rfl : args = #[v0, v1] := by cases args; simp_all
  obtain ⟨rfl, rfl⟩ := trodVars_none hV
  have k0 := h0
  have lt0 : ∀ x ∈ p0, x.block < W.heap.size := by obtain ⟨m, hm⟩ := k0; exact DataW.trod_lt m _ _ _ hm
  obtain ⟨x0, z0, y0_0, y1_0, m0, hv0, hd0, hp0, hy0_0, hy1_0⟩ := open_agg2 Try.underlying24 (by kernel_rfl) (show Try.prog.cellsOf 24 = 2 by kernel_rfl) (hval 0 24 v0 rfl rfl) h0
  obtain ⟨n0, e0_0, _, w0⟩ := DataW.trod_int Try.underlying2 hy0_0
  obtain ⟨A0, c0, l0, e1_0, hc0, hr0, _⟩ := ints_open hy1_0
  simp only [List.cons.injEq, and_true] at e0_0
  subst e0_0 e1_0
  subst hv0
  obtain ⟨n1, rfl, rfl, rfl, w1⟩ := open_int Try.underlying2 (hval 1 2 v1 rfl rfl) h1
  clear hA0 hval0 hsz0 hsz
  refine (K.LCountCycles_calls n0 A0 c0 l0 n1 W hr0 hc0).mono fun e W' ⟨he, bel0⟩ => ?_
  have bel : Below W.heap.size W W' := bel0
  subst he
  exact ⟨_, rfl, _, _, _, [], _, [], hW', trodAll_mk1 (shut_bool Try.underlying4 _), (trodAll_cons_mk (Below.trod laidOut (by kernel_rfl) (of_decide_eq_true (by kernel_rfl)) k0 bel lt0) (trodAll_cons_mk (shut_int Try.underlying2 w1) trodAll_mk0)), rfl, bel.frame _, fun h => by cases h⟩
theorem over : Rows.fnExactCountCyclesRow.holds Try.pinned (OpenSpec.ofChange Rows.fnExactCountCyclesSpec) :=
  OpenClaim.holds_of_wide 9 Try.f9 rfl rfl rfl rfl rfl rfl rfl ⟨rfl, rfl, rfl, rfl, rfl⟩ rfl rfl rfl rfl rfl (by kernel_rfl) Try.func9 (by kernel_rfl)
    (of_decide_eq_true (by kernel_rfl)) (by unfold Func.isWrapper; first | (rw [if_pos (by decide +kernel)]; kernel_rfl) | (rw [if_neg (by decide +kernel)]; exact ⟨rfl, rfl⟩))
    (fun os started H enc _ => lifted os started H enc)
theorem proved : Rows.FnExactCountCyclesSaid := over
#print axioms proved
end Go.Proofs.Ythganpmmhfoodaa.fnExactCountCycles
namespace Go.Proofs.Ythganpmmhfoodaa
theorem fnExactCountCycles_holds : Rows.FnExactCountCyclesSaid := fnExactCountCycles.proved
end Go.Proofs.Ythganpmmhfoodaa
end
