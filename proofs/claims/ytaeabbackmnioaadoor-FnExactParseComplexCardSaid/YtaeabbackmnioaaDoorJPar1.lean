/- Texts of this work, put together by its pack.py. No conditions. -/
import Derived.Test.YtaeabbackmnioaaDoorJPar0
import Derived.JoinedOf
import Derived.Below
import Derived.Deep.Draws
import Derived.Deep.AppendLies
import Derived.Maps.AppendAt
import Derived.OwnWalk
import Derived.Laws.BytesArg
import Derived.Laws.MakeOwn
import Derived.Laws.OwnMore
import Derived.Deep.OwnRows
import Derived.Tactics
import Derived.Lib.ConvBytes
import Derived.Laws.Slices
import Derived.WalkKit
import Derived.KernelRfl
import Derived.RowKit3
import Derived.Deep.LoopGhost
import Derived.Deep.QuietTactic
import Derived.BigQuiet
import Derived.WideLaws
import Derived.Deep.DeepCutAuto
import Derived.Deep.CutBlock
import Derived.Deep.RegionHeld3
import Derived.Laws.Rows
import Derived.Lib.AppendStr
import Derived.ArgAppend
import Derived.Laws.IdiomCopy
import Derived.RowKit
import Derived.OrdersHeld
import Derived.Laws.BitsLemmas
import Derived.Test.YtaeabbackmnioaaDoorProg
import Derived.Shelf.Abstract
import Derived.Test.YtaeabbackmnioaaDoorRows
import Derived.ProofKit
import Derived.OpenShut
import Derived.ShutString
import Derived.ChangeOld
import Derived.SizedLaws
import Derived.Lib.SmallJoins
import Derived.Laws.StructEq
import Derived.RangeFuncBox
import Derived.RangeFuncLeaves
import Derived.OwnWalkIn
import Derived.TacticsInMore
import Derived.LoopNIn
import Derived.LoopIn
import Derived.Test.YtaeabbackmnioaaDoorChecked
import Derived.Shelf.Strings.SplitShaped
import Derived.Lib.SliceRun
section
namespace Go.Proofs.YtaeabbackmnioaaDoor
open Go.RowKit Go.Proofs.YtaeabbackmnioaaDoorW.PrintWords Go.Proofs.YtaeabbackmnioaaDoorW.PrintLast Go.Proofs.YtaeabbackmnioaaDoorW.PrintMore
abbrev U : Bool := true
abbrev O : Bool := false
abbrev ar (k n : Nat) : Array Bool := (List.replicate k true ++ List.replicate n false).toArray
theorem hh_ {A B C : Type} {p : A → B → C → Prop} : ∀ a b c, p a b c → p a b c := fun _ _ _ h => h
theorem nm_ : (∀ (a : Act) (d : Tmp) (v : Value), a.put (some d) v = { a with tmps := a.tmps.setIfInBounds d v }) ∧ (∀ (a : Act) (v : Value), a.put none v = a) ∧ (∀ (l : List Value) (i : Nat) (v : Value), l.toArray.setIfInBounds i v = (l.set i v).toArray) ∧ (∀ (x v : Value) (l : List Value), (x :: l).set 0 v = v :: l) ∧ (∀ (x v : Value) (l : List Value) (i : Nat), (x :: l).set (i + 1) v = x :: l.set i v) ∧ (∀ n : Int, IntKind.i64.wrap n = wrap64 n) ∧ (∀ n : Int, IntKind.i32.wrap n = wrap32 n) :=
⟨fun _ _ _ => rfl, fun _ _ => rfl, fun l i v => by simp, fun _ _ _ => rfl, fun _ _ _ _ => rfl, i64_w, i32_w⟩
end Go.Proofs.YtaeabbackmnioaaDoor
end
section
/- joinedFacts of a seat whose start is a 'harness .. cut': the start's words are read off the string once, so the kernel does not run through the whole string three times. -/
namespace Go.Proofs.YtaeabbackmnioaaDoor.K
open Go
theorem signs_take (n : Nat) (l : List Char) (h : (l.take n).all (fun c => !(c == Char.ofNat 32)) = true) (h2 : l[n]? = some (Char.ofNat 32)) : wordsSigns l = l.take n :: wordsSigns (l.drop (n + 1)) := by
 induction n generalizing l with
 | zero => cases l with
  | nil => simp at h2
  | cons c r =>
   obtain rfl : c = Char.ofNat 32 := by simpa using h2
   simp [wordsSigns]
 | succ n ih => cases l with
  | nil => simp at h2
  | cons c r =>
   have hc : c ≠ Char.ofNat 32 := by simp at h; exact h.1
   have h3 : wordsSigns r = r.take n :: wordsSigns (r.drop (n + 1)) := ih r (by simp at h ⊢; exact h.2) (by simpa using h2)
   rw [wordsSigns.eq_def]
   split
   ·rename_i h; cases h
   ·rename_i h; exact absurd (List.cons.inj h).1 hc
   ·rename_i _ h; obtain ⟨rfl, rfl⟩ := List.cons.inj h
    rw [h3]; rfl
theorem strip (r) : stripLifts liftWords ("cut".toList :: r) = ([], "cut".toList :: r) := by kernel_rfl
theorem cut_enter (P : Program) (r) (h : behindMainWord (wordsSigns P.initOrder.toList) = "cut".toList :: r) (h1 : P.laysLater = false) (h2 : P.bearsReflect = false) (h3 : P.doorFits [] = true) : P.mayEnter = true := by
 unfold Program.mayEnter
 rw [h]
 simp only [strip, h1, h2, h3]
 kernel_rfl
theorem cut_make (P : Program) (r) (h : behindMainWord (wordsSigns P.initOrder.toList) = "cut".toList :: r) : P.make = some .cut := by
 unfold Program.make
 rw [h]
 kernel_rfl
theorem cut_lifts (P : Program) (r) (h : behindMainWord (wordsSigns P.initOrder.toList) = "cut".toList :: r) : P.liftsFinal = false := by
 unfold Program.liftsFinal Program.headLifts
 simp only [h, strip]
 kernel_rfl
end Go.Proofs.YtaeabbackmnioaaDoor.K
end

section
/- Words of this seat's proofs: function values, lists of numbers as slices. -/
namespace Go.Proofs.YtaeabbackmnioaaDoor.K
open Go.RowKit Go.Shelf Go.Proofs.YtaeabbackmnioaaDoorW.PrintWords Go.Proofs.YtaeabbackmnioaaDoorW.PrintLast Go.Proofs.YtaeabbackmnioaaDoorW.PrintMore

abbrev I (x : Int) : Value := .int .i64 x
abbrev Ki : Kd Int := Kd.int .i64
/-- What was there is there still; from the heap's size of w on anything may have been laid. -/
abbrev Grew (w w' : World) : Prop := Below w.heap.size w w'
theorem Grew.trans {a b c : World} (h : Grew a b) (k : Grew b c) : Grew a c := Below.trans h (k.mono h.size)
theorem Grew.refl (a : World) : Grew a a := Below.refl _ _

/-- The function value (g, first, caps): it enters g. -/
abbrev EntersG (g : Nat) : Prop := ∀ (args : Array Value) (W : World), (callFunc g args).run Tryd.prog W = .ok (.enter g args) W
/-- Called at these arguments in whatever later world, it answers as told, and keeps what was there. -/
def Answers (w : World) (g : Nat) (args : Array Value) (r : Value) : Prop :=
 ∀ W, Grew w W → Calls Tryd.prog g args W fun e w' => e = .returned r ∧ Grew W w'
theorem Answers.later {w w1 : World} {g : Nat} {args : Array Value} {r : Value} (h : Answers w g args r) (hb : Grew w w1) : Answers w1 g args r :=
 fun W hW => h W (hb.trans hW)

end Go.Proofs.YtaeabbackmnioaaDoor.K
end

section
/- Arguments of a law, opened: numbers, slices of numbers, complexes. -/
namespace Go.Proofs.YtaeabbackmnioaaDoor.K
open Go.RowKit Go.Shelf Go.Proofs.YtaeabbackmnioaaDoorW.PrintWords Go.Proofs.YtaeabbackmnioaaDoorW.PrintLast Go.Proofs.YtaeabbackmnioaaDoorW.PrintMore
open Go.ChangeShapes Go.WideShapes Go.ChangeAt Go.Joins
set_option linter.unusedVariables false
set_option linter.unusedSimpArgs false

theorem ownKnob_none : ownKnob Tryd.prog.godebug = none := by kernel_rfl

end Go.Proofs.YtaeabbackmnioaaDoor.K
end

section
/- Written by a program of this session (myprint.py over the kit's print). -/
namespace Go.Proofs.YtaeabbackmnioaaDoor.Q
open Go.RowKit Go.Proofs.YtaeabbackmnioaaDoorW.PrintWords Go.Proofs.YtaeabbackmnioaaDoorW.PrintLast Go.Proofs.YtaeabbackmnioaaDoorW.PrintMore
attribute [local go_sem] max2_int min2_int max_two min_two max_three min_three max_four min_four   -- for this text's walks alone
set_option linter.unusedVariables false
set_option linter.unusedSimpArgs false



def errW : Option Int → Value
 | none => .nilIface
 | some c => .iface 0 (.int .i64 c)
theorem errW_none : errW none = .nilIface := rfl
theorem errW_some (c : Int) : errW (some c) = .iface 0 (.int .i64 c) := rfl

theorem info2 : (Tryd.prog.info? 2).map (fun i => (i.zero, i.size, i.bytes)) = some (some (.int .i64 0), 1, 8) := by kernel_rfl
theorem info9 : (Tryd.prog.info? 9).map (fun i => (i.zero, i.size, i.bytes)) = some (some (.string ⟨#[]⟩), 1, 16) := by kernel_rfl
-- the values' own types

end Go.Proofs.YtaeabbackmnioaaDoor.Q
end

section
/- Written by a program of this session (myprint.py over the kit's print). -/
namespace Go.Proofs.YtaeabbackmnioaaDoor.Q
open Go.RowKit Go.Proofs.YtaeabbackmnioaaDoorW.PrintWords Go.Proofs.YtaeabbackmnioaaDoorW.PrintLast Go.Proofs.YtaeabbackmnioaaDoorW.PrintMore
attribute [local go_sem] max2_int min2_int max_two min_two max_three min_three max_four min_four   -- for this text's walks alone
set_option linter.unusedVariables false
set_option linter.unusedSimpArgs false

/-! ### laws_toInt64S: function 32 -/
/-! ### laws_toComplex: function 15 -/
/-! ### laws_eqInt64S: function 24 -/
def laws_eqInt64S.l0 : Nat → List Int → List Int → Int → Option (Bool)
 | 0, _, _, _ => none
 | k + 1, x0, x1, x5 => if x5 < (x0.length : Int) then (if 0 ≤ x5 then (if x5 < (x1.length : Int) then (if (rd x0 x5) = (rd x1 x5) then (laws_eqInt64S.l0 k x0 x1 (wrap64 (x5 + 1))) else (some false)) else (none)) else (none)) else (some true)
def laws_eqInt64S.f (k : Nat) (l0 : List Int) (l1 : List Int) : Option (Bool) := if (l0.length : Int) = (l1.length : Int) then (laws_eqInt64S.l0 k l0 l1 0) else (some false)
theorem laws_eqInt64S.mono_l : ∀ k, (∀ y0 y1 y2, LeO (laws_eqInt64S.l0 k y0 y1 y2) (laws_eqInt64S.l0 (k + 1) y0 y1 y2))
 | 0 => fun _ _ _ r h => by simp [laws_eqInt64S.l0] at h
 | k + 1 => by
  have ih0 := laws_eqInt64S.mono_l k
  ·intro y0 y1 y2
   unfold laws_eqInt64S.l0
   repeat' first
   | (with_reducible exact ih0 _ _ _)
   | (with_reducible exact LeO.refl _)
   | (with_reducible exact LeO.none _)
   | (with_reducible refine LeO.ite ?_ ?_)
   | (with_reducible refine LeO.bind ?_ (fun _ => ?_))
   | exact ih0 _ _ _
   | exact LeO.none _
   | refine LeO.ite ?_ ?_
   | refine LeO.bind ?_ (fun _ => ?_)
theorem laws_eqInt64S.mono : ∀ a0 a1 k, LeO (laws_eqInt64S.f k a0 a1) (laws_eqInt64S.f (k + 1) a0 a1) := by
 intro a0 a1 k
 have ih0 := laws_eqInt64S.mono_l k
 unfold laws_eqInt64S.f
 repeat' first
   | (with_reducible exact ih0 _ _ _)
   | (with_reducible exact LeO.refl _)
   | (with_reducible exact LeO.none _)
   | (with_reducible refine LeO.ite ?_ ?_)
   | (with_reducible refine LeO.bind ?_ (fun _ => ?_))
   | exact ih0 _ _ _
   | exact LeO.none _
   | refine LeO.ite ?_ ?_
   | refine LeO.bind ?_ (fun _ => ?_)
set_option maxHeartbeats 8000000 in
set_option maxRecDepth 100000 in
theorem laws_eqInt64S.calls (k : Nat) (A0 : Option Addr) (c0 : Nat) (l0 : List Int) (A1 : Option Addr) (c1 : Nat) (l1 : List Int) (r : Bool) (w : World) (hr0 : Kd.C (Kd.int .i64) w A0 l0.length l0) (hc0 : l0.length ≤ c0) (hr1 : Kd.C (Kd.int .i64) w A1 l1.length l1) (hc1 : l1.length ≤ c1) (h : laws_eqInt64S.f k l0 l1 = some r) :
  Calls Tryd.prog 24 #[.slice A0 l0.length c0, .slice A1 l1.length c1] w fun e w' => e = .returned (.bool r) ∧ Drawn0 w w' := by
 have HR0 := Aside0.mk hr0
 have HC0 := Aside0.mk hc0
 clear hr0 hc0
 have HR1 := Aside0.mk hr1
 have HC1 := Aside0.mk hc1
 clear hr1 hc1
 have H : (if (l0.length : Int) = (l1.length : Int) then (laws_eqInt64S.l0 k l0 l1 0) else (some false)) = some r := h
 clear h
 by_cases c3 : (l0.length : Int) = (l1.length : Int)
 ·rw [if_pos c3] at H
  have c3b0 : ((l0.length : Int) == (l1.length : Int)) = true := beq_iff_eq.mpr c3
  have c3b1 : ((l0.length : Int) != (l1.length : Int)) = false := bne_eq_false_iff_eq.mpr c3
  have c3b2 : (l0.length == l1.length) = true := by first | simpa using c3 | (simp at c3 ⊢; omega)
  clear c3
  have H' := Aside0.mk H
  clear H
  go_enter Tryd.func24, Tryd.ntmps24
  go_wp2
  repeat (go_quiet (fail); try go_wp2)
  go_loopg [5] k (fun kq v5 w' => ∃ (x5_1 : Int), v5 = .int .i64 x5_1 ∧ Aside0 (laws_eqInt64S.l0 kq l0 l1 x5_1 = some r) ∧ Aside0 (kq ≤ k) ∧ Drawn0 w w')
  case atStart => exact ⟨(0), (by first | rfl | (simp; done) | (simp [*]; done)), H', ⟨Nat.le_refl _⟩, by repeat (first | exact Drawn0.refl _ | apply Drawn0.step)⟩
  case round =>
   clear H'
   try clear c1
   try clear c2
   try clear p2
   try clear c3
   try clear c3b0
   try clear c3b1
   try clear c3b2
   obtain ⟨x5_1, rfl, HA, HK1, ⟨m1, rfl⟩⟩ := hrel
   cases gk with
   | zero => exact absurd HA.out (by simp [laws_eqInt64S.l0])
   | succ k1 =>
    have H := HA.out
    clear HA
    simp only [laws_eqInt64S.l0] at H
    by_cases c4 : x5_1 < (l0.length : Int)
    ·rw [if_pos c4] at H
     have c4b0 : decide (x5_1 < (l0.length : Int)) = true := decide_eq_true c4
     clear c4
     by_cases c5 : 0 ≤ x5_1
     ·rw [if_pos c5] at H
      have c5b0 : decide (0 ≤ x5_1) = true := decide_eq_true c5
      clear c5
      by_cases c6 : x5_1 < (l1.length : Int)
      ·rw [if_pos c6] at H
       have c6b0 : decide (x5_1 < (l1.length : Int)) = true := decide_eq_true c6
       clear c6
       by_cases c7 : (rd l0 x5_1) = (rd l1 x5_1)
       ·rw [if_pos c7] at H
        have c7b0 : ((rd l0 x5_1) == (rd l1 x5_1)) = true := beq_iff_eq.mpr c7
        have c7b1 : ((rd l0 x5_1) != (rd l1 x5_1)) = false := bne_eq_false_iff_eq.mpr c7
        clear c7
        have H' := Aside0.mk H
        clear H
        have p279 : 0 ≤ (x5_1 : Int) := of_decide_eq_true (by first | (with_reducible assumption) | assumption)
        have q279 : x5_1 < (l0.length : Int) := of_decide_eq_true (by first | (with_reducible assumption) | assumption)
        obtain ⟨ad279, e279, hx279_0⟩ := Kd.at_int HR0.out x5_1 p279 q279
        cases e279
        replace p279 := eq_true p279
        replace q279 := eq_true q279
        have p280 : 0 ≤ (x5_1 : Int) := of_decide_eq_true (by first | (with_reducible assumption) | assumption)
        have q280 : x5_1 < (l1.length : Int) := of_decide_eq_true (by first | (with_reducible assumption) | assumption)
        obtain ⟨ad280, e280, hx280_0⟩ := Kd.at_int HR1.out x5_1 p280 q280
        cases e280
        replace p280 := eq_true p280
        replace q280 := eq_true q280
        go_wp2
        repeat (go_quiet (fail); try go_wp2)
        go_roundg k1
        case measure => have := HK1.out; omega
        case rel => exact ⟨(wrap64 (x5_1 + 1)), (by first | rfl | (simp; done) | (simp [*]; done)), H', ⟨by have := HK1.out; omega⟩, by repeat (first | exact Drawn0.refl _ | apply Drawn0.step)⟩
       ·rw [if_neg c7] at H
        have c7b0 : ((rd l0 x5_1) == (rd l1 x5_1)) = false := beq_eq_false_iff_ne.mpr c7
        have c7b1 : ((rd l0 x5_1) != (rd l1 x5_1)) = true := bne_iff_ne.mpr c7
        obtain rfl := Option.some.inj H
        have p279 : 0 ≤ (x5_1 : Int) := of_decide_eq_true (by first | (with_reducible assumption) | assumption)
        have q279 : x5_1 < (l0.length : Int) := of_decide_eq_true (by first | (with_reducible assumption) | assumption)
        obtain ⟨ad279, e279, hx279_0⟩ := Kd.at_int HR0.out x5_1 p279 q279
        cases e279
        replace p279 := eq_true p279
        replace q279 := eq_true q279
        have p280 : 0 ≤ (x5_1 : Int) := of_decide_eq_true (by first | (with_reducible assumption) | assumption)
        have q280 : x5_1 < (l1.length : Int) := of_decide_eq_true (by first | (with_reducible assumption) | assumption)
        obtain ⟨ad280, e280, hx280_0⟩ := Kd.at_int HR1.out x5_1 p280 q280
        cases e280
        replace p280 := eq_true p280
        replace q280 := eq_true q280
        go_wp2
        repeat (go_quiet (fail); try go_wp2)
        go_ret
        exact ⟨by first | rfl | (simp; done) | (simp [*]; done), by repeat (first | exact Drawn0.refl _ | apply Drawn0.step)⟩
      ·rw [if_neg c6] at H
       exact absurd H (by simp)
     ·rw [if_neg c5] at H
      exact absurd H (by simp)
    ·rw [if_neg c4] at H
     have c4b0 : decide (x5_1 < (l0.length : Int)) = false := decide_eq_false c4
     clear c4
     obtain rfl := Option.some.inj H
     go_wp2
     repeat (go_quiet (fail); try go_wp2)
     go_ret
     exact ⟨by first | rfl | (simp; done) | (simp [*]; done), by repeat (first | exact Drawn0.refl _ | apply Drawn0.step)⟩
 ·rw [if_neg c3] at H
  have c3b0 : ((l0.length : Int) == (l1.length : Int)) = false := beq_eq_false_iff_ne.mpr c3
  have c3b1 : ((l0.length : Int) != (l1.length : Int)) = true := bne_iff_ne.mpr c3
  have c3b2 : (l0.length == l1.length) = false := by first | simpa using c3 | (simp at c3 ⊢; omega)
  obtain rfl := Option.some.inj H
  go_enter Tryd.func24, Tryd.ntmps24
  go_wp2
  repeat (go_quiet (fail); try go_wp2)
  go_ret
  exact ⟨by first | rfl | (simp; done) | (simp [*]; done), by repeat (first | exact Drawn0.refl _ | apply Drawn0.step)⟩

end Go.Proofs.YtaeabbackmnioaaDoor.Q
end

section
/- Written by a program of this session (myprint.py over the kit's print). -/
namespace Go.Proofs.YtaeabbackmnioaaDoor.Q
open Go.RowKit Go.Proofs.YtaeabbackmnioaaDoorW.PrintWords Go.Proofs.YtaeabbackmnioaaDoorW.PrintLast Go.Proofs.YtaeabbackmnioaaDoorW.PrintMore
attribute [local go_sem] max2_int min2_int max_two min_two max_three min_three max_four min_four   -- for this text's walks alone
set_option linter.unusedVariables false
set_option linter.unusedSimpArgs false

/-! ### laws_eqComplex: function 8 -/
def laws_eqComplex.f (k : Nat) (a0_0 : Int) (l0_1 : List Int) (a1_0 : Int) (l1_1 : List Int) : Option (Bool) := if a0_0 = a1_0 then ((laws_eqInt64S.f k l0_1 l1_1).bind fun t283 => (if t283 = true then (some true) else (some false))) else (some false)
theorem laws_eqComplex.mono : ∀ a0 a1 a2 a3 k, LeO (laws_eqComplex.f k a0 a1 a2 a3) (laws_eqComplex.f (k + 1) a0 a1 a2 a3) := by
 intro a0 a1 a2 a3 k
 unfold laws_eqComplex.f
 repeat' first
   | (with_reducible exact laws_eqInt64S.mono _ _ _)
   | (with_reducible exact LeO.refl _)
   | (with_reducible exact LeO.none _)
   | (with_reducible refine LeO.ite ?_ ?_)
   | (with_reducible refine LeO.bind ?_ (fun _ => ?_))
   | exact laws_eqInt64S.mono _ _ _
   | exact LeO.none _
   | refine LeO.ite ?_ ?_
   | refine LeO.bind ?_ (fun _ => ?_)
set_option maxHeartbeats 8000000 in
set_option maxRecDepth 100000 in
theorem laws_eqComplex.calls (k : Nat) (a0_0 : Int) (A0_1 : Option Addr) (c0_1 : Nat) (l0_1 : List Int) (a1_0 : Int) (A1_1 : Option Addr) (c1_1 : Nat) (l1_1 : List Int) (r : Bool) (w : World) (hr0_1 : Kd.C (Kd.int .i64) w A0_1 l0_1.length l0_1) (hc0_1 : l0_1.length ≤ c0_1) (hr1_1 : Kd.C (Kd.int .i64) w A1_1 l1_1.length l1_1) (hc1_1 : l1_1.length ≤ c1_1) (h : laws_eqComplex.f k a0_0 l0_1 a1_0 l1_1 = some r) :
  Calls Tryd.prog 8 #[.agg #[.int .i64 a0_0, .slice A0_1 l0_1.length c0_1], .agg #[.int .i64 a1_0, .slice A1_1 l1_1.length c1_1]] w fun e w' => e = .returned (.bool r) ∧ Below w.heap.size w w' := by
 have hu24 := Tryd.underlying24
 have HR0_1 := Aside0.mk hr0_1
 have HC0_1 := Aside0.mk hc0_1
 clear hr0_1 hc0_1
 have HR1_1 := Aside0.mk hr1_1
 have HC1_1 := Aside0.mk hc1_1
 clear hr1_1 hc1_1
 have HB := Aside0.mk (Below.refl w.heap.size w)
 have H : (if a0_0 = a1_0 then ((laws_eqInt64S.f k l0_1 l1_1).bind fun t283 => (if t283 = true then (some true) else (some false))) else (some false)) = some r := h
 clear h
 by_cases c3 : a0_0 = a1_0
 ·rw [if_pos c3] at H
  have c3b0 : (a0_0 == a1_0) = true := beq_iff_eq.mpr c3
  have c3b1 : (a0_0 != a1_0) = false := bne_eq_false_iff_eq.mpr c3
  clear c3
  replace H := Option.bind_eq_some_iff.mp H
  obtain ⟨t283, A40, H⟩ := H
  replace H : (if t283 = true then (some true) else (some false)) = some r := H
  have A4 := Aside0.mk A40
  clear A40
  by_cases c5 : t283 = true
  ·subst c5
   have H1 : (some true) = some r := by rw [if_pos rfl] at H; exact H
   clear H
   have H := H1
   clear H1
   obtain rfl := Option.some.inj H
   go_enter Tryd.func8, Tryd.ntmps8
   go_wp2_with (first | ((with_reducible refine gate_dst (N := 2) rfl ?_); refine box_event ?hg (N := 2) ?hd (cs := #[.int .i64 a0_0, .slice A0_1 l0_1.length c0_1]) (t := 24) ?hr ?_; (case hd => rfl); (case hg => rfl); (case hr => first | (go_simp; done) | (go_simp; rfl)); intro gb281 hg w6 hbox hb; have n0_ := Aside0.mk (below_step (by repeat (first | (with_reducible first | exact HB.out | apply below_alloc | apply pw_below_drewN | apply below_drew1) | exact HB.out)) hb); have n1_ := Aside0.mk (hbox); have n2_ := Aside0.mk ((by rw [hg]; exact (below_size (by repeat (first | (with_reducible first | exact HB.out | apply below_alloc | apply pw_below_drewN | apply below_drew1) | exact HB.out))) : w.heap.size ≤ gb281)); have n3_ := Aside0.mk ((by rw [hg]; exact (below_size (by repeat (first | (with_reducible first | exact HB.out | apply below_alloc | apply pw_below_drewN | apply below_drew1) | exact HB.out))) : w.heap.size ≤ gb281)); clear HB; have HB := n0_; have BK281 := n1_; have GW281 := n2_; have GE281 := n3_; clear n0_ n1_ n2_ n3_; clear hb hbox hg) | ((with_reducible refine gate_dst (N := 3) rfl ?_); refine box_event ?hg (N := 3) ?hd (cs := #[.int .i64 a1_0, .slice A1_1 l1_1.length c1_1]) (t := 24) ?hr ?_; (case hd => rfl); (case hg => rfl); (case hr => first | (go_simp; done) | (go_simp; rfl)); intro gb282 hg w7 hbox hb; have n0_ := Aside0.mk (blk_below (g := gb281) (o := .cells #[.int .i64 a0_0, .slice A0_1 l0_1.length c0_1] 24 (0, 0)) (by (with_reducible repeat (first | refine blk_drewN ?_ _ | refine blk_drew ?_ | refine blk_alloc ?_ _)); exact BK281.out) hb); have n1_ := Aside0.mk (below_step (by repeat (first | (with_reducible first | exact HB.out | apply below_alloc | apply pw_below_drewN | apply below_drew1 | refine below_set ?_ GE281.out) | exact HB.out)) hb); have n2_ := Aside0.mk (hbox); have n3_ := Aside0.mk ((by rw [hg]; exact (below_size (by repeat (first | (with_reducible first | exact HB.out | apply below_alloc | apply pw_below_drewN | apply below_drew1 | refine below_set ?_ GE281.out) | exact HB.out))) : w.heap.size ≤ gb282)); have n4_ := Aside0.mk ((by rw [hg]; exact (below_size (by repeat (first | (with_reducible first | exact HB.out | apply below_alloc | apply pw_below_drewN | apply below_drew1 | refine below_set ?_ GE281.out) | exact HB.out))) : w.heap.size ≤ gb282)); have n5_ := Aside0.mk ((by rw [hg]; exact Nat.ne_of_lt (blk_lt (g := gb281) (o := .cells #[.int .i64 a0_0, .slice A0_1 l0_1.length c0_1] 24 (0, 0)) (by (with_reducible repeat (first | refine blk_drewN ?_ _ | refine blk_drew ?_ | refine blk_alloc ?_ _)); exact BK281.out)) : gb281 ≠ gb282)); have n6_ := Aside0.mk ((by rw [hg]; exact Nat.ne_of_gt (blk_lt (g := gb281) (o := .cells #[.int .i64 a0_0, .slice A0_1 l0_1.length c0_1] 24 (0, 0)) (by (with_reducible repeat (first | refine blk_drewN ?_ _ | refine blk_drew ?_ | refine blk_alloc ?_ _)); exact BK281.out)) : gb282 ≠ gb281)); clear BK281; clear HB; have BK281 := n0_; have HB := n1_; have BK282 := n2_; have GW282 := n3_; have GE282 := n4_; have NB281_282 := n5_; have NB282_281 := n6_; clear n0_ n1_ n2_ n3_ n4_ n5_ n6_; clear hb hbox hg; have hnb8 := NB281_282.out; have hnc8 := NB282_281.out; have hcz9_0 : w7.cell? ⟨gb281, 0, none⟩ = some (.int .i64 a0_0) := (blk_cell BK281.out 0).trans rfl; have hcz9_1 : w7.cell? ⟨gb281, 1, none⟩ = some (.slice A0_1 l0_1.length c0_1) := (blk_cell BK281.out 1).trans rfl; have hfz9_0 := blk_frozen BK281.out 0; have hfz9_1 := blk_frozen BK281.out 1; have hcz10_0 : w7.cell? ⟨gb282, 0, none⟩ = some (.int .i64 a1_0) := (blk_cell BK282.out 0).trans rfl; have hcz10_1 : w7.cell? ⟨gb282, 1, none⟩ = some (.slice A1_1 l1_1.length c1_1) := (blk_cell BK282.out 1).trans rfl; have hfz10_0 := blk_frozen BK282.out 0; have hfz10_1 := blk_frozen BK282.out 1) | ((with_reducible refine gate_callee (f := 24) rfl ?_); refine goesL_ (some 14) rfl rfl Tryd.func24 (by kernel_rfl) rfl #[.slice A0_1 l0_1.length c0_1, .slice A1_1 l1_1.length c1_1] rfl (by (try simp only [List.map_toArray, List.map_cons, List.map_nil]); first | done | rfl | (simp only [List.length_drop, List.length_take]; rfl)) ?_; (with_reducible refine (laws_eqInt64S.calls k _ _ l0_1 _ _ l1_1 true _ ?side1 ?side2 ?side3 ?side4 A4.out).mono ?_); (case side1 => repeat (first | exact (Kd.C_below HR0_1.out HB.out) | (with_reducible refine Kd.C_alloc ?_ _) | (with_reducible refine Kd.C_drewN ?_ _) | (with_reducible refine Kd.C_drew ?_))); (case side2 => exact HC0_1.out); (case side3 => repeat (first | exact (Kd.C_below HR1_1.out HB.out) | (with_reducible refine Kd.C_alloc ?_ _) | (with_reducible refine Kd.C_drewN ?_ _) | (with_reducible refine Kd.C_drew ?_))); (case side4 => exact HC1_1.out); rintro e w' ⟨rfl, ⟨nd, rfl⟩⟩; refine ⟨_, rfl, ?_⟩))
   go_ret
   exact ⟨by first | rfl | (simp [errW_none, errW_some] <;> rfl) | (simp [*, errW_none, errW_some] <;> rfl), by repeat (first | (with_reducible first | exact HB.out | apply below_alloc | apply pw_below_drewN | apply below_drew1 | refine below_set ?_ GE281.out | refine below_set ?_ GE282.out) | exact HB.out)⟩
  ·replace c5 := Bool.eq_false_iff.mpr c5
   subst c5
   have H1 : (some false) = some r := by rw [if_neg (show ¬ (false = true) by decide)] at H; exact H
   clear H
   have H := H1
   clear H1
   obtain rfl := Option.some.inj H
   go_enter Tryd.func8, Tryd.ntmps8
   go_wp2_with (first | ((with_reducible refine gate_dst (N := 2) rfl ?_); refine box_event ?hg (N := 2) ?hd (cs := #[.int .i64 a0_0, .slice A0_1 l0_1.length c0_1]) (t := 24) ?hr ?_; (case hd => rfl); (case hg => rfl); (case hr => first | (go_simp; done) | (go_simp; rfl)); intro gb281 hg w11 hbox hb; have n0_ := Aside0.mk (below_step (by repeat (first | (with_reducible first | exact HB.out | apply below_alloc | apply pw_below_drewN | apply below_drew1) | exact HB.out)) hb); have n1_ := Aside0.mk (hbox); have n2_ := Aside0.mk ((by rw [hg]; exact (below_size (by repeat (first | (with_reducible first | exact HB.out | apply below_alloc | apply pw_below_drewN | apply below_drew1) | exact HB.out))) : w.heap.size ≤ gb281)); have n3_ := Aside0.mk ((by rw [hg]; exact (below_size (by repeat (first | (with_reducible first | exact HB.out | apply below_alloc | apply pw_below_drewN | apply below_drew1) | exact HB.out))) : w.heap.size ≤ gb281)); clear HB; have HB := n0_; have BK281 := n1_; have GW281 := n2_; have GE281 := n3_; clear n0_ n1_ n2_ n3_; clear hb hbox hg) | ((with_reducible refine gate_dst (N := 3) rfl ?_); refine box_event ?hg (N := 3) ?hd (cs := #[.int .i64 a1_0, .slice A1_1 l1_1.length c1_1]) (t := 24) ?hr ?_; (case hd => rfl); (case hg => rfl); (case hr => first | (go_simp; done) | (go_simp; rfl)); intro gb282 hg w12 hbox hb; have n0_ := Aside0.mk (blk_below (g := gb281) (o := .cells #[.int .i64 a0_0, .slice A0_1 l0_1.length c0_1] 24 (0, 0)) (by (with_reducible repeat (first | refine blk_drewN ?_ _ | refine blk_drew ?_ | refine blk_alloc ?_ _)); exact BK281.out) hb); have n1_ := Aside0.mk (below_step (by repeat (first | (with_reducible first | exact HB.out | apply below_alloc | apply pw_below_drewN | apply below_drew1 | refine below_set ?_ GE281.out) | exact HB.out)) hb); have n2_ := Aside0.mk (hbox); have n3_ := Aside0.mk ((by rw [hg]; exact (below_size (by repeat (first | (with_reducible first | exact HB.out | apply below_alloc | apply pw_below_drewN | apply below_drew1 | refine below_set ?_ GE281.out) | exact HB.out))) : w.heap.size ≤ gb282)); have n4_ := Aside0.mk ((by rw [hg]; exact (below_size (by repeat (first | (with_reducible first | exact HB.out | apply below_alloc | apply pw_below_drewN | apply below_drew1 | refine below_set ?_ GE281.out) | exact HB.out))) : w.heap.size ≤ gb282)); have n5_ := Aside0.mk ((by rw [hg]; exact Nat.ne_of_lt (blk_lt (g := gb281) (o := .cells #[.int .i64 a0_0, .slice A0_1 l0_1.length c0_1] 24 (0, 0)) (by (with_reducible repeat (first | refine blk_drewN ?_ _ | refine blk_drew ?_ | refine blk_alloc ?_ _)); exact BK281.out)) : gb281 ≠ gb282)); have n6_ := Aside0.mk ((by rw [hg]; exact Nat.ne_of_gt (blk_lt (g := gb281) (o := .cells #[.int .i64 a0_0, .slice A0_1 l0_1.length c0_1] 24 (0, 0)) (by (with_reducible repeat (first | refine blk_drewN ?_ _ | refine blk_drew ?_ | refine blk_alloc ?_ _)); exact BK281.out)) : gb282 ≠ gb281)); clear BK281; clear HB; have BK281 := n0_; have HB := n1_; have BK282 := n2_; have GW282 := n3_; have GE282 := n4_; have NB281_282 := n5_; have NB282_281 := n6_; clear n0_ n1_ n2_ n3_ n4_ n5_ n6_; clear hb hbox hg; have hnb13 := NB281_282.out; have hnc13 := NB282_281.out; have hcz14_0 : w12.cell? ⟨gb281, 0, none⟩ = some (.int .i64 a0_0) := (blk_cell BK281.out 0).trans rfl; have hcz14_1 : w12.cell? ⟨gb281, 1, none⟩ = some (.slice A0_1 l0_1.length c0_1) := (blk_cell BK281.out 1).trans rfl; have hfz14_0 := blk_frozen BK281.out 0; have hfz14_1 := blk_frozen BK281.out 1; have hcz15_0 : w12.cell? ⟨gb282, 0, none⟩ = some (.int .i64 a1_0) := (blk_cell BK282.out 0).trans rfl; have hcz15_1 : w12.cell? ⟨gb282, 1, none⟩ = some (.slice A1_1 l1_1.length c1_1) := (blk_cell BK282.out 1).trans rfl; have hfz15_0 := blk_frozen BK282.out 0; have hfz15_1 := blk_frozen BK282.out 1) | ((with_reducible refine gate_callee (f := 24) rfl ?_); refine goesL_ (some 14) rfl rfl Tryd.func24 (by kernel_rfl) rfl #[.slice A0_1 l0_1.length c0_1, .slice A1_1 l1_1.length c1_1] rfl (by (try simp only [List.map_toArray, List.map_cons, List.map_nil]); first | done | rfl | (simp only [List.length_drop, List.length_take]; rfl)) ?_; (with_reducible refine (laws_eqInt64S.calls k _ _ l0_1 _ _ l1_1 false _ ?side1 ?side2 ?side3 ?side4 A4.out).mono ?_); (case side1 => repeat (first | exact (Kd.C_below HR0_1.out HB.out) | (with_reducible refine Kd.C_alloc ?_ _) | (with_reducible refine Kd.C_drewN ?_ _) | (with_reducible refine Kd.C_drew ?_))); (case side2 => exact HC0_1.out); (case side3 => repeat (first | exact (Kd.C_below HR1_1.out HB.out) | (with_reducible refine Kd.C_alloc ?_ _) | (with_reducible refine Kd.C_drewN ?_ _) | (with_reducible refine Kd.C_drew ?_))); (case side4 => exact HC1_1.out); rintro e w' ⟨rfl, ⟨nd, rfl⟩⟩; refine ⟨_, rfl, ?_⟩))
   go_ret
   exact ⟨by first | rfl | (simp [errW_none, errW_some] <;> rfl) | (simp [*, errW_none, errW_some] <;> rfl), by repeat (first | (with_reducible first | exact HB.out | apply below_alloc | apply pw_below_drewN | apply below_drew1 | refine below_set ?_ GE281.out | refine below_set ?_ GE282.out) | exact HB.out)⟩
 ·rw [if_neg c3] at H
  have c3b0 : (a0_0 == a1_0) = false := beq_eq_false_iff_ne.mpr c3
  have c3b1 : (a0_0 != a1_0) = true := bne_iff_ne.mpr c3
  obtain rfl := Option.some.inj H
  go_enter Tryd.func8, Tryd.ntmps8
  go_wp2_with (first | ((with_reducible refine gate_dst (N := 2) rfl ?_); refine box_event ?hg (N := 2) ?hd (cs := #[.int .i64 a0_0, .slice A0_1 l0_1.length c0_1]) (t := 24) ?hr ?_; (case hd => rfl); (case hg => rfl); (case hr => first | (go_simp; done) | (go_simp; rfl)); intro gb281 hg w16 hbox hb; have n0_ := Aside0.mk (below_step (by repeat (first | (with_reducible first | exact HB.out | apply below_alloc | apply pw_below_drewN | apply below_drew1) | exact HB.out)) hb); have n1_ := Aside0.mk (hbox); have n2_ := Aside0.mk ((by rw [hg]; exact (below_size (by repeat (first | (with_reducible first | exact HB.out | apply below_alloc | apply pw_below_drewN | apply below_drew1) | exact HB.out))) : w.heap.size ≤ gb281)); have n3_ := Aside0.mk ((by rw [hg]; exact (below_size (by repeat (first | (with_reducible first | exact HB.out | apply below_alloc | apply pw_below_drewN | apply below_drew1) | exact HB.out))) : w.heap.size ≤ gb281)); clear HB; have HB := n0_; have BK281 := n1_; have GW281 := n2_; have GE281 := n3_; clear n0_ n1_ n2_ n3_; clear hb hbox hg) | ((with_reducible refine gate_dst (N := 3) rfl ?_); refine box_event ?hg (N := 3) ?hd (cs := #[.int .i64 a1_0, .slice A1_1 l1_1.length c1_1]) (t := 24) ?hr ?_; (case hd => rfl); (case hg => rfl); (case hr => first | (go_simp; done) | (go_simp; rfl)); intro gb282 hg w17 hbox hb; have n0_ := Aside0.mk (blk_below (g := gb281) (o := .cells #[.int .i64 a0_0, .slice A0_1 l0_1.length c0_1] 24 (0, 0)) (by (with_reducible repeat (first | refine blk_drewN ?_ _ | refine blk_drew ?_ | refine blk_alloc ?_ _)); exact BK281.out) hb); have n1_ := Aside0.mk (below_step (by repeat (first | (with_reducible first | exact HB.out | apply below_alloc | apply pw_below_drewN | apply below_drew1 | refine below_set ?_ GE281.out) | exact HB.out)) hb); have n2_ := Aside0.mk (hbox); have n3_ := Aside0.mk ((by rw [hg]; exact (below_size (by repeat (first | (with_reducible first | exact HB.out | apply below_alloc | apply pw_below_drewN | apply below_drew1 | refine below_set ?_ GE281.out) | exact HB.out))) : w.heap.size ≤ gb282)); have n4_ := Aside0.mk ((by rw [hg]; exact (below_size (by repeat (first | (with_reducible first | exact HB.out | apply below_alloc | apply pw_below_drewN | apply below_drew1 | refine below_set ?_ GE281.out) | exact HB.out))) : w.heap.size ≤ gb282)); have n5_ := Aside0.mk ((by rw [hg]; exact Nat.ne_of_lt (blk_lt (g := gb281) (o := .cells #[.int .i64 a0_0, .slice A0_1 l0_1.length c0_1] 24 (0, 0)) (by (with_reducible repeat (first | refine blk_drewN ?_ _ | refine blk_drew ?_ | refine blk_alloc ?_ _)); exact BK281.out)) : gb281 ≠ gb282)); have n6_ := Aside0.mk ((by rw [hg]; exact Nat.ne_of_gt (blk_lt (g := gb281) (o := .cells #[.int .i64 a0_0, .slice A0_1 l0_1.length c0_1] 24 (0, 0)) (by (with_reducible repeat (first | refine blk_drewN ?_ _ | refine blk_drew ?_ | refine blk_alloc ?_ _)); exact BK281.out)) : gb282 ≠ gb281)); clear BK281; clear HB; have BK281 := n0_; have HB := n1_; have BK282 := n2_; have GW282 := n3_; have GE282 := n4_; have NB281_282 := n5_; have NB282_281 := n6_; clear n0_ n1_ n2_ n3_ n4_ n5_ n6_; clear hb hbox hg; have hnb18 := NB281_282.out; have hnc18 := NB282_281.out; have hcz19_0 : w17.cell? ⟨gb281, 0, none⟩ = some (.int .i64 a0_0) := (blk_cell BK281.out 0).trans rfl; have hcz19_1 : w17.cell? ⟨gb281, 1, none⟩ = some (.slice A0_1 l0_1.length c0_1) := (blk_cell BK281.out 1).trans rfl; have hfz19_0 := blk_frozen BK281.out 0; have hfz19_1 := blk_frozen BK281.out 1; have hcz20_0 : w17.cell? ⟨gb282, 0, none⟩ = some (.int .i64 a1_0) := (blk_cell BK282.out 0).trans rfl; have hcz20_1 : w17.cell? ⟨gb282, 1, none⟩ = some (.slice A1_1 l1_1.length c1_1) := (blk_cell BK282.out 1).trans rfl; have hfz20_0 := blk_frozen BK282.out 0; have hfz20_1 := blk_frozen BK282.out 1))
  go_ret
  exact ⟨by first | rfl | (simp [errW_none, errW_some] <;> rfl) | (simp [*, errW_none, errW_some] <;> rfl), by repeat (first | (with_reducible first | exact HB.out | apply below_alloc | apply pw_below_drewN | apply below_drew1 | refine below_set ?_ GE281.out | refine below_set ?_ GE282.out) | exact HB.out)⟩

/-! ### laws_markInt64S: function 25 -/
def laws_markInt64S.l0 : Nat → List Int → Int → Int → Option (Int × List Int)
 | 0, _, _, _ => none
 | k + 1, x0, x1, x5 => if x5 < (x0.length : Int) then (if 0 ≤ x5 then (laws_markInt64S.l0 k (x0.set (x5 : Int).toNat x1) (wrap64 (x1 + 1)) (wrap64 (x5 + 1))) else (none)) else (some (x1, x0))
def laws_markInt64S.f (k : Nat) (l0 : List Int) (a1 : Int) : Option (Int × List Int) := laws_markInt64S.l0 k l0 a1 0
theorem laws_markInt64S.mono_l : ∀ k, (∀ y0 y1 y2, LeO (laws_markInt64S.l0 k y0 y1 y2) (laws_markInt64S.l0 (k + 1) y0 y1 y2))
 | 0 => fun _ _ _ r h => by simp [laws_markInt64S.l0] at h
 | k + 1 => by
  have ih0 := laws_markInt64S.mono_l k
  ·intro y0 y1 y2
   unfold laws_markInt64S.l0
   repeat' first
   | (with_reducible exact ih0 _ _ _)
   | (with_reducible exact LeO.refl _)
   | (with_reducible exact LeO.none _)
   | (with_reducible refine LeO.ite ?_ ?_)
   | (with_reducible refine LeO.bind ?_ (fun _ => ?_))
   | exact ih0 _ _ _
   | exact LeO.none _
   | refine LeO.ite ?_ ?_
   | refine LeO.bind ?_ (fun _ => ?_)
theorem laws_markInt64S.mono : ∀ a0 a1 k, LeO (laws_markInt64S.f k a0 a1) (laws_markInt64S.f (k + 1) a0 a1) := by
 intro a0 a1 k
 have ih0 := laws_markInt64S.mono_l k
 unfold laws_markInt64S.f
 repeat' first
   | (with_reducible exact ih0 _ _ _)
   | (with_reducible exact LeO.refl _)
   | (with_reducible exact LeO.none _)
   | (with_reducible refine LeO.ite ?_ ?_)
   | (with_reducible refine LeO.bind ?_ (fun _ => ?_))
   | exact ih0 _ _ _
   | exact LeO.none _
   | refine LeO.ite ?_ ?_
   | refine LeO.bind ?_ (fun _ => ?_)
set_option maxHeartbeats 8000000 in
set_option maxRecDepth 100000 in
theorem laws_markInt64S.calls (k : Nat) (P0_ : Nat → Prop) (u9000_ : Value) (l0 : List Int) (a1 : Int) (r1 : Int) (r2 : List Int) (w0 w : World) (hB : Below w0.heap.size w0 w) (ho0 : Kd.R (Kd.int .i64) 2 w w0.heap.size P0_ u9000_ l0) (h : laws_markInt64S.f k l0 a1 = some (r1, r2)) :
  Calls Tryd.prog 25 #[u9000_, .int .i64 a1] w fun e w' => e = .returned (.int .i64 r1) ∧ Kd.R (Kd.int .i64) 2 w' w0.heap.size (fun k_ => (P0_ k_ ∨ w.heap.size ≤ k_)) u9000_ r2 ∧ Below w0.heap.size w0 w' ∧ Kept w w' (fun k_ => P0_ k_) := by
 have HO0 := Aside0.mk (show Kd.R (Kd.int .i64) 2 w w0.heap.size (fun k_ => (P0_ k_ ∨ w.heap.size ≤ k_)) u9000_ l0 from Kd.R_mono ho0 (fun k_ hk => (.inl hk)))
 have HK := Aside0.mk (Kept.refl w (fun k_ => P0_ k_))
 have HW0 := Aside0.mk hB.size
 have HB := Aside0.mk hB
 clear hB
 have H : (laws_markInt64S.l0 k l0 a1 0) = some (r1, r2) := h
 clear h
 have H' := Aside0.mk H
 clear H
 go_enter Tryd.func25, Tryd.ntmps25
 go_wp2
 go_loopg [1, 5] k (fun kq v1 v5 w' => ∃ (x0_1 : List Int) (x1_1 : Int) (x5_1 : Int), v1 = .int .i64 x1_1 ∧ v5 = .int .i64 x5_1 ∧ Aside0 (laws_markInt64S.l0 kq x0_1 x1_1 x5_1 = some (r1, r2)) ∧ Aside0 (kq ≤ k) ∧ Aside0 (Kd.R (Kd.int .i64) 2 w' w0.heap.size (fun k_ => (P0_ k_ ∨ w.heap.size ≤ k_)) u9000_ x0_1) ∧ Aside0 (Kept w w' (fun k_ => P0_ k_)) ∧ Aside0 (Below w0.heap.size w0 w'))
 case atStart => exact ⟨(l0), (a1), (0), (by first | rfl | (simp; done) | (simp [*]; done)), (by first | rfl | (simp; done) | (simp [*]; done)), H', ⟨Nat.le_refl _⟩, ⟨by (with_reducible repeat (first | apply Kd.R_alloc | apply Kd.R_drewN | apply Kd.R_drew)); exact HO0.out⟩, ⟨by repeat (first | (with_reducible first | exact HK.out | apply Kept.alloc | apply Kept.drewN | apply Kept.drew) | exact HK.out)⟩, ⟨by repeat (first | (with_reducible first | exact HB.out | apply below_alloc | apply pw_below_drewN | apply below_drew1) | exact HB.out)⟩⟩
 case round =>
  clear H'
  try clear c2
  try clear p2
  obtain ⟨x0_1, x1_1, x5_1, rfl, rfl, HA, HK1, HO_0, HK, HB⟩ := hrel
  cases gk with
  | zero => exact absurd HA.out (by simp [laws_markInt64S.l0])
  | succ k1 =>
   have H := HA.out
   clear HA
   simp only [laws_markInt64S.l0] at H
   by_cases c3 : x5_1 < (x0_1.length : Int)
   ·rw [if_pos c3] at H
    have c3b0 : decide (x5_1 < (x0_1.length : Int)) = true := decide_eq_true c3
    clear c3
    by_cases c4 : 0 ≤ x5_1
    ·rw [if_pos c4] at H
     have c4b0 : decide (0 ≤ x5_1) = true := decide_eq_true c4
     clear c4
     obtain ⟨y284, hy284⟩ : ∃ y_ : List Int, y_ = (x0_1.set (x5_1 : Int).toNat x1_1) := ⟨_, rfl⟩
     replace H : (laws_markInt64S.l0 k1 y284 (wrap64 (x1_1 + 1)) (wrap64 (x5_1 + 1))) = some (r1, r2) := by first | (rw [hy284]; with_reducible exact H) | (have H2_ := (Option.bind_some _ _).symm.trans H; rw [hy284]; with_reducible exact H2_) | (have H2_ := (Option.bind_some _ _).symm.trans H; with_reducible exact H2_) | with_reducible exact H | (rw [hy284]; exact H) | exact H
     have Ny284 := Aside0.mk hy284
     clear hy284
     have H' := Aside0.mk H
     clear H
     obtain ⟨Ao6, co6, eo6⟩ := Kd.R_slice HO_0.out
     subst eo6
     have p5 : 0 ≤ (x5_1 : Int) := of_decide_eq_true (by first | (with_reducible assumption) | assumption)
     have q5 : (x5_1 : Int) < ((x0_1.length : Int) : Int) := of_decide_eq_true (by first | (with_reducible assumption) | assumption)
     obtain ⟨go5, co5, eo5, gb5, gl5, cl5, HG5⟩ := Kd.R_form HO_0.out (by omega)
     (first | cases eo5 | (injection eo5 with ea_ en_ ec_; (first | subst ea_ | (injection ea_ with ea_; subst ea_)); subst ec_; clear en_))
     have GB5 := Aside0.mk gb5
     have GG5 := Aside0.mk HG5
     clear gb5 gl5 HG5
     have HMgo5 := Aside0.mk (show (P0_ go5 ∨ w.heap.size ≤ go5) from (HO_0.out.1 _ rfl))
     obtain ⟨hx5_0, hf5_0⟩ := Kd.R_celln 0 HO_0.out (x5_1 : Int) p5 q5
     replace p5 := eq_true p5
     replace q5 := eq_true q5
     have HP7 := Kd.R_putg HO_0.out (x5_1 : Int) x1_1
     go_wp2_with (first | ((with_reducible refine gate_store (t := 2) (p := 15) rfl ?_); refine store_event (t := 2) (p := 15) (v := ?vo_w8) (w1 := (wr.setCell ⟨go5, (x5_1 : Int).toNat, none⟩ (.int .i64 x1_1))) ?hg ?ho ?hn ?hr ?_; (case ho => rfl); (case hg => rfl); (case hn => rfl); (case hr => first | (go_simp; done) | (go_simp; rfl)); intro w8 hw; have hg : wr.grownBy w8 (some go5) := (by rw [hw]; exact HP7.2); have hp_ : Kd.R (Kd.int .i64) 2 w8 w0.heap.size (fun k_ => (P0_ k_ ∨ w.heap.size ≤ k_)) (.slice (some ⟨go5, 0, none⟩) x0_1.length co6) y284 := (by rw [hw, Ny284.out]; exact HP7.1); clear HP7; have n0_ := Aside0.mk (hp_); have n1_ := Aside0.mk ((by rw [hw]; exact below_set (HB.out) GB5.out : Below w0.heap.size w0 w8)); have n2_ := Aside0.mk (Kept.of_grown (S := (fun k_ => P0_ k_)) hg (by repeat (first | (with_reducible first | exact HK.out | apply Kept.alloc | apply Kept.drewN | apply Kept.drew) | exact HK.out)) (fun k_ e_ => (HO_0.out.1 k_ e_))); clear HO_0; clear HB; clear HK; have HO_0 := n0_; have HB := n1_; have HK := n2_; clear n0_ n1_ n2_; clear hg hw hp_))
     go_roundg k1
     case measure => have := HK1.out; omega
     case rel => exact ⟨(y284), (wrap64 (x1_1 + 1)), (wrap64 (x5_1 + 1)), (by first | rfl | (simp; done) | (simp [*]; done)), (by first | rfl | (simp; done) | (simp [*]; done)), H', ⟨by have := HK1.out; omega⟩, ⟨by (with_reducible repeat (first | apply Kd.R_alloc | apply Kd.R_drewN | apply Kd.R_drew)); exact HO_0.out⟩, ⟨by repeat (first | (with_reducible first | exact HK.out | apply Kept.alloc | apply Kept.drewN | apply Kept.drew) | exact HK.out)⟩, ⟨by repeat (first | (with_reducible first | exact HB.out | apply below_alloc | apply pw_below_drewN | apply below_drew1) | exact HB.out)⟩⟩
    ·rw [if_neg c4] at H
     exact absurd H (by simp)
   ·rw [if_neg c3] at H
    have c3b0 : decide (x5_1 < (x0_1.length : Int)) = false := decide_eq_false c3
    clear c3
    simp only [Option.some.injEq, Prod.mk.injEq] at H
    obtain ⟨rfl, rfl⟩ := H
    obtain ⟨Ao9, co9, eo9⟩ := Kd.R_slice HO_0.out
    subst eo9
    go_wp2
    go_ret
    exact ⟨by first | rfl | (simp [errW_none, errW_some] <;> rfl) | (simp [*, errW_none, errW_some] <;> rfl), by (with_reducible repeat (first | apply Kd.R_alloc | apply Kd.R_drewN | apply Kd.R_drew)); exact HO_0.out, by repeat (first | (with_reducible first | exact HB.out | apply below_alloc | apply pw_below_drewN | apply below_drew1) | exact HB.out), by repeat (first | (with_reducible first | exact HK.out | apply Kept.alloc | apply Kept.drewN | apply Kept.drew) | exact HK.out)⟩

/-! ### laws_markComplex: function 9 -/
def laws_markComplex.f (k : Nat) (a0_0 : Int) (l0_1 : List Int) (a1 : Int) : Option (Int × List Int) := (laws_markInt64S.f k l0_1 a1).bind fun bt286 => (some (bt286.1, bt286.2))
theorem laws_markComplex.mono : ∀ a0 a1 a2 k, LeO (laws_markComplex.f k a0 a1 a2) (laws_markComplex.f (k + 1) a0 a1 a2) := by
 intro a0 a1 a2 k
 unfold laws_markComplex.f
 repeat' first
   | (with_reducible exact laws_markInt64S.mono _ _ _)
   | (with_reducible exact LeO.refl _)
   | (with_reducible exact LeO.none _)
   | (with_reducible refine LeO.ite ?_ ?_)
   | (with_reducible refine LeO.bind ?_ (fun _ => ?_))
   | exact laws_markInt64S.mono _ _ _
   | exact LeO.none _
   | refine LeO.ite ?_ ?_
   | refine LeO.bind ?_ (fun _ => ?_)
set_option maxHeartbeats 8000000 in
set_option maxRecDepth 100000 in
theorem laws_markComplex.calls (k : Nat) (a0_0 : Int) (P0_1_ : Nat → Prop) (u9000_ : Value) (l0_1 : List Int) (a1 : Int) (r1 : Int) (r2 : List Int) (w0 w : World) (hB : Below w0.heap.size w0 w) (ho0_1 : Kd.R (Kd.int .i64) 2 w w0.heap.size P0_1_ u9000_ l0_1) (h : laws_markComplex.f k a0_0 l0_1 a1 = some (r1, r2)) :
  Calls Tryd.prog 9 #[.agg #[.int .i64 a0_0, u9000_], .int .i64 a1] w fun e w' => e = .returned (.int .i64 r1) ∧ Kd.R (Kd.int .i64) 2 w' w0.heap.size (fun k_ => (P0_1_ k_ ∨ w.heap.size ≤ k_)) u9000_ r2 ∧ Below w0.heap.size w0 w' ∧ Kept w w' (fun k_ => P0_1_ k_) := by
 have hu24 := Tryd.underlying24
 have HO0_1 := Aside0.mk (show Kd.R (Kd.int .i64) 2 w w0.heap.size (fun k_ => (P0_1_ k_ ∨ w.heap.size ≤ k_)) u9000_ l0_1 from Kd.R_mono ho0_1 (fun k_ hk => (.inl hk)))
 have HK := Aside0.mk (Kept.refl w (fun k_ => P0_1_ k_))
 have HW0 := Aside0.mk hB.size
 have HB := Aside0.mk hB
 clear hB
 have H : ((laws_markInt64S.f k l0_1 a1).bind fun bt286 => (some (bt286.1, bt286.2))) = some (r1, r2) := h
 clear h
 replace H := Option.bind_eq_some_iff.mp H
 obtain ⟨⟨t286, t287⟩, A30, H⟩ := H
 replace H : (some (t286, t287)) = some (r1, r2) := H
 have A3 := Aside0.mk A30
 clear A30
 simp only [Option.some.injEq, Prod.mk.injEq] at H
 obtain ⟨rfl, rfl⟩ := H
 obtain ⟨Ao4, co4, eo4⟩ := Kd.R_slice HO0_1.out
 subst eo4
 go_enter Tryd.func9, Tryd.ntmps9
 go_wp2_with (first | ((with_reducible refine gate_dst (N := 2) rfl ?_); refine box_event ?hg (N := 2) ?hd (cs := #[.int .i64 a0_0, .slice Ao4 l0_1.length co4]) (t := 24) ?hr ?_; (case hd => rfl); (case hg => rfl); (case hr => first | (go_simp; done) | (go_simp; rfl)); intro gb285 hg w5 hbox hb; have n0_ := Aside0.mk (Kd.R_below (by (with_reducible repeat (first | apply Kd.R_alloc | apply Kd.R_drewN | apply Kd.R_drew)); exact HO0_1.out) hb); have n1_ := Aside0.mk (Kept.below (S := (fun k_ => P0_1_ k_)) (by repeat (first | (with_reducible first | exact HK.out | apply Kept.alloc | apply Kept.drewN | apply Kept.drew) | exact HK.out)) hb); have n2_ := Aside0.mk (below_step (by repeat (first | (with_reducible first | exact HB.out | apply below_alloc | apply pw_below_drewN | apply below_drew1) | exact HB.out)) hb); have n3_ := Aside0.mk (hbox); have n4_ := Aside0.mk ((by rw [hg]; exact (by first | exact HK.out.1 | exact (show Kept w _ (fun k_ => P0_1_ k_) from by repeat (first | (with_reducible first | exact HK.out | apply Kept.alloc | apply Kept.drewN | apply Kept.drew) | exact HK.out)).1) : w.heap.size ≤ gb285)); have n5_ := Aside0.mk ((by rw [hg]; exact (below_size (by repeat (first | (with_reducible first | exact HB.out | apply below_alloc | apply pw_below_drewN | apply below_drew1) | exact HB.out))) : w0.heap.size ≤ gb285)); clear HO0_1; clear HK; clear HB; have HO0_1 := n0_; have HK := n1_; have HB := n2_; have BK285 := n3_; have GW285 := n4_; have GE285 := n5_; clear n0_ n1_ n2_ n3_ n4_ n5_; clear hb hbox hg; have hcz6_0 : w5.cell? ⟨gb285, 0, none⟩ = some (.int .i64 a0_0) := (blk_cell BK285.out 0).trans rfl; have hcz6_1 : w5.cell? ⟨gb285, 1, none⟩ = some (.slice Ao4 l0_1.length co4) := (blk_cell BK285.out 1).trans rfl; have hfz6_0 := blk_frozen BK285.out 0; have hfz6_1 := blk_frozen BK285.out 1) | ((with_reducible refine gate_callee (f := 25) rfl ?_); refine goesL_ (some 8) rfl rfl Tryd.func25 (by kernel_rfl) rfl #[.slice Ao4 l0_1.length co4, .int .i64 a1] rfl (by (try simp only [List.map_toArray, List.map_cons, List.map_nil]); first | done | rfl | (simp only [List.length_drop, List.length_take]; rfl)) ?_; (with_reducible refine (laws_markInt64S.calls k (fun k_ => some k_ = (.slice Ao4 l0_1.length co4 : Value).ownBlock) (.slice Ao4 l0_1.length co4) l0_1 a1 t286 t287 w0 _ ?side1 ?side2 A3.out).mono ?_); (case side1 => repeat (first | (with_reducible first | exact HB.out | apply below_alloc | apply pw_below_drewN | apply below_drew1 | refine below_set ?_ GE285.out) | exact HB.out)); (case side2 => exact Kd.R_tight rfl HO0_1.out); rintro e w7 ⟨rfl, hy0, hb, hkp⟩; refine ⟨_, rfl, ?_⟩; have n0_ := Aside0.mk (Kd.R_reok rfl hy0 (fun k_ e_ => HO0_1.out.1 k_ e_)); have n1_ := Aside0.mk (blk_kept (by (with_reducible repeat (first | refine blk_drewN ?_ _ | refine blk_drew ?_ | refine blk_alloc ?_ _)); exact BK285.out) hkp (fun hs_ => (fun e_ => (Kd.R_ne HO0_1.out BK285.out (by decide)) e_) hs_)); have n2_ := Aside0.mk (Kept.then_ (S := (fun k_ => P0_1_ k_)) (by repeat (first | (with_reducible first | exact HK.out | apply Kept.alloc | apply Kept.drewN | apply Kept.drew | refine Kept.setCell ?_ (.inr GW285.out) _) | exact HK.out)) hkp (fun k_ hs_ => (fun e_ => (HO0_1.out.1 k_ e_.symm)) hs_)); have n3_ := Aside0.mk (hb); clear HO0_1; clear BK285; clear HK; clear HB; have HO0_1 := n0_; have BK285 := n1_; have HK := n2_; have HB := n3_; clear n0_ n1_ n2_ n3_; (try clear hb); (try clear hkp); (try clear hy0)))
 go_ret
 exact ⟨by first | rfl | (simp [errW_none, errW_some] <;> rfl) | (simp [*, errW_none, errW_some] <;> rfl), by (with_reducible repeat (first | apply Kd.R_alloc | apply Kd.R_drewN | apply Kd.R_drew)); exact HO0_1.out, by repeat (first | (with_reducible first | exact HB.out | apply below_alloc | apply pw_below_drewN | apply below_drew1 | refine below_set ?_ GE285.out) | exact HB.out), by repeat (first | (with_reducible first | exact HK.out | apply Kept.alloc | apply Kept.drewN | apply Kept.drew | refine Kept.setCell ?_ (.inr GW285.out) _) | exact HK.out)⟩

/-! ### laws_heldInt64S: function 26 -/
def laws_heldInt64S.l0 : Nat → List Int → Int → Int → Option (Int)
 | 0, _, _, _ => none
 | k + 1, x0, x1, x5 => if x5 < (x0.length : Int) then (if 0 ≤ x5 then (if (rd x0 x5) = x1 then (laws_heldInt64S.l0 k x0 (wrap64 (x1 + 1)) (wrap64 (x5 + 1))) else (some (-1))) else (none)) else (some x1)
def laws_heldInt64S.f (k : Nat) (l0 : List Int) (a1 : Int) : Option (Int) := laws_heldInt64S.l0 k l0 a1 0
theorem laws_heldInt64S.mono_l : ∀ k, (∀ y0 y1 y2, LeO (laws_heldInt64S.l0 k y0 y1 y2) (laws_heldInt64S.l0 (k + 1) y0 y1 y2))
 | 0 => fun _ _ _ r h => by simp [laws_heldInt64S.l0] at h
 | k + 1 => by
  have ih0 := laws_heldInt64S.mono_l k
  ·intro y0 y1 y2
   unfold laws_heldInt64S.l0
   repeat' first
   | (with_reducible exact ih0 _ _ _)
   | (with_reducible exact LeO.refl _)
   | (with_reducible exact LeO.none _)
   | (with_reducible refine LeO.ite ?_ ?_)
   | (with_reducible refine LeO.bind ?_ (fun _ => ?_))
   | exact ih0 _ _ _
   | exact LeO.none _
   | refine LeO.ite ?_ ?_
   | refine LeO.bind ?_ (fun _ => ?_)
theorem laws_heldInt64S.mono : ∀ a0 a1 k, LeO (laws_heldInt64S.f k a0 a1) (laws_heldInt64S.f (k + 1) a0 a1) := by
 intro a0 a1 k
 have ih0 := laws_heldInt64S.mono_l k
 unfold laws_heldInt64S.f
 repeat' first
   | (with_reducible exact ih0 _ _ _)
   | (with_reducible exact LeO.refl _)
   | (with_reducible exact LeO.none _)
   | (with_reducible refine LeO.ite ?_ ?_)
   | (with_reducible refine LeO.bind ?_ (fun _ => ?_))
   | exact ih0 _ _ _
   | exact LeO.none _
   | refine LeO.ite ?_ ?_
   | refine LeO.bind ?_ (fun _ => ?_)
set_option maxHeartbeats 8000000 in
set_option maxRecDepth 100000 in
theorem laws_heldInt64S.calls (k : Nat) (A0 : Option Addr) (c0 : Nat) (l0 : List Int) (a1 : Int) (r : Int) (w : World) (hr0 : Kd.C (Kd.int .i64) w A0 l0.length l0) (hc0 : l0.length ≤ c0) (h : laws_heldInt64S.f k l0 a1 = some r) :
  Calls Tryd.prog 26 #[.slice A0 l0.length c0, .int .i64 a1] w fun e w' => e = .returned (.int .i64 r) ∧ Drawn0 w w' := by
 have HR0 := Aside0.mk hr0
 have HC0 := Aside0.mk hc0
 clear hr0 hc0
 have H : (laws_heldInt64S.l0 k l0 a1 0) = some r := h
 clear h
 have H' := Aside0.mk H
 clear H
 go_enter Tryd.func26, Tryd.ntmps26
 go_wp2
 go_loopg [1, 5] k (fun kq v1 v5 w' => ∃ (x1_1 : Int) (x5_1 : Int), v1 = .int .i64 x1_1 ∧ v5 = .int .i64 x5_1 ∧ Aside0 (laws_heldInt64S.l0 kq l0 x1_1 x5_1 = some r) ∧ Aside0 (kq ≤ k) ∧ Drawn0 w w')
 case atStart => exact ⟨(a1), (0), (by first | rfl | (simp; done) | (simp [*]; done)), (by first | rfl | (simp; done) | (simp [*]; done)), H', ⟨Nat.le_refl _⟩, by repeat (first | exact Drawn0.refl _ | apply Drawn0.step)⟩
 case round =>
  clear H'
  try clear c2
  try clear p2
  obtain ⟨x1_1, x5_1, rfl, rfl, HA, HK1, ⟨m1, rfl⟩⟩ := hrel
  cases gk with
  | zero => exact absurd HA.out (by simp [laws_heldInt64S.l0])
  | succ k1 =>
   have H := HA.out
   clear HA
   simp only [laws_heldInt64S.l0] at H
   by_cases c3 : x5_1 < (l0.length : Int)
   ·rw [if_pos c3] at H
    have c3b0 : decide (x5_1 < (l0.length : Int)) = true := decide_eq_true c3
    clear c3
    by_cases c4 : 0 ≤ x5_1
    ·rw [if_pos c4] at H
     have c4b0 : decide (0 ≤ x5_1) = true := decide_eq_true c4
     clear c4
     by_cases c5 : (rd l0 x5_1) = x1_1
     ·rw [if_pos c5] at H
      have c5b0 : ((rd l0 x5_1) == x1_1) = true := beq_iff_eq.mpr c5
      have c5b1 : ((rd l0 x5_1) != x1_1) = false := bne_eq_false_iff_eq.mpr c5
      clear c5
      have H' := Aside0.mk H
      clear H
      have p288 : 0 ≤ (x5_1 : Int) := of_decide_eq_true (by first | (with_reducible assumption) | assumption)
      have q288 : x5_1 < (l0.length : Int) := of_decide_eq_true (by first | (with_reducible assumption) | assumption)
      obtain ⟨ad288, e288, hx288_0⟩ := Kd.at_int HR0.out x5_1 p288 q288
      cases e288
      replace p288 := eq_true p288
      replace q288 := eq_true q288
      go_wp2
      go_roundg k1
      case measure => have := HK1.out; omega
      case rel => exact ⟨(wrap64 (x1_1 + 1)), (wrap64 (x5_1 + 1)), (by first | rfl | (simp; done) | (simp [*]; done)), (by first | rfl | (simp; done) | (simp [*]; done)), H', ⟨by have := HK1.out; omega⟩, by repeat (first | exact Drawn0.refl _ | apply Drawn0.step)⟩
     ·rw [if_neg c5] at H
      have c5b0 : ((rd l0 x5_1) == x1_1) = false := beq_eq_false_iff_ne.mpr c5
      have c5b1 : ((rd l0 x5_1) != x1_1) = true := bne_iff_ne.mpr c5
      obtain rfl := Option.some.inj H
      have p288 : 0 ≤ (x5_1 : Int) := of_decide_eq_true (by first | (with_reducible assumption) | assumption)
      have q288 : x5_1 < (l0.length : Int) := of_decide_eq_true (by first | (with_reducible assumption) | assumption)
      obtain ⟨ad288, e288, hx288_0⟩ := Kd.at_int HR0.out x5_1 p288 q288
      cases e288
      replace p288 := eq_true p288
      replace q288 := eq_true q288
      go_wp2
      go_ret
      exact ⟨by first | rfl | (simp; done) | (simp [*]; done), by repeat (first | exact Drawn0.refl _ | apply Drawn0.step)⟩
    ·rw [if_neg c4] at H
     exact absurd H (by simp)
   ·rw [if_neg c3] at H
    have c3b0 : decide (x5_1 < (l0.length : Int)) = false := decide_eq_false c3
    clear c3
    obtain rfl := Option.some.inj H
    go_wp2
    go_ret
    exact ⟨by first | rfl | (simp; done) | (simp [*]; done), by repeat (first | exact Drawn0.refl _ | apply Drawn0.step)⟩

end Go.Proofs.YtaeabbackmnioaaDoor.Q
end

section
/- Written by a program of this session (myprint.py over the kit's print). -/
namespace Go.Proofs.YtaeabbackmnioaaDoor.Q
open Go.RowKit Go.Proofs.YtaeabbackmnioaaDoorW.PrintWords Go.Proofs.YtaeabbackmnioaaDoorW.PrintLast Go.Proofs.YtaeabbackmnioaaDoorW.PrintMore
attribute [local go_sem] max2_int min2_int max_two min_two max_three min_three max_four min_four   -- for this text's walks alone
set_option linter.unusedVariables false
set_option linter.unusedSimpArgs false

/-! ### laws_heldComplex: function 10 -/
def laws_heldComplex.f (k : Nat) (a0_0 : Int) (l0_1 : List Int) (a1 : Int) : Option (Int) := (laws_heldInt64S.f k l0_1 a1).bind fun t290 => (if t290 < 0 then (some (-1)) else (some t290))
theorem laws_heldComplex.mono : ∀ a0 a1 a2 k, LeO (laws_heldComplex.f k a0 a1 a2) (laws_heldComplex.f (k + 1) a0 a1 a2) := by
 intro a0 a1 a2 k
 unfold laws_heldComplex.f
 repeat' first
   | (with_reducible exact laws_heldInt64S.mono _ _ _)
   | (with_reducible exact LeO.refl _)
   | (with_reducible exact LeO.none _)
   | (with_reducible refine LeO.ite ?_ ?_)
   | (with_reducible refine LeO.bind ?_ (fun _ => ?_))
   | exact laws_heldInt64S.mono _ _ _
   | exact LeO.none _
   | refine LeO.ite ?_ ?_
   | refine LeO.bind ?_ (fun _ => ?_)
set_option maxHeartbeats 8000000 in
set_option maxRecDepth 100000 in
theorem laws_heldComplex.calls (k : Nat) (a0_0 : Int) (A0_1 : Option Addr) (c0_1 : Nat) (l0_1 : List Int) (a1 : Int) (r : Int) (w : World) (hr0_1 : Kd.C (Kd.int .i64) w A0_1 l0_1.length l0_1) (hc0_1 : l0_1.length ≤ c0_1) (h : laws_heldComplex.f k a0_0 l0_1 a1 = some r) :
  Calls Tryd.prog 10 #[.agg #[.int .i64 a0_0, .slice A0_1 l0_1.length c0_1], .int .i64 a1] w fun e w' => e = .returned (.int .i64 r) ∧ Below w.heap.size w w' := by
 have hu24 := Tryd.underlying24
 have HR0_1 := Aside0.mk hr0_1
 have HC0_1 := Aside0.mk hc0_1
 clear hr0_1 hc0_1
 have HB := Aside0.mk (Below.refl w.heap.size w)
 have H : ((laws_heldInt64S.f k l0_1 a1).bind fun t290 => (if t290 < 0 then (some (-1)) else (some t290))) = some r := h
 clear h
 replace H := Option.bind_eq_some_iff.mp H
 obtain ⟨t290, A30, H⟩ := H
 replace H : (if t290 < 0 then (some (-1)) else (some t290)) = some r := H
 have A3 := Aside0.mk A30
 clear A30
 by_cases c4 : t290 < 0
 ·rw [if_pos c4] at H
  have c4b0 : decide (t290 < 0) = true := decide_eq_true c4
  clear c4
  obtain rfl := Option.some.inj H
  go_enter Tryd.func10, Tryd.ntmps10
  go_wp2_with (first | ((with_reducible refine gate_dst (N := 2) rfl ?_); refine box_event ?hg (N := 2) ?hd (cs := #[.int .i64 a0_0, .slice A0_1 l0_1.length c0_1]) (t := 24) ?hr ?_; (case hd => rfl); (case hg => rfl); (case hr => first | (go_simp; done) | (go_simp; rfl)); intro gb289 hg w5 hbox hb; have n0_ := Aside0.mk (below_step (by repeat (first | (with_reducible first | exact HB.out | apply below_alloc | apply pw_below_drewN | apply below_drew1) | exact HB.out)) hb); have n1_ := Aside0.mk (hbox); have n2_ := Aside0.mk ((by rw [hg]; exact (below_size (by repeat (first | (with_reducible first | exact HB.out | apply below_alloc | apply pw_below_drewN | apply below_drew1) | exact HB.out))) : w.heap.size ≤ gb289)); have n3_ := Aside0.mk ((by rw [hg]; exact (below_size (by repeat (first | (with_reducible first | exact HB.out | apply below_alloc | apply pw_below_drewN | apply below_drew1) | exact HB.out))) : w.heap.size ≤ gb289)); clear HB; have HB := n0_; have BK289 := n1_; have GW289 := n2_; have GE289 := n3_; clear n0_ n1_ n2_ n3_; clear hb hbox hg; have hcz6_0 : w5.cell? ⟨gb289, 0, none⟩ = some (.int .i64 a0_0) := (blk_cell BK289.out 0).trans rfl; have hcz6_1 : w5.cell? ⟨gb289, 1, none⟩ = some (.slice A0_1 l0_1.length c0_1) := (blk_cell BK289.out 1).trans rfl; have hfz6_0 := blk_frozen BK289.out 0; have hfz6_1 := blk_frozen BK289.out 1) | ((with_reducible refine gate_callee (f := 26) rfl ?_); refine goesL_ (some 8) rfl rfl Tryd.func26 (by kernel_rfl) rfl #[.slice A0_1 l0_1.length c0_1, .int .i64 a1] rfl (by (try simp only [List.map_toArray, List.map_cons, List.map_nil]); first | done | rfl | (simp only [List.length_drop, List.length_take]; rfl)) ?_; (with_reducible refine (laws_heldInt64S.calls k _ _ l0_1 a1 t290 _ ?side1 ?side2 A3.out).mono ?_); (case side1 => repeat (first | exact (Kd.C_below HR0_1.out HB.out) | (with_reducible refine Kd.C_alloc ?_ _) | (with_reducible refine Kd.C_drewN ?_ _) | (with_reducible refine Kd.C_drew ?_))); (case side2 => exact HC0_1.out); rintro e w' ⟨rfl, ⟨nd, rfl⟩⟩; refine ⟨_, rfl, ?_⟩))
  go_ret
  exact ⟨by first | rfl | (simp [errW_none, errW_some] <;> rfl) | (simp [*, errW_none, errW_some] <;> rfl), by repeat (first | (with_reducible first | exact HB.out | apply below_alloc | apply pw_below_drewN | apply below_drew1 | refine below_set ?_ GE289.out) | exact HB.out)⟩
 ·rw [if_neg c4] at H
  have c4b0 : decide (t290 < 0) = false := decide_eq_false c4
  clear c4
  obtain rfl := Option.some.inj H
  go_enter Tryd.func10, Tryd.ntmps10
  go_wp2_with (first | ((with_reducible refine gate_dst (N := 2) rfl ?_); refine box_event ?hg (N := 2) ?hd (cs := #[.int .i64 a0_0, .slice A0_1 l0_1.length c0_1]) (t := 24) ?hr ?_; (case hd => rfl); (case hg => rfl); (case hr => first | (go_simp; done) | (go_simp; rfl)); intro gb289 hg w7 hbox hb; have n0_ := Aside0.mk (below_step (by repeat (first | (with_reducible first | exact HB.out | apply below_alloc | apply pw_below_drewN | apply below_drew1) | exact HB.out)) hb); have n1_ := Aside0.mk (hbox); have n2_ := Aside0.mk ((by rw [hg]; exact (below_size (by repeat (first | (with_reducible first | exact HB.out | apply below_alloc | apply pw_below_drewN | apply below_drew1) | exact HB.out))) : w.heap.size ≤ gb289)); have n3_ := Aside0.mk ((by rw [hg]; exact (below_size (by repeat (first | (with_reducible first | exact HB.out | apply below_alloc | apply pw_below_drewN | apply below_drew1) | exact HB.out))) : w.heap.size ≤ gb289)); clear HB; have HB := n0_; have BK289 := n1_; have GW289 := n2_; have GE289 := n3_; clear n0_ n1_ n2_ n3_; clear hb hbox hg; have hcz8_0 : w7.cell? ⟨gb289, 0, none⟩ = some (.int .i64 a0_0) := (blk_cell BK289.out 0).trans rfl; have hcz8_1 : w7.cell? ⟨gb289, 1, none⟩ = some (.slice A0_1 l0_1.length c0_1) := (blk_cell BK289.out 1).trans rfl; have hfz8_0 := blk_frozen BK289.out 0; have hfz8_1 := blk_frozen BK289.out 1) | ((with_reducible refine gate_callee (f := 26) rfl ?_); refine goesL_ (some 8) rfl rfl Tryd.func26 (by kernel_rfl) rfl #[.slice A0_1 l0_1.length c0_1, .int .i64 a1] rfl (by (try simp only [List.map_toArray, List.map_cons, List.map_nil]); first | done | rfl | (simp only [List.length_drop, List.length_take]; rfl)) ?_; (with_reducible refine (laws_heldInt64S.calls k _ _ l0_1 a1 t290 _ ?side1 ?side2 A3.out).mono ?_); (case side1 => repeat (first | exact (Kd.C_below HR0_1.out HB.out) | (with_reducible refine Kd.C_alloc ?_ _) | (with_reducible refine Kd.C_drewN ?_ _) | (with_reducible refine Kd.C_drew ?_))); (case side2 => exact HC0_1.out); rintro e w' ⟨rfl, ⟨nd, rfl⟩⟩; refine ⟨_, rfl, ?_⟩))
  go_ret
  exact ⟨by first | rfl | (simp [errW_none, errW_some] <;> rfl) | (simp [*, errW_none, errW_some] <;> rfl), by repeat (first | (with_reducible first | exact HB.out | apply below_alloc | apply pw_below_drewN | apply below_drew1 | refine below_set ?_ GE289.out) | exact HB.out)⟩

/-! ### laws_szInt64S: function 29 -/
/-! ### laws_szComplex: function 13 -/
/-! ### impl_Complex_full: function 81 -/
/-! ### impl_isIn: function 50 -/
def impl_isIn.f (a0 : Int) (a1 : Int) : Option (Bool) := some ((Go.bits .andNot .i64 a0 a1) == 0)
set_option maxHeartbeats 8000000 in
set_option maxRecDepth 100000 in
theorem impl_isIn.calls (a0 : Int) (a1 : Int) (r : Bool) (w : World) (h : impl_isIn.f a0 a1 = some r) :
  Calls Tryd.prog 50 #[.int .i64 a0, .int .i64 a1] w fun e w' => e = .returned (.bool r) ∧ Drawn0 w w' := by
 have H : (some ((Go.bits .andNot .i64 a0 a1) == 0)) = some r := h
 clear h
 obtain rfl := Option.some.inj H
 go_enter Tryd.func50, Tryd.ntmps50
 go_wp2
 go_ret
 exact ⟨by first | rfl | (simp; done) | (simp [*]; done), by repeat (first | exact Drawn0.refl _ | apply Drawn0.step)⟩

/-! ### impl_within: function 43 -/
def impl_within.f (a0 : Int) (a1 : Int) (a2 : Int) : Option (Bool) := if a1 ≤ a0 then (some (decide (a0 ≤ a2))) else (some false)
set_option maxHeartbeats 8000000 in
set_option maxRecDepth 100000 in
theorem impl_within.calls (a0 : Int) (a1 : Int) (a2 : Int) (r : Bool) (w : World) (h : impl_within.f a0 a1 a2 = some r) :
  Calls Tryd.prog 43 #[.int .i64 a0, .int .i64 a1, .int .i64 a2] w fun e w' => e = .returned (.bool r) ∧ Drawn0 w w' := by
 have H : (if a1 ≤ a0 then (some (decide (a0 ≤ a2))) else (some false)) = some r := h
 clear h
 by_cases c4 : a1 ≤ a0
 ·rw [if_pos c4] at H
  have c4b0 : decide (a1 ≤ a0) = true := decide_eq_true c4
  clear c4
  obtain rfl := Option.some.inj H
  go_enter Tryd.func43, Tryd.ntmps43
  go_wp2
  go_ret
  exact ⟨by first | rfl | (simp; done) | (simp [*]; done), by repeat (first | exact Drawn0.refl _ | apply Drawn0.step)⟩
 ·rw [if_neg c4] at H
  have c4b0 : decide (a1 ≤ a0) = false := decide_eq_false c4
  clear c4
  obtain rfl := Option.some.inj H
  go_enter Tryd.func43, Tryd.ntmps43
  go_wp2
  go_ret
  exact ⟨by first | rfl | (simp; done) | (simp [*]; done), by repeat (first | exact Drawn0.refl _ | apply Drawn0.step)⟩

/-! ### impl_isSize: function 20 -/
def impl_isSize.f (a0 : Int) : Option (Bool) := (impl_within.f a0 1 6).bind fun t294 => (some t294)
set_option maxHeartbeats 8000000 in
set_option maxRecDepth 100000 in
theorem impl_isSize.calls (a0 : Int) (r : Bool) (w : World) (h : impl_isSize.f a0 = some r) :
  Calls Tryd.prog 20 #[.int .i64 a0] w fun e w' => e = .returned (.bool r) ∧ Drawn0 w w' := by
 have H : ((impl_within.f a0 1 6).bind fun t294 => (some t294)) = some r := h
 clear h
 replace H := Option.bind_eq_some_iff.mp H
 obtain ⟨t294, A20, H⟩ := H
 replace H : (some t294) = some r := H
 have A2 := Aside0.mk A20
 clear A20
 obtain rfl := Option.some.inj H
 go_enter Tryd.func20, Tryd.ntmps20
 go_wp2_with (first | ((with_reducible refine gate_callee (f := 43) rfl ?_); refine goesL_ (some 4) rfl rfl Tryd.func43 (by kernel_rfl) rfl #[.int .i64 a0, .int .i64 1, .int .i64 6] rfl (by (try simp only [List.map_toArray, List.map_cons, List.map_nil]); first | done | rfl | (simp only [List.length_drop, List.length_take]; rfl)) ?_; (with_reducible refine (impl_within.calls a0 1 6 t294 _ A2.out).mono ?_); rintro e w' ⟨rfl, ⟨nd, rfl⟩⟩; refine ⟨_, rfl, ?_⟩))
 go_ret
 exact ⟨by first | rfl | (simp; done) | (simp [*]; done), by repeat (first | exact Drawn0.refl _ | apply Drawn0.step)⟩

/-! ### impl_vertices: function 52 -/
def impl_vertices.l0 : Nat → Int → List Int → Int → Option (List Int)
 | 0, _, _, _ => none
 | k + 1, x0, x3, x5 => if x5 < 6 then (if 0 ≤ x5 then (if (Go.bits .and .i64 (shr .i64 x0 x5) 1) = 1 then (if x3.length < 17592186044416 then (impl_vertices.l0 k x0 (x3 ++ [x5]) (wrap64 (x5 + 1))) else (none)) else (impl_vertices.l0 k x0 x3 (wrap64 (x5 + 1)))) else (none)) else (some x3)
def impl_vertices.f (k : Nat) (a0 : Int) : Option (List Int) := impl_vertices.l0 k a0 ([] : List Int) 0
theorem impl_vertices.mono_l : ∀ k, (∀ y0 y1 y2, LeO (impl_vertices.l0 k y0 y1 y2) (impl_vertices.l0 (k + 1) y0 y1 y2))
 | 0 => fun _ _ _ r h => by simp [impl_vertices.l0] at h
 | k + 1 => by
  have ih0 := impl_vertices.mono_l k
  ·intro y0 y1 y2
   unfold impl_vertices.l0
   repeat' first
   | (with_reducible exact ih0 _ _ _)
   | (with_reducible exact LeO.refl _)
   | (with_reducible exact LeO.none _)
   | (with_reducible refine LeO.ite ?_ ?_)
   | (with_reducible refine LeO.bind ?_ (fun _ => ?_))
   | exact ih0 _ _ _
   | exact LeO.none _
   | refine LeO.ite ?_ ?_
   | refine LeO.bind ?_ (fun _ => ?_)
theorem impl_vertices.mono : ∀ a0 k, LeO (impl_vertices.f k a0) (impl_vertices.f (k + 1) a0) := by
 intro a0 k
 have ih0 := impl_vertices.mono_l k
 unfold impl_vertices.f
 repeat' first
   | (with_reducible exact ih0 _ _ _)
   | (with_reducible exact LeO.refl _)
   | (with_reducible exact LeO.none _)
   | (with_reducible refine LeO.ite ?_ ?_)
   | (with_reducible refine LeO.bind ?_ (fun _ => ?_))
   | exact ih0 _ _ _
   | exact LeO.none _
   | refine LeO.ite ?_ ?_
   | refine LeO.bind ?_ (fun _ => ?_)
set_option maxHeartbeats 8000000 in
set_option maxRecDepth 100000 in
theorem impl_vertices.calls (k : Nat) (a0 : Int) (r : List Int) (w : World) (h : impl_vertices.f k a0 = some r) :
  Calls Tryd.prog 52 #[.int .i64 a0] w fun e w' => ∃ v0_ : Value, e = .returned (v0_) ∧ Kd.R (Kd.int .i64) 2 w' w.heap.size (fun _ => True) v0_ r ∧ Below w.heap.size w w' := by
 have HB := Aside0.mk (Below.refl w.heap.size w)
 have H : (impl_vertices.l0 k a0 ([] : List Int) 0) = some r := h
 clear h
 have H' := Aside0.mk H
 clear H
 go_enter Tryd.func52, Tryd.ntmps52
 go_wp2
 go_loopg [3, 5] k (fun kq v3 v5 w' => ∃ (x3_1 : List Int) (x5_1 : Int), v5 = .int .i64 x5_1 ∧ Aside0 (impl_vertices.l0 kq a0 x3_1 x5_1 = some r) ∧ Aside0 (kq ≤ k) ∧ Aside0 (Kd.R (Kd.int .i64) 2 w' w.heap.size (fun _ => True) v3 x3_1) ∧ Aside0 (Below w.heap.size w w'))
 case atStart => exact ⟨(([] : List Int)), (0), (by first | rfl | (simp; done) | (simp [*]; done)), H', ⟨Nat.le_refl _⟩, ⟨by first | exact Kd.R_nil _ _ _ _ _ | exact Kd.N_nil _ _ _ _ _ | exact Kd.V_nil _ _ _ _ _ | exact Kd.Q_nil _ _ _ _ _ | exact Kd.S_nil _ _ _ _ _⟩, ⟨by repeat (first | (with_reducible first | exact HB.out | apply below_alloc | apply pw_below_drewN | apply below_drew1) | exact HB.out)⟩⟩
 case round =>
  clear H'
  obtain ⟨x3_1, x5_1, rfl, HA, HK1, HO_3, HB⟩ := hrel
  cases gk with
  | zero => exact absurd HA.out (by simp [impl_vertices.l0])
  | succ k1 =>
   have H := HA.out
   clear HA
   simp only [impl_vertices.l0] at H
   by_cases c2 : x5_1 < 6
   ·rw [if_pos c2] at H
    have c2b0 : decide (x5_1 < 6) = true := decide_eq_true c2
    clear c2
    by_cases c3 : 0 ≤ x5_1
    ·rw [if_pos c3] at H
     have c3b0 := eq_true c3
     have c3b1 : decide (0 ≤ x5_1) = true := decide_eq_true c3
     clear c3
     obtain ⟨ji4, hji4⟩ : ∃ j_ : Int, (shr .i64 a0 x5_1) = j_ := ⟨_, rfl⟩
     replace H : (if (Go.bits .and .i64 (ji4) 1) = 1 then (if x3_1.length < 17592186044416 then (impl_vertices.l0 k1 a0 (x3_1 ++ [x5_1]) (wrap64 (x5_1 + 1))) else (none)) else (impl_vertices.l0 k1 a0 x3_1 (wrap64 (x5_1 + 1)))) = some r := by first | (rw [hji4] at H; exact H) | (simp only [hji4] at H ⊢; exact H)
     have hji4_ : (a0 / 2 ^ min x5_1.toNat 64) = ji4 := hji4
     have hji4z : x5_1 ≤ 64 → (a0 / 2 ^ x5_1.toNat) = ji4 := shr_small hji4
     by_cases c5 : (Go.bits .and .i64 (ji4) 1) = 1
     ·rw [if_pos c5] at H
      have c5b0 : ((Go.bits .and .i64 (ji4) 1) == 1) = true := beq_iff_eq.mpr c5
      have c5b1 : ((Go.bits .and .i64 (ji4) 1) != 1) = false := bne_eq_false_iff_eq.mpr c5
      clear c5
      by_cases c6 : x3_1.length < 17592186044416
      ·rw [if_pos c6] at H
       have LMc6 := Aside0.mk c6
       clear c6
       obtain ⟨y295, hy295⟩ : ∃ y_ : List Int, y_ = (x3_1 ++ [x5_1]) := ⟨_, rfl⟩
       replace H : (impl_vertices.l0 k1 a0 y295 (wrap64 (x5_1 + 1))) = some r := by first | (rw [hy295]; with_reducible exact H) | (have H2_ := (Option.bind_some _ _).symm.trans H; rw [hy295]; with_reducible exact H2_) | (have H2_ := (Option.bind_some _ _).symm.trans H; with_reducible exact H2_) | with_reducible exact H | (rw [hy295]; exact H) | exact H
       have Ny295 := Aside0.mk hy295
       clear hy295
       have H' := Aside0.mk H
       clear H
       go_wp2_with (first | ((with_reducible refine gate_builtin (b := .append) (xs := #[.tmp 13, .tmp 15]) rfl ?_); at_builtin; refine Kd.R_append (Kd.int .i64) (w0 := w) w.heap.size rfl (.tmp 13) (.tmp 15) 22 2 (.int .i64 0) 8 rfl Tryd.underlying22 info2 rfl (by decide) (by omega) u3 x3_1 x5_1 [.int .i64 x5_1] (fun _ => True) (fun _ => False) rfl rfl ?aP (fun _ hk => hk.elim) ?aF ?aO ?aB ?aS ?aL ?_; (case aP => exact rfl); (case aB => exact (by repeat (first | (with_reducible first | exact HB.out | apply below_alloc | apply pw_below_drewN | apply below_drew1) | exact HB.out))); (case aF => exact (fun _ _ => trivial)); (case aO => exact (by (with_reducible repeat (first | apply Kd.R_alloc | apply Kd.R_drewN | apply Kd.R_drew)); exact HO_3.out)); (case aS => exact (below_size (by repeat (first | (with_reducible first | exact HB.out | apply below_alloc | apply pw_below_drewN | apply below_drew1) | exact HB.out)))); (case aL => have := LMc6.out; omega); intro v296 w7 ho hb hg hat; rw [← Ny295.out] at ho; have n0_ := Aside0.mk (hb); have n1_ := Aside0.mk (ho); clear HB; clear HO_3; have HB := n0_; have HO297 := n1_; clear n0_ n1_; clear ho hb hg hat))
       go_roundg k1
       case measure => have := HK1.out; omega
       case rel => exact ⟨(y295), (wrap64 (x5_1 + 1)), (by first | rfl | (simp; done) | (simp [*]; done)), H', ⟨by have := HK1.out; omega⟩, ⟨by (with_reducible repeat (first | apply Kd.R_alloc | apply Kd.R_drewN | apply Kd.R_drew)); exact HO297.out⟩, ⟨by repeat (first | (with_reducible first | exact HB.out | apply below_alloc | apply pw_below_drewN | apply below_drew1) | exact HB.out)⟩⟩
      ·rw [if_neg c6] at H
       exact absurd H (by simp)
     ·rw [if_neg c5] at H
      have c5b0 : ((Go.bits .and .i64 (ji4) 1) == 1) = false := beq_eq_false_iff_ne.mpr c5
      have c5b1 : ((Go.bits .and .i64 (ji4) 1) != 1) = true := bne_iff_ne.mpr c5
      have H' := Aside0.mk H
      clear H
      go_wp2
      go_roundg k1
      case measure => have := HK1.out; omega
      case rel => exact ⟨(x3_1), (wrap64 (x5_1 + 1)), (by first | rfl | (simp; done) | (simp [*]; done)), H', ⟨by have := HK1.out; omega⟩, ⟨by (with_reducible repeat (first | apply Kd.R_alloc | apply Kd.R_drewN | apply Kd.R_drew)); exact HO_3.out⟩, ⟨by repeat (first | (with_reducible first | exact HB.out | apply below_alloc | apply pw_below_drewN | apply below_drew1) | exact HB.out)⟩⟩
    ·rw [if_neg c3] at H
     exact absurd H (by simp)
   ·rw [if_neg c2] at H
    have c2b0 : decide (x5_1 < 6) = false := decide_eq_false c2
    clear c2
    obtain rfl := Option.some.inj H
    go_wp2
    go_ret
    exact ⟨_, by first | rfl | (simp [errW_none, errW_some] <;> rfl) | (simp [*, errW_none, errW_some] <;> rfl), by (with_reducible repeat (first | apply Kd.R_alloc | apply Kd.R_drewN | apply Kd.R_drew)); exact HO_3.out, by repeat (first | (with_reducible first | exact HB.out | apply below_alloc | apply pw_below_drewN | apply below_drew1) | exact HB.out)⟩

/-! ### cmp_isNaN_int64: function 127 -/
def cmp_isNaN_int64.f (a0 : Int) : Option (Bool) := some (a0 != a0)
set_option maxHeartbeats 8000000 in
set_option maxRecDepth 100000 in
theorem cmp_isNaN_int64.calls (a0 : Int) (r : Bool) (w : World) (h : cmp_isNaN_int64.f a0 = some r) :
  Calls Tryd.prog 127 #[.int .i64 a0] w fun e w' => e = .returned (.bool r) ∧ Drawn0 w w' := by
 have H : (some (a0 != a0)) = some r := h
 clear h
 obtain rfl := Option.some.inj H
 go_enter Tryd.func127, Tryd.ntmps127
 go_wp2
 go_ret
 exact ⟨by first | rfl | (simp; done) | (simp [*]; done), by repeat (first | exact Drawn0.refl _ | apply Drawn0.step)⟩

end Go.Proofs.YtaeabbackmnioaaDoor.Q
end

section
/- Plain laws of the laws' own helpers: copies, comparisons, marks. -/
namespace Go.Proofs.YtaeabbackmnioaaDoor.K
open Go.RowKit Go.Shelf Go.Proofs.YtaeabbackmnioaaDoor.Q Go.Proofs.YtaeabbackmnioaaDoorW.PrintWords Go.Proofs.YtaeabbackmnioaaDoorW.PrintLast Go.Proofs.YtaeabbackmnioaaDoorW.PrintMore
set_option linter.unusedVariables false
set_option linter.unusedSimpArgs false

theorem w64 (x : Int) (h0 : -9223372036854775808 ≤ x) (h1 : x ≤ 9223372036854775807) : wrap64 x = x := by unfold wrap64; omega
theorem rd_nat (l : List Int) (i : Nat) (h : i < l.length) : rd l (i : Int) = l[i] := by simp [rd, h]
theorem nat_succ (i : Nat) : (i : Int) + 1 = ((i + 1 : Nat) : Int) := by omega

theorem eqInt64S_loop (a b : List Int) (hab : a.length = b.length) (hl : a.length ≤ 9223372036854775807) : ∀ (d i k : Nat), a.length - i = d → i ≤ a.length → d < k →
  laws_eqInt64S.l0 k a b (i : Int) = some (decide (a.drop i = b.drop i)) := by
 intro d
 induction d with
 | zero =>
  intro i k hd hi hk
  obtain ⟨k, rfl⟩ : ∃ m, k = m + 1 := ⟨k - 1, by omega⟩
  obtain rfl : i = a.length := by omega
  simp only [laws_eqInt64S.l0]
  rw [if_neg (by omega)]
  have : b.drop a.length = [] := by rw [hab]; simp
  simp [this]
 | succ d ih =>
  intro i k hd hi hk
  obtain ⟨k, rfl⟩ : ∃ m, k = m + 1 := ⟨k - 1, by omega⟩
  simp only [laws_eqInt64S.l0]
  have hia : i < a.length := by omega
  have hib : i < b.length := by omega
  rw [if_pos (by omega), if_pos (by omega), if_pos (by omega), rd_nat a i hia, rd_nat b i hib, w64 _ (by omega) (by omega), nat_succ]
  rw [List.drop_eq_getElem_cons hia, List.drop_eq_getElem_cons hib]
  by_cases h : a[i] = b[i]
  ·rw [if_pos h, ih (i + 1) k (by omega) (by omega) (by omega)]
   exact congrArg some (decide_eq_decide.2 (by rw [List.cons.injEq]; simp only [h, true_and]))
  ·rw [if_neg h]
   exact congrArg some (decide_eq_false (by rw [List.cons.injEq]; exact fun e => h e.1)).symm
theorem eqInt64S_is (a b : List Int) (hl : a.length ≤ 9223372036854775807) (k : Nat) (hk : a.length < k) : laws_eqInt64S.f k a b = some (decide (a = b)) := by
 unfold laws_eqInt64S.f
 by_cases h : a.length = b.length
 ·rw [if_pos (by omega)]
  have := eqInt64S_loop a b h hl a.length 0 k (by omega) (by omega) hk
  simpa using this
 ·rw [if_neg (by omega)]
  have : a ≠ b := fun e => h (by rw [e])
  simp [this]
theorem eqComplex_is (n : Int) (a : List Int) (m : Int) (b : List Int) (hl : a.length ≤ 9223372036854775807) (k : Nat) (hk : a.length < k) : laws_eqComplex.f k n a m b = some (decide (n = m ∧ a = b)) := by
 unfold laws_eqComplex.f
 by_cases h : n = m
 ·rw [if_pos h, eqInt64S_is a b hl k hk]
  by_cases h2 : a = b <;> simp [h, h2]
 ·rw [if_neg h]
  simp [h]

/-- The marks from a on. -/
def marks (a : Int) (m : Nat) : List Int := (List.range m).map fun (i : Nat) => a + (i : Int)
theorem marks_length (a : Int) (m : Nat) : (marks a m).length = m := by simp [marks]
theorem marks_get (a : Int) (m i : Nat) (h : i < m) : (marks a m)[i]'(by rw [marks_length]; exact h) = a + i := by simp [marks]

theorem mark_loop (l : List Int) (a : Int) (ha : 0 ≤ a ∧ a ≤ 1000000000) (hl : l.length ≤ 100000000) : ∀ (d i k : Nat), l.length - i = d → i ≤ l.length → d < k →
  laws_markInt64S.l0 k (marks a i ++ l.drop i) (a + i) (i : Int) = some (a + l.length, marks a l.length) := by
 intro d
 induction d with
 | zero =>
  intro i k hd hi hk
  obtain ⟨k, rfl⟩ : ∃ m, k = m + 1 := ⟨k - 1, by omega⟩
  obtain rfl : i = l.length := by omega
  simp only [laws_markInt64S.l0]
  rw [if_neg (by simp [marks_length])]
  simp
 | succ d ih =>
  intro i k hd hi hk
  obtain ⟨k, rfl⟩ : ∃ m, k = m + 1 := ⟨k - 1, by omega⟩
  simp only [laws_markInt64S.l0]
  have hil : i < l.length := by omega
  rw [if_pos (by simp [marks_length]; omega), if_pos (by omega), w64 _ (by omega) (by omega), w64 _ (by omega) (by omega), nat_succ, Int.toNat_natCast]
  have e : (marks a i ++ l.drop i).set i (a + i) = marks a (i + 1) ++ l.drop (i + 1) := by
   rw [List.set_append_right _ _ (by simp [marks_length]), marks_length, Nat.sub_self, List.drop_eq_getElem_cons hil, List.set_cons_zero, show marks a (i + 1) = marks a i ++ [a + (i : Int)] by simp [marks, List.range_succ], List.append_assoc]
   rfl
  rw [e, show a + (i : Int) + 1 = a + ((i + 1 : Nat) : Int) by omega]
  exact ih (i + 1) k (by omega) (by omega) (by omega)
theorem markInt64S_is (l : List Int) (a : Int) (ha : 0 ≤ a ∧ a ≤ 1000000000) (hl : l.length ≤ 100000000) (k : Nat) (hk : l.length < k) : laws_markInt64S.f k l a = some (a + l.length, marks a l.length) := by
 unfold laws_markInt64S.f
 have := mark_loop l a ha hl l.length 0 k (by omega) (by omega) hk
 simpa [marks] using this
theorem markComplex_is (n : Int) (l : List Int) (a : Int) (ha : 0 ≤ a ∧ a ≤ 1000000000) (hl : l.length ≤ 100000000) (k : Nat) (hk : l.length < k) : laws_markComplex.f k n l a = some (a + l.length, marks a l.length) := by
 unfold laws_markComplex.f
 rw [markInt64S_is l a ha hl k hk]
 rfl

theorem held_loop (m : Nat) (a : Int) (ha : 0 ≤ a ∧ a ≤ 1000000000) (hl : m ≤ 100000000) : ∀ (d i k : Nat), m - i = d → i ≤ m → d < k →
  laws_heldInt64S.l0 k (marks a m) (a + i) (i : Int) = some (a + m) := by
 intro d
 induction d with
 | zero =>
  intro i k hd hi hk
  obtain ⟨k, rfl⟩ : ∃ m, k = m + 1 := ⟨k - 1, by omega⟩
  obtain rfl : i = m := by omega
  simp only [laws_heldInt64S.l0]
  rw [if_neg (by simp [marks_length])]
 | succ d ih =>
  intro i k hd hi hk
  obtain ⟨k, rfl⟩ : ∃ m, k = m + 1 := ⟨k - 1, by omega⟩
  simp only [laws_heldInt64S.l0]
  have him : i < m := by omega
  rw [if_pos (by simp [marks_length]; omega), if_pos (by omega), rd_nat _ i (by rw [marks_length]; exact him), marks_get a m i him, if_pos rfl, w64 _ (by omega) (by omega), w64 _ (by omega) (by omega), nat_succ,
   show a + (i : Int) + 1 = a + ((i + 1 : Nat) : Int) by omega]
  exact ih (i + 1) k (by omega) (by omega) (by omega)
theorem heldInt64S_is (m : Nat) (a : Int) (ha : 0 ≤ a ∧ a ≤ 1000000000) (hl : m ≤ 100000000) (k : Nat) (hk : m < k) : laws_heldInt64S.f k (marks a m) a = some (a + m) := by
 unfold laws_heldInt64S.f
 have := held_loop m a ha hl m 0 k (by omega) (by omega) hk
 simpa using this
theorem heldComplex_is (n : Int) (m : Nat) (a : Int) (ha : 0 ≤ a ∧ a ≤ 1000000000) (hl : m ≤ 100000000) (k : Nat) (hk : m < k) : laws_heldComplex.f k n (marks a m) a = some (a + m) := by
 unfold laws_heldComplex.f
 rw [heldInt64S_is m a ha hl k hk]
 simp only [Option.bind_some]
 rw [if_neg (by omega)]

end Go.Proofs.YtaeabbackmnioaaDoor.K
end

section
/- Contracts of the library's functions that take a function value (numbers). -/
namespace Go.Proofs.YtaeabbackmnioaaDoor.K
open Go.RowKit Go.Shelf Go.Proofs.YtaeabbackmnioaaDoorW.PrintWords Go.Proofs.YtaeabbackmnioaaDoorW.PrintLast Go.Proofs.YtaeabbackmnioaaDoorW.PrintMore
set_option linter.unusedVariables false
set_option linter.unusedSimpArgs false

/-- The first index at which p holds, or -1. -/
def idx {α : Type} (p : α → Bool) (l : List α) : Int := match l.findIdx? p with | some i => (i : Int) | none => -1

theorem idx_hit {α : Type} (p : α → Bool) (l : List α) (k : Nat) (h : k < l.length) (hp : p l[k] = true) (hn : ∀ j (hj : j < k), p (l[j]'(by omega)) = false) : idx p l = k := by
 have : l.findIdx? p = some k := by
  rw [List.findIdx?_eq_some_iff_getElem]
  exact ⟨h, hp, fun j hj => by simp [hn j hj]⟩
 simp [idx, this]
theorem idx_miss {α : Type} (p : α → Bool) (l : List α) (hn : ∀ j (hj : j < l.length), p l[j] = false) : idx p l = -1 := by
 have : l.findIdx? p = none := by
  rw [List.findIdx?_eq_none_iff]
  intro x hx
  obtain ⟨j, hj, rfl⟩ := List.mem_iff_getElem.1 hx
  exact hn j hj
 simp [idx, this]

set_option maxHeartbeats 2000000 in
theorem IndexFunc_int (p : Int → Bool) (A : Option Addr) (c : Nat) (l : List Int) (g : Nat) (first caps : Array Value) (w : World)
  (hr : Ki.C w A l.length l) (hc : l.length ≤ c) (hbig : l.length ≤ 9223372036854775807) (eg : EntersG g)
  (hp : ∀ x, x ∈ l → Answers w g (first.push (I x) ++ caps) (.bool (p x))) :
  Calls Tryd.prog 71 #[.slice A l.length c, .func (.func g) first caps] w fun e w' => e = .returned (I (idx p l)) ∧ Grew w w' := by
 have HR := Aside0.mk hr
 have HC := Aside0.mk hc
 have HP := Aside0.mk hp
 clear hr hc hp
 go_enter Tryd.func71, Tryd.ntmps71
 go_wp2
 go_loopg [5, 8] l.length (fun gg _ s8 wr => ∃ kk : Nat, kk ≤ l.length ∧ l.length - kk ≤ gg ∧ s8 = .int .i64 kk ∧ Aside0 (Grew w wr) ∧ Aside0 (∀ j (h : j < l.length), j < kk → p l[j] = false))
 case atStart => exact ⟨0, Nat.zero_le _, by omega, rfl, ⟨Below.refl _ w⟩, ⟨fun j _ hj => absurd hj (Nat.not_lt_zero _)⟩⟩
 case round =>
  obtain ⟨kk, hkk, hg, rfl, BW, A0⟩ := hrel
  by_cases hlt : kk < l.length
  ·have hltz : (kk : Int) < (l.length : Int) := by omega
   obtain ⟨ad, e0, hx⟩ := Kd.at_int (Kd.C_below HR.out BW.out) (kk : Int) (by omega) (by omega)
   cases e0
   have hrd : rd l (kk : Int) = l[kk] := by simp [rd, hlt]
   rw [hrd, Int.toNat_natCast] at hx
   have hcall := HP.out l[kk] (by simp) wr BW.out
   clear hrd
   generalize hy : l[kk] = y at hx hcall
   have B := Aside0.mk hy
   clear hy
   cases hq : p y with
   | true =>
    rw [hq] at hcall
    go_wp2_with fail
    refine hcall.mono ?_
    rintro e w' ⟨rfl, hb'⟩
    clear hcall
    go_wp2_with fail
    go_ret
    refine ⟨?_, Grew.trans BW.out hb'⟩
    rw [idx_hit p l kk hlt (by rw [B.out]; exact hq) (fun j hj => A0.out j (by omega) hj)]
    rfl
   | false =>
    rw [hq] at hcall
    go_wp2_with fail
    refine hcall.mono ?_
    rintro e w' ⟨rfl, hb'⟩
    clear hcall
    go_wp2_with fail
    go_roundg (l.length - (kk + 1))
    case measure => omega
    case rel =>
     refine ⟨kk + 1, by omega, by omega, by go_num, ⟨Grew.trans BW.out hb'⟩, ⟨fun j h hj => ?_⟩⟩
     by_cases e : j = kk
     ·subst e
      rw [B.out]; exact hq
     ·exact A0.out j h (by omega)
  ·have hltz : ¬ (kk : Int) < (l.length : Int) := by omega
   have e : kk = l.length := by omega
   have H := idx_miss p l (fun j hj => A0.out j hj (by omega))
   have HM := Aside0.mk H
   clear H e
   go_wp2
   go_ret
   exact ⟨by rw [HM.out]; rfl, BW.out⟩

theorem idx_nonneg {α : Type} (p : α → Bool) (l : List α) : decide (0 ≤ idx p l) = l.any p := by
 unfold idx
 cases h : l.findIdx? p with
 | none =>
  rw [List.findIdx?_eq_none_iff] at h
  have : l.any p = false := by rw [List.any_eq_false]; intro x hx; simp [h x hx]
  simp [this]
 | some i =>
  rw [List.findIdx?_eq_some_iff_getElem] at h
  obtain ⟨hi, hp, _⟩ := h
  have : l.any p = true := List.any_eq_true.2 ⟨l[i], by simp, hp⟩
  simp [this]

set_option maxHeartbeats 2000000 in
theorem ContainsFunc_int (p : Int → Bool) (A : Option Addr) (c : Nat) (l : List Int) (g : Nat) (first caps : Array Value) (w : World)
  (hr : Ki.C w A l.length l) (hc : l.length ≤ c) (hbig : l.length ≤ 9223372036854775807) (eg : EntersG g)
  (hp : ∀ x, x ∈ l → Answers w g (first.push (I x) ++ caps) (.bool (p x))) :
  Calls Tryd.prog 48 #[.slice A l.length c, .func (.func g) first caps] w fun e w' => e = .returned (.bool (l.any p)) ∧ Grew w w' := by
 rw [← idx_nonneg]
 have H := Aside0.mk (IndexFunc_int p A c l g first caps w hr hc hbig eg hp)
 clear hr hc hbig hp
 go_enter Tryd.func48, Tryd.ntmps48
 go_wp2_with fail
 refine H.out.mono ?_
 rintro e w' ⟨rfl, hb'⟩
 go_wp2_with fail
 go_ret
 exact ⟨by rfl, hb'⟩

end Go.Proofs.YtaeabbackmnioaaDoor.K
end

section
/- slices.Backward over numbers: the iterator's contract. -/
namespace Go.Proofs.YtaeabbackmnioaaDoor.K
open Go.RowKit Go.Shelf Go.Proofs.YtaeabbackmnioaaDoorW.PrintWords Go.Proofs.YtaeabbackmnioaaDoorW.PrintLast Go.Proofs.YtaeabbackmnioaaDoorW.PrintMore
set_option linter.unusedVariables false
set_option linter.unusedSimpArgs false
attribute [local go_sem] Oper.semAt_some

/-- What a round keeps: the blocks below n, but for B. -/
def KeptBut (B n : Nat) (X Y : World) : Prop := ∀ k, k < n → k ≠ B → Y.heap[k]? = X.heap[k]?
theorem KeptBut.refl (B n : Nat) (X : World) : KeptBut B n X X := fun _ _ _ => rfl
theorem KeptBut.t {B n : Nat} {X Y Z : World} (h : KeptBut B n X Y) (k : KeptBut B n Y Z) : KeptBut B n X Z := fun j h1 h2 => (k j h1 h2).trans (h j h1 h2)

end Go.Proofs.YtaeabbackmnioaaDoor.K
end

section
/- The vertices of a face: what the walk's function comes to, and its contract. -/
namespace Go.Proofs.YtaeabbackmnioaaDoor.K
open Go.RowKit Go.Shelf Go.Proofs.YtaeabbackmnioaaDoor.Q Go.Proofs.YtaeabbackmnioaaDoorW.PrintWords Go.Proofs.YtaeabbackmnioaaDoorW.PrintLast Go.Proofs.YtaeabbackmnioaaDoorW.PrintMore
set_option linter.unusedVariables false
set_option linter.unusedSimpArgs false

def vbit (f v : Int) : Bool := decide (Go.bits .and .i64 (shr .i64 f v) 1 = 1)
def verts (f : Int) : List Int := [0, 1, 2, 3, 4, 5].filter (vbit f)

theorem verts_step (k : Nat) (f : Int) (acc : List Int) (i : Int) (h0 : 0 ≤ i) (h6 : i < 6) (ha : acc.length < 100) :
  impl_vertices.l0 (k + 1) f acc i = impl_vertices.l0 k f (acc ++ [i].filter (vbit f)) (i + 1) := by
 have hw : wrap64 (i + 1) = i + 1 := by unfold wrap64; omega
 simp only [impl_vertices.l0]
 rw [if_pos h6, if_pos h0, hw]
 by_cases hb : Go.bits .and .i64 (shr .i64 f i) 1 = 1
 ·rw [if_pos hb, if_pos (by omega)]
  simp [vbit, hb]
 ·rw [if_neg hb]
  simp [vbit, hb]

theorem verts_is (f : Int) : impl_vertices.f 7 f = some (verts f) := by
 unfold impl_vertices.f
 have hl : ∀ (i : Int), ([i].filter (vbit f)).length ≤ 1 := fun i => by have := List.length_filter_le (vbit f) [i]; simpa using this
 rw [verts_step _ _ _ _ (by omega) (by omega) (by simp), verts_step _ _ _ _ (by omega) (by omega) (by have := hl 0; simp; omega),
  verts_step _ _ _ _ (by omega) (by omega) (by have := hl 0; have := hl 1; simp; omega),
  verts_step _ _ _ _ (by omega) (by omega) (by have := hl 0; have := hl 1; have := hl 2; simp; omega),
  verts_step _ _ _ _ (by omega) (by omega) (by have := hl 0; have := hl 1; have := hl 2; have := hl 3; simp; omega),
  verts_step _ _ _ _ (by omega) (by omega) (by have := hl 0; have := hl 1; have := hl 2; have := hl 3; have := hl 4; simp; omega)]
 simp only [impl_vertices.l0]
 rw [if_neg (by omega)]
 congr 1
 unfold verts
 rw [show ([0, 1, 2, 3, 4, 5] : List Int) = [0] ++ [1] ++ [2] ++ [3] ++ [4] ++ [5] from rfl]
 simp only [List.filter_append, List.nil_append]
 rfl

theorem verts_range (f v : Int) (h : v ∈ verts f) : 0 ≤ v ∧ v < 6 := by
 unfold verts at h
 have := (List.mem_filter.1 h).1
 simp at this
 omega

end Go.Proofs.YtaeabbackmnioaaDoor.K
end

section
/- borders: the sets with one vertex less than a face, ascending, without the empty one. -/
namespace Go.Proofs.YtaeabbackmnioaaDoor.K
open Go.RowKit Go.Shelf Go.Proofs.YtaeabbackmnioaaDoorW.PrintWords Go.Proofs.YtaeabbackmnioaaDoorW.PrintLast Go.Proofs.YtaeabbackmnioaaDoorW.PrintMore
set_option linter.unusedVariables false
set_option linter.unusedSimpArgs false
attribute [local go_sem] Oper.semAt_some

/-- f without the vertex v. -/
def without (f v : Int) : Int := Go.bits .andNot .i64 f (IntKind.i64.wrap (2 ^ v.toNat))
def bordsOf (f : Int) (vs : List Int) : List Int := (vs.map (without f)).filter (· ≠ 0)
def bords (f : Int) : List Int := bordsOf f (verts f).reverse

theorem info2 : (Tryd.prog.info? 2).map (fun i => (i.zero, i.size, i.bytes)) = some (some (.int .i64 0), 1, 8) := by kernel_rfl

end Go.Proofs.YtaeabbackmnioaaDoor.K
end

section
/- Written by a program of this session (myprint.py over the kit's print). -/
namespace Go.Proofs.YtaeabbackmnioaaDoor.Q
open Go.RowKit Go.Proofs.YtaeabbackmnioaaDoorW.PrintWords Go.Proofs.YtaeabbackmnioaaDoorW.PrintLast Go.Proofs.YtaeabbackmnioaaDoorW.PrintMore
attribute [local go_sem] max2_int min2_int max_two min_two max_three min_three max_four min_four   -- for this text's walks alone
set_option linter.unusedVariables false
set_option linter.unusedSimpArgs false

/-! ### cmp_Less_int64: function 122 -/
def cmp_Less_int64.f (a0 : Int) (a1 : Int) : Option (Bool) := (cmp_isNaN_int64.f a0).bind fun t298 => (if t298 = true then ((cmp_isNaN_int64.f a1).bind fun t299 => (if t299 = true then (some (decide (a0 < a1))) else (some true))) else (some (decide (a0 < a1))))
set_option maxHeartbeats 8000000 in
set_option maxRecDepth 100000 in
theorem cmp_Less_int64.calls (a0 : Int) (a1 : Int) (r : Bool) (w : World) (h : cmp_Less_int64.f a0 a1 = some r) :
  Calls Tryd.prog 122 #[.int .i64 a0, .int .i64 a1] w fun e w' => e = .returned (.bool r) ∧ Drawn0 w w' := by
 have H : ((cmp_isNaN_int64.f a0).bind fun t298 => (if t298 = true then ((cmp_isNaN_int64.f a1).bind fun t299 => (if t299 = true then (some (decide (a0 < a1))) else (some true))) else (some (decide (a0 < a1))))) = some r := h
 clear h
 replace H := Option.bind_eq_some_iff.mp H
 obtain ⟨t298, A30, H⟩ := H
 replace H : (if t298 = true then ((cmp_isNaN_int64.f a1).bind fun t299 => (if t299 = true then (some (decide (a0 < a1))) else (some true))) else (some (decide (a0 < a1)))) = some r := H
 have A3 := Aside0.mk A30
 clear A30
 by_cases c4 : t298 = true
 ·subst c4
  have H1 : ((cmp_isNaN_int64.f a1).bind fun t299 => (if t299 = true then (some (decide (a0 < a1))) else (some true))) = some r := by rw [if_pos rfl] at H; exact H
  clear H
  have H := H1
  clear H1
  replace H := Option.bind_eq_some_iff.mp H
  obtain ⟨t299, A50, H⟩ := H
  replace H : (if t299 = true then (some (decide (a0 < a1))) else (some true)) = some r := H
  have A5 := Aside0.mk A50
  clear A50
  by_cases c6 : t299 = true
  ·subst c6
   have H1 : (some (decide (a0 < a1))) = some r := by rw [if_pos rfl] at H; exact H
   clear H
   have H := H1
   clear H1
   obtain rfl := Option.some.inj H
   go_enter Tryd.func122, Tryd.ntmps122
   go_wp2_with (first | ((with_reducible refine gate_callee (f := 127) rfl ?_); refine goesL_ (some 6) rfl rfl Tryd.func127 (by kernel_rfl) rfl #[.int .i64 a0] rfl (by (try simp only [List.map_toArray, List.map_cons, List.map_nil]); first | done | rfl | (simp only [List.length_drop, List.length_take]; rfl)) ?_; (with_reducible refine (cmp_isNaN_int64.calls a0 true _ A3.out).mono ?_); rintro e w' ⟨rfl, ⟨nd, rfl⟩⟩; refine ⟨_, rfl, ?_⟩) | (go_at_call 127; (with_reducible refine (cmp_isNaN_int64.calls a1 true _ A5.out).mono ?_); rintro e w' ⟨rfl, ⟨nd, rfl⟩⟩))
   go_ret
   exact ⟨by first | rfl | (simp; done) | (simp [*]; done), by repeat (first | exact Drawn0.refl _ | apply Drawn0.step)⟩
  ·replace c6 := Bool.eq_false_iff.mpr c6
   subst c6
   have H1 : (some true) = some r := by rw [if_neg (show ¬ (false = true) by decide)] at H; exact H
   clear H
   have H := H1
   clear H1
   obtain rfl := Option.some.inj H
   go_enter Tryd.func122, Tryd.ntmps122
   go_wp2_with (first | ((with_reducible refine gate_callee (f := 127) rfl ?_); refine goesL_ (some 6) rfl rfl Tryd.func127 (by kernel_rfl) rfl #[.int .i64 a0] rfl (by (try simp only [List.map_toArray, List.map_cons, List.map_nil]); first | done | rfl | (simp only [List.length_drop, List.length_take]; rfl)) ?_; (with_reducible refine (cmp_isNaN_int64.calls a0 true _ A3.out).mono ?_); rintro e w' ⟨rfl, ⟨nd, rfl⟩⟩; refine ⟨_, rfl, ?_⟩) | (go_at_call 127; (with_reducible refine (cmp_isNaN_int64.calls a1 false _ A5.out).mono ?_); rintro e w' ⟨rfl, ⟨nd, rfl⟩⟩))
   go_ret
   exact ⟨by first | rfl | (simp; done) | (simp [*]; done), by repeat (first | exact Drawn0.refl _ | apply Drawn0.step)⟩
 ·replace c4 := Bool.eq_false_iff.mpr c4
  subst c4
  have H1 : (some (decide (a0 < a1))) = some r := by rw [if_neg (show ¬ (false = true) by decide)] at H; exact H
  clear H
  have H := H1
  clear H1
  obtain rfl := Option.some.inj H
  go_enter Tryd.func122, Tryd.ntmps122
  go_wp2_with (first | ((with_reducible refine gate_callee (f := 127) rfl ?_); refine goesL_ (some 6) rfl rfl Tryd.func127 (by kernel_rfl) rfl #[.int .i64 a0] rfl (by (try simp only [List.map_toArray, List.map_cons, List.map_nil]); first | done | rfl | (simp only [List.length_drop, List.length_take]; rfl)) ?_; (with_reducible refine (cmp_isNaN_int64.calls a0 false _ A3.out).mono ?_); rintro e w' ⟨rfl, ⟨nd, rfl⟩⟩; refine ⟨_, rfl, ?_⟩))
  go_ret
  exact ⟨by first | rfl | (simp; done) | (simp [*]; done), by repeat (first | exact Drawn0.refl _ | apply Drawn0.step)⟩

/-! ### slices_isNaN_int64: function 123 -/
def slices_isNaN_int64.f (a0 : Int) : Option (Bool) := some (a0 != a0)
set_option maxHeartbeats 8000000 in
set_option maxRecDepth 100000 in
theorem slices_isNaN_int64.calls (a0 : Int) (r : Bool) (w : World) (h : slices_isNaN_int64.f a0 = some r) :
  Calls Tryd.prog 123 #[.int .i64 a0] w fun e w' => e = .returned (.bool r) ∧ Drawn0 w w' := by
 have H : (some (a0 != a0)) = some r := h
 clear h
 obtain rfl := Option.some.inj H
 go_enter Tryd.func123, Tryd.ntmps123
 go_wp2
 go_ret
 exact ⟨by first | rfl | (simp; done) | (simp [*]; done), by repeat (first | exact Drawn0.refl _ | apply Drawn0.step)⟩

/-! ### slices_BinarySearch_int64_int64: function 107 -/
def slices_BinarySearch_int64_int64.l0 : Nat → List Int → Int → Int → Int → Int → Option (Int × Bool)
 | 0, _, _, _, _, _ => none
 | k + 1, x0, x1, x6, x7, x8 => if x7 < x8 then (if 0 ≤ (wrap64 ((IntKind.u64.wrap (wrap64 (x7 + x8))) / 2)) then (if (wrap64 ((IntKind.u64.wrap (wrap64 (x7 + x8))) / 2)) < (x0.length : Int) then ((cmp_Less_int64.f (rd x0 (wrap64 ((IntKind.u64.wrap (wrap64 (x7 + x8))) / 2))) x1).bind fun t301 => (if t301 = true then (slices_BinarySearch_int64_int64.l0 k x0 x1 x6 (wrap64 ((wrap64 ((IntKind.u64.wrap (wrap64 (x7 + x8))) / 2)) + 1)) x8) else (slices_BinarySearch_int64_int64.l0 k x0 x1 x6 x7 (wrap64 ((IntKind.u64.wrap (wrap64 (x7 + x8))) / 2))))) else (none)) else (none)) else (if x7 < x6 then (if 0 ≤ x7 then (if x7 < (x0.length : Int) then (if (rd x0 x7) = x1 then (some (x7, true)) else ((slices_isNaN_int64.f (rd x0 x7)).bind fun t304 => (if t304 = true then ((slices_isNaN_int64.f x1).bind fun t305 => (some (x7, t305))) else (some (x7, false))))) else (none)) else (none)) else (some (x7, false)))
def slices_BinarySearch_int64_int64.f (k : Nat) (l0 : List Int) (a1 : Int) : Option (Int × Bool) := slices_BinarySearch_int64_int64.l0 k l0 a1 (l0.length : Int) 0 (l0.length : Int)
theorem slices_BinarySearch_int64_int64.mono_l : ∀ k, (∀ y0 y1 y2 y3 y4, LeO (slices_BinarySearch_int64_int64.l0 k y0 y1 y2 y3 y4) (slices_BinarySearch_int64_int64.l0 (k + 1) y0 y1 y2 y3 y4))
 | 0 => fun _ _ _ _ _ r h => by simp [slices_BinarySearch_int64_int64.l0] at h
 | k + 1 => by
  have ih0 := slices_BinarySearch_int64_int64.mono_l k
  ·intro y0 y1 y2 y3 y4
   unfold slices_BinarySearch_int64_int64.l0
   repeat' first
   | (with_reducible exact ih0 _ _ _ _ _)
   | (with_reducible exact LeO.refl _)
   | (with_reducible exact LeO.none _)
   | (with_reducible refine LeO.ite ?_ ?_)
   | (with_reducible refine LeO.bind ?_ (fun _ => ?_))
   | exact ih0 _ _ _ _ _
   | exact LeO.none _
   | refine LeO.ite ?_ ?_
   | refine LeO.bind ?_ (fun _ => ?_)
theorem slices_BinarySearch_int64_int64.mono : ∀ a0 a1 k, LeO (slices_BinarySearch_int64_int64.f k a0 a1) (slices_BinarySearch_int64_int64.f (k + 1) a0 a1) := by
 intro a0 a1 k
 have ih0 := slices_BinarySearch_int64_int64.mono_l k
 unfold slices_BinarySearch_int64_int64.f
 repeat' first
   | (with_reducible exact ih0 _ _ _ _ _)
   | (with_reducible exact LeO.refl _)
   | (with_reducible exact LeO.none _)
   | (with_reducible refine LeO.ite ?_ ?_)
   | (with_reducible refine LeO.bind ?_ (fun _ => ?_))
   | exact ih0 _ _ _ _ _
   | exact LeO.none _
   | refine LeO.ite ?_ ?_
   | refine LeO.bind ?_ (fun _ => ?_)
set_option maxHeartbeats 8000000 in
set_option maxRecDepth 100000 in
theorem slices_BinarySearch_int64_int64.calls (k : Nat) (A0 : Option Addr) (c0 : Nat) (l0 : List Int) (a1 : Int) (r1 : Int) (r2 : Bool) (w : World) (hr0 : Kd.C (Kd.int .i64) w A0 l0.length l0) (hc0 : l0.length ≤ c0) (h : slices_BinarySearch_int64_int64.f k l0 a1 = some (r1, r2)) :
  Calls Tryd.prog 107 #[.slice A0 l0.length c0, .int .i64 a1] w fun e w' => e = .returned (.tuple #[.int .i64 r1, .bool r2]) ∧ Drawn0 w w' := by
 have HR0 := Aside0.mk hr0
 have HC0 := Aside0.mk hc0
 clear hr0 hc0
 have H : (slices_BinarySearch_int64_int64.l0 k l0 a1 (l0.length : Int) 0 (l0.length : Int)) = some (r1, r2) := h
 clear h
 have H' := Aside0.mk H
 clear H
 go_enter Tryd.func107, Tryd.ntmps107
 go_wp2
 go_loopg [7, 8] k (fun kq v7 v8 w' => ∃ (x7_1 : Int) (x8_1 : Int), v7 = .int .i64 x7_1 ∧ v8 = .int .i64 x8_1 ∧ Aside0 (slices_BinarySearch_int64_int64.l0 kq l0 a1 (l0.length : Int) x7_1 x8_1 = some (r1, r2)) ∧ Aside0 (kq ≤ k) ∧ Drawn0 w w')
 case atStart => exact ⟨(0), ((l0.length : Int)), (by first | rfl | (simp; done) | (simp [*]; done)), (by first | rfl | (simp; done) | (simp [*]; done)), H', ⟨Nat.le_refl _⟩, by repeat (first | exact Drawn0.refl _ | apply Drawn0.step)⟩
 case round =>
  clear H'
  try clear c1
  try clear p2
  obtain ⟨x7_1, x8_1, rfl, rfl, HA, HK1, ⟨m1, rfl⟩⟩ := hrel
  cases gk with
  | zero => exact absurd HA.out (by simp [slices_BinarySearch_int64_int64.l0])
  | succ k1 =>
   have H := HA.out
   clear HA
   simp only [slices_BinarySearch_int64_int64.l0] at H
   by_cases c3 : x7_1 < x8_1
   ·rw [if_pos c3] at H
    have c3b0 : decide (x7_1 < x8_1) = true := decide_eq_true c3
    clear c3
    obtain ⟨ji4, hji4⟩ : ∃ j_ : Int, (wrap64 ((IntKind.u64.wrap (wrap64 (x7_1 + x8_1))) / 2)) = j_ := ⟨_, rfl⟩
    replace H : (if 0 ≤ (ji4) then (if (ji4) < (l0.length : Int) then ((cmp_Less_int64.f (rd l0 (ji4)) a1).bind fun t301 => (if t301 = true then (slices_BinarySearch_int64_int64.l0 k1 l0 a1 (l0.length : Int) (wrap64 ((ji4) + 1)) x8_1) else (slices_BinarySearch_int64_int64.l0 k1 l0 a1 (l0.length : Int) x7_1 ji4))) else (none)) else (none)) = some (r1, r2) := by first | (rw [hji4] at H; exact H) | (simp only [hji4] at H ⊢; exact H)
    have hji4w : (IntKind.i64.wrap ((IntKind.u64.wrap (wrap64 (x7_1 + x8_1))) / 2)) = ji4 := (i64_w _).trans hji4
    by_cases c5 : 0 ≤ (ji4)
    ·rw [if_pos c5] at H
     have c5b0 : decide (0 ≤ (ji4)) = true := decide_eq_true c5
     clear c5
     by_cases c6 : (ji4) < (l0.length : Int)
     ·rw [if_pos c6] at H
      have c6b0 : decide ((ji4) < (l0.length : Int)) = true := decide_eq_true c6
      clear c6
      replace H := Option.bind_eq_some_iff.mp H
      obtain ⟨t301, A70, H⟩ := H
      replace H : (if t301 = true then (slices_BinarySearch_int64_int64.l0 k1 l0 a1 (l0.length : Int) (wrap64 ((ji4) + 1)) x8_1) else (slices_BinarySearch_int64_int64.l0 k1 l0 a1 (l0.length : Int) x7_1 ji4)) = some (r1, r2) := H
      have A7 := Aside0.mk A70
      clear A70
      by_cases c8 : t301 = true
      ·subst c8
       have H1 : (slices_BinarySearch_int64_int64.l0 k1 l0 a1 (l0.length : Int) (wrap64 ((ji4) + 1)) x8_1) = some (r1, r2) := by rw [if_pos rfl] at H; exact H
       clear H
       have H := H1
       clear H1
       have H' := Aside0.mk H
       clear H
       have p300 : 0 ≤ ((ji4) : Int) := of_decide_eq_true (by first | (with_reducible assumption) | assumption)
       have q300 : (ji4) < (l0.length : Int) := of_decide_eq_true (by first | (with_reducible assumption) | assumption)
       obtain ⟨ad300, e300, hx300_0⟩ := Kd.at_int HR0.out (ji4) p300 q300
       cases e300
       replace p300 := eq_true p300
       replace q300 := eq_true q300
       go_wp2_with (first | ((with_reducible refine gate_callee (f := 122) rfl ?_); refine goesL_ (some 27) rfl rfl Tryd.func122 (by kernel_rfl) rfl #[.int .i64 (rd l0 (ji4)), .int .i64 a1] rfl (by (try simp only [List.map_toArray, List.map_cons, List.map_nil]); first | done | (simp only [hji4]; rfl) | rfl | (simp only [List.length_drop, List.length_take]; rfl)) ?_; (with_reducible refine (cmp_Less_int64.calls (rd l0 (ji4)) a1 true _ A7.out).mono ?_); rintro e w' ⟨rfl, ⟨nd, rfl⟩⟩; refine ⟨_, rfl, ?_⟩))
       go_roundg k1
       case measure => have := HK1.out; omega
       case rel => exact ⟨(wrap64 ((ji4) + 1)), (x8_1), (by first | rfl | (simp; done) | (simp only [← hji4] <;> (first | rfl | simp)) | (simp [*]; done)), (by first | rfl | (simp; done) | (simp [*]; done)), H', ⟨by have := HK1.out; omega⟩, by repeat (first | exact Drawn0.refl _ | apply Drawn0.step)⟩
      ·replace c8 := Bool.eq_false_iff.mpr c8
       subst c8
       have H1 : (slices_BinarySearch_int64_int64.l0 k1 l0 a1 (l0.length : Int) x7_1 ji4) = some (r1, r2) := by rw [if_neg (show ¬ (false = true) by decide)] at H; exact H
       clear H
       have H := H1
       clear H1
       have H' := Aside0.mk H
       clear H
       have p300 : 0 ≤ ((ji4) : Int) := of_decide_eq_true (by first | (with_reducible assumption) | assumption)
       have q300 : (ji4) < (l0.length : Int) := of_decide_eq_true (by first | (with_reducible assumption) | assumption)
       obtain ⟨ad300, e300, hx300_0⟩ := Kd.at_int HR0.out (ji4) p300 q300
       cases e300
       replace p300 := eq_true p300
       replace q300 := eq_true q300
       go_wp2_with (first | ((with_reducible refine gate_callee (f := 122) rfl ?_); refine goesL_ (some 27) rfl rfl Tryd.func122 (by kernel_rfl) rfl #[.int .i64 (rd l0 (ji4)), .int .i64 a1] rfl (by (try simp only [List.map_toArray, List.map_cons, List.map_nil]); first | done | (simp only [hji4]; rfl) | rfl | (simp only [List.length_drop, List.length_take]; rfl)) ?_; (with_reducible refine (cmp_Less_int64.calls (rd l0 (ji4)) a1 false _ A7.out).mono ?_); rintro e w' ⟨rfl, ⟨nd, rfl⟩⟩; refine ⟨_, rfl, ?_⟩))
       go_roundg k1
       case measure => have := HK1.out; omega
       case rel => exact ⟨(x7_1), (ji4), (by first | rfl | (simp; done) | (simp [*]; done)), (by first | rfl | (simp; done) | (simp only [← hji4] <;> (first | rfl | simp)) | (simp [*]; done)), H', ⟨by have := HK1.out; omega⟩, by repeat (first | exact Drawn0.refl _ | apply Drawn0.step)⟩
     ·rw [if_neg c6] at H
      exact absurd H (by simp)
    ·rw [if_neg c5] at H
     exact absurd H (by simp)
   ·rw [if_neg c3] at H
    have c3b0 : decide (x7_1 < x8_1) = false := decide_eq_false c3
    clear c3
    by_cases c9 : x7_1 < (l0.length : Int)
    ·rw [if_pos c9] at H
     have c9b0 : decide (x7_1 < (l0.length : Int)) = true := decide_eq_true c9
     clear c9
     by_cases c10 : 0 ≤ x7_1
     ·rw [if_pos c10] at H
      have c10b0 : decide (0 ≤ x7_1) = true := decide_eq_true c10
      clear c10
      by_cases c11 : x7_1 < (l0.length : Int)
      ·rw [if_pos c11] at H
       have c11b0 : decide (x7_1 < (l0.length : Int)) = true := decide_eq_true c11
       clear c11
       by_cases c12 : (rd l0 x7_1) = a1
       ·rw [if_pos c12] at H
        have c12b0 : ((rd l0 x7_1) == a1) = true := beq_iff_eq.mpr c12
        have c12b1 : ((rd l0 x7_1) != a1) = false := bne_eq_false_iff_eq.mpr c12
        clear c12
        simp only [Option.some.injEq, Prod.mk.injEq] at H
        obtain ⟨rfl, rfl⟩ := H
        have p302 : 0 ≤ (x7_1 : Int) := of_decide_eq_true (by first | (with_reducible assumption) | assumption)
        have q302 : x7_1 < (l0.length : Int) := of_decide_eq_true (by first | (with_reducible assumption) | assumption)
        obtain ⟨ad302, e302, hx302_0⟩ := Kd.at_int HR0.out x7_1 p302 q302
        cases e302
        replace p302 := eq_true p302
        replace q302 := eq_true q302
        go_wp2
        go_ret2
        exact ⟨by first | rfl | (simp; done) | (simp [*]; done), by repeat (first | exact Drawn0.refl _ | apply Drawn0.step)⟩
       ·rw [if_neg c12] at H
        have c12b0 : ((rd l0 x7_1) == a1) = false := beq_eq_false_iff_ne.mpr c12
        have c12b1 : ((rd l0 x7_1) != a1) = true := bne_iff_ne.mpr c12
        replace H := Option.bind_eq_some_iff.mp H
        obtain ⟨t304, A130, H⟩ := H
        replace H : (if t304 = true then ((slices_isNaN_int64.f a1).bind fun t305 => (some (x7_1, t305))) else (some (x7_1, false))) = some (r1, r2) := H
        have A13 := Aside0.mk A130
        clear A130
        by_cases c14 : t304 = true
        ·subst c14
         have H1 : ((slices_isNaN_int64.f a1).bind fun t305 => (some (x7_1, t305))) = some (r1, r2) := by rw [if_pos rfl] at H; exact H
         clear H
         have H := H1
         clear H1
         replace H := Option.bind_eq_some_iff.mp H
         obtain ⟨t305, A150, H⟩ := H
         replace H : (some (x7_1, t305)) = some (r1, r2) := H
         have A15 := Aside0.mk A150
         clear A150
         simp only [Option.some.injEq, Prod.mk.injEq] at H
         obtain ⟨rfl, rfl⟩ := H
         have p302 : 0 ≤ (x7_1 : Int) := of_decide_eq_true (by first | (with_reducible assumption) | assumption)
         have q302 : x7_1 < (l0.length : Int) := of_decide_eq_true (by first | (with_reducible assumption) | assumption)
         obtain ⟨ad302, e302, hx302_0⟩ := Kd.at_int HR0.out x7_1 p302 q302
         cases e302
         replace p302 := eq_true p302
         replace q302 := eq_true q302
         have p303 : 0 ≤ (x7_1 : Int) := of_decide_eq_true (by first | (with_reducible assumption) | assumption)
         have q303 : x7_1 < (l0.length : Int) := of_decide_eq_true (by first | (with_reducible assumption) | assumption)
         obtain ⟨ad303, e303, hx303_0⟩ := Kd.at_int HR0.out x7_1 p303 q303
         obtain rfl : ad302 = ad303 := (by injection e303)
         replace p303 := eq_true p303
         replace q303 := eq_true q303
         go_wp2_with (first | (go_at_call 123; (with_reducible refine (slices_isNaN_int64.calls (rd l0 x7_1) true _ A13.out).mono ?_); rintro e w' ⟨rfl, ⟨nd, rfl⟩⟩) | (go_at_call 123; (with_reducible refine (slices_isNaN_int64.calls a1 t305 _ A15.out).mono ?_); rintro e w' ⟨rfl, ⟨nd, rfl⟩⟩))
         go_ret2
         exact ⟨by first | rfl | (simp; done) | (simp [*]; done), by repeat (first | exact Drawn0.refl _ | apply Drawn0.step)⟩
        ·replace c14 := Bool.eq_false_iff.mpr c14
         subst c14
         have H1 : (some (x7_1, false)) = some (r1, r2) := by rw [if_neg (show ¬ (false = true) by decide)] at H; exact H
         clear H
         have H := H1
         clear H1
         simp only [Option.some.injEq, Prod.mk.injEq] at H
         obtain ⟨rfl, rfl⟩ := H
         have p302 : 0 ≤ (x7_1 : Int) := of_decide_eq_true (by first | (with_reducible assumption) | assumption)
         have q302 : x7_1 < (l0.length : Int) := of_decide_eq_true (by first | (with_reducible assumption) | assumption)
         obtain ⟨ad302, e302, hx302_0⟩ := Kd.at_int HR0.out x7_1 p302 q302
         cases e302
         replace p302 := eq_true p302
         replace q302 := eq_true q302
         have p303 : 0 ≤ (x7_1 : Int) := of_decide_eq_true (by first | (with_reducible assumption) | assumption)
         have q303 : x7_1 < (l0.length : Int) := of_decide_eq_true (by first | (with_reducible assumption) | assumption)
         obtain ⟨ad303, e303, hx303_0⟩ := Kd.at_int HR0.out x7_1 p303 q303
         obtain rfl : ad302 = ad303 := (by injection e303)
         replace p303 := eq_true p303
         replace q303 := eq_true q303
         go_wp2_with (first | (go_at_call 123; (with_reducible refine (slices_isNaN_int64.calls (rd l0 x7_1) false _ A13.out).mono ?_); rintro e w' ⟨rfl, ⟨nd, rfl⟩⟩))
         go_ret2
         exact ⟨by first | rfl | (simp; done) | (simp [*]; done), by repeat (first | exact Drawn0.refl _ | apply Drawn0.step)⟩
      ·rw [if_neg c11] at H
       exact absurd H (by simp)
     ·rw [if_neg c10] at H
      exact absurd H (by simp)
    ·rw [if_neg c9] at H
     have c9b0 : decide (x7_1 < (l0.length : Int)) = false := decide_eq_false c9
     clear c9
     simp only [Option.some.injEq, Prod.mk.injEq] at H
     obtain ⟨rfl, rfl⟩ := H
     go_wp2
     go_ret2
     exact ⟨by first | rfl | (simp; done) | (simp [*]; done), by repeat (first | exact Drawn0.refl _ | apply Drawn0.step)⟩

/-! ### impl_Complex_has: function 85 -/
end Go.Proofs.YtaeabbackmnioaaDoor.Q
end

section
/- slices.BinarySearch over numbers, and has: on a strictly ascending list it tells membership. -/
namespace Go.Proofs.YtaeabbackmnioaaDoor.K
open Go.RowKit Go.Shelf Go.Proofs.YtaeabbackmnioaaDoor.Q Go.Proofs.YtaeabbackmnioaaDoorW.PrintWords Go.Proofs.YtaeabbackmnioaaDoorW.PrintLast Go.Proofs.YtaeabbackmnioaaDoorW.PrintMore
set_option linter.unusedVariables false
set_option linter.unusedSimpArgs false

/-- Strictly ascending. -/
abbrev Asc (l : List Int) : Prop := l.Pairwise (· < ·)
/-- How many are less than t. -/
def below (l : List Int) (t : Int) : Nat := l.countP (· < t)

theorem mid_eq (i j : Nat) (h : j ≤ 2305843009213693952) (hij : i ≤ j) : wrap64 ((IntKind.u64.wrap (wrap64 ((i : Int) + (j : Int)))) / 2) = (((i + j) / 2 : Nat) : Int) := by
 have h1 : wrap64 ((i : Int) + (j : Int)) = (i : Int) + j := by unfold wrap64; omega
 have h2 : IntKind.u64.wrap ((i : Int) + (j : Int)) = (i : Int) + j := by
  simp [IntKind.wrap, IntKind.signed, IntKind.bits]; omega
 rw [h1, h2]
 unfold wrap64
 omega

theorem rd_get (l : List Int) (i : Nat) (h : i < l.length) : rd l (i : Int) = l[i] := by simp [rd, h]

theorem less_is (a b : Int) : cmp_Less_int64.f a b = some (decide (a < b)) := by
 simp [cmp_Less_int64.f, cmp_isNaN_int64.f]

theorem bs_loop (l : List Int) (t : Int) (hl : l.length ≤ 2305843009213693952) : ∀ (d k i j : Nat), j - i ≤ d → d < k → i ≤ j → j ≤ l.length →
  ∃ (m : Nat) (ok : Bool), slices_BinarySearch_int64_int64.l0 k l t (l.length : Int) (i : Int) (j : Int) = some ((m : Int), ok) ∧ i ≤ m ∧ m ≤ j ∧
   (Asc l → (∀ q (h : q < l.length), q < i → l[q] < t) → (∀ q (h : q < l.length), j ≤ q → t ≤ l[q]) →
    ((∀ q (h : q < l.length), q < m → l[q] < t) ∧ (∀ q (h : q < l.length), m ≤ q → t ≤ l[q]) ∧ ok = decide (t ∈ l))) := by
 intro d
 induction d with
 | zero =>
  intro k i j hd hk hij hj
  obtain ⟨k, rfl⟩ : ∃ m, k = m + 1 := ⟨k - 1, by omega⟩
  obtain rfl : i = j := by omega
  simp only [slices_BinarySearch_int64_int64.l0]
  rw [if_neg (by omega)]
  by_cases hi : i < l.length
  ·rw [if_pos (by omega), if_pos (by omega), if_pos (by omega), rd_get l i hi]
   by_cases he : l[i] = t
   ·rw [if_pos he]
    refine ⟨i, true, rfl, Nat.le_refl _, Nat.le_refl _, fun hs h1 h2 => ⟨h1, h2, ?_⟩⟩
    have : t ∈ l := he ▸ List.getElem_mem hi
    simp [this]
   ·rw [if_neg he]
    refine ⟨i, false, by simp [slices_isNaN_int64.f], Nat.le_refl _, Nat.le_refl _, fun hs h1 h2 => ⟨h1, h2, ?_⟩⟩
    have : t ∉ l := by
     intro hm
     obtain ⟨q, hq, rfl⟩ := List.mem_iff_getElem.1 hm
     rcases Nat.lt_trichotomy q i with h | h | h
     ·have := h1 q hq h; omega
     ·subst h; exact he rfl
     ·have := h2 i hi (Nat.le_refl _)
      have := List.pairwise_iff_getElem.1 hs i q hi hq h
      omega
    simp [this]
  ·rw [if_neg (by omega)]
   refine ⟨i, false, rfl, Nat.le_refl _, Nat.le_refl _, fun hs h1 h2 => ⟨h1, h2, ?_⟩⟩
   have : t ∉ l := by
    intro hm
    obtain ⟨q, hq, rfl⟩ := List.mem_iff_getElem.1 hm
    have := h1 q hq (by omega); omega
   simp [this]
 | succ d ih =>
  intro k i j hd hk hij hj
  by_cases hlt : i < j
  ·obtain ⟨k, rfl⟩ : ∃ m, k = m + 1 := ⟨k - 1, by omega⟩
   have hm1 : (i + j) / 2 < l.length := by omega
   simp only [slices_BinarySearch_int64_int64.l0]
   rw [if_pos (by omega), mid_eq i j (by omega) hij, if_pos (by omega), if_pos (by omega), rd_get l _ hm1, less_is]
   simp only [Option.bind_some]
   by_cases hc : l[(i + j) / 2] < t
   ·have hw : wrap64 ((((i + j) / 2 : Nat) : Int) + 1) = (((i + j) / 2 + 1 : Nat) : Int) := by unfold wrap64; omega
    simp only [hc, decide_true, if_true, hw]
    obtain ⟨m, ok, h1, h2, h3, h4⟩ := ih k ((i + j) / 2 + 1) j (by omega) (by omega) (by omega) hj
    refine ⟨m, ok, h1, by omega, h3, fun hs g1 g2 => h4 hs (fun q hq hqi => ?_) g2⟩
    rcases Nat.lt_or_ge q ((i + j) / 2) with h | h
    ·have := List.pairwise_iff_getElem.1 hs q _ hq hm1 h; omega
    ·obtain rfl : q = (i + j) / 2 := by omega
     exact hc
   ·simp only [hc, decide_false, Bool.false_eq_true, if_false]
    obtain ⟨m, ok, h1, h2, h3, h4⟩ := ih k i ((i + j) / 2) (by omega) (by omega) (by omega) (by omega)
    refine ⟨m, ok, h1, h2, by omega, fun hs g1 g2 => h4 hs g1 (fun q hq hqi => ?_)⟩
    rcases Nat.lt_or_ge ((i + j) / 2) q with h | h
    ·have := List.pairwise_iff_getElem.1 hs _ q hm1 hq h; omega
    ·obtain rfl : q = (i + j) / 2 := by omega
     omega
  ·obtain ⟨m, ok, h1, h2⟩ := ih k i j (by omega) (by omega) hij hj
   exact ⟨m, ok, h1, h2⟩

/-- What the search comes to. -/
def bsOf (l : List Int) (t : Int) : Int × Bool := (slices_BinarySearch_int64_int64.f (l.length + 1) l t).getD (0, false)
theorem bs_is (l : List Int) (t : Int) (hl : l.length ≤ 2305843009213693952) : slices_BinarySearch_int64_int64.f (l.length + 1) l t = some (bsOf l t) := by
 obtain ⟨m, ok, h, _⟩ := bs_loop l t hl l.length (l.length + 1) 0 l.length (by omega) (by omega) (by omega) (Nat.le_refl _)
 unfold bsOf slices_BinarySearch_int64_int64.f
 rw [show ((0 : Nat) : Int) = 0 from rfl] at h
 rw [h]; rfl
theorem bs_asc (l : List Int) (t : Int) (hl : l.length ≤ 2305843009213693952) (hs : Asc l) : ∃ m : Nat, (bsOf l t).1 = m ∧ m ≤ l.length ∧ (∀ q (h : q < l.length), q < m → l[q] < t) ∧ (∀ q (h : q < l.length), m ≤ q → t ≤ l[q]) ∧ (bsOf l t).2 = decide (t ∈ l) := by
 obtain ⟨m, ok, h, _, h3, h4⟩ := bs_loop l t hl l.length (l.length + 1) 0 l.length (by omega) (by omega) (by omega) (Nat.le_refl _)
 have := bs_is l t hl
 unfold slices_BinarySearch_int64_int64.f at this
 rw [show ((0 : Nat) : Int) = 0 from rfl] at h
 rw [h] at this
 injection this with this
 obtain ⟨g1, g2, g3⟩ := h4 hs (fun q _ h => by omega) (fun q hq h => by omega)
 rw [← this]
 exact ⟨m, rfl, h3, g1, g2, g3⟩

/-- What has answers. -/
def hasB (l : List Int) (f : Int) : Bool := (bsOf l f).2
theorem has_asc (l : List Int) (f : Int) (hl : l.length ≤ 2305843009213693952) (hs : Asc l) : hasB l f = decide (f ∈ l) := by
 obtain ⟨_, _, _, _, _, h⟩ := bs_asc l f hl hs
 exact h
end Go.Proofs.YtaeabbackmnioaaDoor.K
end

section
/- Contracts of small functions of numbers, out of the printed ones. -/
namespace Go.Proofs.YtaeabbackmnioaaDoor.K
open Go.RowKit Go.Shelf Go.Proofs.YtaeabbackmnioaaDoor.Q Go.Proofs.YtaeabbackmnioaaDoorW.PrintWords Go.Proofs.YtaeabbackmnioaaDoorW.PrintLast Go.Proofs.YtaeabbackmnioaaDoorW.PrintMore
set_option linter.unusedVariables false
set_option linter.unusedSimpArgs false

theorem within_is (a b c : Int) : impl_within.f a b c = some (decide (b ≤ a ∧ a ≤ c)) := by
 unfold impl_within.f
 by_cases h : b ≤ a <;> simp [h]
theorem within_calls (a b c : Int) (r : Bool) (h : decide (b ≤ a ∧ a ≤ c) = r) (w : World) :
  Calls Tryd.prog 43 #[I a, I b, I c] w fun e w' => e = .returned (.bool r) ∧ Grew w w' :=
 (impl_within.calls a b c r w (by rw [within_is, h])).mono fun e w' ⟨he, hd⟩ => ⟨he, hd.below⟩
theorem isSize_calls (n : Int) (r : Bool) (h : decide (1 ≤ n ∧ n ≤ 6) = r) (w : World) :
  Calls Tryd.prog 20 #[I n] w fun e w' => e = .returned (.bool r) ∧ Grew w w' :=
 (impl_isSize.calls n r w (by unfold impl_isSize.f; rw [within_is, h]; rfl)).mono fun e w' ⟨he, hd⟩ => ⟨he, hd.below⟩

/-- The set of all vertices. -/
def fullOf (n : Int) : Int := 2 ^ n.toNat - 1
theorem two_pow (m k : Nat) (h : m ≤ k) : (1 : Int) ≤ 2 ^ m ∧ (2 : Int) ^ m ≤ 2 ^ k := by
 have h1 : (2 : Nat) ^ m ≤ 2 ^ k := Nat.pow_le_pow_right (by omega) h
 have h2 : (1 : Nat) ≤ 2 ^ m := Nat.one_le_two_pow
 have e1 : (2 : Int) ^ m = ((2 ^ m : Nat) : Int) := by simp
 have e2 : (2 : Int) ^ k = ((2 ^ k : Nat) : Int) := by simp
 rw [e1, e2]
 omega
theorem full_range (n : Int) (h : 1 ≤ n ∧ n ≤ 6) : 1 ≤ fullOf n ∧ fullOf n ≤ 63 := by
 unfold fullOf
 have h1 := two_pow n.toNat 6 (by omega)
 have h2 := two_pow 1 n.toNat (by omega)
 omega
theorem full_nat (n : Int) : fullOf n = ((2 ^ n.toNat - 1 : Nat) : Int) := by
 unfold fullOf
 have : ((2 ^ n.toNat : Nat) : Int) = (2 : Int) ^ n.toNat := by simp
 have h1 : (1 : Nat) ≤ 2 ^ n.toNat := Nat.one_le_two_pow
 omega
theorem shl_one (n : Int) (h0 : 0 ≤ n) (h6 : n ≤ 62) : shl .i64 1 n = 2 ^ n.toNat := by
 have h := two_pow n.toNat 62 (by omega)
 unfold shl
 rw [Nat.min_eq_left (by show n.toNat ≤ 64; omega), Int.one_mul]
 show IntKind.wrap .i64 _ = _
 rw [IntKind.wrap_i64]
 omega
end Go.Proofs.YtaeabbackmnioaaDoor.K
end

section
/- IsComplex. -/
namespace Go.Proofs.YtaeabbackmnioaaDoor.K
open Go.RowKit Go.Shelf Go.Proofs.YtaeabbackmnioaaDoorW.PrintWords Go.Proofs.YtaeabbackmnioaaDoorW.PrintLast Go.Proofs.YtaeabbackmnioaaDoorW.PrintMore
set_option linter.unusedVariables false
set_option linter.unusedSimpArgs false

/-- All borders of f are in l (as has tells it). -/
def closedAt (l : List Int) (f : Int) : Bool := (bords f).all (hasB l)

/-- The face at place j is in range, and behind the one before it. -/
def goodAt (n : Int) (l : List Int) (j : Nat) : Prop := ∀ (h : j < l.length), 1 ≤ l[j] ∧ l[j] ≤ fullOf n ∧ (∀ (h0 : 0 < j), l[j - 1]'(by omega) < l[j])
instance (n : Int) (l : List Int) (j : Nat) : Decidable (goodAt n l j) := by unfold goodAt; infer_instance
def rangeAsc (n : Int) (l : List Int) : Bool := decide (∀ j, j < l.length → goodAt n l j)
/-- What IsComplex answers. -/
def isC (n : Int) (l : List Int) : Bool := decide (1 ≤ n ∧ n ≤ 6) && (rangeAsc n l && l.all (closedAt l))

end Go.Proofs.YtaeabbackmnioaaDoor.K
end

section
/- Small words on memory: a struct's block, an append of a number, a struct handed back. -/
namespace Go.Proofs.YtaeabbackmnioaaDoor.K
open Go.RowKit Go.Shelf Go.Proofs.YtaeabbackmnioaaDoorW.PrintWords Go.Proofs.YtaeabbackmnioaaDoorW.PrintLast Go.Proofs.YtaeabbackmnioaaDoorW.PrintMore
set_option linter.unusedVariables false
set_option linter.unusedSimpArgs false

/-- The block of a complex: its two cells. -/
abbrev CB (w : World) (g : Nat) (n : Int) (v : Value) : Prop := w.heap[g]? = some (.cells #[I n, v] 24 (0, 0))
theorem CB.set {w : World} {g : Nat} {n m : Int} {v u : Value} (h : CB w g n v) : CB ((w.setCell ⟨g, 0, none⟩ (I m)).setCell ⟨g, 1, none⟩ u) g m u :=
 blk_put (cs := #[I m, v]) (blk_put (cs := #[I n, v]) h 0 _ rfl) 1 _ rfl
theorem CB.set1 {w : World} {g : Nat} {n : Int} {v u : Value} (h : CB w g n v) : CB (w.setCell ⟨g, 1, none⟩ u) g n u := blk_put (cs := #[I n, v]) h 1 _ rfl
theorem CB.c0 {w : World} {g : Nat} {n : Int} {v : Value} (h : CB w g n v) : w.cell? ⟨g, 0, none⟩ = some (I n) := blk_cell h 0
theorem CB.c1 {w : World} {g : Nat} {n : Int} {v : Value} (h : CB w g n v) : w.cell? ⟨g, 1, none⟩ = some v := blk_cell h 1
theorem CB.far {w : World} {g : Nat} {n : Int} {v : Value} (h : CB w g n v) {p : Addr} (hp : g ≠ p.block) (u : Value) : CB (w.setCell p u) g n v := blk_far h hp u

/-- A row of numbers of the call's own stays behind a store into a block of another type. -/
theorem Ri.set {w : World} {base : Nat} {ok : Nat → Prop} {v : Value} {l : List Int} (h : Ki.R 2 w base ok v l) {g t : Nat} {cells : Array Value} (hb : w.heap[g]? = some (.cells cells t (0, 0))) (ht : 2 ≠ t) (j : Nat) (u : Value) : Ki.R 2 (w.setCell ⟨g, j, none⟩ u) base ok v l :=
 Kd.R_set h hb (fun q hq => by
  have : q = 2 := by simpa [Ki, Kd.int, Kd.scalar] using hq
  rw [this]; exact ht) j u

theorem CB.grown {w w1 : World} {g : Nat} {n : Int} {v u : Value} {base : Nat} {ok : Nat → Prop} {l : List Int} (h : CB w g n v) (hR : Ki.R 2 w base ok u l) (hg : w.grownBy w1 u.ownBlock) : CB w1 g n v :=
 blk_grown h hg (Kd.R_ne hR h (by decide))
theorem Ri.setCB {w : World} {base : Nat} {ok : Nat → Prop} {v u : Value} {l : List Int} {g : Nat} {n : Int} (h : Ki.R 2 w base ok v l) (hb : CB w g n u) (j : Nat) (x : Value) : Ki.R 2 (w.setCell ⟨g, j, none⟩ x) base ok v l := Ri.set h hb (by decide) j x
theorem Ri.setCB2 {w : World} {base : Nat} {ok : Nat → Prop} {v u : Value} {l : List Int} {g : Nat} {n m : Int} {y : Value} (h : Ki.R 2 w base ok v l) (hb : CB w g n u) : Ki.R 2 ((w.setCell ⟨g, 0, none⟩ (I m)).setCell ⟨g, 1, none⟩ y) base ok v l :=
 Ri.set (Ri.set h hb (by decide) 0 (I m)) (blk_put (cs := #[I n, u]) hb 0 (I m) rfl) (by decide) 1 y
theorem infoI : (Tryd.prog.info? 2).map (fun i => (i.zero, i.size, i.bytes)) = some (some (.int .i64 0), 1, 8) := by kernel_rfl

section
variable {ops : Array Oper} {rest : List Oper} {o : Oper} {a : Act} {Q : Exit → Act → World → Prop}
/-- 'append' of one number to a row of the call's own. -/
theorem append_int {W : World} (base : Nat) (hgd : o.guard = none) (s x : Operand)
  (ho : o.op = .call { callee := .builtin .append, args := #[s, x], argTypes := #[22, 22] })
  (v : Value) (xs : List Int) (p : Int) (hs : a.eval s = v) (hx : a.eval x = .slice (some ⟨W.heap.size, 0, none⟩) 1 1)
  (HO : Ki.R 2 W base (fun _ => True) v xs) (hbase : base ≤ W.heap.size) (hl : xs.length ≤ 1000000000000)
  (h : ∀ A c w1, Ki.R 2 w1 base (fun _ => True) (.slice A (xs.length + 1) c) (xs ++ [p]) → Below base W w1 → W.grownBy w1 v.ownBlock → wpList Tryd.prog ops Q rest (a.put o.dst (.slice A (xs.length + 1) c)) w1) :
  wpList Tryd.prog ops Q (o :: rest) a (W.alloc (.cells #[I p] 2)) := by
 refine Kd.R_append Ki (w0 := W) base hgd s x 22 2 (.int .i64 0) 8 ho Tryd.underlying22 infoI rfl (by decide) (by omega) v xs p [I p] (fun _ => True) (fun _ => False) hs hx rfl (fun _ hk => hk.elim) (fun _ _ => trivial) HO (Below.refl _ _) hbase (by omega) ?_
 intro v1 w1 hR hB hg _
 obtain ⟨A, c, e⟩ := Kd.R_slice hR
 rw [List.length_append] at e
 subst e
 exact h A c w1 hR hB hg
end

end Go.Proofs.YtaeabbackmnioaaDoor.K
end

section
/- The faces' row of a complex as it lies. -/
namespace Go.Proofs.YtaeabbackmnioaaDoor.K
open Go.RowKit Go.Shelf Go.Proofs.YtaeabbackmnioaaDoorW.PrintWords Go.Proofs.YtaeabbackmnioaaDoorW.PrintLast Go.Proofs.YtaeabbackmnioaaDoorW.PrintMore
set_option linter.unusedVariables false
set_option linter.unusedSimpArgs false

theorem CB.later {w w' : World} {g : Nat} {n : Int} {v : Value} (h : CB w g n v) (hb : Grew w w') : CB w' g n v := blk_below h hb

/-- The faces' row of a complex as it lies. -/
structure Kx (w : World) (A : Option Addr) (c : Nat) (l : List Int) : Prop where
 r : Ki.C w A l.length l
 c : l.length ≤ c
 b : l.length ≤ 1152921504606846976
theorem Kx.later {w w' : World} {A : Option Addr} {c : Nat} {l : List Int} (h : Kx w A c l) (hb : Grew w w') : Kx w' A c l := ⟨Kd.C_below h.r hb, h.c, h.b⟩
theorem isC_size {n : Int} {l : List Int} (h : isC n l = true) : 1 ≤ n ∧ n ≤ 6 := by
 unfold isC at h
 simp at h
 exact h.1

end Go.Proofs.YtaeabbackmnioaaDoor.K
end

section
/- Words of the walks through laws: what lies in memory, and the laws' helpers in one form. -/
namespace Go.Proofs.YtaeabbackmnioaaDoor.K
open Go.RowKit Go.Shelf Go.Proofs.YtaeabbackmnioaaDoor.Q Go.Proofs.YtaeabbackmnioaaDoorW.PrintWords Go.Proofs.YtaeabbackmnioaaDoorW.PrintLast Go.Proofs.YtaeabbackmnioaaDoorW.PrintMore
set_option linter.unusedVariables false
set_option linter.unusedSimpArgs false

/-- A row of numbers whose block lies in lo .. hi - 1. -/
def Row (w : World) (lo hi : Nat) (v : Value) (l : List Int) : Prop := Ki.R 2 w lo (fun k => lo ≤ k ∧ k < hi) v l
theorem Row.of_R {w w' : World} {v : Value} {l : List Int} (h : Ki.R 2 w' w.heap.size (fun _ => True) v l) : Row w' w.heap.size w'.heap.size v l :=
 Kd.R_mono (Kd.R_bound h) (fun k hk => ⟨hk.2.1, hk.2.2.1⟩)
theorem Row.kept {w w' : World} {lo hi : Nat} {v : Value} {l : List Int} {S : Nat → Prop} (h : Row w lo hi v l) (hk : Kept w w' S) (hs : ∀ k, lo ≤ k → k < hi → ¬ S k) : Row w' lo hi v l :=
 Kd.R_step h (fun k ho hlt => hk.2 k hlt (hs k ho.1 ho.2))
theorem Row.reads {w : World} {lo hi : Nat} {v : Value} {l : List Int} (h : Row w lo hi v l) : ∃ A c, v = .slice A l.length c ∧ l.length ≤ c ∧ Ki.C w A l.length l := Kd.R_reads h
theorem Row.slice {w : World} {lo hi m c : Nat} {A : Option Addr} {l : List Int} (h : Row w lo hi (.slice A m c) l) : m = l.length ∧ m ≤ c ∧ Ki.C w A l.length l := by
 obtain ⟨A', c', e, h1, h2⟩ := h.reads
 injection e with e1 e2 e3
 subst e1 e2 e3
 exact ⟨rfl, h1, h2⟩

/-- What lies in memory: boxes and rows. -/
inductive Item where
 | box (g t : Nat) (cs : Array Value)
 | row (lo hi : Nat) (v : Value) (l : List Int)
def Item.ok (W : World) : Item → Prop
 | .box g t cs => W.heap[g]? = some (.cells cs t (0, 0))
 | .row lo hi v l => Row W lo hi v l
def Item.at_ : Item → Nat → Prop
 | .box g _ _, k => k = g
 | .row lo hi _ _, k => lo ≤ k ∧ k < hi
theorem Item.kept {W W' : World} {S : Nat → Prop} {it : Item} (h : it.ok W) (hk : Kept W W' S) (hs : ∀ k, it.at_ k → ¬ S k) : it.ok W' := by
 cases it with
 | box g t cs => exact blk_kept h hk (hs g rfl)
 | row lo hi v l => exact Row.kept h hk (fun k h1 h2 => hs k ⟨h1, h2⟩)
def Mem (W : World) (its : List Item) : Prop := ∀ it ∈ its, it.ok W
theorem Mem.nil (W : World) : Mem W [] := fun _ h => by cases h
theorem Mem.cons {W : World} {it : Item} {its : List Item} (h : it.ok W) (hs : Mem W its) : Mem W (it :: its) := fun x hx => by
 rcases List.mem_cons.1 hx with rfl | hx
 ·exact h
 ·exact hs x hx
theorem Mem.head {W : World} {it : Item} {its : List Item} (h : Mem W (it :: its)) : it.ok W := h it List.mem_cons_self
theorem Mem.tail {W : World} {it : Item} {its : List Item} (h : Mem W (it :: its)) : Mem W its := fun x hx => h x (List.mem_cons_of_mem _ hx)
theorem Mem.kept {W W' : World} {S : Nat → Prop} {its : List Item} (h : Mem W its) (hk : Kept W W' S) (hs : ∀ it ∈ its, ∀ k, it.at_ k → ¬ S k) : Mem W' its := fun it hit => Item.kept (h it hit) hk (hs it hit)
theorem Mem.grew {W W' : World} {its : List Item} (h : Mem W its) (hb : Grew W W') : Mem W' its := h.kept (Kept.of_below hb (fun _ => False)) (fun _ _ _ _ hf => hf)

/-- A new box of a complex, filled (as the walk leaves it). -/
def putC (w : World) (n : Int) (v : Value) : World := w.alloc (.cells #[I n, v] 24)
theorem putC_box (w : World) (n : Int) (v : Value) : CB (putC w n v) w.heap.size n v := blk_new w _
theorem putC_grew (w : World) (n : Int) (v : Value) : Grew w (putC w n v) := below_alloc (Grew.refl w) _
theorem putC_size (w : World) (n : Int) (v : Value) : (putC w n v).heap.size = w.heap.size + 1 := by simp [putC]

theorem eqC_calls (n : Int) (l : List Int) (A1 A2 : Option Addr) (c1 c2 m1 m2 lo1 hi1 lo2 hi2 : Nat) (w : World) (h1 : Row w lo1 hi1 (.slice A1 m1 c1) l) (h2 : Row w lo2 hi2 (.slice A2 m2 c2) l) :
  Calls Tryd.prog 8 #[.agg #[I n, .slice A1 m1 c1], .agg #[I n, .slice A2 m2 c2]] w fun e w' => e = .returned (.bool true) ∧ Grew w w' := by
 obtain ⟨rfl, k1, r1⟩ := h1.slice
 obtain ⟨rfl, k2, r2⟩ := h2.slice
 exact laws_eqComplex.calls (l.length + 1) n A1 c1 l n A2 c2 l true w r1 k1 r2 k2 (by rw [eqComplex_is n l n l r1.2.1 _ (Nat.lt_succ_self _)]; simp)
theorem markC_calls (n : Int) (A : Option Addr) (m c : Nat) (l : List Int) (a : Int) (ha : 0 ≤ a ∧ a ≤ 1000000000) (hl : l.length ≤ 100000000) (lo hi : Nat) (w0 w : World) (hB : Below w0.heap.size w0 w) (hlo : w0.heap.size ≤ lo) (h : Row w lo hi (.slice A m c) l) :
  Calls Tryd.prog 9 #[.agg #[I n, .slice A m c], I a] w fun e w' => e = .returned (I (a + l.length)) ∧ Row w' lo hi (.slice A m c) (marks a l.length) ∧ Below w0.heap.size w0 w' ∧ Kept w w' (fun k => lo ≤ k ∧ k < hi) := by
 refine (laws_markComplex.calls (l.length + 1) n (fun k => lo ≤ k ∧ k < hi) (.slice A m c) l a _ _ w0 w hB (Kd.R_lower h hlo) (markComplex_is n l a ha hl _ (Nat.lt_succ_self _))).mono ?_
 rintro e w' ⟨rfl, hR, hB', hK⟩
 exact ⟨rfl, Kd.R_of_own (Kd.own_raise (Kd.own_of_R hR) (fun k hk => (h.1 k hk).1)) (fun k hk => h.1 k hk), hB', hK⟩
theorem heldC_calls (n : Int) (A : Option Addr) (m m' c lo hi : Nat) (a : Int) (ha : 0 ≤ a ∧ a ≤ 1000000000) (hl : m ≤ 100000000) (w : World) (h : Row w lo hi (.slice A m' c) (marks a m)) :
  Calls Tryd.prog 10 #[.agg #[I n, .slice A m' c], I a] w fun e w' => e = .returned (I (a + m)) ∧ Grew w w' := by
 obtain ⟨rfl, k1, r1⟩ := h.slice
 exact laws_heldComplex.calls (m + 1) n A c (marks a m) a _ w r1 k1 (heldComplex_is n m a ha hl _ (Nat.lt_succ_self _))

end Go.Proofs.YtaeabbackmnioaaDoor.K
end

section
/- The shelf's contract of a function of the library, laid at this program. -/
namespace Go.Proofs.YtaeabbackmnioaaDoor.K
open Go.Shelf
def SplitI_ren : Go.Shelf.Ren := {
 f := fun x =>
  match x with
  | 146 => 44
  | 221 => 70
  | 268 => 95
  | 138 => 96
  | 143 => 97
  | 195 => 111
  | 197 => 112
  | 218 => 113
  | 219 => 64
  | 260 => 124
  | 217 => 86
  | 225 => 87
  | 224 => 88
  | 267 => 89
  | 266 => 108
  | 314 => 109
  | n => n,
 t := fun x =>
  match x with
  | 9 => 9
  | 31 => 58
  | 3 => 3
  | 4 => 4
  | 0 => 0
  | 105 => 127
  | 21 => 21
  | 5 => 5
  | 46 => 84
  | 119 => 139
  | 139 => 142
  | 138 => 141
  | 146 => 121
  | 51 => 120
  | n => n,
 g := fun x =>
  match x with
  | 1 => 0
  | 3 => 4
  | 4 => 5
  | n => n }
theorem SplitI : LaysM.n146 Tryd.prog SplitI_ren := {
 mixed := by kernel_rfl,
 f138 := Tryd.func96.trans (congrArg some (by kernel_rfl)),
 f143 := Tryd.func97.trans (congrArg some (by kernel_rfl)),
 f146 := Tryd.func44.trans (congrArg some (by kernel_rfl)),
 f195 := Tryd.func111.trans (congrArg some (by kernel_rfl)),
 f197 := Tryd.func112.trans (congrArg some (by kernel_rfl)),
 f217 := Tryd.func86.trans (congrArg some (by kernel_rfl)),
 f218 := Tryd.func113.trans (congrArg some (by kernel_rfl)),
 f219 := Tryd.func64.trans (congrArg some (by kernel_rfl)),
 f221 := Tryd.func70.trans (congrArg some (by kernel_rfl)),
 f224 := Tryd.func88.trans (congrArg some (by kernel_rfl)),
 f225 := Tryd.func87.trans (congrArg some (by kernel_rfl)),
 f260 := Tryd.func124.trans (congrArg some (by kernel_rfl)),
 f266 := Tryd.func108.trans (congrArg some (by kernel_rfl)),
 f267 := Tryd.func89.trans (congrArg some (by kernel_rfl)),
 f268 := Tryd.func95.trans (congrArg some (by kernel_rfl)),
 f314 := Tryd.func109.trans (congrArg some (by kernel_rfl)),
 t0 := Tryd.underlying0,
 a0 := Tryd.isAgg0,
 z0 := Tryd.sizeOf0,
 v0 := Tryd.zeroValue0,
 t3 := Tryd.underlying3,
 a3 := Tryd.isAgg3,
 z3 := Tryd.sizeOf3,
 v3 := Tryd.zeroValue3,
 t4 := Tryd.underlying4,
 a4 := Tryd.isAgg4,
 z4 := Tryd.sizeOf4,
 v4 := Tryd.zeroValue4,
 t5 := Tryd.underlying5,
 a5 := Tryd.isAgg5,
 z5 := Tryd.sizeOf5,
 v5 := Tryd.zeroValue5,
 t9 := Tryd.underlying9,
 a9 := Tryd.isAgg9,
 z9 := Tryd.sizeOf9,
 v9 := Tryd.zeroValue9,
 t21 := Tryd.underlying21,
 a21 := Tryd.isAgg21,
 z21 := Tryd.sizeOf21,
 v21 := Tryd.zeroValue21,
 t31 := Tryd.underlying58,
 a31 := Tryd.isAgg58,
 z31 := Tryd.sizeOf58,
 v31 := Tryd.zeroValue58,
 t46 := Tryd.underlying84,
 a46 := Tryd.isAgg84,
 z46 := Tryd.sizeOf84,
 v46 := Tryd.zeroValue84,
 t51 := Tryd.underlying120,
 a51 := Tryd.isAgg120,
 z51 := Tryd.sizeOf120,
 v51 := Tryd.zeroValue120,
 t105 := Tryd.underlying127,
 a105 := Tryd.isAgg127,
 z105 := Tryd.sizeOf127,
 v105 := Tryd.zeroValue127,
 t119 := Tryd.underlying139,
 a119 := Tryd.isAgg139,
 z119 := Tryd.sizeOf139,
 t138 := Tryd.underlying141,
 a138 := Tryd.isAgg141,
 z138 := Tryd.sizeOf141,
 v138 := Tryd.zeroValue141,
 t139 := Tryd.underlying142,
 a139 := Tryd.isAgg142,
 z139 := Tryd.sizeOf142,
 v139 := Tryd.zeroValue142,
 t146 := Tryd.underlying121,
 a146 := Tryd.isAgg121,
 z146 := Tryd.sizeOf121,
 v146 := Tryd.zeroValue121,
 g1 := by kernel_rfl,
 g3 := by kernel_rfl,
 g4 := by kernel_rfl,
 i0 := by kernel_rfl,
 i3 := by kernel_rfl,
 i4 := by kernel_rfl,
 i5 := by kernel_rfl,
 i9 := by kernel_rfl,
 i21 := by kernel_rfl,
 i31 := by kernel_rfl,
 i46 := by kernel_rfl,
 i51 := by kernel_rfl,
 i105 := by kernel_rfl,
 i138 := by kernel_rfl,
 i139 := by kernel_rfl,
 i146 := by kernel_rfl,
 m1 := by kernel_rfl,
 s1_3 := fun w h => cell_of_shapedOpen_int (zero := #[Value.int IntKind.i64 0]) h (of_decide_eq_true (by kernel_rfl)) (by kernel_rfl) rfl (by kernel_rfl) (by kernel_rfl) Tryd.underlying3,
 m3 := by kernel_rfl,
 m4 := by kernel_rfl }
end Go.Proofs.YtaeabbackmnioaaDoor.K
end

section
/- strings.Split at a separator of one byte, in whatever world. -/
namespace Go.Proofs.YtaeabbackmnioaaDoor.K
open Go.RowKit Go.Shelf Go.Proofs.YtaeabbackmnioaaDoorW.PrintWords Go.Proofs.YtaeabbackmnioaaDoorW.PrintLast Go.Proofs.YtaeabbackmnioaaDoorW.PrintMore
set_option linter.unusedVariables false
set_option linter.unusedSimpArgs false

/-- The pieces of a text between the bytes c. -/
def piecesB (c : UInt8) (s : ByteArray) : List ByteArray := Lib.splitB ⟨#[c]⟩ 0 (Lib.countB s ⟨#[c]⟩) s
theorem piecesB_length (c : UInt8) (s : ByteArray) : (piecesB c s).length = Lib.countB s ⟨#[c]⟩ + 1 := Lib.splitB_all ⟨#[c]⟩ (Nat.le_refl 1) 0 _ s rfl
set_option maxHeartbeats 2000000 in
theorem Split_calls (s : ByteArray) (c : UInt8) (w : World) (hs : s.size < 4294967281) :
  Calls Tryd.prog 44 #[.string s, .string ⟨#[c]⟩] w fun e w' => ∃ v, e = .returned v ∧ Kd.R Kd.string 9 w' w.heap.size (fun _ => True) v (piecesB c s) ∧ Grew w w' := by
 have L := SplitI
 have hle := Lib.countB_le ⟨#[c]⟩ (Nat.le_refl 1) s.size s (Nat.le_refl _)
 have hlen := piecesB_length c s
 have hC : Calls Tryd.prog (SplitI_ren.f 138) #[.string s, .string ⟨#[c]⟩] w fun e w' => e = .returned (.int .i64 (Lib.countB s ⟨#[c]⟩)) ∧ w' = w := by
  refine (Any.strings_Count_one { L with } s c w).mono fun e w' ⟨he, hw⟩ => ⟨?_, hw⟩
  rw [he]
  show _ = Ending.returned (Value.int .i64 ((Lib.count s.data.toList [c] : Nat) : Int))
  rw [Lib.count_one]
  rfl
 have hI : ∀ (x : ByteArray) (d : Array Value), x.size ≤ s.size → Calls Tryd.prog (SplitI_ren.f 143) #[.string x, .string ⟨#[c]⟩] (w.alloc (.cells d (SplitI_ren.t 9))) fun e w' => e = .returned (.int .i64 (Lib.indexB x ⟨#[c]⟩)) ∧ w' = w.alloc (.cells d (SplitI_ren.t 9)) := fun x d _ => by
  refine (Any.strings_Index_one { L with } x c _).mono fun e w' ⟨he, hw⟩ => ⟨?_, hw⟩
  rw [he]
  show _ = Ending.returned (Value.int .i64 (Lib.index x.data.toList [c]))
  rw [Lib.index_one]
 have hg := Any.strings_genSplit_core { L with } L.i9 s ⟨#[c]⟩ 0 (-1) (Lib.countB s ⟨#[c]⟩ + 1) w hs (Nat.le_refl 1) (Nat.zero_le _) hI hC (by decide) (by decide) (by rw [if_pos (by decide)]; omega)
 rw [Nat.add_sub_cancel] at hg
 have hfull : Lib.cellsOf (Lib.splitB ⟨#[c]⟩ 0 (Lib.countB s ⟨#[c]⟩) s) (Lib.countB s ⟨#[c]⟩ + 1) = ((piecesB c s).map Value.string).toArray := by
  rw [← hlen]
  exact Lib.cellsOf_full _
 rw [hfull] at hg
 have hn : (Lib.splitB ⟨#[c]⟩ 0 (Lib.countB s ⟨#[c]⟩) s).length = (piecesB c s).length := rfl
 rw [hn, ← hlen] at hg
 have hsz : (piecesB c s).length ≤ s.size + 1 := by omega
 have HG := Aside0.mk (show Calls Tryd.prog 70 #[.string s, .string ⟨#[c]⟩, .int .i64 0, .int .i64 (-1)] w fun e w' => e = .returned (.slice (some ⟨w.heap.size, 0, none⟩) (piecesB c s).length (piecesB c s).length) ∧ w' = w.alloc (.cells ((piecesB c s).map Value.string).toArray 9) from hg)
 clear hg hfull hn hI hC L hle hlen
 generalize piecesB c s = ps at HG hsz
 go_enter Tryd.func44, Tryd.ntmps44
 go_wp2_with fail
 refine HG.out.mono ?_
 rintro e w1 ⟨rfl, rfl⟩
 go_wp2_with fail
 go_ret
 refine ⟨_, rfl, ?_, below_alloc (Grew.refl w) _⟩
 have := World.ownsRow_lit (base := w.heap.size) (e := 9) (size := 1) w (ps.map Value.string).toArray ps.length (Nat.le_refl _) (by unfold maxLen; omega) (by simp)
 exact Kd.R_of_own (h1 := fun _ => rfl) this (fun _ _ => trivial)

end Go.Proofs.YtaeabbackmnioaaDoor.K
end

section
/- Written by a program of this session (myprint.py over the kit's print). -/
namespace Go.Proofs.YtaeabbackmnioaaDoor.Q
open Go.RowKit Go.Proofs.YtaeabbackmnioaaDoorW.PrintWords Go.Proofs.YtaeabbackmnioaaDoorW.PrintLast Go.Proofs.YtaeabbackmnioaaDoorW.PrintMore
attribute [local go_sem] max2_int min2_int max_two min_two max_three min_three max_four min_four   -- for this text's walks alone
set_option linter.unusedVariables false
set_option linter.unusedSimpArgs false

/-! ### spec_l01Split: function 35 -/
def spec_l01Split.l0 : Nat → ByteArray → Int → List ByteArray → Int → Int → Option (List ByteArray)
 | 0, _, _, _, _, _ => none
 | k + 1, x0, x1, x5, x6, x7 => if x7 < (x0.size : Int) then (if 0 ≤ x7 then (if (bt x0 x7) = x1 then (if 0 ≤ x6 then (if x6 ≤ x7 then (if x7 ≤ (x0.size : Int) then (if x5.length < 8796093022208 then (spec_l01Split.l0 k x0 x1 (x5 ++ [x0.extract (x6 : Int).toNat (x7 : Int).toNat]) (wrap64 (x7 + 1)) (wrap64 (x7 + 1))) else (none)) else (none)) else (none)) else (none)) else (spec_l01Split.l0 k x0 x1 x5 x6 (wrap64 (x7 + 1)))) else (none)) else (if 0 ≤ x6 then (if x6 ≤ (x0.size : Int) then (if x5.length < 8796093022208 then (some (x5 ++ [x0.extract (x6 : Int).toNat x0.size])) else (none)) else (none)) else (none))
def spec_l01Split.f (k : Nat) (a0 : ByteArray) (a1 : Int) : Option (List ByteArray) := spec_l01Split.l0 k a0 a1 (([] : List ByteArray)) 0 0
theorem spec_l01Split.mono_l : ∀ k, (∀ y0 y1 y2 y3 y4, LeO (spec_l01Split.l0 k y0 y1 y2 y3 y4) (spec_l01Split.l0 (k + 1) y0 y1 y2 y3 y4))
 | 0 => fun _ _ _ _ _ r h => by simp [spec_l01Split.l0] at h
 | k + 1 => by
  have ih0 := spec_l01Split.mono_l k
  ·intro y0 y1 y2 y3 y4
   unfold spec_l01Split.l0
   repeat' first
   | (with_reducible exact ih0 _ _ _ _ _)
   | (with_reducible exact LeO.refl _)
   | (with_reducible exact LeO.none _)
   | (with_reducible refine LeO.ite ?_ ?_)
   | (with_reducible refine LeO.bind ?_ (fun _ => ?_))
   | exact ih0 _ _ _ _ _
   | exact LeO.none _
   | refine LeO.ite ?_ ?_
   | refine LeO.bind ?_ (fun _ => ?_)
theorem spec_l01Split.mono : ∀ a0 a1 k, LeO (spec_l01Split.f k a0 a1) (spec_l01Split.f (k + 1) a0 a1) := by
 intro a0 a1 k
 have ih0 := spec_l01Split.mono_l k
 unfold spec_l01Split.f
 repeat' first
   | (with_reducible exact ih0 _ _ _ _ _)
   | (with_reducible exact LeO.refl _)
   | (with_reducible exact LeO.none _)
   | (with_reducible refine LeO.ite ?_ ?_)
   | (with_reducible refine LeO.bind ?_ (fun _ => ?_))
   | exact ih0 _ _ _ _ _
   | exact LeO.none _
   | refine LeO.ite ?_ ?_
   | refine LeO.bind ?_ (fun _ => ?_)
set_option maxHeartbeats 8000000 in
set_option maxRecDepth 100000 in
theorem spec_l01Split.calls (k : Nat) (a0 : ByteArray) (a1 : Int) (r : List ByteArray) (w : World) (h : spec_l01Split.f k a0 a1 = some r) :
  Calls Tryd.prog 35 #[.string a0, .int .u8 a1] w fun e w' => ∃ v0_ : Value, e = .returned (v0_) ∧ Kd.R Kd.string 9 w' w.heap.size (fun _ => True) v0_ r ∧ Below w.heap.size w w' := by
 have HB := Aside0.mk (Below.refl w.heap.size w)
 have H : (spec_l01Split.l0 k a0 a1 (([] : List ByteArray)) 0 0) = some r := h
 clear h
 obtain ⟨y101, hy101⟩ : ∃ y_ : List ByteArray, y_ = (([] : List ByteArray)) := ⟨_, rfl⟩
 replace H : (spec_l01Split.l0 k a0 a1 y101 0 0) = some r := by first | (rw [hy101]; with_reducible exact H) | (have H2_ := (Option.bind_some _ _).symm.trans H; rw [hy101]; with_reducible exact H2_) | (have H2_ := (Option.bind_some _ _).symm.trans H; with_reducible exact H2_) | with_reducible exact H | (rw [hy101]; exact H) | exact H
 have Ny101 := Aside0.mk hy101
 clear hy101
 have H' := Aside0.mk H
 clear H
 go_enter Tryd.func35, Tryd.ntmps35
 go_wp2_with (first | ((with_reducible refine gate_dst (N := 8) rfl ?_); refine Kd.R_lit Kd.string _ 9 ?hg (N := 8) ?hd (xs := ([] : List ByteArray)) (inner := []) (ok := fun _ => True) (okp := fun _ => True) ?hr ?hp (fun _ hk => hk) trivial (Below.refl _ _) (Nat.le_refl _) (by simp) ?_; (case hd => rfl); (case hg => rfl); (case hr => first | (go_simp; done) | (go_simp; rfl)); (case hp => exact (Reps.none _ _)); intro v102 w3 ho4 hb hg_ hnew_; clear hg_ hnew_; (first | rw [← Ny101.out] at ho4 | (simp only [Int.reduceToNat] at ho4; rw [← Ny101.out] at ho4)); have n0_ := Aside0.mk (Kd.R_lower ho4 (below_size (by repeat (first | (with_reducible first | exact HB.out | apply below_alloc | apply pw_below_drewN | apply below_drew1) | exact HB.out)))); have n1_ := Aside0.mk (below_step (by repeat (first | (with_reducible first | exact HB.out | apply below_alloc | apply pw_below_drewN | apply below_drew1) | exact HB.out)) hb); clear HB; have HO103 := n0_; have HB := n1_; clear n0_ n1_; clear hb ho4))
 go_loopg [5, 6, 7] k (fun kq v5 v6 v7 w' => ∃ (x5_1 : List ByteArray) (x6_1 : Int) (x7_1 : Int), v6 = .int .i64 x6_1 ∧ v7 = .int .i64 x7_1 ∧ Aside0 (spec_l01Split.l0 kq a0 a1 x5_1 x6_1 x7_1 = some r) ∧ Aside0 (kq ≤ k) ∧ Aside0 (Kd.R Kd.string 9 w' w.heap.size (fun _ => True) v5 x5_1) ∧ Aside0 (Below w.heap.size w w'))
 case atStart => exact ⟨(y101), (0), (0), (by first | rfl | (simp; done) | (simp [*]; done)), (by first | rfl | (simp; done) | (simp [*]; done)), H', ⟨Nat.le_refl _⟩, ⟨by (with_reducible repeat (first | apply Kd.R_alloc | apply Kd.R_drewN | apply Kd.R_drew)); exact HO103.out⟩, ⟨by repeat (first | (with_reducible first | exact HB.out | apply below_alloc | apply pw_below_drewN | apply below_drew1) | exact HB.out)⟩⟩
 case round =>
  clear H'
  try clear p2
  try clear c3
  obtain ⟨x5_1, x6_1, x7_1, rfl, rfl, HA, HK1, HO_5, HB⟩ := hrel
  cases gk with
  | zero => exact absurd HA.out (by simp [spec_l01Split.l0])
  | succ k1 =>
   have H := HA.out
   clear HA
   simp only [spec_l01Split.l0] at H
   by_cases c5 : x7_1 < (a0.size : Int)
   ·rw [if_pos c5] at H
    have c5b0 : decide (x7_1 < (a0.size : Int)) = true := decide_eq_true c5
    clear c5
    by_cases c6 : 0 ≤ x7_1
    ·rw [if_pos c6] at H
     have c6b0 : decide (0 ≤ x7_1) = true := decide_eq_true c6
     clear c6
     by_cases c8 : (bt a0 x7_1) = a1
     ·rw [if_pos c8] at H
      have c8b0 : ((bt a0 x7_1) == a1) = true := beq_iff_eq.mpr c8
      have c8b1 : ((bt a0 x7_1) != a1) = false := bne_eq_false_iff_eq.mpr c8
      clear c8
      by_cases c9 : 0 ≤ x6_1
      ·rw [if_pos c9] at H
       have c9b0 := eq_true c9
       have c9b1 : decide (0 ≤ x6_1) = true := decide_eq_true c9
       clear c9
       by_cases c10 : x6_1 ≤ x7_1
       ·rw [if_pos c10] at H
        have c10b0 := eq_true c10
        have c10b1 : decide (x6_1 ≤ x7_1) = true := decide_eq_true c10
        clear c10
        by_cases c11 : x7_1 ≤ (a0.size : Int)
        ·rw [if_pos c11] at H
         have c11b0 := eq_true c11
         have c11b1 : decide (x7_1 ≤ (a0.size : Int)) = true := decide_eq_true c11
         clear c11
         by_cases c12 : x5_1.length < 8796093022208
         ·rw [if_pos c12] at H
          have LMc12 := Aside0.mk c12
          clear c12
          obtain ⟨y104, hy104⟩ : ∃ y_ : List ByteArray, y_ = (x5_1 ++ [a0.extract (x6_1 : Int).toNat (x7_1 : Int).toNat]) := ⟨_, rfl⟩
          replace H : (spec_l01Split.l0 k1 a0 a1 y104 (wrap64 (x7_1 + 1)) (wrap64 (x7_1 + 1))) = some r := by first | (rw [hy104]; with_reducible exact H) | (have H2_ := (Option.bind_some _ _).symm.trans H; rw [hy104]; with_reducible exact H2_) | (have H2_ := (Option.bind_some _ _).symm.trans H; with_reducible exact H2_) | with_reducible exact H | (rw [hy104]; exact H) | exact H
          have Ny104 := Aside0.mk hy104
          clear hy104
          have H' := Aside0.mk H
          clear H
          have p7 : 0 ≤ (x7_1 : Int) := of_decide_eq_true (by first | (with_reducible assumption) | assumption)
          have q7 : x7_1 < (a0.size : Int) := of_decide_eq_true (by first | (with_reducible assumption) | assumption)
          have hx7 := bt_at a0 x7_1
          replace p7 := eq_true p7
          replace q7 := eq_true q7
          go_wp2_with (first | ((with_reducible refine gate_builtin (b := .append) (xs := #[.tmp 20, .tmp 25]) rfl ?_); at_builtin; refine Kd.R_append Kd.string (w0 := w) w.heap.size rfl (.tmp 20) (.tmp 25) 58 9 (.string ⟨#[]⟩) 16 rfl Tryd.underlying58 info9 rfl (by decide) (by omega) u5 x5_1 (a0.extract (x6_1 : Int).toNat (x7_1 : Int).toNat) [.string (a0.extract (x6_1 : Int).toNat (x7_1 : Int).toNat)] (fun _ => True) (fun _ => False) rfl rfl ?aP (fun _ hk => hk.elim) ?aF ?aO ?aB ?aS ?aL ?_; (case aP => exact rfl); (case aB => exact (by repeat (first | (with_reducible first | exact HB.out | apply below_alloc | apply pw_below_drewN | apply below_drew1) | exact HB.out))); (case aF => exact (fun _ _ => trivial)); (case aO => exact (by (with_reducible repeat (first | apply Kd.R_alloc | apply Kd.R_drewN | apply Kd.R_drew)); exact HO_5.out)); (case aS => exact (below_size (by repeat (first | (with_reducible first | exact HB.out | apply below_alloc | apply pw_below_drewN | apply below_drew1) | exact HB.out)))); (case aL => have := LMc12.out; omega); intro v105 w13 ho hb hg hat; rw [← Ny104.out] at ho; have n0_ := Aside0.mk (hb); have n1_ := Aside0.mk (ho); clear HB; clear HO_5; have HB := n0_; have HO106 := n1_; clear n0_ n1_; clear ho hb hg hat))
          go_roundg k1
          case measure => have := HK1.out; omega
          case rel => exact ⟨(y104), (wrap64 (x7_1 + 1)), (wrap64 (x7_1 + 1)), (by first | rfl | (simp; done) | (simp [*]; done)), (by first | rfl | (simp; done) | (simp [*]; done)), H', ⟨by have := HK1.out; omega⟩, ⟨by (with_reducible repeat (first | apply Kd.R_alloc | apply Kd.R_drewN | apply Kd.R_drew)); exact HO106.out⟩, ⟨by repeat (first | (with_reducible first | exact HB.out | apply below_alloc | apply pw_below_drewN | apply below_drew1) | exact HB.out)⟩⟩
         ·rw [if_neg c12] at H
          exact absurd H (by simp)
        ·rw [if_neg c11] at H
         exact absurd H (by simp)
       ·rw [if_neg c10] at H
        exact absurd H (by simp)
      ·rw [if_neg c9] at H
       exact absurd H (by simp)
     ·rw [if_neg c8] at H
      have c8b0 : ((bt a0 x7_1) == a1) = false := beq_eq_false_iff_ne.mpr c8
      have c8b1 : ((bt a0 x7_1) != a1) = true := bne_iff_ne.mpr c8
      have H' := Aside0.mk H
      clear H
      have p7 : 0 ≤ (x7_1 : Int) := of_decide_eq_true (by first | (with_reducible assumption) | assumption)
      have q7 : x7_1 < (a0.size : Int) := of_decide_eq_true (by first | (with_reducible assumption) | assumption)
      have hx7 := bt_at a0 x7_1
      replace p7 := eq_true p7
      replace q7 := eq_true q7
      go_wp2
      go_roundg k1
      case measure => have := HK1.out; omega
      case rel => exact ⟨(x5_1), (x6_1), (wrap64 (x7_1 + 1)), (by first | rfl | (simp; done) | (simp [*]; done)), (by first | rfl | (simp; done) | (simp [*]; done)), H', ⟨by have := HK1.out; omega⟩, ⟨by (with_reducible repeat (first | apply Kd.R_alloc | apply Kd.R_drewN | apply Kd.R_drew)); exact HO_5.out⟩, ⟨by repeat (first | (with_reducible first | exact HB.out | apply below_alloc | apply pw_below_drewN | apply below_drew1) | exact HB.out)⟩⟩
    ·rw [if_neg c6] at H
     exact absurd H (by simp)
   ·rw [if_neg c5] at H
    have c5b0 : decide (x7_1 < (a0.size : Int)) = false := decide_eq_false c5
    clear c5
    by_cases c14 : 0 ≤ x6_1
    ·rw [if_pos c14] at H
     have c14b0 := eq_true c14
     have c14b1 : decide (0 ≤ x6_1) = true := decide_eq_true c14
     clear c14
     by_cases c15 : x6_1 ≤ (a0.size : Int)
     ·rw [if_pos c15] at H
      have c15b0 := eq_true c15
      have c15b1 : decide (x6_1 ≤ (a0.size : Int)) = true := decide_eq_true c15
      clear c15
      by_cases c16 : x5_1.length < 8796093022208
      ·rw [if_pos c16] at H
       have LMc16 := Aside0.mk c16
       clear c16
       obtain ⟨y107, hy107⟩ : ∃ y_ : List ByteArray, y_ = (x5_1 ++ [a0.extract (x6_1 : Int).toNat a0.size]) := ⟨_, rfl⟩
       replace H : (some y107) = some r := by first | (rw [hy107]; with_reducible exact H) | (have H2_ := (Option.bind_some _ _).symm.trans H; rw [hy107]; with_reducible exact H2_) | (have H2_ := (Option.bind_some _ _).symm.trans H; with_reducible exact H2_) | with_reducible exact H | (rw [hy107]; exact H) | exact H
       have Ny107 := Aside0.mk hy107
       clear hy107
       obtain rfl := Option.some.inj H
       go_wp2_with (first | ((with_reducible refine gate_builtin (b := .append) (xs := #[.tmp 29, .tmp 33]) rfl ?_); at_builtin; refine Kd.R_append Kd.string (w0 := w) w.heap.size rfl (.tmp 29) (.tmp 33) 58 9 (.string ⟨#[]⟩) 16 rfl Tryd.underlying58 info9 rfl (by decide) (by omega) u5 x5_1 (a0.extract (x6_1 : Int).toNat a0.size) [.string (a0.extract (x6_1 : Int).toNat a0.size)] (fun _ => True) (fun _ => False) rfl rfl ?aP (fun _ hk => hk.elim) ?aF ?aO ?aB ?aS ?aL ?_; (case aP => exact rfl); (case aB => exact (by repeat (first | (with_reducible first | exact HB.out | apply below_alloc | apply pw_below_drewN | apply below_drew1) | exact HB.out))); (case aF => exact (fun _ _ => trivial)); (case aO => exact (by (with_reducible repeat (first | apply Kd.R_alloc | apply Kd.R_drewN | apply Kd.R_drew)); exact HO_5.out)); (case aS => exact (below_size (by repeat (first | (with_reducible first | exact HB.out | apply below_alloc | apply pw_below_drewN | apply below_drew1) | exact HB.out)))); (case aL => have := LMc16.out; omega); intro v108 w17 ho hb hg hat; rw [← Ny107.out] at ho; have n0_ := Aside0.mk (hb); have n1_ := Aside0.mk (ho); clear HB; clear HO_5; have HB := n0_; have HO109 := n1_; clear n0_ n1_; clear ho hb hg hat))
       go_ret
       exact ⟨_, by first | rfl | (simp [errW_none, errW_some] <;> rfl) | (simp [*, errW_none, errW_some] <;> rfl), by (with_reducible repeat (first | apply Kd.R_alloc | apply Kd.R_drewN | apply Kd.R_drew)); exact HO109.out, by repeat (first | (with_reducible first | exact HB.out | apply below_alloc | apply pw_below_drewN | apply below_drew1) | exact HB.out)⟩
      ·rw [if_neg c16] at H
       exact absurd H (by simp)
     ·rw [if_neg c15] at H
      exact absurd H (by simp)
    ·rw [if_neg c14] at H
     exact absurd H (by simp)

/-! ### spec_l01In: function 36 -/
def spec_l01In.f (a0 : Int) (a1 : Int) (a2 : Int) : Option (Bool) := if a0 ≥ a1 then (some (decide (a0 ≤ a2))) else (some false)
set_option maxHeartbeats 8000000 in
set_option maxRecDepth 100000 in
theorem spec_l01In.calls (a0 : Int) (a1 : Int) (a2 : Int) (r : Bool) (w : World) (h : spec_l01In.f a0 a1 a2 = some r) :
  Calls Tryd.prog 36 #[.int .i64 a0, .int .i64 a1, .int .i64 a2] w fun e w' => e = .returned (.bool r) ∧ Drawn0 w w' := by
 have H : (if a0 ≥ a1 then (some (decide (a0 ≤ a2))) else (some false)) = some r := h
 clear h
 by_cases c4 : a0 ≥ a1
 ·rw [if_pos c4] at H
  have c4b0 : decide (a1 ≤ a0) = true := decide_eq_true c4
  clear c4
  obtain rfl := Option.some.inj H
  go_enter Tryd.func36, Tryd.ntmps36
  go_wp2
  go_ret
  exact ⟨by first | rfl | (simp; done) | (simp [*]; done), by repeat (first | exact Drawn0.refl _ | apply Drawn0.step)⟩
 ·rw [if_neg c4] at H
  have c4b0 : decide (a1 ≤ a0) = false := decide_eq_false c4
  clear c4
  obtain rfl := Option.some.inj H
  go_enter Tryd.func36, Tryd.ntmps36
  go_wp2
  go_ret
  exact ⟨by first | rfl | (simp; done) | (simp [*]; done), by repeat (first | exact Drawn0.refl _ | apply Drawn0.step)⟩

/-! ### spec_l01Set: function 38 -/
def spec_l01Set.l0 : Nat → ByteArray → Int → Int → Int → Int → Option (Int × Bool)
 | 0, _, _, _, _, _ => none
 | k + 1, x0, x1, x6, x7, x8 => if x8 < (x0.size : Int) then (if 0 ≤ x8 then ((spec_l01In.f (wrap64 ((wrap64 (bt x0 x8)) - 48)) (wrap64 (x7 + 1)) (wrap64 (x1 - 1))).bind fun t110 => (if t110 = true then (if 0 ≤ (IntKind.u64.wrap (wrap64 ((wrap64 (bt x0 x8)) - 48))) then (spec_l01Set.l0 k x0 x1 (Go.bits .or .i64 x6 (shl .i64 1 (IntKind.u64.wrap (wrap64 ((wrap64 (bt x0 x8)) - 48))))) (wrap64 ((wrap64 (bt x0 x8)) - 48)) (wrap64 (x8 + 1))) else (none)) else (some (0, false)))) else (none)) else (some (x6, decide (x6 > 0)))
def spec_l01Set.f (k : Nat) (a0 : ByteArray) (a1 : Int) : Option (Int × Bool) := spec_l01Set.l0 k a0 a1 0 (-1) 0
theorem spec_l01Set.mono_l : ∀ k, (∀ y0 y1 y2 y3 y4, LeO (spec_l01Set.l0 k y0 y1 y2 y3 y4) (spec_l01Set.l0 (k + 1) y0 y1 y2 y3 y4))
 | 0 => fun _ _ _ _ _ r h => by simp [spec_l01Set.l0] at h
 | k + 1 => by
  have ih0 := spec_l01Set.mono_l k
  ·intro y0 y1 y2 y3 y4
   unfold spec_l01Set.l0
   repeat' first
   | (with_reducible exact ih0 _ _ _ _ _)
   | (with_reducible exact LeO.refl _)
   | (with_reducible exact LeO.none _)
   | (with_reducible refine LeO.ite ?_ ?_)
   | (with_reducible refine LeO.bind ?_ (fun _ => ?_))
   | exact ih0 _ _ _ _ _
   | exact LeO.none _
   | refine LeO.ite ?_ ?_
   | refine LeO.bind ?_ (fun _ => ?_)
theorem spec_l01Set.mono : ∀ a0 a1 k, LeO (spec_l01Set.f k a0 a1) (spec_l01Set.f (k + 1) a0 a1) := by
 intro a0 a1 k
 have ih0 := spec_l01Set.mono_l k
 unfold spec_l01Set.f
 repeat' first
   | (with_reducible exact ih0 _ _ _ _ _)
   | (with_reducible exact LeO.refl _)
   | (with_reducible exact LeO.none _)
   | (with_reducible refine LeO.ite ?_ ?_)
   | (with_reducible refine LeO.bind ?_ (fun _ => ?_))
   | exact ih0 _ _ _ _ _
   | exact LeO.none _
   | refine LeO.ite ?_ ?_
   | refine LeO.bind ?_ (fun _ => ?_)
set_option maxHeartbeats 8000000 in
set_option maxRecDepth 100000 in
theorem spec_l01Set.calls (k : Nat) (a0 : ByteArray) (a1 : Int) (r1 : Int) (r2 : Bool) (w : World) (h : spec_l01Set.f k a0 a1 = some (r1, r2)) :
  Calls Tryd.prog 38 #[.string a0, .int .i64 a1] w fun e w' => e = .returned (.tuple #[.int .i64 r1, .bool r2]) ∧ Drawn0 w w' := by
 have H : (spec_l01Set.l0 k a0 a1 0 (-1) 0) = some (r1, r2) := h
 clear h
 have H' := Aside0.mk H
 clear H
 go_enter Tryd.func38, Tryd.ntmps38
 go_wp2
 go_loopg [6, 7, 8] k (fun kq v6 v7 v8 w' => ∃ (x6_1 : Int) (x7_1 : Int) (x8_1 : Int), v6 = .int .i64 x6_1 ∧ v7 = .int .i64 x7_1 ∧ v8 = .int .i64 x8_1 ∧ Aside0 (spec_l01Set.l0 kq a0 a1 x6_1 x7_1 x8_1 = some (r1, r2)) ∧ Aside0 (kq ≤ k) ∧ Drawn0 w w')
 case atStart => exact ⟨(0), ((-1)), (0), (by first | rfl | (simp; done) | (simp [*]; done)), (by first | rfl | (simp; done) | (simp [*]; done)), (by first | rfl | (simp; done) | (simp [*]; done)), H', ⟨Nat.le_refl _⟩, by repeat (first | exact Drawn0.refl _ | apply Drawn0.step)⟩
 case round =>
  clear H'
  try clear p2
  obtain ⟨x6_1, x7_1, x8_1, rfl, rfl, rfl, HA, HK1, ⟨m1, rfl⟩⟩ := hrel
  cases gk with
  | zero => exact absurd HA.out (by simp [spec_l01Set.l0])
  | succ k1 =>
   have H := HA.out
   clear HA
   simp only [spec_l01Set.l0] at H
   by_cases c3 : x8_1 < (a0.size : Int)
   ·rw [if_pos c3] at H
    have c3b0 : decide (x8_1 < (a0.size : Int)) = true := decide_eq_true c3
    clear c3
    by_cases c4 : 0 ≤ x8_1
    ·rw [if_pos c4] at H
     have c4b0 : decide (0 ≤ x8_1) = true := decide_eq_true c4
     clear c4
     replace H := Option.bind_eq_some_iff.mp H
     obtain ⟨t110, A60, H⟩ := H
     replace H : (if t110 = true then (if 0 ≤ (IntKind.u64.wrap (wrap64 ((wrap64 (bt a0 x8_1)) - 48))) then (spec_l01Set.l0 k1 a0 a1 (Go.bits .or .i64 x6_1 (shl .i64 1 (IntKind.u64.wrap (wrap64 ((wrap64 (bt a0 x8_1)) - 48))))) (wrap64 ((wrap64 (bt a0 x8_1)) - 48)) (wrap64 (x8_1 + 1))) else (none)) else (some (0, false))) = some (r1, r2) := H
     have A6 := Aside0.mk A60
     clear A60
     by_cases c7 : t110 = true
     ·subst c7
      have H1 : (if 0 ≤ (IntKind.u64.wrap (wrap64 ((wrap64 (bt a0 x8_1)) - 48))) then (spec_l01Set.l0 k1 a0 a1 (Go.bits .or .i64 x6_1 (shl .i64 1 (IntKind.u64.wrap (wrap64 ((wrap64 (bt a0 x8_1)) - 48))))) (wrap64 ((wrap64 (bt a0 x8_1)) - 48)) (wrap64 (x8_1 + 1))) else (none)) = some (r1, r2) := by rw [if_pos rfl] at H; exact H
      clear H
      have H := H1
      clear H1
      obtain ⟨ji8, hji8⟩ : ∃ j_ : Int, (IntKind.u64.wrap (wrap64 ((wrap64 (bt a0 x8_1)) - 48))) = j_ := ⟨_, rfl⟩
      replace H : (if 0 ≤ (ji8) then (spec_l01Set.l0 k1 a0 a1 (Go.bits .or .i64 x6_1 (shl .i64 1 (ji8))) (wrap64 ((wrap64 (bt a0 x8_1)) - 48)) (wrap64 (x8_1 + 1))) else (none)) = some (r1, r2) := by first | (rw [hji8] at H; exact H) | (simp only [hji8] at H ⊢; exact H)
      (try rw [hji8] at A6)
      by_cases c9 : 0 ≤ (ji8)
      ·rw [if_pos c9] at H
       have c9b0 := eq_true c9
       have c9b1 : decide (0 ≤ (ji8)) = true := decide_eq_true c9
       clear c9
       obtain ⟨ji10, hji10⟩ : ∃ j_ : Int, (shl .i64 1 (ji8)) = j_ := ⟨_, rfl⟩
       replace H : (spec_l01Set.l0 k1 a0 a1 (Go.bits .or .i64 x6_1 (ji10)) (wrap64 ((wrap64 (bt a0 x8_1)) - 48)) (wrap64 (x8_1 + 1))) = some (r1, r2) := by first | (rw [hji10] at H; exact H) | (simp only [hji10] at H ⊢; exact H)
       (try rw [hji10] at A6)
       have hji10_ : (IntKind.i64.wrap (1 * 2 ^ min (ji8).toNat 64)) = ji10 := hji10
       have hji10z : (ji8) ≤ 64 → (IntKind.i64.wrap (1 * 2 ^ (ji8).toNat)) = ji10 := shl_small hji10
       have hji10u : (IntKind.i64.wrap (2 ^ min (ji8).toNat 64)) = ji10 := by have h_ := hji10_; rw [Int.one_mul] at h_; exact h_
       have hji10v : (ji8) ≤ 64 → (IntKind.i64.wrap (2 ^ (ji8).toNat)) = ji10 := fun hle_ => by have h_ := hji10z hle_; rw [Int.one_mul] at h_; exact h_
       have hji10y : (wrap64 (1 * 2 ^ min (ji8).toNat 64)) = ji10 := (i64_w _).symm.trans hji10_
       have hji10x : (ji8) ≤ 64 → (wrap64 (1 * 2 ^ (ji8).toNat)) = ji10 := fun h_ => (i64_w _).symm.trans (hji10z h_)
       have H' := Aside0.mk H
       clear H
       have p5 : 0 ≤ (x8_1 : Int) := of_decide_eq_true (by first | (with_reducible assumption) | assumption)
       have q5 : x8_1 < (a0.size : Int) := of_decide_eq_true (by first | (with_reducible assumption) | assumption)
       have hx5 := bt_at a0 x8_1
       replace p5 := eq_true p5
       replace q5 := eq_true q5
       go_wp2_with (first | ((with_reducible refine gate_callee (f := 36) rfl ?_); refine goesL_ (some 26) rfl rfl Tryd.func36 (by kernel_rfl) rfl #[.int .i64 (wrap64 ((wrap64 (bt a0 x8_1)) - 48)), .int .i64 (wrap64 (x7_1 + 1)), .int .i64 (wrap64 (a1 - 1))] rfl (by (try simp only [List.map_toArray, List.map_cons, List.map_nil]); first | done | rfl | (simp only [List.length_drop, List.length_take]; rfl)) ?_; (with_reducible refine (spec_l01In.calls (wrap64 ((wrap64 (bt a0 x8_1)) - 48)) (wrap64 (x7_1 + 1)) (wrap64 (a1 - 1)) true _ A6.out).mono ?_); rintro e w' ⟨rfl, ⟨nd, rfl⟩⟩; refine ⟨_, rfl, ?_⟩))
       go_roundg k1
       case measure => have := HK1.out; omega
       case rel => exact ⟨(Go.bits .or .i64 x6_1 (ji10)), (wrap64 ((wrap64 (bt a0 x8_1)) - 48)), (wrap64 (x8_1 + 1)), (by first | rfl | (simp; done) | (simp only [← hji10] <;> (first | rfl | simp)) | (simp [*]; done)), (by first | rfl | (simp; done) | (simp [*]; done)), (by first | rfl | (simp; done) | (simp [*]; done)), H', ⟨by have := HK1.out; omega⟩, by repeat (first | exact Drawn0.refl _ | apply Drawn0.step)⟩
      ·rw [if_neg c9] at H
       exact absurd H (by simp)
     ·replace c7 := Bool.eq_false_iff.mpr c7
      subst c7
      have H1 : (some (0, false)) = some (r1, r2) := by rw [if_neg (show ¬ (false = true) by decide)] at H; exact H
      clear H
      have H := H1
      clear H1
      simp only [Option.some.injEq, Prod.mk.injEq] at H
      obtain ⟨rfl, rfl⟩ := H
      have p5 : 0 ≤ (x8_1 : Int) := of_decide_eq_true (by first | (with_reducible assumption) | assumption)
      have q5 : x8_1 < (a0.size : Int) := of_decide_eq_true (by first | (with_reducible assumption) | assumption)
      have hx5 := bt_at a0 x8_1
      replace p5 := eq_true p5
      replace q5 := eq_true q5
      go_wp2_with (first | ((with_reducible refine gate_callee (f := 36) rfl ?_); refine goesL_ (some 26) rfl rfl Tryd.func36 (by kernel_rfl) rfl #[.int .i64 (wrap64 ((wrap64 (bt a0 x8_1)) - 48)), .int .i64 (wrap64 (x7_1 + 1)), .int .i64 (wrap64 (a1 - 1))] rfl (by (try simp only [List.map_toArray, List.map_cons, List.map_nil]); first | done | rfl | (simp only [List.length_drop, List.length_take]; rfl)) ?_; (with_reducible refine (spec_l01In.calls (wrap64 ((wrap64 (bt a0 x8_1)) - 48)) (wrap64 (x7_1 + 1)) (wrap64 (a1 - 1)) false _ A6.out).mono ?_); rintro e w' ⟨rfl, ⟨nd, rfl⟩⟩; refine ⟨_, rfl, ?_⟩))
      go_ret2
      exact ⟨by first | rfl | (simp; done) | (simp [*]; done), by repeat (first | exact Drawn0.refl _ | apply Drawn0.step)⟩
    ·rw [if_neg c4] at H
     exact absurd H (by simp)
   ·rw [if_neg c3] at H
    have c3b0 : decide (x8_1 < (a0.size : Int)) = false := decide_eq_false c3
    clear c3
    simp only [Option.some.injEq, Prod.mk.injEq] at H
    obtain ⟨rfl, rfl⟩ := H
    go_wp2
    go_ret2
    exact ⟨by first | rfl | (simp; done) | (simp [*]; done), by repeat (first | exact Drawn0.refl _ | apply Drawn0.step)⟩

end Go.Proofs.YtaeabbackmnioaaDoor.Q
end

section
/- The dimension of a face. -/
namespace Go.Proofs.YtaeabbackmnioaaDoor.K
open Go.RowKit Go.Shelf Go.Proofs.YtaeabbackmnioaaDoor.Q Go.Proofs.YtaeabbackmnioaaDoorW.PrintWords Go.Proofs.YtaeabbackmnioaaDoorW.PrintLast Go.Proofs.YtaeabbackmnioaaDoorW.PrintMore
set_option linter.unusedVariables false
set_option linter.unusedSimpArgs false

/-- The number of a face's vertices, and its dimension. -/
def onesI (f : Int) : Int := f % 2 + f / 2 % 2 + f / 4 % 2 + f / 8 % 2 + f / 16 % 2 + f / 32 % 2
end Go.Proofs.YtaeabbackmnioaaDoor.K
end

section
/- Written by a program of this session (myprint.py over the kit's print). -/
namespace Go.Proofs.YtaeabbackmnioaaDoor.Q
open Go.RowKit Go.Proofs.YtaeabbackmnioaaDoorW.PrintWords Go.Proofs.YtaeabbackmnioaaDoorW.PrintLast Go.Proofs.YtaeabbackmnioaaDoorW.PrintMore
attribute [local go_sem] max2_int min2_int max_two min_two max_three min_three max_four min_four   -- for this text's walks alone
set_option linter.unusedVariables false
set_option linter.unusedSimpArgs false

/-! ### spec_l01All: function 57 -/
def spec_l01All.f (a0 : Int) : Option (Int) := if 0 ≤ (IntKind.u64.wrap (a0)) then (some (wrap64 ((shl .i64 1 (IntKind.u64.wrap (a0))) - 1))) else (none)
set_option maxHeartbeats 8000000 in
set_option maxRecDepth 100000 in
theorem spec_l01All.calls (a0 : Int) (r : Int) (w : World) (h : spec_l01All.f a0 = some r) :
  Calls Tryd.prog 57 #[.int .i64 a0] w fun e w' => e = .returned (.int .i64 r) ∧ Drawn0 w w' := by
 have H : (if 0 ≤ (IntKind.u64.wrap (a0)) then (some (wrap64 ((shl .i64 1 (IntKind.u64.wrap (a0))) - 1))) else (none)) = some r := h
 clear h
 obtain ⟨ji2, hji2⟩ : ∃ j_ : Int, (IntKind.u64.wrap (a0)) = j_ := ⟨_, rfl⟩
 replace H : (if 0 ≤ (ji2) then (some (wrap64 ((shl .i64 1 (ji2)) - 1))) else (none)) = some r := by first | (rw [hji2] at H; exact H) | (simp only [hji2] at H ⊢; exact H)
 by_cases c3 : 0 ≤ (ji2)
 ·rw [if_pos c3] at H
  have c3b0 := eq_true c3
  have c3b1 : decide (0 ≤ (ji2)) = true := decide_eq_true c3
  clear c3
  obtain ⟨ji4, hji4⟩ : ∃ j_ : Int, (shl .i64 1 (ji2)) = j_ := ⟨_, rfl⟩
  replace H : (some (wrap64 ((ji4) - 1))) = some r := by first | (rw [hji4] at H; exact H) | (simp only [hji4] at H ⊢; exact H)
  have hji4_ : (IntKind.i64.wrap (1 * 2 ^ min (ji2).toNat 64)) = ji4 := hji4
  have hji4z : (ji2) ≤ 64 → (IntKind.i64.wrap (1 * 2 ^ (ji2).toNat)) = ji4 := shl_small hji4
  have hji4u : (IntKind.i64.wrap (2 ^ min (ji2).toNat 64)) = ji4 := by have h_ := hji4_; rw [Int.one_mul] at h_; exact h_
  have hji4v : (ji2) ≤ 64 → (IntKind.i64.wrap (2 ^ (ji2).toNat)) = ji4 := fun hle_ => by have h_ := hji4z hle_; rw [Int.one_mul] at h_; exact h_
  have hji4y : (wrap64 (1 * 2 ^ min (ji2).toNat 64)) = ji4 := (i64_w _).symm.trans hji4_
  have hji4x : (ji2) ≤ 64 → (wrap64 (1 * 2 ^ (ji2).toNat)) = ji4 := fun h_ => (i64_w _).symm.trans (hji4z h_)
  obtain rfl := Option.some.inj H
  go_enter Tryd.func57, Tryd.ntmps57
  go_wp2
  go_ret
  exact ⟨by first | rfl | (simp; done) | (simp only [← hji2, ← hji4] <;> (first | rfl | simp)) | (simp [*]; done), by repeat (first | exact Drawn0.refl _ | apply Drawn0.step)⟩
 ·rw [if_neg c3] at H
  exact absurd H (by simp)

/-! ### spec_l01Made: function 39 -/
mutual
def spec_l01Made.l0 : Nat → Int → List Int → Int → Int → List Int → Option (Int × List Int)
 | 0, _, _, _, _, _ => none
 | k + 1, x0, x1, x6, x116000, x116001 => (spec_l01All.f x0).bind fun t116 => (if x6 ≤ t116 then (spec_l01Made.l1 k x0 x1 x6 0 x116000 x116001) else (some (x116000, x116001)))
def spec_l01Made.l1 : Nat → Int → List Int → Int → Int → Int → List Int → Option (Int × List Int)
 | 0, _, _, _, _, _, _ => none
 | k + 1, x0, x1, x6, x7, x116000, x116001 => if x7 < (x1.length : Int) then (if 0 ≤ x7 then (if (Go.bits .and .i64 x6 (rd x1 x7)) = x6 then (if x116001.length < 17592186044416 then (spec_l01Made.l0 k x0 x1 (wrap64 (x6 + 1)) x116000 (x116001 ++ [x6])) else (none)) else (spec_l01Made.l1 k x0 x1 x6 (wrap64 (x7 + 1)) x116000 x116001)) else (none)) else (spec_l01Made.l0 k x0 x1 (wrap64 (x6 + 1)) x116000 x116001)
end
def spec_l01Made.f (k : Nat) (a0 : Int) (l1 : List Int) : Option (Int × List Int) := spec_l01Made.l0 k a0 l1 1 a0 (([] : List Int))
theorem spec_l01Made.mono_l : ∀ k, (∀ y0 y1 y2 y3 y4, LeO (spec_l01Made.l0 k y0 y1 y2 y3 y4) (spec_l01Made.l0 (k + 1) y0 y1 y2 y3 y4)) ∧ (∀ y0 y1 y2 y3 y4 y5, LeO (spec_l01Made.l1 k y0 y1 y2 y3 y4 y5) (spec_l01Made.l1 (k + 1) y0 y1 y2 y3 y4 y5))
 | 0 => ⟨fun _ _ _ _ _ r h => by simp [spec_l01Made.l0] at h, fun _ _ _ _ _ _ r h => by simp [spec_l01Made.l1] at h⟩
 | k + 1 => by
  obtain ⟨ih0, ih1⟩ := spec_l01Made.mono_l k
  refine ⟨?_, ?_⟩
  ·intro y0 y1 y2 y3 y4
   unfold spec_l01Made.l0
   repeat' first
   | (with_reducible exact ih0 _ _ _ _ _)
   | (with_reducible exact ih1 _ _ _ _ _ _)
   | (with_reducible exact LeO.refl _)
   | (with_reducible exact LeO.none _)
   | (with_reducible refine LeO.ite ?_ ?_)
   | (with_reducible refine LeO.bind ?_ (fun _ => ?_))
   | exact ih0 _ _ _ _ _
   | exact ih1 _ _ _ _ _ _
   | exact LeO.none _
   | refine LeO.ite ?_ ?_
   | refine LeO.bind ?_ (fun _ => ?_)
  ·intro y0 y1 y2 y3 y4 y5
   unfold spec_l01Made.l1
   repeat' first
   | (with_reducible exact ih0 _ _ _ _ _)
   | (with_reducible exact ih1 _ _ _ _ _ _)
   | (with_reducible exact LeO.refl _)
   | (with_reducible exact LeO.none _)
   | (with_reducible refine LeO.ite ?_ ?_)
   | (with_reducible refine LeO.bind ?_ (fun _ => ?_))
   | exact ih0 _ _ _ _ _
   | exact ih1 _ _ _ _ _ _
   | exact LeO.none _
   | refine LeO.ite ?_ ?_
   | refine LeO.bind ?_ (fun _ => ?_)
theorem spec_l01Made.mono : ∀ a0 a1 k, LeO (spec_l01Made.f k a0 a1) (spec_l01Made.f (k + 1) a0 a1) := by
 intro a0 a1 k
 obtain ⟨ih0, ih1⟩ := spec_l01Made.mono_l k
 unfold spec_l01Made.f
 repeat' first
   | (with_reducible exact ih0 _ _ _ _ _)
   | (with_reducible exact ih1 _ _ _ _ _ _)
   | (with_reducible exact LeO.refl _)
   | (with_reducible exact LeO.none _)
   | (with_reducible refine LeO.ite ?_ ?_)
   | (with_reducible refine LeO.bind ?_ (fun _ => ?_))
   | exact ih0 _ _ _ _ _
   | exact ih1 _ _ _ _ _ _
   | exact LeO.none _
   | refine LeO.ite ?_ ?_
   | refine LeO.bind ?_ (fun _ => ?_)
set_option maxHeartbeats 8000000 in
set_option maxRecDepth 100000 in
theorem spec_l01Made.calls (k : Nat) (a0 : Int) (A1 : Option Addr) (c1 : Nat) (l1 : List Int) (r1 : Int) (r2 : List Int) (w : World) (hr1 : Kd.C (Kd.int .i64) w A1 l1.length l1) (hc1 : l1.length ≤ c1) (h : spec_l01Made.f k a0 l1 = some (r1, r2)) :
  Calls Tryd.prog 39 #[.int .i64 a0, .slice A1 l1.length c1] w fun e w' => ∃ v1_ : Value, e = .returned (.agg #[.int .i64 r1, v1_]) ∧ Kd.R (Kd.int .i64) 2 w' w.heap.size (fun _ => True) v1_ r2 ∧ Below w.heap.size w w' := by
 have hu24 := Tryd.underlying24
 have HR1 := Aside0.mk hr1
 have HC1 := Aside0.mk hc1
 clear hr1 hc1
 have HB := Aside0.mk (Below.refl w.heap.size w)
 have H : (spec_l01Made.l0 k a0 l1 1 a0 (([] : List Int))) = some (r1, r2) := h
 clear h
 obtain ⟨y112, hy112⟩ : ∃ y_ : List Int, y_ = (([] : List Int)) := ⟨_, rfl⟩
 replace H : (spec_l01Made.l0 k a0 l1 1 a0 y112) = some (r1, r2) := by first | (rw [hy112]; with_reducible exact H) | (have H2_ := (Option.bind_some _ _).symm.trans H; rw [hy112]; with_reducible exact H2_) | (have H2_ := (Option.bind_some _ _).symm.trans H; with_reducible exact H2_) | with_reducible exact H | (rw [hy112]; exact H) | exact H
 have Ny112 := Aside0.mk hy112
 clear hy112
 have H' := Aside0.mk H
 clear H
 go_enter Tryd.func39, Tryd.ntmps39
 go_wp2_with (first | ((with_reducible refine gate_dst (N := 4) rfl ?_); refine box_event ?hg (N := 4) ?hd (cs := #[.int .i64 0, .slice none 0 0]) (t := 24) ?hr ?_; (case hd => rfl); (case hg => rfl); (case hr => first | (go_simp; done) | (go_simp; rfl)); intro gb111 hg w3 hbox hb; have n0_ := Aside0.mk (below_step (by repeat (first | (with_reducible first | exact HB.out | apply below_alloc | apply pw_below_drewN | apply below_drew1) | exact HB.out)) hb); have n1_ := Aside0.mk (hbox); have n2_ := Aside0.mk ((by rw [hg]; exact (below_size (by repeat (first | (with_reducible first | exact HB.out | apply below_alloc | apply pw_below_drewN | apply below_drew1) | exact HB.out))) : w.heap.size ≤ gb111)); have n3_ := Aside0.mk ((by rw [hg]; exact (below_size (by repeat (first | (with_reducible first | exact HB.out | apply below_alloc | apply pw_below_drewN | apply below_drew1) | exact HB.out))) : w.heap.size ≤ gb111)); clear HB; have HB := n0_; have BK111 := n1_; have GW111 := n2_; have GE111 := n3_; clear n0_ n1_ n2_ n3_; clear hb hbox hg) | ((with_reducible refine gate_dst (N := 9) rfl ?_); refine Kd.R_lit (Kd.int .i64) _ 2 ?hg (N := 9) ?hd (xs := ([] : List Int)) (inner := []) (ok := fun _ => True) (okp := fun _ => True) ?hr ?hp (fun _ hk => hk) trivial (Below.refl _ _) (Nat.le_refl _) (by simp) ?_; (case hd => rfl); (case hg => rfl); (case hr => first | (go_simp; done) | (go_simp; rfl)); (case hp => exact (Reps.none _ _)); intro v113 w4 ho5 hb hg_ hnew_; clear hg_ hnew_; (first | rw [← Ny112.out] at ho5 | (simp only [Int.reduceToNat] at ho5; rw [← Ny112.out] at ho5)); have n0_ := Aside0.mk (Kd.R_lower ho5 (below_size (by repeat (first | (with_reducible first | exact HB.out | apply below_alloc | apply pw_below_drewN | apply below_drew1 | refine below_set ?_ GE111.out) | exact HB.out)))); have n1_ := Aside0.mk (blk_below (g := gb111) (o := .cells #[.int .i64 0, .slice none 0 0] 24 (0, 0)) (by (with_reducible repeat (first | refine blk_drewN ?_ _ | refine blk_drew ?_ | refine blk_alloc ?_ _)); exact BK111.out) hb); have n2_ := Aside0.mk (below_step (by repeat (first | (with_reducible first | exact HB.out | apply below_alloc | apply pw_below_drewN | apply below_drew1 | refine below_set ?_ GE111.out) | exact HB.out)) hb); clear BK111; clear HB; have HO114 := n0_; have BK111 := n1_; have HB := n2_; clear n0_ n1_ n2_; clear hb ho5; obtain ⟨Ao6, co6, eo6⟩ := Kd.R_slice HO114.out; subst eo6) | ((with_reducible refine gate_dst (N := 5) rfl ?_); refine box_event ?hg (N := 5) ?hd (cs := #[.int .i64 0, .slice none 0 0]) (t := 24) ?hr ?_; (case hd => rfl); (case hg => rfl); (case hr => first | (go_simp; done) | (go_simp; rfl)); intro gb115 hg w7 hbox hb; have n0_ := Aside0.mk (Kd.R_below (by (with_reducible repeat (first | apply Kd.R_alloc | apply Kd.R_drewN | apply Kd.R_drew)); exact HO114.out) hb); have n1_ := Aside0.mk (blk_below (g := gb111) (o := .cells #[.int .i64 0, .slice none 0 0] 24 (0, 0)) (by (with_reducible repeat (first | refine blk_drewN ?_ _ | refine blk_drew ?_ | refine blk_alloc ?_ _)); exact BK111.out) hb); have n2_ := Aside0.mk (below_step (by repeat (first | (with_reducible first | exact HB.out | apply below_alloc | apply pw_below_drewN | apply below_drew1 | refine below_set ?_ GE111.out) | exact HB.out)) hb); have n3_ := Aside0.mk (hbox); have n4_ := Aside0.mk ((by rw [hg]; exact (below_size (by repeat (first | (with_reducible first | exact HB.out | apply below_alloc | apply pw_below_drewN | apply below_drew1 | refine below_set ?_ GE111.out) | exact HB.out))) : w.heap.size ≤ gb115)); have n5_ := Aside0.mk ((by rw [hg]; exact (below_size (by repeat (first | (with_reducible first | exact HB.out | apply below_alloc | apply pw_below_drewN | apply below_drew1 | refine below_set ?_ GE111.out) | exact HB.out))) : w.heap.size ≤ gb115)); have n6_ := Aside0.mk ((by rw [hg]; exact Nat.ne_of_lt (blk_lt (g := gb111) (o := .cells #[.int .i64 0, .slice none 0 0] 24 (0, 0)) (by (with_reducible repeat (first | refine blk_drewN ?_ _ | refine blk_drew ?_ | refine blk_alloc ?_ _)); exact BK111.out)) : gb111 ≠ gb115)); have n7_ := Aside0.mk ((by rw [hg]; exact Nat.ne_of_gt (blk_lt (g := gb111) (o := .cells #[.int .i64 0, .slice none 0 0] 24 (0, 0)) (by (with_reducible repeat (first | refine blk_drewN ?_ _ | refine blk_drew ?_ | refine blk_alloc ?_ _)); exact BK111.out)) : gb115 ≠ gb111)); clear HO114; clear BK111; clear HB; have HO114 := n0_; have BK111 := n1_; have HB := n2_; have BK115 := n3_; have GW115 := n4_; have GE115 := n5_; have NB111_115 := n6_; have NB115_111 := n7_; clear n0_ n1_ n2_ n3_ n4_ n5_ n6_ n7_; clear hb hbox hg; have hnb8 := NB115_111.out; have hnc8 := NB111_115.out; have hcz9_0 : w7.cell? ⟨gb115, 0, none⟩ = some (.int .i64 0) := (blk_cell BK115.out 0).trans rfl; have hcz9_1 : w7.cell? ⟨gb115, 1, none⟩ = some (.slice none 0 0) := (blk_cell BK115.out 1).trans rfl; have hfz9_0 := blk_frozen BK115.out 0; have hfz9_1 := blk_frozen BK115.out 1))
 go_loopg [6] k (fun kq v6 w' => ∃ (x6_1 : Int) (x116001_1 : List Int) (u116001 : Value), v6 = .int .i64 x6_1 ∧ Aside0 (spec_l01Made.l0 kq a0 l1 x6_1 a0 x116001_1 = some (r1, r2)) ∧ Aside0 (kq ≤ k) ∧ Aside0 (Kd.R (Kd.int .i64) 2 w' w.heap.size (fun _ => True) u116001 x116001_1) ∧ Aside0 (w'.heap[gb111]? = some (.cells #[.int .i64 0, (.slice none 0 0)] 24 (0, 0))) ∧ Aside0 (w'.heap[gb115]? = some (.cells #[.int .i64 a0, u116001] 24 (0, 0))) ∧ Aside0 (Below w.heap.size w w'))
 case atStart => exact ⟨(1), (y112), (.slice Ao6 y112.length co6), (by first | rfl | (simp; done) | (simp [*]; done)), H', ⟨Nat.le_refl _⟩, ⟨by (with_reducible repeat (first | apply Kd.R_alloc | apply Kd.R_drewN | apply Kd.R_drew)); exact Kd.R_mono (Kd.R_far (p := ⟨gb115, 1, none⟩) (Kd.R_far (p := ⟨gb115, 0, none⟩) (Kd.R_types HO114.out BK115.out (by decide)) (fun _ hk => hk.2) (.int .i64 a0)) (fun _ hk => hk.2) (.slice Ao6 y112.length co6)) (fun _ hk => trivial)⟩, ⟨by (with_reducible repeat (first | refine blk_drewN ?_ _ | refine blk_drew ?_ | refine blk_alloc ?_ _)); refine blk_far ?_ NB111_115.out _; (with_reducible repeat (first | refine blk_drewN ?_ _ | refine blk_drew ?_ | refine blk_alloc ?_ _)); refine blk_far ?_ NB111_115.out _; (with_reducible repeat (first | refine blk_drewN ?_ _ | refine blk_drew ?_ | refine blk_alloc ?_ _)); exact BK111.out⟩, ⟨by (with_reducible repeat (first | refine blk_drewN ?_ _ | refine blk_drew ?_ | refine blk_alloc ?_ _)); refine blk_put (cs := #[.int .i64 a0, .slice none 0 0]) ?_ 1 _ rfl; (with_reducible repeat (first | refine blk_drewN ?_ _ | refine blk_drew ?_ | refine blk_alloc ?_ _)); refine blk_put (cs := #[.int .i64 0, .slice none 0 0]) ?_ 0 _ rfl; (with_reducible repeat (first | refine blk_drewN ?_ _ | refine blk_drew ?_ | refine blk_alloc ?_ _)); exact BK115.out⟩, ⟨by repeat (first | (with_reducible first | exact HB.out | apply below_alloc | apply pw_below_drewN | apply below_drew1 | refine below_set ?_ GE111.out | refine below_set ?_ GE115.out) | exact HB.out)⟩⟩
 case round =>
  clear H'
  try clear c1
  try clear p2
  try clear c3
  try clear c8
  try clear hcz9_0
  try clear hcz9_1
  try clear hfz9_0
  try clear hfz9_1
  obtain ⟨x6_1, x116001_1, u116001, rfl, HA, HK1, HO_116001, BK111, BK115, HB⟩ := hrel
  cases gk with
  | zero => exact absurd HA.out (by simp [spec_l01Made.l0])
  | succ k1 =>
   have H := HA.out
   clear HA
   simp only [spec_l01Made.l0] at H
   replace H := Option.bind_eq_some_iff.mp H
   obtain ⟨t116, A100, H⟩ := H
   replace H : (if x6_1 ≤ t116 then (spec_l01Made.l1 k1 a0 l1 x6_1 0 a0 x116001_1) else (some (a0, x116001_1))) = some (r1, r2) := H
   have A10 := Aside0.mk A100
   clear A100
   by_cases c11 : x6_1 ≤ t116
   ·rw [if_pos c11] at H
    have c11b0 : decide (x6_1 ≤ t116) = true := decide_eq_true c11
    clear c11
    have H' := Aside0.mk H
    clear H
    go_wp2_with (first | ((with_reducible refine gate_callee (f := 57) rfl ?_); refine goesL_ (some 13) rfl rfl Tryd.func57 (by kernel_rfl) rfl #[.int .i64 a0] rfl (by (try simp only [List.map_toArray, List.map_cons, List.map_nil]); first | done | rfl | (simp only [List.length_drop, List.length_take]; rfl)) ?_; (with_reducible refine (spec_l01All.calls a0 t116 _ A10.out).mono ?_); rintro e w' ⟨rfl, ⟨nd, rfl⟩⟩; refine ⟨_, rfl, ?_⟩))
    go_loopg [7] k1 (fun kq v7 w' => ∃ (x7_2 : Int) (x116001_2 : List Int) (u116001 : Value), v7 = .int .i64 x7_2 ∧ Aside0 (spec_l01Made.l1 kq a0 l1 x6_1 x7_2 a0 x116001_2 = some (r1, r2)) ∧ Aside0 (kq ≤ k1) ∧ Aside0 (Kd.R (Kd.int .i64) 2 w' w.heap.size (fun _ => True) u116001 x116001_2) ∧ Aside0 (w'.heap[gb111]? = some (.cells #[.int .i64 0, (.slice none 0 0)] 24 (0, 0))) ∧ Aside0 (w'.heap[gb115]? = some (.cells #[.int .i64 a0, u116001] 24 (0, 0))) ∧ Aside0 (Below w.heap.size w w'))
    case atStart => exact ⟨(0), (x116001_1), (u116001), (by first | rfl | (simp; done) | (simp [*]; done)), H', ⟨Nat.le_refl _⟩, ⟨by (with_reducible repeat (first | apply Kd.R_alloc | apply Kd.R_drewN | apply Kd.R_drew)); exact HO_116001.out⟩, ⟨by (with_reducible repeat (first | refine blk_drewN ?_ _ | refine blk_drew ?_ | refine blk_alloc ?_ _)); exact BK111.out⟩, ⟨by (with_reducible repeat (first | refine blk_drewN ?_ _ | refine blk_drew ?_ | refine blk_alloc ?_ _)); exact BK115.out⟩, ⟨by repeat (first | (with_reducible first | exact HB.out | apply below_alloc | apply pw_below_drewN | apply below_drew1 | refine below_set ?_ GE111.out | refine below_set ?_ GE115.out) | exact HB.out)⟩⟩
    case round =>
     clear H'
     try clear c1
     try clear p2
     try clear c3
     try clear c5
     try clear c8
     try clear c11
     try clear c11b0
     try clear hcz9_0
     try clear hcz9_1
     try clear hfz9_0
     try clear hfz9_1
     try clear p2
     obtain ⟨x7_2, x116001_2, u116001, rfl, HA, HK2, HO_116001, BK111, BK115, HB⟩ := hrel
     cases gk with
     | zero => exact absurd HA.out (by simp [spec_l01Made.l1])
     | succ k2 =>
      have H := HA.out
      clear HA
      simp only [spec_l01Made.l1] at H
      by_cases c12 : x7_2 < (l1.length : Int)
      ·rw [if_pos c12] at H
       have c12b0 : decide (x7_2 < (l1.length : Int)) = true := decide_eq_true c12
       clear c12
       by_cases c13 : 0 ≤ x7_2
       ·rw [if_pos c13] at H
        have c13b0 : decide (0 ≤ x7_2) = true := decide_eq_true c13
        clear c13
        by_cases c14 : (Go.bits .and .i64 x6_1 (rd l1 x7_2)) = x6_1
        ·rw [if_pos c14] at H
         have c14b0 : ((Go.bits .and .i64 x6_1 (rd l1 x7_2)) == x6_1) = true := beq_iff_eq.mpr c14
         have c14b1 : ((Go.bits .and .i64 x6_1 (rd l1 x7_2)) != x6_1) = false := bne_eq_false_iff_eq.mpr c14
         clear c14
         by_cases c15 : x116001_2.length < 17592186044416
         ·rw [if_pos c15] at H
          have LMc15 := Aside0.mk c15
          clear c15
          obtain ⟨y118, hy118⟩ : ∃ y_ : List Int, y_ = (x116001_2 ++ [x6_1]) := ⟨_, rfl⟩
          replace H : (spec_l01Made.l0 k2 a0 l1 (wrap64 (x6_1 + 1)) a0 y118) = some (r1, r2) := by first | (rw [hy118]; with_reducible exact H) | (have H2_ := (Option.bind_some _ _).symm.trans H; rw [hy118]; with_reducible exact H2_) | (have H2_ := (Option.bind_some _ _).symm.trans H; with_reducible exact H2_) | with_reducible exact H | (rw [hy118]; exact H) | exact H
          have Ny118 := Aside0.mk hy118
          clear hy118
          have H' := Aside0.mk H
          clear H
          have p117 : 0 ≤ (x7_2 : Int) := of_decide_eq_true (by first | (with_reducible assumption) | assumption)
          have q117 : x7_2 < (l1.length : Int) := of_decide_eq_true (by first | (with_reducible assumption) | assumption)
          obtain ⟨ad117, e117, hx117_0⟩ := Kd.at_int HR1.out x7_2 p117 q117
          cases e117
          replace hx117_0 := (HB.out.cell (World.block_lt_of_cell? w _ hx117_0)).trans hx117_0
          replace p117 := eq_true p117
          replace q117 := eq_true q117
          have hnb16 := NB115_111.out
          have hnc16 := NB111_115.out
          have hcz17_0 : wr.cell? ⟨gb115, 0, none⟩ = some (.int .i64 a0) := (blk_cell BK115.out 0).trans rfl
          have hcz17_1 : wr.cell? ⟨gb115, 1, none⟩ = some (u116001) := (blk_cell BK115.out 1).trans rfl
          have hfz17_0 := blk_frozen BK115.out 0
          have hfz17_1 := blk_frozen BK115.out 1
          go_wp2_with (first | ((with_reducible refine gate_builtin (b := .append) (xs := #[.tmp 32, .tmp 34]) rfl ?_); at_builtin; refine Kd.R_append (Kd.int .i64) (w0 := w) w.heap.size rfl (.tmp 32) (.tmp 34) 22 2 (.int .i64 0) 8 rfl Tryd.underlying22 info2 rfl (by decide) (by omega) u116001 x116001_2 x6_1 [.int .i64 x6_1] (fun _ => True) (fun _ => False) rfl rfl ?aP (fun _ hk => hk.elim) ?aF ?aO ?aB ?aS ?aL ?_; (case aP => exact rfl); (case aB => exact (by repeat (first | (with_reducible first | exact HB.out | apply below_alloc | apply pw_below_drewN | apply below_drew1 | refine below_set ?_ GE111.out | refine below_set ?_ GE115.out) | exact HB.out))); (case aF => exact (fun _ _ => trivial)); (case aO => exact (by (with_reducible repeat (first | apply Kd.R_alloc | apply Kd.R_drewN | apply Kd.R_drew)); exact HO_116001.out)); (case aS => exact (below_size (by repeat (first | (with_reducible first | exact HB.out | apply below_alloc | apply pw_below_drewN | apply below_drew1 | refine below_set ?_ GE111.out | refine below_set ?_ GE115.out) | exact HB.out)))); (case aL => have := LMc15.out; omega); intro v119 w18 ho hb hg hat; rw [← Ny118.out] at ho; have n0_ := Aside0.mk (blk_grown (g := gb111) (o := .cells #[.int .i64 0, .slice none 0 0] 24 (0, 0)) (by (with_reducible repeat (first | refine blk_drewN ?_ _ | refine blk_drew ?_ | refine blk_alloc ?_ _)); exact BK111.out) hg (Kd.R_ne HO_116001.out BK111.out (by decide))); have n1_ := Aside0.mk (blk_grown (g := gb115) (o := .cells #[.int .i64 a0, u116001] 24 (0, 0)) (by (with_reducible repeat (first | refine blk_drewN ?_ _ | refine blk_drew ?_ | refine blk_alloc ?_ _)); exact BK115.out) hg (Kd.R_ne HO_116001.out BK115.out (by decide))); have n2_ := Aside0.mk (hb); have n3_ := Aside0.mk (ho); clear BK111; clear BK115; clear HB; clear HO_116001; have BK111 := n0_; have BK115 := n1_; have HB := n2_; have HO120 := n3_; clear n0_ n1_ n2_ n3_; clear ho hb hg hat; obtain ⟨Ao19, co19, eo19⟩ := Kd.R_slice HO120.out; subst eo19; have hcz20_0 : w18.cell? ⟨gb115, 0, none⟩ = some (.int .i64 a0) := (blk_cell BK115.out 0).trans rfl; have hcz20_1 : w18.cell? ⟨gb115, 1, none⟩ = some (u116001) := (blk_cell BK115.out 1).trans rfl; have hfz20_0 := blk_frozen BK115.out 0; have hfz20_1 := blk_frozen BK115.out 1))
          go_roundg k2
          case measure => have := HK1.out; have := HK2.out; omega
          case rel => exact ⟨(wrap64 (x6_1 + 1)), (y118), (.slice Ao19 y118.length co19), (by first | rfl | (simp; done) | (simp [*]; done)), H', ⟨by have := HK1.out; have := HK2.out; omega⟩, ⟨by (with_reducible repeat (first | apply Kd.R_alloc | apply Kd.R_drewN | apply Kd.R_drew)); exact Kd.R_mono (Kd.R_far (p := ⟨gb115, 1, none⟩) (Kd.R_types HO120.out BK115.out (by decide)) (fun _ hk => hk.2) (.slice Ao19 y118.length co19)) (fun _ hk => trivial)⟩, ⟨by (with_reducible repeat (first | refine blk_drewN ?_ _ | refine blk_drew ?_ | refine blk_alloc ?_ _)); refine blk_far ?_ NB111_115.out _; (with_reducible repeat (first | refine blk_drewN ?_ _ | refine blk_drew ?_ | refine blk_alloc ?_ _)); exact BK111.out⟩, ⟨by (with_reducible repeat (first | refine blk_drewN ?_ _ | refine blk_drew ?_ | refine blk_alloc ?_ _)); refine blk_put (cs := #[.int .i64 a0, u116001]) ?_ 1 _ rfl; (with_reducible repeat (first | refine blk_drewN ?_ _ | refine blk_drew ?_ | refine blk_alloc ?_ _)); exact BK115.out⟩, ⟨by repeat (first | (with_reducible first | exact HB.out | apply below_alloc | apply pw_below_drewN | apply below_drew1 | refine below_set ?_ GE111.out | refine below_set ?_ GE115.out) | exact HB.out)⟩⟩
         ·rw [if_neg c15] at H
          exact absurd H (by simp)
        ·rw [if_neg c14] at H
         have c14b0 : ((Go.bits .and .i64 x6_1 (rd l1 x7_2)) == x6_1) = false := beq_eq_false_iff_ne.mpr c14
         have c14b1 : ((Go.bits .and .i64 x6_1 (rd l1 x7_2)) != x6_1) = true := bne_iff_ne.mpr c14
         have H' := Aside0.mk H
         clear H
         have p117 : 0 ≤ (x7_2 : Int) := of_decide_eq_true (by first | (with_reducible assumption) | assumption)
         have q117 : x7_2 < (l1.length : Int) := of_decide_eq_true (by first | (with_reducible assumption) | assumption)
         obtain ⟨ad117, e117, hx117_0⟩ := Kd.at_int HR1.out x7_2 p117 q117
         cases e117
         replace hx117_0 := (HB.out.cell (World.block_lt_of_cell? w _ hx117_0)).trans hx117_0
         replace p117 := eq_true p117
         replace q117 := eq_true q117
         go_wp2
         go_roundg k2
         case measure => have := HK1.out; have := HK2.out; omega
         case rel => exact ⟨(wrap64 (x7_2 + 1)), (x116001_2), (u116001), (by first | rfl | (simp; done) | (simp [*]; done)), H', ⟨by have := HK1.out; have := HK2.out; omega⟩, ⟨by (with_reducible repeat (first | apply Kd.R_alloc | apply Kd.R_drewN | apply Kd.R_drew)); exact HO_116001.out⟩, ⟨by (with_reducible repeat (first | refine blk_drewN ?_ _ | refine blk_drew ?_ | refine blk_alloc ?_ _)); exact BK111.out⟩, ⟨by (with_reducible repeat (first | refine blk_drewN ?_ _ | refine blk_drew ?_ | refine blk_alloc ?_ _)); exact BK115.out⟩, ⟨by repeat (first | (with_reducible first | exact HB.out | apply below_alloc | apply pw_below_drewN | apply below_drew1 | refine below_set ?_ GE111.out | refine below_set ?_ GE115.out) | exact HB.out)⟩⟩
       ·rw [if_neg c13] at H
        exact absurd H (by simp)
      ·rw [if_neg c12] at H
       have c12b0 : decide (x7_2 < (l1.length : Int)) = false := decide_eq_false c12
       clear c12
       have H' := Aside0.mk H
       clear H
       go_wp2
       go_roundg k2
       case measure => have := HK1.out; have := HK2.out; omega
       case rel => exact ⟨(wrap64 (x6_1 + 1)), (x116001_2), (u116001), (by first | rfl | (simp; done) | (simp [*]; done)), H', ⟨by have := HK1.out; have := HK2.out; omega⟩, ⟨by (with_reducible repeat (first | apply Kd.R_alloc | apply Kd.R_drewN | apply Kd.R_drew)); exact HO_116001.out⟩, ⟨by (with_reducible repeat (first | refine blk_drewN ?_ _ | refine blk_drew ?_ | refine blk_alloc ?_ _)); exact BK111.out⟩, ⟨by (with_reducible repeat (first | refine blk_drewN ?_ _ | refine blk_drew ?_ | refine blk_alloc ?_ _)); exact BK115.out⟩, ⟨by repeat (first | (with_reducible first | exact HB.out | apply below_alloc | apply pw_below_drewN | apply below_drew1 | refine below_set ?_ GE111.out | refine below_set ?_ GE115.out) | exact HB.out)⟩⟩
   ·rw [if_neg c11] at H
    have c11b0 : decide (x6_1 ≤ t116) = false := decide_eq_false c11
    clear c11
    simp only [Option.some.injEq, Prod.mk.injEq] at H
    obtain ⟨rfl, rfl⟩ := H
    go_wp2_with (first | ((with_reducible refine gate_callee (f := 57) rfl ?_); refine goesL_ (some 13) rfl rfl Tryd.func57 (by kernel_rfl) rfl #[.int .i64 a0] rfl (by (try simp only [List.map_toArray, List.map_cons, List.map_nil]); first | done | rfl | (simp only [List.length_drop, List.length_take]; rfl)) ?_; (with_reducible refine (spec_l01All.calls a0 t116 _ A10.out).mono ?_); rintro e w' ⟨rfl, ⟨nd, rfl⟩⟩; refine ⟨_, rfl, ?_⟩; (try (rw [drewN_self wr]; generalize hq_ : World.drewN wr _ = wr; have n0_ : Aside0 (Kd.R (Kd.int .i64) 2 wr w.heap.size (fun _ => True) u116001 x116001_1) := ⟨by rw [← hq_]; exact (by (with_reducible repeat (first | apply Kd.R_alloc | apply Kd.R_drewN | apply Kd.R_drew)); exact HO_116001.out)⟩; have n1_ : Aside0 (wr.heap[gb111]? = some (.cells #[.int .i64 0, .slice none 0 0] 24 (0, 0))) := ⟨by rw [← hq_]; exact (by (with_reducible repeat (first | refine blk_drewN ?_ _ | refine blk_drew ?_ | refine blk_alloc ?_ _)); exact BK111.out)⟩; have n2_ : Aside0 (wr.heap[gb115]? = some (.cells #[.int .i64 a0, u116001] 24 (0, 0))) := ⟨by rw [← hq_]; exact (by (with_reducible repeat (first | refine blk_drewN ?_ _ | refine blk_drew ?_ | refine blk_alloc ?_ _)); exact BK115.out)⟩; have n3_ : Aside0 (Below w.heap.size w wr) := ⟨by rw [← hq_]; exact (by repeat (first | (with_reducible first | exact HB.out | apply below_alloc | apply pw_below_drewN | apply below_drew1 | refine below_set ?_ GE111.out | refine below_set ?_ GE115.out) | exact HB.out))⟩; clear HO_116001 BK111 BK115 HB hq_; have HO_116001 := n0_; have BK111 := n1_; have BK115 := n2_; have HB := n3_; clear n0_ n1_ n2_ n3_)); have hnb21 := NB115_111.out; have hnc21 := NB111_115.out; have hcz22_0 : wr.cell? ⟨gb115, 0, none⟩ = some (.int .i64 a0) := (blk_cell BK115.out 0).trans rfl; have hcz22_1 : wr.cell? ⟨gb115, 1, none⟩ = some (u116001) := (blk_cell BK115.out 1).trans rfl; have hfz22_0 := blk_frozen BK115.out 0; have hfz22_1 := blk_frozen BK115.out 1; have hcz23_0 : wr.cell? ⟨gb111, 0, none⟩ = some (.int .i64 0) := (blk_cell BK111.out 0).trans rfl; have hcz23_1 : wr.cell? ⟨gb111, 1, none⟩ = some (.slice none 0 0) := (blk_cell BK111.out 1).trans rfl; have hfz23_0 := blk_frozen BK111.out 0; have hfz23_1 := blk_frozen BK111.out 1; obtain ⟨Ao24, co24, eo24⟩ := Kd.R_slice HO_116001.out; subst eo24))
    refine bodyPost_ret (results_cell_row rfl _ _ gb111 24 #[.int .i64 a0, .slice Ao24 x116001_1.length co24] (0, 0) _ rfl (by (with_reducible repeat (first | refine blk_drewN ?_ _ | refine blk_drew ?_ | refine blk_alloc ?_ _)); refine blk_put (cs := #[.int .i64 a0, .slice none 0 0]) ?_ 1 _ rfl; (with_reducible repeat (first | refine blk_drewN ?_ _ | refine blk_drew ?_ | refine blk_alloc ?_ _)); refine blk_put (cs := #[.int .i64 0, .slice none 0 0]) ?_ 0 _ rfl; (with_reducible repeat (first | refine blk_drewN ?_ _ | refine blk_drew ?_ | refine blk_alloc ?_ _)); exact BK111.out) Tryd.underlying24 rfl (by kernel_rfl)) rfl ?_
    exact ⟨_, by first | rfl | (simp [errW_none, errW_some] <;> rfl) | (simp [*, errW_none, errW_some] <;> rfl), by (with_reducible repeat (first | apply Kd.R_alloc | apply Kd.R_drewN | apply Kd.R_drew)); exact Kd.R_mono (Kd.R_far (p := ⟨gb111, 1, none⟩) (Kd.R_far (p := ⟨gb111, 0, none⟩) (Kd.R_types HO_116001.out BK111.out (by decide)) (fun _ hk => hk.2) (.int .i64 a0)) (fun _ hk => hk.2) (.slice Ao24 x116001_1.length co24)) (fun _ hk => trivial), by repeat (first | (with_reducible first | exact HB.out | apply below_alloc | apply pw_below_drewN | apply below_drew1 | refine below_set ?_ GE111.out | refine below_set ?_ GE115.out) | exact HB.out)⟩

/-! ### spec_l01Names: function 55 -/
/-! ### spec_l01Known: function 56 -/
end Go.Proofs.YtaeabbackmnioaaDoor.Q
end

section
/- The reference's small functions: ranges, all vertices, numbers of vertices. -/
namespace Go.Proofs.YtaeabbackmnioaaDoor.K
open Go.RowKit Go.Shelf Go.Proofs.YtaeabbackmnioaaDoor.Q Go.Proofs.YtaeabbackmnioaaDoorW.PrintWords Go.Proofs.YtaeabbackmnioaaDoorW.PrintLast Go.Proofs.YtaeabbackmnioaaDoorW.PrintMore
set_option linter.unusedVariables false
set_option linter.unusedSimpArgs false

theorem specIn_is (a b c : Int) : spec_l01In.f a b c = some (decide (b ≤ a ∧ a ≤ c)) := by
 unfold spec_l01In.f
 by_cases h : b ≤ a
 ·rw [if_pos (by omega)]; simp [h]
 ·rw [if_neg (by omega)]; simp [h]
theorem u64_id (n : Int) (h0 : 0 ≤ n) (h1 : n ≤ 9223372036854775807) : IntKind.u64.wrap n = n := by
 simp [IntKind.wrap, IntKind.signed, IntKind.bits]; omega
theorem specAll_is (n : Int) (h0 : 0 ≤ n) (h6 : n ≤ 62) : spec_l01All.f n = some (fullOf n) := by
 unfold spec_l01All.f fullOf
 have h := two_pow n.toNat 62 (by omega)
 rw [u64_id n h0 (by omega), if_pos h0, shl_one n h0 h6, w64 _ (by omega) (by omega)]

end Go.Proofs.YtaeabbackmnioaaDoor.K
end

section
/- The reference's IsComplex comes to what the program's comes to. -/
namespace Go.Proofs.YtaeabbackmnioaaDoor.K
open Go.RowKit Go.Shelf Go.Proofs.YtaeabbackmnioaaDoor.Q Go.Proofs.YtaeabbackmnioaaDoorW.PrintWords Go.Proofs.YtaeabbackmnioaaDoorW.PrintLast Go.Proofs.YtaeabbackmnioaaDoorW.PrintMore
set_option linter.unusedVariables false
set_option linter.unusedSimpArgs false

theorem good_iff (n : Int) (l : List Int) : rangeAsc n l = true ↔ ∀ j, j < l.length → goodAt n l j := by simp [rangeAsc]
theorem isC_iff (n : Int) (l : List Int) : isC n l = true ↔ (1 ≤ n ∧ n ≤ 6) ∧ (∀ j, j < l.length → goodAt n l j) ∧ ∀ f ∈ l, closedAt l f = true := by
 simp [isC, good_iff, and_assoc]

end Go.Proofs.YtaeabbackmnioaaDoor.K
end

section
/- Written by a program of this session (myprint.py over the kit's print). -/
namespace Go.Proofs.YtaeabbackmnioaaDoor.Q
open Go.RowKit Go.Proofs.YtaeabbackmnioaaDoorW.PrintWords Go.Proofs.YtaeabbackmnioaaDoorW.PrintLast Go.Proofs.YtaeabbackmnioaaDoorW.PrintMore
attribute [local go_sem] max2_int min2_int max_two min_two max_three min_three max_four min_four   -- for this text's walks alone
set_option linter.unusedVariables false
set_option linter.unusedSimpArgs false

/-! ### spec_l01Ones: function 104 -/
def spec_l01Ones.l0 : Nat → Int → Int → Option (Int)
 | 0, _, _ => none
 | k + 1, x0, x3 => if x0 > 0 then (spec_l01Ones.l0 k (wrap64 (Int.tdiv x0 2)) (wrap64 (x3 + (Int.tmod x0 2)))) else (some x3)
def spec_l01Ones.f (k : Nat) (a0 : Int) : Option (Int) := spec_l01Ones.l0 k a0 0
theorem spec_l01Ones.mono_l : ∀ k, (∀ y0 y1, LeO (spec_l01Ones.l0 k y0 y1) (spec_l01Ones.l0 (k + 1) y0 y1))
 | 0 => fun _ _ r h => by simp [spec_l01Ones.l0] at h
 | k + 1 => by
  have ih0 := spec_l01Ones.mono_l k
  ·intro y0 y1
   unfold spec_l01Ones.l0
   repeat' first
   | (with_reducible exact ih0 _ _)
   | (with_reducible exact LeO.refl _)
   | (with_reducible exact LeO.none _)
   | (with_reducible refine LeO.ite ?_ ?_)
   | (with_reducible refine LeO.bind ?_ (fun _ => ?_))
   | exact ih0 _ _
   | exact LeO.none _
   | refine LeO.ite ?_ ?_
   | refine LeO.bind ?_ (fun _ => ?_)
theorem spec_l01Ones.mono : ∀ a0 k, LeO (spec_l01Ones.f k a0) (spec_l01Ones.f (k + 1) a0) := by
 intro a0 k
 have ih0 := spec_l01Ones.mono_l k
 unfold spec_l01Ones.f
 repeat' first
   | (with_reducible exact ih0 _ _)
   | (with_reducible exact LeO.refl _)
   | (with_reducible exact LeO.none _)
   | (with_reducible refine LeO.ite ?_ ?_)
   | (with_reducible refine LeO.bind ?_ (fun _ => ?_))
   | exact ih0 _ _
   | exact LeO.none _
   | refine LeO.ite ?_ ?_
   | refine LeO.bind ?_ (fun _ => ?_)
set_option maxHeartbeats 8000000 in
set_option maxRecDepth 100000 in
theorem spec_l01Ones.calls (k : Nat) (a0 : Int) (r : Int) (w : World) (h : spec_l01Ones.f k a0 = some r) :
  Calls Tryd.prog 104 #[.int .i64 a0] w fun e w' => e = .returned (.int .i64 r) ∧ Drawn0 w w' := by
 have H : (spec_l01Ones.l0 k a0 0) = some r := h
 clear h
 have H' := Aside0.mk H
 clear H
 go_enter Tryd.func104, Tryd.ntmps104
 go_wp2
 go_loopg [0, 3] k (fun kq v0 v3 w' => ∃ (x0_1 : Int) (x3_1 : Int), v0 = .int .i64 x0_1 ∧ v3 = .int .i64 x3_1 ∧ Aside0 (spec_l01Ones.l0 kq x0_1 x3_1 = some r) ∧ Aside0 (kq ≤ k) ∧ Drawn0 w w')
 case atStart => exact ⟨(a0), (0), (by first | rfl | (simp; done) | (simp [*]; done)), (by first | rfl | (simp; done) | (simp [*]; done)), H', ⟨Nat.le_refl _⟩, by repeat (first | exact Drawn0.refl _ | apply Drawn0.step)⟩
 case round =>
  clear H'
  try clear c1
  obtain ⟨x0_1, x3_1, rfl, rfl, HA, HK1, ⟨m1, rfl⟩⟩ := hrel
  cases gk with
  | zero => exact absurd HA.out (by simp [spec_l01Ones.l0])
  | succ k1 =>
   have H := HA.out
   clear HA
   simp only [spec_l01Ones.l0] at H
   by_cases c2 : x0_1 > 0
   ·rw [if_pos c2] at H
    have c2b0 : decide (0 < x0_1) = true := decide_eq_true c2
    clear c2
    have H' := Aside0.mk H
    clear H
    go_wp2
    go_roundg k1
    case measure => have := HK1.out; omega
    case rel => exact ⟨(wrap64 (Int.tdiv x0_1 2)), (wrap64 (x3_1 + (Int.tmod x0_1 2))), (by first | rfl | (simp; done) | (simp [*]; done)), (by first | rfl | (simp; done) | (simp [*]; done)), H', ⟨by have := HK1.out; omega⟩, by repeat (first | exact Drawn0.refl _ | apply Drawn0.step)⟩
   ·rw [if_neg c2] at H
    have c2b0 : decide (0 < x0_1) = false := decide_eq_false c2
    clear c2
    obtain rfl := Option.some.inj H
    go_wp2
    go_ret
    exact ⟨by first | rfl | (simp; done) | (simp [*]; done), by repeat (first | exact Drawn0.refl _ | apply Drawn0.step)⟩

/-! ### spec_l01Above: function 80 -/
def spec_l01Above.l0 : Nat → Int → List Int → Int → Int → List Int → Option (List Int)
 | 0, _, _, _, _, _ => none
 | k + 1, x1, x5, x6, x190000, x190001 => if x6 < (x190001.length : Int) then (if 0 ≤ x6 then (if (Go.bits .and .i64 (rd x190001 x6) x1) = x1 then ((spec_l01Ones.f k (rd x190001 x6)).bind fun t195 => ((spec_l01Ones.f k x1).bind fun t196 => (if t195 = (wrap64 (t196 + 1)) then (if x5.length < 17592186044416 then (spec_l01Above.l0 k x1 (x5 ++ [rd x190001 x6]) (wrap64 (x6 + 1)) x190000 x190001) else (none)) else (spec_l01Above.l0 k x1 x5 (wrap64 (x6 + 1)) x190000 x190001)))) else (spec_l01Above.l0 k x1 x5 (wrap64 (x6 + 1)) x190000 x190001)) else (none)) else (some x5)
def spec_l01Above.f (k : Nat) (a0_0 : Int) (l0_1 : List Int) (a1 : Int) : Option (List Int) := spec_l01Above.l0 k a1 (([] : List Int)) 0 a0_0 l0_1
theorem spec_l01Above.mono_l : ∀ k, (∀ y0 y1 y2 y3 y4, LeO (spec_l01Above.l0 k y0 y1 y2 y3 y4) (spec_l01Above.l0 (k + 1) y0 y1 y2 y3 y4))
 | 0 => fun _ _ _ _ _ r h => by simp [spec_l01Above.l0] at h
 | k + 1 => by
  have ih0 := spec_l01Above.mono_l k
  ·intro y0 y1 y2 y3 y4
   unfold spec_l01Above.l0
   repeat' first
   | (with_reducible exact ih0 _ _ _ _ _)
   | (with_reducible exact spec_l01Ones.mono _ _)
   | (with_reducible exact LeO.refl _)
   | (with_reducible exact LeO.none _)
   | (with_reducible refine LeO.ite ?_ ?_)
   | (with_reducible refine LeO.bind ?_ (fun _ => ?_))
   | exact ih0 _ _ _ _ _
   | exact spec_l01Ones.mono _ _
   | exact LeO.none _
   | refine LeO.ite ?_ ?_
   | refine LeO.bind ?_ (fun _ => ?_)
theorem spec_l01Above.mono : ∀ a0 a1 a2 k, LeO (spec_l01Above.f k a0 a1 a2) (spec_l01Above.f (k + 1) a0 a1 a2) := by
 intro a0 a1 a2 k
 have ih0 := spec_l01Above.mono_l k
 unfold spec_l01Above.f
 repeat' first
   | (with_reducible exact ih0 _ _ _ _ _)
   | (with_reducible exact spec_l01Ones.mono _ _)
   | (with_reducible exact LeO.refl _)
   | (with_reducible exact LeO.none _)
   | (with_reducible refine LeO.ite ?_ ?_)
   | (with_reducible refine LeO.bind ?_ (fun _ => ?_))
   | exact ih0 _ _ _ _ _
   | exact spec_l01Ones.mono _ _
   | exact LeO.none _
   | refine LeO.ite ?_ ?_
   | refine LeO.bind ?_ (fun _ => ?_)
set_option maxHeartbeats 8000000 in
set_option maxRecDepth 100000 in
theorem spec_l01Above.calls (k : Nat) (a0_0 : Int) (A0_1 : Option Addr) (c0_1 : Nat) (l0_1 : List Int) (a1 : Int) (r : List Int) (w : World) (hr0_1 : Kd.C (Kd.int .i64) w A0_1 l0_1.length l0_1) (hc0_1 : l0_1.length ≤ c0_1) (h : spec_l01Above.f k a0_0 l0_1 a1 = some r) :
  Calls Tryd.prog 80 #[.agg #[.int .i64 a0_0, .slice A0_1 l0_1.length c0_1], .int .i64 a1] w fun e w' => ∃ v0_ : Value, e = .returned (v0_) ∧ Kd.R (Kd.int .i64) 2 w' w.heap.size (fun _ => True) v0_ r ∧ Below w.heap.size w w' := by
 have hu24 := Tryd.underlying24
 have HR0_1 := Aside0.mk hr0_1
 have HC0_1 := Aside0.mk hc0_1
 clear hr0_1 hc0_1
 have HB := Aside0.mk (Below.refl w.heap.size w)
 have H : (spec_l01Above.l0 k a1 (([] : List Int)) 0 a0_0 l0_1) = some r := h
 clear h
 obtain ⟨y190, hy190⟩ : ∃ y_ : List Int, y_ = (([] : List Int)) := ⟨_, rfl⟩
 replace H : (spec_l01Above.l0 k a1 y190 0 a0_0 l0_1) = some r := by first | (rw [hy190]; with_reducible exact H) | (have H2_ := (Option.bind_some _ _).symm.trans H; rw [hy190]; with_reducible exact H2_) | (have H2_ := (Option.bind_some _ _).symm.trans H; with_reducible exact H2_) | with_reducible exact H | (rw [hy190]; exact H) | exact H
 have Ny190 := Aside0.mk hy190
 clear hy190
 have H' := Aside0.mk H
 clear H
 go_enter Tryd.func80, Tryd.ntmps80
 go_wp2_with (first | ((with_reducible refine gate_dst (N := 2) rfl ?_); refine box_event ?hg (N := 2) ?hd (cs := #[.int .i64 a0_0, .slice A0_1 l0_1.length c0_1]) (t := 24) ?hr ?_; (case hd => rfl); (case hg => rfl); (case hr => first | (go_simp; done) | (go_simp; rfl)); intro gb189 hg w3 hbox hb; have n0_ := Aside0.mk (below_step (by repeat (first | (with_reducible first | exact HB.out | apply below_alloc | apply pw_below_drewN | apply below_drew1) | exact HB.out)) hb); have n1_ := Aside0.mk (hbox); have n2_ := Aside0.mk ((by rw [hg]; exact (below_size (by repeat (first | (with_reducible first | exact HB.out | apply below_alloc | apply pw_below_drewN | apply below_drew1) | exact HB.out))) : w.heap.size ≤ gb189)); have n3_ := Aside0.mk ((by rw [hg]; exact (below_size (by repeat (first | (with_reducible first | exact HB.out | apply below_alloc | apply pw_below_drewN | apply below_drew1) | exact HB.out))) : w.heap.size ≤ gb189)); clear HB; have HB := n0_; have BK189 := n1_; have GW189 := n2_; have GE189 := n3_; clear n0_ n1_ n2_ n3_; clear hb hbox hg) | ((with_reducible refine gate_dst (N := 7) rfl ?_); refine Kd.R_lit (Kd.int .i64) _ 2 ?hg (N := 7) ?hd (xs := ([] : List Int)) (inner := []) (ok := fun _ => True) (okp := fun _ => True) ?hr ?hp (fun _ hk => hk) trivial (Below.refl _ _) (Nat.le_refl _) (by simp) ?_; (case hd => rfl); (case hg => rfl); (case hr => first | (go_simp; done) | (go_simp; rfl)); (case hp => exact (Reps.none _ _)); intro v191 w4 ho5 hb hg_ hnew_; clear hg_ hnew_; (first | rw [← Ny190.out] at ho5 | (simp only [Int.reduceToNat] at ho5; rw [← Ny190.out] at ho5)); have n0_ := Aside0.mk (Kd.R_lower ho5 (below_size (by repeat (first | (with_reducible first | exact HB.out | apply below_alloc | apply pw_below_drewN | apply below_drew1 | refine below_set ?_ GE189.out) | exact HB.out)))); have n1_ := Aside0.mk (blk_below (g := gb189) (o := .cells #[.int .i64 a0_0, .slice A0_1 l0_1.length c0_1] 24 (0, 0)) (by (with_reducible repeat (first | refine blk_drewN ?_ _ | refine blk_drew ?_ | refine blk_alloc ?_ _)); exact BK189.out) hb); have n2_ := Aside0.mk (below_step (by repeat (first | (with_reducible first | exact HB.out | apply below_alloc | apply pw_below_drewN | apply below_drew1 | refine below_set ?_ GE189.out) | exact HB.out)) hb); clear BK189; clear HB; have HO192 := n0_; have BK189 := n1_; have HB := n2_; clear n0_ n1_ n2_; clear hb ho5))
 go_loopg [5, 6] k (fun kq v5 v6 w' => ∃ (x5_1 : List Int) (x6_1 : Int), v6 = .int .i64 x6_1 ∧ Aside0 (spec_l01Above.l0 kq a1 x5_1 x6_1 a0_0 l0_1 = some r) ∧ Aside0 (kq ≤ k) ∧ Aside0 (Kd.R (Kd.int .i64) 2 w' w.heap.size (fun _ => True) v5 x5_1) ∧ Aside0 (w'.heap[gb189]? = some (.cells #[.int .i64 a0_0, (.slice A0_1 l0_1.length c0_1)] 24 (0, 0))) ∧ Aside0 (Below w.heap.size w w'))
 case atStart => exact ⟨(y190), (0), (by first | rfl | (simp; done) | (simp [*]; done)), H', ⟨Nat.le_refl _⟩, ⟨by (with_reducible repeat (first | apply Kd.R_alloc | apply Kd.R_drewN | apply Kd.R_drew)); exact HO192.out⟩, ⟨by (with_reducible repeat (first | refine blk_drewN ?_ _ | refine blk_drew ?_ | refine blk_alloc ?_ _)); exact BK189.out⟩, ⟨by repeat (first | (with_reducible first | exact HB.out | apply below_alloc | apply pw_below_drewN | apply below_drew1 | refine below_set ?_ GE189.out) | exact HB.out)⟩⟩
 case round =>
  clear H'
  try clear p2
  obtain ⟨x5_1, x6_1, rfl, HA, HK1, HO_5, BK189, HB⟩ := hrel
  cases gk with
  | zero => exact absurd HA.out (by simp [spec_l01Above.l0])
  | succ k1 =>
   have H := HA.out
   clear HA
   simp only [spec_l01Above.l0] at H
   by_cases c6 : x6_1 < (l0_1.length : Int)
   ·rw [if_pos c6] at H
    have c6b0 : decide (x6_1 < (l0_1.length : Int)) = true := decide_eq_true c6
    clear c6
    by_cases c7 : 0 ≤ x6_1
    ·rw [if_pos c7] at H
     have c7b0 : decide (0 ≤ x6_1) = true := decide_eq_true c7
     clear c7
     by_cases c8 : (Go.bits .and .i64 (rd l0_1 x6_1) a1) = a1
     ·rw [if_pos c8] at H
      have c8b0 : ((Go.bits .and .i64 (rd l0_1 x6_1) a1) == a1) = true := beq_iff_eq.mpr c8
      have c8b1 : ((Go.bits .and .i64 (rd l0_1 x6_1) a1) != a1) = false := bne_eq_false_iff_eq.mpr c8
      clear c8
      replace H := Option.bind_eq_some_iff.mp H
      obtain ⟨t195, A90, H⟩ := H
      replace H : ((spec_l01Ones.f k1 a1).bind fun t196 => (if t195 = (wrap64 (t196 + 1)) then (if x5_1.length < 17592186044416 then (spec_l01Above.l0 k1 a1 (x5_1 ++ [rd l0_1 x6_1]) (wrap64 (x6_1 + 1)) a0_0 l0_1) else (none)) else (spec_l01Above.l0 k1 a1 x5_1 (wrap64 (x6_1 + 1)) a0_0 l0_1))) = some r := H
      have A9 := Aside0.mk A90
      clear A90
      replace H := Option.bind_eq_some_iff.mp H
      obtain ⟨t196, A100, H⟩ := H
      replace H : (if t195 = (wrap64 (t196 + 1)) then (if x5_1.length < 17592186044416 then (spec_l01Above.l0 k1 a1 (x5_1 ++ [rd l0_1 x6_1]) (wrap64 (x6_1 + 1)) a0_0 l0_1) else (none)) else (spec_l01Above.l0 k1 a1 x5_1 (wrap64 (x6_1 + 1)) a0_0 l0_1)) = some r := H
      have A10 := Aside0.mk A100
      clear A100
      by_cases c11 : t195 = (wrap64 (t196 + 1))
      ·rw [if_pos c11] at H
       have c11b0 : (t195 == (wrap64 (t196 + 1))) = true := beq_iff_eq.mpr c11
       have c11b1 : (t195 != (wrap64 (t196 + 1))) = false := bne_eq_false_iff_eq.mpr c11
       clear c11
       by_cases c12 : x5_1.length < 17592186044416
       ·rw [if_pos c12] at H
        have LMc12 := Aside0.mk c12
        clear c12
        obtain ⟨y198, hy198⟩ : ∃ y_ : List Int, y_ = (x5_1 ++ [rd l0_1 x6_1]) := ⟨_, rfl⟩
        replace H : (spec_l01Above.l0 k1 a1 y198 (wrap64 (x6_1 + 1)) a0_0 l0_1) = some r := by first | (rw [hy198]; with_reducible exact H) | (have H2_ := (Option.bind_some _ _).symm.trans H; rw [hy198]; with_reducible exact H2_) | (have H2_ := (Option.bind_some _ _).symm.trans H; with_reducible exact H2_) | with_reducible exact H | (rw [hy198]; exact H) | exact H
        have Ny198 := Aside0.mk hy198
        clear hy198
        have H' := Aside0.mk H
        clear H
        have hcz13_0 : wr.cell? ⟨gb189, 0, none⟩ = some (.int .i64 a0_0) := (blk_cell BK189.out 0).trans rfl
        have hcz13_1 : wr.cell? ⟨gb189, 1, none⟩ = some (.slice A0_1 l0_1.length c0_1) := (blk_cell BK189.out 1).trans rfl
        have hfz13_0 := blk_frozen BK189.out 0
        have hfz13_1 := blk_frozen BK189.out 1
        have p193 : 0 ≤ (x6_1 : Int) := of_decide_eq_true (by first | (with_reducible assumption) | assumption)
        have q193 : x6_1 < (l0_1.length : Int) := of_decide_eq_true (by first | (with_reducible assumption) | assumption)
        obtain ⟨ad193, e193, hx193_0⟩ := Kd.at_int HR0_1.out x6_1 p193 q193
        cases e193
        replace hx193_0 := (HB.out.cell (World.block_lt_of_cell? w _ hx193_0)).trans hx193_0
        replace p193 := eq_true p193
        replace q193 := eq_true q193
        have p194 : 0 ≤ (x6_1 : Int) := of_decide_eq_true (by first | (with_reducible assumption) | assumption)
        have q194 : x6_1 < (l0_1.length : Int) := of_decide_eq_true (by first | (with_reducible assumption) | assumption)
        obtain ⟨ad194, e194, hx194_0⟩ := Kd.at_int HR0_1.out x6_1 p194 q194
        obtain rfl : ad193 = ad194 := (by injection e194)
        replace hx194_0 := (HB.out.cell (World.block_lt_of_cell? w _ hx194_0)).trans hx194_0
        replace p194 := eq_true p194
        replace q194 := eq_true q194
        go_wp2_with (first | (go_at_call 104; (with_reducible refine (spec_l01Ones.calls k1 (rd l0_1 x6_1) t195 _ A9.out).mono ?_); rintro e w' ⟨rfl, ⟨nd, rfl⟩⟩) | (go_at_call 104; (with_reducible refine (spec_l01Ones.calls k1 a1 t196 _ A10.out).mono ?_); rintro e w' ⟨rfl, ⟨nd, rfl⟩⟩; have p197 : 0 ≤ (x6_1 : Int) := of_decide_eq_true (by first | (with_reducible assumption) | assumption); have q197 : x6_1 < (l0_1.length : Int) := of_decide_eq_true (by first | (with_reducible assumption) | assumption); obtain ⟨ad197, e197, hx197_0⟩ := Kd.at_int HR0_1.out x6_1 p197 q197; obtain rfl : ad193 = ad197 := (by injection e197); replace hx197_0 := (HB.out.cell (World.block_lt_of_cell? w _ hx197_0)).trans hx197_0; replace p197 := eq_true p197; replace q197 := eq_true q197) | ((with_reducible refine gate_builtin (b := .append) (xs := #[.tmp 36, .tmp 42]) rfl ?_); at_builtin; refine Kd.R_append (Kd.int .i64) (w0 := w) w.heap.size rfl (.tmp 36) (.tmp 42) 22 2 (.int .i64 0) 8 rfl Tryd.underlying22 info2 rfl (by decide) (by omega) u5 x5_1 (rd l0_1 x6_1) [.int .i64 (rd l0_1 x6_1)] (fun _ => True) (fun _ => False) rfl rfl ?aP (fun _ hk => hk.elim) ?aF ?aO ?aB ?aS ?aL ?_; (case aP => exact rfl); (case aB => exact (by repeat (first | (with_reducible first | exact HB.out | apply below_alloc | apply pw_below_drewN | apply below_drew1 | refine below_set ?_ GE189.out) | exact HB.out))); (case aF => exact (fun _ _ => trivial)); (case aO => exact (by (with_reducible repeat (first | apply Kd.R_alloc | apply Kd.R_drewN | apply Kd.R_drew)); exact HO_5.out)); (case aS => exact (below_size (by repeat (first | (with_reducible first | exact HB.out | apply below_alloc | apply pw_below_drewN | apply below_drew1 | refine below_set ?_ GE189.out) | exact HB.out)))); (case aL => have := LMc12.out; omega); intro v199 w14 ho hb hg hat; rw [← Ny198.out] at ho; have n0_ := Aside0.mk (blk_grown (g := gb189) (o := .cells #[.int .i64 a0_0, .slice (some ad193) l0_1.length c0_1] 24 (0, 0)) (by (with_reducible repeat (first | refine blk_drewN ?_ _ | refine blk_drew ?_ | refine blk_alloc ?_ _)); exact BK189.out) hg (Kd.R_ne HO_5.out BK189.out (by decide))); have n1_ := Aside0.mk (hb); have n2_ := Aside0.mk (ho); clear BK189; clear HB; clear HO_5; have BK189 := n0_; have HB := n1_; have HO200 := n2_; clear n0_ n1_ n2_; clear ho hb hg hat))
        go_roundg k1
        case measure => have := HK1.out; omega
        case rel => exact ⟨(y198), (wrap64 (x6_1 + 1)), (by first | rfl | (simp; done) | (simp [*]; done)), H', ⟨by have := HK1.out; omega⟩, ⟨by (with_reducible repeat (first | apply Kd.R_alloc | apply Kd.R_drewN | apply Kd.R_drew)); exact HO200.out⟩, ⟨by (with_reducible repeat (first | refine blk_drewN ?_ _ | refine blk_drew ?_ | refine blk_alloc ?_ _)); exact BK189.out⟩, ⟨by repeat (first | (with_reducible first | exact HB.out | apply below_alloc | apply pw_below_drewN | apply below_drew1 | refine below_set ?_ GE189.out) | exact HB.out)⟩⟩
       ·rw [if_neg c12] at H
        exact absurd H (by simp)
      ·rw [if_neg c11] at H
       have c11b0 : (t195 == (wrap64 (t196 + 1))) = false := beq_eq_false_iff_ne.mpr c11
       have c11b1 : (t195 != (wrap64 (t196 + 1))) = true := bne_iff_ne.mpr c11
       have H' := Aside0.mk H
       clear H
       have hcz15_0 : wr.cell? ⟨gb189, 0, none⟩ = some (.int .i64 a0_0) := (blk_cell BK189.out 0).trans rfl
       have hcz15_1 : wr.cell? ⟨gb189, 1, none⟩ = some (.slice A0_1 l0_1.length c0_1) := (blk_cell BK189.out 1).trans rfl
       have hfz15_0 := blk_frozen BK189.out 0
       have hfz15_1 := blk_frozen BK189.out 1
       have p193 : 0 ≤ (x6_1 : Int) := of_decide_eq_true (by first | (with_reducible assumption) | assumption)
       have q193 : x6_1 < (l0_1.length : Int) := of_decide_eq_true (by first | (with_reducible assumption) | assumption)
       obtain ⟨ad193, e193, hx193_0⟩ := Kd.at_int HR0_1.out x6_1 p193 q193
       cases e193
       replace hx193_0 := (HB.out.cell (World.block_lt_of_cell? w _ hx193_0)).trans hx193_0
       replace p193 := eq_true p193
       replace q193 := eq_true q193
       have p194 : 0 ≤ (x6_1 : Int) := of_decide_eq_true (by first | (with_reducible assumption) | assumption)
       have q194 : x6_1 < (l0_1.length : Int) := of_decide_eq_true (by first | (with_reducible assumption) | assumption)
       obtain ⟨ad194, e194, hx194_0⟩ := Kd.at_int HR0_1.out x6_1 p194 q194
       obtain rfl : ad193 = ad194 := (by injection e194)
       replace hx194_0 := (HB.out.cell (World.block_lt_of_cell? w _ hx194_0)).trans hx194_0
       replace p194 := eq_true p194
       replace q194 := eq_true q194
       go_wp2_with (first | (go_at_call 104; (with_reducible refine (spec_l01Ones.calls k1 (rd l0_1 x6_1) t195 _ A9.out).mono ?_); rintro e w' ⟨rfl, ⟨nd, rfl⟩⟩) | (go_at_call 104; (with_reducible refine (spec_l01Ones.calls k1 a1 t196 _ A10.out).mono ?_); rintro e w' ⟨rfl, ⟨nd, rfl⟩⟩))
       go_roundg k1
       case measure => have := HK1.out; omega
       case rel => exact ⟨(x5_1), (wrap64 (x6_1 + 1)), (by first | rfl | (simp; done) | (simp [*]; done)), H', ⟨by have := HK1.out; omega⟩, ⟨by (with_reducible repeat (first | apply Kd.R_alloc | apply Kd.R_drewN | apply Kd.R_drew)); exact HO_5.out⟩, ⟨by (with_reducible repeat (first | refine blk_drewN ?_ _ | refine blk_drew ?_ | refine blk_alloc ?_ _)); exact BK189.out⟩, ⟨by repeat (first | (with_reducible first | exact HB.out | apply below_alloc | apply pw_below_drewN | apply below_drew1 | refine below_set ?_ GE189.out) | exact HB.out)⟩⟩
     ·rw [if_neg c8] at H
      have c8b0 : ((Go.bits .and .i64 (rd l0_1 x6_1) a1) == a1) = false := beq_eq_false_iff_ne.mpr c8
      have c8b1 : ((Go.bits .and .i64 (rd l0_1 x6_1) a1) != a1) = true := bne_iff_ne.mpr c8
      have H' := Aside0.mk H
      clear H
      have hcz16_0 : wr.cell? ⟨gb189, 0, none⟩ = some (.int .i64 a0_0) := (blk_cell BK189.out 0).trans rfl
      have hcz16_1 : wr.cell? ⟨gb189, 1, none⟩ = some (.slice A0_1 l0_1.length c0_1) := (blk_cell BK189.out 1).trans rfl
      have hfz16_0 := blk_frozen BK189.out 0
      have hfz16_1 := blk_frozen BK189.out 1
      have p193 : 0 ≤ (x6_1 : Int) := of_decide_eq_true (by first | (with_reducible assumption) | assumption)
      have q193 : x6_1 < (l0_1.length : Int) := of_decide_eq_true (by first | (with_reducible assumption) | assumption)
      obtain ⟨ad193, e193, hx193_0⟩ := Kd.at_int HR0_1.out x6_1 p193 q193
      cases e193
      replace hx193_0 := (HB.out.cell (World.block_lt_of_cell? w _ hx193_0)).trans hx193_0
      replace p193 := eq_true p193
      replace q193 := eq_true q193
      go_wp2
      go_roundg k1
      case measure => have := HK1.out; omega
      case rel => exact ⟨(x5_1), (wrap64 (x6_1 + 1)), (by first | rfl | (simp; done) | (simp [*]; done)), H', ⟨by have := HK1.out; omega⟩, ⟨by (with_reducible repeat (first | apply Kd.R_alloc | apply Kd.R_drewN | apply Kd.R_drew)); exact HO_5.out⟩, ⟨by (with_reducible repeat (first | refine blk_drewN ?_ _ | refine blk_drew ?_ | refine blk_alloc ?_ _)); exact BK189.out⟩, ⟨by repeat (first | (with_reducible first | exact HB.out | apply below_alloc | apply pw_below_drewN | apply below_drew1 | refine below_set ?_ GE189.out) | exact HB.out)⟩⟩
    ·rw [if_neg c7] at H
     exact absurd H (by simp)
   ·rw [if_neg c6] at H
    have c6b0 : decide (x6_1 < (l0_1.length : Int)) = false := decide_eq_false c6
    clear c6
    obtain rfl := Option.some.inj H
    have hcz17_0 : wr.cell? ⟨gb189, 0, none⟩ = some (.int .i64 a0_0) := (blk_cell BK189.out 0).trans rfl
    have hcz17_1 : wr.cell? ⟨gb189, 1, none⟩ = some (.slice A0_1 l0_1.length c0_1) := (blk_cell BK189.out 1).trans rfl
    have hfz17_0 := blk_frozen BK189.out 0
    have hfz17_1 := blk_frozen BK189.out 1
    go_wp2
    go_ret
    exact ⟨_, by first | rfl | (simp [errW_none, errW_some] <;> rfl) | (simp [*, errW_none, errW_some] <;> rfl), by (with_reducible repeat (first | apply Kd.R_alloc | apply Kd.R_drewN | apply Kd.R_drew)); exact HO_5.out, by repeat (first | (with_reducible first | exact HB.out | apply below_alloc | apply pw_below_drewN | apply below_drew1 | refine below_set ?_ GE189.out) | exact HB.out)⟩

end Go.Proofs.YtaeabbackmnioaaDoor.Q
end

section
/- The reference's numbers of vertices, dimensions, Euler numbers. -/
namespace Go.Proofs.YtaeabbackmnioaaDoor.K
open Go.RowKit Go.Shelf Go.Proofs.YtaeabbackmnioaaDoor.Q Go.Proofs.YtaeabbackmnioaaDoorW.PrintWords Go.Proofs.YtaeabbackmnioaaDoorW.PrintLast Go.Proofs.YtaeabbackmnioaaDoorW.PrintMore
set_option linter.unusedVariables false
set_option linter.unusedSimpArgs false

theorem specOnes_64 : ∀ m : Fin 64, spec_l01Ones.f 8 (m.val : Int) = some (onesI (m.val : Int)) := by decide +kernel
theorem specOnes_is (f : Int) (h1 : 0 ≤ f) (h2 : f ≤ 63) (k : Nat) (hk : 8 ≤ k) : spec_l01Ones.f k f = some (onesI f) := by
 obtain ⟨m, rfl⟩ := Int.eq_ofNat_of_zero_le h1
 exact at_rounds (fun k => spec_l01Ones.mono _ k) hk (specOnes_64 ⟨m, by omega⟩)
theorem ones_64 : ∀ m : Fin 64, m.val ≠ 0 → 1 ≤ onesI (m.val : Int) ∧ onesI (m.val : Int) ≤ 6 := by decide +kernel
theorem ones_range (f : Int) (h1 : 1 ≤ f) (h2 : f ≤ 63) : 1 ≤ onesI f ∧ onesI f ≤ 6 := by
 obtain ⟨m, rfl⟩ := Int.eq_ofNat_of_zero_le (show 0 ≤ f by omega)
 exact ones_64 ⟨m, by omega⟩ (by show m ≠ 0; omega)

end Go.Proofs.YtaeabbackmnioaaDoor.K
end

section
/- isIn: whether a face is in another one. -/
namespace Go.Proofs.YtaeabbackmnioaaDoor.K
open Go.RowKit Go.Shelf Go.Proofs.YtaeabbackmnioaaDoor.Q Go.Proofs.YtaeabbackmnioaaDoorW.PrintWords Go.Proofs.YtaeabbackmnioaaDoorW.PrintLast Go.Proofs.YtaeabbackmnioaaDoorW.PrintMore
set_option linter.unusedVariables false
set_option linter.unusedSimpArgs false

/-- All vertices of f are in g. -/
def inB (f g : Int) : Bool := Go.bits .andNot .i64 f g == 0
theorem isIn_calls (f g : Int) (w : World) : Calls Tryd.prog 50 #[I f, I g] w fun e w' => e = .returned (.bool (inB f g)) ∧ Grew w w' :=
 (impl_isIn.calls f g (inB f g) w rfl).mono fun e w' ⟨he, hd⟩ => ⟨he, hd.below⟩


end Go.Proofs.YtaeabbackmnioaaDoor.K
end

section
/- Bits of small sets. -/
namespace Go.Proofs.YtaeabbackmnioaaDoor.K
open Go.RowKit Go.Shelf Go.Proofs.YtaeabbackmnioaaDoorW.PrintWords Go.Proofs.YtaeabbackmnioaaDoorW.PrintLast Go.Proofs.YtaeabbackmnioaaDoorW.PrintMore
set_option linter.unusedVariables false
set_option linter.unusedSimpArgs false

theorem and_64 : ∀ a b : Fin 64, Go.bits .and .i64 (a.val : Int) (b.val : Int) = Go.bits .and .i64 (b.val : Int) (a.val : Int) := by decide +kernel
theorem inB_64 : ∀ a b : Fin 64, inB (a.val : Int) (b.val : Int) = decide (Go.bits .and .i64 (a.val : Int) (b.val : Int) = (a.val : Int)) := by decide +kernel
theorem small2 {P : Int → Int → Prop} (h : ∀ a b : Fin 64, P (a.val : Int) (b.val : Int)) (x y : Int) (hx : 0 ≤ x ∧ x ≤ 63) (hy : 0 ≤ y ∧ y ≤ 63) : P x y := by
 obtain ⟨m, rfl⟩ := Int.eq_ofNat_of_zero_le hx.1
 obtain ⟨k, rfl⟩ := Int.eq_ofNat_of_zero_le hy.1
 exact h ⟨m, by omega⟩ ⟨k, by omega⟩
theorem and_comm' (x y : Int) (hx : 0 ≤ x ∧ x ≤ 63) (hy : 0 ≤ y ∧ y ≤ 63) : Go.bits .and .i64 x y = Go.bits .and .i64 y x := small2 (P := fun x y => Go.bits .and .i64 x y = Go.bits .and .i64 y x) and_64 x y hx hy
theorem inB_is (x y : Int) (hx : 0 ≤ x ∧ x ≤ 63) (hy : 0 ≤ y ∧ y ≤ 63) : inB x y = decide (Go.bits .and .i64 x y = x) := small2 (P := fun x y => inB x y = decide (Go.bits .and .i64 x y = x)) inB_64 x y hx hy

end Go.Proofs.YtaeabbackmnioaaDoor.K
end

section
/- slices.Clone and slices.DeleteFunc over rows of numbers of the call's own. -/
namespace Go.Proofs.YtaeabbackmnioaaDoor.K
open Go.RowKit Go.Shelf Go.Proofs.YtaeabbackmnioaaDoorW.PrintWords Go.Proofs.YtaeabbackmnioaaDoorW.PrintLast Go.Proofs.YtaeabbackmnioaaDoorW.PrintMore
set_option linter.unusedVariables false
set_option linter.unusedSimpArgs false

theorem below_setCells {base : Nat} {w : World} {G : Nat} (hb : base ≤ G) : ∀ (vs : List Value) (i : Nat) (W : World), Below base w W → Below base w (W.setCells G i vs)
 | [], _, _, h => h
 | v :: r, i, W, h => below_setCells hb r (i + 1) _ (Below.setCell h hb v)
theorem Ri.clear {base : Nat} {ok : Nat → Prop} {G n c : Nat} : ∀ (m i : Nat) (W : World) (xs : List Int), Ki.R 2 W base ok (.slice (some ⟨G, 0, none⟩) n c) xs →
  ∃ ys : List Int, ys.take i = xs.take i ∧ ys.length = xs.length ∧ Ki.R 2 (W.setCells G i (List.replicate m (I 0))) base ok (.slice (some ⟨G, 0, none⟩) n c) ys
 | 0, i, W, xs, h => ⟨xs, rfl, rfl, h⟩
 | m + 1, i, W, xs, h => by
  have h1 := Kd.R_putn h (i : Int) 0
  rw [Int.toNat_natCast] at h1
  obtain ⟨ys, e1, e2, e3⟩ := Ri.clear m (i + 1) _ _ h1
  refine ⟨ys, ?_, by rw [e2, List.length_set], e3⟩
  have := congrArg (List.take i) e1
  rw [List.take_take, List.take_take, List.take_set, List.set_eq_of_length_le (by simp; omega)] at this
  simpa [Nat.min_eq_left (Nat.le_succ i)] using this

theorem del_keep (q : Int → Bool) (l xs : List Int) (i j : Nat) (hij : i < j) (hj : j < l.length) (hx : xs.length = l.length) (h1 : xs.take i = (l.take j).filter q) (h2 : xs.drop j = l.drop j) (hp : q l[j] = true) :
  (xs.set i l[j]).take (i + 1) = (l.take (j + 1)).filter q ∧ (xs.set i l[j]).drop (j + 1) = l.drop (j + 1) := by
 constructor
 ·rw [List.take_succ_eq_append_getElem hj, List.filter_append, ← h1, List.take_set, List.take_succ_eq_append_getElem (show i < xs.length by omega), List.set_append_right _ _ (by simp; omega)]
  simp [hp]
  have : i - min i xs.length = 0 := by omega
  rw [this]
  rfl
 ·rw [List.drop_set_of_lt (by omega)]
  have := congrArg (List.drop 1) h2
  simpa using this
theorem del_skip (q : Int → Bool) (l xs : List Int) (i j : Nat) (hj : j < l.length) (h1 : xs.take i = (l.take j).filter q) (h2 : xs.drop j = l.drop j) (hp : q l[j] = false) :
  xs.take i = (l.take (j + 1)).filter q ∧ xs.drop (j + 1) = l.drop (j + 1) := by
 constructor
 ·rw [List.take_succ_eq_append_getElem hj, List.filter_append, ← h1]
  simp [hp]
 ·have := congrArg (List.drop 1) h2
  simpa using this
theorem del_get (l xs : List Int) (j : Nat) (hj : j < l.length) (hx : xs.length = l.length) (h2 : xs.drop j = l.drop j) : xs[j]'(by omega) = l[j] := by
 rw [List.drop_eq_getElem_cons hj, List.drop_eq_getElem_cons (show j < xs.length by omega)] at h2
 injection h2
theorem idx_some {p : Int → Bool} {l : List Int} (h : idx p l ≠ -1) : ∃ i : Nat, idx p l = i ∧ ∃ hi : i < l.length, p l[i] = true ∧ ∀ j (hj : j < i), p (l[j]'(by omega)) = false := by
 unfold idx at h ⊢
 cases hf : l.findIdx? p with
 | none => rw [hf] at h; exact absurd rfl h
 | some i =>
  rw [List.findIdx?_eq_some_iff_getElem] at hf
  obtain ⟨hi, hp, hn⟩ := hf
  exact ⟨i, rfl, hi, hp, fun j hj => by have := hn j hj; simpa using this⟩
theorem idx_none {p : Int → Bool} {l : List Int} (h : idx p l = -1) : l.filter (fun x => !p x) = l := by
 unfold idx at h
 cases hf : l.findIdx? p with
 | some i => rw [hf] at h; have : ((i : Int)) = -1 := h; omega
 | none =>
  rw [List.findIdx?_eq_none_iff] at hf
  rw [List.filter_eq_self]
  intro x hx
  simp [hf x hx]
theorem del_start {p : Int → Bool} {l : List Int} {i : Nat} (hi : i < l.length) (hp : p l[i] = true) (hn : ∀ j (hj : j < i), p (l[j]'(by omega)) = false) : l.take i = (l.take (i + 1)).filter (fun x => !p x) := by
 rw [List.take_succ_eq_append_getElem hi, List.filter_append]
 have : (l.take i).filter (fun x => !p x) = l.take i := by
  rw [List.filter_eq_self]
  intro x hx
  obtain ⟨j, hj, rfl⟩ := List.mem_iff_getElem.1 hx
  rw [List.length_take] at hj
  rw [List.getElem_take, hn j (by omega)]
  rfl
 rw [this]
 simp [hp]

set_option maxRecDepth 100000 in
set_option maxHeartbeats 4000000 in
theorem DeleteFunc_calls (p : Int → Bool) (base : Nat) (v : Value) (l : List Int) (g : Nat) (first caps : Array Value) (w : World) (hbase : base ≤ w.heap.size) (hR : Ki.R 2 w base (fun _ => True) v l) (hbig : l.length ≤ 1000000000) (eg : EntersG g)
  (hp : ∀ x, x ∈ l → ∀ W, Below base w W → Calls Tryd.prog g (first.push (I x) ++ caps) W fun e w' => e = .returned (.bool (p x)) ∧ Grew W w') :
  Calls Tryd.prog 72 #[v, .func (.func g) first caps] w fun e w' => ∃ v', e = .returned v' ∧ Ki.R 2 w' base (fun _ => True) v' (l.filter fun x => !p x) ∧ Below base w w' := by
 obtain ⟨A, c, hv, hc, hC⟩ := Kd.R_reads hR
 subst hv
 have H := Aside0.mk (IndexFunc_int p A c l g first caps w hC hc (by omega) eg (fun x hx W hW => hp x hx W (hW.mono hbase)))
 have HR := Aside0.mk hR
 have HP := Aside0.mk hp
 have HC := Aside0.mk hc
 clear hR hp hC hc
 by_cases hi : idx p l = -1
 ·have HV := Aside0.mk (idx_none hi)
  rw [hi] at H
  rw [HV.out]
  go_enter Tryd.func72, Tryd.ntmps72
  go_wp2_with fail
  refine H.out.mono ?_
  rintro e w1 ⟨rfl, hG1⟩
  go_wp2_with fail
  go_ret
  exact ⟨_, rfl, Kd.R_below HR.out hG1, hG1.mono hbase⟩
 ·obtain ⟨i0, he, hi0, hp0, hn0⟩ := idx_some hi
  rw [he] at H hi
  have HS := Aside0.mk (del_start hi0 hp0 hn0)
  clear hn0 hp0 he
  go_enter Tryd.func72, Tryd.ntmps72
  go_wp2_with fail
  refine H.out.mono ?_
  rintro e w1 ⟨rfl, hG1⟩
  have HR1 := Aside0.mk (Kd.R_below HR.out hG1)
  have HG1 : Aside0 (Below base w w1) := ⟨hG1.mono hbase⟩
  clear hG1 H HR
  obtain ⟨G, cc, eo, gb, gl, _⟩ := Kd.R_form HR1.out (by omega)
  injection eo with ea en ec
  subst ea ec
  clear en
  go_wp2_with fail
  go_loopg [5, 6] l.length (fun gg s5 s6 wr => ∃ (i j : Nat) (xs : List Int), s5 = .int .i64 i ∧ s6 = .int .i64 j ∧ i < j ∧ j ≤ l.length ∧ l.length - j ≤ gg ∧ xs.length = l.length ∧
   Aside0 (xs.take i = (l.take j).filter (fun x => !p x)) ∧ Aside0 (xs.drop j = l.drop j) ∧ Aside0 (Ki.R 2 wr base (fun _ => True) (.slice (some ⟨G, 0, none⟩) l.length c) xs) ∧ Aside0 (Below base w wr))
  case atStart => exact ⟨i0, i0 + 1, l, rfl, by go_num, by omega, by omega, by omega, rfl, HS, ⟨rfl⟩, HR1, HG1⟩
  case round =>
   obtain ⟨i, j, xs, rfl, rfl, hij, hj, hg, hxl, HT, HD, HRr, HGr⟩ := hrel
   by_cases hlt : j < l.length
   ·have hltz : (j : Int) < (l.length : Int) := by omega
    obtain ⟨hx, _⟩ := Kd.R_celln 0 HRr.out (j : Int) (by omega) (by omega)
    obtain ⟨hy, hf⟩ := Kd.R_celln 0 HRr.out (i : Int) (by omega) (by omega)
    have hrd : rdOf 0 xs (j : Int) = l[j] := by rw [← del_get l xs j hlt hxl HD.out]; simp [rdOf, show j < xs.length by omega]
    rw [hrd, Int.toNat_natCast] at hx
    rw [Int.toNat_natCast] at hy hf
    have hcall := HP.out l[j] (List.getElem_mem hlt) wr HGr.out
    have HK := Aside0.mk (fun h => del_keep (fun x => !p x) l xs i j hij hlt hxl HT.out HD.out h)
    have HS2 := Aside0.mk (fun h => del_skip (fun x => !p x) l xs i j hlt HT.out HD.out h)
    clear hrd
    generalize l[j] = y at hx hcall HK HS2
    cases hq : p y with
    | false =>
     rw [hq] at hcall
     have HK2 := Aside0.mk (HK.out (by simp [hq]))
     clear HK HS2
     go_wp2_with fail
     refine hcall.mono ?_
     rintro e w2 ⟨rfl, hG2⟩
     have HR2 := Aside0.mk (Kd.R_below HRr.out hG2)
     have HG2 := Aside0.mk (Below.trans HGr.out (hG2.mono (Nat.le_trans hbase HGr.out.size)))
     obtain ⟨hy, hf⟩ := Kd.R_celln 0 HR2.out (i : Int) (by omega) (by omega)
     rw [Int.toNat_natCast] at hy hf
     have HW := Aside0.mk (Kd.R_putn HR2.out (i : Int) y)
     clear hcall hx hG2
     go_wp2_with fail
     go_roundg (l.length - (j + 1))
     case measure => omega
     case rel => exact ⟨i + 1, j + 1, xs.set i y, by go_num, by go_num, by omega, by omega, by omega, by rw [List.length_set]; exact hxl, ⟨HK2.out.1⟩, ⟨HK2.out.2⟩, HW, ⟨Below.setCell HG2.out gb _⟩⟩
    | true =>
     rw [hq] at hcall
     have HK2 := Aside0.mk (HS2.out (by simp [hq]))
     clear HK HS2
     go_wp2_with fail
     refine hcall.mono ?_
     rintro e w2 ⟨rfl, hG2⟩
     have HR2 := Aside0.mk (Kd.R_below HRr.out hG2)
     have HG2 := Aside0.mk (Below.trans HGr.out (hG2.mono (Nat.le_trans hbase HGr.out.size)))
     clear hcall hx hy hf hG2
     go_wp2_with fail
     go_roundg (l.length - (j + 1))
     case measure => omega
     case rel => exact ⟨i, j + 1, xs, rfl, by go_num, by omega, by omega, by omega, hxl, ⟨HK2.out.1⟩, ⟨HK2.out.2⟩, HR2, HG2⟩
   ·obtain rfl : j = l.length := by omega
    have hltz : ¬ (l.length : Int) < (l.length : Int) := by omega
    have HT2 : Aside0 (xs.take i = l.filter (fun x => !p x)) := ⟨by have := HT.out; rwa [List.take_length] at this⟩
    clear HT HD
    have hcl : ∀ ty, (Builtin.clear_ #[22] ty #[.slice (some ⟨G, i, none⟩) (l.length - i) (c - i)]).run Tryd.prog wr = .ok (.tuple #[]) (wr.setCells G i (List.replicate (l.length - i) (I 0))) :=
     fun ty => Lib.run_clear_slice wr _ _ ty _ Tryd.underlying22 (fun w => by kernel_rfl) rfl rfl G i _ _ (by omega) (fun t ht => by
      obtain ⟨h1, h2⟩ := Kd.R_celln 0 HRr.out ((i + t : Nat) : Int) (by omega) (by omega)
      rw [Int.toNat_natCast] at h1
      rw [h1]; rfl) (fun t ht => by
      obtain ⟨h1, h2⟩ := Kd.R_celln 0 HRr.out ((i + t : Nat) : Int) (by omega) (by omega)
      rw [Int.toNat_natCast] at h2
      exact h2)
    have hic : i < c := by have := HC.out; omega
    go_wp2_with fail
    go_ret
    obtain ⟨ys, h1, h2, h3⟩ := Ri.clear (l.length - i) i wr xs HRr.out
    refine ⟨_, rfl, ?_, below_setCells gb _ _ _ HGr.out⟩
    have h4 := Kd.R_take h3 (m := i) (by omega)
    rw [h1, HT2.out] at h4
    exact h4

end Go.Proofs.YtaeabbackmnioaaDoor.K
end

section
/- slices.Clone over rows of numbers. -/
namespace Go.Proofs.YtaeabbackmnioaaDoor.K
open Go.RowKit Go.Shelf Go.Proofs.YtaeabbackmnioaaDoorW.PrintWords Go.Proofs.YtaeabbackmnioaaDoorW.PrintLast Go.Proofs.YtaeabbackmnioaaDoorW.PrintMore
set_option linter.unusedVariables false
set_option linter.unusedSimpArgs false

section
variable {ops : Array Oper} {rest : List Oper} {o : Oper} {a : Act} {Q : Exit → Act → World → Prop}
/-- 'append' of a row of numbers to a row of the call's own. -/
theorem append_ints {W : World} (base : Nat) (hgd : o.guard = none) (s x : Operand)
  (ho : o.op = .call { callee := .builtin .append, args := #[s, x], argTypes := #[22, 22] })
  (v : Value) (xs ys : List Int) (A : Option Addr) (c : Nat) (hs : a.eval s = v) (hx : a.eval x = .slice A ys.length c)
  (HO : Ki.R 2 W base (fun _ => True) v xs) (HR : Ki.C W A ys.length ys) (hbase : base ≤ W.heap.size) (hl : xs.length + ys.length ≤ 1000000000000)
  (h : ∀ A' c' w1, Ki.R 2 w1 base (fun _ => True) (.slice A' (xs.length + ys.length) c') (xs ++ ys) → Below base W w1 → W.grownBy w1 v.ownBlock → wpList Tryd.prog ops Q rest (a.put o.dst (.slice A' (xs.length + ys.length) c')) w1) :
  wpList Tryd.prog ops Q (o :: rest) a W := by
 refine Kd.R_append_rows Ki (w0 := W) base hgd s x 22 2 (.int .i64 0) 8 ho Tryd.underlying22 infoI rfl (by decide) (by omega) v xs ys A ys.length c (fun _ => True) (fun _ => False) hs hx HO HR (fun _ _ h => h) (fun _ h => h.elim) (fun _ _ => trivial) (Below.refl _ _) hbase (by omega) ?_
 intro v1 w1 hR hB hg _
 obtain ⟨A', c', e⟩ := Kd.R_slice hR
 rw [List.length_append] at e
 subst e
 exact h A' c' w1 hR hB hg
end
theorem Ri.empty (w : World) (base : Nat) (hb : base ≤ w.heap.size) : Ki.R 2 (w.alloc (.cells #[] 2)) base (fun _ => True) (.slice (some ⟨w.heap.size, 0, none⟩) 0 0) [] := by
 have := own_lit w base 2 .i64 [] hb (by simp)
 exact ⟨fun _ _ => trivial, [], this, Reps.none _ _⟩

end Go.Proofs.YtaeabbackmnioaaDoor.K
end

section
/- slices.Clone over rows of numbers. -/
namespace Go.Proofs.YtaeabbackmnioaaDoor.K
open Go.RowKit Go.Shelf Go.Proofs.YtaeabbackmnioaaDoorW.PrintWords Go.Proofs.YtaeabbackmnioaaDoorW.PrintLast Go.Proofs.YtaeabbackmnioaaDoorW.PrintMore
set_option linter.unusedVariables false
set_option linter.unusedSimpArgs false

set_option maxHeartbeats 2000000 in
theorem Clone_calls (A : Option Addr) (c : Nat) (l : List Int) (w : World) (hr : Ki.C w A l.length l) (hc : l.length ≤ c) (hl : l.length ≤ 1000000000) :
  Calls Tryd.prog 73 #[.slice A l.length c] w fun e w' => ∃ v, e = .returned v ∧ Ki.R 2 w' w.heap.size (fun _ => True) v l ∧ Grew w w' := by
 have hq : ∀ (w : World) (a : Option Addr) (n c n' c' : Nat), (binOp .eql 22 (.slice a n c) (.slice none n' c')).run Tryd.prog w = .ok (.bool a.isNone) w := fun w a n c n' c' => Lib.run_eql_slice_nil w _ _ a n c n' c' Tryd.underlying22
 cases A with
 | none =>
  have h0 : l.length = 0 := by
   rcases Nat.eq_zero_or_pos l.length with h | h
   ·exact h
   ·obtain ⟨a, ha, _⟩ := hr.2.2 h
    cases ha
  have HL : Aside0 (l = []) := ⟨List.length_eq_zero_iff.1 h0⟩
  clear hr
  go_enter Tryd.func73, Tryd.ntmps73
  go_wp2_with fail
  go_ret
  exact ⟨_, rfl, by rw [HL.out]; exact Kd.R_nil _ _ _ _ _, Grew.refl w⟩
 | some ad =>
  have HR := Aside0.mk hr
  have HG : Aside0 (Grew w (w.alloc (.cells #[] 2))) := ⟨below_alloc (Grew.refl w) _⟩
  clear hr
  go_enter Tryd.func73, Tryd.ntmps73
  go_wp2_with (at_builtin; refine append_ints w.heap.size rfl (.tmp 5) (.tmp 6) rfl _ [] l (some ad) c rfl rfl (Ri.empty w _ (Nat.le_refl _)) (Kd.C_below HR.out HG.out) HG.out.size (by simp; omega) ?_; intro A3 c3 w3 hR3 hB3 hg3; have HR3 := Aside0.mk hR3; have HG3 : Aside0 (Below w.heap.size w w3) := ⟨Below.trans HG.out hB3⟩; clear hR3 hB3 hg3)
  go_ret
  refine ⟨_, rfl, ?_, HG3.out⟩
  have := HR3.out
  rw [List.length_nil, Nat.zero_add, List.nil_append] at this
  exact this

end Go.Proofs.YtaeabbackmnioaaDoor.K
end

section
/- The sets of some vertices that are as told, as a row. -/
namespace Go.Proofs.YtaeabbackmnioaaDoor.K
open Go.RowKit Go.Shelf Go.Proofs.YtaeabbackmnioaaDoorW.PrintWords Go.Proofs.YtaeabbackmnioaaDoorW.PrintLast Go.Proofs.YtaeabbackmnioaaDoorW.PrintMore
set_option linter.unusedVariables false
set_option linter.unusedSimpArgs false

/-- The numbers 1 to m. -/
def upTo (m : Nat) : List Int := (List.range m).map fun i : Nat => (i : Int) + 1
theorem upTo_succ (m : Nat) : upTo (m + 1) = upTo m ++ [(m : Int) + 1] := by simp [upTo, List.range_succ]
/-- The sets of n vertices that are as told. -/
def thoseL (n : Int) (p : Int → Bool) : List Int := (upTo (2 ^ n.toNat - 1)).filter p
theorem upTo_filter_length (p : Int → Bool) (m : Nat) : ((upTo m).filter p).length ≤ m := by
 have := List.length_filter_le p (upTo m)
 simpa [upTo] using this


end Go.Proofs.YtaeabbackmnioaaDoor.K
end

section
/- those: the complex of the sets of some vertices that are as told. -/
namespace Go.Proofs.YtaeabbackmnioaaDoor.K
open Go.RowKit Go.Shelf Go.Proofs.YtaeabbackmnioaaDoorW.PrintWords Go.Proofs.YtaeabbackmnioaaDoorW.PrintLast Go.Proofs.YtaeabbackmnioaaDoorW.PrintMore
set_option linter.unusedVariables false
set_option linter.unusedSimpArgs false

set_option maxRecDepth 100000 in
set_option maxHeartbeats 4000000 in
theorem those_calls (p : Int → Bool) (n : Int) (hn : 0 ≤ n ∧ n ≤ 6) (g : Nat) (first caps : Array Value) (w : World) (eg : EntersG g)
  (hp : ∀ x, 1 ≤ x → x ≤ fullOf n → Answers w g (first.push (I x) ++ caps) (.bool (p x))) :
  Calls Tryd.prog 46 #[I n, .func (.func g) first caps] w fun e w' => ∃ v, e = .returned (.agg #[I n, v]) ∧ Ki.R 2 w' w.heap.size (fun _ => True) v (thoseL n p) ∧ Grew w w' := by
 have HP := Aside0.mk hp
 clear hp
 obtain ⟨N, hN⟩ : ∃ N : Nat, N = 2 ^ n.toNat - 1 := ⟨_, rfl⟩
 have hpow := two_pow n.toNat 6 (by omega)
 have hF : fullOf n = (N : Int) := by
  unfold fullOf
  have : ((2 ^ n.toNat : Nat) : Int) = (2 : Int) ^ n.toNat := by simp
  have h1 : (1 : Nat) ≤ 2 ^ n.toNat := Nat.one_le_two_pow
  omega
 have hN64 : N ≤ 63 := by
  unfold fullOf at hF
  omega
 have hs : (2 : Int) ^ n.toNat = (N : Int) + 1 := by unfold fullOf at hF; omega
 have HN := Aside0.mk hN
 have HF := Aside0.mk hF
 have HS := Aside0.mk hs
 clear hN hF hpow hs
 go_enter Tryd.func46, Tryd.ntmps46
 go_wp2_with fail
 have HB0 : Aside0 (CB ((w.alloc (.cells #[I 0, .slice none 0 0] 24)).alloc (.cells #[I n, .slice none 0 0] 24)) w.heap.size 0 (.slice none 0 0)) := ⟨blk_alloc (blk_new w _) _⟩
 have HK0 : Aside0 (CB ((w.alloc (.cells #[I 0, .slice none 0 0] 24)).alloc (.cells #[I n, .slice none 0 0] 24)) (w.heap.size + 1) n (.slice none 0 0)) := ⟨by
  have := blk_new (w.alloc (.cells #[I 0, .slice none 0 0] 24)) (.cells #[I n, .slice none 0 0] 24)
  rwa [World.size_alloc] at this⟩
 go_loopg [6] N (fun gg s6 wr => ∃ m : Nat, m ≤ N ∧ N - m ≤ gg ∧ s6 = .int .i64 ((m : Int) + 1) ∧ Aside0 (CB wr w.heap.size 0 (.slice none 0 0)) ∧
  (∃ A c, Aside0 (CB wr (w.heap.size + 1) n (.slice A ((upTo m).filter p).length c)) ∧ Aside0 (Ki.R 2 wr w.heap.size (fun _ => True) (.slice A ((upTo m).filter p).length c) ((upTo m).filter p))) ∧ Aside0 (Grew w wr))
 case atStart => exact ⟨0, Nat.zero_le _, by omega, rfl, HB0, ⟨none, 0, HK0, ⟨Kd.R_nil _ _ _ _ _⟩⟩, ⟨below_alloc (below_alloc (Grew.refl w) _) _⟩⟩
 case round =>
  clear HB0 HK0
  obtain ⟨m, hm, hg, rfl, HB, ⟨A, c, HK, HR⟩, HG⟩ := hrel
  have hm63 : m ≤ 63 := by omega
  by_cases hlt : m < N
  ·have hcall := HP.out ((m : Int) + 1) (by omega) (by have := HF.out; omega) wr HG.out
   have hs := HS.out
   cases hq : p ((m : Int) + 1) with
   | false =>
    rw [hq] at hcall
    have HF2 : Aside0 ((upTo (m + 1)).filter p = (upTo m).filter p) := ⟨by rw [upTo_succ, List.filter_append]; simp [hq]⟩
    go_wp2_with fail
    refine hcall.mono ?_
    rintro e w2 ⟨rfl, hG2⟩
    clear hcall
    go_wp2_with fail
    go_roundg (N - (m + 1))
    case measure => omega
    case rel => exact ⟨m + 1, by omega, by omega, by go_num, ⟨blk_below HB.out hG2⟩, ⟨A, c, ⟨by rw [HF2.out]; exact blk_below HK.out hG2⟩, ⟨by rw [HF2.out]; exact Kd.R_below HR.out hG2⟩⟩, ⟨Grew.trans HG.out hG2⟩⟩
   | true =>
    rw [hq] at hcall
    have HF2 : Aside0 ((upTo (m + 1)).filter p = (upTo m).filter p ++ [(m : Int) + 1]) := ⟨by rw [upTo_succ, List.filter_append]; simp [hq]⟩
    have hln := upTo_filter_length p m
    go_wp2_with fail
    refine hcall.mono ?_
    rintro e w2 ⟨rfl, hG2⟩
    clear hcall
    have HB2 : Aside0 (CB w2 w.heap.size 0 (.slice none 0 0)) := ⟨blk_below HB.out hG2⟩
    have HK2 : Aside0 (CB w2 (w.heap.size + 1) n (.slice A ((upTo m).filter p).length c)) := ⟨blk_below HK.out hG2⟩
    have HR2 : Aside0 (Ki.R 2 w2 w.heap.size (fun _ => True) (.slice A ((upTo m).filter p).length c) ((upTo m).filter p)) := ⟨Kd.R_below HR.out hG2⟩
    have HG2 : Aside0 (Grew w w2) := ⟨Grew.trans HG.out hG2⟩
    clear hG2
    have k1 := HK2.out.c1
    generalize hL : (upTo m).filter p = L at HF2 HK2 HR2 k1 hln
    clear HK HR HB
    go_wp2_with (at_builtin; refine append_int w.heap.size rfl (.tmp 19) (.tmp 21) rfl _ L ((m : Int) + 1) rfl rfl HR2.out HG2.out.size (by omega) ?_; intro A3 c3 w3 hR3 hB3 hg3; have HK3 : Aside0 (CB w3 (w.heap.size + 1) n (.slice A L.length c)) := ⟨HK2.out.grown HR2.out hg3⟩; have HB3 : Aside0 (CB w3 w.heap.size 0 (.slice none 0 0)) := ⟨HB2.out.grown HR2.out hg3⟩; have k3 := HK3.out.c1; have f3 := blk_frozen HK3.out 1; have HR3 := Aside0.mk hR3; have HG3 : Aside0 (Below w.heap.size w w3) := ⟨Below.trans HG2.out hB3⟩; clear hR3 hB3 hg3)
    go_roundg (N - (m + 1))
    case measure => omega
    case rel =>
     refine ⟨m + 1, by omega, by omega, by go_num, ⟨HB3.out.far (by simp) _⟩, ⟨A3, c3, ⟨?_⟩, ⟨?_⟩⟩, ⟨below_set HG3.out (by omega)⟩⟩
     ·have := HK3.out.set1 (u := .slice A3 (L.length + 1) c3)
      rw [HF2.out, List.length_append]
      exact this
     ·have := Ri.setCB HR3.out HK3.out 1 (.slice A3 (L.length + 1) c3)
      rw [HF2.out, List.length_append]
      exact this
  ·have hs := HS.out
   have e : m = N := by omega
   have k0 := HK.out.c0
   have k1 := HK.out.c1
   have b0 := HB.out.c0
   have b1 := HB.out.c1
   have f0 := blk_frozen HB.out 0
   have f1 := blk_frozen HB.out 1
   have HN2 : Aside0 ((upTo m).filter p = thoseL n p) := ⟨by unfold thoseL; rw [e, ← HN.out]⟩
   clear e
   go_wp2_with fail
   refine bodyPost_ret (results_cell_row rfl _ _ w.heap.size 24 #[I n, .slice A ((upTo m).filter p).length c] (0, 0) _ rfl HB.out.set Tryd.underlying24 rfl (by kernel_rfl)) rfl ?_
   refine ⟨_, rfl, ?_, below_set (below_set HG.out (Nat.le_refl _)) (Nat.le_refl _)⟩
   rw [← HN2.out]
   exact Ri.setCB2 HR.out HB.out

end Go.Proofs.YtaeabbackmnioaaDoor.K
end

section
/- madeBy: the complex made by sets. -/
namespace Go.Proofs.YtaeabbackmnioaaDoor.K
open Go.RowKit Go.Shelf Go.Proofs.YtaeabbackmnioaaDoorW.PrintWords Go.Proofs.YtaeabbackmnioaaDoorW.PrintLast Go.Proofs.YtaeabbackmnioaaDoorW.PrintMore
set_option linter.unusedVariables false
set_option linter.unusedSimpArgs false

set_option maxHeartbeats 1000000 in
theorem madeBy11_calls (s f : Int) (B : Nat) (w : World) (hb : w.cell? ⟨B, 0, none⟩ = some (I f)) :
  Calls Tryd.prog 49 #[I s, .pointer (some ⟨B, 0, none⟩)] w fun e w' => e = .returned (.bool (inB f s)) ∧ Grew w w' := by
 generalize hr : inB f s = r
 have HR := Aside0.mk hr
 clear hr
 go_enter Tryd.func49, Tryd.ntmps49
 go_wp2_with fail
 refine (isIn_calls f s _).mono ?_
 rw [HR.out]
 rintro e w' ⟨rfl, hb'⟩
 go_wp2_with fail
 go_ret
 exact ⟨rfl, hb'⟩

set_option maxHeartbeats 1000000 in
theorem madeBy1_calls (f : Int) (B : Nat) (A : Option Addr) (c : Nat) (l : List Int) (w : World) (hb : w.cell? ⟨B, 0, none⟩ = some (.slice A l.length c)) (hr : Ki.C w A l.length l) (hc : l.length ≤ c) :
  Calls Tryd.prog 47 #[I f, .pointer (some ⟨B, 0, none⟩)] w fun e w' => e = .returned (.bool (l.any (inB f))) ∧ Grew w w' := by
 have hbl := World.block_lt_of_cell? w _ hb
 have hg : Grew w (w.alloc (.cells #[I f] 2)) := below_alloc (Below.refl _ _) _
 have H := Aside0.mk (ContainsFunc_int (inB f) A c l 49 #[] #[.pointer (some ⟨w.heap.size, 0, none⟩)] (w.alloc (.cells #[I f] 2))
  (Kd.C_below hr hg) hc hr.2.1 (enters_of Tryd.func49 (by kernel_rfl) rfl) (fun x hx W hW => madeBy11_calls x f w.heap.size W (blk_cell (blk_below (blk_new w _) hW) 0)))
 generalize l.any (inB f) = r at H ⊢
 clear hr hc
 go_enter Tryd.func47, Tryd.ntmps47
 go_wp2_with fail
 refine H.out.mono ?_
 rintro e w' ⟨rfl, hb'⟩
 have HG := Aside0.mk (Grew.trans hg hb')
 clear hb' hg
 go_wp2_with fail
 go_ret
 exact ⟨rfl, HG.out⟩

/-- The faces of the complex made by sets. -/
def madeL (n : Int) (sets : List Int) : List Int := thoseL n fun f => sets.any (inB f)

set_option maxHeartbeats 1000000 in
theorem madeBy_calls (n : Int) (hn : 0 ≤ n ∧ n ≤ 6) (A : Option Addr) (c : Nat) (l : List Int) (w : World) (hr : Ki.C w A l.length l) (hc : l.length ≤ c) :
  Calls Tryd.prog 22 #[I n, .slice A l.length c] w fun e w' => ∃ v, e = .returned (.agg #[I n, v]) ∧ Ki.R 2 w' w.heap.size (fun _ => True) v (madeL n l) ∧ Grew w w' := by
 have HR := Aside0.mk hr
 have HC := Aside0.mk hc
 clear hr hc
 go_enter Tryd.func22, Tryd.ntmps22
 go_wp2_with fail
 have hB : CB ((w.alloc (.cells #[.slice A l.length c] 22)).alloc (.cells #[I 0, .slice none 0 0] 24)) (w.heap.size + 1) 0 (.slice none 0 0) := by
  have := blk_new (w.alloc (.cells #[.slice A l.length c] 22)) (.cells #[I 0, .slice none 0 0] 24)
  rwa [World.size_alloc] at this
 have hg : Grew w ((w.alloc (.cells #[.slice A l.length c] 22)).alloc (.cells #[I 0, .slice none 0 0] 24)) := below_alloc (below_alloc (Grew.refl w) _) _
 refine (those_calls (fun f => l.any (inB f)) n hn 47 #[] #[.pointer (some ⟨w.heap.size, 0, none⟩)] _ (enters_of Tryd.func47 (by kernel_rfl) rfl)
  (fun x _ _ W hW => madeBy1_calls x w.heap.size A c l W (blk_cell (blk_below (blk_alloc (blk_new w _) _) hW) 0) (Kd.C_below HR.out (Grew.trans hg hW)) HC.out)).mono ?_
 rintro e w2 ⟨v, rfl, hR, hG⟩
 have hB2 : CB w2 (w.heap.size + 1) 0 (.slice none 0 0) := blk_below hB hG
 have HB2 := Aside0.mk hB2
 have HR2 := Aside0.mk hR
 have HG2 := Aside0.mk (Grew.trans hg hG)
 have k0 := hB2.c0
 have k1 := hB2.c1
 have f0 := blk_frozen hB2 0
 have f1 := blk_frozen hB2 1
 obtain ⟨A2, c2, e2⟩ := Kd.R_slice hR
 subst e2
 clear hB hg hB2 hR hG
 go_wp2_with fail
 refine bodyPost_ret (results_cell_row rfl _ _ (w.heap.size + 1) 24 #[I n, _] (0, 0) _ rfl HB2.out.set Tryd.underlying24 rfl (by kernel_rfl)) rfl ?_
 refine ⟨_, rfl, ?_, below_set (below_set HG2.out (by omega)) (by omega)⟩
 exact Kd.R_lower (Ri.setCB2 HR2.out HB2.out) (by simp; omega)

end Go.Proofs.YtaeabbackmnioaaDoor.K
end

section
/- slices.Clone over numbers; facets, FacetsOf. -/
namespace Go.Proofs.YtaeabbackmnioaaDoor.K
open Go.RowKit Go.Shelf Go.Proofs.YtaeabbackmnioaaDoorW.PrintWords Go.Proofs.YtaeabbackmnioaaDoorW.PrintLast Go.Proofs.YtaeabbackmnioaaDoorW.PrintMore
set_option linter.unusedVariables false
set_option linter.unusedSimpArgs false

set_option maxHeartbeats 1000000 in
theorem facets11_calls (x f : Int) (B : Nat) (w : World) (hb : w.cell? ⟨B, 0, none⟩ = some (I f)) :
  Calls Tryd.prog 75 #[I x, .pointer (some ⟨B, 0, none⟩)] w fun e w' => e = .returned (.bool (f != x && inB f x)) ∧ Grew w w' := by
 by_cases h : f = x
 ·have HV : Aside0 ((f != x && inB f x) = false) := ⟨by simp [h]⟩
  rw [HV.out]
  go_enter Tryd.func75, Tryd.ntmps75
  go_wp2_with fail
  go_ret
  exact ⟨rfl, Grew.refl w⟩
 ·have H := Aside0.mk (isIn_calls f x w)
  generalize inB f x = r at H ⊢
  go_enter Tryd.func75, Tryd.ntmps75
  go_wp2_with fail
  refine H.out.mono ?_
  rintro e w1 ⟨rfl, hG1⟩
  go_wp2_with fail
  go_ret
  exact ⟨rfl, hG1⟩

/-- Whether a face is in another one, and the facets. -/
def innerB (l : List Int) (f : Int) : Bool := l.any fun x => f != x && inB f x
def facetsL (l : List Int) : List Int := l.filter fun f => !innerB l f

set_option maxHeartbeats 1000000 in
theorem facets1_calls (f n : Int) (B : Nat) (A : Option Addr) (c : Nat) (l : List Int) (w : World) (hb : CB w B n (.slice A l.length c)) (hk : Kx w A c l) :
  Calls Tryd.prog 74 #[I f, .pointer (some ⟨B, 0, none⟩)] w fun e w' => e = .returned (.bool (innerB l f)) ∧ Grew w w' := by
 have hg : Grew w (w.alloc (.cells #[I f] 2)) := below_alloc (Below.refl _ _) _
 have H := Aside0.mk (ContainsFunc_int (fun x => f != x && inB f x) A c l 75 #[] #[.pointer (some ⟨w.heap.size, 0, none⟩)] (w.alloc (.cells #[I f] 2))
  (hk.later hg).r hk.c hk.r.2.1 (enters_of Tryd.func75 (by kernel_rfl) rfl) (fun x hx W hW => facets11_calls x f w.heap.size W (blk_cell (blk_below (blk_new w _) hW) 0)))
 have HI : Aside0 (innerB l f = l.any (fun x => f != x && inB f x)) := ⟨rfl⟩
 rw [HI.out]
 generalize l.any (fun x => f != x && inB f x) = r at H ⊢
 have k1 := (CB.later hb hg).c1
 clear hk HI
 go_enter Tryd.func74, Tryd.ntmps74
 go_wp2_with fail
 refine H.out.mono ?_
 rintro e w' ⟨rfl, hb'⟩
 have HG := Aside0.mk (Grew.trans hg hb')
 clear hb' hg
 go_wp2_with fail
 go_ret
 exact ⟨rfl, HG.out⟩

set_option maxHeartbeats 2000000 in
theorem facets_calls (n : Int) (A : Option Addr) (c : Nat) (l : List Int) (w : World) (hk : Kx w A c l) (hl : l.length ≤ 1000000000) :
  Calls Tryd.prog 51 #[.agg #[I n, .slice A l.length c]] w fun e w' => ∃ v, e = .returned v ∧ Ki.R 2 w' w.heap.size (fun _ => True) v (facetsL l) ∧ Grew w w' := by
 have hg : Grew w (w.alloc (.cells #[I n, .slice A l.length c] 24)) := below_alloc (Grew.refl w) _
 have hB : CB (w.alloc (.cells #[I n, .slice A l.length c] 24)) w.heap.size n (.slice A l.length c) := blk_new w _
 have H := Aside0.mk (Clone_calls A c l _ (hk.later hg).r hk.c hl)
 have k1 := hB.c1
 have HK := Aside0.mk hk
 have HG := Aside0.mk hg
 have HB := Aside0.mk hB
 clear hk hg hB
 go_enter Tryd.func51, Tryd.ntmps51
 go_wp2_with fail
 refine H.out.mono ?_
 rintro e w1 ⟨v, rfl, hR, hG1⟩
 have HR1 := Aside0.mk hR
 have HG1 := Aside0.mk hG1
 clear hR hG1 k1
 have hs := HG.out.size
 have hs2 : w.heap.size + 1 ≤ w1.heap.size := by have := HG1.out.size; rwa [World.size_alloc] at this
 have H2 := Aside0.mk (DeleteFunc_calls (innerB l) (w.heap.size + 1) v l 74 #[] #[.pointer (some ⟨w.heap.size, 0, none⟩)] w1 hs2 (by have := HR1.out; rwa [World.size_alloc] at this) hl (enters_of Tryd.func74 (by kernel_rfl) rfl)
  (fun x _ W hW => facets1_calls x n w.heap.size A c l W (by
   have h1 := CB.later HB.out HG1.out
   rw [CB, hW.block _ (Nat.lt_succ_self _)]
   exact h1) (HK.out.later (Below.trans (Grew.trans HG.out HG1.out) (hW.mono (Nat.le_succ _))))))
 go_wp2_with fail
 refine H2.out.mono ?_
 rintro e w2 ⟨v2, rfl, hR2, hG2⟩
 go_wp2_with fail
 go_ret
 exact ⟨_, rfl, Kd.R_lower hR2 (Nat.le_succ _), Below.trans (Grew.trans HG.out HG1.out) (hG2.mono (Nat.le_succ _))⟩

end Go.Proofs.YtaeabbackmnioaaDoor.K
end

section
/- Faces of a complex: numbers 1 to 63, ascending; rows of sets that are as told. -/
namespace Go.Proofs.YtaeabbackmnioaaDoor.K
open Go.RowKit Go.Shelf Go.Proofs.YtaeabbackmnioaaDoorW.PrintWords Go.Proofs.YtaeabbackmnioaaDoorW.PrintLast Go.Proofs.YtaeabbackmnioaaDoorW.PrintMore
set_option linter.unusedVariables false
set_option linter.unusedSimpArgs false

/-- An ascending row of numbers 1 to N has at most N of them. -/
theorem asc_get (l : List Int) (hs : l.Pairwise (· < ·)) (h1 : ∀ x ∈ l, 1 ≤ x) : ∀ i (h : i < l.length), (i : Int) + 1 ≤ l[i] := by
 intro i
 induction i with
 | zero => intro h; have := h1 _ (List.getElem_mem h); omega
 | succ i ih =>
  intro h
  have h2 := ih (by omega)
  have h3 := List.pairwise_iff_getElem.1 hs i (i + 1) (by omega) h (by omega)
  omega
theorem asc_length (l : List Int) (N : Nat) (hs : l.Pairwise (· < ·)) (h1 : ∀ x ∈ l, 1 ≤ x ∧ x ≤ (N : Int)) : l.length ≤ N := by
 rcases Nat.eq_zero_or_pos l.length with h | h
 ·omega
 ·have h2 := asc_get l hs (fun x hx => (h1 x hx).1) (l.length - 1) (by omega)
  have h3 := h1 _ (List.getElem_mem (show l.length - 1 < l.length by omega))
  omega
/-- What a complex's faces are: numbers 1 to 63, ascending. -/
theorem isC_faces {n : Int} {l : List Int} (h : isC n l = true) : (1 ≤ n ∧ n ≤ 6) ∧ l.Pairwise (· < ·) ∧ (∀ x ∈ l, 1 ≤ x ∧ x ≤ fullOf n ∧ x ≤ 63) ∧ l.length ≤ 63 := by
 have hn := isC_size h
 have hF := full_range n hn
 unfold isC at h
 simp only [Bool.and_eq_true, decide_eq_true_eq, rangeAsc] at h
 obtain ⟨_, hg, _⟩ := h
 have hr : ∀ x ∈ l, 1 ≤ x ∧ x ≤ fullOf n ∧ x ≤ 63 := by
  intro x hx
  obtain ⟨i, hi, rfl⟩ := List.mem_iff_getElem.1 hx
  have := hg i hi hi
  omega
 have hs : l.Pairwise (· < ·) := by
  rw [List.pairwise_iff_getElem]
  intro i j hi hj hij
  induction j with
  | zero => omega
  | succ j ih =>
   have h1 := (hg (j + 1) hj hj).2.2 (by omega)
   simp only [Nat.add_sub_cancel] at h1
   rcases Nat.lt_or_ge i j with h2 | h2
   ·have := ih (by omega) h2
    omega
   ·obtain rfl : i = j := by omega
    exact h1
 exact ⟨hn, hs, hr, asc_length l 63 hs (fun x hx => ⟨(hr x hx).1, (hr x hx).2.2⟩)⟩

theorem upTo_asc (m : Nat) : (upTo m).Pairwise (· < ·) := by
 unfold upTo
 rw [List.pairwise_map]
 refine List.Pairwise.imp ?_ List.pairwise_lt_range
 intro a b h
 omega
theorem mem_upTo (m : Nat) (x : Int) : x ∈ upTo m ↔ 1 ≤ x ∧ x ≤ m := by
 unfold upTo
 rw [List.mem_map]
 constructor
 ·rintro ⟨i, hi, rfl⟩
  rw [List.mem_range] at hi
  omega
 ·rintro ⟨h1, h2⟩
  exact ⟨(x - 1).toNat, by rw [List.mem_range]; omega, by omega⟩
theorem those_asc (n : Int) (p : Int → Bool) : (thoseL n p).Pairwise (· < ·) := (upTo_asc _).filter _
theorem mem_those (n : Int) (p : Int → Bool) (x : Int) : x ∈ thoseL n p ↔ (1 ≤ x ∧ x ≤ fullOf n) ∧ p x = true := by
 unfold thoseL
 rw [List.mem_filter, mem_upTo, full_nat]
end Go.Proofs.YtaeabbackmnioaaDoor.K
end

section
/- Sets of vertices as bits; a set in a face is a face. -/
namespace Go.Proofs.YtaeabbackmnioaaDoor.K
open Go.RowKit Go.Shelf Go.Proofs.YtaeabbackmnioaaDoor.Q Go.Proofs.YtaeabbackmnioaaDoorW.PrintWords Go.Proofs.YtaeabbackmnioaaDoorW.PrintLast Go.Proofs.YtaeabbackmnioaaDoorW.PrintMore
set_option linter.unusedVariables false
set_option linter.unusedSimpArgs false

theorem up_64 : ∀ f g : Fin 64, f.val ≠ 0 → f ≠ g → inB (f.val : Int) (g.val : Int) = true → onesI (f.val : Int) < onesI (g.val : Int) ∧ (bords (g.val : Int)).any (fun h => inB (f.val : Int) h && decide (onesI h + 1 = onesI (g.val : Int) ∧ (h = (f.val : Int) ∨ onesI (f.val : Int) < onesI h))) = true := by decide +kernel
theorem up_is (f g : Int) (hf : 1 ≤ f ∧ f ≤ 63) (hg : 0 ≤ g ∧ g ≤ 63) (hne : f ≠ g) (hi : inB f g = true) : onesI f < onesI g ∧ ∃ h ∈ bords g, inB f h = true ∧ onesI h + 1 = onesI g ∧ (h = f ∨ onesI f < onesI h) := by
 obtain ⟨m, rfl⟩ := Int.eq_ofNat_of_zero_le (show 0 ≤ f by omega)
 obtain ⟨k, rfl⟩ := Int.eq_ofNat_of_zero_le hg.1
 have := up_64 ⟨m, by omega⟩ ⟨k, by omega⟩ (by show m ≠ 0; omega) (fun e => hne (by injection e with e; rw [e])) hi
 refine ⟨this.1, ?_⟩
 obtain ⟨h, h1, h2⟩ := List.any_eq_true.1 this.2
 simp only [Bool.and_eq_true, decide_eq_true_eq] at h2
 exact ⟨h, h1, h2.1, h2.2.1, h2.2.2⟩
theorem closed_mem {n : Int} {l : List Int} (hi : isC n l = true) (g : Int) (hg : g ∈ l) (h : Int) (hh : h ∈ bords g) : h ∈ l := by
 obtain ⟨hn, hs, hr, h63⟩ := isC_faces hi
 have h1 := ((isC_iff n l).1 hi).2.2 g hg
 unfold closedAt at h1
 rw [List.all_eq_true] at h1
 have h2 := h1 h hh
 rw [has_asc l h (by omega) hs] at h2
 exact of_decide_eq_true h2
/-- The vertex v is in f. -/
def bt (f : Int) (v : Nat) : Bool := f.toNat.testBit v
theorem inB_bt_64 : ∀ a b : Fin 64, inB (a.val : Int) (b.val : Int) = (List.range 6).all (fun v => !(bt (a.val : Int) v) || bt (b.val : Int) v) := by decide +kernel
theorem inB_iff (a b : Int) (ha : 0 ≤ a ∧ a ≤ 63) (hb : 0 ≤ b ∧ b ≤ 63) : inB a b = true ↔ ∀ v, v < 6 → bt a v = true → bt b v = true := by
 rw [small2 (P := fun a b => inB a b = (List.range 6).all (fun v => !(bt a v) || bt b v)) inB_bt_64 a b ha hb, List.all_eq_true]
 constructor
 ·intro h v hv h1
  have := h v (List.mem_range.2 hv)
  simpa [h1] using this
 ·intro h v hv
  have := h v (List.mem_range.1 hv)
  cases h1 : bt a v
  ·rfl
  ·simp [this h1]
theorem inB_trans (a b c : Int) (ha : 0 ≤ a ∧ a ≤ 63) (hb : 0 ≤ b ∧ b ≤ 63) (hc : 0 ≤ c ∧ c ≤ 63) (h1 : inB a b = true) (h2 : inB b c = true) : inB a c = true :=
 (inB_iff a c ha hc).2 fun v hv h => (inB_iff b c hb hc).1 h2 v hv ((inB_iff a b ha hb).1 h1 v hv h)
end Go.Proofs.YtaeabbackmnioaaDoor.K
end
