/- The row of the law FnExactFlatFunction: for every input the law answers true, and the arguments read as before. No conditions. -/
import Derived.Test.YtniikppojffiaaaGreatJFlt4
import Derived.Below
import Derived.Deep.Draws
import Derived.Deep.AppendLies
import Derived.Maps.AppendAt
import Derived.OwnWalk
import Derived.Laws.BytesArg
import Derived.Laws.MakeOwn
import Derived.Laws.OwnMore
import Derived.Deep.OwnRows
import Derived.Tactics
import Derived.Lib.ConvBytes
import Derived.Laws.Slices
import Derived.WalkKit
import Derived.KernelRfl
import Derived.RowKit3
import Derived.Deep.LoopGhost
import Derived.Deep.QuietTactic
import Derived.BigQuiet
import Derived.WideLaws
import Derived.Deep.DeepCutAuto
import Derived.Deep.CutBlock
import Derived.Deep.RegionHeld3
import Derived.Laws.Rows
import Derived.Lib.AppendStr
import Derived.ArgAppend
import Derived.Laws.IdiomCopy
import Derived.RowKit
import Derived.OrdersHeld
import Derived.Laws.BitsLemmas
import Derived.Laws.StructEq
import Derived.Test.YtniikppojffiaaaGreatProg
import Derived.Shelf.Abstract
import Derived.Lib.SliceRun
import Derived.RangeFuncBox
import Derived.RangeFuncLeaves
import Derived.OwnWalkIn
import Derived.TacticsInMore
import Derived.LoopNIn
import Derived.LoopIn
import Derived.LoopN
import Derived.Maps.OwnSet
import Derived.Lib.SlKeysI
import Derived.Test.YtniikppojffiaaaGreatChecked
import Derived.Shelf.SlSortCmp.NoneTotal
import Derived.Shelf.SlicesE.Delete
import Derived.Lib.OwnBridge
import Derived.Lib.SortBridge
import Derived.Lib.Small
import Derived.Shelf.Spec.SlicesGrow
import Derived.JoinedOf
import Derived.Test.YtniikppojffiaaaGreatRows
import Derived.ProofKit
import Derived.OpenShut
import Derived.ShutString
import Derived.ChangeOld
import Derived.SizedLaws
import Derived.Lib.SmallJoins
import Derived.Deep.Slices
section
/- Written by a program of this session (myprint.py over the kit's print). -/
namespace Go.Proofs.YtniikppojffiaaaGreat.Q
open Go.RowKit Go.Proofs.YtniikppojffiaaaGreatW.PrintWords Go.Proofs.YtniikppojffiaaaGreatW.PrintLast Go.Proofs.YtniikppojffiaaaGreatW.PrintMore
attribute [local go_sem] max2_int min2_int max_two min_two max_three min_three max_four min_four   -- for this text's walks alone
set_option linter.unusedVariables false
set_option linter.unusedSimpArgs false

/-! ### spec_l02Order: function 22 -/
mutual
def spec_l02Order.l0 : Nat → List (S46) → List Bool → List Int → Bool → Int → List Int → Option (List Int × Bool)
 | 0, _, _, _, _, _, _ => none
 | k + 1, x1, x6, x7, x8, x152000, x152001 => if x8 = true then (spec_l02Order.l1 k x1 x6 x7 false 0 x152000 x152001) else (some (x7, ((x7.length : Int) == (x152001.length : Int))))
def spec_l02Order.l1 : Nat → List (S46) → List Bool → List Int → Bool → Int → Int → List Int → Option (List Int × Bool)
 | 0, _, _, _, _, _, _, _ => none
 | k + 1, x1, x6, x7, x8, x9, x152000, x152001 => if x9 < (x152001.length : Int) then (spec_l02Order.j2 k x1 x6 x7 x8 x9 (!x8) x152000 x152001) else (spec_l02Order.j2 k x1 x6 x7 x8 x9 false x152000 x152001)
def spec_l02Order.j2 : Nat → List (S46) → List Bool → List Int → Bool → Int → Bool → Int → List Int → Option (List Int × Bool)
 | 0, _, _, _, _, _, _, _, _ => none
 | k + 1, x1, x6, x7, x8, x9, x30, x152000, x152001 => if x30 = true then (if 0 ≤ x9 then (if x9 < (x152001.length : Int) then ((spec_l02High.f k x1 (rd x152001 x9)).bind fun t159 => ((some (([rd x152001 x9] : List Int) : List Int)).bind fun y160 => (if t159 = 0 then (spec_l02Order.j3 k x1 x6 x7 x8 x9 (rd x152001 x9) y160 x152000 x152001) else (if y160.length < 17592186044416 then (spec_l02Order.j3 k x1 x6 x7 x8 x9 (rd x152001 x9) (y160 ++ [t159]) x152000 x152001) else (none))))) else (none)) else (none)) else (spec_l02Order.l0 k x1 x6 x7 x8 x152000 x152001)
def spec_l02Order.j3 : Nat → List (S46) → List Bool → List Int → Bool → Int → Int → List Int → Int → List Int → Option (List Int × Bool)
 | 0, _, _, _, _, _, _, _, _, _ => none
 | k + 1, x1, x6, x7, x8, x9, x10, x12, x152000, x152001 => if 0 ≤ x10 then (if x10 < (x6.length : Int) then (spec_l02Order.l2 k x1 x6 x7 x8 x9 x10 x12 (!(rdOf false x6 x10)) 0 x152000 x152001) else (none)) else (none)
def spec_l02Order.l2 : Nat → List (S46) → List Bool → List Int → Bool → Int → Int → List Int → Bool → Int → Int → List Int → Option (List Int × Bool)
 | 0, _, _, _, _, _, _, _, _, _, _, _ => none
 | k + 1, x1, x6, x7, x8, x9, x10, x12, x13, x14, x152000, x152001 => if x14 < (x1.length : Int) then (if x13 = true then (if 0 ≤ x14 then (spec_l02Order.l2 k x1 x6 x7 x8 x9 x10 x12 (((rd_T46 x1 x14).f1) != x10) (wrap64 (x14 + 1)) x152000 x152001) else (none)) else (spec_l02Order.l2 k x1 x6 x7 x8 x9 x10 x12 false (wrap64 (x14 + 1)) x152000 x152001)) else (spec_l02Order.l3 k x1 x6 x7 x8 x9 x10 x12 x13 0 x152000 x152001)
def spec_l02Order.l3 : Nat → List (S46) → List Bool → List Int → Bool → Int → Int → List Int → Bool → Int → Int → List Int → Option (List Int × Bool)
 | 0, _, _, _, _, _, _, _, _, _, _, _ => none
 | k + 1, x1, x6, x7, x8, x9, x10, x12, x13, x15, x152000, x152001 => if x15 < (x12.length : Int) then (if 0 ≤ x15 then ((spec_l01Below.f k (rd x12 x15)).bind fun t169 => (spec_l02Order.l4 k x1 x6 x7 x8 x9 x10 x12 x13 x15 t169 0 x152000 x152001)) else (none)) else (if x13 = true then (spec_l02Order.l5 k x1 x6 x7 x9 x12 0 x152000 x152001) else (spec_l02Order.l1 k x1 x6 x7 x8 (wrap64 (x9 + 1)) x152000 x152001))
def spec_l02Order.l4 : Nat → List (S46) → List Bool → List Int → Bool → Int → Int → List Int → Bool → Int → List Int → Int → Int → List Int → Option (List Int × Bool)
 | 0, _, _, _, _, _, _, _, _, _, _, _, _, _ => none
 | k + 1, x1, x6, x7, x8, x9, x10, x12, x13, x15, x16, x17, x152000, x152001 => if x17 < (x16.length : Int) then (if x13 = true then (if 0 ≤ x17 then (if 0 ≤ (rd x16 x17) then (if (rd x16 x17) < (x6.length : Int) then (if rdOf false x6 (rd x16 x17) = true then (spec_l02Order.l4 k x1 x6 x7 x8 x9 x10 x12 true x15 x16 (wrap64 (x17 + 1)) x152000 x152001) else (spec_l02Order.l4 k x1 x6 x7 x8 x9 x10 x12 ((rd x16 x17) == x10) x15 x16 (wrap64 (x17 + 1)) x152000 x152001)) else (none)) else (none)) else (none)) else (spec_l02Order.l4 k x1 x6 x7 x8 x9 x10 x12 false x15 x16 (wrap64 (x17 + 1)) x152000 x152001)) else (spec_l02Order.l3 k x1 x6 x7 x8 x9 x10 x12 x13 (wrap64 (x15 + 1)) x152000 x152001)
def spec_l02Order.l5 : Nat → List (S46) → List Bool → List Int → Int → List Int → Int → Int → List Int → Option (List Int × Bool)
 | 0, _, _, _, _, _, _, _, _ => none
 | k + 1, x1, x6, x7, x9, x12, x18, x152000, x152001 => if x18 < (x12.length : Int) then (if 0 ≤ x18 then (if 0 ≤ (rd x12 x18) then (if (rd x12 x18) < (x6.length : Int) then (spec_l02Order.l5 k x1 (x6.set ((rd x12 x18) : Int).toNat true) x7 x9 x12 (wrap64 (x18 + 1)) x152000 x152001) else (none)) else (none)) else (none)) else (if x7.length + x12.length < 17592186044416 then (spec_l02Order.l1 k x1 x6 (x7 ++ x12) true (wrap64 (x9 + 1)) x152000 x152001) else (none))
end
def spec_l02Order.f (k : Nat) (a0_0 : Int) (l0_1 : List Int) (l1 : List (S46)) : Option (List Int × Bool) := if 64 ≤ 281474976710656 then (spec_l02Order.l0 k l1 (List.replicate 64 false) (([] : List Int)) true a0_0 l0_1) else (none)
theorem spec_l02Order.mono_l : ∀ k, (∀ y0 y1 y2 y3 y4 y5, LeO (spec_l02Order.l0 k y0 y1 y2 y3 y4 y5) (spec_l02Order.l0 (k + 1) y0 y1 y2 y3 y4 y5)) ∧ (∀ y0 y1 y2 y3 y4 y5 y6, LeO (spec_l02Order.l1 k y0 y1 y2 y3 y4 y5 y6) (spec_l02Order.l1 (k + 1) y0 y1 y2 y3 y4 y5 y6)) ∧ (∀ y0 y1 y2 y3 y4 y5 y6 y7, LeO (spec_l02Order.j2 k y0 y1 y2 y3 y4 y5 y6 y7) (spec_l02Order.j2 (k + 1) y0 y1 y2 y3 y4 y5 y6 y7)) ∧ (∀ y0 y1 y2 y3 y4 y5 y6 y7 y8, LeO (spec_l02Order.j3 k y0 y1 y2 y3 y4 y5 y6 y7 y8) (spec_l02Order.j3 (k + 1) y0 y1 y2 y3 y4 y5 y6 y7 y8)) ∧ (∀ y0 y1 y2 y3 y4 y5 y6 y7 y8 y9 y10, LeO (spec_l02Order.l2 k y0 y1 y2 y3 y4 y5 y6 y7 y8 y9 y10) (spec_l02Order.l2 (k + 1) y0 y1 y2 y3 y4 y5 y6 y7 y8 y9 y10)) ∧ (∀ y0 y1 y2 y3 y4 y5 y6 y7 y8 y9 y10, LeO (spec_l02Order.l3 k y0 y1 y2 y3 y4 y5 y6 y7 y8 y9 y10) (spec_l02Order.l3 (k + 1) y0 y1 y2 y3 y4 y5 y6 y7 y8 y9 y10)) ∧ (∀ y0 y1 y2 y3 y4 y5 y6 y7 y8 y9 y10 y11 y12, LeO (spec_l02Order.l4 k y0 y1 y2 y3 y4 y5 y6 y7 y8 y9 y10 y11 y12) (spec_l02Order.l4 (k + 1) y0 y1 y2 y3 y4 y5 y6 y7 y8 y9 y10 y11 y12)) ∧ (∀ y0 y1 y2 y3 y4 y5 y6 y7, LeO (spec_l02Order.l5 k y0 y1 y2 y3 y4 y5 y6 y7) (spec_l02Order.l5 (k + 1) y0 y1 y2 y3 y4 y5 y6 y7))
 | 0 => ⟨fun _ _ _ _ _ _ r h => by simp [spec_l02Order.l0] at h, fun _ _ _ _ _ _ _ r h => by simp [spec_l02Order.l1] at h, fun _ _ _ _ _ _ _ _ r h => by simp [spec_l02Order.j2] at h, fun _ _ _ _ _ _ _ _ _ r h => by simp [spec_l02Order.j3] at h, fun _ _ _ _ _ _ _ _ _ _ _ r h => by simp [spec_l02Order.l2] at h, fun _ _ _ _ _ _ _ _ _ _ _ r h => by simp [spec_l02Order.l3] at h, fun _ _ _ _ _ _ _ _ _ _ _ _ _ r h => by simp [spec_l02Order.l4] at h, fun _ _ _ _ _ _ _ _ r h => by simp [spec_l02Order.l5] at h⟩
 | k + 1 => by
  obtain ⟨ih0, ih1, ih2, ih3, ih4, ih5, ih6, ih7⟩ := spec_l02Order.mono_l k
  refine ⟨?_, ?_, ?_, ?_, ?_, ?_, ?_, ?_⟩
  ·intro y0 y1 y2 y3 y4 y5
   unfold spec_l02Order.l0
   repeat' first
   | (with_reducible exact ih0 _ _ _ _ _ _)
   | (with_reducible exact ih1 _ _ _ _ _ _ _)
   | (with_reducible exact ih2 _ _ _ _ _ _ _ _)
   | (with_reducible exact ih3 _ _ _ _ _ _ _ _ _)
   | (with_reducible exact ih4 _ _ _ _ _ _ _ _ _ _ _)
   | (with_reducible exact ih5 _ _ _ _ _ _ _ _ _ _ _)
   | (with_reducible exact ih6 _ _ _ _ _ _ _ _ _ _ _ _ _)
   | (with_reducible exact ih7 _ _ _ _ _ _ _ _)
   | (with_reducible exact spec_l01Below.mono _ _)
   | (with_reducible exact spec_l02High.mono _ _ _)
   | (with_reducible exact LeO.refl _)
   | (with_reducible exact LeO.none _)
   | (with_reducible refine LeO.ite ?_ ?_)
   | (with_reducible refine LeO.bind ?_ (fun _ => ?_))
   | exact ih0 _ _ _ _ _ _
   | exact ih1 _ _ _ _ _ _ _
   | exact ih2 _ _ _ _ _ _ _ _
   | exact ih3 _ _ _ _ _ _ _ _ _
   | exact ih4 _ _ _ _ _ _ _ _ _ _ _
   | exact ih5 _ _ _ _ _ _ _ _ _ _ _
   | exact ih6 _ _ _ _ _ _ _ _ _ _ _ _ _
   | exact ih7 _ _ _ _ _ _ _ _
   | exact spec_l01Below.mono _ _
   | exact spec_l02High.mono _ _ _
   | exact LeO.none _
   | refine LeO.ite ?_ ?_
   | refine LeO.bind ?_ (fun _ => ?_)
  ·intro y0 y1 y2 y3 y4 y5 y6
   unfold spec_l02Order.l1
   repeat' first
   | (with_reducible exact ih0 _ _ _ _ _ _)
   | (with_reducible exact ih1 _ _ _ _ _ _ _)
   | (with_reducible exact ih2 _ _ _ _ _ _ _ _)
   | (with_reducible exact ih3 _ _ _ _ _ _ _ _ _)
   | (with_reducible exact ih4 _ _ _ _ _ _ _ _ _ _ _)
   | (with_reducible exact ih5 _ _ _ _ _ _ _ _ _ _ _)
   | (with_reducible exact ih6 _ _ _ _ _ _ _ _ _ _ _ _ _)
   | (with_reducible exact ih7 _ _ _ _ _ _ _ _)
   | (with_reducible exact spec_l01Below.mono _ _)
   | (with_reducible exact spec_l02High.mono _ _ _)
   | (with_reducible exact LeO.refl _)
   | (with_reducible exact LeO.none _)
   | (with_reducible refine LeO.ite ?_ ?_)
   | (with_reducible refine LeO.bind ?_ (fun _ => ?_))
   | exact ih0 _ _ _ _ _ _
   | exact ih1 _ _ _ _ _ _ _
   | exact ih2 _ _ _ _ _ _ _ _
   | exact ih3 _ _ _ _ _ _ _ _ _
   | exact ih4 _ _ _ _ _ _ _ _ _ _ _
   | exact ih5 _ _ _ _ _ _ _ _ _ _ _
   | exact ih6 _ _ _ _ _ _ _ _ _ _ _ _ _
   | exact ih7 _ _ _ _ _ _ _ _
   | exact spec_l01Below.mono _ _
   | exact spec_l02High.mono _ _ _
   | exact LeO.none _
   | refine LeO.ite ?_ ?_
   | refine LeO.bind ?_ (fun _ => ?_)
  ·intro y0 y1 y2 y3 y4 y5 y6 y7
   unfold spec_l02Order.j2
   repeat' first
   | (with_reducible exact ih0 _ _ _ _ _ _)
   | (with_reducible exact ih1 _ _ _ _ _ _ _)
   | (with_reducible exact ih2 _ _ _ _ _ _ _ _)
   | (with_reducible exact ih3 _ _ _ _ _ _ _ _ _)
   | (with_reducible exact ih4 _ _ _ _ _ _ _ _ _ _ _)
   | (with_reducible exact ih5 _ _ _ _ _ _ _ _ _ _ _)
   | (with_reducible exact ih6 _ _ _ _ _ _ _ _ _ _ _ _ _)
   | (with_reducible exact ih7 _ _ _ _ _ _ _ _)
   | (with_reducible exact spec_l01Below.mono _ _)
   | (with_reducible exact spec_l02High.mono _ _ _)
   | (with_reducible exact LeO.refl _)
   | (with_reducible exact LeO.none _)
   | (with_reducible refine LeO.ite ?_ ?_)
   | (with_reducible refine LeO.bind ?_ (fun _ => ?_))
   | exact ih0 _ _ _ _ _ _
   | exact ih1 _ _ _ _ _ _ _
   | exact ih2 _ _ _ _ _ _ _ _
   | exact ih3 _ _ _ _ _ _ _ _ _
   | exact ih4 _ _ _ _ _ _ _ _ _ _ _
   | exact ih5 _ _ _ _ _ _ _ _ _ _ _
   | exact ih6 _ _ _ _ _ _ _ _ _ _ _ _ _
   | exact ih7 _ _ _ _ _ _ _ _
   | exact spec_l01Below.mono _ _
   | exact spec_l02High.mono _ _ _
   | exact LeO.none _
   | refine LeO.ite ?_ ?_
   | refine LeO.bind ?_ (fun _ => ?_)
  ·intro y0 y1 y2 y3 y4 y5 y6 y7 y8
   unfold spec_l02Order.j3
   repeat' first
   | (with_reducible exact ih0 _ _ _ _ _ _)
   | (with_reducible exact ih1 _ _ _ _ _ _ _)
   | (with_reducible exact ih2 _ _ _ _ _ _ _ _)
   | (with_reducible exact ih3 _ _ _ _ _ _ _ _ _)
   | (with_reducible exact ih4 _ _ _ _ _ _ _ _ _ _ _)
   | (with_reducible exact ih5 _ _ _ _ _ _ _ _ _ _ _)
   | (with_reducible exact ih6 _ _ _ _ _ _ _ _ _ _ _ _ _)
   | (with_reducible exact ih7 _ _ _ _ _ _ _ _)
   | (with_reducible exact spec_l01Below.mono _ _)
   | (with_reducible exact spec_l02High.mono _ _ _)
   | (with_reducible exact LeO.refl _)
   | (with_reducible exact LeO.none _)
   | (with_reducible refine LeO.ite ?_ ?_)
   | (with_reducible refine LeO.bind ?_ (fun _ => ?_))
   | exact ih0 _ _ _ _ _ _
   | exact ih1 _ _ _ _ _ _ _
   | exact ih2 _ _ _ _ _ _ _ _
   | exact ih3 _ _ _ _ _ _ _ _ _
   | exact ih4 _ _ _ _ _ _ _ _ _ _ _
   | exact ih5 _ _ _ _ _ _ _ _ _ _ _
   | exact ih6 _ _ _ _ _ _ _ _ _ _ _ _ _
   | exact ih7 _ _ _ _ _ _ _ _
   | exact spec_l01Below.mono _ _
   | exact spec_l02High.mono _ _ _
   | exact LeO.none _
   | refine LeO.ite ?_ ?_
   | refine LeO.bind ?_ (fun _ => ?_)
  ·intro y0 y1 y2 y3 y4 y5 y6 y7 y8 y9 y10
   unfold spec_l02Order.l2
   repeat' first
   | (with_reducible exact ih0 _ _ _ _ _ _)
   | (with_reducible exact ih1 _ _ _ _ _ _ _)
   | (with_reducible exact ih2 _ _ _ _ _ _ _ _)
   | (with_reducible exact ih3 _ _ _ _ _ _ _ _ _)
   | (with_reducible exact ih4 _ _ _ _ _ _ _ _ _ _ _)
   | (with_reducible exact ih5 _ _ _ _ _ _ _ _ _ _ _)
   | (with_reducible exact ih6 _ _ _ _ _ _ _ _ _ _ _ _ _)
   | (with_reducible exact ih7 _ _ _ _ _ _ _ _)
   | (with_reducible exact spec_l01Below.mono _ _)
   | (with_reducible exact spec_l02High.mono _ _ _)
   | (with_reducible exact LeO.refl _)
   | (with_reducible exact LeO.none _)
   | (with_reducible refine LeO.ite ?_ ?_)
   | (with_reducible refine LeO.bind ?_ (fun _ => ?_))
   | exact ih0 _ _ _ _ _ _
   | exact ih1 _ _ _ _ _ _ _
   | exact ih2 _ _ _ _ _ _ _ _
   | exact ih3 _ _ _ _ _ _ _ _ _
   | exact ih4 _ _ _ _ _ _ _ _ _ _ _
   | exact ih5 _ _ _ _ _ _ _ _ _ _ _
   | exact ih6 _ _ _ _ _ _ _ _ _ _ _ _ _
   | exact ih7 _ _ _ _ _ _ _ _
   | exact spec_l01Below.mono _ _
   | exact spec_l02High.mono _ _ _
   | exact LeO.none _
   | refine LeO.ite ?_ ?_
   | refine LeO.bind ?_ (fun _ => ?_)
  ·intro y0 y1 y2 y3 y4 y5 y6 y7 y8 y9 y10
   unfold spec_l02Order.l3
   repeat' first
   | (with_reducible exact ih0 _ _ _ _ _ _)
   | (with_reducible exact ih1 _ _ _ _ _ _ _)
   | (with_reducible exact ih2 _ _ _ _ _ _ _ _)
   | (with_reducible exact ih3 _ _ _ _ _ _ _ _ _)
   | (with_reducible exact ih4 _ _ _ _ _ _ _ _ _ _ _)
   | (with_reducible exact ih5 _ _ _ _ _ _ _ _ _ _ _)
   | (with_reducible exact ih6 _ _ _ _ _ _ _ _ _ _ _ _ _)
   | (with_reducible exact ih7 _ _ _ _ _ _ _ _)
   | (with_reducible exact spec_l01Below.mono _ _)
   | (with_reducible exact spec_l02High.mono _ _ _)
   | (with_reducible exact LeO.refl _)
   | (with_reducible exact LeO.none _)
   | (with_reducible refine LeO.ite ?_ ?_)
   | (with_reducible refine LeO.bind ?_ (fun _ => ?_))
   | exact ih0 _ _ _ _ _ _
   | exact ih1 _ _ _ _ _ _ _
   | exact ih2 _ _ _ _ _ _ _ _
   | exact ih3 _ _ _ _ _ _ _ _ _
   | exact ih4 _ _ _ _ _ _ _ _ _ _ _
   | exact ih5 _ _ _ _ _ _ _ _ _ _ _
   | exact ih6 _ _ _ _ _ _ _ _ _ _ _ _ _
   | exact ih7 _ _ _ _ _ _ _ _
   | exact spec_l01Below.mono _ _
   | exact spec_l02High.mono _ _ _
   | exact LeO.none _
   | refine LeO.ite ?_ ?_
   | refine LeO.bind ?_ (fun _ => ?_)
  ·intro y0 y1 y2 y3 y4 y5 y6 y7 y8 y9 y10 y11 y12
   unfold spec_l02Order.l4
   repeat' first
   | (with_reducible exact ih0 _ _ _ _ _ _)
   | (with_reducible exact ih1 _ _ _ _ _ _ _)
   | (with_reducible exact ih2 _ _ _ _ _ _ _ _)
   | (with_reducible exact ih3 _ _ _ _ _ _ _ _ _)
   | (with_reducible exact ih4 _ _ _ _ _ _ _ _ _ _ _)
   | (with_reducible exact ih5 _ _ _ _ _ _ _ _ _ _ _)
   | (with_reducible exact ih6 _ _ _ _ _ _ _ _ _ _ _ _ _)
   | (with_reducible exact ih7 _ _ _ _ _ _ _ _)
   | (with_reducible exact spec_l01Below.mono _ _)
   | (with_reducible exact spec_l02High.mono _ _ _)
   | (with_reducible exact LeO.refl _)
   | (with_reducible exact LeO.none _)
   | (with_reducible refine LeO.ite ?_ ?_)
   | (with_reducible refine LeO.bind ?_ (fun _ => ?_))
   | exact ih0 _ _ _ _ _ _
   | exact ih1 _ _ _ _ _ _ _
   | exact ih2 _ _ _ _ _ _ _ _
   | exact ih3 _ _ _ _ _ _ _ _ _
   | exact ih4 _ _ _ _ _ _ _ _ _ _ _
   | exact ih5 _ _ _ _ _ _ _ _ _ _ _
   | exact ih6 _ _ _ _ _ _ _ _ _ _ _ _ _
   | exact ih7 _ _ _ _ _ _ _ _
   | exact spec_l01Below.mono _ _
   | exact spec_l02High.mono _ _ _
   | exact LeO.none _
   | refine LeO.ite ?_ ?_
   | refine LeO.bind ?_ (fun _ => ?_)
  ·intro y0 y1 y2 y3 y4 y5 y6 y7
   unfold spec_l02Order.l5
   repeat' first
   | (with_reducible exact ih0 _ _ _ _ _ _)
   | (with_reducible exact ih1 _ _ _ _ _ _ _)
   | (with_reducible exact ih2 _ _ _ _ _ _ _ _)
   | (with_reducible exact ih3 _ _ _ _ _ _ _ _ _)
   | (with_reducible exact ih4 _ _ _ _ _ _ _ _ _ _ _)
   | (with_reducible exact ih5 _ _ _ _ _ _ _ _ _ _ _)
   | (with_reducible exact ih6 _ _ _ _ _ _ _ _ _ _ _ _ _)
   | (with_reducible exact ih7 _ _ _ _ _ _ _ _)
   | (with_reducible exact spec_l01Below.mono _ _)
   | (with_reducible exact spec_l02High.mono _ _ _)
   | (with_reducible exact LeO.refl _)
   | (with_reducible exact LeO.none _)
   | (with_reducible refine LeO.ite ?_ ?_)
   | (with_reducible refine LeO.bind ?_ (fun _ => ?_))
   | exact ih0 _ _ _ _ _ _
   | exact ih1 _ _ _ _ _ _ _
   | exact ih2 _ _ _ _ _ _ _ _
   | exact ih3 _ _ _ _ _ _ _ _ _
   | exact ih4 _ _ _ _ _ _ _ _ _ _ _
   | exact ih5 _ _ _ _ _ _ _ _ _ _ _
   | exact ih6 _ _ _ _ _ _ _ _ _ _ _ _ _
   | exact ih7 _ _ _ _ _ _ _ _
   | exact spec_l01Below.mono _ _
   | exact spec_l02High.mono _ _ _
   | exact LeO.none _
   | refine LeO.ite ?_ ?_
   | refine LeO.bind ?_ (fun _ => ?_)
theorem spec_l02Order.mono : ∀ a0 a1 a2 k, LeO (spec_l02Order.f k a0 a1 a2) (spec_l02Order.f (k + 1) a0 a1 a2) := by
 intro a0 a1 a2 k
 obtain ⟨ih0, ih1, ih2, ih3, ih4, ih5, ih6, ih7⟩ := spec_l02Order.mono_l k
 unfold spec_l02Order.f
 repeat' first
   | (with_reducible exact ih0 _ _ _ _ _ _)
   | (with_reducible exact ih1 _ _ _ _ _ _ _)
   | (with_reducible exact ih2 _ _ _ _ _ _ _ _)
   | (with_reducible exact ih3 _ _ _ _ _ _ _ _ _)
   | (with_reducible exact ih4 _ _ _ _ _ _ _ _ _ _ _)
   | (with_reducible exact ih5 _ _ _ _ _ _ _ _ _ _ _)
   | (with_reducible exact ih6 _ _ _ _ _ _ _ _ _ _ _ _ _)
   | (with_reducible exact ih7 _ _ _ _ _ _ _ _)
   | (with_reducible exact spec_l01Below.mono _ _)
   | (with_reducible exact spec_l02High.mono _ _ _)
   | (with_reducible exact LeO.refl _)
   | (with_reducible exact LeO.none _)
   | (with_reducible refine LeO.ite ?_ ?_)
   | (with_reducible refine LeO.bind ?_ (fun _ => ?_))
   | exact ih0 _ _ _ _ _ _
   | exact ih1 _ _ _ _ _ _ _
   | exact ih2 _ _ _ _ _ _ _ _
   | exact ih3 _ _ _ _ _ _ _ _ _
   | exact ih4 _ _ _ _ _ _ _ _ _ _ _
   | exact ih5 _ _ _ _ _ _ _ _ _ _ _
   | exact ih6 _ _ _ _ _ _ _ _ _ _ _ _ _
   | exact ih7 _ _ _ _ _ _ _ _
   | exact spec_l01Below.mono _ _
   | exact spec_l02High.mono _ _ _
   | exact LeO.none _
   | refine LeO.ite ?_ ?_
   | refine LeO.bind ?_ (fun _ => ?_)
set_option maxHeartbeats 8000000 in
set_option maxRecDepth 100000 in
theorem spec_l02Order.calls (k : Nat) (a0_0 : Int) (A0_1 : Option Addr) (c0_1 : Nat) (l0_1 : List Int) (A1 : Option Addr) (c1 : Nat) (l1 : List (S46)) (r1 : List Int) (r2 : Bool) (w : World) (hr0_1 : Kd.C (Kd.int .i64) w A0_1 l0_1.length l0_1) (hc0_1 : l0_1.length ≤ c0_1) (hr1 : Kd.C k46 w A1 l1.length l1) (hc1 : l1.length ≤ c1) (h : spec_l02Order.f k a0_0 l0_1 l1 = some (r1, r2)) :
  Calls Tryz.prog 22 #[.agg #[.int .i64 a0_0, .slice A0_1 l0_1.length c0_1], .slice A1 l1.length c1] w fun e w' => ∃ v0_ : Value, e = .returned (.tuple #[v0_, .bool r2]) ∧ Kd.R (Kd.int .i64) 2 w' w.heap.size (fun _ => True) v0_ r1 ∧ Below w.heap.size w w' := by
 have hu30 := Tryz.underlying30
 have HR0_1 := Aside0.mk hr0_1
 have HC0_1 := Aside0.mk hc0_1
 clear hr0_1 hc0_1
 have HR1 := Aside0.mk hr1
 have HC1 := Aside0.mk hc1
 clear hr1 hc1
 have HB := Aside0.mk (Below.refl w.heap.size w)
 have H : (if 64 ≤ 281474976710656 then (spec_l02Order.l0 k l1 (List.replicate 64 false) (([] : List Int)) true a0_0 l0_1) else (none)) = some (r1, r2) := h
 clear h
 by_cases c3 : 64 ≤ 281474976710656
 ·rw [if_pos c3] at H
  have c3b0 := eq_true c3
  have c3b1 : decide (64 ≤ 281474976710656) = true := decide_eq_true c3
  clear c3
  obtain ⟨y152, hy152⟩ : ∃ y_ : List Bool, y_ = (List.replicate 64 false) := ⟨_, rfl⟩
  replace H : (spec_l02Order.l0 k l1 y152 (([] : List Int)) true a0_0 l0_1) = some (r1, r2) := by first | (rw [hy152]; with_reducible exact H) | (have H2_ := (Option.bind_some _ _).symm.trans H; rw [hy152]; with_reducible exact H2_) | (have H2_ := (Option.bind_some _ _).symm.trans H; with_reducible exact H2_) | with_reducible exact H | (rw [hy152]; exact H) | exact H
  have Ny152 := Aside0.mk hy152
  clear hy152
  obtain ⟨y155, hy155⟩ : ∃ y_ : List Int, y_ = (([] : List Int)) := ⟨_, rfl⟩
  replace H : (spec_l02Order.l0 k l1 y152 y155 true a0_0 l0_1) = some (r1, r2) := by first | (rw [hy155]; with_reducible exact H) | (have H2_ := (Option.bind_some _ _).symm.trans H; rw [hy155]; with_reducible exact H2_) | (have H2_ := (Option.bind_some _ _).symm.trans H; with_reducible exact H2_) | with_reducible exact H | (rw [hy155]; exact H) | exact H
  have Ny155 := Aside0.mk hy155
  clear hy155
  have H' := Aside0.mk H
  clear H
  go_enter Tryz.func22, Tryz.ntmps22
  go_wp2_with (first | ((with_reducible refine gate_dst (N := 2) rfl ?_); refine box_event ?hg (N := 2) ?hd (cs := #[.int .i64 a0_0, .slice A0_1 l0_1.length c0_1]) (t := 30) ?hr ?_; (case hd => rfl); (case hg => rfl); (case hr => first | (go_simp; done) | (go_simp; rfl)); intro gb151 hg w4 hbox hb; have n0_ := Aside0.mk (below_step (by repeat (first | (with_reducible first | exact HB.out | apply below_alloc | apply pw_below_drewN | apply below_drew1) | exact HB.out)) hb); have n1_ := Aside0.mk (hbox); have n2_ := Aside0.mk ((by rw [hg]; exact (below_size (by repeat (first | (with_reducible first | exact HB.out | apply below_alloc | apply pw_below_drewN | apply below_drew1) | exact HB.out))) : w.heap.size ≤ gb151)); have n3_ := Aside0.mk ((by rw [hg]; exact (below_size (by repeat (first | (with_reducible first | exact HB.out | apply below_alloc | apply pw_below_drewN | apply below_drew1) | exact HB.out))) : w.heap.size ≤ gb151)); clear HB; have HB := n0_; have BK151 := n1_; have GW151 := n2_; have GE151 := n3_; clear n0_ n1_ n2_ n3_; clear hb hbox hg) | ((with_reducible refine gate_dst (N := 19) rfl ?_); refine Kd.R_make Kd.bool _ 4 rfl (N := 19) rfl 58 _ _ rfl 64 rfl rfl Tryz.underlying58 (.bool false) 1 info4 rfl (by decide) (by omega) false (ok := fun _ => True) (okp := fun _ => True) rfl (fun _ hk => hk) trivial (by omega) (by omega) (Below.refl _ _) (Nat.le_refl _) ?_; intro v153 w5 ho6 hb hg_ hnew_; clear hg_ hnew_; (first | rw [← Ny152.out] at ho6 | (simp only [Int.reduceToNat] at ho6; rw [← Ny152.out] at ho6)); have n0_ := Aside0.mk (Kd.R_lower ho6 (below_size (by repeat (first | (with_reducible first | exact HB.out | apply below_alloc | apply pw_below_drewN | apply below_drew1 | refine below_set ?_ GE151.out) | exact HB.out)))); have n1_ := Aside0.mk (blk_below (g := gb151) (o := .cells #[.int .i64 a0_0, .slice A0_1 l0_1.length c0_1] 30 (0, 0)) (by (with_reducible repeat (first | refine blk_drewN ?_ _ | refine blk_drew ?_ | refine blk_alloc ?_ _)); exact BK151.out) hb); have n2_ := Aside0.mk (below_step (by repeat (first | (with_reducible first | exact HB.out | apply below_alloc | apply pw_below_drewN | apply below_drew1 | refine below_set ?_ GE151.out) | exact HB.out)) hb); clear BK151; clear HB; have HO154 := n0_; have BK151 := n1_; have HB := n2_; clear n0_ n1_ n2_; clear hb ho6) | ((with_reducible refine gate_dst (N := 20) rfl ?_); refine Kd.R_lit (Kd.int .i64) _ 2 ?hg (N := 20) ?hd (xs := ([] : List Int)) (inner := []) (ok := fun _ => True) (okp := fun _ => True) ?hr ?hp (fun _ hk => hk) trivial (Below.refl _ _) (Nat.le_refl _) (by simp) ?_; (case hd => rfl); (case hg => rfl); (case hr => first | (go_simp; done) | (go_simp; rfl)); (case hp => exact (Reps.none _ _)); intro v156 w7 ho8 hb hg_ hnew_; clear hg_ hnew_; (first | rw [← Ny155.out] at ho8 | (simp only [Int.reduceToNat] at ho8; rw [← Ny155.out] at ho8)); have n0_ := Aside0.mk (Kd.R_below (by (with_reducible repeat (first | apply Kd.R_alloc | apply Kd.R_drewN | apply Kd.R_drew)); exact HO154.out) hb); have n1_ := Aside0.mk (Kd.R_lower ho8 (below_size (by repeat (first | (with_reducible first | exact HB.out | apply below_alloc | apply pw_below_drewN | apply below_drew1 | refine below_set ?_ GE151.out) | exact HB.out)))); have n2_ := Aside0.mk (blk_below (g := gb151) (o := .cells #[.int .i64 a0_0, .slice A0_1 l0_1.length c0_1] 30 (0, 0)) (by (with_reducible repeat (first | refine blk_drewN ?_ _ | refine blk_drew ?_ | refine blk_alloc ?_ _)); exact BK151.out) hb); have n3_ := Aside0.mk (below_step (by repeat (first | (with_reducible first | exact HB.out | apply below_alloc | apply pw_below_drewN | apply below_drew1 | refine below_set ?_ GE151.out) | exact HB.out)) hb); clear HO154; clear BK151; clear HB; have HO154 := n0_; have HO157 := n1_; have BK151 := n2_; have HB := n3_; clear n0_ n1_ n2_ n3_; clear hb ho8))

  go_loopg [7, 8] k (fun kq v7 v8 w' => ∃ (x6_1 : List Bool) (x7_1 : List Int) (x8_1 : Bool), v8 = .bool x8_1 ∧ Aside0 (spec_l02Order.l0 kq l1 x6_1 x7_1 x8_1 a0_0 l0_1 = some (r1, r2)) ∧ Aside0 (kq ≤ k) ∧ Aside0 (Kd.R Kd.bool 4 w' w.heap.size (fun _ => True) v153 x6_1) ∧ Aside0 (Kd.R (Kd.int .i64) 2 w' w.heap.size (fun _ => True) v7 x7_1) ∧ Aside0 (w'.heap[gb151]? = some (.cells #[.int .i64 a0_0, (.slice A0_1 l0_1.length c0_1)] 30 (0, 0))) ∧ Aside0 (Below w.heap.size w w'))
  case atStart => exact ⟨(y152), (y155), (true), (by first | rfl | (simp; done) | (simp [*]; done)), H', ⟨Nat.le_refl _⟩, ⟨by (with_reducible repeat (first | apply Kd.R_alloc | apply Kd.R_drewN | apply Kd.R_drew)); exact HO154.out⟩, ⟨by (with_reducible repeat (first | apply Kd.R_alloc | apply Kd.R_drewN | apply Kd.R_drew)); exact HO157.out⟩, ⟨by (with_reducible repeat (first | refine blk_drewN ?_ _ | refine blk_drew ?_ | refine blk_alloc ?_ _)); exact BK151.out⟩, ⟨by repeat (first | (with_reducible first | exact HB.out | apply below_alloc | apply pw_below_drewN | apply below_drew1 | refine below_set ?_ GE151.out) | exact HB.out)⟩⟩
  case round =>
   clear H'
   try clear c1
   try clear c2
   try clear p2
   try clear c3
   try clear c3b0
   try clear c3b1
   obtain ⟨x6_1, x7_1, x8_1, rfl, HA, HK1, HO_6, HO_7, BK151, HB⟩ := hrel
   cases gk with
   | zero => exact absurd HA.out (by simp [spec_l02Order.l0])
   | succ k1 =>
    have H := HA.out
    clear HA
    simp only [spec_l02Order.l0] at H
    by_cases c9 : x8_1 = true
    ·subst c9
     have H1 : (spec_l02Order.l1 k1 l1 x6_1 x7_1 false 0 a0_0 l0_1) = some (r1, r2) := by rw [if_pos rfl] at H; exact H
     clear H
     have H := H1
     clear H1
     have H' := Aside0.mk H
     clear H
     go_wp2
     repeat (go_quiet (fail); try go_wp2)
     go_loopg [7, 8, 9] k1 (fun kq v7 v8 v9 w' => ∃ (x6_2 : List Bool) (x7_2 : List Int) (x8_2 : Bool) (x9_2 : Int), v8 = .bool x8_2 ∧ v9 = .int .i64 x9_2 ∧ Aside0 (spec_l02Order.l1 kq l1 x6_2 x7_2 x8_2 x9_2 a0_0 l0_1 = some (r1, r2)) ∧ Aside0 (kq ≤ k1) ∧ Aside0 (Kd.R Kd.bool 4 w' w.heap.size (fun _ => True) v153 x6_2) ∧ Aside0 (Kd.R (Kd.int .i64) 2 w' w.heap.size (fun _ => True) v7 x7_2) ∧ Aside0 (w'.heap[gb151]? = some (.cells #[.int .i64 a0_0, (.slice A0_1 l0_1.length c0_1)] 30 (0, 0))) ∧ Aside0 (Below w.heap.size w w'))
     case atStart => exact ⟨(x6_1), (x7_1), (false), (0), (by first | rfl | (simp; done) | (simp [*]; done)), (by first | rfl | (simp; done) | (simp [*]; done)), H', ⟨Nat.le_refl _⟩, ⟨by (with_reducible repeat (first | apply Kd.R_alloc | apply Kd.R_drewN | apply Kd.R_drew)); exact HO_6.out⟩, ⟨by (with_reducible repeat (first | apply Kd.R_alloc | apply Kd.R_drewN | apply Kd.R_drew)); exact HO_7.out⟩, ⟨by (with_reducible repeat (first | refine blk_drewN ?_ _ | refine blk_drew ?_ | refine blk_alloc ?_ _)); exact BK151.out⟩, ⟨by repeat (first | (with_reducible first | exact HB.out | apply below_alloc | apply pw_below_drewN | apply below_drew1 | refine below_set ?_ GE151.out) | exact HB.out)⟩⟩
     case round =>
      clear H'
      try clear c1
      try clear c2
      try clear p2
      try clear c3
      try clear c3b0
      try clear c3b1
      try clear c9
      try clear p2
      obtain ⟨x6_2, x7_2, x8_2, x9_2, rfl, rfl, HA, HK2, HO_6, HO_7, BK151, HB⟩ := hrel
      cases gk with
      | zero => exact absurd HA.out (by simp [spec_l02Order.l1])
      | succ k2 =>
       have H := HA.out
       clear HA
       simp only [spec_l02Order.l1] at H
       have HC10 := Aside0.mk H
       clear H
       go_upto_region 6 with (fail)
       repeat (go_quiet (fail); go_upto_region 6 with (fail))
       go_cut [30] (fun v30 wc => ∃ (kq : Nat) (x30_9 : Bool), v30 = .bool x30_9 ∧ Aside0 (spec_l02Order.j2 kq l1 x6_2 x7_2 x8_2 x9_2 x30_9 a0_0 l0_1 = some (r1, r2)) ∧ Aside0 (kq ≤ k2) ∧ Aside0 (Kd.R Kd.bool 4 wc w.heap.size (fun _ => True) v153 x6_2) ∧ Aside0 (Kd.R (Kd.int .i64) 2 wc w.heap.size (fun _ => True) u7 x7_2) ∧ Aside0 (wc.heap[gb151]? = some (.cells #[.int .i64 a0_0, (.slice A0_1 l0_1.length c0_1)] 30 (0, 0))) ∧ Aside0 (Below w.heap.size w wc))
       case first =>
        have H := HC10.out
        clear HC10
        by_cases c11 : x9_2 < (l0_1.length : Int)
        ·rw [if_pos c11] at H
         have c11b0 : decide (x9_2 < (l0_1.length : Int)) = true := decide_eq_true c11
         clear c11
         (first | rw [c11b0] | (simp only [i64_w, i32_w]; rw [c11b0]) | skip)
         have H' := Aside0.mk H
         clear H
         have hcz12_0 : wr.cell? ⟨gb151, 0, none⟩ = some (.int .i64 a0_0) := (blk_cell BK151.out 0).trans rfl
         have hcz12_1 : wr.cell? ⟨gb151, 1, none⟩ = some (.slice A0_1 l0_1.length c0_1) := (blk_cell BK151.out 1).trans rfl
         have hfz12_0 := blk_frozen BK151.out 0
         have hfz12_1 := blk_frozen BK151.out 1
         go_wp2
         repeat (go_quiet (fail); try go_wp2)
         go_meet
         case rel => exact ⟨_, (!x8_2), (by first | rfl | (simp; done) | (simp [*]; done)), H', ⟨by have := HK1.out; have := HK2.out; first | omega | exact Nat.le_refl _⟩, ⟨by (with_reducible repeat (first | apply Kd.R_alloc | apply Kd.R_drewN | apply Kd.R_drew)); exact HO_6.out⟩, ⟨by (with_reducible repeat (first | apply Kd.R_alloc | apply Kd.R_drewN | apply Kd.R_drew)); exact HO_7.out⟩, ⟨by (with_reducible repeat (first | refine blk_drewN ?_ _ | refine blk_drew ?_ | refine blk_alloc ?_ _)); exact BK151.out⟩, ⟨by repeat (first | (with_reducible first | exact HB.out | apply below_alloc | apply pw_below_drewN | apply below_drew1 | refine below_set ?_ GE151.out) | exact HB.out)⟩⟩
        ·rw [if_neg c11] at H
         have c11b0 : decide (x9_2 < (l0_1.length : Int)) = false := decide_eq_false c11
         clear c11
         (first | rw [c11b0] | (simp only [i64_w, i32_w]; rw [c11b0]) | skip)
         have H' := Aside0.mk H
         clear H
         have hcz13_0 : wr.cell? ⟨gb151, 0, none⟩ = some (.int .i64 a0_0) := (blk_cell BK151.out 0).trans rfl
         have hcz13_1 : wr.cell? ⟨gb151, 1, none⟩ = some (.slice A0_1 l0_1.length c0_1) := (blk_cell BK151.out 1).trans rfl
         have hfz13_0 := blk_frozen BK151.out 0
         have hfz13_1 := blk_frozen BK151.out 1
         go_wp2
         repeat (go_quiet (fail); try go_wp2)
         go_meet
         case rel => exact ⟨_, (false), (by first | rfl | (simp; done) | (simp [*]; done)), H', ⟨by have := HK1.out; have := HK2.out; first | omega | exact Nat.le_refl _⟩, ⟨by (with_reducible repeat (first | apply Kd.R_alloc | apply Kd.R_drewN | apply Kd.R_drew)); exact HO_6.out⟩, ⟨by (with_reducible repeat (first | apply Kd.R_alloc | apply Kd.R_drewN | apply Kd.R_drew)); exact HO_7.out⟩, ⟨by (with_reducible repeat (first | refine blk_drewN ?_ _ | refine blk_drew ?_ | refine blk_alloc ?_ _)); exact BK151.out⟩, ⟨by repeat (first | (with_reducible first | exact HB.out | apply below_alloc | apply pw_below_drewN | apply below_drew1 | refine below_set ?_ GE151.out) | exact HB.out)⟩⟩
       case rest =>
        clear HC10
        try clear c1
        try clear c2
        try clear p2
        try clear c3
        try clear c3b0
        try clear c3b1
        try clear c9
        try clear c11
        try clear c11b0
        try clear hcz12_0
        try clear hcz12_1
        try clear hcz13_0
        try clear hcz13_1
        try clear hfz12_0
        try clear hfz12_1
        try clear hfz13_0
        try clear hfz13_1
        try clear p2
        obtain ⟨kq, x30_9, rfl, HA, HJ9, HO_6, HO_7, BK151, HB⟩ := hcut
        cases kq with
        | zero => exact absurd HA.out (by simp [spec_l02Order.j2])
        | succ kj9 =>
         have H := HA.out
         clear HA
         simp only [spec_l02Order.j2] at H
         by_cases c14 : x30_9 = true
         ·subst c14
          have H1 : (if 0 ≤ x9_2 then (if x9_2 < (l0_1.length : Int) then ((spec_l02High.f kj9 l1 (rd l0_1 x9_2)).bind fun t159 => ((some (([rd l0_1 x9_2] : List Int) : List Int)).bind fun y160 => (if t159 = 0 then (spec_l02Order.j3 kj9 l1 x6_2 x7_2 x8_2 x9_2 (rd l0_1 x9_2) y160 a0_0 l0_1) else (if y160.length < 17592186044416 then (spec_l02Order.j3 kj9 l1 x6_2 x7_2 x8_2 x9_2 (rd l0_1 x9_2) (y160 ++ [t159]) a0_0 l0_1) else (none))))) else (none)) else (none)) = some (r1, r2) := by rw [if_pos rfl] at H; exact H
          clear H
          have H := H1
          clear H1
          by_cases c15 : 0 ≤ x9_2
          ·rw [if_pos c15] at H
           have c15b0 : decide (0 ≤ x9_2) = true := decide_eq_true c15
           clear c15
           by_cases c16 : x9_2 < (l0_1.length : Int)
           ·rw [if_pos c16] at H
            have c16b0 : decide (x9_2 < (l0_1.length : Int)) = true := decide_eq_true c16
            clear c16
            replace H := Option.bind_eq_some_iff.mp H
            obtain ⟨t159, A170, H⟩ := H
            replace H : ((some (([rd l0_1 x9_2] : List Int) : List Int)).bind fun y160 => (if t159 = 0 then (spec_l02Order.j3 kj9 l1 x6_2 x7_2 x8_2 x9_2 (rd l0_1 x9_2) y160 a0_0 l0_1) else (if y160.length < 17592186044416 then (spec_l02Order.j3 kj9 l1 x6_2 x7_2 x8_2 x9_2 (rd l0_1 x9_2) (y160 ++ [t159]) a0_0 l0_1) else (none)))) = some (r1, r2) := H
            have A17 := Aside0.mk A170
            clear A170
            obtain ⟨y160, hy160⟩ : ∃ y_ : List Int, y_ = (([rd l0_1 x9_2] : List Int)) := ⟨_, rfl⟩
            replace H : (if t159 = 0 then (spec_l02Order.j3 kj9 l1 x6_2 x7_2 x8_2 x9_2 (rd l0_1 x9_2) y160 a0_0 l0_1) else (if y160.length < 17592186044416 then (spec_l02Order.j3 kj9 l1 x6_2 x7_2 x8_2 x9_2 (rd l0_1 x9_2) (y160 ++ [t159]) a0_0 l0_1) else (none))) = some (r1, r2) := by first | (rw [hy160]; with_reducible exact H) | (have H2_ := (Option.bind_some _ _).symm.trans H; rw [hy160]; with_reducible exact H2_) | (have H2_ := (Option.bind_some _ _).symm.trans H; with_reducible exact H2_) | with_reducible exact H | (rw [hy160]; exact H) | exact H
            have Ny160 := Aside0.mk hy160
            clear hy160
            have HC18 := Aside0.mk H
            clear H
            have hcz19_0 : wc.cell? ⟨gb151, 0, none⟩ = some (.int .i64 a0_0) := (blk_cell BK151.out 0).trans rfl
            have hcz19_1 : wc.cell? ⟨gb151, 1, none⟩ = some (.slice A0_1 l0_1.length c0_1) := (blk_cell BK151.out 1).trans rfl
            have hfz19_0 := blk_frozen BK151.out 0
            have hfz19_1 := blk_frozen BK151.out 1
            have p158 : 0 ≤ (x9_2 : Int) := of_decide_eq_true (by first | (with_reducible assumption) | assumption)
            have q158 : x9_2 < (l0_1.length : Int) := of_decide_eq_true (by first | (with_reducible assumption) | assumption)
            obtain ⟨ad158, e158, hx158_0⟩ := Kd.at_int HR0_1.out x9_2 p158 q158
            cases e158
            replace hx158_0 := (HB.out.cell (World.block_lt_of_cell? w _ hx158_0)).trans hx158_0
            replace p158 := eq_true p158
            replace q158 := eq_true q158
            go_upto_if 44 with (first | (go_at_call 33; (with_reducible refine (spec_l02High.calls kj9 _ _ l1 (rd l0_1 x9_2) t159 _ ?side1 ?side2 A17.out).mono ?_); (case side1 => repeat (first | exact (Kd.C_below HR1.out HB.out) | (with_reducible refine Kd.C_alloc ?_ _) | (with_reducible refine Kd.C_drewN ?_ _) | (with_reducible refine Kd.C_drew ?_))); (case side2 => exact HC1.out); rintro e w' ⟨rfl, ⟨nd, rfl⟩⟩; (try first | exact ⟨rfl, _, World.drewN_drewN _ _ _⟩ | exact ⟨rfl, _, Eq.trans (World.drewN_drewN _ _ _) (congrArg (World.drewN _) (Nat.add_assoc _ _ _))⟩)) | ((with_reducible refine gate_dst (N := 42) rfl ?_); refine Kd.R_lit (Kd.int .i64) _ 2 ?hg (N := 42) ?hd (xs := ([rd l0_1 x9_2] : List Int)) (inner := [.int .i64 (rd l0_1 x9_2)]) (ok := fun _ => True) (okp := fun _ => True) ?hr ?hp (fun _ hk => hk) trivial (Below.refl _ _) (Nat.le_refl _) (by simp) ?_; (case hd => rfl); (case hg => rfl); (case hr => first | (go_simp; done) | (go_simp; rfl)); (case hp => exact (Reps.one (show Kd.M (Kd.int .i64) _ _ _ (rd l0_1 x9_2) [.int .i64 (rd l0_1 x9_2)] from rfl) (Reps.none _ _))); intro v161 w20 ho21 hb hg_ hnew_; clear hg_ hnew_; (first | rw [← Ny160.out] at ho21 | (simp only [Int.reduceToNat] at ho21; rw [← Ny160.out] at ho21)); have n0_ := Aside0.mk (Kd.R_below (by (with_reducible repeat (first | apply Kd.R_alloc | apply Kd.R_drewN | apply Kd.R_drew)); exact HO_6.out) hb); have n1_ := Aside0.mk (Kd.R_elder' (by (with_reducible repeat (first | apply Kd.R_alloc | apply Kd.R_drewN | apply Kd.R_drew)); exact HO_7.out) (Kd.R_base ho21) hb); have n2_ := Aside0.mk (Kd.R_lower (Kd.R_new' ho21 (Kd.R_lt (by (with_reducible repeat (first | apply Kd.R_alloc | apply Kd.R_drewN | apply Kd.R_drew)); exact HO_7.out))) (below_size (by repeat (first | (with_reducible first | exact HB.out | apply below_alloc | apply pw_below_drewN | apply below_drew1 | refine below_set ?_ GE151.out) | exact HB.out)))); have n3_ := Aside0.mk (blk_below (g := gb151) (o := .cells #[.int .i64 a0_0, .slice (some ad158) l0_1.length c0_1] 30 (0, 0)) (by (with_reducible repeat (first | refine blk_drewN ?_ _ | refine blk_drew ?_ | refine blk_alloc ?_ _)); exact BK151.out) hb); have n4_ := Aside0.mk (below_step (by repeat (first | (with_reducible first | exact HB.out | apply below_alloc | apply pw_below_drewN | apply below_drew1 | refine below_set ?_ GE151.out) | exact HB.out)) hb); clear HO_6; clear HO_7; clear BK151; clear HB; have HO_6 := n0_; have HO_7 := n1_; have HO162 := n2_; have BK151 := n3_; have HB := n4_; clear n0_ n1_ n2_ n3_ n4_; clear hb ho21))

            (try simp only [Act.put, List.setIfInBounds_toArray, List.set_cons_zero, List.set_cons_succ])
            go_cut [12] (fun v12 wc => ∃ (kq : Nat) (x12_17 : List Int), Aside0 (spec_l02Order.j3 kq l1 x6_2 x7_2 x8_2 x9_2 (rd l0_1 x9_2) x12_17 a0_0 l0_1 = some (r1, r2)) ∧ Aside0 (kq ≤ kj9) ∧ Aside0 (Kd.R Kd.bool 4 wc w.heap.size (fun _ => True) v153 x6_2) ∧ Aside0 (Kd.R (Kd.int .i64) 2 wc w.heap.size (fun k_ => some k_ ≠ (v12 : Value).ownBlock) u7 x7_2) ∧ Aside0 (Kd.R (Kd.int .i64) 2 wc w.heap.size (fun k_ => some k_ ≠ (u7 : Value).ownBlock) v12 x12_17) ∧ Aside0 (wc.heap[gb151]? = some (.cells #[.int .i64 a0_0, (.slice (some ad158) l0_1.length c0_1)] 30 (0, 0))) ∧ Aside0 (Below w.heap.size w wc))
            case first =>
             have H := HC18.out
             clear HC18
             by_cases c22 : t159 = 0
             ·rw [if_pos c22] at H
              have c22b0 : (t159 == 0) = true := beq_iff_eq.mpr c22
              have c22b1 : (t159 != 0) = false := bne_eq_false_iff_eq.mpr c22
              clear c22
              (first | rw [c22b0] | (simp only [i64_w, i32_w]; rw [c22b0]) | skip)
              have H' := Aside0.mk H
              clear H
              go_wp2
              repeat (go_quiet (fail); try go_wp2)
              go_meet
              case rel => exact ⟨_, (y160), H', ⟨by have := HK1.out; have := HK2.out; have := HJ9.out; first | omega | exact Nat.le_refl _⟩, ⟨by (with_reducible repeat (first | apply Kd.R_alloc | apply Kd.R_drewN | apply Kd.R_drew)); exact HO_6.out⟩, ⟨by (with_reducible repeat (first | apply Kd.R_alloc | apply Kd.R_drewN | apply Kd.R_drew)); exact Kd.R_mono HO_7.out (fun _ hk => hk.2)⟩, ⟨by (with_reducible repeat (first | apply Kd.R_alloc | apply Kd.R_drewN | apply Kd.R_drew)); exact Kd.R_mono HO162.out (fun _ hk => hk.2)⟩, ⟨by (with_reducible repeat (first | refine blk_drewN ?_ _ | refine blk_drew ?_ | refine blk_alloc ?_ _)); exact BK151.out⟩, ⟨by repeat (first | (with_reducible first | exact HB.out | apply below_alloc | apply pw_below_drewN | apply below_drew1 | refine below_set ?_ GE151.out) | exact HB.out)⟩⟩
             ·rw [if_neg c22] at H
              have c22b0 : (t159 == 0) = false := beq_eq_false_iff_ne.mpr c22
              have c22b1 : (t159 != 0) = true := bne_iff_ne.mpr c22
              (first | rw [c22b0] | (simp only [i64_w, i32_w]; rw [c22b0]) | skip)
              by_cases c23 : y160.length < 17592186044416
              ·rw [if_pos c23] at H
               have LMc23 := Aside0.mk c23
               clear c23
               obtain ⟨y163, hy163⟩ : ∃ y_ : List Int, y_ = (y160 ++ [t159]) := ⟨_, rfl⟩
               replace H : (spec_l02Order.j3 kj9 l1 x6_2 x7_2 x8_2 x9_2 (rd l0_1 x9_2) y163 a0_0 l0_1) = some (r1, r2) := by first | (rw [hy163]; with_reducible exact H) | (have H2_ := (Option.bind_some _ _).symm.trans H; rw [hy163]; with_reducible exact H2_) | (have H2_ := (Option.bind_some _ _).symm.trans H; with_reducible exact H2_) | with_reducible exact H | (rw [hy163]; exact H) | exact H
               have Ny163 := Aside0.mk hy163
               clear hy163
               have H' := Aside0.mk H
               clear H
               go_wp2_with (first | ((with_reducible refine gate_builtin (b := .append) (xs := #[.tmp 45, .tmp 47]) rfl ?_); at_builtin; refine Kd.R_append (Kd.int .i64) (w0 := w) w.heap.size rfl (.tmp 45) (.tmp 47) 22 2 (.int .i64 0) 8 rfl Tryz.underlying22 info2 rfl (by decide) (by omega) v161 y160 t159 [.int .i64 t159] (fun k_ => some k_ ≠ (u7 : Value).ownBlock) (fun _ => False) rfl rfl ?aP (fun _ hk => hk.elim) ?aF ?aO ?aB ?aS ?aL ?_; (case aP => exact rfl); (case aB => exact (by repeat (first | (with_reducible first | exact HB.out | apply below_alloc | apply pw_below_drewN | apply below_drew1 | refine below_set ?_ GE151.out) | exact HB.out))); (case aF => exact (fun k_ hk => Kd.fresh' (Kd.R_lt (by (with_reducible repeat (first | apply Kd.R_alloc | apply Kd.R_drewN | apply Kd.R_drew)); exact HO_7.out)) k_ hk)); (case aO => exact (by (with_reducible repeat (first | apply Kd.R_alloc | apply Kd.R_drewN | apply Kd.R_drew)); exact Kd.R_mono HO162.out (fun _ hk => hk.2))); (case aS => exact (below_size (by repeat (first | (with_reducible first | exact HB.out | apply below_alloc | apply pw_below_drewN | apply below_drew1 | refine below_set ?_ GE151.out) | exact HB.out)))); (case aL => have := LMc23.out; omega); intro v164 w24 ho hb hg hat; rw [← Ny163.out] at ho; have n0_ := Aside0.mk (Kd.R_over' (by (with_reducible repeat (first | apply Kd.R_alloc | apply Kd.R_drewN | apply Kd.R_drew)); exact HO_6.out) (Kd.R_typed (by (with_reducible repeat (first | apply Kd.R_alloc | apply Kd.R_drewN | apply Kd.R_drew)); exact HO162.out)) (by decide) hg); have n1_ := Aside0.mk (Kd.R_after (ok := (fun _ => True)) (by (with_reducible repeat (first | apply Kd.R_alloc | apply Kd.R_drewN | apply Kd.R_drew)); exact HO_7.out) hg hat); have n2_ := Aside0.mk (blk_grown (g := gb151) (o := .cells #[.int .i64 a0_0, .slice (some ad158) l0_1.length c0_1] 30 (0, 0)) (by (with_reducible repeat (first | refine blk_drewN ?_ _ | refine blk_drew ?_ | refine blk_alloc ?_ _)); exact BK151.out) hg (Kd.R_ne HO162.out BK151.out (by decide))); have n3_ := Aside0.mk (hb); have n4_ := Aside0.mk (ho); clear HO_6; clear HO_7; clear BK151; clear HB; clear HO162; have HO_6 := n0_; have HO_7 := n1_; have BK151 := n2_; have HB := n3_; have HO165 := n4_; clear n0_ n1_ n2_ n3_ n4_; clear ho hb hg hat))

               go_meet
               case rel => exact ⟨_, (y163), H', ⟨by have := HK1.out; have := HK2.out; have := HJ9.out; first | omega | exact Nat.le_refl _⟩, ⟨by (with_reducible repeat (first | apply Kd.R_alloc | apply Kd.R_drewN | apply Kd.R_drew)); exact HO_6.out⟩, ⟨by (with_reducible repeat (first | apply Kd.R_alloc | apply Kd.R_drewN | apply Kd.R_drew)); exact Kd.R_mono HO_7.out (fun _ hk => hk.2)⟩, ⟨by (with_reducible repeat (first | apply Kd.R_alloc | apply Kd.R_drewN | apply Kd.R_drew)); exact HO165.out⟩, ⟨by (with_reducible repeat (first | refine blk_drewN ?_ _ | refine blk_drew ?_ | refine blk_alloc ?_ _)); exact BK151.out⟩, ⟨by repeat (first | (with_reducible first | exact HB.out | apply below_alloc | apply pw_below_drewN | apply below_drew1 | refine below_set ?_ GE151.out) | exact HB.out)⟩⟩
              ·rw [if_neg c23] at H
               exact absurd H (by simp)
            case rest =>
             clear HC18
             try clear c1
             try clear p1
             try clear q1
             try clear hx1
             try clear c2
             try clear p2
             try clear c3
             try clear c3b0
             try clear c3b1
             try clear c9
             try clear c11
             try clear c11b0
             try clear c14
             try clear c15
             try clear c15b0
             try clear p15
             try clear q15
             try clear hx15
             try clear c16
             try clear c16b0
             try clear c22
             try clear c22b0
             try clear c22b1
             try clear c23
             try clear hcz12_0
             try clear hcz12_1
             try clear hcz13_0
             try clear hcz13_1
             try clear hcz19_0
             try clear hcz19_1
             try clear hfz12_0
             try clear hfz12_1
             try clear hfz13_0
             try clear hfz13_1
             try clear hfz19_0
             try clear hfz19_1
             try clear hx158_0
             try clear p158
             try clear p2
             try clear q158
             obtain ⟨kq, x12_17, HA, HJ17, HO_6, HO_7, HO_12, BK151, HB⟩ := hcut
             cases kq with
             | zero => exact absurd HA.out (by simp [spec_l02Order.j3])
             | succ kj17 =>
              have H := HA.out
              clear HA
              simp only [spec_l02Order.j3] at H
              by_cases c25 : 0 ≤ (rd l0_1 x9_2)
              ·rw [if_pos c25] at H
               have c25b0 : decide (0 ≤ (rd l0_1 x9_2)) = true := decide_eq_true c25
               clear c25
               by_cases c26 : (rd l0_1 x9_2) < (x6_2.length : Int)
               ·rw [if_pos c26] at H
                have c26b0 : decide ((rd l0_1 x9_2) < (x6_2.length : Int)) = true := decide_eq_true c26
                clear c26
                have H' := Aside0.mk H
                clear H
                obtain ⟨Ao27, co27, eo27⟩ := Kd.R_slice HO_6.out
                subst eo27
                have p166 : 0 ≤ ((rd l0_1 x9_2) : Int) := of_decide_eq_true (by first | (with_reducible assumption) | assumption)
                have q166 : (rd l0_1 x9_2) < (x6_2.length : Int) := of_decide_eq_true (by first | (with_reducible assumption) | assumption)
                obtain ⟨ad166, e166, hx166_0⟩ := Kd.at_bool (Kd.R_reads' HO_6.out).2.2 (rd l0_1 x9_2) p166 q166
                cases e166
                replace p166 := eq_true p166
                replace q166 := eq_true q166
                go_wp2
                repeat (go_quiet (fail); try go_wp2)
                go_loopg [13, 14] kj17 (fun kq v13 v14 w' => ∃ (x13_5 : Bool) (x14_5 : Int), v13 = .bool x13_5 ∧ v14 = .int .i64 x14_5 ∧ Aside0 (spec_l02Order.l2 kq l1 x6_2 x7_2 x8_2 x9_2 (rd l0_1 x9_2) x12_17 x13_5 x14_5 a0_0 l0_1 = some (r1, r2)) ∧ Aside0 (kq ≤ kj17) ∧ Aside0 (Kd.R Kd.bool 4 w' w.heap.size (fun _ => True) (.slice (some ad166) x6_2.length co27) x6_2) ∧ Aside0 (Kd.R (Kd.int .i64) 2 w' w.heap.size (fun k_ => some k_ ≠ (u12 : Value).ownBlock) u7 x7_2) ∧ Aside0 (Kd.R (Kd.int .i64) 2 w' w.heap.size (fun k_ => some k_ ≠ (u7 : Value).ownBlock) u12 x12_17) ∧ Aside0 (w'.heap[gb151]? = some (.cells #[.int .i64 a0_0, (.slice (some ad158) l0_1.length c0_1)] 30 (0, 0))) ∧ Aside0 (Below w.heap.size w w'))
                case atStart => exact ⟨(!(rdOf false x6_2 (rd l0_1 x9_2))), (0), (by first | rfl | (simp; done) | (simp [*]; done)), (by first | rfl | (simp; done) | (simp [*]; done)), H', ⟨Nat.le_refl _⟩, ⟨by (with_reducible repeat (first | apply Kd.R_alloc | apply Kd.R_drewN | apply Kd.R_drew)); exact HO_6.out⟩, ⟨by (with_reducible repeat (first | apply Kd.R_alloc | apply Kd.R_drewN | apply Kd.R_drew)); exact HO_7.out⟩, ⟨by (with_reducible repeat (first | apply Kd.R_alloc | apply Kd.R_drewN | apply Kd.R_drew)); exact HO_12.out⟩, ⟨by (with_reducible repeat (first | refine blk_drewN ?_ _ | refine blk_drew ?_ | refine blk_alloc ?_ _)); exact BK151.out⟩, ⟨by repeat (first | (with_reducible first | exact HB.out | apply below_alloc | apply pw_below_drewN | apply below_drew1 | refine below_set ?_ GE151.out) | exact HB.out)⟩⟩
                case round =>
                 clear H'
                 try clear c1
                 try clear p1
                 try clear q1
                 try clear hx1
                 try clear c2
                 try clear p2
                 try clear c3
                 try clear c3b0
                 try clear c3b1
                 try clear c9
                 try clear c11
                 try clear c11b0
                 try clear c14
                 try clear c15
                 try clear c15b0
                 try clear p15
                 try clear q15
                 try clear hx15
                 try clear c16
                 try clear c16b0
                 try clear p16
                 try clear q16
                 try clear hx16
                 try clear c22
                 try clear c22b0
                 try clear c22b1
                 try clear c23
                 try clear c25
                 try clear c25b0
                 try clear c26
                 try clear c26b0
                 try clear hcz12_0
                 try clear hcz12_1
                 try clear hcz13_0
                 try clear hcz13_1
                 try clear hcz19_0
                 try clear hcz19_1
                 try clear hfz12_0
                 try clear hfz12_1
                 try clear hfz13_0
                 try clear hfz13_1
                 try clear hfz19_0
                 try clear hfz19_1
                 try clear hx158_0
                 try clear hx166_0
                 try clear p1
                 try clear p15
                 try clear p158
                 try clear p166
                 try clear p2
                 try clear q1
                 try clear q15
                 try clear q158
                 try clear q166
                 obtain ⟨x13_5, x14_5, rfl, rfl, HA, HK5, HO_6, HO_7, HO_12, BK151, HB⟩ := hrel
                 cases gk with
                 | zero => exact absurd HA.out (by simp [spec_l02Order.l2])
                 | succ k5 =>
                  have H := HA.out
                  clear HA
                  simp only [spec_l02Order.l2] at H
                  by_cases c28 : x14_5 < (l1.length : Int)
                  ·rw [if_pos c28] at H
                   have c28b0 : decide (x14_5 < (l1.length : Int)) = true := decide_eq_true c28
                   clear c28
                   by_cases c29 : x13_5 = true
                   ·subst c29
                    have H1 : (if 0 ≤ x14_5 then (spec_l02Order.l2 k5 l1 x6_2 x7_2 x8_2 x9_2 (rd l0_1 x9_2) x12_17 (((rd_T46 l1 x14_5).f1) != (rd l0_1 x9_2)) (wrap64 (x14_5 + 1)) a0_0 l0_1) else (none)) = some (r1, r2) := by rw [if_pos rfl] at H; exact H
                    clear H
                    have H := H1
                    clear H1
                    by_cases c30 : 0 ≤ x14_5
                    ·rw [if_pos c30] at H
                     have c30b0 : decide (0 ≤ x14_5) = true := decide_eq_true c30
                     clear c30
                     have H' := Aside0.mk H
                     clear H
                     have p167 : 0 ≤ (x14_5 : Int) := of_decide_eq_true (by first | (with_reducible assumption) | assumption)
                     have q167 : x14_5 < (l1.length : Int) := of_decide_eq_true (by first | (with_reducible assumption) | assumption)
                     obtain ⟨ad167, e167, hx167_0, hx167_1⟩ := at_T46 HR1.out x14_5 p167 q167
                     cases e167
                     replace hx167_0 := (HB.out.cell (World.block_lt_of_cell? w _ hx167_0)).trans hx167_0
                     replace hx167_1 := (HB.out.cell (World.block_lt_of_cell? w _ hx167_1)).trans hx167_1
                     replace p167 := eq_true p167
                     replace q167 := eq_true q167
                     go_wp2
                     repeat (go_quiet (fail); try go_wp2)
                     go_roundg k5
                     case measure => have := HK1.out; have := HK2.out; have := HJ9.out; have := HJ17.out; have := HK5.out; omega
                     case rel => exact ⟨((((rd_T46 l1 x14_5).f1) != (rd l0_1 x9_2))), (wrap64 (x14_5 + 1)), (by first | rfl | (simp; done) | (simp [*]; done)), (by first | rfl | (simp; done) | (simp [*]; done)), H', ⟨by have := HK1.out; have := HK2.out; have := HJ9.out; have := HJ17.out; have := HK5.out; omega⟩, ⟨by (with_reducible repeat (first | apply Kd.R_alloc | apply Kd.R_drewN | apply Kd.R_drew)); exact HO_6.out⟩, ⟨by (with_reducible repeat (first | apply Kd.R_alloc | apply Kd.R_drewN | apply Kd.R_drew)); exact HO_7.out⟩, ⟨by (with_reducible repeat (first | apply Kd.R_alloc | apply Kd.R_drewN | apply Kd.R_drew)); exact HO_12.out⟩, ⟨by (with_reducible repeat (first | refine blk_drewN ?_ _ | refine blk_drew ?_ | refine blk_alloc ?_ _)); exact BK151.out⟩, ⟨by repeat (first | (with_reducible first | exact HB.out | apply below_alloc | apply pw_below_drewN | apply below_drew1 | refine below_set ?_ GE151.out) | exact HB.out)⟩⟩
                    ·rw [if_neg c30] at H
                     exact absurd H (by simp)
                   ·replace c29 := Bool.eq_false_iff.mpr c29
                    subst c29
                    have H1 : (spec_l02Order.l2 k5 l1 x6_2 x7_2 x8_2 x9_2 (rd l0_1 x9_2) x12_17 false (wrap64 (x14_5 + 1)) a0_0 l0_1) = some (r1, r2) := by rw [if_neg (show ¬ (false = true) by decide)] at H; exact H
                    clear H
                    have H := H1
                    clear H1
                    have H' := Aside0.mk H
                    clear H
                    go_wp2
                    repeat (go_quiet (fail); try go_wp2)
                    go_roundg k5
                    case measure => have := HK1.out; have := HK2.out; have := HJ9.out; have := HJ17.out; have := HK5.out; omega
                    case rel => exact ⟨(false), (wrap64 (x14_5 + 1)), (by first | rfl | (simp; done) | (simp [*]; done)), (by first | rfl | (simp; done) | (simp [*]; done)), H', ⟨by have := HK1.out; have := HK2.out; have := HJ9.out; have := HJ17.out; have := HK5.out; omega⟩, ⟨by (with_reducible repeat (first | apply Kd.R_alloc | apply Kd.R_drewN | apply Kd.R_drew)); exact HO_6.out⟩, ⟨by (with_reducible repeat (first | apply Kd.R_alloc | apply Kd.R_drewN | apply Kd.R_drew)); exact HO_7.out⟩, ⟨by (with_reducible repeat (first | apply Kd.R_alloc | apply Kd.R_drewN | apply Kd.R_drew)); exact HO_12.out⟩, ⟨by (with_reducible repeat (first | refine blk_drewN ?_ _ | refine blk_drew ?_ | refine blk_alloc ?_ _)); exact BK151.out⟩, ⟨by repeat (first | (with_reducible first | exact HB.out | apply below_alloc | apply pw_below_drewN | apply below_drew1 | refine below_set ?_ GE151.out) | exact HB.out)⟩⟩
                  ·rw [if_neg c28] at H
                   have c28b0 : decide (x14_5 < (l1.length : Int)) = false := decide_eq_false c28
                   clear c28
                   have H' := Aside0.mk H
                   clear H
                   go_wp2
                   repeat (go_quiet (fail); try go_wp2)
                   go_loopg [13, 15] k5 (fun kq v13 v15 w' => ∃ (x13_6 : Bool) (x15_6 : Int), v13 = .bool x13_6 ∧ v15 = .int .i64 x15_6 ∧ Aside0 (spec_l02Order.l3 kq l1 x6_2 x7_2 x8_2 x9_2 (rd l0_1 x9_2) x12_17 x13_6 x15_6 a0_0 l0_1 = some (r1, r2)) ∧ Aside0 (kq ≤ k5) ∧ Aside0 (Kd.R Kd.bool 4 w' w.heap.size (fun _ => True) (.slice (some ad166) x6_2.length co27) x6_2) ∧ Aside0 (Kd.R (Kd.int .i64) 2 w' w.heap.size (fun k_ => some k_ ≠ (u12 : Value).ownBlock) u7 x7_2) ∧ Aside0 (Kd.R (Kd.int .i64) 2 w' w.heap.size (fun k_ => some k_ ≠ (u7 : Value).ownBlock) u12 x12_17) ∧ Aside0 (w'.heap[gb151]? = some (.cells #[.int .i64 a0_0, (.slice (some ad158) l0_1.length c0_1)] 30 (0, 0))) ∧ Aside0 (Below w.heap.size w w'))
                   case atStart => exact ⟨(x13_5), (0), (by first | rfl | (simp; done) | (simp [*]; done)), (by first | rfl | (simp; done) | (simp [*]; done)), H', ⟨Nat.le_refl _⟩, ⟨by (with_reducible repeat (first | apply Kd.R_alloc | apply Kd.R_drewN | apply Kd.R_drew)); exact HO_6.out⟩, ⟨by (with_reducible repeat (first | apply Kd.R_alloc | apply Kd.R_drewN | apply Kd.R_drew)); exact HO_7.out⟩, ⟨by (with_reducible repeat (first | apply Kd.R_alloc | apply Kd.R_drewN | apply Kd.R_drew)); exact HO_12.out⟩, ⟨by (with_reducible repeat (first | refine blk_drewN ?_ _ | refine blk_drew ?_ | refine blk_alloc ?_ _)); exact BK151.out⟩, ⟨by repeat (first | (with_reducible first | exact HB.out | apply below_alloc | apply pw_below_drewN | apply below_drew1 | refine below_set ?_ GE151.out) | exact HB.out)⟩⟩
                   case round =>
                    clear H'
                    try clear c1
                    try clear p1
                    try clear q1
                    try clear hx1
                    try clear c2
                    try clear p2
                    try clear c3
                    try clear c3b0
                    try clear c3b1
                    try clear p6
                    try clear c9
                    try clear c11
                    try clear c11b0
                    try clear c14
                    try clear c15
                    try clear c15b0
                    try clear p15
                    try clear q15
                    try clear hx15
                    try clear c16
                    try clear c16b0
                    try clear p16
                    try clear q16
                    try clear hx16
                    try clear c22
                    try clear c22b0
                    try clear c22b1
                    try clear c23
                    try clear c25
                    try clear c25b0
                    try clear c26
                    try clear c26b0
                    try clear c28
                    try clear c28b0
                    try clear c29
                    try clear c30
                    try clear c30b0
                    try clear hcz12_0
                    try clear hcz12_1
                    try clear hcz13_0
                    try clear hcz13_1
                    try clear hcz19_0
                    try clear hcz19_1
                    try clear hfz12_0
                    try clear hfz12_1
                    try clear hfz13_0
                    try clear hfz13_1
                    try clear hfz19_0
                    try clear hfz19_1
                    try clear hx158_0
                    try clear hx166_0
                    try clear hx167_0
                    try clear hx167_1
                    try clear p1
                    try clear p15
                    try clear p158
                    try clear p16
                    try clear p166
                    try clear p167
                    try clear p2
                    try clear q1
                    try clear q15
                    try clear q158
                    try clear q16
                    try clear q166
                    try clear q167
                    obtain ⟨x13_6, x15_6, rfl, rfl, HA, HK6, HO_6, HO_7, HO_12, BK151, HB⟩ := hrel
                    cases gk with
                    | zero => exact absurd HA.out (by simp [spec_l02Order.l3])
                    | succ k6 =>
                     have H := HA.out
                     clear HA
                     simp only [spec_l02Order.l3] at H
                     by_cases c31 : x15_6 < (x12_17.length : Int)
                     ·rw [if_pos c31] at H
                      have c31b0 : decide (x15_6 < (x12_17.length : Int)) = true := decide_eq_true c31
                      clear c31
                      by_cases c32 : 0 ≤ x15_6
                      ·rw [if_pos c32] at H
                       have c32b0 : decide (0 ≤ x15_6) = true := decide_eq_true c32
                       clear c32
                       replace H := Option.bind_eq_some_iff.mp H
                       obtain ⟨t169, A330, H⟩ := H
                       replace H : (spec_l02Order.l4 k6 l1 x6_2 x7_2 x8_2 x9_2 (rd l0_1 x9_2) x12_17 x13_6 x15_6 t169 0 a0_0 l0_1) = some (r1, r2) := H
                       have A33 := Aside0.mk A330
                       clear A330
                       have H' := Aside0.mk H
                       clear H
                       obtain ⟨Ao34, co34, eo34⟩ := Kd.R_slice HO_12.out
                       subst eo34
                       have p168 : 0 ≤ (x15_6 : Int) := of_decide_eq_true (by first | (with_reducible assumption) | assumption)
                       have q168 : x15_6 < (x12_17.length : Int) := of_decide_eq_true (by first | (with_reducible assumption) | assumption)
                       obtain ⟨ad168, e168, hx168_0⟩ := Kd.at_int (Kd.R_reads' HO_12.out).2.2 x15_6 p168 q168
                       cases e168
                       replace p168 := eq_true p168
                       replace q168 := eq_true q168
                       go_wp2_with (first | (go_at_call 34; (with_reducible refine (spec_l01Below.calls k6 (rd x12_17 x15_6) t169 _ A33.out).mono ?_); rintro e w35 ⟨v170, rfl, ho0, hb⟩; have n0_ := Aside0.mk (Kd.R_below (by (with_reducible repeat (first | apply Kd.R_alloc | apply Kd.R_drewN | apply Kd.R_drew)); exact HO_6.out) hb); have n1_ := Aside0.mk (Kd.R_elder' (by (with_reducible repeat (first | apply Kd.R_alloc | apply Kd.R_drewN | apply Kd.R_drew)); exact HO_7.out) (Kd.R_base ho0) hb); have n2_ := Aside0.mk (Kd.R_elder' (by (with_reducible repeat (first | apply Kd.R_alloc | apply Kd.R_drewN | apply Kd.R_drew)); exact HO_12.out) (Kd.R_base ho0) hb); have n3_ := Aside0.mk (Kd.R_lower (Kd.R_new' (Kd.R_new' ho0 (Kd.R_lt (by (with_reducible repeat (first | apply Kd.R_alloc | apply Kd.R_drewN | apply Kd.R_drew)); exact HO_7.out))) (Kd.R_lt (by (with_reducible repeat (first | apply Kd.R_alloc | apply Kd.R_drewN | apply Kd.R_drew)); exact HO_12.out))) (below_size (by repeat (first | (with_reducible first | exact HB.out | apply below_alloc | apply pw_below_drewN | apply below_drew1 | refine below_set ?_ GE151.out) | exact HB.out)))); have n4_ := Aside0.mk (blk_below (g := gb151) (o := .cells #[.int .i64 a0_0, .slice (some ad158) l0_1.length c0_1] 30 (0, 0)) (by (with_reducible repeat (first | refine blk_drewN ?_ _ | refine blk_drew ?_ | refine blk_alloc ?_ _)); exact BK151.out) hb); have n5_ := Aside0.mk (below_step (by repeat (first | (with_reducible first | exact HB.out | apply below_alloc | apply pw_below_drewN | apply below_drew1 | refine below_set ?_ GE151.out) | exact HB.out)) hb); clear HO_6; clear HO_7; clear HO_12; clear BK151; clear HB; have HO_6 := n0_; have HO_7 := n1_; have HO_12 := n2_; have HO171 := n3_; have BK151 := n4_; have HB := n5_; clear n0_ n1_ n2_ n3_ n4_ n5_; (try clear hb); (try clear hb2); (try clear hk); (try clear hi); (try clear ho0)))

                       go_loopg [13, 17] k6 (fun kq v13 v17 w' => ∃ (x13_7 : Bool) (x17_7 : Int), v13 = .bool x13_7 ∧ v17 = .int .i64 x17_7 ∧ Aside0 (spec_l02Order.l4 kq l1 x6_2 x7_2 x8_2 x9_2 (rd l0_1 x9_2) x12_17 x13_7 x15_6 t169 x17_7 a0_0 l0_1 = some (r1, r2)) ∧ Aside0 (kq ≤ k6) ∧ Aside0 (Kd.R Kd.bool 4 w' w.heap.size (fun _ => True) (.slice (some ad166) x6_2.length co27) x6_2) ∧ Aside0 (Kd.R (Kd.int .i64) 2 w' w.heap.size (fun k_ => some k_ ≠ ((.slice (some ad168) x12_17.length co34) : Value).ownBlock ∧ some k_ ≠ (v170 : Value).ownBlock) u7 x7_2) ∧ Aside0 (Kd.R (Kd.int .i64) 2 w' w.heap.size (fun k_ => some k_ ≠ (u7 : Value).ownBlock ∧ some k_ ≠ (v170 : Value).ownBlock) (.slice (some ad168) x12_17.length co34) x12_17) ∧ Aside0 (Kd.R (Kd.int .i64) 2 w' w.heap.size (fun k_ => some k_ ≠ (u7 : Value).ownBlock ∧ some k_ ≠ ((.slice (some ad168) x12_17.length co34) : Value).ownBlock) v170 t169) ∧ Aside0 (w'.heap[gb151]? = some (.cells #[.int .i64 a0_0, (.slice (some ad158) l0_1.length c0_1)] 30 (0, 0))) ∧ Aside0 (Below w.heap.size w w'))
                       case atStart => exact ⟨(x13_6), (0), (by first | rfl | (simp; done) | (simp [*]; done)), (by first | rfl | (simp; done) | (simp [*]; done)), H', ⟨Nat.le_refl _⟩, ⟨by (with_reducible repeat (first | apply Kd.R_alloc | apply Kd.R_drewN | apply Kd.R_drew)); exact HO_6.out⟩, ⟨by (with_reducible repeat (first | apply Kd.R_alloc | apply Kd.R_drewN | apply Kd.R_drew)); exact HO_7.out⟩, ⟨by (with_reducible repeat (first | apply Kd.R_alloc | apply Kd.R_drewN | apply Kd.R_drew)); exact HO_12.out⟩, ⟨by (with_reducible repeat (first | apply Kd.R_alloc | apply Kd.R_drewN | apply Kd.R_drew)); exact Kd.R_mono HO171.out (fun _ hk => ⟨hk.1.2, hk.2⟩)⟩, ⟨by (with_reducible repeat (first | refine blk_drewN ?_ _ | refine blk_drew ?_ | refine blk_alloc ?_ _)); exact BK151.out⟩, ⟨by repeat (first | (with_reducible first | exact HB.out | apply below_alloc | apply pw_below_drewN | apply below_drew1 | refine below_set ?_ GE151.out) | exact HB.out)⟩⟩
                       case round =>
                        clear H'
                        try clear c1
                        try clear p1
                        try clear q1
                        try clear hx1
                        try clear c2
                        try clear p2
                        try clear c3
                        try clear c3b0
                        try clear c3b1
                        try clear p6
                        try clear c9
                        try clear c11
                        try clear c11b0
                        try clear c14
                        try clear c15
                        try clear c15b0
                        try clear p15
                        try clear q15
                        try clear hx15
                        try clear c16
                        try clear c16b0
                        try clear p16
                        try clear q16
                        try clear hx16
                        try clear c22
                        try clear c22b0
                        try clear c22b1
                        try clear c23
                        try clear c25
                        try clear c25b0
                        try clear c26
                        try clear c26b0
                        try clear c28
                        try clear c28b0
                        try clear c29
                        try clear c30
                        try clear c30b0
                        try clear c31
                        try clear c31b0
                        try clear c32
                        try clear c32b0
                        try clear hcz12_0
                        try clear hcz12_1
                        try clear hcz13_0
                        try clear hcz13_1
                        try clear hcz19_0
                        try clear hcz19_1
                        try clear hfz12_0
                        try clear hfz12_1
                        try clear hfz13_0
                        try clear hfz13_1
                        try clear hfz19_0
                        try clear hfz19_1
                        try clear hx158_0
                        try clear hx166_0
                        try clear hx167_0
                        try clear hx167_1
                        try clear hx168_0
                        try clear p1
                        try clear p15
                        try clear p158
                        try clear p16
                        try clear p166
                        try clear p167
                        try clear p168
                        try clear p2
                        try clear p6
                        try clear q1
                        try clear q15
                        try clear q158
                        try clear q16
                        try clear q166
                        try clear q167
                        try clear q168
                        obtain ⟨x13_7, x17_7, rfl, rfl, HA, HK7, HO_6, HO_7, HO_12, HO_16, BK151, HB⟩ := hrel
                        cases gk with
                        | zero => exact absurd HA.out (by simp [spec_l02Order.l4])
                        | succ k7 =>
                         have H := HA.out
                         clear HA
                         simp only [spec_l02Order.l4] at H
                         by_cases c36 : x17_7 < (t169.length : Int)
                         ·rw [if_pos c36] at H
                          have c36b0 : decide (x17_7 < (t169.length : Int)) = true := decide_eq_true c36
                          clear c36
                          by_cases c37 : x13_7 = true
                          ·subst c37
                           have H1 : (if 0 ≤ x17_7 then (if 0 ≤ (rd t169 x17_7) then (if (rd t169 x17_7) < (x6_2.length : Int) then (if rdOf false x6_2 (rd t169 x17_7) = true then (spec_l02Order.l4 k7 l1 x6_2 x7_2 x8_2 x9_2 (rd l0_1 x9_2) x12_17 true x15_6 t169 (wrap64 (x17_7 + 1)) a0_0 l0_1) else (spec_l02Order.l4 k7 l1 x6_2 x7_2 x8_2 x9_2 (rd l0_1 x9_2) x12_17 ((rd t169 x17_7) == (rd l0_1 x9_2)) x15_6 t169 (wrap64 (x17_7 + 1)) a0_0 l0_1)) else (none)) else (none)) else (none)) = some (r1, r2) := by rw [if_pos rfl] at H; exact H
                           clear H
                           have H := H1
                           clear H1
                           by_cases c38 : 0 ≤ x17_7
                           ·rw [if_pos c38] at H
                            have c38b0 : decide (0 ≤ x17_7) = true := decide_eq_true c38
                            clear c38
                            by_cases c39 : 0 ≤ (rd t169 x17_7)
                            ·rw [if_pos c39] at H
                             have c39b0 : decide (0 ≤ (rd t169 x17_7)) = true := decide_eq_true c39
                             clear c39
                             by_cases c40 : (rd t169 x17_7) < (x6_2.length : Int)
                             ·rw [if_pos c40] at H
                              have c40b0 : decide ((rd t169 x17_7) < (x6_2.length : Int)) = true := decide_eq_true c40
                              clear c40
                              obtain ⟨bq41, hbq41⟩ : ∃ b_ : Bool, b_ = (rdOf false x6_2 (rd t169 x17_7)) := ⟨_, rfl⟩
                              replace H : (if bq41 = true then (spec_l02Order.l4 k7 l1 x6_2 x7_2 x8_2 x9_2 (rd l0_1 x9_2) x12_17 true x15_6 t169 (wrap64 (x17_7 + 1)) a0_0 l0_1) else (spec_l02Order.l4 k7 l1 x6_2 x7_2 x8_2 x9_2 (rd l0_1 x9_2) x12_17 ((rd t169 x17_7) == (rd l0_1 x9_2)) x15_6 t169 (wrap64 (x17_7 + 1)) a0_0 l0_1)) = some (r1, r2) := by rw [← hbq41] at H; exact H
                              have Nbq41 := Aside0.mk hbq41
                              clear hbq41
                              by_cases c42 : bq41 = true
                              ·subst c42
                               have H1 : (spec_l02Order.l4 k7 l1 x6_2 x7_2 x8_2 x9_2 (rd l0_1 x9_2) x12_17 true x15_6 t169 (wrap64 (x17_7 + 1)) a0_0 l0_1) = some (r1, r2) := by rw [if_pos rfl] at H; exact H
                               clear H
                               have H := H1
                               clear H1
                               have H' := Aside0.mk H
                               clear H
                               obtain ⟨Ao43, co43, eo43⟩ := Kd.R_slice HO_16.out
                               subst eo43
                               have p172 : 0 ≤ (x17_7 : Int) := of_decide_eq_true (by first | (with_reducible assumption) | assumption)
                               have q172 : x17_7 < (t169.length : Int) := of_decide_eq_true (by first | (with_reducible assumption) | assumption)
                               obtain ⟨ad172, e172, hx172_0⟩ := Kd.at_int (Kd.R_reads' HO_16.out).2.2 x17_7 p172 q172
                               cases e172
                               replace p172 := eq_true p172
                               replace q172 := eq_true q172
                               have p173 : 0 ≤ ((rd t169 x17_7) : Int) := of_decide_eq_true (by first | (with_reducible assumption) | assumption)
                               have q173 : (rd t169 x17_7) < (x6_2.length : Int) := of_decide_eq_true (by first | (with_reducible assumption) | assumption)
                               obtain ⟨ad173, e173, hx173_0⟩ := Kd.at_bool (Kd.R_reads' HO_6.out).2.2 (rd t169 x17_7) p173 q173
                               (try rw [← Nbq41.out] at hx173_0)
                               obtain rfl : ad166 = ad173 := (by injection e173)
                               replace p173 := eq_true p173
                               replace q173 := eq_true q173
                               go_wp2
                               repeat (go_quiet (fail); try go_wp2)
                               go_roundg k7
                               case measure => have := HK1.out; have := HK2.out; have := HJ9.out; have := HJ17.out; have := HK5.out; have := HK6.out; have := HK7.out; omega
                               case rel => exact ⟨(true), (wrap64 (x17_7 + 1)), (by first | rfl | (simp; done) | (simp [*]; done)), (by first | rfl | (simp; done) | (simp [*]; done)), H', ⟨by have := HK1.out; have := HK2.out; have := HJ9.out; have := HJ17.out; have := HK5.out; have := HK6.out; have := HK7.out; omega⟩, ⟨by (with_reducible repeat (first | apply Kd.R_alloc | apply Kd.R_drewN | apply Kd.R_drew)); exact HO_6.out⟩, ⟨by (with_reducible repeat (first | apply Kd.R_alloc | apply Kd.R_drewN | apply Kd.R_drew)); exact HO_7.out⟩, ⟨by (with_reducible repeat (first | apply Kd.R_alloc | apply Kd.R_drewN | apply Kd.R_drew)); exact HO_12.out⟩, ⟨by (with_reducible repeat (first | apply Kd.R_alloc | apply Kd.R_drewN | apply Kd.R_drew)); exact HO_16.out⟩, ⟨by (with_reducible repeat (first | refine blk_drewN ?_ _ | refine blk_drew ?_ | refine blk_alloc ?_ _)); exact BK151.out⟩, ⟨by repeat (first | (with_reducible first | exact HB.out | apply below_alloc | apply pw_below_drewN | apply below_drew1 | refine below_set ?_ GE151.out) | exact HB.out)⟩⟩
                              ·replace c42 := Bool.eq_false_iff.mpr c42
                               subst c42
                               have H1 : (spec_l02Order.l4 k7 l1 x6_2 x7_2 x8_2 x9_2 (rd l0_1 x9_2) x12_17 ((rd t169 x17_7) == (rd l0_1 x9_2)) x15_6 t169 (wrap64 (x17_7 + 1)) a0_0 l0_1) = some (r1, r2) := by rw [if_neg (show ¬ (false = true) by decide)] at H; exact H
                               clear H
                               have H := H1
                               clear H1
                               have H' := Aside0.mk H
                               clear H
                               obtain ⟨Ao44, co44, eo44⟩ := Kd.R_slice HO_16.out
                               subst eo44
                               have p172 : 0 ≤ (x17_7 : Int) := of_decide_eq_true (by first | (with_reducible assumption) | assumption)
                               have q172 : x17_7 < (t169.length : Int) := of_decide_eq_true (by first | (with_reducible assumption) | assumption)
                               obtain ⟨ad172, e172, hx172_0⟩ := Kd.at_int (Kd.R_reads' HO_16.out).2.2 x17_7 p172 q172
                               cases e172
                               replace p172 := eq_true p172
                               replace q172 := eq_true q172
                               have p173 : 0 ≤ ((rd t169 x17_7) : Int) := of_decide_eq_true (by first | (with_reducible assumption) | assumption)
                               have q173 : (rd t169 x17_7) < (x6_2.length : Int) := of_decide_eq_true (by first | (with_reducible assumption) | assumption)
                               obtain ⟨ad173, e173, hx173_0⟩ := Kd.at_bool (Kd.R_reads' HO_6.out).2.2 (rd t169 x17_7) p173 q173
                               (try rw [← Nbq41.out] at hx173_0)
                               obtain rfl : ad166 = ad173 := (by injection e173)
                               replace p173 := eq_true p173
                               replace q173 := eq_true q173
                               have p174 : 0 ≤ (x17_7 : Int) := of_decide_eq_true (by first | (with_reducible assumption) | assumption)
                               have q174 : x17_7 < (t169.length : Int) := of_decide_eq_true (by first | (with_reducible assumption) | assumption)
                               obtain ⟨ad174, e174, hx174_0⟩ := Kd.at_int (Kd.R_reads' HO_16.out).2.2 x17_7 p174 q174
                               obtain rfl : ad172 = ad174 := (by injection e174)
                               replace p174 := eq_true p174
                               replace q174 := eq_true q174
                               go_wp2
                               repeat (go_quiet (fail); try go_wp2)
                               go_roundg k7
                               case measure => have := HK1.out; have := HK2.out; have := HJ9.out; have := HJ17.out; have := HK5.out; have := HK6.out; have := HK7.out; omega
                               case rel => exact ⟨(((rd t169 x17_7) == (rd l0_1 x9_2))), (wrap64 (x17_7 + 1)), (by first | rfl | (simp; done) | (simp [*]; done)), (by first | rfl | (simp; done) | (simp [*]; done)), H', ⟨by have := HK1.out; have := HK2.out; have := HJ9.out; have := HJ17.out; have := HK5.out; have := HK6.out; have := HK7.out; omega⟩, ⟨by (with_reducible repeat (first | apply Kd.R_alloc | apply Kd.R_drewN | apply Kd.R_drew)); exact HO_6.out⟩, ⟨by (with_reducible repeat (first | apply Kd.R_alloc | apply Kd.R_drewN | apply Kd.R_drew)); exact HO_7.out⟩, ⟨by (with_reducible repeat (first | apply Kd.R_alloc | apply Kd.R_drewN | apply Kd.R_drew)); exact HO_12.out⟩, ⟨by (with_reducible repeat (first | apply Kd.R_alloc | apply Kd.R_drewN | apply Kd.R_drew)); exact HO_16.out⟩, ⟨by (with_reducible repeat (first | refine blk_drewN ?_ _ | refine blk_drew ?_ | refine blk_alloc ?_ _)); exact BK151.out⟩, ⟨by repeat (first | (with_reducible first | exact HB.out | apply below_alloc | apply pw_below_drewN | apply below_drew1 | refine below_set ?_ GE151.out) | exact HB.out)⟩⟩
                             ·rw [if_neg c40] at H
                              exact absurd H (by simp)
                            ·rw [if_neg c39] at H
                             exact absurd H (by simp)
                           ·rw [if_neg c38] at H
                            exact absurd H (by simp)
                          ·replace c37 := Bool.eq_false_iff.mpr c37
                           subst c37
                           have H1 : (spec_l02Order.l4 k7 l1 x6_2 x7_2 x8_2 x9_2 (rd l0_1 x9_2) x12_17 false x15_6 t169 (wrap64 (x17_7 + 1)) a0_0 l0_1) = some (r1, r2) := by rw [if_neg (show ¬ (false = true) by decide)] at H; exact H
                           clear H
                           have H := H1
                           clear H1
                           have H' := Aside0.mk H
                           clear H
                           obtain ⟨Ao45, co45, eo45⟩ := Kd.R_slice HO_16.out
                           subst eo45
                           go_wp2
                           repeat (go_quiet (fail); try go_wp2)
                           go_roundg k7
                           case measure => have := HK1.out; have := HK2.out; have := HJ9.out; have := HJ17.out; have := HK5.out; have := HK6.out; have := HK7.out; omega
                           case rel => exact ⟨(false), (wrap64 (x17_7 + 1)), (by first | rfl | (simp; done) | (simp [*]; done)), (by first | rfl | (simp; done) | (simp [*]; done)), H', ⟨by have := HK1.out; have := HK2.out; have := HJ9.out; have := HJ17.out; have := HK5.out; have := HK6.out; have := HK7.out; omega⟩, ⟨by (with_reducible repeat (first | apply Kd.R_alloc | apply Kd.R_drewN | apply Kd.R_drew)); exact HO_6.out⟩, ⟨by (with_reducible repeat (first | apply Kd.R_alloc | apply Kd.R_drewN | apply Kd.R_drew)); exact HO_7.out⟩, ⟨by (with_reducible repeat (first | apply Kd.R_alloc | apply Kd.R_drewN | apply Kd.R_drew)); exact HO_12.out⟩, ⟨by (with_reducible repeat (first | apply Kd.R_alloc | apply Kd.R_drewN | apply Kd.R_drew)); exact HO_16.out⟩, ⟨by (with_reducible repeat (first | refine blk_drewN ?_ _ | refine blk_drew ?_ | refine blk_alloc ?_ _)); exact BK151.out⟩, ⟨by repeat (first | (with_reducible first | exact HB.out | apply below_alloc | apply pw_below_drewN | apply below_drew1 | refine below_set ?_ GE151.out) | exact HB.out)⟩⟩
                         ·rw [if_neg c36] at H
                          have c36b0 : decide (x17_7 < (t169.length : Int)) = false := decide_eq_false c36
                          clear c36
                          have H' := Aside0.mk H
                          clear H
                          obtain ⟨Ao46, co46, eo46⟩ := Kd.R_slice HO_16.out
                          subst eo46
                          go_wp2
                          repeat (go_quiet (fail); try go_wp2)
                          go_roundg k7
                          case measure => have := HK1.out; have := HK2.out; have := HJ9.out; have := HJ17.out; have := HK5.out; have := HK6.out; have := HK7.out; omega
                          case rel => exact ⟨(x13_7), (wrap64 (x15_6 + 1)), (by first | rfl | (simp; done) | (simp [*]; done)), (by first | rfl | (simp; done) | (simp [*]; done)), H', ⟨by have := HK1.out; have := HK2.out; have := HJ9.out; have := HJ17.out; have := HK5.out; have := HK6.out; have := HK7.out; omega⟩, ⟨by (with_reducible repeat (first | apply Kd.R_alloc | apply Kd.R_drewN | apply Kd.R_drew)); exact HO_6.out⟩, ⟨by (with_reducible repeat (first | apply Kd.R_alloc | apply Kd.R_drewN | apply Kd.R_drew)); exact Kd.R_mono HO_7.out (fun _ hk => hk.1)⟩, ⟨by (with_reducible repeat (first | apply Kd.R_alloc | apply Kd.R_drewN | apply Kd.R_drew)); exact Kd.R_mono HO_12.out (fun _ hk => hk.1)⟩, ⟨by (with_reducible repeat (first | refine blk_drewN ?_ _ | refine blk_drew ?_ | refine blk_alloc ?_ _)); exact BK151.out⟩, ⟨by repeat (first | (with_reducible first | exact HB.out | apply below_alloc | apply pw_below_drewN | apply below_drew1 | refine below_set ?_ GE151.out) | exact HB.out)⟩⟩
                      ·rw [if_neg c32] at H
                       exact absurd H (by simp)
                     ·rw [if_neg c31] at H
                      have c31b0 : decide (x15_6 < (x12_17.length : Int)) = false := decide_eq_false c31
                      clear c31
                      by_cases c47 : x13_6 = true
                      ·subst c47
                       have H1 : (spec_l02Order.l5 k6 l1 x6_2 x7_2 x9_2 x12_17 0 a0_0 l0_1) = some (r1, r2) := by rw [if_pos rfl] at H; exact H
                       clear H
                       have H := H1
                       clear H1
                       have H' := Aside0.mk H
                       clear H
                       obtain ⟨Ao48, co48, eo48⟩ := Kd.R_slice HO_12.out
                       subst eo48
                       go_wp2
                       repeat (go_quiet (fail); try go_wp2)
                       go_loopg [18] k6 (fun kq v18 w' => ∃ (x6_7 : List Bool) (x18_7 : Int), v18 = .int .i64 x18_7 ∧ Aside0 (spec_l02Order.l5 kq l1 x6_7 x7_2 x9_2 x12_17 x18_7 a0_0 l0_1 = some (r1, r2)) ∧ Aside0 (kq ≤ k6) ∧ Aside0 (Kd.R Kd.bool 4 w' w.heap.size (fun _ => True) (.slice (some ad166) x6_2.length co27) x6_7) ∧ Aside0 (Kd.R (Kd.int .i64) 2 w' w.heap.size (fun k_ => some k_ ≠ ((.slice Ao48 x12_17.length co48) : Value).ownBlock) u7 x7_2) ∧ Aside0 (Kd.R (Kd.int .i64) 2 w' w.heap.size (fun k_ => some k_ ≠ (u7 : Value).ownBlock) (.slice Ao48 x12_17.length co48) x12_17) ∧ Aside0 (w'.heap[gb151]? = some (.cells #[.int .i64 a0_0, (.slice (some ad158) l0_1.length c0_1)] 30 (0, 0))) ∧ Aside0 (Below w.heap.size w w'))
                       case atStart => exact ⟨(x6_2), (0), (by first | rfl | (simp; done) | (simp [*]; done)), H', ⟨Nat.le_refl _⟩, ⟨by (with_reducible repeat (first | apply Kd.R_alloc | apply Kd.R_drewN | apply Kd.R_drew)); exact HO_6.out⟩, ⟨by (with_reducible repeat (first | apply Kd.R_alloc | apply Kd.R_drewN | apply Kd.R_drew)); exact HO_7.out⟩, ⟨by (with_reducible repeat (first | apply Kd.R_alloc | apply Kd.R_drewN | apply Kd.R_drew)); exact HO_12.out⟩, ⟨by (with_reducible repeat (first | refine blk_drewN ?_ _ | refine blk_drew ?_ | refine blk_alloc ?_ _)); exact BK151.out⟩, ⟨by repeat (first | (with_reducible first | exact HB.out | apply below_alloc | apply pw_below_drewN | apply below_drew1 | refine below_set ?_ GE151.out) | exact HB.out)⟩⟩
                       case round =>
                        clear H'
                        try clear c1
                        try clear p1
                        try clear q1
                        try clear hx1
                        try clear c2
                        try clear p2
                        try clear c3
                        try clear c3b0
                        try clear c3b1
                        try clear c4
                        try clear q4
                        try clear p6
                        try clear c9
                        try clear c11
                        try clear c11b0
                        try clear c14
                        try clear c15
                        try clear c15b0
                        try clear p15
                        try clear q15
                        try clear hx15
                        try clear c16
                        try clear c16b0
                        try clear p16
                        try clear q16
                        try clear hx16
                        try clear p17
                        try clear q17
                        try clear hx17
                        try clear c22
                        try clear c22b0
                        try clear c22b1
                        try clear c23
                        try clear c25
                        try clear c25b0
                        try clear c26
                        try clear c26b0
                        try clear c28
                        try clear c28b0
                        try clear c29
                        try clear c30
                        try clear c30b0
                        try clear c31
                        try clear c31b0
                        try clear c32
                        try clear c32b0
                        try clear c36
                        try clear c36b0
                        try clear c37
                        try clear c38
                        try clear c38b0
                        try clear c39
                        try clear c39b0
                        try clear c40
                        try clear c40b0
                        try clear q41
                        try clear c42
                        try clear c47
                        try clear hcz12_0
                        try clear hcz12_1
                        try clear hcz13_0
                        try clear hcz13_1
                        try clear hcz19_0
                        try clear hcz19_1
                        try clear hfz12_0
                        try clear hfz12_1
                        try clear hfz13_0
                        try clear hfz13_1
                        try clear hfz19_0
                        try clear hfz19_1
                        try clear hx158_0
                        try clear hx166_0
                        try clear hx167_0
                        try clear hx167_1
                        try clear hx168_0
                        try clear hx172_0
                        try clear hx173_0
                        try clear hx174_0
                        try clear p1
                        try clear p15
                        try clear p158
                        try clear p16
                        try clear p166
                        try clear p167
                        try clear p168
                        try clear p172
                        try clear p173
                        try clear p174
                        try clear p2
                        try clear p6
                        try clear q1
                        try clear q15
                        try clear q158
                        try clear q16
                        try clear q166
                        try clear q167
                        try clear q168
                        try clear q172
                        try clear q173
                        try clear q174
                        obtain ⟨x6_7, x18_7, rfl, HA, HK7, HO_6, HO_7, HO_12, BK151, HB⟩ := hrel
                        have hl6_7 := (Kd.R_reads' HO_6.out).1
                        rw [hl6_7] at HO_6
                        (try simp only [hl6_7])
                        (try simp only [hl6_7] at BK151)
                        (try simp only [hl6_7] at HO_7)
                        (try simp only [hl6_7] at HO_12)
                        cases gk with
                        | zero => exact absurd HA.out (by simp [spec_l02Order.l5])
                        | succ k7 =>
                         have H := HA.out
                         clear HA
                         simp only [spec_l02Order.l5] at H
                         by_cases c49 : x18_7 < (x12_17.length : Int)
                         ·rw [if_pos c49] at H
                          have c49b0 : decide (x18_7 < (x12_17.length : Int)) = true := decide_eq_true c49
                          clear c49
                          by_cases c50 : 0 ≤ x18_7
                          ·rw [if_pos c50] at H
                           have c50b0 : decide (0 ≤ x18_7) = true := decide_eq_true c50
                           clear c50
                           by_cases c51 : 0 ≤ (rd x12_17 x18_7)
                           ·rw [if_pos c51] at H
                            have c51b0 : decide (0 ≤ (rd x12_17 x18_7)) = true := decide_eq_true c51
                            clear c51
                            by_cases c52 : (rd x12_17 x18_7) < (x6_7.length : Int)
                            ·rw [if_pos c52] at H
                             have c52b0 : decide ((rd x12_17 x18_7) < (x6_7.length : Int)) = true := decide_eq_true c52
                             clear c52
                             obtain ⟨y176, hy176⟩ : ∃ y_ : List Bool, y_ = (x6_7.set ((rd x12_17 x18_7) : Int).toNat true) := ⟨_, rfl⟩
                             replace H : (spec_l02Order.l5 k7 l1 y176 x7_2 x9_2 x12_17 (wrap64 (x18_7 + 1)) a0_0 l0_1) = some (r1, r2) := by first | (rw [hy176]; with_reducible exact H) | (have H2_ := (Option.bind_some _ _).symm.trans H; rw [hy176]; with_reducible exact H2_) | (have H2_ := (Option.bind_some _ _).symm.trans H; with_reducible exact H2_) | with_reducible exact H | (rw [hy176]; exact H) | exact H
                             have Ny176 := Aside0.mk hy176
                             clear hy176
                             have H' := Aside0.mk H
                             clear H
                             have p175 : 0 ≤ (x18_7 : Int) := of_decide_eq_true (by first | (with_reducible assumption) | assumption)
                             have q175 : x18_7 < (x12_17.length : Int) := of_decide_eq_true (by first | (with_reducible assumption) | assumption)
                             obtain ⟨ad175, e175, hx175_0⟩ := Kd.at_int (Kd.R_reads' HO_12.out).2.2 x18_7 p175 q175
                             cases e175
                             replace p175 := eq_true p175
                             replace q175 := eq_true q175
                             have p53 : 0 ≤ ((rd x12_17 x18_7) : Int) := of_decide_eq_true (by first | (with_reducible assumption) | assumption)
                             have q53 : ((rd x12_17 x18_7) : Int) < ((x6_7.length : Int) : Int) := of_decide_eq_true (by first | (with_reducible assumption) | assumption)
                             obtain ⟨go53, co53, eo53, gb53, gl53, cl53, HG53⟩ := Kd.R_form HO_6.out (by omega)
                             (first | cases eo53 | (injection eo53 with ea_ en_ ec_; (first | subst ea_ | (injection ea_ with ea_; subst ea_)); subst ec_; clear en_))
                             have GB53 := Aside0.mk gb53
                             have GG53 := Aside0.mk HG53
                             clear gb53 gl53 HG53
                             (first | simp only [add_plain] at hx166_0 | skip)
                             (first | simp only [add_plain] at hx173_0 | skip)
                             obtain ⟨hx53_0, hf53_0⟩ := Kd.R_celln false HO_6.out ((rd x12_17 x18_7) : Int) p53 q53
                             replace p53 := eq_true p53
                             replace q53 := eq_true q53
                             have HP54 := Kd.R_putg HO_6.out ((rd x12_17 x18_7) : Int) true
                             go_wp2_with (first | ((with_reducible refine gate_store (t := 4) (p := 117) rfl ?_); (try (rw [drewN_self wr]; generalize hq_ : World.drewN wr _ = wr; have n0_ := Aside0.mk (Kd.R_at hq_ HO_6.out); have n1_ := Aside0.mk (Kd.R_at hq_ HO_7.out); have n2_ := Aside0.mk (Kd.R_at hq_ HO_12.out); have n3_ := Aside0.mk (blk_at hq_ BK151.out); have n4_ := Aside0.mk (below_at hq_ HB.out); clear hq_ HO_6 HO_7 HO_12 BK151 HB; have HO_6 := n0_; have HO_7 := n1_; have HO_12 := n2_; have BK151 := n3_; have HB := n4_; clear n0_ n1_ n2_ n3_ n4_; (try (have HP54 := Kd.R_putg HO_6.out ((rd x12_17 x18_7) : Int) true)))); refine store_event (t := 4) (p := 117) (v := ?vo_w55) (w1 := (wr.setCell ⟨go53, ((rd x12_17 x18_7) : Int).toNat, none⟩ (.bool true))) ?hg ?ho ?hn ?hr ?_; (case ho => rfl); (case hg => rfl); (case hn => rfl); (case hr => first | (go_simp; done) | (go_simp; rfl)); intro w55 hw; have hg : wr.grownBy w55 (some go53) := (by rw [hw]; exact HP54.2); have hp_ : Kd.R Kd.bool 4 w55 w.heap.size (fun _ => True) (.slice (some ⟨go53, 0, none⟩) x6_7.length co27) y176 := (by rw [hw, Ny176.out]; exact HP54.1); clear HP54; have n0_ := Aside0.mk (hp_); have n1_ := Aside0.mk (Kd.R_over' (v := (.slice (some ⟨go53, 0, none⟩) x6_7.length co27)) (by (with_reducible repeat (first | apply Kd.R_alloc | apply Kd.R_drewN | apply Kd.R_drew)); exact HO_7.out) (Kd.R_typed HO_6.out) (by decide) hg); have n2_ := Aside0.mk (Kd.R_over' (v := (.slice (some ⟨go53, 0, none⟩) x6_7.length co27)) (by (with_reducible repeat (first | apply Kd.R_alloc | apply Kd.R_drewN | apply Kd.R_drew)); exact HO_12.out) (Kd.R_typed HO_6.out) (by decide) hg); have n3_ := Aside0.mk (blk_grown (g := gb151) (o := .cells #[.int .i64 a0_0, .slice (some ad158) l0_1.length c0_1] 30 (0, 0)) (by (with_reducible repeat (first | refine blk_drewN ?_ _ | refine blk_drew ?_ | refine blk_alloc ?_ _)); exact BK151.out) hg (Kd.R_ne HO_6.out BK151.out (by decide))); have n4_ := Aside0.mk ((by rw [hw]; exact below_set (HB.out) GB53.out : Below w.heap.size w w55)); clear HO_6; clear HO_7; clear HO_12; clear BK151; clear HB; have HO_6 := n0_; have HO_7 := n1_; have HO_12 := n2_; have BK151 := n3_; have HB := n4_; clear n0_ n1_ n2_ n3_ n4_; clear hg hw hp_))

                             (try simp only [← hl6_7])
                             go_roundg k7
                             case measure => have := HK1.out; have := HK2.out; have := HJ9.out; have := HJ17.out; have := HK5.out; have := HK6.out; have := HK7.out; omega
                             case rel => exact ⟨(y176), (wrap64 (x18_7 + 1)), (by first | rfl | (simp; done) | (simp [*]; done)), H', ⟨by have := HK1.out; have := HK2.out; have := HJ9.out; have := HJ17.out; have := HK5.out; have := HK6.out; have := HK7.out; omega⟩, ⟨by (try simp only [hl6_7]); (with_reducible repeat (first | apply Kd.R_alloc | apply Kd.R_drewN | apply Kd.R_drew)); exact HO_6.out⟩, ⟨by (try simp only [hl6_7]); (with_reducible repeat (first | apply Kd.R_alloc | apply Kd.R_drewN | apply Kd.R_drew)); exact HO_7.out⟩, ⟨by (try simp only [hl6_7]); (with_reducible repeat (first | apply Kd.R_alloc | apply Kd.R_drewN | apply Kd.R_drew)); exact HO_12.out⟩, ⟨by (try simp only [hl6_7]); (with_reducible repeat (first | refine blk_drewN ?_ _ | refine blk_drew ?_ | refine blk_alloc ?_ _)); exact BK151.out⟩, ⟨by repeat (first | (with_reducible first | exact HB.out | apply below_alloc | apply pw_below_drewN | apply below_drew1 | refine below_set ?_ GE151.out) | exact HB.out)⟩⟩
                            ·rw [if_neg c52] at H
                             exact absurd H (by simp)
                           ·rw [if_neg c51] at H
                            exact absurd H (by simp)
                          ·rw [if_neg c50] at H
                           exact absurd H (by simp)
                         ·rw [if_neg c49] at H
                          have c49b0 : decide (x18_7 < (x12_17.length : Int)) = false := decide_eq_false c49
                          clear c49
                          by_cases c56 : x7_2.length + x12_17.length < 17592186044416
                          ·rw [if_pos c56] at H
                           have LMc56 := Aside0.mk c56
                           clear c56
                           obtain ⟨y177, hy177⟩ : ∃ y_ : List Int, y_ = (x7_2 ++ x12_17) := ⟨_, rfl⟩
                           replace H : (spec_l02Order.l1 k7 l1 x6_7 y177 true (wrap64 (x9_2 + 1)) a0_0 l0_1) = some (r1, r2) := by first | (rw [hy177]; with_reducible exact H) | (have H2_ := (Option.bind_some _ _).symm.trans H; rw [hy177]; with_reducible exact H2_) | (have H2_ := (Option.bind_some _ _).symm.trans H; with_reducible exact H2_) | with_reducible exact H | (rw [hy177]; exact H) | exact H
                           have Ny177 := Aside0.mk hy177
                           clear hy177
                           have H' := Aside0.mk H
                           clear H
                           go_wp2_with (first | ((with_reducible refine gate_builtin (b := .append) (xs := #[.tmp 118, .tmp 119]) rfl ?_); at_builtin; refine Kd.R_append_rows (Kd.int .i64) (w0 := w) w.heap.size rfl (.tmp 118) (.tmp 119) 22 2 (.int .i64 0) 8 rfl Tryz.underlying22 info2 rfl (by decide) (by omega) u7 x7_2 x12_17 _ _ _ (fun k_ => some k_ ≠ (.slice Ao48 x12_17.length co48 : Value).ownBlock) (fun _ => False) rfl rfl ?aO ?aR (fun _ _ h => h) (fun _ h => h.elim) ?aF ?aB ?aS ?aL ?_; (case aR => repeat (first | exact (Kd.R_reads' HO_12.out).2.2 | (with_reducible refine Kd.C_alloc ?_ _) | (with_reducible refine Kd.C_drewN ?_ _) | (with_reducible refine Kd.C_drew ?_))); (case aB => exact (by repeat (first | (with_reducible first | exact HB.out | apply below_alloc | apply pw_below_drewN | apply below_drew1 | refine below_set ?_ GE151.out) | exact HB.out))); (case aF => exact (fun k_ hk => Kd.fresh' (Kd.R_lt (by (with_reducible repeat (first | apply Kd.R_alloc | apply Kd.R_drewN | apply Kd.R_drew)); exact HO_12.out)) k_ hk)); (case aO => exact (by (with_reducible repeat (first | apply Kd.R_alloc | apply Kd.R_drewN | apply Kd.R_drew)); exact HO_7.out)); (case aS => exact (below_size (by repeat (first | (with_reducible first | exact HB.out | apply below_alloc | apply pw_below_drewN | apply below_drew1 | refine below_set ?_ GE151.out) | exact HB.out)))); (case aL => have := LMc56.out; omega); intro v178 w57 ho hb hg hat; rw [← Ny177.out] at ho; have n0_ := Aside0.mk (Kd.R_over' (by (with_reducible repeat (first | apply Kd.R_alloc | apply Kd.R_drewN | apply Kd.R_drew)); exact HO_6.out) (Kd.R_typed (by (with_reducible repeat (first | apply Kd.R_alloc | apply Kd.R_drewN | apply Kd.R_drew)); exact HO_7.out)) (by decide) hg); have n1_ := Aside0.mk (Kd.R_after (ok := (fun _ => True)) (by (with_reducible repeat (first | apply Kd.R_alloc | apply Kd.R_drewN | apply Kd.R_drew)); exact Kd.R_mono HO_12.out (fun _ hk => ⟨trivial, hk⟩)) hg hat); have n2_ := Aside0.mk (blk_grown (g := gb151) (o := .cells #[.int .i64 a0_0, .slice (some ad158) l0_1.length c0_1] 30 (0, 0)) (by (with_reducible repeat (first | refine blk_drewN ?_ _ | refine blk_drew ?_ | refine blk_alloc ?_ _)); exact BK151.out) hg (Kd.R_ne HO_7.out BK151.out (by decide))); have n3_ := Aside0.mk (hb); have n4_ := Aside0.mk (ho); clear HO_6; clear HO_12; clear BK151; clear HB; clear HO_7; have HO_6 := n0_; have HO_12 := n1_; have BK151 := n2_; have HB := n3_; have HO179 := n4_; clear n0_ n1_ n2_ n3_ n4_; clear ho hb hg hat))

                           (try simp only [← hl6_7])
                           go_roundg k7
                           case measure => have := HK1.out; have := HK2.out; have := HJ9.out; have := HJ17.out; have := HK5.out; have := HK6.out; have := HK7.out; omega
                           case rel => exact ⟨(x6_7), (y177), (true), (wrap64 (x9_2 + 1)), (by first | rfl | (simp; done) | (simp [*]; done)), (by first | rfl | (simp; done) | (simp [*]; done)), H', ⟨by have := HK1.out; have := HK2.out; have := HJ9.out; have := HJ17.out; have := HK5.out; have := HK6.out; have := HK7.out; omega⟩, ⟨by (try simp only [hl6_7]); (with_reducible repeat (first | apply Kd.R_alloc | apply Kd.R_drewN | apply Kd.R_drew)); exact HO_6.out⟩, ⟨by (try simp only [hl6_7]); (with_reducible repeat (first | apply Kd.R_alloc | apply Kd.R_drewN | apply Kd.R_drew)); exact Kd.R_mono HO179.out (fun _ hk => trivial)⟩, ⟨by (try simp only [hl6_7]); (with_reducible repeat (first | refine blk_drewN ?_ _ | refine blk_drew ?_ | refine blk_alloc ?_ _)); exact BK151.out⟩, ⟨by repeat (first | (with_reducible first | exact HB.out | apply below_alloc | apply pw_below_drewN | apply below_drew1 | refine below_set ?_ GE151.out) | exact HB.out)⟩⟩
                          ·rw [if_neg c56] at H
                           exact absurd H (by simp)
                      ·replace c47 := Bool.eq_false_iff.mpr c47
                       subst c47
                       have H1 : (spec_l02Order.l1 k6 l1 x6_2 x7_2 x8_2 (wrap64 (x9_2 + 1)) a0_0 l0_1) = some (r1, r2) := by rw [if_neg (show ¬ (false = true) by decide)] at H; exact H
                       clear H
                       have H := H1
                       clear H1
                       have H' := Aside0.mk H
                       clear H
                       obtain ⟨Ao58, co58, eo58⟩ := Kd.R_slice HO_12.out
                       subst eo58
                       go_wp2
                       repeat (go_quiet (fail); try go_wp2)
                       go_roundg k6
                       case measure => have := HK1.out; have := HK2.out; have := HJ9.out; have := HJ17.out; have := HK5.out; have := HK6.out; omega
                       case rel => exact ⟨(x6_2), (x7_2), (x8_2), (wrap64 (x9_2 + 1)), (by first | rfl | (simp; done) | (simp [*]; done)), (by first | rfl | (simp; done) | (simp [*]; done)), H', ⟨by have := HK1.out; have := HK2.out; have := HJ9.out; have := HJ17.out; have := HK5.out; have := HK6.out; omega⟩, ⟨by (with_reducible repeat (first | apply Kd.R_alloc | apply Kd.R_drewN | apply Kd.R_drew)); exact HO_6.out⟩, ⟨by (with_reducible repeat (first | apply Kd.R_alloc | apply Kd.R_drewN | apply Kd.R_drew)); exact Kd.R_mono HO_7.out (fun _ hk => trivial)⟩, ⟨by (with_reducible repeat (first | refine blk_drewN ?_ _ | refine blk_drew ?_ | refine blk_alloc ?_ _)); exact BK151.out⟩, ⟨by repeat (first | (with_reducible first | exact HB.out | apply below_alloc | apply pw_below_drewN | apply below_drew1 | refine below_set ?_ GE151.out) | exact HB.out)⟩⟩
               ·rw [if_neg c26] at H
                exact absurd H (by simp)
              ·rw [if_neg c25] at H
               exact absurd H (by simp)
           ·rw [if_neg c16] at H
            exact absurd H (by simp)
          ·rw [if_neg c15] at H
           exact absurd H (by simp)
         ·replace c14 := Bool.eq_false_iff.mpr c14
          subst c14
          have H1 : (spec_l02Order.l0 kj9 l1 x6_2 x7_2 x8_2 a0_0 l0_1) = some (r1, r2) := by rw [if_neg (show ¬ (false = true) by decide)] at H; exact H
          clear H
          have H := H1
          clear H1
          have H' := Aside0.mk H
          clear H
          go_wp2
          repeat (go_quiet (fail); try go_wp2)
          go_roundg kj9
          case measure => have := HK1.out; have := HK2.out; have := HJ9.out; omega
          case rel => exact ⟨(x6_2), (x7_2), (x8_2), (by first | rfl | (simp; done) | (simp [*]; done)), H', ⟨by have := HK1.out; have := HK2.out; have := HJ9.out; omega⟩, ⟨by (with_reducible repeat (first | apply Kd.R_alloc | apply Kd.R_drewN | apply Kd.R_drew)); exact HO_6.out⟩, ⟨by (with_reducible repeat (first | apply Kd.R_alloc | apply Kd.R_drewN | apply Kd.R_drew)); exact HO_7.out⟩, ⟨by (with_reducible repeat (first | refine blk_drewN ?_ _ | refine blk_drew ?_ | refine blk_alloc ?_ _)); exact BK151.out⟩, ⟨by repeat (first | (with_reducible first | exact HB.out | apply below_alloc | apply pw_below_drewN | apply below_drew1 | refine below_set ?_ GE151.out) | exact HB.out)⟩⟩
    ·replace c9 := Bool.eq_false_iff.mpr c9
     subst c9
     have H1 : (some (x7_1, ((x7_1.length : Int) == (l0_1.length : Int)))) = some (r1, r2) := by rw [if_neg (show ¬ (false = true) by decide)] at H; exact H
     clear H
     have H := H1
     clear H1
     simp only [Option.some.injEq, Prod.mk.injEq] at H
     obtain ⟨rfl, rfl⟩ := H
     obtain ⟨Ao59, co59, eo59⟩ := Kd.R_slice HO_7.out
     subst eo59
     have hcz60_0 : wr.cell? ⟨gb151, 0, none⟩ = some (.int .i64 a0_0) := (blk_cell BK151.out 0).trans rfl
     have hcz60_1 : wr.cell? ⟨gb151, 1, none⟩ = some (.slice A0_1 l0_1.length c0_1) := (blk_cell BK151.out 1).trans rfl
     have hfz60_0 := blk_frozen BK151.out 0
     have hfz60_1 := blk_frozen BK151.out 1
     go_wp2
     repeat (go_quiet (fail); try go_wp2)
     go_ret2
     exact ⟨_, by first | rfl | (simp [errW_none, errW_some] <;> rfl) | (simp [*, errW_none, errW_some] <;> rfl), by (with_reducible repeat (first | apply Kd.R_alloc | apply Kd.R_drewN | apply Kd.R_drew)); exact HO_7.out, by repeat (first | (with_reducible first | exact HB.out | apply below_alloc | apply pw_below_drewN | apply below_drew1 | refine below_set ?_ GE151.out) | exact HB.out)⟩
 ·rw [if_neg c3] at H
  exact absurd H (by simp)

end Go.Proofs.YtniikppojffiaaaGreat.Q
end

section
/- Written by a program of this session (myprint.py over the kit's print). -/
namespace Go.Proofs.YtniikppojffiaaaGreat.Q
open Go.RowKit Go.Proofs.YtniikppojffiaaaGreatW.PrintWords Go.Proofs.YtniikppojffiaaaGreatW.PrintLast Go.Proofs.YtniikppojffiaaaGreatW.PrintMore
attribute [local go_sem] max2_int min2_int max_two min_two max_three min_three max_four min_four   -- for this text's walks alone
set_option linter.unusedVariables false
set_option linter.unusedSimpArgs false

/-! ### spec_OrderOfPairing: function 7 -/
def spec_OrderOfPairing.f (k : Nat) (a0_0 : Int) (l0_1 : List Int) (l1 : List (S46)) : Option (List Int × Int) := (spec_l02Code.f k a0_0 l0_1 l1 ([] : List Int)).bind fun t181 => (if t181 = 0 then ((spec_l02Order.f k a0_0 l0_1 l1).bind fun bt182 => (if bt182.2 = true then (some (bt182.1, 0)) else (some (([] : List Int), 5)))) else (some (([] : List Int), t181)))
theorem spec_OrderOfPairing.mono : ∀ a0 a1 a2 k, LeO (spec_OrderOfPairing.f k a0 a1 a2) (spec_OrderOfPairing.f (k + 1) a0 a1 a2) := by
 intro a0 a1 a2 k
 unfold spec_OrderOfPairing.f
 repeat' first
   | (with_reducible exact spec_l02Code.mono _ _ _ _ _)
   | (with_reducible exact spec_l02Order.mono _ _ _ _)
   | (with_reducible exact LeO.refl _)
   | (with_reducible exact LeO.none _)
   | (with_reducible refine LeO.ite ?_ ?_)
   | (with_reducible refine LeO.bind ?_ (fun _ => ?_))
   | exact spec_l02Code.mono _ _ _ _ _
   | exact spec_l02Order.mono _ _ _ _
   | exact LeO.none _
   | refine LeO.ite ?_ ?_
   | refine LeO.bind ?_ (fun _ => ?_)
set_option maxHeartbeats 8000000 in
set_option maxRecDepth 100000 in
theorem spec_OrderOfPairing.calls (k : Nat) (a0_0 : Int) (A0_1 : Option Addr) (c0_1 : Nat) (l0_1 : List Int) (A1 : Option Addr) (c1 : Nat) (l1 : List (S46)) (r1 : List Int) (r2 : Int) (w : World) (hr0_1 : Kd.C (Kd.int .i64) w A0_1 l0_1.length l0_1) (hc0_1 : l0_1.length ≤ c0_1) (hr1 : Kd.C k46 w A1 l1.length l1) (hc1 : l1.length ≤ c1) (h : spec_OrderOfPairing.f k a0_0 l0_1 l1 = some (r1, r2)) :
  Calls Tryz.prog 7 #[.agg #[.int .i64 a0_0, .slice A0_1 l0_1.length c0_1], .slice A1 l1.length c1] w fun e w' => ∃ v0_ : Value, e = .returned (.tuple #[v0_, .int .i64 r2]) ∧ Kd.R (Kd.int .i64) 2 w' w.heap.size (fun _ => True) v0_ r1 ∧ Below w.heap.size w w' := by
 have hu30 := Tryz.underlying30
 have HR0_1 := Aside0.mk hr0_1
 have HC0_1 := Aside0.mk hc0_1
 clear hr0_1 hc0_1
 have HR1 := Aside0.mk hr1
 have HC1 := Aside0.mk hc1
 clear hr1 hc1
 have HB := Aside0.mk (Below.refl w.heap.size w)
 have H : ((spec_l02Code.f k a0_0 l0_1 l1 ([] : List Int)).bind fun t181 => (if t181 = 0 then ((spec_l02Order.f k a0_0 l0_1 l1).bind fun bt182 => (if bt182.2 = true then (some (bt182.1, 0)) else (some (([] : List Int), 5)))) else (some (([] : List Int), t181)))) = some (r1, r2) := h
 clear h
 replace H := Option.bind_eq_some_iff.mp H
 obtain ⟨t181, A30, H⟩ := H
 replace H : (if t181 = 0 then ((spec_l02Order.f k a0_0 l0_1 l1).bind fun bt182 => (if bt182.2 = true then (some (bt182.1, 0)) else (some (([] : List Int), 5)))) else (some (([] : List Int), t181))) = some (r1, r2) := H
 have A3 := Aside0.mk A30
 clear A30
 by_cases c4 : t181 = 0
 ·rw [if_pos c4] at H
  have c4b0 : (t181 == 0) = true := beq_iff_eq.mpr c4
  have c4b1 : (t181 != 0) = false := bne_eq_false_iff_eq.mpr c4
  clear c4
  replace H := Option.bind_eq_some_iff.mp H
  obtain ⟨⟨t182, t185⟩, A50, H⟩ := H
  replace H : (if t185 = true then (some (t182, 0)) else (some (([] : List Int), 5))) = some (r1, r2) := H
  have A5 := Aside0.mk A50
  clear A50
  by_cases c6 : t185 = true
  ·subst c6
   have H1 : (some (t182, 0)) = some (r1, r2) := by rw [if_pos rfl] at H; exact H
   clear H
   have H := H1
   clear H1
   simp only [Option.some.injEq, Prod.mk.injEq] at H
   obtain ⟨rfl, rfl⟩ := H
   go_enter Tryz.func7, Tryz.ntmps7
   go_wp2_with (first | ((with_reducible refine gate_dst (N := 2) rfl ?_); refine box_event ?hg (N := 2) ?hd (cs := #[.int .i64 a0_0, .slice A0_1 l0_1.length c0_1]) (t := 30) ?hr ?_; (case hd => rfl); (case hg => rfl); (case hr => first | (go_simp; done) | (go_simp; rfl)); intro gb180 hg w7 hbox hb; have n0_ := Aside0.mk (below_step (by repeat (first | (with_reducible first | exact HB.out | apply below_alloc | apply pw_below_drewN | apply below_drew1) | exact HB.out)) hb); have n1_ := Aside0.mk (hbox); have n2_ := Aside0.mk ((by rw [hg]; exact (below_size (by repeat (first | (with_reducible first | exact HB.out | apply below_alloc | apply pw_below_drewN | apply below_drew1) | exact HB.out))) : w.heap.size ≤ gb180)); have n3_ := Aside0.mk ((by rw [hg]; exact (below_size (by repeat (first | (with_reducible first | exact HB.out | apply below_alloc | apply pw_below_drewN | apply below_drew1) | exact HB.out))) : w.heap.size ≤ gb180)); clear HB; have HB := n0_; have BK180 := n1_; have GW180 := n2_; have GE180 := n3_; clear n0_ n1_ n2_ n3_; clear hb hbox hg; have hcz8_0 : w7.cell? ⟨gb180, 0, none⟩ = some (.int .i64 a0_0) := (blk_cell BK180.out 0).trans rfl; have hcz8_1 : w7.cell? ⟨gb180, 1, none⟩ = some (.slice A0_1 l0_1.length c0_1) := (blk_cell BK180.out 1).trans rfl; have hfz8_0 := blk_frozen BK180.out 0; have hfz8_1 := blk_frozen BK180.out 1) | ((with_reducible refine gate_callee (f := 21) rfl ?_); refine goesL_ (some 11) rfl rfl Tryz.func21 (by kernel_rfl) rfl #[.agg #[.int .i64 a0_0, .slice A0_1 l0_1.length c0_1], .slice A1 l1.length c1, .slice none 0 0] rfl (by (try simp only [List.map_toArray, List.map_cons, List.map_nil]); first | done | rfl | (simp only [List.length_drop, List.length_take]; rfl)) ?_; (refine (spec_l02Code.calls k a0_0 _ _ l0_1 _ _ l1 _ _ ([] : List Int) t181 _ ?side1 ?side2 ?side3 ?side4 ?side5 ?side6 A3.out).mono ?_); (case side1 => repeat (first | exact (Kd.C_below HR0_1.out HB.out) | (with_reducible refine Kd.C_alloc ?_ _) | (with_reducible refine Kd.C_drewN ?_ _) | (with_reducible refine Kd.C_drew ?_))); (case side2 => exact HC0_1.out); (case side3 => repeat (first | exact (Kd.C_below HR1.out HB.out) | (with_reducible refine Kd.C_alloc ?_ _) | (with_reducible refine Kd.C_drewN ?_ _) | (with_reducible refine Kd.C_drew ?_))); (case side4 => exact HC1.out); (case side5 => exact Kd.C_nil _ _); (case side6 => exact Nat.le_refl _); rintro e w9 ⟨rfl, hb⟩; refine ⟨_, rfl, ?_⟩; have n0_ := Aside0.mk (blk_below (g := gb180) (o := .cells #[.int .i64 a0_0, .slice A0_1 l0_1.length c0_1] 30 (0, 0)) (by (with_reducible repeat (first | refine blk_drewN ?_ _ | refine blk_drew ?_ | refine blk_alloc ?_ _)); exact BK180.out) hb); have n1_ := Aside0.mk (below_step (by repeat (first | (with_reducible first | exact HB.out | apply below_alloc | apply pw_below_drewN | apply below_drew1 | refine below_set ?_ GE180.out) | exact HB.out)) hb); clear BK180; clear HB; have BK180 := n0_; have HB := n1_; clear n0_ n1_; (try clear hb); (try clear hb2); (try clear hk); (try clear hi); have hcz10_0 : w9.cell? ⟨gb180, 0, none⟩ = some (.int .i64 a0_0) := (blk_cell BK180.out 0).trans rfl; have hcz10_1 : w9.cell? ⟨gb180, 1, none⟩ = some (.slice A0_1 l0_1.length c0_1) := (blk_cell BK180.out 1).trans rfl; have hfz10_0 := blk_frozen BK180.out 0; have hfz10_1 := blk_frozen BK180.out 1) | ((with_reducible refine gate_callee (f := 22) rfl ?_); refine goesL_ (some 18) rfl rfl Tryz.func22 (by kernel_rfl) rfl #[.agg #[.int .i64 a0_0, .slice A0_1 l0_1.length c0_1], .slice A1 l1.length c1] rfl (by (try simp only [List.map_toArray, List.map_cons, List.map_nil]); first | done | rfl | (simp only [List.length_drop, List.length_take]; rfl)) ?_; (with_reducible refine (spec_l02Order.calls k a0_0 _ _ l0_1 _ _ l1 t182 true _ ?side1 ?side2 ?side3 ?side4 A5.out).mono ?_); (case side1 => repeat (first | exact (Kd.C_below HR0_1.out HB.out) | (with_reducible refine Kd.C_alloc ?_ _) | (with_reducible refine Kd.C_drewN ?_ _) | (with_reducible refine Kd.C_drew ?_))); (case side2 => exact HC0_1.out); (case side3 => repeat (first | exact (Kd.C_below HR1.out HB.out) | (with_reducible refine Kd.C_alloc ?_ _) | (with_reducible refine Kd.C_drewN ?_ _) | (with_reducible refine Kd.C_drew ?_))); (case side4 => exact HC1.out); rintro e w11 ⟨v183, rfl, ho0, hb⟩; refine ⟨_, rfl, ?_⟩; have n0_ := Aside0.mk (Kd.R_lower ho0 (below_size (by repeat (first | (with_reducible first | exact HB.out | apply below_alloc | apply pw_below_drewN | apply below_drew1 | refine below_set ?_ GE180.out) | exact HB.out)))); have n1_ := Aside0.mk (blk_below (g := gb180) (o := .cells #[.int .i64 a0_0, .slice A0_1 l0_1.length c0_1] 30 (0, 0)) (by (with_reducible repeat (first | refine blk_drewN ?_ _ | refine blk_drew ?_ | refine blk_alloc ?_ _)); exact BK180.out) hb); have n2_ := Aside0.mk (below_step (by repeat (first | (with_reducible first | exact HB.out | apply below_alloc | apply pw_below_drewN | apply below_drew1 | refine below_set ?_ GE180.out) | exact HB.out)) hb); clear BK180; clear HB; have HO184 := n0_; have BK180 := n1_; have HB := n2_; clear n0_ n1_ n2_; (try clear hb); (try clear hb2); (try clear hk); (try clear hi); (try clear ho0)))
   go_ret2
   exact ⟨_, by first | rfl | (simp [errW_none, errW_some] <;> rfl) | (simp [*, errW_none, errW_some] <;> rfl), by (with_reducible repeat (first | apply Kd.R_alloc | apply Kd.R_drewN | apply Kd.R_drew)); exact HO184.out, by repeat (first | (with_reducible first | exact HB.out | apply below_alloc | apply pw_below_drewN | apply below_drew1 | refine below_set ?_ GE180.out) | exact HB.out)⟩
  ·replace c6 := Bool.eq_false_iff.mpr c6
   subst c6
   have H1 : (some (([] : List Int), 5)) = some (r1, r2) := by rw [if_neg (show ¬ (false = true) by decide)] at H; exact H
   clear H
   have H := H1
   clear H1
   simp only [Option.some.injEq, Prod.mk.injEq] at H
   obtain ⟨rfl, rfl⟩ := H
   go_enter Tryz.func7, Tryz.ntmps7
   go_wp2_with (first | ((with_reducible refine gate_dst (N := 2) rfl ?_); refine box_event ?hg (N := 2) ?hd (cs := #[.int .i64 a0_0, .slice A0_1 l0_1.length c0_1]) (t := 30) ?hr ?_; (case hd => rfl); (case hg => rfl); (case hr => first | (go_simp; done) | (go_simp; rfl)); intro gb180 hg w12 hbox hb; have n0_ := Aside0.mk (below_step (by repeat (first | (with_reducible first | exact HB.out | apply below_alloc | apply pw_below_drewN | apply below_drew1) | exact HB.out)) hb); have n1_ := Aside0.mk (hbox); have n2_ := Aside0.mk ((by rw [hg]; exact (below_size (by repeat (first | (with_reducible first | exact HB.out | apply below_alloc | apply pw_below_drewN | apply below_drew1) | exact HB.out))) : w.heap.size ≤ gb180)); have n3_ := Aside0.mk ((by rw [hg]; exact (below_size (by repeat (first | (with_reducible first | exact HB.out | apply below_alloc | apply pw_below_drewN | apply below_drew1) | exact HB.out))) : w.heap.size ≤ gb180)); clear HB; have HB := n0_; have BK180 := n1_; have GW180 := n2_; have GE180 := n3_; clear n0_ n1_ n2_ n3_; clear hb hbox hg; have hcz13_0 : w12.cell? ⟨gb180, 0, none⟩ = some (.int .i64 a0_0) := (blk_cell BK180.out 0).trans rfl; have hcz13_1 : w12.cell? ⟨gb180, 1, none⟩ = some (.slice A0_1 l0_1.length c0_1) := (blk_cell BK180.out 1).trans rfl; have hfz13_0 := blk_frozen BK180.out 0; have hfz13_1 := blk_frozen BK180.out 1) | ((with_reducible refine gate_callee (f := 21) rfl ?_); refine goesL_ (some 11) rfl rfl Tryz.func21 (by kernel_rfl) rfl #[.agg #[.int .i64 a0_0, .slice A0_1 l0_1.length c0_1], .slice A1 l1.length c1, .slice none 0 0] rfl (by (try simp only [List.map_toArray, List.map_cons, List.map_nil]); first | done | rfl | (simp only [List.length_drop, List.length_take]; rfl)) ?_; (refine (spec_l02Code.calls k a0_0 _ _ l0_1 _ _ l1 _ _ ([] : List Int) t181 _ ?side1 ?side2 ?side3 ?side4 ?side5 ?side6 A3.out).mono ?_); (case side1 => repeat (first | exact (Kd.C_below HR0_1.out HB.out) | (with_reducible refine Kd.C_alloc ?_ _) | (with_reducible refine Kd.C_drewN ?_ _) | (with_reducible refine Kd.C_drew ?_))); (case side2 => exact HC0_1.out); (case side3 => repeat (first | exact (Kd.C_below HR1.out HB.out) | (with_reducible refine Kd.C_alloc ?_ _) | (with_reducible refine Kd.C_drewN ?_ _) | (with_reducible refine Kd.C_drew ?_))); (case side4 => exact HC1.out); (case side5 => exact Kd.C_nil _ _); (case side6 => exact Nat.le_refl _); rintro e w14 ⟨rfl, hb⟩; refine ⟨_, rfl, ?_⟩; have n0_ := Aside0.mk (blk_below (g := gb180) (o := .cells #[.int .i64 a0_0, .slice A0_1 l0_1.length c0_1] 30 (0, 0)) (by (with_reducible repeat (first | refine blk_drewN ?_ _ | refine blk_drew ?_ | refine blk_alloc ?_ _)); exact BK180.out) hb); have n1_ := Aside0.mk (below_step (by repeat (first | (with_reducible first | exact HB.out | apply below_alloc | apply pw_below_drewN | apply below_drew1 | refine below_set ?_ GE180.out) | exact HB.out)) hb); clear BK180; clear HB; have BK180 := n0_; have HB := n1_; clear n0_ n1_; (try clear hb); (try clear hb2); (try clear hk); (try clear hi); have hcz15_0 : w14.cell? ⟨gb180, 0, none⟩ = some (.int .i64 a0_0) := (blk_cell BK180.out 0).trans rfl; have hcz15_1 : w14.cell? ⟨gb180, 1, none⟩ = some (.slice A0_1 l0_1.length c0_1) := (blk_cell BK180.out 1).trans rfl; have hfz15_0 := blk_frozen BK180.out 0; have hfz15_1 := blk_frozen BK180.out 1) | ((with_reducible refine gate_callee (f := 22) rfl ?_); refine goesL_ (some 18) rfl rfl Tryz.func22 (by kernel_rfl) rfl #[.agg #[.int .i64 a0_0, .slice A0_1 l0_1.length c0_1], .slice A1 l1.length c1] rfl (by (try simp only [List.map_toArray, List.map_cons, List.map_nil]); first | done | rfl | (simp only [List.length_drop, List.length_take]; rfl)) ?_; (with_reducible refine (spec_l02Order.calls k a0_0 _ _ l0_1 _ _ l1 t182 false _ ?side1 ?side2 ?side3 ?side4 A5.out).mono ?_); (case side1 => repeat (first | exact (Kd.C_below HR0_1.out HB.out) | (with_reducible refine Kd.C_alloc ?_ _) | (with_reducible refine Kd.C_drewN ?_ _) | (with_reducible refine Kd.C_drew ?_))); (case side2 => exact HC0_1.out); (case side3 => repeat (first | exact (Kd.C_below HR1.out HB.out) | (with_reducible refine Kd.C_alloc ?_ _) | (with_reducible refine Kd.C_drewN ?_ _) | (with_reducible refine Kd.C_drew ?_))); (case side4 => exact HC1.out); rintro e w16 ⟨v183, rfl, ho0, hb⟩; refine ⟨_, rfl, ?_⟩; have n0_ := Aside0.mk (Kd.R_lower ho0 (below_size (by repeat (first | (with_reducible first | exact HB.out | apply below_alloc | apply pw_below_drewN | apply below_drew1 | refine below_set ?_ GE180.out) | exact HB.out)))); have n1_ := Aside0.mk (blk_below (g := gb180) (o := .cells #[.int .i64 a0_0, .slice A0_1 l0_1.length c0_1] 30 (0, 0)) (by (with_reducible repeat (first | refine blk_drewN ?_ _ | refine blk_drew ?_ | refine blk_alloc ?_ _)); exact BK180.out) hb); have n2_ := Aside0.mk (below_step (by repeat (first | (with_reducible first | exact HB.out | apply below_alloc | apply pw_below_drewN | apply below_drew1 | refine below_set ?_ GE180.out) | exact HB.out)) hb); clear BK180; clear HB; have HO184 := n0_; have BK180 := n1_; have HB := n2_; clear n0_ n1_ n2_; (try clear hb); (try clear hb2); (try clear hk); (try clear hi); (try clear ho0)))
   go_ret2
   exact ⟨_, by first | rfl | (simp [errW_none, errW_some] <;> rfl) | (simp [*, errW_none, errW_some] <;> rfl), by first | exact Kd.R_nil _ _ _ _ _ | exact Kd.N_nil _ _ _ _ _ | exact Kd.V_nil _ _ _ _ _ | exact Kd.Q_nil _ _ _ _ _ | exact Kd.S_nil _ _ _ _ _, by repeat (first | (with_reducible first | exact HB.out | apply below_alloc | apply pw_below_drewN | apply below_drew1 | refine below_set ?_ GE180.out) | exact HB.out)⟩
 ·rw [if_neg c4] at H
  have c4b0 : (t181 == 0) = false := beq_eq_false_iff_ne.mpr c4
  have c4b1 : (t181 != 0) = true := bne_iff_ne.mpr c4
  simp only [Option.some.injEq, Prod.mk.injEq] at H
  obtain ⟨rfl, rfl⟩ := H
  go_enter Tryz.func7, Tryz.ntmps7
  go_wp2_with (first | ((with_reducible refine gate_dst (N := 2) rfl ?_); refine box_event ?hg (N := 2) ?hd (cs := #[.int .i64 a0_0, .slice A0_1 l0_1.length c0_1]) (t := 30) ?hr ?_; (case hd => rfl); (case hg => rfl); (case hr => first | (go_simp; done) | (go_simp; rfl)); intro gb180 hg w17 hbox hb; have n0_ := Aside0.mk (below_step (by repeat (first | (with_reducible first | exact HB.out | apply below_alloc | apply pw_below_drewN | apply below_drew1) | exact HB.out)) hb); have n1_ := Aside0.mk (hbox); have n2_ := Aside0.mk ((by rw [hg]; exact (below_size (by repeat (first | (with_reducible first | exact HB.out | apply below_alloc | apply pw_below_drewN | apply below_drew1) | exact HB.out))) : w.heap.size ≤ gb180)); have n3_ := Aside0.mk ((by rw [hg]; exact (below_size (by repeat (first | (with_reducible first | exact HB.out | apply below_alloc | apply pw_below_drewN | apply below_drew1) | exact HB.out))) : w.heap.size ≤ gb180)); clear HB; have HB := n0_; have BK180 := n1_; have GW180 := n2_; have GE180 := n3_; clear n0_ n1_ n2_ n3_; clear hb hbox hg; have hcz18_0 : w17.cell? ⟨gb180, 0, none⟩ = some (.int .i64 a0_0) := (blk_cell BK180.out 0).trans rfl; have hcz18_1 : w17.cell? ⟨gb180, 1, none⟩ = some (.slice A0_1 l0_1.length c0_1) := (blk_cell BK180.out 1).trans rfl; have hfz18_0 := blk_frozen BK180.out 0; have hfz18_1 := blk_frozen BK180.out 1) | ((with_reducible refine gate_callee (f := 21) rfl ?_); refine goesL_ (some 11) rfl rfl Tryz.func21 (by kernel_rfl) rfl #[.agg #[.int .i64 a0_0, .slice A0_1 l0_1.length c0_1], .slice A1 l1.length c1, .slice none 0 0] rfl (by (try simp only [List.map_toArray, List.map_cons, List.map_nil]); first | done | rfl | (simp only [List.length_drop, List.length_take]; rfl)) ?_; (refine (spec_l02Code.calls k a0_0 _ _ l0_1 _ _ l1 _ _ ([] : List Int) t181 _ ?side1 ?side2 ?side3 ?side4 ?side5 ?side6 A3.out).mono ?_); (case side1 => repeat (first | exact (Kd.C_below HR0_1.out HB.out) | (with_reducible refine Kd.C_alloc ?_ _) | (with_reducible refine Kd.C_drewN ?_ _) | (with_reducible refine Kd.C_drew ?_))); (case side2 => exact HC0_1.out); (case side3 => repeat (first | exact (Kd.C_below HR1.out HB.out) | (with_reducible refine Kd.C_alloc ?_ _) | (with_reducible refine Kd.C_drewN ?_ _) | (with_reducible refine Kd.C_drew ?_))); (case side4 => exact HC1.out); (case side5 => exact Kd.C_nil _ _); (case side6 => exact Nat.le_refl _); rintro e w19 ⟨rfl, hb⟩; refine ⟨_, rfl, ?_⟩; have n0_ := Aside0.mk (blk_below (g := gb180) (o := .cells #[.int .i64 a0_0, .slice A0_1 l0_1.length c0_1] 30 (0, 0)) (by (with_reducible repeat (first | refine blk_drewN ?_ _ | refine blk_drew ?_ | refine blk_alloc ?_ _)); exact BK180.out) hb); have n1_ := Aside0.mk (below_step (by repeat (first | (with_reducible first | exact HB.out | apply below_alloc | apply pw_below_drewN | apply below_drew1 | refine below_set ?_ GE180.out) | exact HB.out)) hb); clear BK180; clear HB; have BK180 := n0_; have HB := n1_; clear n0_ n1_; (try clear hb); (try clear hb2); (try clear hk); (try clear hi)))
  go_ret2
  exact ⟨_, by first | rfl | (simp [errW_none, errW_some] <;> rfl) | (simp [*, errW_none, errW_some] <;> rfl), by first | exact Kd.R_nil _ _ _ _ _ | exact Kd.N_nil _ _ _ _ _ | exact Kd.V_nil _ _ _ _ _ | exact Kd.Q_nil _ _ _ _ _ | exact Kd.S_nil _ _ _ _ _, by repeat (first | (with_reducible first | exact HB.out | apply below_alloc | apply pw_below_drewN | apply below_drew1 | refine below_set ?_ GE180.out) | exact HB.out)⟩

end Go.Proofs.YtniikppojffiaaaGreat.Q
end

section
/- The reference's order of the groups, plain. -/
namespace Go.Proofs.YtniikppojffiaaaGreat.K
open Go.RowKit Go.Shelf Go.Proofs.YtniikppojffiaaaGreat.Q Go.Proofs.YtniikppojffiaaaGreatW.PrintWords Go.Proofs.YtniikppojffiaaaGreatW.PrintLast Go.Proofs.YtniikppojffiaaaGreatW.PrintMore
set_option linter.unusedVariables false
set_option linter.unusedSimpArgs false

section
variable {n : Int} {l : List Int} {q : List PairT} {r : List Int × Bool}
/-- The marks of a group. -/
theorem ord_l5 (own out : List Int) (i : Nat) (hi : i < 1000) (hown : ∀ x ∈ own, 1 ≤ x ∧ x ≤ 63) (ho : own.length ≤ 2) (hout : out.length ≤ 1000) (R : Nat) : ∀ (e j k : Nat) (m : List Bool) (S : Int → Bool), own.length - j = e → j ≤ own.length → R + e < k → MetL m S →
  (∀ m' k, MetL m' (placeL S (own.drop j)) → R ≤ k → spec_l02Order.l1 k q m' (out ++ own) true ((i : Int) + 1) n l = some r) → spec_l02Order.l5 k q m out (i : Int) own (j : Int) n l = some r := by
 intro e
 induction e with
 | zero =>
  intro j k m S he hj hk hm hnext
  obtain ⟨k, rfl⟩ : ∃ m, k = m + 1 := ⟨k - 1, by omega⟩
  obtain rfl : j = own.length := by omega
  simp only [spec_l02Order.l5]
  rw [if_neg (by omega), if_pos (by omega), w64 ((i : Int) + 1) (by omega) (by omega)]
  refine hnext m k ?_ (by omega)
  rw [List.drop_eq_nil_of_le (Nat.le_refl _)]
  exact hm
 | succ e ih =>
  intro j k m S he hj hk hm hnext
  obtain ⟨k, rfl⟩ : ∃ m, k = m + 1 := ⟨k - 1, by omega⟩
  have hjl : j < own.length := by omega
  have hx := hown own[j] (List.getElem_mem hjl)
  have hml := hm.len
  simp only [spec_l02Order.l5]
  rw [if_pos (by omega), if_pos (by omega), rd_nat own j hjl, if_pos (by omega), if_pos (by omega), w64 ((j : Int) + 1) (by omega) (by omega), nat_succ]
  refine ih (j + 1) k _ (upd S own[j] true) (by omega) (by omega) (by omega) (hm.set _ (by omega) (by omega)) (fun m' k' hm' hk' => hnext m' k' ?_ hk')
  rw [List.drop_eq_getElem_cons hjl]
  exact hm'
/-- The borders of one face of a group. -/
theorem ord_l4 (own out bs : List Int) (more : Bool) (i jj : Nat) (f : Int) (m : List Bool) (S : Int → Bool) (hm : MetL m S) (hjj : jj < 1000) (hbs : ∀ x ∈ bs, 1 ≤ x ∧ x ≤ 63) (hbl : bs.length ≤ 1000) (R : Nat) : ∀ (e t k : Nat) (b : Bool), bs.length - t = e → t ≤ bs.length → R + e < k →
  (∀ k, R ≤ k → spec_l02Order.l3 k q m out more (i : Int) f own (b && (bs.drop t).all fun y => S y || y == f) ((jj : Int) + 1) n l = some r) → spec_l02Order.l4 k q m out more (i : Int) f own b (jj : Int) bs (t : Int) n l = some r := by
 intro e
 induction e with
 | zero =>
  intro t k b he ht hk hnext
  obtain ⟨k, rfl⟩ : ∃ m, k = m + 1 := ⟨k - 1, by omega⟩
  obtain rfl : t = bs.length := by omega
  simp only [spec_l02Order.l4]
  rw [if_neg (by omega), w64 ((jj : Int) + 1) (by omega) (by omega)]
  have := hnext k (by omega)
  rw [List.drop_eq_nil_of_le (Nat.le_refl _)] at this
  simpa using this
 | succ e ih =>
  intro t k b he ht hk hnext
  obtain ⟨k, rfl⟩ : ∃ m, k = m + 1 := ⟨k - 1, by omega⟩
  have htl : t < bs.length := by omega
  have hx := hbs bs[t] (List.getElem_mem htl)
  have hml := hm.len
  simp only [spec_l02Order.l4]
  rw [if_pos (by omega), w64 ((t : Int) + 1) (by omega) (by omega), nat_succ, if_pos (show (0 : Int) ≤ (t : Int) by omega), rd_nat bs t htl, if_pos (show (0 : Int) ≤ bs[t] by omega), if_pos (show bs[t] < (m.length : Int) by omega), hm.at_ bs[t] (by omega) (by omega)]
  rw [List.drop_eq_getElem_cons htl] at hnext
  simp only [List.all_cons] at hnext
  cases b with
  | false =>
   rw [if_neg (by simp)]
   refine ih (t + 1) k false (by omega) (by omega) (by omega) (fun k' hk' => ?_)
   have := hnext k' hk'
   simpa using this
  | true =>
   rw [if_pos rfl]
   cases hS : S bs[t] with
   | true =>
    rw [if_pos rfl]
    refine ih (t + 1) k true (by omega) (by omega) (by omega) (fun k' hk' => ?_)
    have := hnext k' hk'
    rw [hS] at this
    simpa using this
   | false =>
    rw [if_neg (by simp)]
    refine ih (t + 1) k (bs[t] == f) (by omega) (by omega) (by omega) (fun k' hk' => ?_)
    have := hnext k' hk'
    rw [hS] at this
    simpa using this
/-- The faces of a group. -/
theorem ord_l3 (own out : List Int) (more : Bool) (i : Nat) (hi : i < 1000) (f : Int) (m : List Bool) (S : Int → Bool) (hm : MetL m S) (hown : ∀ x ∈ own, 1 ≤ x ∧ x ≤ 63) (ho : own.length ≤ 2) (R : Nat) : ∀ (e j k : Nat) (b : Bool), own.length - j = e → j ≤ own.length → R + e * 100 + 1 < k →
  ((b && (own.drop j).all fun g => (bords g).all fun y => S y || y == f) = true → ∀ k, R ≤ k → spec_l02Order.l5 k q m out (i : Int) own ((0 : Nat) : Int) n l = some r) →
  ((b && (own.drop j).all fun g => (bords g).all fun y => S y || y == f) = false → ∀ k, R ≤ k → spec_l02Order.l1 k q m out more ((i : Int) + 1) n l = some r) → spec_l02Order.l3 k q m out more (i : Int) f own b (j : Int) n l = some r := by
 intro e
 induction e with
 | zero =>
  intro j k b he hj hk hT hF
  obtain ⟨k, rfl⟩ : ∃ m, k = m + 1 := ⟨k - 1, by omega⟩
  obtain rfl : j = own.length := by omega
  simp only [spec_l02Order.l3]
  rw [if_neg (by omega), w64 ((i : Int) + 1) (by omega) (by omega)]
  rw [List.drop_eq_nil_of_le (Nat.le_refl _)] at hT hF
  simp only [List.all_nil, Bool.and_true] at hT hF
  cases b with
  | true => rw [if_pos rfl]; exact hT rfl k (by omega)
  | false => rw [if_neg (by simp)]; exact hF rfl k (by omega)
 | succ e ih =>
  intro j k b he hj hk hT hF
  obtain ⟨k, rfl⟩ : ∃ m, k = m + 1 := ⟨k - 1, by omega⟩
  have hjl : j < own.length := by omega
  have hx := hown own[j] (List.getElem_mem hjl)
  have hbl := bords_length own[j]
  simp only [spec_l02Order.l3]
  rw [if_pos (by omega), if_pos (by omega), rd_nat own j hjl, specBelow_is own[j] (by omega) (by omega) k (by omega), Option.bind_some]
  rw [List.drop_eq_getElem_cons hjl] at hT hF
  simp only [List.all_cons] at hT hF
  refine ord_l4 own out (bords own[j]) more i j f m S hm (by omega) (bords_in own[j] (by omega) (by omega)) (by omega) (R + e * 100 + 2) (bords own[j]).length 0 k b (by omega) (by omega) (by omega) (fun k' hk' => ?_)
  rw [List.drop_zero, nat_succ]
  refine ih (j + 1) k' _ (by omega) (by omega) (by omega) (fun h => hT ?_) (fun h => hF ?_)
  ·rw [← h, Bool.and_assoc]
  ·rw [← h, Bool.and_assoc]
/-- No high face. -/
theorem ord_l2 (own out : List Int) (more : Bool) (i : Nat) (f : Int) (m : List Bool) (hq : q.length ≤ 1000) (R : Nat) : ∀ (e j k : Nat) (b : Bool), q.length - j = e → j ≤ q.length → R + e < k →
  (∀ k, R ≤ k → spec_l02Order.l3 k q m out more (i : Int) f own (b && (q.drop j).all fun p => !(p.f1 == f)) ((0 : Nat) : Int) n l = some r) → spec_l02Order.l2 k q m out more (i : Int) f own b (j : Int) n l = some r := by
 intro e
 induction e with
 | zero =>
  intro j k b he hj hk hnext
  obtain ⟨k, rfl⟩ : ∃ m, k = m + 1 := ⟨k - 1, by omega⟩
  obtain rfl : j = q.length := by omega
  simp only [spec_l02Order.l2]
  rw [if_neg (by omega)]
  have := hnext k (by omega)
  rw [List.drop_eq_nil_of_le (Nat.le_refl _)] at this
  simpa using this
 | succ e ih =>
  intro j k b he hj hk hnext
  obtain ⟨k, rfl⟩ : ∃ m, k = m + 1 := ⟨k - 1, by omega⟩
  have hjl : j < q.length := by omega
  simp only [spec_l02Order.l2]
  rw [if_pos (by omega), w64 ((j : Int) + 1) (by omega) (by omega), nat_succ, if_pos (show (0 : Int) ≤ (j : Int) by omega), rdP q j hjl]
  rw [List.drop_eq_getElem_cons hjl] at hnext
  simp only [List.all_cons] at hnext
  cases b with
  | false =>
   rw [if_neg (by simp)]
   refine ih (j + 1) k false (by omega) (by omega) (by omega) (fun k' hk' => ?_)
   have := hnext k' hk'
   simpa using this
  | true =>
   rw [if_pos rfl]
   refine ih (j + 1) k (q[j].f1 != f) (by omega) (by omega) (by omega) (fun k' hk' => ?_)
   have := hnext k' hk'
   simpa [bne] using this
theorem hi_all (f : Int) : (q.all fun p => !(p.f1 == f)) = !isHi q f := by
 unfold isHi
 induction q with
 | nil => rfl
 | cons p q ih => simp only [List.all_cons, List.any_cons, ih, Bool.not_or]
theorem rdyG_eq (hP : GoodP l q) (S : Int → Bool) {f : Int} (h0 : 1 ≤ f) (h1 : f ≤ 63) : rdyG S (grp q f) = (grp q f).all fun g => (bords g).all fun y => S y || y == f := by
 unfold rdyG
 rw [Bool.eq_iff_iff]
 simp only [List.all_eq_true, Bool.or_eq_true, beq_iff_eq, List.contains_iff_mem]
 have key : ∀ g ∈ grp q f, ∀ y ∈ bords g, (y ∈ grp q f ↔ y = f) := by
  intro g hg y hy
  constructor
  ·intro h
   rcases grp_mem.1 h with rfl | ⟨hz, rfl⟩
   ·rfl
   ·rcases high_cases q f with ⟨h3, _⟩ | ⟨p, hp, h3, h4⟩
    ·exact absurd h3 hz
    ·have hb := hP.mem p hp
     rw [h4, h3] at hb
     rcases grp_mem.1 hg with rfl | ⟨_, rfl⟩
     ·have := bords_less g (by omega) (by omega) _ hy
      omega
     ·have := bords_less (highL q f) (by omega) (by omega) _ hy
      omega
  ·rintro rfl
   exact grp_mem.2 (.inl rfl)
 constructor
 ·intro h g hg y hy
  exact (h g hg y hy).imp id (key g hg y hy).1
 ·intro h g hg y hy
  exact (h g hg y hy).imp id (key g hg y hy).2
theorem grp_len (f : Int) : (grp q f).length ≤ 2 := by unfold grp; split <;> simp
theorem grp_rng (hg : GoodQ q) {f : Int} (h0 : 1 ≤ f) (h1 : f ≤ 63) : ∀ x ∈ grp q f, 1 ≤ x ∧ x ≤ 63 := by
 intro x hx
 rcases grp_mem.1 hx with rfl | ⟨hz, rfl⟩
 ·exact ⟨h0, h1⟩
 ·rcases high_good hg f with h | h
  ·exact absurd h hz
  ·exact h
/-- Behind the first ready group: back to the head. -/
theorem ord_back (m : List Bool) (out : List Int) (i k R : Nat) (hk : R + 2 ≤ k) (hnext : ∀ k, R ≤ k → spec_l02Order.l0 k q m out true n l = some r) : spec_l02Order.l1 k q m out true (i : Int) n l = some r := by
 obtain ⟨k, rfl⟩ : ∃ m, k = m + 2 := ⟨k - 2, by omega⟩
 have h2 : spec_l02Order.j2 (k + 1) q m out true (i : Int) false n l = some r := by
  simp only [spec_l02Order.j2]
  rw [if_neg (by simp)]
  exact hnext k (by omega)
 rw [show k + 2 = (k + 1) + 1 from rfl]
 simp only [spec_l02Order.l1, Bool.not_true]
 split <;> exact h2
set_option maxRecDepth 100000 in
/-- One turn through the faces. -/
theorem ord_scan (hi : isC n l = true) (hg : GoodQ q) (hP : GoodP l q) (out : List Int) (hout : out.length ≤ 1000) (m : List Bool) (S : Int → Bool) (hm : MetL m S) (R : Nat) : ∀ (e i k : Nat), l.length - i = e → i ≤ l.length → R + e * 5000 + 2 < k →
  ((l.drop i).find? (fun f => !isHi q f && (!S f && rdyG S (grp q f))) = none → ∀ k, R ≤ k → spec_l02Order.l0 k q m out false n l = some r) →
  (∀ f, (l.drop i).find? (fun f => !isHi q f && (!S f && rdyG S (grp q f))) = some f → ∀ m' k, MetL m' (placeL S (grp q f)) → R ≤ k → spec_l02Order.l0 k q m' (out ++ grp q f) true n l = some r) → spec_l02Order.l1 k q m out false (i : Int) n l = some r := by
 have h63 := (isC_faces hi).2.2.2
 have hr := (isC_faces hi).2.2.1
 have hql := hg.len
 intro e
 induction e with
 | zero =>
  intro i k he hil hk hN hF
  obtain ⟨k, rfl⟩ : ∃ m, k = m + 1 + 1 := ⟨k - 2, by omega⟩
  obtain rfl : i = l.length := by omega
  simp only [spec_l02Order.l1, spec_l02Order.j2]
  rw [if_neg (by omega), if_neg (by simp)]
  exact hN (by rw [List.drop_eq_nil_of_le (Nat.le_refl _)]; rfl) k (by omega)
 | succ e ih =>
  intro i k he hil hk hN hF
  obtain ⟨k, rfl⟩ : ∃ m, k = m + 1 + 1 + 1 := ⟨k - 3, by omega⟩
  have hl : i < l.length := by omega
  have hx := hr l[i] (List.getElem_mem hl)
  have hml := hm.len
  have hgr := grp_rng hg (q := q) (f := l[i]) (by omega) (by omega)
  have hgl := grp_len (q := q) l[i]
  obtain ⟨R2, hR2⟩ : ∃ R2, R2 = R + e * 5000 + 3 := ⟨_, rfl⟩
  have r1 : R + e * 5000 + 2 < R2 := by omega
  have r2 : R ≤ R2 := by omega
  have r3 : R2 + 4990 < k + 3 := by omega
  clear hR2 hk
  rw [List.drop_eq_getElem_cons hl, List.find?_cons] at hN hF
  have hrun : spec_l02Order.j3 (k + 1) q m out false (i : Int) l[i] (grp q l[i]) n l = some r := by
   simp only [spec_l02Order.j3]
   rw [if_pos (show (0 : Int) ≤ l[i] by omega), if_pos (by omega), hm.at_ l[i] (by omega) (by omega)]
   refine ord_l2 (grp q l[i]) out false i l[i] m (by omega) (R2 + 310) q.length 0 k (!S l[i]) (by omega) (by omega) (by omega) (fun k' hk' => ?_)
   rw [List.drop_zero, hi_all]
   refine ord_l3 (grp q l[i]) out false i (by omega) l[i] m S hm hgr hgl (R2 + 5) (grp q l[i]).length 0 k' _ (by omega) (by omega) (by omega) (fun h k2 hk2 => ?_) (fun h k2 hk2 => ?_)
   ·rw [List.drop_zero, ← rdyG_eq hP S (by omega) (by omega)] at h
    have hc : (!isHi q l[i] && (!S l[i] && rdyG S (grp q l[i]))) = true := by
     rw [← h]
     cases isHi q l[i] <;> cases S l[i] <;> cases rdyG S (grp q l[i]) <;> rfl
    rw [hc] at hF
    refine ord_l5 (grp q l[i]) out i (by omega) hgr hgl hout (R + 2) (grp q l[i]).length 0 k2 m S (by omega) (by omega) (by omega) hm (fun m' k3 hm' hk3 => ?_)
    rw [nat_succ]
    exact ord_back m' (out ++ grp q l[i]) (i + 1) k3 R hk3 (fun k4 hk4 => hF l[i] rfl m' k4 (by simpa using hm') hk4)
   ·rw [List.drop_zero, ← rdyG_eq hP S (by omega) (by omega)] at h
    have hc : (!isHi q l[i] && (!S l[i] && rdyG S (grp q l[i]))) = false := by
     rw [← h]
     cases isHi q l[i] <;> cases S l[i] <;> cases rdyG S (grp q l[i]) <;> rfl
    rw [hc] at hF hN
    rw [nat_succ]
    exact ih (i + 1) k2 (by omega) (by omega) (Nat.lt_of_lt_of_le r1 (by omega)) hN hF
  have c1 : (i : Int) < (l.length : Int) := by omega
  have c2 : (0 : Int) ≤ (i : Int) := by omega
  have c3 : (!false) = true := rfl
  have c4 : 4001 ≤ k + 1 := by omega
  have c5 : q.length ≤ 4000 := by omega
  clear hN hF ih
  unfold spec_l02Order.l1
  rw [if_pos c1]
  unfold spec_l02Order.j2
  rw [if_pos c3, if_pos c2, if_pos c1, rd_nat l i hl, specHigh_is q c5 l[i] (k + 1) c4, Option.bind_some, Option.bind_some]
  by_cases hz : highL q l[i] = 0
  ·rw [if_pos hz]
   have : grp q l[i] = [l[i]] := by unfold grp; rw [if_pos hz]
   rw [this] at hrun
   exact hrun
  ·rw [if_neg hz, if_pos (by simp)]
   have : grp q l[i] = [l[i], highL q l[i]] := by unfold grp; rw [if_neg hz]
   rw [this] at hrun
   exact hrun
theorem find_lows (P : Int → Bool) : (lows l q).find? P = l.find? (fun f => !isHi q f && P f) := by
 unfold lows
 rw [List.find?_filter]
 congr 1
 funext a
 cases isHi q a <;> cases P a <;> rfl
set_option maxRecDepth 100000 in
/-- The whole order. -/
theorem ord_run (hi : isC n l = true) (hg : GoodQ q) (hP : GoodP l q) : ∀ (K : Nat) (S : Int → Bool) (m : List Bool) (out : List Int) (k : Nat), MetL m S → Sound l q S → notYet l S < K → out.length + notYet l S ≤ 100 → K * 330000 + 10 ≤ k →
  spec_l02Order.l0 k q m out true n l = some (out ++ (ordR q (lows l q) K S).flatten, decide ((out ++ (ordR q (lows l q) K S).flatten).length = l.length)) := by
 have h63 := (isC_faces hi).2.2.2
 intro K
 induction K with
 | zero => intro S m out k _ _ h; omega
 | succ K ih =>
  intro S m out k hm hS hK hout hk
  obtain ⟨k, rfl⟩ : ∃ m, k = m + 1 := ⟨k - 1, by omega⟩
  unfold spec_l02Order.l0
  rw [if_pos rfl]
  refine ord_scan hi hg hP out (by omega) m S hm (K * 330000 + 10) l.length 0 k (by omega) (by omega) (by omega) (fun hf k' hk' => ?_) (fun f hf m' k' hm' hk' => ?_)
  ·rw [List.drop_zero, ← find_lows] at hf
   obtain ⟨k', rfl⟩ : ∃ m, k' = m + 1 := ⟨k' - 1, by omega⟩
   unfold spec_l02Order.l0
   rw [if_neg (by simp)]
   unfold ordR
   rw [hf]
   simp only [List.flatten_nil, List.append_nil]
   congr 2
   rw [Bool.eq_iff_iff]
   simp only [beq_iff_eq, decide_eq_true_eq]
   omega
  ·rw [List.drop_zero, ← find_lows] at hf
   obtain ⟨h1, h2, h3⟩ := find_what hf
   have h4 := notYet_grp hP (isC_nodup hi) hS.whole h1 h2
   have hpos : 1 ≤ (grp q f).length := by unfold grp; split <;> simp
   have := ih (placeL S (grp q f)) m' (out ++ grp q f) k' hm' (sound_place hi hP hS h1 h2 h3) (by omega) (by rw [List.length_append]; omega) hk'
   rw [this]
   have e : ordR q (lows l q) (K + 1) S = grp q f :: ordR q (lows l q) K (placeL S (grp q f)) := by
    conv => lhs; unfold ordR
    rw [hf]
   rw [e, List.flatten_cons, List.append_assoc]
theorem specOrder_is (hi : isC n l = true) (hp : pingB l q = true) (k : Nat) (hk : 64 * 330000 + 10 ≤ k) : spec_l02Order.f k n l q = some ((orderG l q).flatten, acycB q) := by
 have h63 := (isC_faces hi).2.2.2
 unfold spec_l02Order.f
 rw [if_pos (by omega)]
 have := ord_run hi (ping_good hi hp) (ping_P hi hp) 64 (fun _ => false) _ [] k MetL.start sound_none (by simp [notYet]; omega) (by simp [notYet]; omega) hk
 rw [this, List.nil_append]
 show some ((orderG l q).flatten, decide ((orderG l q).flatten.length = l.length)) = _
 congr 2
 rw [Bool.eq_iff_iff, decide_eq_true_eq]
 exact order_ok hi hp
end
def ordF : Nat := 64 * 330000 + 10
/-- The answer of OrderOfPairing. -/
noncomputable def ordA (n : Int) (l : List Int) (q : List PairT) : List Int := if acode n l q true = 0 then (orderG l q).flatten else []
theorem specOrderOf_is (n : Int) (l : List Int) (q : List PairT) (hl : l.length ≤ 2097152) (hq : q.length ≤ 2097152) (k : Nat) (hk : isK l + pgK l q + 300 + ordF ≤ k) : spec_OrderOfPairing.f k n l q = some (ordA n l q, acode n l q true) := by
 unfold ordF at hk
 unfold spec_OrderOfPairing.f ordA acode
 rw [specCode02_is n l q [] (by simp) hl hq k (by omega)]
 simp only [Option.bind_some, List.all_nil, Bool.and_true, Bool.true_and]
 by_cases hz : codeOf n l (pingB l q) = 0
 ·obtain ⟨hi, hp⟩ := codeOf_zero hz
  rw [if_pos hz, if_pos hz, specOrder_is hi hp k (by omega), Option.bind_some]
  cases acycB q <;> simp
 ·rw [if_neg hz, if_neg hz, if_neg hz]

end Go.Proofs.YtniikppojffiaaaGreat.K
end

section
/- OrderOfPairing of the program. -/
namespace Go.Proofs.YtniikppojffiaaaGreat.K
open Go.RowKit Go.Shelf Go.Proofs.YtniikppojffiaaaGreat.Q Go.Proofs.YtniikppojffiaaaGreatW.PrintWords Go.Proofs.YtniikppojffiaaaGreatW.PrintLast Go.Proofs.YtniikppojffiaaaGreatW.PrintMore
set_option linter.unusedVariables false
set_option linter.unusedSimpArgs false

theorem ord_glen {n : Int} {l : List Int} {q : List PairT} (hi : isC n l = true) (hp : pingB l q = true) : (orderG l q).flatten.length ≤ 63 ∧ (orderG l q).length ≤ 64 := by
 have hP := ping_P hi hp
 have h1 := ord_count hi hP (isC_nodup hi) 64 _ (sound_none (l := l) (q := q))
 have h0 : notYet l (fun _ => false) = l.length := by simp [notYet]
 have h63 := (isC_faces hi).2.2.2
 have h2 : ∀ (k : Nat) (S : Int → Bool), (ordR q (lows l q) k S).length ≤ k := by
  intro k
  induction k with
  | zero => intro S; simp [ordR]
  | succ k ih =>
   intro S
   unfold ordR
   split
   ·simp
   ·rw [List.length_cons]
    have := ih (placeL S (grp q (by assumption)))
    omega
 rw [h0] at h1
 exact ⟨by show (ordR q (lows l q) 64 fun _ => false).flatten.length ≤ 63; omega, h2 64 _⟩
end Go.Proofs.YtniikppojffiaaaGreat.K
end

section
/- Written by a program of this session (myprint.py over the kit's print). -/
namespace Go.Proofs.YtniikppojffiaaaGreat.Q
open Go.RowKit Go.Proofs.YtniikppojffiaaaGreatW.PrintWords Go.Proofs.YtniikppojffiaaaGreatW.PrintLast Go.Proofs.YtniikppojffiaaaGreatW.PrintMore
attribute [local go_sem] max2_int min2_int max_two min_two max_three min_three max_four min_four   -- for this text's walks alone
set_option linter.unusedVariables false
set_option linter.unusedSimpArgs false

/-! ### spec_FlatFunction: function 18 -/
mutual
def spec_FlatFunction.l0 : Nat → List (S46) → List Int → List Int → Int → Int → Int → List Int → Option (List Int × Int)
 | 0, _, _, _, _, _, _, _ => none
 | k + 1, x1, x6, x8, x9, x10, x187000, x187001 => if x10 < (x6.length : Int) then (spec_FlatFunction.l1 k x1 x6 x8 x9 x10 false 0 x187000 x187001) else (some (x8, 0))
def spec_FlatFunction.l1 : Nat → List (S46) → List Int → List Int → Int → Int → Bool → Int → Int → List Int → Option (List Int × Int)
 | 0, _, _, _, _, _, _, _, _, _ => none
 | k + 1, x1, x6, x8, x9, x10, x11, x12, x187000, x187001 => if x12 < (x1.length : Int) then (if x11 = true then (spec_FlatFunction.l1 k x1 x6 x8 x9 x10 true (wrap64 (x12 + 1)) x187000 x187001) else (if 0 ≤ x12 then (if 0 ≤ x10 then (if x10 < (x6.length : Int) then (spec_FlatFunction.l1 k x1 x6 x8 x9 x10 (((rd_T46 x1 x12).f1) == (rd x6 x10)) (wrap64 (x12 + 1)) x187000 x187001) else (none)) else (none)) else (none))) else (if x11 = true then (spec_FlatFunction.j2 k x1 x6 x8 x9 x10 x187000 x187001) else (spec_FlatFunction.j2 k x1 x6 x8 (wrap64 (x9 + 1)) x10 x187000 x187001))
def spec_FlatFunction.j2 : Nat → List (S46) → List Int → List Int → Int → Int → Int → List Int → Option (List Int × Int)
 | 0, _, _, _, _, _, _, _ => none
 | k + 1, x1, x6, x8, x9, x10, x187000, x187001 => spec_FlatFunction.l2 k x1 x6 x8 x9 x10 0 x187000 x187001
def spec_FlatFunction.l2 : Nat → List (S46) → List Int → List Int → Int → Int → Int → Int → List Int → Option (List Int × Int)
 | 0, _, _, _, _, _, _, _, _ => none
 | k + 1, x1, x6, x8, x9, x10, x13, x187000, x187001 => if x13 < (x187001.length : Int) then (if 0 ≤ x13 then (if 0 ≤ x10 then (if x10 < (x6.length : Int) then (if (rd x187001 x13) = (rd x6 x10) then (if x13 < (x8.length : Int) then (spec_FlatFunction.l2 k x1 x6 (x8.set (x13 : Int).toNat x9) x9 x10 (wrap64 (x13 + 1)) x187000 x187001) else (none)) else (spec_FlatFunction.l2 k x1 x6 x8 x9 x10 (wrap64 (x13 + 1)) x187000 x187001)) else (none)) else (none)) else (none)) else (spec_FlatFunction.l0 k x1 x6 x8 x9 (wrap64 (x10 + 1)) x187000 x187001)
end
def spec_FlatFunction.f (k : Nat) (a0_0 : Int) (l0_1 : List Int) (l1 : List (S46)) : Option (List Int × Int) := (spec_OrderOfPairing.f k a0_0 l0_1 l1).bind fun bt187 => (if bt187.2 = 0 then (if 0 ≤ (l0_1.length : Int) then (if ((l0_1.length : Int) : Int).toNat ≤ 35184372088832 then (spec_FlatFunction.l0 k l1 bt187.1 (List.replicate ((l0_1.length : Int) : Int).toNat 0) (-1) 0 a0_0 l0_1) else (none)) else (none)) else (some (([] : List Int), bt187.2)))
theorem spec_FlatFunction.mono_l : ∀ k, (∀ y0 y1 y2 y3 y4 y5 y6, LeO (spec_FlatFunction.l0 k y0 y1 y2 y3 y4 y5 y6) (spec_FlatFunction.l0 (k + 1) y0 y1 y2 y3 y4 y5 y6)) ∧ (∀ y0 y1 y2 y3 y4 y5 y6 y7 y8, LeO (spec_FlatFunction.l1 k y0 y1 y2 y3 y4 y5 y6 y7 y8) (spec_FlatFunction.l1 (k + 1) y0 y1 y2 y3 y4 y5 y6 y7 y8)) ∧ (∀ y0 y1 y2 y3 y4 y5 y6, LeO (spec_FlatFunction.j2 k y0 y1 y2 y3 y4 y5 y6) (spec_FlatFunction.j2 (k + 1) y0 y1 y2 y3 y4 y5 y6)) ∧ (∀ y0 y1 y2 y3 y4 y5 y6 y7, LeO (spec_FlatFunction.l2 k y0 y1 y2 y3 y4 y5 y6 y7) (spec_FlatFunction.l2 (k + 1) y0 y1 y2 y3 y4 y5 y6 y7))
 | 0 => ⟨fun _ _ _ _ _ _ _ r h => by simp [spec_FlatFunction.l0] at h, fun _ _ _ _ _ _ _ _ _ r h => by simp [spec_FlatFunction.l1] at h, fun _ _ _ _ _ _ _ r h => by simp [spec_FlatFunction.j2] at h, fun _ _ _ _ _ _ _ _ r h => by simp [spec_FlatFunction.l2] at h⟩
 | k + 1 => by
  obtain ⟨ih0, ih1, ih2, ih3⟩ := spec_FlatFunction.mono_l k
  refine ⟨?_, ?_, ?_, ?_⟩
  ·intro y0 y1 y2 y3 y4 y5 y6
   unfold spec_FlatFunction.l0
   repeat' first
   | (with_reducible exact ih0 _ _ _ _ _ _ _)
   | (with_reducible exact ih1 _ _ _ _ _ _ _ _ _)
   | (with_reducible exact ih2 _ _ _ _ _ _ _)
   | (with_reducible exact ih3 _ _ _ _ _ _ _ _)
   | (with_reducible exact spec_OrderOfPairing.mono _ _ _ _)
   | (with_reducible exact LeO.refl _)
   | (with_reducible exact LeO.none _)
   | (with_reducible refine LeO.ite ?_ ?_)
   | (with_reducible refine LeO.bind ?_ (fun _ => ?_))
   | exact ih0 _ _ _ _ _ _ _
   | exact ih1 _ _ _ _ _ _ _ _ _
   | exact ih2 _ _ _ _ _ _ _
   | exact ih3 _ _ _ _ _ _ _ _
   | exact spec_OrderOfPairing.mono _ _ _ _
   | exact LeO.none _
   | refine LeO.ite ?_ ?_
   | refine LeO.bind ?_ (fun _ => ?_)
  ·intro y0 y1 y2 y3 y4 y5 y6 y7 y8
   unfold spec_FlatFunction.l1
   repeat' first
   | (with_reducible exact ih0 _ _ _ _ _ _ _)
   | (with_reducible exact ih1 _ _ _ _ _ _ _ _ _)
   | (with_reducible exact ih2 _ _ _ _ _ _ _)
   | (with_reducible exact ih3 _ _ _ _ _ _ _ _)
   | (with_reducible exact spec_OrderOfPairing.mono _ _ _ _)
   | (with_reducible exact LeO.refl _)
   | (with_reducible exact LeO.none _)
   | (with_reducible refine LeO.ite ?_ ?_)
   | (with_reducible refine LeO.bind ?_ (fun _ => ?_))
   | exact ih0 _ _ _ _ _ _ _
   | exact ih1 _ _ _ _ _ _ _ _ _
   | exact ih2 _ _ _ _ _ _ _
   | exact ih3 _ _ _ _ _ _ _ _
   | exact spec_OrderOfPairing.mono _ _ _ _
   | exact LeO.none _
   | refine LeO.ite ?_ ?_
   | refine LeO.bind ?_ (fun _ => ?_)
  ·intro y0 y1 y2 y3 y4 y5 y6
   unfold spec_FlatFunction.j2
   repeat' first
   | (with_reducible exact ih0 _ _ _ _ _ _ _)
   | (with_reducible exact ih1 _ _ _ _ _ _ _ _ _)
   | (with_reducible exact ih2 _ _ _ _ _ _ _)
   | (with_reducible exact ih3 _ _ _ _ _ _ _ _)
   | (with_reducible exact spec_OrderOfPairing.mono _ _ _ _)
   | (with_reducible exact LeO.refl _)
   | (with_reducible exact LeO.none _)
   | (with_reducible refine LeO.ite ?_ ?_)
   | (with_reducible refine LeO.bind ?_ (fun _ => ?_))
   | exact ih0 _ _ _ _ _ _ _
   | exact ih1 _ _ _ _ _ _ _ _ _
   | exact ih2 _ _ _ _ _ _ _
   | exact ih3 _ _ _ _ _ _ _ _
   | exact spec_OrderOfPairing.mono _ _ _ _
   | exact LeO.none _
   | refine LeO.ite ?_ ?_
   | refine LeO.bind ?_ (fun _ => ?_)
  ·intro y0 y1 y2 y3 y4 y5 y6 y7
   unfold spec_FlatFunction.l2
   repeat' first
   | (with_reducible exact ih0 _ _ _ _ _ _ _)
   | (with_reducible exact ih1 _ _ _ _ _ _ _ _ _)
   | (with_reducible exact ih2 _ _ _ _ _ _ _)
   | (with_reducible exact ih3 _ _ _ _ _ _ _ _)
   | (with_reducible exact spec_OrderOfPairing.mono _ _ _ _)
   | (with_reducible exact LeO.refl _)
   | (with_reducible exact LeO.none _)
   | (with_reducible refine LeO.ite ?_ ?_)
   | (with_reducible refine LeO.bind ?_ (fun _ => ?_))
   | exact ih0 _ _ _ _ _ _ _
   | exact ih1 _ _ _ _ _ _ _ _ _
   | exact ih2 _ _ _ _ _ _ _
   | exact ih3 _ _ _ _ _ _ _ _
   | exact spec_OrderOfPairing.mono _ _ _ _
   | exact LeO.none _
   | refine LeO.ite ?_ ?_
   | refine LeO.bind ?_ (fun _ => ?_)
theorem spec_FlatFunction.mono : ∀ a0 a1 a2 k, LeO (spec_FlatFunction.f k a0 a1 a2) (spec_FlatFunction.f (k + 1) a0 a1 a2) := by
 intro a0 a1 a2 k
 obtain ⟨ih0, ih1, ih2, ih3⟩ := spec_FlatFunction.mono_l k
 unfold spec_FlatFunction.f
 repeat' first
   | (with_reducible exact ih0 _ _ _ _ _ _ _)
   | (with_reducible exact ih1 _ _ _ _ _ _ _ _ _)
   | (with_reducible exact ih2 _ _ _ _ _ _ _)
   | (with_reducible exact ih3 _ _ _ _ _ _ _ _)
   | (with_reducible exact spec_OrderOfPairing.mono _ _ _ _)
   | (with_reducible exact LeO.refl _)
   | (with_reducible exact LeO.none _)
   | (with_reducible refine LeO.ite ?_ ?_)
   | (with_reducible refine LeO.bind ?_ (fun _ => ?_))
   | exact ih0 _ _ _ _ _ _ _
   | exact ih1 _ _ _ _ _ _ _ _ _
   | exact ih2 _ _ _ _ _ _ _
   | exact ih3 _ _ _ _ _ _ _ _
   | exact spec_OrderOfPairing.mono _ _ _ _
   | exact LeO.none _
   | refine LeO.ite ?_ ?_
   | refine LeO.bind ?_ (fun _ => ?_)
set_option maxHeartbeats 8000000 in
set_option maxRecDepth 100000 in
theorem spec_FlatFunction.calls (k : Nat) (a0_0 : Int) (A0_1 : Option Addr) (c0_1 : Nat) (l0_1 : List Int) (A1 : Option Addr) (c1 : Nat) (l1 : List (S46)) (r1 : List Int) (r2 : Int) (w : World) (hr0_1 : Kd.C (Kd.int .i64) w A0_1 l0_1.length l0_1) (hc0_1 : l0_1.length ≤ c0_1) (hr1 : Kd.C k46 w A1 l1.length l1) (hc1 : l1.length ≤ c1) (h : spec_FlatFunction.f k a0_0 l0_1 l1 = some (r1, r2)) :
  Calls Tryz.prog 18 #[.agg #[.int .i64 a0_0, .slice A0_1 l0_1.length c0_1], .slice A1 l1.length c1] w fun e w' => ∃ v0_ : Value, e = .returned (.tuple #[v0_, .int .i64 r2]) ∧ Kd.R (Kd.int .i64) 2 w' w.heap.size (fun _ => True) v0_ r1 ∧ Below w.heap.size w w' := by
 have hu30 := Tryz.underlying30
 have HR0_1 := Aside0.mk hr0_1
 have HC0_1 := Aside0.mk hc0_1
 clear hr0_1 hc0_1
 have HR1 := Aside0.mk hr1
 have HC1 := Aside0.mk hc1
 clear hr1 hc1
 have HB := Aside0.mk (Below.refl w.heap.size w)
 have H : ((spec_OrderOfPairing.f k a0_0 l0_1 l1).bind fun bt187 => (if bt187.2 = 0 then (if 0 ≤ (l0_1.length : Int) then (if ((l0_1.length : Int) : Int).toNat ≤ 35184372088832 then (spec_FlatFunction.l0 k l1 bt187.1 (List.replicate ((l0_1.length : Int) : Int).toNat 0) (-1) 0 a0_0 l0_1) else (none)) else (none)) else (some (([] : List Int), bt187.2)))) = some (r1, r2) := h
 clear h
 replace H := Option.bind_eq_some_iff.mp H
 obtain ⟨⟨t187, t190⟩, A30, H⟩ := H
 replace H : (if t190 = 0 then (if 0 ≤ (l0_1.length : Int) then (if ((l0_1.length : Int) : Int).toNat ≤ 35184372088832 then (spec_FlatFunction.l0 k l1 t187 (List.replicate ((l0_1.length : Int) : Int).toNat 0) (-1) 0 a0_0 l0_1) else (none)) else (none)) else (some (([] : List Int), t190))) = some (r1, r2) := H
 have A3 := Aside0.mk A30
 clear A30
 by_cases c4 : t190 = 0
 ·rw [if_pos c4] at H
  have c4b0 : (t190 == 0) = true := beq_iff_eq.mpr c4
  have c4b1 : (t190 != 0) = false := bne_eq_false_iff_eq.mpr c4
  clear c4
  by_cases c5 : 0 ≤ (l0_1.length : Int)
  ·rw [if_pos c5] at H
   have c5b0 := eq_true c5
   have c5b1 : decide (0 ≤ (l0_1.length : Int)) = true := decide_eq_true c5
   clear c5
   by_cases c6 : ((l0_1.length : Int) : Int).toNat ≤ 35184372088832
   ·rw [if_pos c6] at H
    have c6b0 := eq_true c6
    have c6b1 : decide (((l0_1.length : Int) : Int).toNat ≤ 35184372088832) = true := decide_eq_true c6
    clear c6
    obtain ⟨y191, hy191⟩ : ∃ y_ : List Int, y_ = (List.replicate ((l0_1.length : Int) : Int).toNat 0) := ⟨_, rfl⟩
    replace H : (spec_FlatFunction.l0 k l1 t187 y191 (-1) 0 a0_0 l0_1) = some (r1, r2) := by first | (rw [hy191]; with_reducible exact H) | (have H2_ := (Option.bind_some _ _).symm.trans H; rw [hy191]; with_reducible exact H2_) | (have H2_ := (Option.bind_some _ _).symm.trans H; with_reducible exact H2_) | with_reducible exact H | (rw [hy191]; exact H) | exact H
    have Ny191 := Aside0.mk hy191
    clear hy191
    have H' := Aside0.mk H
    clear H
    go_enter Tryz.func18, Tryz.ntmps18
    go_wp2_with (first | ((with_reducible refine gate_dst (N := 2) rfl ?_); refine box_event ?hg (N := 2) ?hd (cs := #[.int .i64 a0_0, .slice A0_1 l0_1.length c0_1]) (t := 30) ?hr ?_; (case hd => rfl); (case hg => rfl); (case hr => first | (go_simp; done) | (go_simp; rfl)); intro gb186 hg w7 hbox hb; have n0_ := Aside0.mk (below_step (by repeat (first | (with_reducible first | exact HB.out | apply below_alloc | apply pw_below_drewN | apply below_drew1) | exact HB.out)) hb); have n1_ := Aside0.mk (hbox); have n2_ := Aside0.mk ((by rw [hg]; exact (below_size (by repeat (first | (with_reducible first | exact HB.out | apply below_alloc | apply pw_below_drewN | apply below_drew1) | exact HB.out))) : w.heap.size ≤ gb186)); have n3_ := Aside0.mk ((by rw [hg]; exact (below_size (by repeat (first | (with_reducible first | exact HB.out | apply below_alloc | apply pw_below_drewN | apply below_drew1) | exact HB.out))) : w.heap.size ≤ gb186)); clear HB; have HB := n0_; have BK186 := n1_; have GW186 := n2_; have GE186 := n3_; clear n0_ n1_ n2_ n3_; clear hb hbox hg; have hcz8_0 : w7.cell? ⟨gb186, 0, none⟩ = some (.int .i64 a0_0) := (blk_cell BK186.out 0).trans rfl; have hcz8_1 : w7.cell? ⟨gb186, 1, none⟩ = some (.slice A0_1 l0_1.length c0_1) := (blk_cell BK186.out 1).trans rfl; have hfz8_0 := blk_frozen BK186.out 0; have hfz8_1 := blk_frozen BK186.out 1) | (go_at_call 7; (with_reducible refine (spec_OrderOfPairing.calls k a0_0 _ _ l0_1 _ _ l1 t187 t190 _ ?side1 ?side2 ?side3 ?side4 A3.out).mono ?_); (case side1 => repeat (first | exact (Kd.C_below HR0_1.out HB.out) | (with_reducible refine Kd.C_alloc ?_ _) | (with_reducible refine Kd.C_drewN ?_ _) | (with_reducible refine Kd.C_drew ?_))); (case side2 => exact HC0_1.out); (case side3 => repeat (first | exact (Kd.C_below HR1.out HB.out) | (with_reducible refine Kd.C_alloc ?_ _) | (with_reducible refine Kd.C_drewN ?_ _) | (with_reducible refine Kd.C_drew ?_))); (case side4 => exact HC1.out); rintro e w9 ⟨v188, rfl, ho0, hb⟩; have n0_ := Aside0.mk (Kd.R_lower ho0 (below_size (by repeat (first | (with_reducible first | exact HB.out | apply below_alloc | apply pw_below_drewN | apply below_drew1 | refine below_set ?_ GE186.out) | exact HB.out)))); have n1_ := Aside0.mk (blk_below (g := gb186) (o := .cells #[.int .i64 a0_0, .slice A0_1 l0_1.length c0_1] 30 (0, 0)) (by (with_reducible repeat (first | refine blk_drewN ?_ _ | refine blk_drew ?_ | refine blk_alloc ?_ _)); exact BK186.out) hb); have n2_ := Aside0.mk (below_step (by repeat (first | (with_reducible first | exact HB.out | apply below_alloc | apply pw_below_drewN | apply below_drew1 | refine below_set ?_ GE186.out) | exact HB.out)) hb); clear BK186; clear HB; have HO189 := n0_; have BK186 := n1_; have HB := n2_; clear n0_ n1_ n2_; (try clear hb); (try clear hb2); (try clear hk); (try clear hi); (try clear ho0); have hcz10_0 : w9.cell? ⟨gb186, 0, none⟩ = some (.int .i64 a0_0) := (blk_cell BK186.out 0).trans rfl; have hcz10_1 : w9.cell? ⟨gb186, 1, none⟩ = some (.slice A0_1 l0_1.length c0_1) := (blk_cell BK186.out 1).trans rfl; have hfz10_0 := blk_frozen BK186.out 0; have hfz10_1 := blk_frozen BK186.out 1) | ((with_reducible refine gate_dst (N := 26) rfl ?_); refine Kd.R_make (Kd.int .i64) _ 2 rfl (N := 26) rfl 22 _ _ rfl (l0_1.length : Int) rfl rfl Tryz.underlying22 (.int .i64 0) 8 info2 rfl (by decide) (by omega) 0 (ok := fun _ => True) (okp := fun _ => True) rfl (fun _ hk => hk) trivial (of_decide_eq_true (by first | (with_reducible assumption) | assumption)) (Nat.le_trans (Nat.mul_le_mul_right _ (of_decide_eq_true (by first | (with_reducible assumption) | assumption) : (l0_1.length : Int).toNat ≤ 35184372088832)) (by omega)) (Below.refl _ _) (Nat.le_refl _) ?_; intro v192 w11 ho12 hb hg_ hnew_; clear hg_ hnew_; (first | rw [← Ny191.out] at ho12 | (simp only [Int.reduceToNat] at ho12; rw [← Ny191.out] at ho12)); have n0_ := Aside0.mk (Kd.R_elder' (by (with_reducible repeat (first | apply Kd.R_alloc | apply Kd.R_drewN | apply Kd.R_drew)); exact HO189.out) (Kd.R_base ho12) hb); have n1_ := Aside0.mk (Kd.R_lower (Kd.R_new' ho12 (Kd.R_lt (by (with_reducible repeat (first | apply Kd.R_alloc | apply Kd.R_drewN | apply Kd.R_drew)); exact HO189.out))) (below_size (by repeat (first | (with_reducible first | exact HB.out | apply below_alloc | apply pw_below_drewN | apply below_drew1 | refine below_set ?_ GE186.out) | exact HB.out)))); have n2_ := Aside0.mk (blk_below (g := gb186) (o := .cells #[.int .i64 a0_0, .slice A0_1 l0_1.length c0_1] 30 (0, 0)) (by (with_reducible repeat (first | refine blk_drewN ?_ _ | refine blk_drew ?_ | refine blk_alloc ?_ _)); exact BK186.out) hb); have n3_ := Aside0.mk (below_step (by repeat (first | (with_reducible first | exact HB.out | apply below_alloc | apply pw_below_drewN | apply below_drew1 | refine below_set ?_ GE186.out) | exact HB.out)) hb); clear HO189; clear BK186; clear HB; have HO189 := n0_; have HO193 := n1_; have BK186 := n2_; have HB := n3_; clear n0_ n1_ n2_ n3_; clear hb ho12))

    go_loopg [9, 10] k (fun kq v9 v10 w' => ∃ (x8_1 : List Int) (x9_1 : Int) (x10_1 : Int), v9 = .int .i64 x9_1 ∧ v10 = .int .i64 x10_1 ∧ Aside0 (spec_FlatFunction.l0 kq l1 t187 x8_1 x9_1 x10_1 a0_0 l0_1 = some (r1, r2)) ∧ Aside0 (kq ≤ k) ∧ Aside0 (Kd.R (Kd.int .i64) 2 w' w.heap.size (fun k_ => some k_ ≠ (v192 : Value).ownBlock) v188 t187) ∧ Aside0 (Kd.R (Kd.int .i64) 2 w' w.heap.size (fun k_ => some k_ ≠ (v188 : Value).ownBlock) v192 x8_1) ∧ Aside0 (w'.heap[gb186]? = some (.cells #[.int .i64 a0_0, (.slice A0_1 l0_1.length c0_1)] 30 (0, 0))) ∧ Aside0 (Below w.heap.size w w'))
    case atStart => exact ⟨(y191), ((-1)), (0), (by first | rfl | (simp; done) | (simp [*]; done)), (by first | rfl | (simp; done) | (simp [*]; done)), H', ⟨Nat.le_refl _⟩, ⟨by (with_reducible repeat (first | apply Kd.R_alloc | apply Kd.R_drewN | apply Kd.R_drew)); exact Kd.R_mono HO189.out (fun _ hk => hk.2)⟩, ⟨by (with_reducible repeat (first | apply Kd.R_alloc | apply Kd.R_drewN | apply Kd.R_drew)); exact Kd.R_mono HO193.out (fun _ hk => hk.2)⟩, ⟨by (with_reducible repeat (first | refine blk_drewN ?_ _ | refine blk_drew ?_ | refine blk_alloc ?_ _)); exact BK186.out⟩, ⟨by repeat (first | (with_reducible first | exact HB.out | apply below_alloc | apply pw_below_drewN | apply below_drew1 | refine below_set ?_ GE186.out) | exact HB.out)⟩⟩
    case round =>
     clear H'
     try clear c1
     try clear p2
     try clear c4
     try clear c4b0
     try clear c4b1
     try clear c5
     try clear c5b0
     try clear c5b1
     try clear c6
     try clear c6b0
     try clear c6b1
     try clear hcz10_0
     try clear hcz10_1
     try clear hcz8_0
     try clear hcz8_1
     try clear hfz10_0
     try clear hfz10_1
     try clear hfz8_0
     try clear hfz8_1
     obtain ⟨x8_1, x9_1, x10_1, rfl, rfl, HA, HK1, HO_6, HO_8, BK186, HB⟩ := hrel
     cases gk with
     | zero => exact absurd HA.out (by simp [spec_FlatFunction.l0])
     | succ k1 =>
      have H := HA.out
      clear HA
      simp only [spec_FlatFunction.l0] at H
      by_cases c13 : x10_1 < (t187.length : Int)
      ·rw [if_pos c13] at H
       have c13b0 : decide (x10_1 < (t187.length : Int)) = true := decide_eq_true c13
       clear c13
       have H' := Aside0.mk H
       clear H
       obtain ⟨Ao14, co14, eo14⟩ := Kd.R_slice HO_6.out
       subst eo14
       go_wp2
       repeat (go_quiet (fail); try go_wp2)
       go_loopg [11, 12] k1 (fun kq v11 v12 w' => ∃ (x11_2 : Bool) (x12_2 : Int), v11 = .bool x11_2 ∧ v12 = .int .i64 x12_2 ∧ Aside0 (spec_FlatFunction.l1 kq l1 t187 x8_1 x9_1 x10_1 x11_2 x12_2 a0_0 l0_1 = some (r1, r2)) ∧ Aside0 (kq ≤ k1) ∧ Aside0 (Kd.R (Kd.int .i64) 2 w' w.heap.size (fun k_ => some k_ ≠ (v192 : Value).ownBlock) (.slice Ao14 t187.length co14) t187) ∧ Aside0 (Kd.R (Kd.int .i64) 2 w' w.heap.size (fun k_ => some k_ ≠ ((.slice Ao14 t187.length co14) : Value).ownBlock) v192 x8_1) ∧ Aside0 (w'.heap[gb186]? = some (.cells #[.int .i64 a0_0, (.slice A0_1 l0_1.length c0_1)] 30 (0, 0))) ∧ Aside0 (Below w.heap.size w w'))
       case atStart => exact ⟨(false), (0), (by first | rfl | (simp; done) | (simp [*]; done)), (by first | rfl | (simp; done) | (simp [*]; done)), H', ⟨Nat.le_refl _⟩, ⟨by (with_reducible repeat (first | apply Kd.R_alloc | apply Kd.R_drewN | apply Kd.R_drew)); exact HO_6.out⟩, ⟨by (with_reducible repeat (first | apply Kd.R_alloc | apply Kd.R_drewN | apply Kd.R_drew)); exact HO_8.out⟩, ⟨by (with_reducible repeat (first | refine blk_drewN ?_ _ | refine blk_drew ?_ | refine blk_alloc ?_ _)); exact BK186.out⟩, ⟨by repeat (first | (with_reducible first | exact HB.out | apply below_alloc | apply pw_below_drewN | apply below_drew1 | refine below_set ?_ GE186.out) | exact HB.out)⟩⟩
       case round =>
        clear H'
        try clear c1
        try clear p2
        try clear c4
        try clear c4b0
        try clear c4b1
        try clear c5
        try clear c5b0
        try clear c5b1
        try clear c6
        try clear c6b0
        try clear c6b1
        try clear c13
        try clear c13b0
        try clear hcz10_0
        try clear hcz10_1
        try clear hcz8_0
        try clear hcz8_1
        try clear hfz10_0
        try clear hfz10_1
        try clear hfz8_0
        try clear hfz8_1
        try clear p2
        obtain ⟨x11_2, x12_2, rfl, rfl, HA, HK2, HO_6, HO_8, BK186, HB⟩ := hrel
        cases gk with
        | zero => exact absurd HA.out (by simp [spec_FlatFunction.l1])
        | succ k2 =>
         have H := HA.out
         clear HA
         simp only [spec_FlatFunction.l1] at H
         by_cases c15 : x12_2 < (l1.length : Int)
         ·rw [if_pos c15] at H
          have c15b0 : decide (x12_2 < (l1.length : Int)) = true := decide_eq_true c15
          clear c15
          by_cases c16 : x11_2 = true
          ·subst c16
           have H1 : (spec_FlatFunction.l1 k2 l1 t187 x8_1 x9_1 x10_1 true (wrap64 (x12_2 + 1)) a0_0 l0_1) = some (r1, r2) := by rw [if_pos rfl] at H; exact H
           clear H
           have H := H1
           clear H1
           have H' := Aside0.mk H
           clear H
           go_wp2
           repeat (go_quiet (fail); try go_wp2)
           go_roundg k2
           case measure => have := HK1.out; have := HK2.out; omega
           case rel => exact ⟨(true), (wrap64 (x12_2 + 1)), (by first | rfl | (simp; done) | (simp [*]; done)), (by first | rfl | (simp; done) | (simp [*]; done)), H', ⟨by have := HK1.out; have := HK2.out; omega⟩, ⟨by (with_reducible repeat (first | apply Kd.R_alloc | apply Kd.R_drewN | apply Kd.R_drew)); exact HO_6.out⟩, ⟨by (with_reducible repeat (first | apply Kd.R_alloc | apply Kd.R_drewN | apply Kd.R_drew)); exact HO_8.out⟩, ⟨by (with_reducible repeat (first | refine blk_drewN ?_ _ | refine blk_drew ?_ | refine blk_alloc ?_ _)); exact BK186.out⟩, ⟨by repeat (first | (with_reducible first | exact HB.out | apply below_alloc | apply pw_below_drewN | apply below_drew1 | refine below_set ?_ GE186.out) | exact HB.out)⟩⟩
          ·replace c16 := Bool.eq_false_iff.mpr c16
           subst c16
           have H1 : (if 0 ≤ x12_2 then (if 0 ≤ x10_1 then (if x10_1 < (t187.length : Int) then (spec_FlatFunction.l1 k2 l1 t187 x8_1 x9_1 x10_1 (((rd_T46 l1 x12_2).f1) == (rd t187 x10_1)) (wrap64 (x12_2 + 1)) a0_0 l0_1) else (none)) else (none)) else (none)) = some (r1, r2) := by rw [if_neg (show ¬ (false = true) by decide)] at H; exact H
           clear H
           have H := H1
           clear H1
           by_cases c17 : 0 ≤ x12_2
           ·rw [if_pos c17] at H
            have c17b0 : decide (0 ≤ x12_2) = true := decide_eq_true c17
            clear c17
            by_cases c18 : 0 ≤ x10_1
            ·rw [if_pos c18] at H
             have c18b0 : decide (0 ≤ x10_1) = true := decide_eq_true c18
             clear c18
             by_cases c19 : x10_1 < (t187.length : Int)
             ·rw [if_pos c19] at H
              have c19b0 : decide (x10_1 < (t187.length : Int)) = true := decide_eq_true c19
              clear c19
              have H' := Aside0.mk H
              clear H
              have p194 : 0 ≤ (x12_2 : Int) := of_decide_eq_true (by first | (with_reducible assumption) | assumption)
              have q194 : x12_2 < (l1.length : Int) := of_decide_eq_true (by first | (with_reducible assumption) | assumption)
              obtain ⟨ad194, e194, hx194_0, hx194_1⟩ := at_T46 HR1.out x12_2 p194 q194
              cases e194
              replace hx194_0 := (HB.out.cell (World.block_lt_of_cell? w _ hx194_0)).trans hx194_0
              replace hx194_1 := (HB.out.cell (World.block_lt_of_cell? w _ hx194_1)).trans hx194_1
              replace p194 := eq_true p194
              replace q194 := eq_true q194
              have p195 : 0 ≤ (x10_1 : Int) := of_decide_eq_true (by first | (with_reducible assumption) | assumption)
              have q195 : x10_1 < (t187.length : Int) := of_decide_eq_true (by first | (with_reducible assumption) | assumption)
              obtain ⟨ad195, e195, hx195_0⟩ := Kd.at_int (Kd.R_reads' HO_6.out).2.2 x10_1 p195 q195
              cases e195
              replace p195 := eq_true p195
              replace q195 := eq_true q195
              go_wp2
              repeat (go_quiet (fail); try go_wp2)
              go_roundg k2
              case measure => have := HK1.out; have := HK2.out; omega
              case rel => exact ⟨((((rd_T46 l1 x12_2).f1) == (rd t187 x10_1))), (wrap64 (x12_2 + 1)), (by first | rfl | (simp; done) | (simp [*]; done)), (by first | rfl | (simp; done) | (simp [*]; done)), H', ⟨by have := HK1.out; have := HK2.out; omega⟩, ⟨by (with_reducible repeat (first | apply Kd.R_alloc | apply Kd.R_drewN | apply Kd.R_drew)); exact HO_6.out⟩, ⟨by (with_reducible repeat (first | apply Kd.R_alloc | apply Kd.R_drewN | apply Kd.R_drew)); exact HO_8.out⟩, ⟨by (with_reducible repeat (first | refine blk_drewN ?_ _ | refine blk_drew ?_ | refine blk_alloc ?_ _)); exact BK186.out⟩, ⟨by repeat (first | (with_reducible first | exact HB.out | apply below_alloc | apply pw_below_drewN | apply below_drew1 | refine below_set ?_ GE186.out) | exact HB.out)⟩⟩
             ·rw [if_neg c19] at H
              exact absurd H (by simp)
            ·rw [if_neg c18] at H
             exact absurd H (by simp)
           ·rw [if_neg c17] at H
            exact absurd H (by simp)
         ·rw [if_neg c15] at H
          have c15b0 : decide (x12_2 < (l1.length : Int)) = false := decide_eq_false c15
          clear c15
          have HC20 := Aside0.mk H
          clear H
          go_upto_if 53 with (fail)
          repeat (go_quiet (fail); go_upto_if 53 with (fail))
          go_cut [9] (fun v9 wc => ∃ (kq : Nat) (x9_19 : Int), v9 = .int .i64 x9_19 ∧ Aside0 (spec_FlatFunction.j2 kq l1 t187 x8_1 x9_19 x10_1 a0_0 l0_1 = some (r1, r2)) ∧ Aside0 (kq ≤ k2) ∧ Aside0 (Kd.R (Kd.int .i64) 2 wc w.heap.size (fun k_ => some k_ ≠ (v192 : Value).ownBlock) (.slice Ao14 t187.length co14) t187) ∧ Aside0 (Kd.R (Kd.int .i64) 2 wc w.heap.size (fun k_ => some k_ ≠ ((.slice Ao14 t187.length co14) : Value).ownBlock) v192 x8_1) ∧ Aside0 (wc.heap[gb186]? = some (.cells #[.int .i64 a0_0, (.slice A0_1 l0_1.length c0_1)] 30 (0, 0))) ∧ Aside0 (Below w.heap.size w wc))
          case first =>
           have H := HC20.out
           clear HC20
           by_cases c21 : x11_2 = true
           ·subst c21
            have H1 : (spec_FlatFunction.j2 k2 l1 t187 x8_1 x9_1 x10_1 a0_0 l0_1) = some (r1, r2) := by rw [if_pos rfl] at H; exact H
            clear H
            have H := H1
            clear H1
            have H' := Aside0.mk H
            clear H
            go_wp2
            repeat (go_quiet (fail); try go_wp2)
            go_meet
            case rel => exact ⟨_, (x9_1), (by first | rfl | (simp; done) | (simp [*]; done)), H', ⟨by have := HK1.out; have := HK2.out; first | omega | exact Nat.le_refl _⟩, ⟨by (with_reducible repeat (first | apply Kd.R_alloc | apply Kd.R_drewN | apply Kd.R_drew)); exact HO_6.out⟩, ⟨by (with_reducible repeat (first | apply Kd.R_alloc | apply Kd.R_drewN | apply Kd.R_drew)); exact HO_8.out⟩, ⟨by (with_reducible repeat (first | refine blk_drewN ?_ _ | refine blk_drew ?_ | refine blk_alloc ?_ _)); exact BK186.out⟩, ⟨by repeat (first | (with_reducible first | exact HB.out | apply below_alloc | apply pw_below_drewN | apply below_drew1 | refine below_set ?_ GE186.out) | exact HB.out)⟩⟩
           ·replace c21 := Bool.eq_false_iff.mpr c21
            subst c21
            have H1 : (spec_FlatFunction.j2 k2 l1 t187 x8_1 (wrap64 (x9_1 + 1)) x10_1 a0_0 l0_1) = some (r1, r2) := by rw [if_neg (show ¬ (false = true) by decide)] at H; exact H
            clear H
            have H := H1
            clear H1
            have H' := Aside0.mk H
            clear H
            go_wp2
            repeat (go_quiet (fail); try go_wp2)
            go_meet
            case rel => exact ⟨_, (wrap64 (x9_1 + 1)), (by first | rfl | (simp; done) | (simp [*]; done)), H', ⟨by have := HK1.out; have := HK2.out; first | omega | exact Nat.le_refl _⟩, ⟨by (with_reducible repeat (first | apply Kd.R_alloc | apply Kd.R_drewN | apply Kd.R_drew)); exact HO_6.out⟩, ⟨by (with_reducible repeat (first | apply Kd.R_alloc | apply Kd.R_drewN | apply Kd.R_drew)); exact HO_8.out⟩, ⟨by (with_reducible repeat (first | refine blk_drewN ?_ _ | refine blk_drew ?_ | refine blk_alloc ?_ _)); exact BK186.out⟩, ⟨by repeat (first | (with_reducible first | exact HB.out | apply below_alloc | apply pw_below_drewN | apply below_drew1 | refine below_set ?_ GE186.out) | exact HB.out)⟩⟩
          case rest =>
           clear HC20
           try clear c1
           try clear p1
           try clear q1
           try clear hx1
           try clear c2
           try clear p2
           try clear c4
           try clear c4b0
           try clear c4b1
           try clear c5
           try clear c5b0
           try clear c5b1
           try clear c6
           try clear c6b0
           try clear c6b1
           try clear p6
           try clear c13
           try clear c13b0
           try clear c15
           try clear c15b0
           try clear c16
           try clear c17
           try clear c17b0
           try clear c18
           try clear c18b0
           try clear c19
           try clear c19b0
           try clear p19
           try clear q19
           try clear hx19
           try clear c21
           try clear hcz10_0
           try clear hcz10_1
           try clear hcz8_0
           try clear hcz8_1
           try clear hfz10_0
           try clear hfz10_1
           try clear hfz8_0
           try clear hfz8_1
           try clear hx194_0
           try clear hx194_1
           try clear hx195_0
           try clear p194
           try clear p195
           try clear p2
           try clear q194
           try clear q195
           obtain ⟨kq, x9_19, rfl, HA, HJ19, HO_6, HO_8, BK186, HB⟩ := hcut
           cases kq with
           | zero => exact absurd HA.out (by simp [spec_FlatFunction.j2])
           | succ kj19 =>
            have H := HA.out
            clear HA
            simp only [spec_FlatFunction.j2] at H
            have H' := Aside0.mk H
            clear H
            go_wp2
            repeat (go_quiet (fail); try go_wp2)
            go_loopg [13] kj19 (fun kq v13 w' => ∃ (x8_4 : List Int) (x13_4 : Int), v13 = .int .i64 x13_4 ∧ Aside0 (spec_FlatFunction.l2 kq l1 t187 x8_4 x9_19 x10_1 x13_4 a0_0 l0_1 = some (r1, r2)) ∧ Aside0 (kq ≤ kj19) ∧ Aside0 (Kd.R (Kd.int .i64) 2 w' w.heap.size (fun k_ => some k_ ≠ (v192 : Value).ownBlock) (.slice Ao14 t187.length co14) t187) ∧ Aside0 (Kd.R (Kd.int .i64) 2 w' w.heap.size (fun k_ => some k_ ≠ ((.slice Ao14 t187.length co14) : Value).ownBlock) v192 x8_4) ∧ Aside0 (w'.heap[gb186]? = some (.cells #[.int .i64 a0_0, (.slice A0_1 l0_1.length c0_1)] 30 (0, 0))) ∧ Aside0 (Below w.heap.size w w'))
            case atStart => exact ⟨(x8_1), (0), (by first | rfl | (simp; done) | (simp [*]; done)), H', ⟨Nat.le_refl _⟩, ⟨by (with_reducible repeat (first | apply Kd.R_alloc | apply Kd.R_drewN | apply Kd.R_drew)); exact HO_6.out⟩, ⟨by (with_reducible repeat (first | apply Kd.R_alloc | apply Kd.R_drewN | apply Kd.R_drew)); exact HO_8.out⟩, ⟨by (with_reducible repeat (first | refine blk_drewN ?_ _ | refine blk_drew ?_ | refine blk_alloc ?_ _)); exact BK186.out⟩, ⟨by repeat (first | (with_reducible first | exact HB.out | apply below_alloc | apply pw_below_drewN | apply below_drew1 | refine below_set ?_ GE186.out) | exact HB.out)⟩⟩
            case round =>
             clear H'
             try clear c1
             try clear p1
             try clear q1
             try clear hx1
             try clear c2
             try clear p2
             try clear c4
             try clear c4b0
             try clear c4b1
             try clear c5
             try clear c5b0
             try clear c5b1
             try clear c6
             try clear c6b0
             try clear c6b1
             try clear p6
             try clear c13
             try clear c13b0
             try clear c15
             try clear c15b0
             try clear c16
             try clear c17
             try clear c17b0
             try clear c18
             try clear c18b0
             try clear c19
             try clear c19b0
             try clear p19
             try clear q19
             try clear hx19
             try clear c21
             try clear hcz10_0
             try clear hcz10_1
             try clear hcz8_0
             try clear hcz8_1
             try clear hfz10_0
             try clear hfz10_1
             try clear hfz8_0
             try clear hfz8_1
             try clear hx194_0
             try clear hx194_1
             try clear hx195_0
             try clear p1
             try clear p19
             try clear p194
             try clear p195
             try clear p2
             try clear p6
             try clear q1
             try clear q19
             try clear q194
             try clear q195
             obtain ⟨x8_4, x13_4, rfl, HA, HK4, HO_6, HO_8, BK186, HB⟩ := hrel
             cases gk with
             | zero => exact absurd HA.out (by simp [spec_FlatFunction.l2])
             | succ k4 =>
              have H := HA.out
              clear HA
              simp only [spec_FlatFunction.l2] at H
              by_cases c22 : x13_4 < (l0_1.length : Int)
              ·rw [if_pos c22] at H
               have c22b0 : decide (x13_4 < (l0_1.length : Int)) = true := decide_eq_true c22
               clear c22
               by_cases c23 : 0 ≤ x13_4
               ·rw [if_pos c23] at H
                have c23b0 : decide (0 ≤ x13_4) = true := decide_eq_true c23
                clear c23
                by_cases c24 : 0 ≤ x10_1
                ·rw [if_pos c24] at H
                 have c24b0 : decide (0 ≤ x10_1) = true := decide_eq_true c24
                 clear c24
                 by_cases c25 : x10_1 < (t187.length : Int)
                 ·rw [if_pos c25] at H
                  have c25b0 : decide (x10_1 < (t187.length : Int)) = true := decide_eq_true c25
                  clear c25
                  by_cases c26 : (rd l0_1 x13_4) = (rd t187 x10_1)
                  ·rw [if_pos c26] at H
                   have c26b0 : ((rd l0_1 x13_4) == (rd t187 x10_1)) = true := beq_iff_eq.mpr c26
                   have c26b1 : ((rd l0_1 x13_4) != (rd t187 x10_1)) = false := bne_eq_false_iff_eq.mpr c26
                   clear c26
                   by_cases c27 : x13_4 < (x8_4.length : Int)
                   ·rw [if_pos c27] at H
                    have c27b0 : decide (x13_4 < (x8_4.length : Int)) = true := decide_eq_true c27
                    clear c27
                    obtain ⟨y198, hy198⟩ : ∃ y_ : List Int, y_ = (x8_4.set (x13_4 : Int).toNat x9_19) := ⟨_, rfl⟩
                    replace H : (spec_FlatFunction.l2 k4 l1 t187 y198 x9_19 x10_1 (wrap64 (x13_4 + 1)) a0_0 l0_1) = some (r1, r2) := by first | (rw [hy198]; with_reducible exact H) | (have H2_ := (Option.bind_some _ _).symm.trans H; rw [hy198]; with_reducible exact H2_) | (have H2_ := (Option.bind_some _ _).symm.trans H; with_reducible exact H2_) | with_reducible exact H | (rw [hy198]; exact H) | exact H
                    have Ny198 := Aside0.mk hy198
                    clear hy198
                    have H' := Aside0.mk H
                    clear H
                    have hcz29_0 : wr.cell? ⟨gb186, 0, none⟩ = some (.int .i64 a0_0) := (blk_cell BK186.out 0).trans rfl
                    have hcz29_1 : wr.cell? ⟨gb186, 1, none⟩ = some (.slice A0_1 l0_1.length c0_1) := (blk_cell BK186.out 1).trans rfl
                    have hfz29_0 := blk_frozen BK186.out 0
                    have hfz29_1 := blk_frozen BK186.out 1
                    have p196 : 0 ≤ (x13_4 : Int) := of_decide_eq_true (by first | (with_reducible assumption) | assumption)
                    have q196 : x13_4 < (l0_1.length : Int) := of_decide_eq_true (by first | (with_reducible assumption) | assumption)
                    obtain ⟨ad196, e196, hx196_0⟩ := Kd.at_int HR0_1.out x13_4 p196 q196
                    cases e196
                    replace hx196_0 := (HB.out.cell (World.block_lt_of_cell? w _ hx196_0)).trans hx196_0
                    replace p196 := eq_true p196
                    replace q196 := eq_true q196
                    have p197 : 0 ≤ (x10_1 : Int) := of_decide_eq_true (by first | (with_reducible assumption) | assumption)
                    have q197 : x10_1 < (t187.length : Int) := of_decide_eq_true (by first | (with_reducible assumption) | assumption)
                    obtain ⟨ad197, e197, hx197_0⟩ := Kd.at_int (Kd.R_reads' HO_6.out).2.2 x10_1 p197 q197
                    cases e197
                    replace p197 := eq_true p197
                    replace q197 := eq_true q197
                    have p28 : 0 ≤ (x13_4 : Int) := of_decide_eq_true (by first | (with_reducible assumption) | assumption)
                    have q28 : (x13_4 : Int) < ((x8_4.length : Int) : Int) := of_decide_eq_true (by first | (with_reducible assumption) | assumption)
                    obtain ⟨go28, co28, eo28, gb28, gl28, cl28, HG28⟩ := Kd.R_form HO_8.out (by omega)
                    (first | cases eo28 | (injection eo28 with ea_ en_ ec_; (first | subst ea_ | (injection ea_ with ea_; subst ea_)); subst ec_; clear en_))
                    have GB28 := Aside0.mk gb28
                    have GG28 := Aside0.mk HG28
                    clear gb28 gl28 HG28
                    obtain ⟨hx28_0, hf28_0⟩ := Kd.R_celln 0 HO_8.out (x13_4 : Int) p28 q28
                    replace p28 := eq_true p28
                    replace q28 := eq_true q28
                    have HP30 := Kd.R_putg HO_8.out (x13_4 : Int) x9_19
                    go_wp2_with (first | ((with_reducible refine gate_store (t := 2) (p := 76) rfl ?_); (try (rw [drewN_self wr]; generalize hq_ : World.drewN wr _ = wr; have n0_ := Aside0.mk (Kd.R_at hq_ HO_6.out); have n1_ := Aside0.mk (Kd.R_at hq_ HO_8.out); have n2_ := Aside0.mk (blk_at hq_ BK186.out); have n3_ := Aside0.mk (below_at hq_ HB.out); clear hq_ HO_6 HO_8 BK186 HB; have HO_6 := n0_; have HO_8 := n1_; have BK186 := n2_; have HB := n3_; clear n0_ n1_ n2_ n3_; (try (have HP30 := Kd.R_putg HO_8.out (x13_4 : Int) x9_19)))); refine store_event (t := 2) (p := 76) (v := ?vo_w31) (w1 := (wr.setCell ⟨go28, (x13_4 : Int).toNat, none⟩ (.int .i64 x9_19))) ?hg ?ho ?hn ?hr ?_; (case ho => rfl); (case hg => rfl); (case hn => rfl); (case hr => first | (go_simp; done) | (go_simp; rfl)); intro w31 hw; have hg : wr.grownBy w31 (some go28) := (by rw [hw]; exact HP30.2); have hp_ : Kd.R (Kd.int .i64) 2 w31 w.heap.size (fun k_ => some k_ ≠ (.slice (some ad197) t187.length co14 : Value).ownBlock) (.slice (some ⟨go28, 0, none⟩) x8_4.length co28) y198 := (by rw [hw, Ny198.out]; exact HP30.1); clear HP30; have n0_ := Aside0.mk (Kd.R_after (v := (.slice (some ⟨go28, 0, none⟩) x8_4.length co28)) (v1 := (.slice (some ⟨go28, 0, none⟩) x8_4.length co28)) (ok := (fun _ => True)) (by (with_reducible repeat (first | apply Kd.R_alloc | apply Kd.R_drewN | apply Kd.R_drew)); exact Kd.R_mono HO_6.out (fun _ hk => ⟨trivial, hk⟩)) hg (.inl rfl)); have n1_ := Aside0.mk (hp_); have n2_ := Aside0.mk (blk_grown (g := gb186) (o := .cells #[.int .i64 a0_0, .slice (some ad196) l0_1.length c0_1] 30 (0, 0)) (by (with_reducible repeat (first | refine blk_drewN ?_ _ | refine blk_drew ?_ | refine blk_alloc ?_ _)); exact BK186.out) hg (Kd.R_ne HO_8.out BK186.out (by decide))); have n3_ := Aside0.mk ((by rw [hw]; exact below_set (HB.out) GB28.out : Below w.heap.size w w31)); clear HO_6; clear HO_8; clear BK186; clear HB; have HO_6 := n0_; have HO_8 := n1_; have BK186 := n2_; have HB := n3_; clear n0_ n1_ n2_ n3_; clear hg hw hp_))
                    repeat (go_quiet (first | ((with_reducible refine gate_store (t := 2) (p := 76) rfl ?_); (try (rw [drewN_self wr]; generalize hq_ : World.drewN wr _ = wr; have n0_ := Aside0.mk (Kd.R_at hq_ HO_6.out); have n1_ := Aside0.mk (Kd.R_at hq_ HO_8.out); have n2_ := Aside0.mk (blk_at hq_ BK186.out); have n3_ := Aside0.mk (below_at hq_ HB.out); clear hq_ HO_6 HO_8 BK186 HB; have HO_6 := n0_; have HO_8 := n1_; have BK186 := n2_; have HB := n3_; clear n0_ n1_ n2_ n3_; (try (have HP30 := Kd.R_putg HO_8.out (x13_4 : Int) x9_19)))); refine store_event (t := 2) (p := 76) (v := ?vo_w31) (w1 := (wr.setCell ⟨go28, (x13_4 : Int).toNat, none⟩ (.int .i64 x9_19))) ?hg ?ho ?hn ?hr ?_; (case ho => rfl); (case hg => rfl); (case hn => rfl); (case hr => first | (go_simp; done) | (go_simp; rfl)); intro w31 hw; have hg : wr.grownBy w31 (some go28) := (by rw [hw]; exact HP30.2); have hp_ : Kd.R (Kd.int .i64) 2 w31 w.heap.size (fun k_ => some k_ ≠ (.slice (some ad197) t187.length co14 : Value).ownBlock) (.slice (some ⟨go28, 0, none⟩) x8_4.length co28) y198 := (by rw [hw, Ny198.out]; exact HP30.1); clear HP30; have n0_ := Aside0.mk (Kd.R_after (v := (.slice (some ⟨go28, 0, none⟩) x8_4.length co28)) (v1 := (.slice (some ⟨go28, 0, none⟩) x8_4.length co28)) (ok := (fun _ => True)) (by (with_reducible repeat (first | apply Kd.R_alloc | apply Kd.R_drewN | apply Kd.R_drew)); exact Kd.R_mono HO_6.out (fun _ hk => ⟨trivial, hk⟩)) hg (.inl rfl)); have n1_ := Aside0.mk (hp_); have n2_ := Aside0.mk (blk_grown (g := gb186) (o := .cells #[.int .i64 a0_0, .slice (some ad196) l0_1.length c0_1] 30 (0, 0)) (by (with_reducible repeat (first | refine blk_drewN ?_ _ | refine blk_drew ?_ | refine blk_alloc ?_ _)); exact BK186.out) hg (Kd.R_ne HO_8.out BK186.out (by decide))); have n3_ := Aside0.mk ((by rw [hw]; exact below_set (HB.out) GB28.out : Below w.heap.size w w31)); clear HO_6; clear HO_8; clear BK186; clear HB; have HO_6 := n0_; have HO_8 := n1_; have BK186 := n2_; have HB := n3_; clear n0_ n1_ n2_ n3_; clear hg hw hp_)); try go_wp2_with (first | ((with_reducible refine gate_store (t := 2) (p := 76) rfl ?_); (try (rw [drewN_self wr]; generalize hq_ : World.drewN wr _ = wr; have n0_ := Aside0.mk (Kd.R_at hq_ HO_6.out); have n1_ := Aside0.mk (Kd.R_at hq_ HO_8.out); have n2_ := Aside0.mk (blk_at hq_ BK186.out); have n3_ := Aside0.mk (below_at hq_ HB.out); clear hq_ HO_6 HO_8 BK186 HB; have HO_6 := n0_; have HO_8 := n1_; have BK186 := n2_; have HB := n3_; clear n0_ n1_ n2_ n3_; (try (have HP30 := Kd.R_putg HO_8.out (x13_4 : Int) x9_19)))); refine store_event (t := 2) (p := 76) (v := ?vo_w31) (w1 := (wr.setCell ⟨go28, (x13_4 : Int).toNat, none⟩ (.int .i64 x9_19))) ?hg ?ho ?hn ?hr ?_; (case ho => rfl); (case hg => rfl); (case hn => rfl); (case hr => first | (go_simp; done) | (go_simp; rfl)); intro w31 hw; have hg : wr.grownBy w31 (some go28) := (by rw [hw]; exact HP30.2); have hp_ : Kd.R (Kd.int .i64) 2 w31 w.heap.size (fun k_ => some k_ ≠ (.slice (some ad197) t187.length co14 : Value).ownBlock) (.slice (some ⟨go28, 0, none⟩) x8_4.length co28) y198 := (by rw [hw, Ny198.out]; exact HP30.1); clear HP30; have n0_ := Aside0.mk (Kd.R_after (v := (.slice (some ⟨go28, 0, none⟩) x8_4.length co28)) (v1 := (.slice (some ⟨go28, 0, none⟩) x8_4.length co28)) (ok := (fun _ => True)) (by (with_reducible repeat (first | apply Kd.R_alloc | apply Kd.R_drewN | apply Kd.R_drew)); exact Kd.R_mono HO_6.out (fun _ hk => ⟨trivial, hk⟩)) hg (.inl rfl)); have n1_ := Aside0.mk (hp_); have n2_ := Aside0.mk (blk_grown (g := gb186) (o := .cells #[.int .i64 a0_0, .slice (some ad196) l0_1.length c0_1] 30 (0, 0)) (by (with_reducible repeat (first | refine blk_drewN ?_ _ | refine blk_drew ?_ | refine blk_alloc ?_ _)); exact BK186.out) hg (Kd.R_ne HO_8.out BK186.out (by decide))); have n3_ := Aside0.mk ((by rw [hw]; exact below_set (HB.out) GB28.out : Below w.heap.size w w31)); clear HO_6; clear HO_8; clear BK186; clear HB; have HO_6 := n0_; have HO_8 := n1_; have BK186 := n2_; have HB := n3_; clear n0_ n1_ n2_ n3_; clear hg hw hp_)))
                    go_roundg k4
                    case measure => have := HK1.out; have := HK2.out; have := HJ19.out; have := HK4.out; omega
                    case rel => exact ⟨(y198), (wrap64 (x13_4 + 1)), (by first | rfl | (simp; done) | (simp [*]; done)), H', ⟨by have := HK1.out; have := HK2.out; have := HJ19.out; have := HK4.out; omega⟩, ⟨Kd.R_far (p := ⟨go28, (x13_4 : Int).toNat, none⟩) (Kd.R_drewN HO_6.out _) (fun k hk e => hk (by rw [e]; simp [Value.ownBlock])) _⟩, ⟨by rw [Ny198.out]; exact (Kd.R_putg (Kd.R_drewN HO_8.out _) (x13_4 : Int) x9_19).1⟩, ⟨blk_grown (g := gb186) (blk_drewN BK186.out _) (Kd.R_putg (Kd.R_drewN HO_8.out _) (x13_4 : Int) x9_19).2 (Kd.R_ne HO_8.out BK186.out (by decide))⟩, ⟨below_set (pw_below_drewN HB.out _) GB28.out⟩⟩
                   ·rw [if_neg c27] at H
                    exact absurd H (by simp)
                  ·rw [if_neg c26] at H
                   have c26b0 : ((rd l0_1 x13_4) == (rd t187 x10_1)) = false := beq_eq_false_iff_ne.mpr c26
                   have c26b1 : ((rd l0_1 x13_4) != (rd t187 x10_1)) = true := bne_iff_ne.mpr c26
                   have H' := Aside0.mk H
                   clear H
                   have hcz32_0 : wr.cell? ⟨gb186, 0, none⟩ = some (.int .i64 a0_0) := (blk_cell BK186.out 0).trans rfl
                   have hcz32_1 : wr.cell? ⟨gb186, 1, none⟩ = some (.slice A0_1 l0_1.length c0_1) := (blk_cell BK186.out 1).trans rfl
                   have hfz32_0 := blk_frozen BK186.out 0
                   have hfz32_1 := blk_frozen BK186.out 1
                   have p196 : 0 ≤ (x13_4 : Int) := of_decide_eq_true (by first | (with_reducible assumption) | assumption)
                   have q196 : x13_4 < (l0_1.length : Int) := of_decide_eq_true (by first | (with_reducible assumption) | assumption)
                   obtain ⟨ad196, e196, hx196_0⟩ := Kd.at_int HR0_1.out x13_4 p196 q196
                   cases e196
                   replace hx196_0 := (HB.out.cell (World.block_lt_of_cell? w _ hx196_0)).trans hx196_0
                   replace p196 := eq_true p196
                   replace q196 := eq_true q196
                   have p197 : 0 ≤ (x10_1 : Int) := of_decide_eq_true (by first | (with_reducible assumption) | assumption)
                   have q197 : x10_1 < (t187.length : Int) := of_decide_eq_true (by first | (with_reducible assumption) | assumption)
                   obtain ⟨ad197, e197, hx197_0⟩ := Kd.at_int (Kd.R_reads' HO_6.out).2.2 x10_1 p197 q197
                   cases e197
                   replace p197 := eq_true p197
                   replace q197 := eq_true q197
                   go_wp2
                   repeat (go_quiet (fail); try go_wp2)
                   go_roundg k4
                   case measure => have := HK1.out; have := HK2.out; have := HJ19.out; have := HK4.out; omega
                   case rel => exact ⟨(x8_4), (wrap64 (x13_4 + 1)), (by first | rfl | (simp; done) | (simp [*]; done)), H', ⟨by have := HK1.out; have := HK2.out; have := HJ19.out; have := HK4.out; omega⟩, ⟨by (with_reducible repeat (first | apply Kd.R_alloc | apply Kd.R_drewN | apply Kd.R_drew)); exact HO_6.out⟩, ⟨by (with_reducible repeat (first | apply Kd.R_alloc | apply Kd.R_drewN | apply Kd.R_drew)); exact HO_8.out⟩, ⟨by (with_reducible repeat (first | refine blk_drewN ?_ _ | refine blk_drew ?_ | refine blk_alloc ?_ _)); exact BK186.out⟩, ⟨by repeat (first | (with_reducible first | exact HB.out | apply below_alloc | apply pw_below_drewN | apply below_drew1 | refine below_set ?_ GE186.out) | exact HB.out)⟩⟩
                 ·rw [if_neg c25] at H
                  exact absurd H (by simp)
                ·rw [if_neg c24] at H
                 exact absurd H (by simp)
               ·rw [if_neg c23] at H
                exact absurd H (by simp)
              ·rw [if_neg c22] at H
               have c22b0 : decide (x13_4 < (l0_1.length : Int)) = false := decide_eq_false c22
               clear c22
               have H' := Aside0.mk H
               clear H
               have hcz33_0 : wr.cell? ⟨gb186, 0, none⟩ = some (.int .i64 a0_0) := (blk_cell BK186.out 0).trans rfl
               have hcz33_1 : wr.cell? ⟨gb186, 1, none⟩ = some (.slice A0_1 l0_1.length c0_1) := (blk_cell BK186.out 1).trans rfl
               have hfz33_0 := blk_frozen BK186.out 0
               have hfz33_1 := blk_frozen BK186.out 1
               go_wp2
               repeat (go_quiet (fail); try go_wp2)
               go_roundg k4
               case measure => have := HK1.out; have := HK2.out; have := HJ19.out; have := HK4.out; omega
               case rel => exact ⟨(x8_4), (x9_19), (wrap64 (x10_1 + 1)), (by first | rfl | (simp; done) | (simp [*]; done)), (by first | rfl | (simp; done) | (simp [*]; done)), H', ⟨by have := HK1.out; have := HK2.out; have := HJ19.out; have := HK4.out; omega⟩, ⟨by (with_reducible repeat (first | apply Kd.R_alloc | apply Kd.R_drewN | apply Kd.R_drew)); exact HO_6.out⟩, ⟨by (with_reducible repeat (first | apply Kd.R_alloc | apply Kd.R_drewN | apply Kd.R_drew)); exact HO_8.out⟩, ⟨by (with_reducible repeat (first | refine blk_drewN ?_ _ | refine blk_drew ?_ | refine blk_alloc ?_ _)); exact BK186.out⟩, ⟨by repeat (first | (with_reducible first | exact HB.out | apply below_alloc | apply pw_below_drewN | apply below_drew1 | refine below_set ?_ GE186.out) | exact HB.out)⟩⟩
      ·rw [if_neg c13] at H
       have c13b0 : decide (x10_1 < (t187.length : Int)) = false := decide_eq_false c13
       clear c13
       simp only [Option.some.injEq, Prod.mk.injEq] at H
       obtain ⟨rfl, rfl⟩ := H
       obtain ⟨Ao34, co34, eo34⟩ := Kd.R_slice HO_6.out
       subst eo34
       go_wp2
       repeat (go_quiet (fail); try go_wp2)
       go_ret2
       exact ⟨_, by first | rfl | (simp [errW_none, errW_some] <;> rfl) | (simp [*, errW_none, errW_some] <;> rfl), by (with_reducible repeat (first | apply Kd.R_alloc | apply Kd.R_drewN | apply Kd.R_drew)); exact Kd.R_mono HO_8.out (fun _ hk => trivial), by repeat (first | (with_reducible first | exact HB.out | apply below_alloc | apply pw_below_drewN | apply below_drew1 | refine below_set ?_ GE186.out) | exact HB.out)⟩
   ·rw [if_neg c6] at H
    exact absurd H (by simp)
  ·rw [if_neg c5] at H
   exact absurd H (by simp)
 ·rw [if_neg c4] at H
  have c4b0 : (t190 == 0) = false := beq_eq_false_iff_ne.mpr c4
  have c4b1 : (t190 != 0) = true := bne_iff_ne.mpr c4
  simp only [Option.some.injEq, Prod.mk.injEq] at H
  obtain ⟨rfl, rfl⟩ := H
  go_enter Tryz.func18, Tryz.ntmps18
  go_wp2_with (first | ((with_reducible refine gate_dst (N := 2) rfl ?_); refine box_event ?hg (N := 2) ?hd (cs := #[.int .i64 a0_0, .slice A0_1 l0_1.length c0_1]) (t := 30) ?hr ?_; (case hd => rfl); (case hg => rfl); (case hr => first | (go_simp; done) | (go_simp; rfl)); intro gb186 hg w35 hbox hb; have n0_ := Aside0.mk (below_step (by repeat (first | (with_reducible first | exact HB.out | apply below_alloc | apply pw_below_drewN | apply below_drew1) | exact HB.out)) hb); have n1_ := Aside0.mk (hbox); have n2_ := Aside0.mk ((by rw [hg]; exact (below_size (by repeat (first | (with_reducible first | exact HB.out | apply below_alloc | apply pw_below_drewN | apply below_drew1) | exact HB.out))) : w.heap.size ≤ gb186)); have n3_ := Aside0.mk ((by rw [hg]; exact (below_size (by repeat (first | (with_reducible first | exact HB.out | apply below_alloc | apply pw_below_drewN | apply below_drew1) | exact HB.out))) : w.heap.size ≤ gb186)); clear HB; have HB := n0_; have BK186 := n1_; have GW186 := n2_; have GE186 := n3_; clear n0_ n1_ n2_ n3_; clear hb hbox hg; have hcz36_0 : w35.cell? ⟨gb186, 0, none⟩ = some (.int .i64 a0_0) := (blk_cell BK186.out 0).trans rfl; have hcz36_1 : w35.cell? ⟨gb186, 1, none⟩ = some (.slice A0_1 l0_1.length c0_1) := (blk_cell BK186.out 1).trans rfl; have hfz36_0 := blk_frozen BK186.out 0; have hfz36_1 := blk_frozen BK186.out 1) | (go_at_call 7; (with_reducible refine (spec_OrderOfPairing.calls k a0_0 _ _ l0_1 _ _ l1 t187 t190 _ ?side1 ?side2 ?side3 ?side4 A3.out).mono ?_); (case side1 => repeat (first | exact (Kd.C_below HR0_1.out HB.out) | (with_reducible refine Kd.C_alloc ?_ _) | (with_reducible refine Kd.C_drewN ?_ _) | (with_reducible refine Kd.C_drew ?_))); (case side2 => exact HC0_1.out); (case side3 => repeat (first | exact (Kd.C_below HR1.out HB.out) | (with_reducible refine Kd.C_alloc ?_ _) | (with_reducible refine Kd.C_drewN ?_ _) | (with_reducible refine Kd.C_drew ?_))); (case side4 => exact HC1.out); rintro e w37 ⟨v188, rfl, ho0, hb⟩; have n0_ := Aside0.mk (Kd.R_lower ho0 (below_size (by repeat (first | (with_reducible first | exact HB.out | apply below_alloc | apply pw_below_drewN | apply below_drew1 | refine below_set ?_ GE186.out) | exact HB.out)))); have n1_ := Aside0.mk (blk_below (g := gb186) (o := .cells #[.int .i64 a0_0, .slice A0_1 l0_1.length c0_1] 30 (0, 0)) (by (with_reducible repeat (first | refine blk_drewN ?_ _ | refine blk_drew ?_ | refine blk_alloc ?_ _)); exact BK186.out) hb); have n2_ := Aside0.mk (below_step (by repeat (first | (with_reducible first | exact HB.out | apply below_alloc | apply pw_below_drewN | apply below_drew1 | refine below_set ?_ GE186.out) | exact HB.out)) hb); clear BK186; clear HB; have HO189 := n0_; have BK186 := n1_; have HB := n2_; clear n0_ n1_ n2_; (try clear hb); (try clear hb2); (try clear hk); (try clear hi); (try clear ho0)))

  go_ret2
  exact ⟨_, by first | rfl | (simp [errW_none, errW_some] <;> rfl) | (simp [*, errW_none, errW_some] <;> rfl), by first | exact Kd.R_nil _ _ _ _ _ | exact Kd.N_nil _ _ _ _ _ | exact Kd.V_nil _ _ _ _ _ | exact Kd.Q_nil _ _ _ _ _ | exact Kd.S_nil _ _ _ _ _, by repeat (first | (with_reducible first | exact HB.out | apply below_alloc | apply pw_below_drewN | apply below_drew1 | refine below_set ?_ GE186.out) | exact HB.out)⟩

end Go.Proofs.YtniikppojffiaaaGreat.Q
end

section
/- The flat function of an acyclic pairing, plain; the reference's. -/
namespace Go.Proofs.YtniikppojffiaaaGreat.K
open Go.RowKit Go.Shelf Go.Proofs.YtniikppojffiaaaGreat.Q Go.Proofs.YtniikppojffiaaaGreatW.PrintWords Go.Proofs.YtniikppojffiaaaGreatW.PrintLast Go.Proofs.YtniikppojffiaaaGreatW.PrintMore
set_option linter.unusedVariables false
set_option linter.unusedSimpArgs false

/-- At the places j .. j + e - 1 where the face f stands the value becomes g. -/
def setF (l : List Int) (f g : Int) : Nat → Nat → List Int → List Int
 | 0, _, o => o
 | e + 1, j, o => setF l f g e (j + 1) (if l.getD j 0 = f then o.set j g else o)
def setP (l : List Int) (f g : Int) (o : List Int) : List Int := setF l f g l.length 0 o
theorem setF_len (l : List Int) (f g : Int) : ∀ (e j : Nat) (o : List Int), (setF l f g e j o).length = o.length
 | 0, _, _ => rfl
 | e + 1, j, o => by
  unfold setF
  rw [setF_len l f g e]
  split <;> simp
theorem setF_pos {l : List Int} (hn : l.Nodup) (g : Int) (p : Nat) (hp : p < l.length) : ∀ (e j : Nat) (o : List Int), j + e = l.length → setF l l[p] g e j o = if j ≤ p then o.set p g else o
 | 0, j, o, h => by
  unfold setF
  rw [if_neg (by omega)]
 | e + 1, j, o, h => by
  have hj : j < l.length := by omega
  unfold setF
  rw [setF_pos hn g p hp e (j + 1) _ (by omega), List.getD_eq_getElem?_getD, List.getElem?_eq_getElem hj, Option.getD_some]
  by_cases e1 : j = p
  ·subst e1
   rw [if_pos rfl, if_neg (by omega), if_pos (Nat.le_refl _)]
  ·have : l[j] ≠ l[p] := by
    have hpw := List.pairwise_iff_getElem.1 hn
    rcases Nat.lt_or_gt_of_ne e1 with h2 | h2
    ·exact hpw j p hj hp h2
    ·exact fun e2 => hpw p j hp hj h2 e2.symm
   rw [if_neg this]
   by_cases h3 : j ≤ p
   ·rw [if_pos (by omega), if_pos h3]
   ·rw [if_neg (by omega), if_neg h3]
theorem setP_pos {l : List Int} (hn : l.Nodup) (g : Int) (p : Nat) (hp : p < l.length) (o : List Int) : setP l l[p] g o = o.set p g := by
 unfold setP
 rw [setF_pos hn g p hp l.length 0 o (by omega), if_pos (Nat.zero_le _)]
/-- The values by groups. -/
def flI (l : List Int) : List (List Int) → Int → List Int → List Int
 | [], _, o => o
 | own :: gs, n, o => flI l gs (n + 1) (own.foldl (fun o f => setP l f n o) o)
def flS (l : List Int) (q : List PairT) : List Int → Int → List Int → List Int
 | [], _, o => o
 | x :: xs, g, o => flS l q xs (if isHi q x = true then g else g + 1) (setP l x (if isHi q x = true then g else g + 1) o)
theorem flS_eq (l : List Int) (q : List PairT) : ∀ (gs : List (List Int)) (g : Int) (o : List Int), (∀ own ∈ gs, ∃ f, isHi q f = false ∧ own = grp q f) → flS l q gs.flatten g o = flI l gs (g + 1) o
 | [], g, o, _ => rfl
 | own :: gs, g, o, h => by
  obtain ⟨f, hf, rfl⟩ := h own (by simp)
  have ih := flS_eq l q gs
  have h' : ∀ own ∈ gs, ∃ f, isHi q f = false ∧ own = grp q f := fun x hx => h x (List.mem_cons_of_mem _ hx)
  rw [List.flatten_cons]
  unfold grp
  by_cases hz : highL q f = 0
  ·rw [if_pos hz]
   show flS l q gs.flatten (if isHi q f = true then g else g + 1) (setP l f (if isHi q f = true then g else g + 1) o) = _
   rw [hf, if_neg (by simp), ih _ _ h']
   rfl
  ·rw [if_neg hz]
   have hh : isHi q (highL q f) = true := by
    rcases high_cases q f with ⟨h3, _⟩ | ⟨p, hp, _, h4⟩
    ·exact absurd h3 hz
    ·exact isHi_iff.2 ⟨p, hp, h4⟩
   show flS l q gs.flatten (if isHi q (highL q f) = true then (if isHi q f = true then g else g + 1) else (if isHi q f = true then g else g + 1) + 1) (setP l (highL q f) (if isHi q (highL q f) = true then (if isHi q f = true then g else g + 1) else (if isHi q f = true then g else g + 1) + 1) (setP l f (if isHi q f = true then g else g + 1) o)) = _
   rw [hh, hf, if_pos rfl, if_neg (by simp), ih _ _ h']
   rfl
theorem ord_grps (q : List PairT) (l : List Int) : ∀ (k : Nat) (S : Int → Bool), ∀ own ∈ ordR q (lows l q) k S, ∃ f, f ∈ lows l q ∧ own = grp q f
 | 0, S, x, h => by simp [ordR] at h
 | k + 1, S, x, h => by
  unfold ordR at h
  split at h
  ·cases h
  ·rename_i f hf
   rcases List.mem_cons.1 h with rfl | h
   ·exact ⟨f, (find_what hf).1, rfl⟩
   ·exact ord_grps q l k _ x h
def flatV (l : List Int) (gs : List (List Int)) : List Int := flI l gs 0 (List.replicate l.length 0)
theorem foldP_len (l : List Int) (n : Int) : ∀ (own o : List Int), (own.foldl (fun o f => setP l f n o) o).length = o.length
 | [], o => rfl
 | f :: own, o => by
  rw [List.foldl_cons, foldP_len l n own]
  exact setF_len l f n l.length 0 o
theorem flI_len (l : List Int) : ∀ (gs : List (List Int)) (n : Int) (o : List Int), (flI l gs n o).length = o.length
 | [], n, o => rfl
 | own :: gs, n, o => by
  unfold flI
  rw [flI_len l gs, foldP_len]
/-- The answer of FlatFunction. -/
noncomputable def fltA (n : Int) (l : List Int) (q : List PairT) : List Int := if acode n l q true = 0 then flatV l (orderG l q) else []
theorem fltA_len {n : Int} {l : List Int} {q : List PairT} : (fltA n l q).length ≤ 63 := by
 unfold fltA
 split
 ·rename_i h
  obtain ⟨hi, _⟩ := acode_zero h
  have := (isC_faces hi).2.2.2
  unfold flatV
  rw [flI_len]
  simpa using this
 ·simp
section
variable {n : Int} {l : List Int} {q : List PairT} {ord : List Int} {r : List Int × Int}
theorem flt_l2 (hl : l.length ≤ 1000) (i : Nat) (hi : i < ord.length) (hol : ord.length ≤ 1000) (g : Int) (R : Nat) : ∀ (e j k : Nat) (o : List Int), j + e = l.length → R + e < k → o.length = l.length →
  (∀ k, R ≤ k → spec_FlatFunction.l0 k q ord (setF l ord[i] g e j o) g ((i : Int) + 1) n l = some r) → spec_FlatFunction.l2 k q ord o g (i : Int) (j : Int) n l = some r := by
 intro e
 induction e with
 | zero =>
  intro j k o he hk ho hnext
  obtain ⟨k, rfl⟩ : ∃ m, k = m + 1 := ⟨k - 1, by omega⟩
  simp only [spec_FlatFunction.l2]
  rw [if_neg (by omega), w64 ((i : Int) + 1) (by omega) (by omega)]
  exact hnext k (by omega)
 | succ e ih =>
  intro j k o he hk ho hnext
  obtain ⟨k, rfl⟩ : ∃ m, k = m + 1 := ⟨k - 1, by omega⟩
  have hj : j < l.length := by omega
  simp only [spec_FlatFunction.l2]
  rw [if_pos (by omega), if_pos (by omega), if_pos (by omega), if_pos (by omega), rd_nat l j hj, rd_nat ord i hi, w64 ((j : Int) + 1) (by omega) (by omega), nat_succ, Int.toNat_natCast]
  have e1 : l.getD j 0 = l[j] := by rw [List.getD_eq_getElem?_getD, List.getElem?_eq_getElem hj]; rfl
  unfold setF at hnext
  rw [e1] at hnext
  by_cases h : l[j] = ord[i]
  ·rw [if_pos h, if_pos (by omega)]
   rw [if_pos h] at hnext
   exact ih (j + 1) k _ (by omega) (by omega) (by simpa using ho) hnext
  ·rw [if_neg h]
   rw [if_neg h] at hnext
   exact ih (j + 1) k _ (by omega) (by omega) ho hnext
theorem flt_l1 (hq : q.length ≤ 1000) (i : Nat) (hi : i < ord.length) (o : List Int) (g : Int) (hg : -1 ≤ g ∧ g ≤ 1000) (R : Nat) : ∀ (e j k : Nat) (b : Bool), q.length - j = e → j ≤ q.length → R + e < k →
  (∀ k, R ≤ k → spec_FlatFunction.j2 k q ord o (if (b || (q.drop j).any fun p => p.f1 == ord[i]) = true then g else g + 1) (i : Int) n l = some r) → spec_FlatFunction.l1 k q ord o g (i : Int) b (j : Int) n l = some r := by
 intro e
 induction e with
 | zero =>
  intro j k b he hj hk hnext
  obtain ⟨k, rfl⟩ : ∃ m, k = m + 1 := ⟨k - 1, by omega⟩
  obtain rfl : j = q.length := by omega
  rw [List.drop_eq_nil_of_le (Nat.le_refl _)] at hnext
  simp only [List.any_nil, Bool.or_false] at hnext
  simp only [spec_FlatFunction.l1]
  rw [if_neg (by omega), w64 (g + 1) (by omega) (by omega)]
  have := hnext k (by omega)
  cases b with
  | true => rw [if_pos rfl] at this ⊢; exact this
  | false => rw [if_neg (by simp)] at this ⊢; exact this
 | succ e ih =>
  intro j k b he hj hk hnext
  obtain ⟨k, rfl⟩ : ∃ m, k = m + 1 := ⟨k - 1, by omega⟩
  have hjl : j < q.length := by omega
  rw [List.drop_eq_getElem_cons hjl] at hnext
  simp only [List.any_cons] at hnext
  simp only [spec_FlatFunction.l1]
  rw [if_pos (by omega), w64 ((j : Int) + 1) (by omega) (by omega), nat_succ, if_pos (show (0 : Int) ≤ (j : Int) by omega), if_pos (show (0 : Int) ≤ (i : Int) by omega), if_pos (show (i : Int) < (ord.length : Int) by omega), rdP q j hjl, rd_nat ord i hi]
  cases b with
  | true =>
   rw [if_pos rfl]
   refine ih (j + 1) k true (by omega) (by omega) (by omega) (fun k' hk' => ?_)
   have := hnext k' hk'
   simpa using this
  | false =>
   rw [if_neg (by simp)]
   refine ih (j + 1) k (q[j].f1 == ord[i]) (by omega) (by omega) (by omega) (fun k' hk' => ?_)
   have := hnext k' hk'
   simpa using this
theorem flt_l0 (hl : l.length ≤ 63) (hq : q.length ≤ 63) (hol : ord.length ≤ 63) : ∀ (e i k : Nat) (g : Int) (o : List Int), ord.length - i = e → i ≤ ord.length → e * 200 + 1 < k → -1 ≤ g ∧ g ≤ i → o.length = l.length →
  spec_FlatFunction.l0 k q ord o g (i : Int) n l = some (flS l q (ord.drop i) g o, 0) := by
 intro e
 induction e with
 | zero =>
  intro i k g o he hi hk hg ho
  obtain ⟨k, rfl⟩ : ∃ m, k = m + 1 := ⟨k - 1, by omega⟩
  obtain rfl : i = ord.length := by omega
  simp only [spec_FlatFunction.l0]
  rw [if_neg (by omega), List.drop_eq_nil_of_le (Nat.le_refl _)]
  rfl
 | succ e ih =>
  intro i k g o he hi hk hg ho
  obtain ⟨k, rfl⟩ : ∃ m, k = m + 1 := ⟨k - 1, by omega⟩
  have hil : i < ord.length := by omega
  simp only [spec_FlatFunction.l0]
  rw [if_pos (by omega), List.drop_eq_getElem_cons hil]
  refine flt_l1 (by omega) i hil o g (by omega) (e * 200 + 70) q.length 0 k false (by omega) (by omega) (by omega) (fun k1 hk1 => ?_)
  rw [List.drop_zero, Bool.false_or, show (q.any fun p => p.f1 == ord[i]) = isHi q ord[i] from rfl]
  obtain ⟨k1, rfl⟩ : ∃ m, k1 = m + 1 := ⟨k1 - 1, by omega⟩
  simp only [spec_FlatFunction.j2]
  refine flt_l2 (by omega) i hil (by omega) _ (e * 200 + 2) l.length 0 k1 o (by omega) (by omega) ho (fun k2 hk2 => ?_)
  rw [nat_succ]
  exact ih (i + 1) k2 _ _ (by omega) (by omega) (by omega) (by split <;> omega) (by rw [setF_len]; exact ho)
end
theorem specFlat_is (n : Int) (l : List Int) (q : List PairT) (hl : l.length ≤ 2097152) (hq : q.length ≤ 2097152) (k : Nat) (hk : isK l + pgK l q + 300 + ordF + 20000 ≤ k) : spec_FlatFunction.f k n l q = some (fltA n l q, acode n l q true) := by
 unfold spec_FlatFunction.f
 rw [specOrderOf_is n l q hl hq k (by omega)]
 simp only [Option.bind_some]
 unfold fltA
 by_cases hz : acode n l q true = 0
 ·obtain ⟨hi, _, hp, ha⟩ := acode_zero hz
  have hgl := ord_glen hi hp
  have h63 := (isC_faces hi).2.2.2
  have hA : ordA n l q = (orderG l q).flatten := by unfold ordA; rw [if_pos hz]
  rw [if_pos hz, if_pos hz, if_pos (by omega), Int.toNat_natCast, if_pos (by omega), hA, hz]
  have := flt_l0 (n := n) (q := q) h63 (by have := (ping_good hi hp).len; omega) hgl.1 (orderG l q).flatten.length 0 k (-1) (List.replicate l.length 0) (by omega) (by omega) (by omega) (by omega) (by simp)
  rw [show ((0 : Nat) : Int) = 0 from rfl, List.drop_zero] at this
  rw [this, flS_eq l q (orderG l q) (-1) _ (fun own ho => by
   obtain ⟨f, hf, e⟩ := ord_grps q l 64 _ own ho
   exact ⟨f, (lows_mem.1 hf).2, e⟩)]
  rfl
 ·rw [if_neg hz, if_neg hz]

end Go.Proofs.YtniikppojffiaaaGreat.K
end

section
/- FlatFunction of the program. -/
namespace Go.Proofs.YtniikppojffiaaaGreat.K
open Go.RowKit Go.Shelf Go.Proofs.YtniikppojffiaaaGreat.Q Go.Proofs.YtniikppojffiaaaGreatW.PrintWords Go.Proofs.YtniikppojffiaaaGreatW.PrintLast Go.Proofs.YtniikppojffiaaaGreatW.PrintMore
set_option linter.unusedVariables false
set_option linter.unusedSimpArgs false

theorem bs_pos {l : List Int} (hs : Asc l) (hl : l.length ≤ 1000000) (p : Nat) (hp : p < l.length) : slices_BinarySearch_int64_int64.f (l.length + 1) l l[p] = some ((p : Int), true) := by
 obtain ⟨m, ok, h1, h2, h3, h4⟩ := bs_loop l l[p] (by omega) l.length (l.length + 1) 0 l.length (by omega) (by omega) (Nat.zero_le _) (Nat.le_refl _)
 obtain ⟨h5, h6, h7⟩ := h4 hs (fun q h hq => by omega) (fun q h hq => by omega)
 have hpw := List.pairwise_iff_getElem.1 hs
 have e : m = p := by
  rcases Nat.lt_trichotomy m p with h | h | h
  ·have a := h6 m (by omega) (Nat.le_refl _)
   have b := hpw m p (by omega) hp h
   omega
  ·exact h
  ·have a := h5 p hp h
   omega
 have e2 : ok = true := by rw [h7]; exact decide_eq_true (List.getElem_mem hp)
 unfold slices_BinarySearch_int64_int64.f
 rw [show ((0 : Nat) : Int) = 0 from rfl, e, e2] at h1
 exact h1
theorem BsI_calls {l : List Int} (hs : Asc l) (hl : l.length ≤ 1000000) (A : Option Addr) (c : Nat) (p : Nat) (hp : p < l.length) (w : World) (hr : Ki.C w A l.length l) (hc : l.length ≤ c) :
  Calls Tryz.prog 29 #[.slice A l.length c, I l[p]] w fun e w' => e = .returned (.tuple #[I p, .bool true]) ∧ Grew w w' := by
 refine (slices_BinarySearch_int64_int64.calls (l.length + 1) A c l l[p] (p : Int) true w hr hc (bs_pos hs hl p hp)).mono ?_
 rintro e w' ⟨rfl, hd⟩
 exact ⟨rfl, hd.below⟩
theorem ord_in {n : Int} {l : List Int} {q : List PairT} (hi : isC n l = true) (hp : pingB l q = true) : ∀ own ∈ orderG l q, (∃ x xs, own = x :: xs) ∧ ∀ f ∈ own, f ∈ l ∧ 1 ≤ f := by
 intro own ho
 obtain ⟨f, hf, rfl⟩ := ord_grps q l 64 _ own ho
 have hfl := (lows_mem.1 hf).1
 have hr := (isC_faces hi).2.2.1
 refine ⟨by unfold grp; split <;> exact ⟨_, _, rfl⟩, fun x hx => ?_⟩
 have hxl : x ∈ l := by
  rcases grp_mem.1 hx with rfl | ⟨hz, rfl⟩
  ·exact hfl
  ·rcases high_cases q f with ⟨h3, _⟩ | ⟨p, hpq, h3, h4⟩
   ·exact absurd h3 hz
   ·rw [← h4]
    exact ((ping_P hi hp).mem p hpq).2.1.1
 exact ⟨hxl, (hr x hxl).1⟩
theorem viv_ne : ∀ t, t ∈ TV :: Kr.E → t ≠ TI := by
 intro t ht
 rcases List.mem_cons.1 ht with h | h
 ·rw [h]; decide
 ·exact absurd h (List.not_mem_nil)
set_option maxRecDepth 100000 in
set_option maxHeartbeats 16000000 in
theorem Flat_calls (n : Int) (A : Option Addr) (c : Nat) (l : List Int) (A2 : Option Addr) (c2 : Nat) (q : List PairT) (w : World) (hk : Kx w A c l) (hq : Kq.C w A2 q.length q) (hc2 : q.length ≤ c2) (hq2 : q.length ≤ 2097152) :
  Calls Tryz.prog 19 #[.agg #[I n, .slice A l.length c], .slice A2 q.length c2] w fun e w' => ∃ v, e = .returned (.tuple #[v, I (acode n l q true)]) ∧ Ki.R TI w' w.heap.size (fun _ => True) v (fltA n l q) ∧ Grew w w' := by
 obtain ⟨W1, hW1⟩ : ∃ W1, W1 = w.alloc (.cells #[I n, .slice A l.length c] 30) := ⟨_, rfl⟩
 have hB : CB W1 w.heap.size n (.slice A l.length c) := by rw [hW1]; exact blk_new w _
 have hG1 : Grew w W1 := by rw [hW1]; exact below_alloc (Grew.refl w) _
 have H := Aside0.mk (acyclicCode_calls true n A c l A2 c2 q W1 (hk.later hG1) (Kd.C_below hq hG1) hc2 hq2)
 have HGR := Aside0.mk (fun (hi : isC n l = true) (hp : pingB l q = true) (ha : acycB q = true) (W : World) (h : Grew w W) => groups_calls hi A c A2 c2 q W (hk.later h) (Kd.C_below hq h) hc2 hp ha)
 have HK := Aside0.mk hk
 have HB := Aside0.mk hB
 have HG1 := Aside0.mk hG1
 have HOA : Aside0 (fltA n l q = if acode n l q true = 0 then flatV l (orderG l q) else []) := ⟨rfl⟩
 have HAZ := Aside0.mk (fun (h : acode n l q true = 0) => acode_zero h)
 have HS1 : Aside0 (W1.heap.size = w.heap.size + 1) := ⟨by rw [hW1, World.size_alloc]⟩
 have k0 := hB.c0
 have k1 := hB.c1
 clear hk hq hc2 hB hG1
 generalize fltA n l q = oa at HOA ⊢
 obtain ⟨ac, hac⟩ : ∃ ac, ac = acode n l q true := ⟨_, rfl⟩
 rw [← hac] at H HOA HAZ ⊢
 clear hac
 by_cases hz : ac = 0
 ·subst hz
  obtain ⟨hi, _, hp, ha⟩ := HAZ.out rfl
  have HGC := Aside0.mk (HGR.out hi hp ha)
  have HIN := Aside0.mk (ord_in hi hp)
  have HGL := Aside0.mk (ord_glen hi hp)
  have h63 := (isC_faces hi).2.2.2
  have HASC := Aside0.mk (isC_faces hi).2.1
  have HND := Aside0.mk (isC_nodup hi)
  have HOE : Aside0 (oa = flI l (orderG l q) 0 (List.replicate l.length 0)) := ⟨by rw [HOA.out, if_pos rfl]; rfl⟩
  have h0m : 0 ≤ (l.length : Int) := by omega
  clear HGR HAZ HOA hi hp ha
  subst hW1
  go_enter Tryz.func19, Tryz.ntmps19
  go_wp2_with fail
  refine H.out.mono ?_
  rintro e w1 ⟨rfl, hGa⟩
  have HB1 : Aside0 (CB w1 w.heap.size n (.slice A l.length c)) := ⟨blk_below HB.out hGa⟩
  have HG2 := Aside0.mk (Grew.trans HG1.out hGa)
  have HSW : Aside0 (w.heap.size + 1 ≤ w1.heap.size) := ⟨by have := hGa.size; rw [HS1.out] at this; exact this⟩
  clear hGa k0 k1
  have k0 := HB1.out.c0
  have k1 := HB1.out.c1
  go_wp2_with (first | ((with_reducible refine gate_dst (N := 23) rfl ?_); refine Kd.R_make (Kd.int .i64) _ 2 rfl (N := 23) rfl 22 _ _ rfl (l.length : Int) (by go_num) (by go_num) Tryz.underlying22 (.int .i64 0) 8 infoI rfl (by decide) (by omega) 0 (ok := fun _ => True) (okp := fun _ => True) rfl (fun _ hk => hk) trivial h0m (by omega) (Below.refl _ _) (Nat.le_refl _) ?_; intro v w2 ho hb hg_ hnew_; clear hg_ hnew_; have HO2 := Aside0.mk ho; have HGb := Aside0.mk hb; have HG3 := Aside0.mk (Grew.trans HG2.out hb); have j0 : w2.cell? ⟨w.heap.size, 0, none⟩ = some (I n) := blk_cell (blk_below HB1.out hb) 0; have j1 : w2.cell? ⟨w.heap.size, 1, none⟩ = some (.slice A l.length c) := blk_cell (blk_below HB1.out hb) 1; clear ho hb))
  clear k0 k1
  rw [Int.toNat_natCast] at HO2
  obtain ⟨A5, c5, e5⟩ := Kd.R_slice HO2.out
  rw [List.length_replicate] at e5
  subst e5
  refine (HGC.out w2 HG3.out).mono ?_
  rintro e w4 ⟨A4, c4, vs, rfl, hR4, hin4, hx4, hG4⟩
  obtain ⟨ow, how⟩ : ∃ ow, ow = (Value.slice A5 l.length c5).ownBlock := ⟨_, rfl⟩
  have HOW := Aside0.mk how
  have HO4 := Aside0.mk (Kd.R_below HO2.out hG4)
  have HB4 := Aside0.mk (blk_below (blk_below HB1.out HGb.out) hG4)
  have HG4 := Aside0.mk (Grew.trans HG3.out hG4)
  have HR4 := Aside0.mk hR4
  have hvl : vs.length ≤ 64 := by
   have := HGL.out.2
   rw [← hx4, List.length_map] at this
   exact this
  have HX4 : Aside0 (flI l (vs.map RowT.xs) 0 (List.replicate l.length 0) = oa) := ⟨by rw [hx4, HOE.out]⟩
  have HRX : Aside0 (∀ r ∈ vs, GIn w4 r ∧ r.xs.length ≤ 2 ∧ (∀ f ∈ r.xs, f ∈ l) ∧ ∀ k, r.A = some ⟨k, 0, none⟩ → some k ≠ ow) := ⟨fun r hr => by
   have h1 := hin4 r hr
   have h2 := HIN.out r.xs (by rw [← hx4]; exact List.mem_map.2 ⟨r, hr, rfl⟩)
   refine ⟨h1.1, h1.2, fun f hf => (h2.2 f hf).1, fun k hk e => ?_⟩
   obtain ⟨⟨x, xs, hxx⟩, h3⟩ := h2
   obtain ⟨hxl, hx1⟩ := h3 x (by rw [hxx]; simp)
   have hl0 : 0 < l.length := List.length_pos_of_mem hxl
   obtain ⟨k2, e2, _, hk2⟩ := h1.1
   rw [hk] at e2
   injection e2 with e2
   injection e2 with e2
   subst e2
   obtain ⟨G5, cap, eo, _⟩ := Kd.R_form HO4.out (by simpa using hl0)
   rw [how, eo] at e
   simp [Value.ownBlock] at e
   subst e
   rw [eo] at HO4
   have h5 := (Kd.R_celln 0 HO4.out (0 : Int) (by omega) (by simpa using hl0)).1
   have h6 := blk_cell hk2 0
   rw [Int.toNat_zero] at h5
   rw [h5, hxx] at h6
   simp [rdOf, hl0] at h6
   omega⟩
  clear hR4 hin4 hx4 hG4 how j0 j1
  go_wp2_with fail
  go_loopg [8, 9, 11, 12, 13, 28] vs.length (fun gg _ _ _ _ _ s28 wq => ∃ (i : Nat) (o : List Int), i ≤ vs.length ∧ vs.length - i ≤ gg ∧ s28 = .int .i64 i ∧ o.length = l.length ∧ Aside0 (Ki.R TI wq w1.heap.size (fun _ => True) (.slice A5 l.length c5) o) ∧ Aside0 (w4.grownBy wq ow) ∧ Aside0 (flI l ((vs.drop i).map RowT.xs) (i : Int) o = oa))
  case atStart => exact ⟨0, List.replicate l.length 0, Nat.zero_le _, by omega, rfl, by simp, HO4, ⟨World.grownBy.refl _ _⟩, ⟨by rw [List.drop_zero]; exact HX4.out⟩⟩
  case round =>
   obtain ⟨i, o, hil, hgg, rfl, hol, HRo, HGo, HFo⟩ := hrel
   by_cases hlt : i < vs.length
   ·have hltz : (i : Int) < (vs.length : Int) := by omega
    have HRw := Aside0.mk (Kd.R_over HR4.out HO4.out viv_ne (by rw [← HOW.out]; exact HGo.out))
    obtain ⟨ad, e0, hx⟩ := Kr_read (Kd.R_reads' HRw.out).2.2 i hlt
    cases e0
    have HRR := Aside0.mk (HRX.out vs[i] (List.getElem_mem hlt))
    obtain ⟨rest, hrest⟩ : ∃ rest, rest = (vs.drop (i + 1)).map RowT.xs := ⟨_, rfl⟩
    have HF2 : Aside0 (flI l rest ((i : Int) + 1) (vs[i].xs.foldl (fun o f => setP l f i o) o) = oa) := ⟨by rw [← HFo.out, List.drop_eq_getElem_cons hlt, hrest]; rfl⟩
    have HRE := Aside0.mk hrest
    clear hrest
    generalize vs[i] = r at hx HRR HF2
    obtain ⟨k, ek, ec, hk⟩ := HRR.out.1
    have hkn := HRR.out.2.2.2 k ek
    have HKN := Aside0.mk hkn
    have HK4 := Aside0.mk hk
    have hv : r.v = .slice (some ⟨k, 0, none⟩) r.xs.length r.xs.length := by unfold RowT.v; rw [ek, ec]
    rw [hv] at hx
    have hx2 := HRR.out.2.1
    have HXL := Aside0.mk HRR.out.2.2.1
    clear ek ec hk hkn hv
    go_wp2_with fail
    go_loopg [11, 12, 13, 35] r.xs.length (fun gg _ _ _ s35 wq => ∃ (j : Nat) (o : List Int), j ≤ r.xs.length ∧ r.xs.length - j ≤ gg ∧ s35 = .int .i64 j ∧ o.length = l.length ∧ Aside0 (Ki.R TI wq w1.heap.size (fun _ => True) (.slice A5 l.length c5) o) ∧ Aside0 (w4.grownBy wq ow) ∧ Aside0 (flI l rest ((i : Int) + 1) ((r.xs.drop j).foldl (fun o f => setP l f i o) o) = oa))
    case atStart => exact ⟨0, o, Nat.zero_le _, by omega, rfl, hol, HRo, HGo, ⟨by rw [List.drop_zero]; exact HF2.out⟩⟩
    case round =>
     obtain ⟨j, o, hjl, hgj, rfl, hol, HRo, HGo, HFo⟩ := hrel
     by_cases hjt : j < r.xs.length
     ·have hjtz : (j : Int) < (r.xs.length : Int) := by omega
      have hkw : wr.heap[k]? = some (.cells (r.xs.map (Value.int .i64)).toArray TI (0, 0)) := (HGo.out.block k (Array.getElem?_eq_some_iff.1 HK4.out).1 HKN.out).trans HK4.out
      have hcj : wr.cell? ⟨k, j, none⟩ = some (.int .i64 r.xs[j]) := by
       have := blk_cell hkw j
       rw [this]
       simp [hjt]
      have hfl := HXL.out r.xs[j] (List.getElem_mem hjt)
      have HF3 : Aside0 (flI l rest ((i : Int) + 1) ((r.xs.drop (j + 1)).foldl (fun o f => setP l f i o) (setP l r.xs[j] i o)) = oa) := ⟨by rw [← HFo.out, List.drop_eq_getElem_cons hjt]; rfl⟩
      obtain ⟨p, hpl, hpe⟩ := List.mem_iff_getElem.1 hfl
      rw [← hpe] at hcj HF3
      rw [setP_pos HND.out (i : Int) p hpl] at HF3
      have hl0 : 0 < l.length := by omega
      obtain ⟨G5, cap, eo, hGb, hGl, _⟩ := Kd.R_form HRo.out (by omega)
      have hog : ow = some G5 := by
       rw [HOW.out]
       injection eo with e1
       rw [e1]
       simp [Value.ownBlock]
      have hgw : Grew w wr := pw_below_grown HG4.out ow HG4.out.size HGo.out (fun k hk => by rw [hog] at hk; injection hk with hk; have := HSW.out; omega)
      have hbw : wr.heap[w.heap.size]? = some (.cells #[I n, .slice A l.length c] 30 (0, 0)) := (HGo.out.block w.heap.size (Array.getElem?_eq_some_iff.1 HB4.out).1 (fun e => by rw [hog] at e; injection e with e; have := HSW.out; omega)).trans HB4.out
      have kb : wr.cell? ⟨w.heap.size, 1, none⟩ = some (.slice A l.length c) := blk_cell hbw 1
      have HBS := Aside0.mk (BsI_calls HASC.out (by omega) A c p hpl wr (HK.out.later hgw).r (HK.out.later hgw).c)
      have HOG := Aside0.mk hog
      have HPL := Aside0.mk hpl
      generalize l[p] = f at hcj HBS
      injection eo with e1 e2 e3
      subst e1 e3
      clear e2 hkw hfl hpe hog hgw hbw
      go_wp2_with fail
      refine HBS.out.mono ?_
      rintro e w6 ⟨rfl, hG6⟩
      have HR6 := Aside0.mk (Kd.R_below HRo.out hG6)
      have HG6 := Aside0.mk (World.grownBy.trans HGo.out (grown_of_below hG6 ow))
      have hcel := Kd.R_celln 0 HR6.out (p : Int) (by omega) (by omega)
      rw [Int.toNat_natCast] at hcel
      obtain ⟨hx6, hf6⟩ := hcel
      have hput := Kd.R_putg HR6.out (p : Int) (i : Int)
      rw [Int.toNat_natCast] at hput
      have HPUT := Aside0.mk hput
      have hpz : (p : Int) < (l.length : Int) := by omega
      generalize rdOf 0 o (p : Int) = z at hx6
      clear hG6 kb hput hcj hx
      go_wp2_with fail
      go_roundg (r.xs.length - (j + 1))
      case measure => omega
      case rel => exact ⟨j + 1, o.set p i, by omega, Nat.le_refl _, by go_num, by simpa using hol, ⟨HPUT.out.1⟩, ⟨World.grownBy.trans HG6.out (by rw [HOG.out]; exact HPUT.out.2)⟩, HF3⟩
     ·have hjtz : ¬ (j : Int) < (r.xs.length : Int) := by omega
      have HF4 : Aside0 (flI l rest ((i : Int) + 1) o = oa) := ⟨by have := HFo.out; rw [List.drop_eq_nil_of_le (by omega)] at this; exact this⟩
      go_wp2_with fail
      go_roundg (vs.length - (i + 1))
      case measure => omega
      case rel => exact ⟨i + 1, o, by omega, Nat.le_refl _, by go_num, hol, HRo, HGo, ⟨by rw [← HRE.out, ← nat_succ]; exact HF4.out⟩⟩
   ·have hltz : ¬ (i : Int) < (vs.length : Int) := by omega
    have HFE : Aside0 (o = oa) := ⟨by have := HFo.out; rw [List.drop_eq_nil_of_le (by omega)] at this; exact this⟩
    have HGE : Aside0 (Grew w wr) := ⟨pw_below_grown HG4.out ow HG4.out.size HGo.out (fun k hk => by
     have := Kd.R_base HRo.out k (by rw [← HOW.out]; exact hk)
     have := HSW.out
     omega)⟩
    go_wp2_with fail
    go_ret2
    exact ⟨_, rfl, by rw [← HFE.out]; exact Kd.R_lower HRo.out (by have := HSW.out; omega), HGE.out⟩
 ·have HOE : Aside0 (oa = []) := ⟨by rw [HOA.out, if_neg hz]⟩
  clear HGR HAZ HOA
  subst hW1
  go_enter Tryz.func19, Tryz.ntmps19
  go_wp2_with fail
  refine H.out.mono ?_
  rintro e w1 ⟨rfl, hGa⟩
  have HG2 := Aside0.mk (Grew.trans HG1.out hGa)
  clear hGa k0 k1
  go_wp2_with fail
  go_ret2
  exact ⟨_, rfl, by rw [HOE.out]; exact Kd.R_nil _ _ _ _ _, HG2.out⟩

end Go.Proofs.YtniikppojffiaaaGreat.K
end

section
/- The walk through the law FnExactFlatFunction. -/
namespace Go.Proofs.YtniikppojffiaaaGreat.K
open Go.RowKit Go.Shelf Go.Proofs.YtniikppojffiaaaGreat.Q Go.Proofs.YtniikppojffiaaaGreatW.PrintWords Go.Proofs.YtniikppojffiaaaGreatW.PrintLast Go.Proofs.YtniikppojffiaaaGreatW.PrintMore
set_option linter.unusedVariables false
set_option linter.unusedSimpArgs false

set_option maxRecDepth 100000 in
set_option maxHeartbeats 8000000 in
theorem LFlatFunction_b0 (n0 : Int) (A0 : Option Addr) (c0 : Nat) (l0 : List Int) (A1 : Option Addr) (c1 : Nat) (l1 : List S46) (w : World) (hr0 : Ki.C w A0 l0.length l0) (hc0 : l0.length ≤ c0) (hr1 : Kq.C w A1 l1.length l1) (hc1 : l1.length ≤ c1)   (hz : (1048576 : Int) < (l0.length : Int)) :
  Calls Tryz.prog 4 #[.agg #[I n0, .slice A0 l0.length c0], .slice A1 l1.length c1] w fun e w' => e = .returned (.bool true) ∧ Grew w w' := by
 have hbig0 := hr0.2.1
 have HR0 := Aside0.mk hr0
 have HC0 := Aside0.mk hc0
 clear hr0 hc0
 have hbig1 := hr1.2.1
 have HR1 := Aside0.mk hr1
 have HC1 := Aside0.mk hc1
 clear hr1 hc1
 obtain ⟨W0, hW0⟩ : ∃ W0, W0 = (w.alloc (.cells #[I n0, .slice A0 l0.length c0] 24)) := ⟨_, rfl⟩
 have hb_p0 : (Item.box w.heap.size 24 #[I n0, .slice A0 l0.length c0]).ok W0 := by
  rw [hW0]
  have := blk_new w (.cells #[I n0, .slice A0 l0.length c0] 24)
  exact this
 have HM0 : Aside0 (Mem W0 [.box w.heap.size 24 #[I n0, .slice A0 l0.length c0]]) := ⟨Mem.cons (it := .box w.heap.size 24 #[I n0, .slice A0 l0.length c0]) hb_p0 (Mem.nil _)⟩
 have HG0 : Aside0 (Grew w W0) := ⟨by rw [hW0]; exact below_alloc (Grew.refl w) _⟩
 have hs0 : W0.heap.size = w.heap.size + 1 := by rw [hW0]; simp
 clear hb_p0
 have H0 := Aside0.mk (szC_calls n0 A0 c0 l0 (1048576 : Int) (by omega) W0 (Kd.C_below HR0.out HG0.out) HC0.out)
 rw [if_pos (by omega)] at H0
 have p0_0 : W0.cell? ⟨w.heap.size, 0, none⟩ = some (I n0) := blk_cell HM0.out.head 0
 have p0_1 : W0.cell? ⟨w.heap.size, 1, none⟩ = some (.slice A0 l0.length c0) := blk_cell HM0.out.head 1
 subst hW0
 go_enter Tryz.func4, Tryz.ntmps4
 go_wp2_with fail
 refine H0.out.mono ?_
 rintro e w1 ⟨rfl, hG1⟩
 clear p0_0 p0_1
 have HM1 := Aside0.mk (HM0.out.grew hG1)
 have HG1 := Aside0.mk (Grew.trans HG0.out hG1)
 have hs1 := hG1.size
 try simp at hs1
 clear hG1 H0
 go_wp2_with fail
 go_ret
 exact ⟨rfl, HG1.out⟩

set_option maxRecDepth 100000 in
set_option maxHeartbeats 8000000 in
theorem LFlatFunction_b1 (n0 : Int) (A0 : Option Addr) (c0 : Nat) (l0 : List Int) (A1 : Option Addr) (c1 : Nat) (l1 : List S46) (w : World) (hr0 : Ki.C w A0 l0.length l0) (hc0 : l0.length ≤ c0) (hr1 : Kq.C w A1 l1.length l1) (hc1 : l1.length ≤ c1)  (hl0 : ¬ (1048576 : Int) < (l0.length : Int)) (hz : ((1048576 : Int) - (l0.length : Int)) < (l1.length : Int)) :
  Calls Tryz.prog 4 #[.agg #[I n0, .slice A0 l0.length c0], .slice A1 l1.length c1] w fun e w' => e = .returned (.bool true) ∧ Grew w w' := by
 have hbig0 := hr0.2.1
 have HR0 := Aside0.mk hr0
 have HC0 := Aside0.mk hc0
 clear hr0 hc0
 have hbig1 := hr1.2.1
 have HR1 := Aside0.mk hr1
 have HC1 := Aside0.mk hc1
 clear hr1 hc1
 obtain ⟨W0, hW0⟩ : ∃ W0, W0 = (w.alloc (.cells #[I n0, .slice A0 l0.length c0] 24)) := ⟨_, rfl⟩
 have hb_p0 : (Item.box w.heap.size 24 #[I n0, .slice A0 l0.length c0]).ok W0 := by
  rw [hW0]
  have := blk_new w (.cells #[I n0, .slice A0 l0.length c0] 24)
  exact this
 have HM0 : Aside0 (Mem W0 [.box w.heap.size 24 #[I n0, .slice A0 l0.length c0]]) := ⟨Mem.cons (it := .box w.heap.size 24 #[I n0, .slice A0 l0.length c0]) hb_p0 (Mem.nil _)⟩
 have HG0 : Aside0 (Grew w W0) := ⟨by rw [hW0]; exact below_alloc (Grew.refl w) _⟩
 have hs0 : W0.heap.size = w.heap.size + 1 := by rw [hW0]; simp
 clear hb_p0
 have H0 := Aside0.mk (szC_calls n0 A0 c0 l0 (1048576 : Int) (by omega) W0 (Kd.C_below HR0.out HG0.out) HC0.out)
 rw [if_neg (by omega)] at H0
 have p0_0 : W0.cell? ⟨w.heap.size, 0, none⟩ = some (I n0) := blk_cell HM0.out.head 0
 have p0_1 : W0.cell? ⟨w.heap.size, 1, none⟩ = some (.slice A0 l0.length c0) := blk_cell HM0.out.head 1
 subst hW0
 go_enter Tryz.func4, Tryz.ntmps4
 have hneg0 : ¬ (((1048576 : Int) - (l0.length : Int)) < 0) := by omega
 go_wp2_with fail
 refine H0.out.mono ?_
 rintro e w1 ⟨rfl, hG1⟩
 clear p0_0 p0_1
 have HM1 := Aside0.mk (HM0.out.grew hG1)
 have HG1 := Aside0.mk (Grew.trans HG0.out hG1)
 have hs1 := hG1.size
 try simp at hs1
 clear hG1 H0
 have H1 := Aside0.mk (szP_calls A1 c1 l1 ((1048576 : Int) - (l0.length : Int)) (by omega) w1 (Kd.C_below HR1.out HG1.out) HC1.out)
 rw [if_pos (by omega)] at H1
 go_wp2_with fail
 refine H1.out.mono ?_
 rintro e w2 ⟨rfl, hG2⟩
 have HM2 := Aside0.mk (HM1.out.grew hG2)
 have HG2 := Aside0.mk (Grew.trans HG1.out hG2)
 have hs2 := hG2.size
 clear hG2 H1
 go_wp2_with fail
 go_ret
 exact ⟨rfl, HG2.out⟩

set_option maxRecDepth 100000 in
set_option maxHeartbeats 8000000 in
theorem LFlatFunction_main (n0 : Int) (A0 : Option Addr) (c0 : Nat) (l0 : List Int) (A1 : Option Addr) (c1 : Nat) (l1 : List S46) (w : World) (hr0 : Ki.C w A0 l0.length l0) (hc0 : l0.length ≤ c0) (hr1 : Kq.C w A1 l1.length l1) (hc1 : l1.length ≤ c1)  (hl0 : ¬ (1048576 : Int) < (l0.length : Int)) (hl1 : ¬ ((1048576 : Int) - (l0.length : Int)) < (l1.length : Int)) :
  Calls Tryz.prog 4 #[.agg #[I n0, .slice A0 l0.length c0], .slice A1 l1.length c1] w fun e w' => e = .returned (.bool true) ∧ Grew w w' := by
  obtain ⟨r0, r1, HS, HI, hlen0⟩ : ∃ (r0 : List Int) (r1 : Int), Aside0 (∀ W A0 c0 A1 c1, Ki.C W A0 l0.length l0 → l0.length ≤ c0 → Kq.C W A1 l1.length l1 → l1.length ≤ c1 → Calls Tryz.prog 18 #[.agg #[I n0, .slice A0 l0.length c0], .slice A1 l1.length c1] W fun e w' => ∃ v0, e = .returned (.tuple #[v0, I r1]) ∧ Ki.R 2 w' W.heap.size (fun _ => True) v0 r0 ∧ Grew W w') ∧ Aside0 (∀ W A0 c0 A1 c1, Ki.C W A0 l0.length l0 → l0.length ≤ c0 → Kq.C W A1 l1.length l1 → l1.length ≤ c1 → Calls Tryz.prog 19 #[.agg #[I n0, .slice A0 l0.length c0], .slice A1 l1.length c1] W fun e w' => ∃ v0, e = .returned (.tuple #[v0, I r1]) ∧ Ki.R 2 w' W.heap.size (fun _ => True) v0 r0 ∧ Grew W w') ∧ r0.length ≤ 1000000 := by
   have hbig0 := hr0.2.1
   have hbig1 := hr1.2.1
   have hS := fun (W : World) (A0 : Option Addr) (c0 : Nat) (A1 : Option Addr) (c1 : Nat) (hr0 : Ki.C W A0 l0.length l0) (hc0 : l0.length ≤ c0) (hr1 : Kq.C W A1 l1.length l1) (hc1 : l1.length ≤ c1) => spec_FlatFunction.calls (isK l0 + pgK l0 l1 + 300 + ordF + 20000) n0 A0 c0 l0 A1 c1 l1 _ _ W hr0 hc0 hr1 hc1 (specFlat_is n0 l0 l1 (by omega) (by omega) _ (Nat.le_refl _))
   have hI := fun (W : World) (A0 : Option Addr) (c0 : Nat) (A1 : Option Addr) (c1 : Nat) (hr0 : Ki.C W A0 l0.length l0) (hc0 : l0.length ≤ c0) (hr1 : Kq.C W A1 l1.length l1) (hc1 : l1.length ≤ c1) => Flat_calls n0 A0 c0 l0 A1 c1 l1 W ⟨hr0, hc0, by omega⟩ hr1 hc1 (by omega)
   have hlen0 := fltA_len (n := n0) (l := l0) (q := l1)
   exact ⟨(fltA n0 l0 l1), (acode n0 l0 l1 true), ⟨hS⟩, ⟨hI⟩, Nat.le_trans hlen0 (by decide)⟩
  have hbig0 := hr0.2.1
  have HR0 := Aside0.mk hr0
  have HC0 := Aside0.mk hc0
  clear hr0 hc0
  have hbig1 := hr1.2.1
  have HR1 := Aside0.mk hr1
  have HC1 := Aside0.mk hc1
  clear hr1 hc1
  obtain ⟨W0, hW0⟩ : ∃ W0, W0 = (w.alloc (.cells #[I n0, .slice A0 l0.length c0] 24)) := ⟨_, rfl⟩
  have hb_p0 : (Item.box w.heap.size 24 #[I n0, .slice A0 l0.length c0]).ok W0 := by
   rw [hW0]
   have := blk_new w (.cells #[I n0, .slice A0 l0.length c0] 24)
   exact this
  have HM0 : Aside0 (Mem W0 [.box w.heap.size 24 #[I n0, .slice A0 l0.length c0]]) := ⟨Mem.cons (it := .box w.heap.size 24 #[I n0, .slice A0 l0.length c0]) hb_p0 (Mem.nil _)⟩
  have HG0 : Aside0 (Grew w W0) := ⟨by rw [hW0]; exact below_alloc (Grew.refl w) _⟩
  have hs0 : W0.heap.size = w.heap.size + 1 := by rw [hW0]; simp
  clear hb_p0
  have H0 := Aside0.mk (szC_calls n0 A0 c0 l0 (1048576 : Int) (by omega) W0 (Kd.C_below HR0.out HG0.out) HC0.out)
  rw [if_neg (by omega)] at H0
  have p0_0 : W0.cell? ⟨w.heap.size, 0, none⟩ = some (I n0) := blk_cell HM0.out.head 0
  have p0_1 : W0.cell? ⟨w.heap.size, 1, none⟩ = some (.slice A0 l0.length c0) := blk_cell HM0.out.head 1
  subst hW0
  go_enter Tryz.func4, Tryz.ntmps4
  have hneg0 : ¬ (((1048576 : Int) - (l0.length : Int)) < 0) := by omega
  go_wp2_with fail
  refine H0.out.mono ?_
  rintro e w1 ⟨rfl, hG1⟩
  clear p0_0 p0_1
  have HM1 := Aside0.mk (HM0.out.grew hG1)
  have HG1 := Aside0.mk (Grew.trans HG0.out hG1)
  have hs1 := hG1.size
  try simp at hs1
  clear hG1 H0
  have H1 := Aside0.mk (szP_calls A1 c1 l1 ((1048576 : Int) - (l0.length : Int)) (by omega) w1 (Kd.C_below HR1.out HG1.out) HC1.out)
  rw [if_neg (by omega)] at H1
  have hneg1 : ¬ ((((1048576 : Int) - (l0.length : Int)) - (l1.length : Int)) < 0) := by omega
  go_wp2_with fail
  refine H1.out.mono ?_
  rintro e w2 ⟨rfl, hG2⟩
  have HM2 := Aside0.mk (HM1.out.grew hG2)
  have HG2 := Aside0.mk (Grew.trans HG1.out hG2)
  have hs2 := hG2.size
  clear hG2 H1
  have p0_0 : w2.cell? ⟨w.heap.size, 0, none⟩ = some (I n0) := blk_cell HM2.out.head 0
  have p0_1 : w2.cell? ⟨w.heap.size, 1, none⟩ = some (.slice A0 l0.length c0) := blk_cell HM2.out.head 1
  go_wp2_with fail
  clear p0_0 p0_1
  refine (toC_calls n0 A0 c0 l0 w2 (Kd.C_below HR0.out HG2.out) HC0.out (by omega)).mono ?_
  rintro e w3 ⟨AS0, cS0, rfl, hR3, hG3⟩
  have HM3 : Aside0 (Mem w3 [.row w2.heap.size w3.heap.size (.slice AS0 l0.length cS0) l0, .box w.heap.size 24 #[I n0, .slice A0 l0.length c0]]) := ⟨Mem.cons (it := .row w2.heap.size w3.heap.size (.slice AS0 l0.length cS0) l0) (hR3) (HM2.out.grew hG3)⟩
  have HG3 := Aside0.mk (Grew.trans HG2.out hG3)
  have hs3 := hG3.size
  clear hG3 
  go_wp2_with fail
  refine (toP_calls A1 c1 l1 w3 (Kd.C_below HR1.out HG3.out) HC1.out (by omega)).mono ?_
  rintro e w4 ⟨AS1, cS1, rfl, hR4, hG4⟩
  have HM4 : Aside0 (Mem w4 [.prow w3.heap.size w4.heap.size (.slice AS1 l1.length cS1) l1, .row w2.heap.size w3.heap.size (.slice AS0 l0.length cS0) l0, .box w.heap.size 24 #[I n0, .slice A0 l0.length c0]]) := ⟨Mem.cons (it := .prow w3.heap.size w4.heap.size (.slice AS1 l1.length cS1) l1) (hR4) (HM3.out.grew hG4)⟩
  have HG4 := Aside0.mk (Grew.trans HG3.out hG4)
  have hs4 := hG4.size
  clear hG4 
  go_wp2_with fail
  refine (HS.out w4 AS0 cS0 AS1 cS1 (Row.slice HM4.out.tail.head).2.2 (Row.slice HM4.out.tail.head).2.1 (PRow.slice HM4.out.head).2.2 (PRow.slice HM4.out.head).2.1).mono ?_
  rintro e w5 ⟨vw0, rfl, hRw0, hG5⟩
  obtain ⟨Aw0, cw0, rfl⟩ := Kd.R_slice hRw0
  have HM5 : Aside0 (Mem w5 [.row w4.heap.size w5.heap.size (.slice Aw0 r0.length cw0) r0, .prow w3.heap.size w4.heap.size (.slice AS1 l1.length cS1) l1, .row w2.heap.size w3.heap.size (.slice AS0 l0.length cS0) l0, .box w.heap.size 24 #[I n0, .slice A0 l0.length c0]]) := ⟨Mem.cons (it := .row w4.heap.size w5.heap.size (.slice Aw0 r0.length cw0) r0) (Row.of_R hRw0) (HM4.out.grew hG5)⟩
  have HG5 := Aside0.mk (Grew.trans HG4.out hG5)
  have hs5 := hG5.size
  clear hG5 
  have p0_0 : w5.cell? ⟨w.heap.size, 0, none⟩ = some (I n0) := blk_cell HM5.out.tail.tail.tail.head 0
  have p0_1 : w5.cell? ⟨w.heap.size, 1, none⟩ = some (.slice A0 l0.length c0) := blk_cell HM5.out.tail.tail.tail.head 1
  go_wp2_with fail
  clear p0_0 p0_1
  refine (toC_calls n0 A0 c0 l0 w5 (Kd.C_below HR0.out HG5.out) HC0.out (by omega)).mono ?_
  rintro e w6 ⟨Ax0, cx0, rfl, hR6, hG6⟩
  have HM6 : Aside0 (Mem w6 [.row w5.heap.size w6.heap.size (.slice Ax0 l0.length cx0) l0, .row w4.heap.size w5.heap.size (.slice Aw0 r0.length cw0) r0, .prow w3.heap.size w4.heap.size (.slice AS1 l1.length cS1) l1, .row w2.heap.size w3.heap.size (.slice AS0 l0.length cS0) l0, .box w.heap.size 24 #[I n0, .slice A0 l0.length c0]]) := ⟨Mem.cons (it := .row w5.heap.size w6.heap.size (.slice Ax0 l0.length cx0) l0) (hR6) (HM5.out.grew hG6)⟩
  have HG6 := Aside0.mk (Grew.trans HG5.out hG6)
  have hs6 := hG6.size
  clear hG6 
  have HM7 : Aside0 (Mem (w6.alloc (.cells #[I n0, .slice Ax0 l0.length cx0] 30)) [.box w6.heap.size 30 #[I n0, .slice Ax0 l0.length cx0], .row w5.heap.size w6.heap.size (.slice Ax0 l0.length cx0) l0, .row w4.heap.size w5.heap.size (.slice Aw0 r0.length cw0) r0, .prow w3.heap.size w4.heap.size (.slice AS1 l1.length cS1) l1, .row w2.heap.size w3.heap.size (.slice AS0 l0.length cS0) l0, .box w.heap.size 24 #[I n0, .slice A0 l0.length c0]]) := ⟨Mem.cons (blk_new w6 _) (HM6.out.grew (below_alloc (Grew.refl w6) _))⟩
  have HG7 : Aside0 (Grew w (w6.alloc (.cells #[I n0, .slice Ax0 l0.length cx0] 30))) := ⟨Grew.trans HG6.out (below_alloc (Grew.refl w6) _)⟩
  have hS7 : (w6.alloc (.cells #[I n0, .slice Ax0 l0.length cx0] 30)).heap.size = w6.heap.size + 1 := by simp
  go_wp2_with fail
  generalize (w6.alloc (.cells #[I n0, .slice Ax0 l0.length cx0] 30)) = W7 at HM7 HG7 hS7  ⊢
  refine (toP_calls A1 c1 l1 W7 (Kd.C_below HR1.out HG7.out) HC1.out (by omega)).mono ?_
  rintro e w8 ⟨Ax1, cx1, rfl, hR8, hG8⟩
  have HM8 : Aside0 (Mem w8 [.prow W7.heap.size w8.heap.size (.slice Ax1 l1.length cx1) l1, .box w6.heap.size 30 #[I n0, .slice Ax0 l0.length cx0], .row w5.heap.size w6.heap.size (.slice Ax0 l0.length cx0) l0, .row w4.heap.size w5.heap.size (.slice Aw0 r0.length cw0) r0, .prow w3.heap.size w4.heap.size (.slice AS1 l1.length cS1) l1, .row w2.heap.size w3.heap.size (.slice AS0 l0.length cS0) l0, .box w.heap.size 24 #[I n0, .slice A0 l0.length c0]]) := ⟨Mem.cons (it := .prow W7.heap.size w8.heap.size (.slice Ax1 l1.length cx1) l1) (hR8) (HM7.out.grew hG8)⟩
  have HG8 := Aside0.mk (Grew.trans HG7.out hG8)
  have hs8 := hG8.size
  clear hG8 
  have bx0_0 : w8.cell? ⟨w6.heap.size, 0, none⟩ = some (I n0) := blk_cell HM8.out.tail.head 0
  have bx0_1 : w8.cell? ⟨w6.heap.size, 1, none⟩ = some (.slice Ax0 l0.length cx0) := blk_cell HM8.out.tail.head 1
  go_wp2_with fail
  clear bx0_0 bx0_1
  refine (HI.out w8 Ax0 cx0 Ax1 cx1 (Row.slice HM8.out.tail.tail.head).2.2 (Row.slice HM8.out.tail.tail.head).2.1 (PRow.slice HM8.out.head).2.2 (PRow.slice HM8.out.head).2.1).mono ?_
  rintro e w9 ⟨vg0, rfl, hRg0, hG9⟩
  obtain ⟨Ag0, cg0, rfl⟩ := Kd.R_slice hRg0
  have HM9 : Aside0 (Mem w9 [.row w8.heap.size w9.heap.size (.slice Ag0 r0.length cg0) r0, .prow W7.heap.size w8.heap.size (.slice Ax1 l1.length cx1) l1, .box w6.heap.size 30 #[I n0, .slice Ax0 l0.length cx0], .row w5.heap.size w6.heap.size (.slice Ax0 l0.length cx0) l0, .row w4.heap.size w5.heap.size (.slice Aw0 r0.length cw0) r0, .prow w3.heap.size w4.heap.size (.slice AS1 l1.length cS1) l1, .row w2.heap.size w3.heap.size (.slice AS0 l0.length cS0) l0, .box w.heap.size 24 #[I n0, .slice A0 l0.length c0]]) := ⟨Mem.cons (it := .row w8.heap.size w9.heap.size (.slice Ag0 r0.length cg0) r0) (Row.of_R hRg0) (HM8.out.grew hG9)⟩
  have HG9 := Aside0.mk (Grew.trans HG8.out hG9)
  have hs9 := hG9.size
  clear hG9 
  go_wp2_with fail
  refine (eqI_calls r0 Ag0 Aw0 cg0 cw0 _ _ _ _ _ _ w9 HM9.out.head HM9.out.tail.tail.tail.tail.head).mono ?_
  rintro e w10 ⟨rfl, hG10⟩
  have HM10 := Aside0.mk (HM9.out.grew hG10)
  have HG10 := Aside0.mk (Grew.trans HG9.out hG10)
  have hs10 := hG10.size
  clear hG10
  go_wp2_with fail
  have bx0_0 : w10.cell? ⟨w6.heap.size, 0, none⟩ = some (I n0) := blk_cell HM10.out.tail.tail.head 0
  have bx0_1 : w10.cell? ⟨w6.heap.size, 1, none⟩ = some (.slice Ax0 l0.length cx0) := blk_cell HM10.out.tail.tail.head 1
  have p0_0 : w10.cell? ⟨w.heap.size, 0, none⟩ = some (I n0) := blk_cell HM10.out.tail.tail.tail.tail.tail.tail.tail.head 0
  have p0_1 : w10.cell? ⟨w.heap.size, 1, none⟩ = some (.slice A0 l0.length c0) := blk_cell HM10.out.tail.tail.tail.tail.tail.tail.tail.head 1
  have hlx : w6.heap.size < w10.heap.size := World.block_lt_of_cell? w10 _ bx0_0
  have hlp : w.heap.size < w10.heap.size := World.block_lt_of_cell? w10 _ p0_0
  go_region_held3 (fun w' => w'.cell? ⟨w6.heap.size, 0, none⟩ = some (I n0) ∧ w'.cell? ⟨w6.heap.size, 1, none⟩ = some (.slice Ax0 l0.length cx0) ∧ w'.cell? ⟨w.heap.size, 0, none⟩ = some (I n0) ∧ w'.cell? ⟨w.heap.size, 1, none⟩ = some (.slice A0 l0.length c0))
   (first | exact ⟨(HDb.out.cell (p := ⟨w6.heap.size, 0, none⟩) hlx).trans bx0_0, (HDb.out.cell (p := ⟨w6.heap.size, 1, none⟩) hlx).trans bx0_1, (HDb.out.cell (p := ⟨w.heap.size, 0, none⟩) hlp).trans p0_0, (HDb.out.cell (p := ⟨w.heap.size, 1, none⟩) hlp).trans p0_1⟩ | exact ⟨(HDa.out.cell (p := ⟨w6.heap.size, 0, none⟩) hlx).trans bx0_0, (HDa.out.cell (p := ⟨w6.heap.size, 1, none⟩) hlx).trans bx0_1, (HDa.out.cell (p := ⟨w.heap.size, 0, none⟩) hlp).trans p0_0, (HDa.out.cell (p := ⟨w.heap.size, 1, none⟩) hlp).trans p0_1⟩ | go_keep)
   (first
    | (go_at_call 8; refine (toC_calls n0 A0 c0 l0 _ (Kd.C_below HR0.out (Below.trans HG10.out ((Below.refl _ w10).drew))) HC0.out (by omega)).mono ?_; rintro e w11 ⟨Aq0, cq0, rfl, hRa, hGa⟩; have HDa : Aside0 (Grew w10 w11) := ⟨Below.trans ((Below.refl _ w10).drew) hGa⟩; have HRa := Aside0.mk hRa; clear hRa hGa)
    | (go_at_call 12; refine (eqC_calls n0 l0 Ax0 Aq0 cx0 cq0 _ _ _ _ _ _ w11 (HM10.out.grew HDa.out).tail.tail.tail.head HRa.out).mono ?_; rintro e w12 ⟨rfl, hGb⟩; have HDb : Aside0 (Grew w10 w12) := ⟨Grew.trans HDa.out hGb⟩; clear hGb))
  clear bx0_0 bx0_1 p0_0 p0_1
  have hG12 := HDb.out
  clear hlx hlp HDa HDb HRa
  have HM12 := Aside0.mk (HM10.out.grew hG12)
  have HG12 := Aside0.mk (Grew.trans HG10.out hG12)
  have hs12 := hG12.size
  clear hG12
  go_wp2_with fail
  refine (toP_calls A1 c1 l1 w12 (Kd.C_below HR1.out HG12.out) HC1.out (by omega)).mono ?_
  rintro e w13 ⟨Ay1, cy1, rfl, hR13, hG13⟩
  have HM13 : Aside0 (Mem w13 [.prow w12.heap.size w13.heap.size (.slice Ay1 l1.length cy1) l1, .row w8.heap.size w9.heap.size (.slice Ag0 r0.length cg0) r0, .prow W7.heap.size w8.heap.size (.slice Ax1 l1.length cx1) l1, .box w6.heap.size 30 #[I n0, .slice Ax0 l0.length cx0], .row w5.heap.size w6.heap.size (.slice Ax0 l0.length cx0) l0, .row w4.heap.size w5.heap.size (.slice Aw0 r0.length cw0) r0, .prow w3.heap.size w4.heap.size (.slice AS1 l1.length cS1) l1, .row w2.heap.size w3.heap.size (.slice AS0 l0.length cS0) l0, .box w.heap.size 24 #[I n0, .slice A0 l0.length c0]]) := ⟨Mem.cons (it := .prow w12.heap.size w13.heap.size (.slice Ay1 l1.length cy1) l1) (hR13) (HM12.out.grew hG13)⟩
  have HG13 := Aside0.mk (Grew.trans HG12.out hG13)
  have hs13 := hG13.size
  clear hG13 
  go_wp2_with fail
  refine (eqP_calls l1 Ax1 Ay1 cx1 cy1 _ _ _ _ _ _ w13 HM13.out.tail.tail.head HM13.out.head).mono ?_
  rintro e w14 ⟨rfl, hG14⟩
  have HM14 := Aside0.mk (HM13.out.grew hG14)
  have HG14 := Aside0.mk (Grew.trans HG13.out hG14)
  have hs14 := hG14.size
  clear hG14
  have bx0_0 : w14.cell? ⟨w6.heap.size, 0, none⟩ = some (I n0) := blk_cell HM14.out.tail.tail.tail.head 0
  have bx0_1 : w14.cell? ⟨w6.heap.size, 1, none⟩ = some (.slice Ax0 l0.length cx0) := blk_cell HM14.out.tail.tail.tail.head 1
  go_wp2_with fail
  clear bx0_0 bx0_1
  refine (markC_calls n0 Ax0 l0.length cx0 l0 1 (by omega) (by omega) _ _ w w14 HG14.out (by omega) HM14.out.tail.tail.tail.tail.head).mono ?_
  rintro e w15 ⟨rfl, hX15, hB15, hK15⟩
  have HM15 : Aside0 (Mem w15 [.prow w12.heap.size w13.heap.size (.slice Ay1 l1.length cy1) l1, .row w8.heap.size w9.heap.size (.slice Ag0 r0.length cg0) r0, .prow W7.heap.size w8.heap.size (.slice Ax1 l1.length cx1) l1, .box w6.heap.size 30 #[I n0, .slice Ax0 l0.length cx0], .row w4.heap.size w5.heap.size (.slice Aw0 r0.length cw0) r0, .prow w3.heap.size w4.heap.size (.slice AS1 l1.length cS1) l1, .row w2.heap.size w3.heap.size (.slice AS0 l0.length cS0) l0, .box w.heap.size 24 #[I n0, .slice A0 l0.length c0]]) := ⟨Mem.kept (Mem.cons (it := .prow w12.heap.size w13.heap.size (.slice Ay1 l1.length cy1) l1) HM14.out.head (Mem.cons (it := .row w8.heap.size w9.heap.size (.slice Ag0 r0.length cg0) r0) HM14.out.tail.head (Mem.cons (it := .prow W7.heap.size w8.heap.size (.slice Ax1 l1.length cx1) l1) HM14.out.tail.tail.head (Mem.cons (it := .box w6.heap.size 30 #[I n0, .slice Ax0 l0.length cx0]) HM14.out.tail.tail.tail.head (Mem.cons (it := .row w4.heap.size w5.heap.size (.slice Aw0 r0.length cw0) r0) HM14.out.tail.tail.tail.tail.tail.head (Mem.cons (it := .prow w3.heap.size w4.heap.size (.slice AS1 l1.length cS1) l1) HM14.out.tail.tail.tail.tail.tail.tail.head (Mem.cons (it := .row w2.heap.size w3.heap.size (.slice AS0 l0.length cS0) l0) HM14.out.tail.tail.tail.tail.tail.tail.tail.head (Mem.cons (it := .box w.heap.size 24 #[I n0, .slice A0 l0.length c0]) HM14.out.tail.tail.tail.tail.tail.tail.tail.tail.head (Mem.nil _))))))))) hK15 (by intro it hit k hk; simp only [List.mem_cons, List.not_mem_nil, or_false] at hit; rcases hit with rfl | rfl | rfl | rfl | rfl | rfl | rfl | rfl <;> (simp only [Item.at_] at hk; omega))⟩
  have HG15 := Aside0.mk hB15
  have hs15 := hK15.1
  clear hX15 hB15 hK15
  go_wp2_with fail
  refine (markP_calls Ax1 l1.length cx1 l1 (1 + (l0.length : Int)) (by omega) (by omega) _ _ w w15 HG15.out (by omega) HM15.out.tail.tail.head).mono ?_
  rintro e w16 ⟨rfl, hX16, hB16, hK16⟩
  have HM16 : Aside0 (Mem w16 [.prow w12.heap.size w13.heap.size (.slice Ay1 l1.length cy1) l1, .row w8.heap.size w9.heap.size (.slice Ag0 r0.length cg0) r0, .box w6.heap.size 30 #[I n0, .slice Ax0 l0.length cx0], .row w4.heap.size w5.heap.size (.slice Aw0 r0.length cw0) r0, .prow w3.heap.size w4.heap.size (.slice AS1 l1.length cS1) l1, .row w2.heap.size w3.heap.size (.slice AS0 l0.length cS0) l0, .box w.heap.size 24 #[I n0, .slice A0 l0.length c0]]) := ⟨Mem.kept (Mem.cons (it := .prow w12.heap.size w13.heap.size (.slice Ay1 l1.length cy1) l1) HM15.out.head (Mem.cons (it := .row w8.heap.size w9.heap.size (.slice Ag0 r0.length cg0) r0) HM15.out.tail.head (Mem.cons (it := .box w6.heap.size 30 #[I n0, .slice Ax0 l0.length cx0]) HM15.out.tail.tail.tail.head (Mem.cons (it := .row w4.heap.size w5.heap.size (.slice Aw0 r0.length cw0) r0) HM15.out.tail.tail.tail.tail.head (Mem.cons (it := .prow w3.heap.size w4.heap.size (.slice AS1 l1.length cS1) l1) HM15.out.tail.tail.tail.tail.tail.head (Mem.cons (it := .row w2.heap.size w3.heap.size (.slice AS0 l0.length cS0) l0) HM15.out.tail.tail.tail.tail.tail.tail.head (Mem.cons (it := .box w.heap.size 24 #[I n0, .slice A0 l0.length c0]) HM15.out.tail.tail.tail.tail.tail.tail.tail.head (Mem.nil _)))))))) hK16 (by intro it hit k hk; simp only [List.mem_cons, List.not_mem_nil, or_false] at hit; rcases hit with rfl | rfl | rfl | rfl | rfl | rfl | rfl <;> (simp only [Item.at_] at hk; omega))⟩
  have HG16 := Aside0.mk hB16
  have hs16 := hK16.1
  clear hX16 hB16 hK16
  have hneg : ¬ (((1 + (l0.length : Int)) + 2 * (l1.length : Int)) < 0) := by omega
  go_wp2_with fail
  refine (eqI_calls r0 Ag0 Aw0 cg0 cw0 _ _ _ _ _ _ w16 HM16.out.tail.head HM16.out.tail.tail.tail.head).mono ?_
  rintro e w17 ⟨rfl, hG17⟩
  have HM17 := Aside0.mk (HM16.out.grew hG17)
  have HG17 := Aside0.mk (Grew.trans HG16.out hG17)
  have hs17 := hG17.size
  clear hG17
  clear hneg
  go_wp2_with fail
  refine (markI_calls Ag0 r0.length cg0 r0 1 (by omega) (by omega) _ _ w w17 HG17.out (by omega) HM17.out.tail.head).mono ?_
  rintro e w18 ⟨rfl, hX18, hB18, hK18⟩
  have HM18 : Aside0 (Mem w18 [.row w8.heap.size w9.heap.size (.slice Ag0 r0.length cg0) (marks 1 r0.length), .prow w12.heap.size w13.heap.size (.slice Ay1 l1.length cy1) l1, .box w6.heap.size 30 #[I n0, .slice Ax0 l0.length cx0], .row w4.heap.size w5.heap.size (.slice Aw0 r0.length cw0) r0, .prow w3.heap.size w4.heap.size (.slice AS1 l1.length cS1) l1, .row w2.heap.size w3.heap.size (.slice AS0 l0.length cS0) l0, .box w.heap.size 24 #[I n0, .slice A0 l0.length c0]]) := ⟨Mem.cons (it := .row w8.heap.size w9.heap.size (.slice Ag0 r0.length cg0) (marks 1 r0.length)) hX18 (Mem.kept (Mem.cons (it := .prow w12.heap.size w13.heap.size (.slice Ay1 l1.length cy1) l1) HM17.out.head (Mem.cons (it := .box w6.heap.size 30 #[I n0, .slice Ax0 l0.length cx0]) HM17.out.tail.tail.head (Mem.cons (it := .row w4.heap.size w5.heap.size (.slice Aw0 r0.length cw0) r0) HM17.out.tail.tail.tail.head (Mem.cons (it := .prow w3.heap.size w4.heap.size (.slice AS1 l1.length cS1) l1) HM17.out.tail.tail.tail.tail.head (Mem.cons (it := .row w2.heap.size w3.heap.size (.slice AS0 l0.length cS0) l0) HM17.out.tail.tail.tail.tail.tail.head (Mem.cons (it := .box w.heap.size 24 #[I n0, .slice A0 l0.length c0]) HM17.out.tail.tail.tail.tail.tail.tail.head (Mem.nil _))))))) hK18 (by intro it hit k hk; simp only [List.mem_cons, List.not_mem_nil, or_false] at hit; rcases hit with rfl | rfl | rfl | rfl | rfl | rfl <;> (simp only [Item.at_] at hk; omega)))⟩
  have HG18 := Aside0.mk hB18
  have hs18 := hK18.1
  clear hX18 hB18 hK18
  have hneg0 : ¬ ((1 + (r0.length : Int)) < 0) := by omega
  go_wp2_with fail
  refine (heldI_calls Ag0 r0.length r0.length cg0 _ _ 1 (by omega) (by omega) w18 HM18.out.head).mono ?_
  rintro e w19 ⟨rfl, hG19⟩
  have HM19 := Aside0.mk (HM18.out.grew hG19)
  have HG19 := Aside0.mk (Grew.trans HG18.out hG19)
  have hs19 := hG19.size
  clear hG19
  have p0_0 : w19.cell? ⟨w.heap.size, 0, none⟩ = some (I n0) := blk_cell HM19.out.tail.tail.tail.tail.tail.tail.head 0
  have p0_1 : w19.cell? ⟨w.heap.size, 1, none⟩ = some (.slice A0 l0.length c0) := blk_cell HM19.out.tail.tail.tail.tail.tail.tail.head 1
  go_wp2_with fail
  clear p0_0 p0_1
  refine (toC_calls n0 A0 c0 l0 w19 (Kd.C_below HR0.out HG19.out) HC0.out (by omega)).mono ?_
  rintro e w20 ⟨Az0, cz0, rfl, hR20, hG20⟩
  have HM20 : Aside0 (Mem w20 [.row w19.heap.size w20.heap.size (.slice Az0 l0.length cz0) l0, .row w8.heap.size w9.heap.size (.slice Ag0 r0.length cg0) (marks 1 r0.length), .prow w12.heap.size w13.heap.size (.slice Ay1 l1.length cy1) l1, .box w6.heap.size 30 #[I n0, .slice Ax0 l0.length cx0], .row w4.heap.size w5.heap.size (.slice Aw0 r0.length cw0) r0, .prow w3.heap.size w4.heap.size (.slice AS1 l1.length cS1) l1, .row w2.heap.size w3.heap.size (.slice AS0 l0.length cS0) l0, .box w.heap.size 24 #[I n0, .slice A0 l0.length c0]]) := ⟨Mem.cons (it := .row w19.heap.size w20.heap.size (.slice Az0 l0.length cz0) l0) (hR20) (HM19.out.grew hG20)⟩
  have HG20 := Aside0.mk (Grew.trans HG19.out hG20)
  have hs20 := hG20.size
  clear hG20 
  go_wp2_with fail
  refine (toP_calls A1 c1 l1 w20 (Kd.C_below HR1.out HG20.out) HC1.out (by omega)).mono ?_
  rintro e w21 ⟨Az1, cz1, rfl, hR21, hG21⟩
  have HM21 : Aside0 (Mem w21 [.prow w20.heap.size w21.heap.size (.slice Az1 l1.length cz1) l1, .row w19.heap.size w20.heap.size (.slice Az0 l0.length cz0) l0, .row w8.heap.size w9.heap.size (.slice Ag0 r0.length cg0) (marks 1 r0.length), .prow w12.heap.size w13.heap.size (.slice Ay1 l1.length cy1) l1, .box w6.heap.size 30 #[I n0, .slice Ax0 l0.length cx0], .row w4.heap.size w5.heap.size (.slice Aw0 r0.length cw0) r0, .prow w3.heap.size w4.heap.size (.slice AS1 l1.length cS1) l1, .row w2.heap.size w3.heap.size (.slice AS0 l0.length cS0) l0, .box w.heap.size 24 #[I n0, .slice A0 l0.length c0]]) := ⟨Mem.cons (it := .prow w20.heap.size w21.heap.size (.slice Az1 l1.length cz1) l1) (hR21) (HM20.out.grew hG21)⟩
  have HG21 := Aside0.mk (Grew.trans HG20.out hG21)
  have hs21 := hG21.size
  clear hG21 
  go_wp2_with fail
  refine (HI.out w21 Az0 cz0 Az1 cz1 (Row.slice HM21.out.tail.head).2.2 (Row.slice HM21.out.tail.head).2.1 (PRow.slice HM21.out.head).2.2 (PRow.slice HM21.out.head).2.1).mono ?_
  rintro e w22 ⟨vh0, rfl, hRh0, hG22⟩
  obtain ⟨Ah0, ch0, rfl⟩ := Kd.R_slice hRh0
  have HM22 : Aside0 (Mem w22 [.row w21.heap.size w22.heap.size (.slice Ah0 r0.length ch0) r0, .prow w20.heap.size w21.heap.size (.slice Az1 l1.length cz1) l1, .row w19.heap.size w20.heap.size (.slice Az0 l0.length cz0) l0, .row w8.heap.size w9.heap.size (.slice Ag0 r0.length cg0) (marks 1 r0.length), .prow w12.heap.size w13.heap.size (.slice Ay1 l1.length cy1) l1, .box w6.heap.size 30 #[I n0, .slice Ax0 l0.length cx0], .row w4.heap.size w5.heap.size (.slice Aw0 r0.length cw0) r0, .prow w3.heap.size w4.heap.size (.slice AS1 l1.length cS1) l1, .row w2.heap.size w3.heap.size (.slice AS0 l0.length cS0) l0, .box w.heap.size 24 #[I n0, .slice A0 l0.length c0]]) := ⟨Mem.cons (it := .row w21.heap.size w22.heap.size (.slice Ah0 r0.length ch0) r0) (Row.of_R hRh0) (HM21.out.grew hG22)⟩
  have HG22 := Aside0.mk (Grew.trans HG21.out hG22)
  have hs22 := hG22.size
  clear hG22 
  go_wp2_with fail
  refine (eqI_calls r0 Ah0 Aw0 ch0 cw0 _ _ _ _ _ _ w22 HM22.out.head HM22.out.tail.tail.tail.tail.tail.tail.head).mono ?_
  rintro e w23 ⟨rfl, hG23⟩
  have HM23 := Aside0.mk (HM22.out.grew hG23)
  have HG23 := Aside0.mk (Grew.trans HG22.out hG23)
  have hs23 := hG23.size
  clear hG23
  clear hneg0
  have hneg0 : ¬ ((1 + (r0.length : Int)) < 0) := by omega
  go_wp2_with fail
  refine (heldI_calls Ag0 r0.length r0.length cg0 _ _ 1 (by omega) (by omega) w23 HM23.out.tail.tail.tail.head).mono ?_
  rintro e w24 ⟨rfl, hG24⟩
  have HM24 := Aside0.mk (HM23.out.grew hG24)
  have HG24 := Aside0.mk (Grew.trans HG23.out hG24)
  have hs24 := hG24.size
  clear hG24
  go_wp2_with fail
  go_ret
  exact ⟨rfl, HG24.out⟩

theorem LFlatFunction_calls (n0 : Int) (A0 : Option Addr) (c0 : Nat) (l0 : List Int) (A1 : Option Addr) (c1 : Nat) (l1 : List S46) (w : World) (hr0 : Ki.C w A0 l0.length l0) (hc0 : l0.length ≤ c0) (hr1 : Kq.C w A1 l1.length l1) (hc1 : l1.length ≤ c1) :
  Calls Tryz.prog 4 #[.agg #[I n0, .slice A0 l0.length c0], .slice A1 l1.length c1] w fun e w' => e = .returned (.bool true) ∧ Grew w w' := by
 by_cases hl0 : (1048576 : Int) < (l0.length : Int)
 ·exact LFlatFunction_b0 n0 A0 c0 l0 A1 c1 l1 w hr0 hc0 hr1 hc1   hl0
 by_cases hl1 : ((1048576 : Int) - (l0.length : Int)) < (l1.length : Int)
 ·exact LFlatFunction_b1 n0 A0 c0 l0 A1 c1 l1 w hr0 hc0 hr1 hc1  hl0 hl1
 exact LFlatFunction_main n0 A0 c0 l0 A1 c1 l1 w hr0 hc0 hr1 hc1  hl0 hl1

end Go.Proofs.YtniikppojffiaaaGreat.K
end

section

namespace Go.Proofs.YtniikppojffiaaaGreat.fnExactFlatFunction
open Go.ChangeShapes Go.WideShapes Go.ChangeAt Go.RowKit Go.Joins Go.Proofs.YtniikppojffiaaaGreat.K Go.Proofs.YtniikppojffiaaaGreatW.PrintWords
open Go.ChangeMaps (open_string shut_string)
set_option linter.unusedVariables false
set_option maxRecDepth 100000 in
theorem lifted (os : Os) (started : os.Started) (H : Type) (enc : TypeId × Value → H) :
  ReturnsInHanded {} Tryz.checked os 4 .any (Rows.fnExactFlatFunctionSpec.pre6 enc Tryz.prog Tryz.f4 Rows.fnExactFlatFunctionRow.domain false) (Rows.fnExactFlatFunctionSpec.post enc Tryz.prog Tryz.f4 false true false false) := by
 refine returnsInHanded_of_change_sized (C := Tryz.checked) ownKnob_none started (by kernel_rfl) Tryz.func4
  (ChangeSpec.witness6 (enc := enc) (C := Tryz.checked) false ⟨#[], #[.agg #[.int .i64 0, .slice none 0 0], .slice none 0 0], []⟩ 8 (by kernel_rfl) (by kernel_rfl) (by kernel_rfl) (by kernel_rfl)) ?_
 intro W base args ds gs before hval0 hW hcnd hsz0 _
 have hsz : (DataW.weightsEach Tryz.prog (Tryz.f4.params.toList ++ Rows.fnExactFlatFunctionSpec.plain.varTypes Tryz.prog) (ds ++ gs)).all (· ≤ reachBytes) = true := hsz0
 have hval : ∀ (j : Nat) t v, Tryz.f4.params[j]? = some t → args[j]? = some v → Value.okWide Tryz.prog W .any base t v := hval0
 have hW' := hW
 obtain ⟨p, q, hA0, hV, rfl, hfz, hnd⟩ := hW
 have hA : DataW.TrodAll enc Tryz.prog W 0 (fun _ => true) true Tryz.f4.params.toList args.toList ds p := hA0
 rw [Tryz.params4] at hA hval hsz
 obtain ⟨v0, vs0, d0, ds0, p0, q0, hargs, rfl, rfl, h0, r0⟩ := trodAll_cons hA
 obtain ⟨v1, vs1, d1, ds1, p1, q1, rfl, rfl, rfl, h1, r1⟩ := trodAll_cons r0
 obtain ⟨rfl, rfl, rfl⟩ := trodAll_nil r1
 obtain rfl : args = #[v0, v1] := by cases args; simp_all
 obtain ⟨rfl, rfl⟩ := trodVars_none hV
 have k0 := h0
 have lt0 : ∀ x ∈ p0, x.block < W.heap.size := by obtain ⟨m, hm⟩ := k0; exact DataW.trod_lt m _ _ _ hm
 obtain ⟨x0, z0, y0_0, y1_0, m0, hv0, hd0, hp0, hy0_0, hy1_0⟩ := open_agg2 Tryz.underlying24 (by kernel_rfl) (show Tryz.prog.cellsOf 24 = 2 by kernel_rfl) (hval 0 24 v0 rfl rfl) h0
 obtain ⟨n0, e0_0, _, w0⟩ := DataW.trod_int Tryz.underlying2 hy0_0
 obtain ⟨A0, c0, l0, e1_0, hc0, hr0, _⟩ := ints_open hy1_0
 simp only [List.cons.injEq, and_true] at e0_0
 subst e0_0 e1_0
 subst hv0
 have k1 := h1
 have lt1 : ∀ x ∈ p1, x.block < W.heap.size := by obtain ⟨m, hm⟩ := k1; exact DataW.trod_lt m _ _ _ hm
 obtain ⟨a1, len1, cap1, hv1⟩ := okWide_slice Tryz.underlying25 (hval 1 25 v1 rfl rfl)
 obtain ⟨A1, c1, l1, e1, hc1, hr1⟩ : ∃ A c l, v1 = .slice A l.length c ∧ l.length ≤ c ∧ Kq.C W A l.length l := by
  obtain ⟨fuel, hf⟩ := h1
  subst hv1
  exact pairs_open hf
 subst e1
 clear hA0 hval0 hsz0 hsz
 refine (K.LFlatFunction_calls n0 A0 c0 l0 A1 c1 l1 W hr0 hc0 hr1 hc1).mono fun e W' ⟨he, bel0⟩ => ?_
 have bel : Below W.heap.size W W' := bel0
 subst he
 exact ⟨_, rfl, _, _, _, [], _, [], hW', trodAll_mk1 (shut_bool Tryz.underlying4 _), (trodAll_cons_mk (Below.trod laidOut (by kernel_rfl) (of_decide_eq_true (by kernel_rfl)) k0 bel lt0) (trodAll_cons_mk (Below.trod laidOut (by kernel_rfl) (of_decide_eq_true (by kernel_rfl)) k1 bel lt1) trodAll_mk0)), rfl, bel.frame _, fun h => by cases h⟩
set_option maxRecDepth 100000 in
theorem starts : ∃ r, behindMainWord (wordsSigns Tryz.prog.initOrder.toList) = "cut".toList :: r := by
 have h : Tryz.prog.initOrder = String.ofList _ := rfl
 rw [h, String.toList_ofList, signs_take 7 _ rfl rfl, signs_take 64 _ rfl rfl, signs_take 3 _ rfl rfl]
 generalize wordsSigns _ = r
 exact ⟨r, by kernel_rfl⟩
set_option maxRecDepth 100000 in
theorem closed : joinedFacts Tryz.prog 4 Tryz.f4 Rows.fnExactFlatFunctionSpec Rows.fnExactFlatFunctionRow = true := by
 obtain ⟨r, h⟩ := starts
 unfold joinedFacts
 rw [cut_enter _ r h (by kernel_rfl) (by kernel_rfl) (by kernel_rfl), cut_make _ r h, cut_lifts _ r h]
 exact of_decide_eq_true (by kernel_rfl)
theorem over : Rows.fnExactFlatFunctionRow.holds Tryz.pinned (OpenSpec.ofChange Rows.fnExactFlatFunctionSpec) :=
 OpenClaim.holds_of_wide 4 Tryz.f4 rfl rfl rfl rfl rfl rfl rfl ⟨rfl, rfl, rfl, rfl, rfl⟩ rfl rfl rfl rfl rfl (by kernel_rfl) Tryz.func4 closed
  (of_decide_eq_true (by kernel_rfl)) (by unfold Func.isWrapper; first | (rw [if_pos (by decide +kernel)]; kernel_rfl) | (rw [if_neg (by decide +kernel)]; exact ⟨rfl, rfl⟩))
  (fun os started H enc _ => lifted os started H enc)
theorem proved : Rows.FnExactFlatFunctionSaid := over
#print axioms proved
end Go.Proofs.YtniikppojffiaaaGreat.fnExactFlatFunction
namespace Go.Proofs.YtniikppojffiaaaGreat
theorem fnExactFlatFunction_holds : Rows.FnExactFlatFunctionSaid := fnExactFlatFunction.proved
end Go.Proofs.YtniikppojffiaaaGreat
end
