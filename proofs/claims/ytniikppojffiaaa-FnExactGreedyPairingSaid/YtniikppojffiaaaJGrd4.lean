/- Texts of this work, put together by its pack.py. No conditions. -/
import Derived.Test.YtniikppojffiaaaJGrd3
import Derived.Below
import Derived.Deep.Draws
import Derived.Deep.AppendLies
import Derived.Maps.AppendAt
import Derived.OwnWalk
import Derived.Laws.BytesArg
import Derived.Laws.MakeOwn
import Derived.Laws.OwnMore
import Derived.Deep.OwnRows
import Derived.Tactics
import Derived.Lib.ConvBytes
import Derived.Laws.Slices
import Derived.WalkKit
import Derived.KernelRfl
import Derived.RowKit3
import Derived.Deep.LoopGhost
import Derived.Deep.QuietTactic
import Derived.BigQuiet
import Derived.WideLaws
import Derived.Deep.DeepCutAuto
import Derived.Deep.CutBlock
import Derived.Deep.RegionHeld3
import Derived.Laws.Rows
import Derived.Lib.AppendStr
import Derived.ArgAppend
import Derived.Laws.IdiomCopy
import Derived.RowKit
import Derived.OrdersHeld
import Derived.Laws.BitsLemmas
import Derived.Laws.StructEq
import Derived.Test.YtniikppojffiaaaProg
import Derived.Shelf.Abstract
import Derived.RangeFuncBox
import Derived.RangeFuncLeaves
import Derived.OwnWalkIn
import Derived.TacticsInMore
import Derived.LoopNIn
import Derived.LoopIn
import Derived.LoopN
import Derived.Lib.SliceRun
import Derived.Maps.OwnSet
import Derived.Lib.SlKeysI
section
/- Written by a program of this session (myprint.py over the kit's print). -/
namespace Go.Proofs.Ytniikppojffiaaa.Q
open Go.RowKit Go.Proofs.YtniikppojffiaaaW.PrintWords Go.Proofs.YtniikppojffiaaaW.PrintLast Go.Proofs.YtniikppojffiaaaW.PrintMore
attribute [local go_sem] max2_int min2_int max_two min_two max_three min_three max_four min_four   -- for this text's walks alone
set_option linter.unusedVariables false
set_option linter.unusedSimpArgs false

/-! ### bits_OnesCount64: function 160 -/
def bits_OnesCount64.f (a0 : Int) : Option (Int) := some (Go.bits .and .i64 (wrap64 (IntKind.u64.wrap ((IntKind.u64.wrap ((IntKind.u64.wrap ((Go.bits .and .u64 (IntKind.u64.wrap (((IntKind.u64.wrap ((Go.bits .and .u64 ((IntKind.u64.wrap ((Go.bits .and .u64 (a0 / 2) 6148914691236517205) + (Go.bits .and .u64 a0 6148914691236517205))) / 4) 3689348814741910323) + (Go.bits .and .u64 (IntKind.u64.wrap ((Go.bits .and .u64 (a0 / 2) 6148914691236517205) + (Go.bits .and .u64 a0 6148914691236517205))) 3689348814741910323))) / 16) + (IntKind.u64.wrap ((Go.bits .and .u64 ((IntKind.u64.wrap ((Go.bits .and .u64 (a0 / 2) 6148914691236517205) + (Go.bits .and .u64 a0 6148914691236517205))) / 4) 3689348814741910323) + (Go.bits .and .u64 (IntKind.u64.wrap ((Go.bits .and .u64 (a0 / 2) 6148914691236517205) + (Go.bits .and .u64 a0 6148914691236517205))) 3689348814741910323))))) 1085102592571150095) + ((Go.bits .and .u64 (IntKind.u64.wrap (((IntKind.u64.wrap ((Go.bits .and .u64 ((IntKind.u64.wrap ((Go.bits .and .u64 (a0 / 2) 6148914691236517205) + (Go.bits .and .u64 a0 6148914691236517205))) / 4) 3689348814741910323) + (Go.bits .and .u64 (IntKind.u64.wrap ((Go.bits .and .u64 (a0 / 2) 6148914691236517205) + (Go.bits .and .u64 a0 6148914691236517205))) 3689348814741910323))) / 16) + (IntKind.u64.wrap ((Go.bits .and .u64 ((IntKind.u64.wrap ((Go.bits .and .u64 (a0 / 2) 6148914691236517205) + (Go.bits .and .u64 a0 6148914691236517205))) / 4) 3689348814741910323) + (Go.bits .and .u64 (IntKind.u64.wrap ((Go.bits .and .u64 (a0 / 2) 6148914691236517205) + (Go.bits .and .u64 a0 6148914691236517205))) 3689348814741910323))))) 1085102592571150095) / 256))) + ((IntKind.u64.wrap ((Go.bits .and .u64 (IntKind.u64.wrap (((IntKind.u64.wrap ((Go.bits .and .u64 ((IntKind.u64.wrap ((Go.bits .and .u64 (a0 / 2) 6148914691236517205) + (Go.bits .and .u64 a0 6148914691236517205))) / 4) 3689348814741910323) + (Go.bits .and .u64 (IntKind.u64.wrap ((Go.bits .and .u64 (a0 / 2) 6148914691236517205) + (Go.bits .and .u64 a0 6148914691236517205))) 3689348814741910323))) / 16) + (IntKind.u64.wrap ((Go.bits .and .u64 ((IntKind.u64.wrap ((Go.bits .and .u64 (a0 / 2) 6148914691236517205) + (Go.bits .and .u64 a0 6148914691236517205))) / 4) 3689348814741910323) + (Go.bits .and .u64 (IntKind.u64.wrap ((Go.bits .and .u64 (a0 / 2) 6148914691236517205) + (Go.bits .and .u64 a0 6148914691236517205))) 3689348814741910323))))) 1085102592571150095) + ((Go.bits .and .u64 (IntKind.u64.wrap (((IntKind.u64.wrap ((Go.bits .and .u64 ((IntKind.u64.wrap ((Go.bits .and .u64 (a0 / 2) 6148914691236517205) + (Go.bits .and .u64 a0 6148914691236517205))) / 4) 3689348814741910323) + (Go.bits .and .u64 (IntKind.u64.wrap ((Go.bits .and .u64 (a0 / 2) 6148914691236517205) + (Go.bits .and .u64 a0 6148914691236517205))) 3689348814741910323))) / 16) + (IntKind.u64.wrap ((Go.bits .and .u64 ((IntKind.u64.wrap ((Go.bits .and .u64 (a0 / 2) 6148914691236517205) + (Go.bits .and .u64 a0 6148914691236517205))) / 4) 3689348814741910323) + (Go.bits .and .u64 (IntKind.u64.wrap ((Go.bits .and .u64 (a0 / 2) 6148914691236517205) + (Go.bits .and .u64 a0 6148914691236517205))) 3689348814741910323))))) 1085102592571150095) / 256))) / 65536))) + ((IntKind.u64.wrap ((IntKind.u64.wrap ((Go.bits .and .u64 (IntKind.u64.wrap (((IntKind.u64.wrap ((Go.bits .and .u64 ((IntKind.u64.wrap ((Go.bits .and .u64 (a0 / 2) 6148914691236517205) + (Go.bits .and .u64 a0 6148914691236517205))) / 4) 3689348814741910323) + (Go.bits .and .u64 (IntKind.u64.wrap ((Go.bits .and .u64 (a0 / 2) 6148914691236517205) + (Go.bits .and .u64 a0 6148914691236517205))) 3689348814741910323))) / 16) + (IntKind.u64.wrap ((Go.bits .and .u64 ((IntKind.u64.wrap ((Go.bits .and .u64 (a0 / 2) 6148914691236517205) + (Go.bits .and .u64 a0 6148914691236517205))) / 4) 3689348814741910323) + (Go.bits .and .u64 (IntKind.u64.wrap ((Go.bits .and .u64 (a0 / 2) 6148914691236517205) + (Go.bits .and .u64 a0 6148914691236517205))) 3689348814741910323))))) 1085102592571150095) + ((Go.bits .and .u64 (IntKind.u64.wrap (((IntKind.u64.wrap ((Go.bits .and .u64 ((IntKind.u64.wrap ((Go.bits .and .u64 (a0 / 2) 6148914691236517205) + (Go.bits .and .u64 a0 6148914691236517205))) / 4) 3689348814741910323) + (Go.bits .and .u64 (IntKind.u64.wrap ((Go.bits .and .u64 (a0 / 2) 6148914691236517205) + (Go.bits .and .u64 a0 6148914691236517205))) 3689348814741910323))) / 16) + (IntKind.u64.wrap ((Go.bits .and .u64 ((IntKind.u64.wrap ((Go.bits .and .u64 (a0 / 2) 6148914691236517205) + (Go.bits .and .u64 a0 6148914691236517205))) / 4) 3689348814741910323) + (Go.bits .and .u64 (IntKind.u64.wrap ((Go.bits .and .u64 (a0 / 2) 6148914691236517205) + (Go.bits .and .u64 a0 6148914691236517205))) 3689348814741910323))))) 1085102592571150095) / 256))) + ((IntKind.u64.wrap ((Go.bits .and .u64 (IntKind.u64.wrap (((IntKind.u64.wrap ((Go.bits .and .u64 ((IntKind.u64.wrap ((Go.bits .and .u64 (a0 / 2) 6148914691236517205) + (Go.bits .and .u64 a0 6148914691236517205))) / 4) 3689348814741910323) + (Go.bits .and .u64 (IntKind.u64.wrap ((Go.bits .and .u64 (a0 / 2) 6148914691236517205) + (Go.bits .and .u64 a0 6148914691236517205))) 3689348814741910323))) / 16) + (IntKind.u64.wrap ((Go.bits .and .u64 ((IntKind.u64.wrap ((Go.bits .and .u64 (a0 / 2) 6148914691236517205) + (Go.bits .and .u64 a0 6148914691236517205))) / 4) 3689348814741910323) + (Go.bits .and .u64 (IntKind.u64.wrap ((Go.bits .and .u64 (a0 / 2) 6148914691236517205) + (Go.bits .and .u64 a0 6148914691236517205))) 3689348814741910323))))) 1085102592571150095) + ((Go.bits .and .u64 (IntKind.u64.wrap (((IntKind.u64.wrap ((Go.bits .and .u64 ((IntKind.u64.wrap ((Go.bits .and .u64 (a0 / 2) 6148914691236517205) + (Go.bits .and .u64 a0 6148914691236517205))) / 4) 3689348814741910323) + (Go.bits .and .u64 (IntKind.u64.wrap ((Go.bits .and .u64 (a0 / 2) 6148914691236517205) + (Go.bits .and .u64 a0 6148914691236517205))) 3689348814741910323))) / 16) + (IntKind.u64.wrap ((Go.bits .and .u64 ((IntKind.u64.wrap ((Go.bits .and .u64 (a0 / 2) 6148914691236517205) + (Go.bits .and .u64 a0 6148914691236517205))) / 4) 3689348814741910323) + (Go.bits .and .u64 (IntKind.u64.wrap ((Go.bits .and .u64 (a0 / 2) 6148914691236517205) + (Go.bits .and .u64 a0 6148914691236517205))) 3689348814741910323))))) 1085102592571150095) / 256))) / 65536))) / 4294967296)))) 127)
set_option maxHeartbeats 8000000 in
set_option maxRecDepth 100000 in
theorem bits_OnesCount64.calls (a0 : Int) (r : Int) (w : World) (h : bits_OnesCount64.f a0 = some r) :
  Calls Try.prog 160 #[.int .u64 a0] w fun e w' => e = .returned (.int .i64 r) ∧ Drawn0 w w' := by
 have H : (some (Go.bits .and .i64 (wrap64 (IntKind.u64.wrap ((IntKind.u64.wrap ((IntKind.u64.wrap ((Go.bits .and .u64 (IntKind.u64.wrap (((IntKind.u64.wrap ((Go.bits .and .u64 ((IntKind.u64.wrap ((Go.bits .and .u64 (a0 / 2) 6148914691236517205) + (Go.bits .and .u64 a0 6148914691236517205))) / 4) 3689348814741910323) + (Go.bits .and .u64 (IntKind.u64.wrap ((Go.bits .and .u64 (a0 / 2) 6148914691236517205) + (Go.bits .and .u64 a0 6148914691236517205))) 3689348814741910323))) / 16) + (IntKind.u64.wrap ((Go.bits .and .u64 ((IntKind.u64.wrap ((Go.bits .and .u64 (a0 / 2) 6148914691236517205) + (Go.bits .and .u64 a0 6148914691236517205))) / 4) 3689348814741910323) + (Go.bits .and .u64 (IntKind.u64.wrap ((Go.bits .and .u64 (a0 / 2) 6148914691236517205) + (Go.bits .and .u64 a0 6148914691236517205))) 3689348814741910323))))) 1085102592571150095) + ((Go.bits .and .u64 (IntKind.u64.wrap (((IntKind.u64.wrap ((Go.bits .and .u64 ((IntKind.u64.wrap ((Go.bits .and .u64 (a0 / 2) 6148914691236517205) + (Go.bits .and .u64 a0 6148914691236517205))) / 4) 3689348814741910323) + (Go.bits .and .u64 (IntKind.u64.wrap ((Go.bits .and .u64 (a0 / 2) 6148914691236517205) + (Go.bits .and .u64 a0 6148914691236517205))) 3689348814741910323))) / 16) + (IntKind.u64.wrap ((Go.bits .and .u64 ((IntKind.u64.wrap ((Go.bits .and .u64 (a0 / 2) 6148914691236517205) + (Go.bits .and .u64 a0 6148914691236517205))) / 4) 3689348814741910323) + (Go.bits .and .u64 (IntKind.u64.wrap ((Go.bits .and .u64 (a0 / 2) 6148914691236517205) + (Go.bits .and .u64 a0 6148914691236517205))) 3689348814741910323))))) 1085102592571150095) / 256))) + ((IntKind.u64.wrap ((Go.bits .and .u64 (IntKind.u64.wrap (((IntKind.u64.wrap ((Go.bits .and .u64 ((IntKind.u64.wrap ((Go.bits .and .u64 (a0 / 2) 6148914691236517205) + (Go.bits .and .u64 a0 6148914691236517205))) / 4) 3689348814741910323) + (Go.bits .and .u64 (IntKind.u64.wrap ((Go.bits .and .u64 (a0 / 2) 6148914691236517205) + (Go.bits .and .u64 a0 6148914691236517205))) 3689348814741910323))) / 16) + (IntKind.u64.wrap ((Go.bits .and .u64 ((IntKind.u64.wrap ((Go.bits .and .u64 (a0 / 2) 6148914691236517205) + (Go.bits .and .u64 a0 6148914691236517205))) / 4) 3689348814741910323) + (Go.bits .and .u64 (IntKind.u64.wrap ((Go.bits .and .u64 (a0 / 2) 6148914691236517205) + (Go.bits .and .u64 a0 6148914691236517205))) 3689348814741910323))))) 1085102592571150095) + ((Go.bits .and .u64 (IntKind.u64.wrap (((IntKind.u64.wrap ((Go.bits .and .u64 ((IntKind.u64.wrap ((Go.bits .and .u64 (a0 / 2) 6148914691236517205) + (Go.bits .and .u64 a0 6148914691236517205))) / 4) 3689348814741910323) + (Go.bits .and .u64 (IntKind.u64.wrap ((Go.bits .and .u64 (a0 / 2) 6148914691236517205) + (Go.bits .and .u64 a0 6148914691236517205))) 3689348814741910323))) / 16) + (IntKind.u64.wrap ((Go.bits .and .u64 ((IntKind.u64.wrap ((Go.bits .and .u64 (a0 / 2) 6148914691236517205) + (Go.bits .and .u64 a0 6148914691236517205))) / 4) 3689348814741910323) + (Go.bits .and .u64 (IntKind.u64.wrap ((Go.bits .and .u64 (a0 / 2) 6148914691236517205) + (Go.bits .and .u64 a0 6148914691236517205))) 3689348814741910323))))) 1085102592571150095) / 256))) / 65536))) + ((IntKind.u64.wrap ((IntKind.u64.wrap ((Go.bits .and .u64 (IntKind.u64.wrap (((IntKind.u64.wrap ((Go.bits .and .u64 ((IntKind.u64.wrap ((Go.bits .and .u64 (a0 / 2) 6148914691236517205) + (Go.bits .and .u64 a0 6148914691236517205))) / 4) 3689348814741910323) + (Go.bits .and .u64 (IntKind.u64.wrap ((Go.bits .and .u64 (a0 / 2) 6148914691236517205) + (Go.bits .and .u64 a0 6148914691236517205))) 3689348814741910323))) / 16) + (IntKind.u64.wrap ((Go.bits .and .u64 ((IntKind.u64.wrap ((Go.bits .and .u64 (a0 / 2) 6148914691236517205) + (Go.bits .and .u64 a0 6148914691236517205))) / 4) 3689348814741910323) + (Go.bits .and .u64 (IntKind.u64.wrap ((Go.bits .and .u64 (a0 / 2) 6148914691236517205) + (Go.bits .and .u64 a0 6148914691236517205))) 3689348814741910323))))) 1085102592571150095) + ((Go.bits .and .u64 (IntKind.u64.wrap (((IntKind.u64.wrap ((Go.bits .and .u64 ((IntKind.u64.wrap ((Go.bits .and .u64 (a0 / 2) 6148914691236517205) + (Go.bits .and .u64 a0 6148914691236517205))) / 4) 3689348814741910323) + (Go.bits .and .u64 (IntKind.u64.wrap ((Go.bits .and .u64 (a0 / 2) 6148914691236517205) + (Go.bits .and .u64 a0 6148914691236517205))) 3689348814741910323))) / 16) + (IntKind.u64.wrap ((Go.bits .and .u64 ((IntKind.u64.wrap ((Go.bits .and .u64 (a0 / 2) 6148914691236517205) + (Go.bits .and .u64 a0 6148914691236517205))) / 4) 3689348814741910323) + (Go.bits .and .u64 (IntKind.u64.wrap ((Go.bits .and .u64 (a0 / 2) 6148914691236517205) + (Go.bits .and .u64 a0 6148914691236517205))) 3689348814741910323))))) 1085102592571150095) / 256))) + ((IntKind.u64.wrap ((Go.bits .and .u64 (IntKind.u64.wrap (((IntKind.u64.wrap ((Go.bits .and .u64 ((IntKind.u64.wrap ((Go.bits .and .u64 (a0 / 2) 6148914691236517205) + (Go.bits .and .u64 a0 6148914691236517205))) / 4) 3689348814741910323) + (Go.bits .and .u64 (IntKind.u64.wrap ((Go.bits .and .u64 (a0 / 2) 6148914691236517205) + (Go.bits .and .u64 a0 6148914691236517205))) 3689348814741910323))) / 16) + (IntKind.u64.wrap ((Go.bits .and .u64 ((IntKind.u64.wrap ((Go.bits .and .u64 (a0 / 2) 6148914691236517205) + (Go.bits .and .u64 a0 6148914691236517205))) / 4) 3689348814741910323) + (Go.bits .and .u64 (IntKind.u64.wrap ((Go.bits .and .u64 (a0 / 2) 6148914691236517205) + (Go.bits .and .u64 a0 6148914691236517205))) 3689348814741910323))))) 1085102592571150095) + ((Go.bits .and .u64 (IntKind.u64.wrap (((IntKind.u64.wrap ((Go.bits .and .u64 ((IntKind.u64.wrap ((Go.bits .and .u64 (a0 / 2) 6148914691236517205) + (Go.bits .and .u64 a0 6148914691236517205))) / 4) 3689348814741910323) + (Go.bits .and .u64 (IntKind.u64.wrap ((Go.bits .and .u64 (a0 / 2) 6148914691236517205) + (Go.bits .and .u64 a0 6148914691236517205))) 3689348814741910323))) / 16) + (IntKind.u64.wrap ((Go.bits .and .u64 ((IntKind.u64.wrap ((Go.bits .and .u64 (a0 / 2) 6148914691236517205) + (Go.bits .and .u64 a0 6148914691236517205))) / 4) 3689348814741910323) + (Go.bits .and .u64 (IntKind.u64.wrap ((Go.bits .and .u64 (a0 / 2) 6148914691236517205) + (Go.bits .and .u64 a0 6148914691236517205))) 3689348814741910323))))) 1085102592571150095) / 256))) / 65536))) / 4294967296)))) 127)) = some r := h
 clear h
 obtain rfl := Option.some.inj H
 go_enter Try.func160, Try.ntmps160
 go_wp2
 go_ret
 exact ⟨by first | rfl | (simp; done) | (simp [*]; done), by repeat (first | exact Drawn0.refl _ | apply Drawn0.step)⟩

/-! ### impl_size: function 132 -/
def impl_size.f (a0 : Int) : Option (Int) := (bits_OnesCount64.f (IntKind.u64.wrap (a0))).bind fun t609 => (some t609)
set_option maxHeartbeats 8000000 in
set_option maxRecDepth 100000 in
theorem impl_size.calls (a0 : Int) (r : Int) (w : World) (h : impl_size.f a0 = some r) :
  Calls Try.prog 132 #[.int .i64 a0] w fun e w' => e = .returned (.int .i64 r) ∧ Drawn0 w w' := by
 have H : ((bits_OnesCount64.f (IntKind.u64.wrap (a0))).bind fun t609 => (some t609)) = some r := h
 clear h
 replace H := Option.bind_eq_some_iff.mp H
 obtain ⟨t609, A20, H⟩ := H
 replace H : (some t609) = some r := H
 have A2 := Aside0.mk A20
 clear A20
 obtain rfl := Option.some.inj H
 go_enter Try.func132, Try.ntmps132
 go_wp2_with (first | ((with_reducible refine gate_callee (f := 160) rfl ?_); refine goesL_ (some 5) rfl rfl Try.func160 (by kernel_rfl) rfl #[.int .u64 (IntKind.u64.wrap (a0))] rfl (by (try simp only [List.map_toArray, List.map_cons, List.map_nil]); first | done | rfl | (simp only [List.length_drop, List.length_take]; rfl)) ?_; (with_reducible refine (bits_OnesCount64.calls (IntKind.u64.wrap (a0)) t609 _ A2.out).mono ?_); rintro e w' ⟨rfl, ⟨nd, rfl⟩⟩; refine ⟨_, rfl, ?_⟩))
 go_ret
 exact ⟨by first | rfl | (simp; done) | (simp [*]; done), by repeat (first | exact Drawn0.refl _ | apply Drawn0.step)⟩

/-! ### impl_dimension: function 119 -/
/-! ### impl_Complex_dimension: function 118 -/
end Go.Proofs.Ytniikppojffiaaa.Q
end

section
/- The dimension of a face. -/
namespace Go.Proofs.Ytniikppojffiaaa.K
open Go.RowKit Go.Shelf Go.Proofs.Ytniikppojffiaaa.Q Go.Proofs.YtniikppojffiaaaW.PrintWords Go.Proofs.YtniikppojffiaaaW.PrintLast Go.Proofs.YtniikppojffiaaaW.PrintMore
set_option linter.unusedVariables false
set_option linter.unusedSimpArgs false

/-- The number of a face's vertices, and its dimension. -/
def onesI (f : Int) : Int := f % 2 + f / 2 % 2 + f / 4 % 2 + f / 8 % 2 + f / 16 % 2 + f / 32 % 2
theorem ones_le (f : Int) : 0 ≤ onesI f ∧ onesI f ≤ 6 := by unfold onesI; omega
end Go.Proofs.Ytniikppojffiaaa.K
end

section
/- Faces of a complex: numbers 1 to 63, ascending; rows of sets that are as told. -/
namespace Go.Proofs.Ytniikppojffiaaa.K
open Go.RowKit Go.Shelf Go.Proofs.YtniikppojffiaaaW.PrintWords Go.Proofs.YtniikppojffiaaaW.PrintLast Go.Proofs.YtniikppojffiaaaW.PrintMore
set_option linter.unusedVariables false
set_option linter.unusedSimpArgs false

/-- An ascending row of numbers 1 to N has at most N of them. -/
theorem asc_get (l : List Int) (hs : l.Pairwise (· < ·)) (h1 : ∀ x ∈ l, 1 ≤ x) : ∀ i (h : i < l.length), (i : Int) + 1 ≤ l[i] := by
 intro i
 induction i with
 | zero => intro h; have := h1 _ (List.getElem_mem h); omega
 | succ i ih =>
  intro h
  have h2 := ih (by omega)
  have h3 := List.pairwise_iff_getElem.1 hs i (i + 1) (by omega) h (by omega)
  omega
theorem asc_length (l : List Int) (N : Nat) (hs : l.Pairwise (· < ·)) (h1 : ∀ x ∈ l, 1 ≤ x ∧ x ≤ (N : Int)) : l.length ≤ N := by
 rcases Nat.eq_zero_or_pos l.length with h | h
 ·omega
 ·have h2 := asc_get l hs (fun x hx => (h1 x hx).1) (l.length - 1) (by omega)
  have h3 := h1 _ (List.getElem_mem (show l.length - 1 < l.length by omega))
  omega
/-- What a complex's faces are: numbers 1 to 63, ascending. -/
theorem isC_faces {n : Int} {l : List Int} (h : isC n l = true) : (1 ≤ n ∧ n ≤ 6) ∧ l.Pairwise (· < ·) ∧ (∀ x ∈ l, 1 ≤ x ∧ x ≤ fullOf n ∧ x ≤ 63) ∧ l.length ≤ 63 := by
 have hn := isC_size h
 have hF := full_range n hn
 unfold isC at h
 simp only [Bool.and_eq_true, decide_eq_true_eq, rangeAsc] at h
 obtain ⟨_, hg, _⟩ := h
 have hr : ∀ x ∈ l, 1 ≤ x ∧ x ≤ fullOf n ∧ x ≤ 63 := by
  intro x hx
  obtain ⟨i, hi, rfl⟩ := List.mem_iff_getElem.1 hx
  have := hg i hi hi
  omega
 have hs : l.Pairwise (· < ·) := by
  rw [List.pairwise_iff_getElem]
  intro i j hi hj hij
  induction j with
  | zero => omega
  | succ j ih =>
   have h1 := (hg (j + 1) hj hj).2.2 (by omega)
   simp only [Nat.add_sub_cancel] at h1
   rcases Nat.lt_or_ge i j with h2 | h2
   ·have := ih (by omega) h2
    omega
   ·obtain rfl : i = j := by omega
    exact h1
 exact ⟨hn, hs, hr, asc_length l 63 hs (fun x hx => ⟨(hr x hx).1, (hr x hx).2.2⟩)⟩

end Go.Proofs.Ytniikppojffiaaa.K
end

section
/- A complex has a face just where the face is in its list; sizes. -/
namespace Go.Proofs.Ytniikppojffiaaa.K
open Go.RowKit Go.Shelf Go.Proofs.Ytniikppojffiaaa.Q Go.Proofs.YtniikppojffiaaaW.PrintWords Go.Proofs.YtniikppojffiaaaW.PrintLast Go.Proofs.YtniikppojffiaaaW.PrintMore
set_option linter.unusedVariables false
set_option linter.unusedSimpArgs false

theorem has_mem {l : List Int} {n : Int} (hi : isC n l = true) {f : Int} (h : hasB l f = true) : f ∈ l ∧ 1 ≤ f ∧ f ≤ 63 := by
 obtain ⟨hn, hs, hr, h63⟩ := isC_faces hi
 have h2 : f ∈ l := by
  rw [has_asc l f (by omega) hs] at h
  exact of_decide_eq_true h
 have := hr f h2
 exact ⟨h2, by omega, by omega⟩
theorem mem_has {l : List Int} {n : Int} (hi : isC n l = true) {f : Int} (h : f ∈ l) : hasB l f = true := by
 obtain ⟨hn, hs, hr, h63⟩ := isC_faces hi
 rw [has_asc l f (by omega) hs]
 exact decide_eq_true h
theorem wf_face {x : Int} (h0 : 1 ≤ x) (h1 : x ≤ 63) : (Lit.int .i64 x).wf = true := WalkArith.wf_i64 (by omega)
theorem size_64 : ∀ m : Fin 64, impl_size.f (m.val : Int) = some (onesI (m.val : Int)) := by decide +kernel
theorem size_is (f : Int) (h0 : 0 ≤ f) (h1 : f ≤ 63) : impl_size.f f = some (onesI f) := by
 obtain ⟨m, rfl⟩ := Int.eq_ofNat_of_zero_le h0
 exact size_64 ⟨m, by omega⟩

end Go.Proofs.Ytniikppojffiaaa.K
end

section
/- Written by a program of this session (myprint.py over the kit's print). -/
namespace Go.Proofs.Ytniikppojffiaaa.Q
open Go.RowKit Go.Proofs.YtniikppojffiaaaW.PrintWords Go.Proofs.YtniikppojffiaaaW.PrintLast Go.Proofs.YtniikppojffiaaaW.PrintMore
attribute [local go_sem] max2_int min2_int max_two min_two max_three min_three max_four min_four   -- for this text's walks alone
set_option linter.unusedVariables false
set_option linter.unusedSimpArgs false

/-! ### impl_Complex_isPair: function 88 -/
def impl_Complex_isPair.f (k : Nat) (a0_0 : Int) (l0_1 : List Int) (a1_0 : Int) (a1_1 : Int) : Option (Bool) := (impl_Complex_has.f k a0_0 l0_1 a1_0).bind fun t616 => (if t616 = true then ((impl_Complex_has.f k a0_0 l0_1 a1_1).bind fun t617 => (if t617 = true then ((impl_isIn.f a1_0 a1_1).bind fun t618 => (if t618 = true then ((impl_size.f a1_1).bind fun t619 => ((impl_size.f a1_0).bind fun t620 => (some (t619 == (wrap64 (t620 + 1)))))) else (some false))) else (some false))) else (some false))
theorem impl_Complex_isPair.mono : ∀ a0 a1 a2 a3 k, LeO (impl_Complex_isPair.f k a0 a1 a2 a3) (impl_Complex_isPair.f (k + 1) a0 a1 a2 a3) := by
 intro a0 a1 a2 a3 k
 unfold impl_Complex_isPair.f
 repeat' first
   | (with_reducible exact impl_Complex_has.mono _ _ _ _)
   | (with_reducible exact LeO.refl _)
   | (with_reducible exact LeO.none _)
   | (with_reducible refine LeO.ite ?_ ?_)
   | (with_reducible refine LeO.bind ?_ (fun _ => ?_))
   | exact impl_Complex_has.mono _ _ _ _
   | exact LeO.none _
   | refine LeO.ite ?_ ?_
   | refine LeO.bind ?_ (fun _ => ?_)
def impl_Complex_isPair.T1 : Bool × List (List Nat × List Nat) := (true, [([], []), ([], []), ([1], [1]), ([0, 2], [0, 2]), ([3, 3], [3]), ([4], [4]), ([4], [4]), ([6, 4], [4, 6]), ([5, 7, 4, 4], [4, 5, 7]), ([4, 8], [4, 8]), ([9, 8], [9]), ([10], [10]), ([11, 10], [10, 11]), ([10], [10]), ([13, 10], [10, 13]), ([12, 14, 10, 10], [10, 12, 14]), ([10, 15], [10, 15]), ([16, 15], [16]), ([17], [17]), ([18, 17], [17, 18]), ([19, 17, 17], [17, 19]), ([17], [17]), ([21, 17], [17, 21]), ([22, 20, 17], [17, 22]), ([23, 17], [17, 23]), ([20, 24, 17], [17, 20, 24]), ([17, 25], [17, 25]), ([26, 23, 0, 1, 2, 3, 4, 5, 6, 7, 8, 9, 10, 11, 12, 13, 14, 15, 16, 17, 18, 19, 20, 21, 22, 23, 24, 25, 26], [26])])
def impl_Complex_isPair.B1 : List Nat := [0, 0, 2, 7, 15, 31, 31, 95, 255, 511, 1023, 2047, 4095, 2047, 10239, 32767, 65535, 131071, 262143, 524287, 1048575, 262143, 2359295, 8388607, 16777215, 33554431, 67108863, 134217727]
theorem impl_Complex_isPair.tab1 : rtab .any (opsOf Try.f88 1) = impl_Complex_isPair.T1 := by kernel_rfl
theorem impl_Complex_isPair.bits1 : waitsOk impl_Complex_isPair.T1.2 impl_Complex_isPair.B1 = true := by kernel_rfl
set_option maxHeartbeats 8000000 in
set_option maxRecDepth 100000 in
theorem impl_Complex_isPair.calls (k : Nat) (a0_0 : Int) (A0_1 : Option Addr) (c0_1 : Nat) (l0_1 : List Int) (a1_0 : Int) (a1_1 : Int) (r : Bool) (w : World) (hr0_1 : Kd.C (Kd.int .i64) w A0_1 l0_1.length l0_1) (hc0_1 : l0_1.length ≤ c0_1) (h : impl_Complex_isPair.f k a0_0 l0_1 a1_0 a1_1 = some r) :
  Calls Try.prog 88 #[.agg #[.int .i64 a0_0, .slice A0_1 l0_1.length c0_1], .agg #[.int .i64 a1_0, .int .i64 a1_1]] w fun e w' => e = .returned (.bool r) ∧ Below w.heap.size w w' := by
 have hu30 := Try.underlying30
 have hu53 := Try.underlying53
 have HR0_1 := Aside0.mk hr0_1
 have HC0_1 := Aside0.mk hc0_1
 clear hr0_1 hc0_1
 have HB := Aside0.mk (Below.refl w.heap.size w)
 have H : ((impl_Complex_has.f k a0_0 l0_1 a1_0).bind fun t616 => (if t616 = true then ((impl_Complex_has.f k a0_0 l0_1 a1_1).bind fun t617 => (if t617 = true then ((impl_isIn.f a1_0 a1_1).bind fun t618 => (if t618 = true then ((impl_size.f a1_1).bind fun t619 => ((impl_size.f a1_0).bind fun t620 => (some (t619 == (wrap64 (t620 + 1)))))) else (some false))) else (some false))) else (some false))) = some r := h
 clear h
 replace H := Option.bind_eq_some_iff.mp H
 obtain ⟨t616, A30, H⟩ := H
 replace H : (if t616 = true then ((impl_Complex_has.f k a0_0 l0_1 a1_1).bind fun t617 => (if t617 = true then ((impl_isIn.f a1_0 a1_1).bind fun t618 => (if t618 = true then ((impl_size.f a1_1).bind fun t619 => ((impl_size.f a1_0).bind fun t620 => (some (t619 == (wrap64 (t620 + 1)))))) else (some false))) else (some false))) else (some false)) = some r := H
 have A3 := Aside0.mk A30
 clear A30
 by_cases c4 : t616 = true
 ·subst c4
  have H1 : ((impl_Complex_has.f k a0_0 l0_1 a1_1).bind fun t617 => (if t617 = true then ((impl_isIn.f a1_0 a1_1).bind fun t618 => (if t618 = true then ((impl_size.f a1_1).bind fun t619 => ((impl_size.f a1_0).bind fun t620 => (some (t619 == (wrap64 (t620 + 1)))))) else (some false))) else (some false))) = some r := by rw [if_pos rfl] at H; exact H
  clear H
  have H := H1
  clear H1
  replace H := Option.bind_eq_some_iff.mp H
  obtain ⟨t617, A50, H⟩ := H
  replace H : (if t617 = true then ((impl_isIn.f a1_0 a1_1).bind fun t618 => (if t618 = true then ((impl_size.f a1_1).bind fun t619 => ((impl_size.f a1_0).bind fun t620 => (some (t619 == (wrap64 (t620 + 1)))))) else (some false))) else (some false)) = some r := H
  have A5 := Aside0.mk A50
  clear A50
  by_cases c6 : t617 = true
  ·subst c6
   have H1 : ((impl_isIn.f a1_0 a1_1).bind fun t618 => (if t618 = true then ((impl_size.f a1_1).bind fun t619 => ((impl_size.f a1_0).bind fun t620 => (some (t619 == (wrap64 (t620 + 1)))))) else (some false))) = some r := by rw [if_pos rfl] at H; exact H
   clear H
   have H := H1
   clear H1
   replace H := Option.bind_eq_some_iff.mp H
   obtain ⟨t618, A70, H⟩ := H
   replace H : (if t618 = true then ((impl_size.f a1_1).bind fun t619 => ((impl_size.f a1_0).bind fun t620 => (some (t619 == (wrap64 (t620 + 1)))))) else (some false)) = some r := H
   have A7 := Aside0.mk A70
   clear A70
   by_cases c8 : t618 = true
   ·subst c8
    have H1 : ((impl_size.f a1_1).bind fun t619 => ((impl_size.f a1_0).bind fun t620 => (some (t619 == (wrap64 (t620 + 1)))))) = some r := by rw [if_pos rfl] at H; exact H
    clear H
    have H := H1
    clear H1
    replace H := Option.bind_eq_some_iff.mp H
    obtain ⟨t619, A90, H⟩ := H
    replace H : ((impl_size.f a1_0).bind fun t620 => (some (t619 == (wrap64 (t620 + 1))))) = some r := H
    have A9 := Aside0.mk A90
    clear A90
    replace H := Option.bind_eq_some_iff.mp H
    obtain ⟨t620, A100, H⟩ := H
    replace H : (some (t619 == (wrap64 (t620 + 1)))) = some r := H
    have A10 := Aside0.mk A100
    clear A100
    obtain rfl := Option.some.inj H
    go_enter Try.func88, Try.ntmps88
    try go_wp2_with (first | ((with_reducible refine gate_dst (N := 2) rfl ?_); refine box_event ?hg (N := 2) ?hd (cs := #[.int .i64 a0_0, .slice A0_1 l0_1.length c0_1]) (t := 30) ?hr ?_; (case hd => rfl); (case hg => rfl); (case hr => first | (go_simp; done) | (go_simp; rfl)); intro gb614 hg w11 hbox hb; have n0_ := Aside0.mk (below_step (by repeat (first | (with_reducible first | exact HB.out | apply below_alloc | apply pw_below_drewN | apply below_drew1) | exact HB.out)) hb); have n1_ := Aside0.mk (hbox); have n2_ := Aside0.mk ((by rw [hg]; exact (below_size (by repeat (first | (with_reducible first | exact HB.out | apply below_alloc | apply pw_below_drewN | apply below_drew1) | exact HB.out))) : w.heap.size ≤ gb614)); have n3_ := Aside0.mk ((by rw [hg]; exact (below_size (by repeat (first | (with_reducible first | exact HB.out | apply below_alloc | apply pw_below_drewN | apply below_drew1) | exact HB.out))) : w.heap.size ≤ gb614)); clear HB; have HB := n0_; have BK614 := n1_; have GW614 := n2_; have GE614 := n3_; clear n0_ n1_ n2_ n3_; clear hb hbox hg) | ((with_reducible refine gate_dst (N := 3) rfl ?_); refine box_event ?hg (N := 3) ?hd (cs := #[.int .i64 a1_0, .int .i64 a1_1]) (t := 53) ?hr ?_; (case hd => rfl); (case hg => rfl); (case hr => first | (go_simp; done) | (go_simp; rfl)); intro gb615 hg w12 hbox hb; have n0_ := Aside0.mk (blk_below (g := gb614) (o := .cells #[.int .i64 a0_0, .slice A0_1 l0_1.length c0_1] 30 (0, 0)) (by (with_reducible repeat (first | refine blk_drewN ?_ _ | refine blk_drew ?_ | refine blk_alloc ?_ _)); exact BK614.out) hb); have n1_ := Aside0.mk (below_step (by repeat (first | (with_reducible first | exact HB.out | apply below_alloc | apply pw_below_drewN | apply below_drew1 | refine below_set ?_ GE614.out) | exact HB.out)) hb); have n2_ := Aside0.mk (hbox); have n3_ := Aside0.mk ((by rw [hg]; exact (below_size (by repeat (first | (with_reducible first | exact HB.out | apply below_alloc | apply pw_below_drewN | apply below_drew1 | refine below_set ?_ GE614.out) | exact HB.out))) : w.heap.size ≤ gb615)); have n4_ := Aside0.mk ((by rw [hg]; exact (below_size (by repeat (first | (with_reducible first | exact HB.out | apply below_alloc | apply pw_below_drewN | apply below_drew1 | refine below_set ?_ GE614.out) | exact HB.out))) : w.heap.size ≤ gb615)); have n5_ := Aside0.mk ((by rw [hg]; exact Nat.ne_of_lt (blk_lt (g := gb614) (o := .cells #[.int .i64 a0_0, .slice A0_1 l0_1.length c0_1] 30 (0, 0)) (by (with_reducible repeat (first | refine blk_drewN ?_ _ | refine blk_drew ?_ | refine blk_alloc ?_ _)); exact BK614.out)) : gb614 ≠ gb615)); have n6_ := Aside0.mk ((by rw [hg]; exact Nat.ne_of_gt (blk_lt (g := gb614) (o := .cells #[.int .i64 a0_0, .slice A0_1 l0_1.length c0_1] 30 (0, 0)) (by (with_reducible repeat (first | refine blk_drewN ?_ _ | refine blk_drew ?_ | refine blk_alloc ?_ _)); exact BK614.out)) : gb615 ≠ gb614)); clear BK614; clear HB; have BK614 := n0_; have HB := n1_; have BK615 := n2_; have GW615 := n3_; have GE615 := n4_; have NB614_615 := n5_; have NB615_614 := n6_; clear n0_ n1_ n2_ n3_ n4_ n5_ n6_; clear hb hbox hg))
    have n0_ := Aside0.mk (blk_drew BK614.out)
    have n1_ := Aside0.mk (blk_drew BK615.out)
    have n2_ := Aside0.mk (below_drew1 HB.out)
    clear BK614
    clear BK615
    clear HB
    have BK614 := n0_
    have BK615 := n1_
    have HB := n2_
    clear n0_ n1_ n2_
    refine start_ (n := 28) (S := fun w' => w'.cell? ⟨gb614, 0, none⟩ = some (.int .i64 a0_0) ∧ w'.cell? ⟨gb614, 1, none⟩ = some (.slice A0_1 l0_1.length c0_1) ∧ w'.cell? ⟨gb615, 0, none⟩ = some (.int .i64 a1_0) ∧ w'.cell? ⟨gb615, 1, none⟩ = some (.int .i64 a1_1)) (ds := []) (ar 0 28) (by kernel_rfl) rfl rfl ⟨(blk_cell BK614.out 0).trans rfl, (blk_cell BK614.out 1).trans rfl, (blk_cell BK615.out 0).trans rfl, (blk_cell BK615.out 1).trans rfl⟩ (fun hHeld => ?_); refine with_tabW impl_Complex_isPair.tab1 impl_Complex_isPair.bits1 (fun HT_ HW_ => ?_)
    generalize w12.drew = w13 at BK614 BK615 HB hHeld ⊢
    refine pure_ (i := 1) (N := some 6) (v := ?_) (a' := ?_) #[O,U,O,O,O,O,O,O,O,O,O,O,O,O,O,O,O,O,O,O,O,O,O,O,O,O,O,O] rfl rfl (any_of HT_.out (by kernel_rfl)) hh_ (Or.inl ⟨by rfl, ?_⟩) ?_ ?_; rotate_left; (intro w'; go_simp; with_reducible rfl); rotate_left; · simp only [nm_]; rfl
    refine take_ (i := 0) (N := some 5) (v := ?_) (a' := ?_) (ar 2 26) rfl rfl (take_ofW HT_.out HW_.out (by kernel_rfl)) hh_ (Or.inl ⟨by rfl, ?_⟩) hHeld ?_ ?_
    rotate_left; · rintro w' ⟨s0, s1, s2, s3⟩; go_simp; with_reducible rfl
    rotate_left; · simp only [nm_]; rfl
    refine take_ (i := 2) (N := some 7) (v := ?_) (a' := ?_) (ar 3 25) rfl rfl (take_ofW HT_.out HW_.out (by kernel_rfl)) hh_ (Or.inl ⟨by rfl, ?_⟩) hHeld ?_ ?_
    rotate_left; · rintro w' ⟨s0, s1, s2, s3⟩; go_simp; with_reducible rfl
    rotate_left; · simp only [nm_]; rfl
    refine one_ (i := 3) (N := some 8) (ar 4 24) rfl rfl (one_of HT_.out (by kernel_rfl)) (by decide) (fun K hK => ?_)
    refine goes_ Try.func76 (by kernel_rfl) rfl #[.agg #[.int .i64 a0_0, .slice A0_1 l0_1.length c0_1], .int .i64 a1_0] (by rfl) rfl rfl (by (try simp only [List.map_toArray, List.map_cons, List.map_nil]); first | done | rfl | (simp only [List.length_drop, List.length_take]; rfl)) ?_
    with_reducible refine (impl_Complex_has.calls k a0_0 _ _ l0_1 a1_0 true _ ?side1 ?side2 A3.out).mono ?_
    (case side1 => repeat (first | exact (Kd.C_below HR0_1.out HB.out) | (with_reducible refine Kd.C_alloc ?_ _) | (with_reducible refine Kd.C_drewN ?_ _) | (with_reducible refine Kd.C_drew ?_)))
    (case side2 => exact HC0_1.out)
    rintro e w14 ⟨rfl, hb⟩
    refine ⟨_, rfl, ?_⟩
    have n0_ := Aside0.mk (blk_below (g := gb614) (o := .cells #[.int .i64 a0_0, .slice A0_1 l0_1.length c0_1] 30 (0, 0)) (by (with_reducible repeat (first | refine blk_drewN ?_ _ | refine blk_drew ?_ | refine blk_alloc ?_ _)); exact BK614.out) hb)
    have n1_ := Aside0.mk (blk_below (g := gb615) (o := .cells #[.int .i64 a1_0, .int .i64 a1_1] 53 (0, 0)) (by (with_reducible repeat (first | refine blk_drewN ?_ _ | refine blk_drew ?_ | refine blk_alloc ?_ _)); exact BK615.out) hb)
    have n2_ := Aside0.mk (below_step (by repeat (first | (with_reducible first | exact HB.out | apply below_alloc | apply pw_below_drewN | apply below_drew1 | refine below_set ?_ GE614.out | refine below_set ?_ GE615.out) | exact HB.out)) hb)
    clear BK614
    clear BK615
    clear HB
    have BK614 := n0_
    have BK615 := n1_
    have HB := n2_
    clear n0_ n1_ n2_
    (try clear hb)
    (try clear hb2)
    (try clear hk)
    (try clear hi)
    refine hK.out _ _ ⟨(blk_cell BK614.out 0).trans rfl, (blk_cell BK614.out 1).trans rfl, (blk_cell BK615.out 0).trans rfl, (blk_cell BK615.out 1).trans rfl⟩ (fun hHeld => ?_)
    clear hK K
    refine norm_ (a' := ?_) ?_ ?_
    rotate_left
    ·show Act.put _ (some 8) _ = _
     simp only [nm_]
     rfl
    refine pure_ (i := 4) (N := some 9) (v := ?_) (a' := ?_) (ar 5 23) rfl rfl (any_of HT_.out (by kernel_rfl)) hh_ (Or.inl ⟨by rfl, ?_⟩) ?_ ?_; rotate_left; (intro w'; go_simp; with_reducible rfl); rotate_left; · simp only [nm_]; rfl
    refine pure_ (i := 6) (N := some 11) (v := ?_) (a' := ?_) #[U,U,U,U,U,O,U,O,O,O,O,O,O,O,O,O,O,O,O,O,O,O,O,O,O,O,O,O] rfl rfl (any_of HT_.out (by kernel_rfl)) hh_ (Or.inl ⟨by rfl, ?_⟩) ?_ ?_; rotate_left; (intro w'; go_simp; with_reducible rfl); rotate_left; · simp only [nm_]; rfl
    refine take_ (i := 5) (N := some 10) (v := ?_) (a' := ?_) (ar 7 21) rfl rfl (take_ofW HT_.out HW_.out (by kernel_rfl)) hh_ (Or.inl ⟨by rfl, ?_⟩) hHeld ?_ ?_
    rotate_left; · rintro w' ⟨s0, s1, s2, s3⟩; go_simp; with_reducible rfl
    rotate_left; · simp only [nm_]; rfl
    refine take_ (i := 7) (N := some 12) (v := ?_) (a' := ?_) (ar 8 20) rfl rfl (take_ofW HT_.out HW_.out (by kernel_rfl)) hh_ (Or.inl ⟨by rfl, ?_⟩) hHeld ?_ ?_
    rotate_left; · rintro w' ⟨s0, s1, s2, s3⟩; go_simp; with_reducible rfl
    rotate_left; · simp only [nm_]; rfl
    refine one_ (i := 8) (N := some 13) (ar 9 19) rfl rfl (one_of HT_.out (by kernel_rfl)) (by decide) (fun K hK => ?_)
    refine goes_ Try.func76 (by kernel_rfl) rfl #[.agg #[.int .i64 a0_0, .slice A0_1 l0_1.length c0_1], .int .i64 a1_1] (by rfl) rfl rfl (by (try simp only [List.map_toArray, List.map_cons, List.map_nil]); first | done | rfl | (simp only [List.length_drop, List.length_take]; rfl)) ?_
    with_reducible refine (impl_Complex_has.calls k a0_0 _ _ l0_1 a1_1 true _ ?side1 ?side2 A5.out).mono ?_
    (case side1 => repeat (first | exact (Kd.C_below HR0_1.out HB.out) | (with_reducible refine Kd.C_alloc ?_ _) | (with_reducible refine Kd.C_drewN ?_ _) | (with_reducible refine Kd.C_drew ?_)))
    (case side2 => exact HC0_1.out)
    rintro e w15 ⟨rfl, hb⟩
    refine ⟨_, rfl, ?_⟩
    have n0_ := Aside0.mk (blk_below (g := gb614) (o := .cells #[.int .i64 a0_0, .slice A0_1 l0_1.length c0_1] 30 (0, 0)) (by (with_reducible repeat (first | refine blk_drewN ?_ _ | refine blk_drew ?_ | refine blk_alloc ?_ _)); exact BK614.out) hb)
    have n1_ := Aside0.mk (blk_below (g := gb615) (o := .cells #[.int .i64 a1_0, .int .i64 a1_1] 53 (0, 0)) (by (with_reducible repeat (first | refine blk_drewN ?_ _ | refine blk_drew ?_ | refine blk_alloc ?_ _)); exact BK615.out) hb)
    have n2_ := Aside0.mk (below_step (by repeat (first | (with_reducible first | exact HB.out | apply below_alloc | apply pw_below_drewN | apply below_drew1 | refine below_set ?_ GE614.out | refine below_set ?_ GE615.out) | exact HB.out)) hb)
    clear BK614
    clear BK615
    clear HB
    have BK614 := n0_
    have BK615 := n1_
    have HB := n2_
    clear n0_ n1_ n2_
    (try clear hb)
    (try clear hb2)
    (try clear hk)
    (try clear hi)
    refine hK.out _ _ ⟨(blk_cell BK614.out 0).trans rfl, (blk_cell BK614.out 1).trans rfl, (blk_cell BK615.out 0).trans rfl, (blk_cell BK615.out 1).trans rfl⟩ (fun hHeld => ?_)
    clear hK K
    refine norm_ (a' := ?_) ?_ ?_
    rotate_left
    ·show Act.put _ (some 13) _ = _
     simp only [nm_]
     rfl
    refine pure_ (i := 9) (N := some 14) (v := ?_) (a' := ?_) (ar 10 18) rfl rfl (any_of HT_.out (by kernel_rfl)) hh_ (Or.inl ⟨by rfl, ?_⟩) ?_ ?_; rotate_left; (intro w'; go_simp; with_reducible rfl); rotate_left; · simp only [nm_]; rfl
    refine pure_ (i := 10) (N := some 15) (v := ?_) (a' := ?_) (ar 11 17) rfl rfl (any_of HT_.out (by kernel_rfl)) hh_ (Or.inl ⟨by rfl, ?_⟩) ?_ ?_; rotate_left; (intro w'; go_simp; with_reducible rfl); rotate_left; · simp only [nm_]; rfl
    refine pure_ (i := 11) (N := some 16) (v := ?_) (a' := ?_) (ar 12 16) rfl rfl (any_of HT_.out (by kernel_rfl)) hh_ (Or.inl ⟨by rfl, ?_⟩) ?_ ?_; rotate_left; (intro w'; go_simp; with_reducible rfl); rotate_left; · simp only [nm_]; rfl
    refine pure_ (i := 13) (N := some 18) (v := ?_) (a' := ?_) #[U,U,U,U,U,U,U,U,U,U,U,U,O,U,O,O,O,O,O,O,O,O,O,O,O,O,O,O] rfl rfl (any_of HT_.out (by kernel_rfl)) hh_ (Or.inl ⟨by rfl, ?_⟩) ?_ ?_; rotate_left; (intro w'; go_simp; with_reducible rfl); rotate_left; · simp only [nm_]; rfl
    refine take_ (i := 12) (N := some 17) (v := ?_) (a' := ?_) (ar 14 14) rfl rfl (take_ofW HT_.out HW_.out (by kernel_rfl)) hh_ (Or.inl ⟨by rfl, ?_⟩) hHeld ?_ ?_
    rotate_left; · rintro w' ⟨s0, s1, s2, s3⟩; go_simp; with_reducible rfl
    rotate_left; · simp only [nm_]; rfl
    refine take_ (i := 14) (N := some 19) (v := ?_) (a' := ?_) (ar 15 13) rfl rfl (take_ofW HT_.out HW_.out (by kernel_rfl)) hh_ (Or.inl ⟨by rfl, ?_⟩) hHeld ?_ ?_
    rotate_left; · rintro w' ⟨s0, s1, s2, s3⟩; go_simp; with_reducible rfl
    rotate_left; · simp only [nm_]; rfl
    refine one_ (i := 15) (N := some 20) (ar 16 12) rfl rfl (one_of HT_.out (by kernel_rfl)) (by decide) (fun K hK => ?_)
    refine goes_ Try.func99 (by kernel_rfl) rfl #[.int .i64 a1_0, .int .i64 a1_1] (by rfl) rfl rfl (by (try simp only [List.map_toArray, List.map_cons, List.map_nil]); first | done | rfl | (simp only [List.length_drop, List.length_take]; rfl)) ?_
    with_reducible refine (impl_isIn.calls a1_0 a1_1 true _ A7.out).mono ?_
    rintro e w' ⟨rfl, ⟨nd, rfl⟩⟩
    refine ⟨_, rfl, ?_⟩
    refine hK.out _ _ ⟨(blk_cell BK614.out 0).trans rfl, (blk_cell BK614.out 1).trans rfl, (blk_cell BK615.out 0).trans rfl, (blk_cell BK615.out 1).trans rfl⟩ (fun hHeld => ?_)
    clear hK K
    refine norm_ (a' := ?_) ?_ ?_
    rotate_left
    ·show Act.put _ (some 20) _ = _
     simp only [nm_]
     rfl
    refine pure_ (i := 16) (N := some 21) (v := ?_) (a' := ?_) (ar 17 11) rfl rfl (any_of HT_.out (by kernel_rfl)) hh_ (Or.inl ⟨by rfl, ?_⟩) ?_ ?_; rotate_left; (intro w'; go_simp; with_reducible rfl); rotate_left; · simp only [nm_]; rfl
    refine pure_ (i := 17) (N := some 22) (v := ?_) (a' := ?_) (ar 18 10) rfl rfl (any_of HT_.out (by kernel_rfl)) hh_ (Or.inl ⟨by rfl, ?_⟩) ?_ ?_; rotate_left; (intro w'; go_simp; with_reducible rfl); rotate_left; · simp only [nm_]; rfl
    refine pure_ (i := 18) (N := some 23) (v := ?_) (a' := ?_) (ar 19 9) rfl rfl (any_of HT_.out (by kernel_rfl)) hh_ (Or.inl ⟨by rfl, ?_⟩) ?_ ?_; rotate_left; (intro w'; go_simp; with_reducible rfl); rotate_left; · simp only [nm_]; rfl
    refine pure_ (i := 21) (N := some 26) (v := ?_) (a' := ?_) #[U,U,U,U,U,U,U,U,U,U,U,U,U,U,U,U,U,U,U,O,O,U,O,O,O,O,O,O] rfl rfl (any_of HT_.out (by kernel_rfl)) hh_ (Or.inl ⟨by rfl, ?_⟩) ?_ ?_; rotate_left; (intro w'; go_simp; with_reducible rfl); rotate_left; · simp only [nm_]; rfl
    refine take_ (i := 19) (N := some 24) (v := ?_) (a' := ?_) #[U,U,U,U,U,U,U,U,U,U,U,U,U,U,U,U,U,U,U,U,O,U,O,O,O,O,O,O] rfl rfl (take_ofW HT_.out HW_.out (by kernel_rfl)) hh_ (Or.inl ⟨by rfl, ?_⟩) hHeld ?_ ?_
    rotate_left; · rintro w' ⟨s0, s1, s2, s3⟩; go_simp; with_reducible rfl
    rotate_left; · simp only [nm_]; rfl
    refine take_ (i := 22) (N := some 27) (v := ?_) (a' := ?_) #[U,U,U,U,U,U,U,U,U,U,U,U,U,U,U,U,U,U,U,U,O,U,U,O,O,O,O,O] rfl rfl (take_ofW HT_.out HW_.out (by kernel_rfl)) hh_ (Or.inl ⟨by rfl, ?_⟩) hHeld ?_ ?_
    rotate_left; · rintro w' ⟨s0, s1, s2, s3⟩; go_simp; with_reducible rfl
    rotate_left; · simp only [nm_]; rfl
    refine one_ (i := 20) (N := some 25) (ar 23 5) rfl rfl (one_of HT_.out (by kernel_rfl)) (by decide) (fun K hK => ?_)
    refine goes_ Try.func132 (by kernel_rfl) rfl #[.int .i64 a1_1] (by rfl) rfl rfl (by (try simp only [List.map_toArray, List.map_cons, List.map_nil]); first | done | rfl | (simp only [List.length_drop, List.length_take]; rfl)) ?_
    with_reducible refine (impl_size.calls a1_1 t619 _ A9.out).mono ?_
    rintro e w' ⟨rfl, ⟨nd, rfl⟩⟩
    refine ⟨_, rfl, ?_⟩
    refine hK.out _ _ ⟨(blk_cell BK614.out 0).trans rfl, (blk_cell BK614.out 1).trans rfl, (blk_cell BK615.out 0).trans rfl, (blk_cell BK615.out 1).trans rfl⟩ (fun hHeld => ?_)
    clear hK K
    refine norm_ (a' := ?_) ?_ ?_
    rotate_left
    ·show Act.put _ (some 25) _ = _
     simp only [nm_]
     rfl
    refine one_ (i := 23) (N := some 28) (ar 24 4) rfl rfl (one_of HT_.out (by kernel_rfl)) (by decide) (fun K hK => ?_)
    refine goes_ Try.func132 (by kernel_rfl) rfl #[.int .i64 a1_0] (by rfl) rfl rfl (by (try simp only [List.map_toArray, List.map_cons, List.map_nil]); first | done | rfl | (simp only [List.length_drop, List.length_take]; rfl)) ?_
    with_reducible refine (impl_size.calls a1_0 t620 _ A10.out).mono ?_
    rintro e w' ⟨rfl, ⟨nd, rfl⟩⟩
    refine ⟨_, rfl, ?_⟩
    refine hK.out _ _ ⟨(blk_cell BK614.out 0).trans rfl, (blk_cell BK614.out 1).trans rfl, (blk_cell BK615.out 0).trans rfl, (blk_cell BK615.out 1).trans rfl⟩ (fun hHeld => ?_)
    clear hK K
    refine norm_ (a' := ?_) ?_ ?_
    rotate_left
    ·show Act.put _ (some 28) _ = _
     simp only [nm_]
     rfl
    refine pure_ (i := 24) (N := some 29) (v := ?_) (a' := ?_) (ar 25 3) rfl rfl (any_of HT_.out (by kernel_rfl)) hh_ (Or.inl ⟨by rfl, ?_⟩) ?_ ?_; rotate_left; (intro w'; go_simp; with_reducible rfl); rotate_left; · simp only [nm_]; rfl
    refine pure_ (i := 25) (N := some 30) (v := ?_) (a' := ?_) (ar 26 2) rfl rfl (any_of HT_.out (by kernel_rfl)) hh_ (Or.inl ⟨by rfl, ?_⟩) ?_ ?_; rotate_left; (intro w'; go_simp; with_reducible rfl); rotate_left; · simp only [nm_]; rfl
    refine pure_ (i := 26) (N := some 31) (v := ?_) (a' := ?_) (ar 27 1) rfl rfl (any_of HT_.out (by kernel_rfl)) hh_ (Or.inl ⟨by rfl, ?_⟩) ?_ ?_; rotate_left; (intro w'; go_simp; with_reducible rfl); rotate_left; · simp only [nm_]; rfl
    refine pure_ (i := 27) (N := some 4) (v := ?_) (a' := ?_) (ar 28 0) rfl rfl (any_of HT_.out (by kernel_rfl)) hh_ (Or.inl ⟨by rfl, ?_⟩) ?_ ?_; rotate_left; (intro w'; go_simp; with_reducible rfl); rotate_left; · simp only [nm_]; rfl
    refine done_ (done_of HT_.out (by kernel_rfl)) ?_
    try go_wp2
    go_ret
    exact ⟨by first | rfl | (simp [errW_none, errW_some] <;> rfl) | (simp [*, errW_none, errW_some] <;> rfl), by repeat (first | (with_reducible first | exact HB.out | apply below_alloc | apply pw_below_drewN | apply below_drew1 | refine below_set ?_ GE614.out | refine below_set ?_ GE615.out) | exact HB.out)⟩
   ·replace c8 := Bool.eq_false_iff.mpr c8
    subst c8
    have H1 : (some false) = some r := by rw [if_neg (show ¬ (false = true) by decide)] at H; exact H
    clear H
    have H := H1
    clear H1
    obtain rfl := Option.some.inj H
    go_enter Try.func88, Try.ntmps88
    try go_wp2_with (first | ((with_reducible refine gate_dst (N := 2) rfl ?_); refine box_event ?hg (N := 2) ?hd (cs := #[.int .i64 a0_0, .slice A0_1 l0_1.length c0_1]) (t := 30) ?hr ?_; (case hd => rfl); (case hg => rfl); (case hr => first | (go_simp; done) | (go_simp; rfl)); intro gb614 hg w16 hbox hb; have n0_ := Aside0.mk (below_step (by repeat (first | (with_reducible first | exact HB.out | apply below_alloc | apply pw_below_drewN | apply below_drew1) | exact HB.out)) hb); have n1_ := Aside0.mk (hbox); have n2_ := Aside0.mk ((by rw [hg]; exact (below_size (by repeat (first | (with_reducible first | exact HB.out | apply below_alloc | apply pw_below_drewN | apply below_drew1) | exact HB.out))) : w.heap.size ≤ gb614)); have n3_ := Aside0.mk ((by rw [hg]; exact (below_size (by repeat (first | (with_reducible first | exact HB.out | apply below_alloc | apply pw_below_drewN | apply below_drew1) | exact HB.out))) : w.heap.size ≤ gb614)); clear HB; have HB := n0_; have BK614 := n1_; have GW614 := n2_; have GE614 := n3_; clear n0_ n1_ n2_ n3_; clear hb hbox hg) | ((with_reducible refine gate_dst (N := 3) rfl ?_); refine box_event ?hg (N := 3) ?hd (cs := #[.int .i64 a1_0, .int .i64 a1_1]) (t := 53) ?hr ?_; (case hd => rfl); (case hg => rfl); (case hr => first | (go_simp; done) | (go_simp; rfl)); intro gb615 hg w17 hbox hb; have n0_ := Aside0.mk (blk_below (g := gb614) (o := .cells #[.int .i64 a0_0, .slice A0_1 l0_1.length c0_1] 30 (0, 0)) (by (with_reducible repeat (first | refine blk_drewN ?_ _ | refine blk_drew ?_ | refine blk_alloc ?_ _)); exact BK614.out) hb); have n1_ := Aside0.mk (below_step (by repeat (first | (with_reducible first | exact HB.out | apply below_alloc | apply pw_below_drewN | apply below_drew1 | refine below_set ?_ GE614.out) | exact HB.out)) hb); have n2_ := Aside0.mk (hbox); have n3_ := Aside0.mk ((by rw [hg]; exact (below_size (by repeat (first | (with_reducible first | exact HB.out | apply below_alloc | apply pw_below_drewN | apply below_drew1 | refine below_set ?_ GE614.out) | exact HB.out))) : w.heap.size ≤ gb615)); have n4_ := Aside0.mk ((by rw [hg]; exact (below_size (by repeat (first | (with_reducible first | exact HB.out | apply below_alloc | apply pw_below_drewN | apply below_drew1 | refine below_set ?_ GE614.out) | exact HB.out))) : w.heap.size ≤ gb615)); have n5_ := Aside0.mk ((by rw [hg]; exact Nat.ne_of_lt (blk_lt (g := gb614) (o := .cells #[.int .i64 a0_0, .slice A0_1 l0_1.length c0_1] 30 (0, 0)) (by (with_reducible repeat (first | refine blk_drewN ?_ _ | refine blk_drew ?_ | refine blk_alloc ?_ _)); exact BK614.out)) : gb614 ≠ gb615)); have n6_ := Aside0.mk ((by rw [hg]; exact Nat.ne_of_gt (blk_lt (g := gb614) (o := .cells #[.int .i64 a0_0, .slice A0_1 l0_1.length c0_1] 30 (0, 0)) (by (with_reducible repeat (first | refine blk_drewN ?_ _ | refine blk_drew ?_ | refine blk_alloc ?_ _)); exact BK614.out)) : gb615 ≠ gb614)); clear BK614; clear HB; have BK614 := n0_; have HB := n1_; have BK615 := n2_; have GW615 := n3_; have GE615 := n4_; have NB614_615 := n5_; have NB615_614 := n6_; clear n0_ n1_ n2_ n3_ n4_ n5_ n6_; clear hb hbox hg))
    have n0_ := Aside0.mk (blk_drew BK614.out)
    have n1_ := Aside0.mk (blk_drew BK615.out)
    have n2_ := Aside0.mk (below_drew1 HB.out)
    clear BK614
    clear BK615
    clear HB
    have BK614 := n0_
    have BK615 := n1_
    have HB := n2_
    clear n0_ n1_ n2_
    refine start_ (n := 28) (S := fun w' => w'.cell? ⟨gb614, 0, none⟩ = some (.int .i64 a0_0) ∧ w'.cell? ⟨gb614, 1, none⟩ = some (.slice A0_1 l0_1.length c0_1) ∧ w'.cell? ⟨gb615, 0, none⟩ = some (.int .i64 a1_0) ∧ w'.cell? ⟨gb615, 1, none⟩ = some (.int .i64 a1_1)) (ds := []) (ar 0 28) (by kernel_rfl) rfl rfl ⟨(blk_cell BK614.out 0).trans rfl, (blk_cell BK614.out 1).trans rfl, (blk_cell BK615.out 0).trans rfl, (blk_cell BK615.out 1).trans rfl⟩ (fun hHeld => ?_); refine with_tabW impl_Complex_isPair.tab1 impl_Complex_isPair.bits1 (fun HT_ HW_ => ?_)
    generalize w17.drew = w18 at BK614 BK615 HB hHeld ⊢
    refine pure_ (i := 1) (N := some 6) (v := ?_) (a' := ?_) #[O,U,O,O,O,O,O,O,O,O,O,O,O,O,O,O,O,O,O,O,O,O,O,O,O,O,O,O] rfl rfl (any_of HT_.out (by kernel_rfl)) hh_ (Or.inl ⟨by rfl, ?_⟩) ?_ ?_; rotate_left; (intro w'; go_simp; with_reducible rfl); rotate_left; · simp only [nm_]; rfl
    refine take_ (i := 0) (N := some 5) (v := ?_) (a' := ?_) (ar 2 26) rfl rfl (take_ofW HT_.out HW_.out (by kernel_rfl)) hh_ (Or.inl ⟨by rfl, ?_⟩) hHeld ?_ ?_
    rotate_left; · rintro w' ⟨s0, s1, s2, s3⟩; go_simp; with_reducible rfl
    rotate_left; · simp only [nm_]; rfl
    refine take_ (i := 2) (N := some 7) (v := ?_) (a' := ?_) (ar 3 25) rfl rfl (take_ofW HT_.out HW_.out (by kernel_rfl)) hh_ (Or.inl ⟨by rfl, ?_⟩) hHeld ?_ ?_
    rotate_left; · rintro w' ⟨s0, s1, s2, s3⟩; go_simp; with_reducible rfl
    rotate_left; · simp only [nm_]; rfl
    refine one_ (i := 3) (N := some 8) (ar 4 24) rfl rfl (one_of HT_.out (by kernel_rfl)) (by decide) (fun K hK => ?_)
    refine goes_ Try.func76 (by kernel_rfl) rfl #[.agg #[.int .i64 a0_0, .slice A0_1 l0_1.length c0_1], .int .i64 a1_0] (by rfl) rfl rfl (by (try simp only [List.map_toArray, List.map_cons, List.map_nil]); first | done | rfl | (simp only [List.length_drop, List.length_take]; rfl)) ?_
    with_reducible refine (impl_Complex_has.calls k a0_0 _ _ l0_1 a1_0 true _ ?side1 ?side2 A3.out).mono ?_
    (case side1 => repeat (first | exact (Kd.C_below HR0_1.out HB.out) | (with_reducible refine Kd.C_alloc ?_ _) | (with_reducible refine Kd.C_drewN ?_ _) | (with_reducible refine Kd.C_drew ?_)))
    (case side2 => exact HC0_1.out)
    rintro e w19 ⟨rfl, hb⟩
    refine ⟨_, rfl, ?_⟩
    have n0_ := Aside0.mk (blk_below (g := gb614) (o := .cells #[.int .i64 a0_0, .slice A0_1 l0_1.length c0_1] 30 (0, 0)) (by (with_reducible repeat (first | refine blk_drewN ?_ _ | refine blk_drew ?_ | refine blk_alloc ?_ _)); exact BK614.out) hb)
    have n1_ := Aside0.mk (blk_below (g := gb615) (o := .cells #[.int .i64 a1_0, .int .i64 a1_1] 53 (0, 0)) (by (with_reducible repeat (first | refine blk_drewN ?_ _ | refine blk_drew ?_ | refine blk_alloc ?_ _)); exact BK615.out) hb)
    have n2_ := Aside0.mk (below_step (by repeat (first | (with_reducible first | exact HB.out | apply below_alloc | apply pw_below_drewN | apply below_drew1 | refine below_set ?_ GE614.out | refine below_set ?_ GE615.out) | exact HB.out)) hb)
    clear BK614
    clear BK615
    clear HB
    have BK614 := n0_
    have BK615 := n1_
    have HB := n2_
    clear n0_ n1_ n2_
    (try clear hb)
    (try clear hb2)
    (try clear hk)
    (try clear hi)
    refine hK.out _ _ ⟨(blk_cell BK614.out 0).trans rfl, (blk_cell BK614.out 1).trans rfl, (blk_cell BK615.out 0).trans rfl, (blk_cell BK615.out 1).trans rfl⟩ (fun hHeld => ?_)
    clear hK K
    refine norm_ (a' := ?_) ?_ ?_
    rotate_left
    ·show Act.put _ (some 8) _ = _
     simp only [nm_]
     rfl
    refine pure_ (i := 4) (N := some 9) (v := ?_) (a' := ?_) (ar 5 23) rfl rfl (any_of HT_.out (by kernel_rfl)) hh_ (Or.inl ⟨by rfl, ?_⟩) ?_ ?_; rotate_left; (intro w'; go_simp; with_reducible rfl); rotate_left; · simp only [nm_]; rfl
    refine pure_ (i := 6) (N := some 11) (v := ?_) (a' := ?_) #[U,U,U,U,U,O,U,O,O,O,O,O,O,O,O,O,O,O,O,O,O,O,O,O,O,O,O,O] rfl rfl (any_of HT_.out (by kernel_rfl)) hh_ (Or.inl ⟨by rfl, ?_⟩) ?_ ?_; rotate_left; (intro w'; go_simp; with_reducible rfl); rotate_left; · simp only [nm_]; rfl
    refine take_ (i := 5) (N := some 10) (v := ?_) (a' := ?_) (ar 7 21) rfl rfl (take_ofW HT_.out HW_.out (by kernel_rfl)) hh_ (Or.inl ⟨by rfl, ?_⟩) hHeld ?_ ?_
    rotate_left; · rintro w' ⟨s0, s1, s2, s3⟩; go_simp; with_reducible rfl
    rotate_left; · simp only [nm_]; rfl
    refine take_ (i := 7) (N := some 12) (v := ?_) (a' := ?_) (ar 8 20) rfl rfl (take_ofW HT_.out HW_.out (by kernel_rfl)) hh_ (Or.inl ⟨by rfl, ?_⟩) hHeld ?_ ?_
    rotate_left; · rintro w' ⟨s0, s1, s2, s3⟩; go_simp; with_reducible rfl
    rotate_left; · simp only [nm_]; rfl
    refine one_ (i := 8) (N := some 13) (ar 9 19) rfl rfl (one_of HT_.out (by kernel_rfl)) (by decide) (fun K hK => ?_)
    refine goes_ Try.func76 (by kernel_rfl) rfl #[.agg #[.int .i64 a0_0, .slice A0_1 l0_1.length c0_1], .int .i64 a1_1] (by rfl) rfl rfl (by (try simp only [List.map_toArray, List.map_cons, List.map_nil]); first | done | rfl | (simp only [List.length_drop, List.length_take]; rfl)) ?_
    with_reducible refine (impl_Complex_has.calls k a0_0 _ _ l0_1 a1_1 true _ ?side1 ?side2 A5.out).mono ?_
    (case side1 => repeat (first | exact (Kd.C_below HR0_1.out HB.out) | (with_reducible refine Kd.C_alloc ?_ _) | (with_reducible refine Kd.C_drewN ?_ _) | (with_reducible refine Kd.C_drew ?_)))
    (case side2 => exact HC0_1.out)
    rintro e w20 ⟨rfl, hb⟩
    refine ⟨_, rfl, ?_⟩
    have n0_ := Aside0.mk (blk_below (g := gb614) (o := .cells #[.int .i64 a0_0, .slice A0_1 l0_1.length c0_1] 30 (0, 0)) (by (with_reducible repeat (first | refine blk_drewN ?_ _ | refine blk_drew ?_ | refine blk_alloc ?_ _)); exact BK614.out) hb)
    have n1_ := Aside0.mk (blk_below (g := gb615) (o := .cells #[.int .i64 a1_0, .int .i64 a1_1] 53 (0, 0)) (by (with_reducible repeat (first | refine blk_drewN ?_ _ | refine blk_drew ?_ | refine blk_alloc ?_ _)); exact BK615.out) hb)
    have n2_ := Aside0.mk (below_step (by repeat (first | (with_reducible first | exact HB.out | apply below_alloc | apply pw_below_drewN | apply below_drew1 | refine below_set ?_ GE614.out | refine below_set ?_ GE615.out) | exact HB.out)) hb)
    clear BK614
    clear BK615
    clear HB
    have BK614 := n0_
    have BK615 := n1_
    have HB := n2_
    clear n0_ n1_ n2_
    (try clear hb)
    (try clear hb2)
    (try clear hk)
    (try clear hi)
    refine hK.out _ _ ⟨(blk_cell BK614.out 0).trans rfl, (blk_cell BK614.out 1).trans rfl, (blk_cell BK615.out 0).trans rfl, (blk_cell BK615.out 1).trans rfl⟩ (fun hHeld => ?_)
    clear hK K
    refine norm_ (a' := ?_) ?_ ?_
    rotate_left
    ·show Act.put _ (some 13) _ = _
     simp only [nm_]
     rfl
    refine pure_ (i := 9) (N := some 14) (v := ?_) (a' := ?_) (ar 10 18) rfl rfl (any_of HT_.out (by kernel_rfl)) hh_ (Or.inl ⟨by rfl, ?_⟩) ?_ ?_; rotate_left; (intro w'; go_simp; with_reducible rfl); rotate_left; · simp only [nm_]; rfl
    refine pure_ (i := 10) (N := some 15) (v := ?_) (a' := ?_) (ar 11 17) rfl rfl (any_of HT_.out (by kernel_rfl)) hh_ (Or.inl ⟨by rfl, ?_⟩) ?_ ?_; rotate_left; (intro w'; go_simp; with_reducible rfl); rotate_left; · simp only [nm_]; rfl
    refine pure_ (i := 11) (N := some 16) (v := ?_) (a' := ?_) (ar 12 16) rfl rfl (any_of HT_.out (by kernel_rfl)) hh_ (Or.inl ⟨by rfl, ?_⟩) ?_ ?_; rotate_left; (intro w'; go_simp; with_reducible rfl); rotate_left; · simp only [nm_]; rfl
    refine pure_ (i := 13) (N := some 18) (v := ?_) (a' := ?_) #[U,U,U,U,U,U,U,U,U,U,U,U,O,U,O,O,O,O,O,O,O,O,O,O,O,O,O,O] rfl rfl (any_of HT_.out (by kernel_rfl)) hh_ (Or.inl ⟨by rfl, ?_⟩) ?_ ?_; rotate_left; (intro w'; go_simp; with_reducible rfl); rotate_left; · simp only [nm_]; rfl
    refine take_ (i := 12) (N := some 17) (v := ?_) (a' := ?_) (ar 14 14) rfl rfl (take_ofW HT_.out HW_.out (by kernel_rfl)) hh_ (Or.inl ⟨by rfl, ?_⟩) hHeld ?_ ?_
    rotate_left; · rintro w' ⟨s0, s1, s2, s3⟩; go_simp; with_reducible rfl
    rotate_left; · simp only [nm_]; rfl
    refine take_ (i := 14) (N := some 19) (v := ?_) (a' := ?_) (ar 15 13) rfl rfl (take_ofW HT_.out HW_.out (by kernel_rfl)) hh_ (Or.inl ⟨by rfl, ?_⟩) hHeld ?_ ?_
    rotate_left; · rintro w' ⟨s0, s1, s2, s3⟩; go_simp; with_reducible rfl
    rotate_left; · simp only [nm_]; rfl
    refine one_ (i := 15) (N := some 20) (ar 16 12) rfl rfl (one_of HT_.out (by kernel_rfl)) (by decide) (fun K hK => ?_)
    refine goes_ Try.func99 (by kernel_rfl) rfl #[.int .i64 a1_0, .int .i64 a1_1] (by rfl) rfl rfl (by (try simp only [List.map_toArray, List.map_cons, List.map_nil]); first | done | rfl | (simp only [List.length_drop, List.length_take]; rfl)) ?_
    with_reducible refine (impl_isIn.calls a1_0 a1_1 false _ A7.out).mono ?_
    rintro e w' ⟨rfl, ⟨nd, rfl⟩⟩
    refine ⟨_, rfl, ?_⟩
    refine hK.out _ _ ⟨(blk_cell BK614.out 0).trans rfl, (blk_cell BK614.out 1).trans rfl, (blk_cell BK615.out 0).trans rfl, (blk_cell BK615.out 1).trans rfl⟩ (fun hHeld => ?_)
    clear hK K
    refine norm_ (a' := ?_) ?_ ?_
    rotate_left
    ·show Act.put _ (some 20) _ = _
     simp only [nm_]
     rfl
    refine pure_ (i := 16) (N := some 21) (v := ?_) (a' := ?_) (ar 17 11) rfl rfl (any_of HT_.out (by kernel_rfl)) hh_ (Or.inl ⟨by rfl, ?_⟩) ?_ ?_; rotate_left; (intro w'; go_simp; with_reducible rfl); rotate_left; · simp only [nm_]; rfl
    refine pure_ (i := 17) (N := some 22) (v := ?_) (a' := ?_) (ar 18 10) rfl rfl (any_of HT_.out (by kernel_rfl)) hh_ (Or.inl ⟨by rfl, ?_⟩) ?_ ?_; rotate_left; (intro w'; go_simp; with_reducible rfl); rotate_left; · simp only [nm_]; rfl
    refine pure_ (i := 18) (N := some 23) (v := undef) (a' := ?_) (ar 19 9) rfl rfl (any_of HT_.out (by kernel_rfl)) hh_ (Or.inr ⟨by rfl, rfl⟩) ?_ ?_; rotate_left; · simp only [nm_]; rfl
    refine pure_ (i := 19) (N := some 24) (v := undef) (a' := ?_) (ar 20 8) rfl rfl (any_of HT_.out (by kernel_rfl)) hh_ (Or.inr ⟨by rfl, rfl⟩) ?_ ?_; rotate_left; · simp only [nm_]; rfl
    refine pure_ (i := 20) (N := some 25) (v := undef) (a' := ?_) (ar 21 7) rfl rfl (any_of HT_.out (by kernel_rfl)) hh_ (Or.inr ⟨by rfl, rfl⟩) ?_ ?_; rotate_left; · simp only [nm_]; rfl
    refine pure_ (i := 21) (N := some 26) (v := undef) (a' := ?_) (ar 22 6) rfl rfl (any_of HT_.out (by kernel_rfl)) hh_ (Or.inr ⟨by rfl, rfl⟩) ?_ ?_; rotate_left; · simp only [nm_]; rfl
    refine pure_ (i := 22) (N := some 27) (v := undef) (a' := ?_) (ar 23 5) rfl rfl (any_of HT_.out (by kernel_rfl)) hh_ (Or.inr ⟨by rfl, rfl⟩) ?_ ?_; rotate_left; · simp only [nm_]; rfl
    refine pure_ (i := 23) (N := some 28) (v := undef) (a' := ?_) (ar 24 4) rfl rfl (any_of HT_.out (by kernel_rfl)) hh_ (Or.inr ⟨by rfl, rfl⟩) ?_ ?_; rotate_left; · simp only [nm_]; rfl
    refine pure_ (i := 24) (N := some 29) (v := undef) (a' := ?_) (ar 25 3) rfl rfl (any_of HT_.out (by kernel_rfl)) hh_ (Or.inr ⟨by rfl, rfl⟩) ?_ ?_; rotate_left; · simp only [nm_]; rfl
    refine pure_ (i := 25) (N := some 30) (v := undef) (a' := ?_) (ar 26 2) rfl rfl (any_of HT_.out (by kernel_rfl)) hh_ (Or.inr ⟨by rfl, rfl⟩) ?_ ?_; rotate_left; · simp only [nm_]; rfl
    refine pure_ (i := 26) (N := some 31) (v := ?_) (a' := ?_) (ar 27 1) rfl rfl (any_of HT_.out (by kernel_rfl)) hh_ (Or.inl ⟨by rfl, ?_⟩) ?_ ?_; rotate_left; (intro w'; go_simp; with_reducible rfl); rotate_left; · simp only [nm_]; rfl
    refine pure_ (i := 27) (N := some 4) (v := ?_) (a' := ?_) (ar 28 0) rfl rfl (any_of HT_.out (by kernel_rfl)) hh_ (Or.inl ⟨by rfl, ?_⟩) ?_ ?_; rotate_left; (intro w'; go_simp; with_reducible rfl); rotate_left; · simp only [nm_]; rfl
    refine done_ (done_of HT_.out (by kernel_rfl)) ?_
    try go_wp2
    go_ret
    exact ⟨by first | rfl | (simp [errW_none, errW_some] <;> rfl) | (simp [*, errW_none, errW_some] <;> rfl), by repeat (first | (with_reducible first | exact HB.out | apply below_alloc | apply pw_below_drewN | apply below_drew1 | refine below_set ?_ GE614.out | refine below_set ?_ GE615.out) | exact HB.out)⟩
  ·replace c6 := Bool.eq_false_iff.mpr c6
   subst c6
   have H1 : (some false) = some r := by rw [if_neg (show ¬ (false = true) by decide)] at H; exact H
   clear H
   have H := H1
   clear H1
   obtain rfl := Option.some.inj H
   go_enter Try.func88, Try.ntmps88
   try go_wp2_with (first | ((with_reducible refine gate_dst (N := 2) rfl ?_); refine box_event ?hg (N := 2) ?hd (cs := #[.int .i64 a0_0, .slice A0_1 l0_1.length c0_1]) (t := 30) ?hr ?_; (case hd => rfl); (case hg => rfl); (case hr => first | (go_simp; done) | (go_simp; rfl)); intro gb614 hg w21 hbox hb; have n0_ := Aside0.mk (below_step (by repeat (first | (with_reducible first | exact HB.out | apply below_alloc | apply pw_below_drewN | apply below_drew1) | exact HB.out)) hb); have n1_ := Aside0.mk (hbox); have n2_ := Aside0.mk ((by rw [hg]; exact (below_size (by repeat (first | (with_reducible first | exact HB.out | apply below_alloc | apply pw_below_drewN | apply below_drew1) | exact HB.out))) : w.heap.size ≤ gb614)); have n3_ := Aside0.mk ((by rw [hg]; exact (below_size (by repeat (first | (with_reducible first | exact HB.out | apply below_alloc | apply pw_below_drewN | apply below_drew1) | exact HB.out))) : w.heap.size ≤ gb614)); clear HB; have HB := n0_; have BK614 := n1_; have GW614 := n2_; have GE614 := n3_; clear n0_ n1_ n2_ n3_; clear hb hbox hg) | ((with_reducible refine gate_dst (N := 3) rfl ?_); refine box_event ?hg (N := 3) ?hd (cs := #[.int .i64 a1_0, .int .i64 a1_1]) (t := 53) ?hr ?_; (case hd => rfl); (case hg => rfl); (case hr => first | (go_simp; done) | (go_simp; rfl)); intro gb615 hg w22 hbox hb; have n0_ := Aside0.mk (blk_below (g := gb614) (o := .cells #[.int .i64 a0_0, .slice A0_1 l0_1.length c0_1] 30 (0, 0)) (by (with_reducible repeat (first | refine blk_drewN ?_ _ | refine blk_drew ?_ | refine blk_alloc ?_ _)); exact BK614.out) hb); have n1_ := Aside0.mk (below_step (by repeat (first | (with_reducible first | exact HB.out | apply below_alloc | apply pw_below_drewN | apply below_drew1 | refine below_set ?_ GE614.out) | exact HB.out)) hb); have n2_ := Aside0.mk (hbox); have n3_ := Aside0.mk ((by rw [hg]; exact (below_size (by repeat (first | (with_reducible first | exact HB.out | apply below_alloc | apply pw_below_drewN | apply below_drew1 | refine below_set ?_ GE614.out) | exact HB.out))) : w.heap.size ≤ gb615)); have n4_ := Aside0.mk ((by rw [hg]; exact (below_size (by repeat (first | (with_reducible first | exact HB.out | apply below_alloc | apply pw_below_drewN | apply below_drew1 | refine below_set ?_ GE614.out) | exact HB.out))) : w.heap.size ≤ gb615)); have n5_ := Aside0.mk ((by rw [hg]; exact Nat.ne_of_lt (blk_lt (g := gb614) (o := .cells #[.int .i64 a0_0, .slice A0_1 l0_1.length c0_1] 30 (0, 0)) (by (with_reducible repeat (first | refine blk_drewN ?_ _ | refine blk_drew ?_ | refine blk_alloc ?_ _)); exact BK614.out)) : gb614 ≠ gb615)); have n6_ := Aside0.mk ((by rw [hg]; exact Nat.ne_of_gt (blk_lt (g := gb614) (o := .cells #[.int .i64 a0_0, .slice A0_1 l0_1.length c0_1] 30 (0, 0)) (by (with_reducible repeat (first | refine blk_drewN ?_ _ | refine blk_drew ?_ | refine blk_alloc ?_ _)); exact BK614.out)) : gb615 ≠ gb614)); clear BK614; clear HB; have BK614 := n0_; have HB := n1_; have BK615 := n2_; have GW615 := n3_; have GE615 := n4_; have NB614_615 := n5_; have NB615_614 := n6_; clear n0_ n1_ n2_ n3_ n4_ n5_ n6_; clear hb hbox hg))
   have n0_ := Aside0.mk (blk_drew BK614.out)
   have n1_ := Aside0.mk (blk_drew BK615.out)
   have n2_ := Aside0.mk (below_drew1 HB.out)
   clear BK614
   clear BK615
   clear HB
   have BK614 := n0_
   have BK615 := n1_
   have HB := n2_
   clear n0_ n1_ n2_
   refine start_ (n := 28) (S := fun w' => w'.cell? ⟨gb614, 0, none⟩ = some (.int .i64 a0_0) ∧ w'.cell? ⟨gb614, 1, none⟩ = some (.slice A0_1 l0_1.length c0_1) ∧ w'.cell? ⟨gb615, 0, none⟩ = some (.int .i64 a1_0) ∧ w'.cell? ⟨gb615, 1, none⟩ = some (.int .i64 a1_1)) (ds := []) (ar 0 28) (by kernel_rfl) rfl rfl ⟨(blk_cell BK614.out 0).trans rfl, (blk_cell BK614.out 1).trans rfl, (blk_cell BK615.out 0).trans rfl, (blk_cell BK615.out 1).trans rfl⟩ (fun hHeld => ?_); refine with_tabW impl_Complex_isPair.tab1 impl_Complex_isPair.bits1 (fun HT_ HW_ => ?_)
   generalize w22.drew = w23 at BK614 BK615 HB hHeld ⊢
   refine pure_ (i := 1) (N := some 6) (v := ?_) (a' := ?_) #[O,U,O,O,O,O,O,O,O,O,O,O,O,O,O,O,O,O,O,O,O,O,O,O,O,O,O,O] rfl rfl (any_of HT_.out (by kernel_rfl)) hh_ (Or.inl ⟨by rfl, ?_⟩) ?_ ?_; rotate_left; (intro w'; go_simp; with_reducible rfl); rotate_left; · simp only [nm_]; rfl
   refine take_ (i := 0) (N := some 5) (v := ?_) (a' := ?_) (ar 2 26) rfl rfl (take_ofW HT_.out HW_.out (by kernel_rfl)) hh_ (Or.inl ⟨by rfl, ?_⟩) hHeld ?_ ?_
   rotate_left; · rintro w' ⟨s0, s1, s2, s3⟩; go_simp; with_reducible rfl
   rotate_left; · simp only [nm_]; rfl
   refine take_ (i := 2) (N := some 7) (v := ?_) (a' := ?_) (ar 3 25) rfl rfl (take_ofW HT_.out HW_.out (by kernel_rfl)) hh_ (Or.inl ⟨by rfl, ?_⟩) hHeld ?_ ?_
   rotate_left; · rintro w' ⟨s0, s1, s2, s3⟩; go_simp; with_reducible rfl
   rotate_left; · simp only [nm_]; rfl
   refine one_ (i := 3) (N := some 8) (ar 4 24) rfl rfl (one_of HT_.out (by kernel_rfl)) (by decide) (fun K hK => ?_)
   refine goes_ Try.func76 (by kernel_rfl) rfl #[.agg #[.int .i64 a0_0, .slice A0_1 l0_1.length c0_1], .int .i64 a1_0] (by rfl) rfl rfl (by (try simp only [List.map_toArray, List.map_cons, List.map_nil]); first | done | rfl | (simp only [List.length_drop, List.length_take]; rfl)) ?_
   with_reducible refine (impl_Complex_has.calls k a0_0 _ _ l0_1 a1_0 true _ ?side1 ?side2 A3.out).mono ?_
   (case side1 => repeat (first | exact (Kd.C_below HR0_1.out HB.out) | (with_reducible refine Kd.C_alloc ?_ _) | (with_reducible refine Kd.C_drewN ?_ _) | (with_reducible refine Kd.C_drew ?_)))
   (case side2 => exact HC0_1.out)
   rintro e w24 ⟨rfl, hb⟩
   refine ⟨_, rfl, ?_⟩
   have n0_ := Aside0.mk (blk_below (g := gb614) (o := .cells #[.int .i64 a0_0, .slice A0_1 l0_1.length c0_1] 30 (0, 0)) (by (with_reducible repeat (first | refine blk_drewN ?_ _ | refine blk_drew ?_ | refine blk_alloc ?_ _)); exact BK614.out) hb)
   have n1_ := Aside0.mk (blk_below (g := gb615) (o := .cells #[.int .i64 a1_0, .int .i64 a1_1] 53 (0, 0)) (by (with_reducible repeat (first | refine blk_drewN ?_ _ | refine blk_drew ?_ | refine blk_alloc ?_ _)); exact BK615.out) hb)
   have n2_ := Aside0.mk (below_step (by repeat (first | (with_reducible first | exact HB.out | apply below_alloc | apply pw_below_drewN | apply below_drew1 | refine below_set ?_ GE614.out | refine below_set ?_ GE615.out) | exact HB.out)) hb)
   clear BK614
   clear BK615
   clear HB
   have BK614 := n0_
   have BK615 := n1_
   have HB := n2_
   clear n0_ n1_ n2_
   (try clear hb)
   (try clear hb2)
   (try clear hk)
   (try clear hi)
   refine hK.out _ _ ⟨(blk_cell BK614.out 0).trans rfl, (blk_cell BK614.out 1).trans rfl, (blk_cell BK615.out 0).trans rfl, (blk_cell BK615.out 1).trans rfl⟩ (fun hHeld => ?_)
   clear hK K
   refine norm_ (a' := ?_) ?_ ?_
   rotate_left
   ·show Act.put _ (some 8) _ = _
    simp only [nm_]
    rfl
   refine pure_ (i := 4) (N := some 9) (v := ?_) (a' := ?_) (ar 5 23) rfl rfl (any_of HT_.out (by kernel_rfl)) hh_ (Or.inl ⟨by rfl, ?_⟩) ?_ ?_; rotate_left; (intro w'; go_simp; with_reducible rfl); rotate_left; · simp only [nm_]; rfl
   refine pure_ (i := 6) (N := some 11) (v := ?_) (a' := ?_) #[U,U,U,U,U,O,U,O,O,O,O,O,O,O,O,O,O,O,O,O,O,O,O,O,O,O,O,O] rfl rfl (any_of HT_.out (by kernel_rfl)) hh_ (Or.inl ⟨by rfl, ?_⟩) ?_ ?_; rotate_left; (intro w'; go_simp; with_reducible rfl); rotate_left; · simp only [nm_]; rfl
   refine take_ (i := 5) (N := some 10) (v := ?_) (a' := ?_) (ar 7 21) rfl rfl (take_ofW HT_.out HW_.out (by kernel_rfl)) hh_ (Or.inl ⟨by rfl, ?_⟩) hHeld ?_ ?_
   rotate_left; · rintro w' ⟨s0, s1, s2, s3⟩; go_simp; with_reducible rfl
   rotate_left; · simp only [nm_]; rfl
   refine take_ (i := 7) (N := some 12) (v := ?_) (a' := ?_) (ar 8 20) rfl rfl (take_ofW HT_.out HW_.out (by kernel_rfl)) hh_ (Or.inl ⟨by rfl, ?_⟩) hHeld ?_ ?_
   rotate_left; · rintro w' ⟨s0, s1, s2, s3⟩; go_simp; with_reducible rfl
   rotate_left; · simp only [nm_]; rfl
   refine one_ (i := 8) (N := some 13) (ar 9 19) rfl rfl (one_of HT_.out (by kernel_rfl)) (by decide) (fun K hK => ?_)
   refine goes_ Try.func76 (by kernel_rfl) rfl #[.agg #[.int .i64 a0_0, .slice A0_1 l0_1.length c0_1], .int .i64 a1_1] (by rfl) rfl rfl (by (try simp only [List.map_toArray, List.map_cons, List.map_nil]); first | done | rfl | (simp only [List.length_drop, List.length_take]; rfl)) ?_
   with_reducible refine (impl_Complex_has.calls k a0_0 _ _ l0_1 a1_1 false _ ?side1 ?side2 A5.out).mono ?_
   (case side1 => repeat (first | exact (Kd.C_below HR0_1.out HB.out) | (with_reducible refine Kd.C_alloc ?_ _) | (with_reducible refine Kd.C_drewN ?_ _) | (with_reducible refine Kd.C_drew ?_)))
   (case side2 => exact HC0_1.out)
   rintro e w25 ⟨rfl, hb⟩
   refine ⟨_, rfl, ?_⟩
   have n0_ := Aside0.mk (blk_below (g := gb614) (o := .cells #[.int .i64 a0_0, .slice A0_1 l0_1.length c0_1] 30 (0, 0)) (by (with_reducible repeat (first | refine blk_drewN ?_ _ | refine blk_drew ?_ | refine blk_alloc ?_ _)); exact BK614.out) hb)
   have n1_ := Aside0.mk (blk_below (g := gb615) (o := .cells #[.int .i64 a1_0, .int .i64 a1_1] 53 (0, 0)) (by (with_reducible repeat (first | refine blk_drewN ?_ _ | refine blk_drew ?_ | refine blk_alloc ?_ _)); exact BK615.out) hb)
   have n2_ := Aside0.mk (below_step (by repeat (first | (with_reducible first | exact HB.out | apply below_alloc | apply pw_below_drewN | apply below_drew1 | refine below_set ?_ GE614.out | refine below_set ?_ GE615.out) | exact HB.out)) hb)
   clear BK614
   clear BK615
   clear HB
   have BK614 := n0_
   have BK615 := n1_
   have HB := n2_
   clear n0_ n1_ n2_
   (try clear hb)
   (try clear hb2)
   (try clear hk)
   (try clear hi)
   refine hK.out _ _ ⟨(blk_cell BK614.out 0).trans rfl, (blk_cell BK614.out 1).trans rfl, (blk_cell BK615.out 0).trans rfl, (blk_cell BK615.out 1).trans rfl⟩ (fun hHeld => ?_)
   clear hK K
   refine norm_ (a' := ?_) ?_ ?_
   rotate_left
   ·show Act.put _ (some 13) _ = _
    simp only [nm_]
    rfl
   refine pure_ (i := 9) (N := some 14) (v := ?_) (a' := ?_) (ar 10 18) rfl rfl (any_of HT_.out (by kernel_rfl)) hh_ (Or.inl ⟨by rfl, ?_⟩) ?_ ?_; rotate_left; (intro w'; go_simp; with_reducible rfl); rotate_left; · simp only [nm_]; rfl
   refine pure_ (i := 10) (N := some 15) (v := ?_) (a' := ?_) (ar 11 17) rfl rfl (any_of HT_.out (by kernel_rfl)) hh_ (Or.inl ⟨by rfl, ?_⟩) ?_ ?_; rotate_left; (intro w'; go_simp; with_reducible rfl); rotate_left; · simp only [nm_]; rfl
   refine pure_ (i := 11) (N := some 16) (v := undef) (a' := ?_) (ar 12 16) rfl rfl (any_of HT_.out (by kernel_rfl)) hh_ (Or.inr ⟨by rfl, rfl⟩) ?_ ?_; rotate_left; · simp only [nm_]; rfl
   refine pure_ (i := 12) (N := some 17) (v := undef) (a' := ?_) (ar 13 15) rfl rfl (any_of HT_.out (by kernel_rfl)) hh_ (Or.inr ⟨by rfl, rfl⟩) ?_ ?_; rotate_left; · simp only [nm_]; rfl
   refine pure_ (i := 13) (N := some 18) (v := undef) (a' := ?_) (ar 14 14) rfl rfl (any_of HT_.out (by kernel_rfl)) hh_ (Or.inr ⟨by rfl, rfl⟩) ?_ ?_; rotate_left; · simp only [nm_]; rfl
   refine pure_ (i := 14) (N := some 19) (v := undef) (a' := ?_) (ar 15 13) rfl rfl (any_of HT_.out (by kernel_rfl)) hh_ (Or.inr ⟨by rfl, rfl⟩) ?_ ?_; rotate_left; · simp only [nm_]; rfl
   refine pure_ (i := 15) (N := some 20) (v := undef) (a' := ?_) (ar 16 12) rfl rfl (any_of HT_.out (by kernel_rfl)) hh_ (Or.inr ⟨by rfl, rfl⟩) ?_ ?_; rotate_left; · simp only [nm_]; rfl
   refine pure_ (i := 16) (N := some 21) (v := ?_) (a' := ?_) (ar 17 11) rfl rfl (any_of HT_.out (by kernel_rfl)) hh_ (Or.inl ⟨by rfl, ?_⟩) ?_ ?_; rotate_left; (intro w'; go_simp; with_reducible rfl); rotate_left; · simp only [nm_]; rfl
   refine pure_ (i := 17) (N := some 22) (v := ?_) (a' := ?_) (ar 18 10) rfl rfl (any_of HT_.out (by kernel_rfl)) hh_ (Or.inl ⟨by rfl, ?_⟩) ?_ ?_; rotate_left; (intro w'; go_simp; with_reducible rfl); rotate_left; · simp only [nm_]; rfl
   refine pure_ (i := 18) (N := some 23) (v := undef) (a' := ?_) (ar 19 9) rfl rfl (any_of HT_.out (by kernel_rfl)) hh_ (Or.inr ⟨by rfl, rfl⟩) ?_ ?_; rotate_left; · simp only [nm_]; rfl
   refine pure_ (i := 19) (N := some 24) (v := undef) (a' := ?_) (ar 20 8) rfl rfl (any_of HT_.out (by kernel_rfl)) hh_ (Or.inr ⟨by rfl, rfl⟩) ?_ ?_; rotate_left; · simp only [nm_]; rfl
   refine pure_ (i := 20) (N := some 25) (v := undef) (a' := ?_) (ar 21 7) rfl rfl (any_of HT_.out (by kernel_rfl)) hh_ (Or.inr ⟨by rfl, rfl⟩) ?_ ?_; rotate_left; · simp only [nm_]; rfl
   refine pure_ (i := 21) (N := some 26) (v := undef) (a' := ?_) (ar 22 6) rfl rfl (any_of HT_.out (by kernel_rfl)) hh_ (Or.inr ⟨by rfl, rfl⟩) ?_ ?_; rotate_left; · simp only [nm_]; rfl
   refine pure_ (i := 22) (N := some 27) (v := undef) (a' := ?_) (ar 23 5) rfl rfl (any_of HT_.out (by kernel_rfl)) hh_ (Or.inr ⟨by rfl, rfl⟩) ?_ ?_; rotate_left; · simp only [nm_]; rfl
   refine pure_ (i := 23) (N := some 28) (v := undef) (a' := ?_) (ar 24 4) rfl rfl (any_of HT_.out (by kernel_rfl)) hh_ (Or.inr ⟨by rfl, rfl⟩) ?_ ?_; rotate_left; · simp only [nm_]; rfl
   refine pure_ (i := 24) (N := some 29) (v := undef) (a' := ?_) (ar 25 3) rfl rfl (any_of HT_.out (by kernel_rfl)) hh_ (Or.inr ⟨by rfl, rfl⟩) ?_ ?_; rotate_left; · simp only [nm_]; rfl
   refine pure_ (i := 25) (N := some 30) (v := undef) (a' := ?_) (ar 26 2) rfl rfl (any_of HT_.out (by kernel_rfl)) hh_ (Or.inr ⟨by rfl, rfl⟩) ?_ ?_; rotate_left; · simp only [nm_]; rfl
   refine pure_ (i := 26) (N := some 31) (v := ?_) (a' := ?_) (ar 27 1) rfl rfl (any_of HT_.out (by kernel_rfl)) hh_ (Or.inl ⟨by rfl, ?_⟩) ?_ ?_; rotate_left; (intro w'; go_simp; with_reducible rfl); rotate_left; · simp only [nm_]; rfl
   refine pure_ (i := 27) (N := some 4) (v := ?_) (a' := ?_) (ar 28 0) rfl rfl (any_of HT_.out (by kernel_rfl)) hh_ (Or.inl ⟨by rfl, ?_⟩) ?_ ?_; rotate_left; (intro w'; go_simp; with_reducible rfl); rotate_left; · simp only [nm_]; rfl
   refine done_ (done_of HT_.out (by kernel_rfl)) ?_
   try go_wp2
   go_ret
   exact ⟨by first | rfl | (simp [errW_none, errW_some] <;> rfl) | (simp [*, errW_none, errW_some] <;> rfl), by repeat (first | (with_reducible first | exact HB.out | apply below_alloc | apply pw_below_drewN | apply below_drew1 | refine below_set ?_ GE614.out | refine below_set ?_ GE615.out) | exact HB.out)⟩
 ·replace c4 := Bool.eq_false_iff.mpr c4
  subst c4
  have H1 : (some false) = some r := by rw [if_neg (show ¬ (false = true) by decide)] at H; exact H
  clear H
  have H := H1
  clear H1
  obtain rfl := Option.some.inj H
  go_enter Try.func88, Try.ntmps88
  try go_wp2_with (first | ((with_reducible refine gate_dst (N := 2) rfl ?_); refine box_event ?hg (N := 2) ?hd (cs := #[.int .i64 a0_0, .slice A0_1 l0_1.length c0_1]) (t := 30) ?hr ?_; (case hd => rfl); (case hg => rfl); (case hr => first | (go_simp; done) | (go_simp; rfl)); intro gb614 hg w26 hbox hb; have n0_ := Aside0.mk (below_step (by repeat (first | (with_reducible first | exact HB.out | apply below_alloc | apply pw_below_drewN | apply below_drew1) | exact HB.out)) hb); have n1_ := Aside0.mk (hbox); have n2_ := Aside0.mk ((by rw [hg]; exact (below_size (by repeat (first | (with_reducible first | exact HB.out | apply below_alloc | apply pw_below_drewN | apply below_drew1) | exact HB.out))) : w.heap.size ≤ gb614)); have n3_ := Aside0.mk ((by rw [hg]; exact (below_size (by repeat (first | (with_reducible first | exact HB.out | apply below_alloc | apply pw_below_drewN | apply below_drew1) | exact HB.out))) : w.heap.size ≤ gb614)); clear HB; have HB := n0_; have BK614 := n1_; have GW614 := n2_; have GE614 := n3_; clear n0_ n1_ n2_ n3_; clear hb hbox hg) | ((with_reducible refine gate_dst (N := 3) rfl ?_); refine box_event ?hg (N := 3) ?hd (cs := #[.int .i64 a1_0, .int .i64 a1_1]) (t := 53) ?hr ?_; (case hd => rfl); (case hg => rfl); (case hr => first | (go_simp; done) | (go_simp; rfl)); intro gb615 hg w27 hbox hb; have n0_ := Aside0.mk (blk_below (g := gb614) (o := .cells #[.int .i64 a0_0, .slice A0_1 l0_1.length c0_1] 30 (0, 0)) (by (with_reducible repeat (first | refine blk_drewN ?_ _ | refine blk_drew ?_ | refine blk_alloc ?_ _)); exact BK614.out) hb); have n1_ := Aside0.mk (below_step (by repeat (first | (with_reducible first | exact HB.out | apply below_alloc | apply pw_below_drewN | apply below_drew1 | refine below_set ?_ GE614.out) | exact HB.out)) hb); have n2_ := Aside0.mk (hbox); have n3_ := Aside0.mk ((by rw [hg]; exact (below_size (by repeat (first | (with_reducible first | exact HB.out | apply below_alloc | apply pw_below_drewN | apply below_drew1 | refine below_set ?_ GE614.out) | exact HB.out))) : w.heap.size ≤ gb615)); have n4_ := Aside0.mk ((by rw [hg]; exact (below_size (by repeat (first | (with_reducible first | exact HB.out | apply below_alloc | apply pw_below_drewN | apply below_drew1 | refine below_set ?_ GE614.out) | exact HB.out))) : w.heap.size ≤ gb615)); have n5_ := Aside0.mk ((by rw [hg]; exact Nat.ne_of_lt (blk_lt (g := gb614) (o := .cells #[.int .i64 a0_0, .slice A0_1 l0_1.length c0_1] 30 (0, 0)) (by (with_reducible repeat (first | refine blk_drewN ?_ _ | refine blk_drew ?_ | refine blk_alloc ?_ _)); exact BK614.out)) : gb614 ≠ gb615)); have n6_ := Aside0.mk ((by rw [hg]; exact Nat.ne_of_gt (blk_lt (g := gb614) (o := .cells #[.int .i64 a0_0, .slice A0_1 l0_1.length c0_1] 30 (0, 0)) (by (with_reducible repeat (first | refine blk_drewN ?_ _ | refine blk_drew ?_ | refine blk_alloc ?_ _)); exact BK614.out)) : gb615 ≠ gb614)); clear BK614; clear HB; have BK614 := n0_; have HB := n1_; have BK615 := n2_; have GW615 := n3_; have GE615 := n4_; have NB614_615 := n5_; have NB615_614 := n6_; clear n0_ n1_ n2_ n3_ n4_ n5_ n6_; clear hb hbox hg))
  have n0_ := Aside0.mk (blk_drew BK614.out)
  have n1_ := Aside0.mk (blk_drew BK615.out)
  have n2_ := Aside0.mk (below_drew1 HB.out)
  clear BK614
  clear BK615
  clear HB
  have BK614 := n0_
  have BK615 := n1_
  have HB := n2_
  clear n0_ n1_ n2_
  refine start_ (n := 28) (S := fun w' => w'.cell? ⟨gb614, 0, none⟩ = some (.int .i64 a0_0) ∧ w'.cell? ⟨gb614, 1, none⟩ = some (.slice A0_1 l0_1.length c0_1) ∧ w'.cell? ⟨gb615, 0, none⟩ = some (.int .i64 a1_0) ∧ w'.cell? ⟨gb615, 1, none⟩ = some (.int .i64 a1_1)) (ds := []) (ar 0 28) (by kernel_rfl) rfl rfl ⟨(blk_cell BK614.out 0).trans rfl, (blk_cell BK614.out 1).trans rfl, (blk_cell BK615.out 0).trans rfl, (blk_cell BK615.out 1).trans rfl⟩ (fun hHeld => ?_); refine with_tabW impl_Complex_isPair.tab1 impl_Complex_isPair.bits1 (fun HT_ HW_ => ?_)
  generalize w27.drew = w28 at BK614 BK615 HB hHeld ⊢
  refine pure_ (i := 1) (N := some 6) (v := ?_) (a' := ?_) #[O,U,O,O,O,O,O,O,O,O,O,O,O,O,O,O,O,O,O,O,O,O,O,O,O,O,O,O] rfl rfl (any_of HT_.out (by kernel_rfl)) hh_ (Or.inl ⟨by rfl, ?_⟩) ?_ ?_; rotate_left; (intro w'; go_simp; with_reducible rfl); rotate_left; · simp only [nm_]; rfl
  refine take_ (i := 0) (N := some 5) (v := ?_) (a' := ?_) (ar 2 26) rfl rfl (take_ofW HT_.out HW_.out (by kernel_rfl)) hh_ (Or.inl ⟨by rfl, ?_⟩) hHeld ?_ ?_
  rotate_left; · rintro w' ⟨s0, s1, s2, s3⟩; go_simp; with_reducible rfl
  rotate_left; · simp only [nm_]; rfl
  refine take_ (i := 2) (N := some 7) (v := ?_) (a' := ?_) (ar 3 25) rfl rfl (take_ofW HT_.out HW_.out (by kernel_rfl)) hh_ (Or.inl ⟨by rfl, ?_⟩) hHeld ?_ ?_
  rotate_left; · rintro w' ⟨s0, s1, s2, s3⟩; go_simp; with_reducible rfl
  rotate_left; · simp only [nm_]; rfl
  refine one_ (i := 3) (N := some 8) (ar 4 24) rfl rfl (one_of HT_.out (by kernel_rfl)) (by decide) (fun K hK => ?_)
  refine goes_ Try.func76 (by kernel_rfl) rfl #[.agg #[.int .i64 a0_0, .slice A0_1 l0_1.length c0_1], .int .i64 a1_0] (by rfl) rfl rfl (by (try simp only [List.map_toArray, List.map_cons, List.map_nil]); first | done | rfl | (simp only [List.length_drop, List.length_take]; rfl)) ?_
  with_reducible refine (impl_Complex_has.calls k a0_0 _ _ l0_1 a1_0 false _ ?side1 ?side2 A3.out).mono ?_
  (case side1 => repeat (first | exact (Kd.C_below HR0_1.out HB.out) | (with_reducible refine Kd.C_alloc ?_ _) | (with_reducible refine Kd.C_drewN ?_ _) | (with_reducible refine Kd.C_drew ?_)))
  (case side2 => exact HC0_1.out)
  rintro e w29 ⟨rfl, hb⟩
  refine ⟨_, rfl, ?_⟩
  have n0_ := Aside0.mk (blk_below (g := gb614) (o := .cells #[.int .i64 a0_0, .slice A0_1 l0_1.length c0_1] 30 (0, 0)) (by (with_reducible repeat (first | refine blk_drewN ?_ _ | refine blk_drew ?_ | refine blk_alloc ?_ _)); exact BK614.out) hb)
  have n1_ := Aside0.mk (blk_below (g := gb615) (o := .cells #[.int .i64 a1_0, .int .i64 a1_1] 53 (0, 0)) (by (with_reducible repeat (first | refine blk_drewN ?_ _ | refine blk_drew ?_ | refine blk_alloc ?_ _)); exact BK615.out) hb)
  have n2_ := Aside0.mk (below_step (by repeat (first | (with_reducible first | exact HB.out | apply below_alloc | apply pw_below_drewN | apply below_drew1 | refine below_set ?_ GE614.out | refine below_set ?_ GE615.out) | exact HB.out)) hb)
  clear BK614
  clear BK615
  clear HB
  have BK614 := n0_
  have BK615 := n1_
  have HB := n2_
  clear n0_ n1_ n2_
  (try clear hb)
  (try clear hb2)
  (try clear hk)
  (try clear hi)
  refine hK.out _ _ ⟨(blk_cell BK614.out 0).trans rfl, (blk_cell BK614.out 1).trans rfl, (blk_cell BK615.out 0).trans rfl, (blk_cell BK615.out 1).trans rfl⟩ (fun hHeld => ?_)
  clear hK K
  refine norm_ (a' := ?_) ?_ ?_
  rotate_left
  ·show Act.put _ (some 8) _ = _
   simp only [nm_]
   rfl
  refine pure_ (i := 4) (N := some 9) (v := ?_) (a' := ?_) (ar 5 23) rfl rfl (any_of HT_.out (by kernel_rfl)) hh_ (Or.inl ⟨by rfl, ?_⟩) ?_ ?_; rotate_left; (intro w'; go_simp; with_reducible rfl); rotate_left; · simp only [nm_]; rfl
  refine pure_ (i := 5) (N := some 10) (v := undef) (a' := ?_) (ar 6 22) rfl rfl (any_of HT_.out (by kernel_rfl)) hh_ (Or.inr ⟨by rfl, rfl⟩) ?_ ?_; rotate_left; · simp only [nm_]; rfl
  refine pure_ (i := 6) (N := some 11) (v := undef) (a' := ?_) (ar 7 21) rfl rfl (any_of HT_.out (by kernel_rfl)) hh_ (Or.inr ⟨by rfl, rfl⟩) ?_ ?_; rotate_left; · simp only [nm_]; rfl
  refine pure_ (i := 7) (N := some 12) (v := undef) (a' := ?_) (ar 8 20) rfl rfl (any_of HT_.out (by kernel_rfl)) hh_ (Or.inr ⟨by rfl, rfl⟩) ?_ ?_; rotate_left; · simp only [nm_]; rfl
  refine pure_ (i := 8) (N := some 13) (v := undef) (a' := ?_) (ar 9 19) rfl rfl (any_of HT_.out (by kernel_rfl)) hh_ (Or.inr ⟨by rfl, rfl⟩) ?_ ?_; rotate_left; · simp only [nm_]; rfl
  refine pure_ (i := 9) (N := some 14) (v := ?_) (a' := ?_) (ar 10 18) rfl rfl (any_of HT_.out (by kernel_rfl)) hh_ (Or.inl ⟨by rfl, ?_⟩) ?_ ?_; rotate_left; (intro w'; go_simp; with_reducible rfl); rotate_left; · simp only [nm_]; rfl
  refine pure_ (i := 10) (N := some 15) (v := ?_) (a' := ?_) (ar 11 17) rfl rfl (any_of HT_.out (by kernel_rfl)) hh_ (Or.inl ⟨by rfl, ?_⟩) ?_ ?_; rotate_left; (intro w'; go_simp; with_reducible rfl); rotate_left; · simp only [nm_]; rfl
  refine pure_ (i := 11) (N := some 16) (v := undef) (a' := ?_) (ar 12 16) rfl rfl (any_of HT_.out (by kernel_rfl)) hh_ (Or.inr ⟨by rfl, rfl⟩) ?_ ?_; rotate_left; · simp only [nm_]; rfl
  refine pure_ (i := 12) (N := some 17) (v := undef) (a' := ?_) (ar 13 15) rfl rfl (any_of HT_.out (by kernel_rfl)) hh_ (Or.inr ⟨by rfl, rfl⟩) ?_ ?_; rotate_left; · simp only [nm_]; rfl
  refine pure_ (i := 13) (N := some 18) (v := undef) (a' := ?_) (ar 14 14) rfl rfl (any_of HT_.out (by kernel_rfl)) hh_ (Or.inr ⟨by rfl, rfl⟩) ?_ ?_; rotate_left; · simp only [nm_]; rfl
  refine pure_ (i := 14) (N := some 19) (v := undef) (a' := ?_) (ar 15 13) rfl rfl (any_of HT_.out (by kernel_rfl)) hh_ (Or.inr ⟨by rfl, rfl⟩) ?_ ?_; rotate_left; · simp only [nm_]; rfl
  refine pure_ (i := 15) (N := some 20) (v := undef) (a' := ?_) (ar 16 12) rfl rfl (any_of HT_.out (by kernel_rfl)) hh_ (Or.inr ⟨by rfl, rfl⟩) ?_ ?_; rotate_left; · simp only [nm_]; rfl
  refine pure_ (i := 16) (N := some 21) (v := ?_) (a' := ?_) (ar 17 11) rfl rfl (any_of HT_.out (by kernel_rfl)) hh_ (Or.inl ⟨by rfl, ?_⟩) ?_ ?_; rotate_left; (intro w'; go_simp; with_reducible rfl); rotate_left; · simp only [nm_]; rfl
  refine pure_ (i := 17) (N := some 22) (v := ?_) (a' := ?_) (ar 18 10) rfl rfl (any_of HT_.out (by kernel_rfl)) hh_ (Or.inl ⟨by rfl, ?_⟩) ?_ ?_; rotate_left; (intro w'; go_simp; with_reducible rfl); rotate_left; · simp only [nm_]; rfl
  refine pure_ (i := 18) (N := some 23) (v := undef) (a' := ?_) (ar 19 9) rfl rfl (any_of HT_.out (by kernel_rfl)) hh_ (Or.inr ⟨by rfl, rfl⟩) ?_ ?_; rotate_left; · simp only [nm_]; rfl
  refine pure_ (i := 19) (N := some 24) (v := undef) (a' := ?_) (ar 20 8) rfl rfl (any_of HT_.out (by kernel_rfl)) hh_ (Or.inr ⟨by rfl, rfl⟩) ?_ ?_; rotate_left; · simp only [nm_]; rfl
  refine pure_ (i := 20) (N := some 25) (v := undef) (a' := ?_) (ar 21 7) rfl rfl (any_of HT_.out (by kernel_rfl)) hh_ (Or.inr ⟨by rfl, rfl⟩) ?_ ?_; rotate_left; · simp only [nm_]; rfl
  refine pure_ (i := 21) (N := some 26) (v := undef) (a' := ?_) (ar 22 6) rfl rfl (any_of HT_.out (by kernel_rfl)) hh_ (Or.inr ⟨by rfl, rfl⟩) ?_ ?_; rotate_left; · simp only [nm_]; rfl
  refine pure_ (i := 22) (N := some 27) (v := undef) (a' := ?_) (ar 23 5) rfl rfl (any_of HT_.out (by kernel_rfl)) hh_ (Or.inr ⟨by rfl, rfl⟩) ?_ ?_; rotate_left; · simp only [nm_]; rfl
  refine pure_ (i := 23) (N := some 28) (v := undef) (a' := ?_) (ar 24 4) rfl rfl (any_of HT_.out (by kernel_rfl)) hh_ (Or.inr ⟨by rfl, rfl⟩) ?_ ?_; rotate_left; · simp only [nm_]; rfl
  refine pure_ (i := 24) (N := some 29) (v := undef) (a' := ?_) (ar 25 3) rfl rfl (any_of HT_.out (by kernel_rfl)) hh_ (Or.inr ⟨by rfl, rfl⟩) ?_ ?_; rotate_left; · simp only [nm_]; rfl
  refine pure_ (i := 25) (N := some 30) (v := undef) (a' := ?_) (ar 26 2) rfl rfl (any_of HT_.out (by kernel_rfl)) hh_ (Or.inr ⟨by rfl, rfl⟩) ?_ ?_; rotate_left; · simp only [nm_]; rfl
  refine pure_ (i := 26) (N := some 31) (v := ?_) (a' := ?_) (ar 27 1) rfl rfl (any_of HT_.out (by kernel_rfl)) hh_ (Or.inl ⟨by rfl, ?_⟩) ?_ ?_; rotate_left; (intro w'; go_simp; with_reducible rfl); rotate_left; · simp only [nm_]; rfl
  refine pure_ (i := 27) (N := some 4) (v := ?_) (a' := ?_) (ar 28 0) rfl rfl (any_of HT_.out (by kernel_rfl)) hh_ (Or.inl ⟨by rfl, ?_⟩) ?_ ?_; rotate_left; (intro w'; go_simp; with_reducible rfl); rotate_left; · simp only [nm_]; rfl
  refine done_ (done_of HT_.out (by kernel_rfl)) ?_
  try go_wp2
  go_ret
  exact ⟨by first | rfl | (simp [errW_none, errW_some] <;> rfl) | (simp [*, errW_none, errW_some] <;> rfl), by repeat (first | (with_reducible first | exact HB.out | apply below_alloc | apply pw_below_drewN | apply below_drew1 | refine below_set ?_ GE614.out | refine below_set ?_ GE615.out) | exact HB.out)⟩

end Go.Proofs.Ytniikppojffiaaa.Q
end

section
/- Pairs of a complex, pairings. -/
namespace Go.Proofs.Ytniikppojffiaaa.K
open Go.RowKit Go.Shelf Go.Proofs.Ytniikppojffiaaa.Q Go.Proofs.YtniikppojffiaaaW.PrintWords Go.Proofs.YtniikppojffiaaaW.PrintLast Go.Proofs.YtniikppojffiaaaW.PrintMore
set_option linter.unusedVariables false
set_option linter.unusedSimpArgs false

/-- Two numbers are a pair of a complex. -/
def pairK (l : List Int) (p : PairT) : Bool := hasB l p.f0 && hasB l p.f1 && inB p.f0 p.f1 && decide (onesI p.f1 = onesI p.f0 + 1)
/-- A number is in one of the first i pairs. -/
def seenB (q : List PairT) (i : Nat) (x : Int) : Bool := (q.take i).any fun r => r.f0 == x || r.f1 == x
def okAt (l : List Int) (q : List PairT) (i : Nat) : Bool :=
 let p := q.getD i z53
 let r := q.getD (i - 1) z53
 pairK l p && !seenB q i p.f0 && !seenB q i p.f1 && (i == 0 || decide (cmp2 r.f0 r.f1 p.f0 p.f1 < 0))
/-- The list is a pairing. -/
def pingB (l : List Int) (q : List PairT) : Bool := (List.range q.length).all (okAt l q)
theorem ping_false {l : List Int} {q : List PairT} {i : Nat} (hi : i < q.length) (h : okAt l q i = false) : pingB l q = false := by
 unfold pingB
 rw [List.all_eq_false]
 exact ⟨i, List.mem_range.2 hi, by simp [h]⟩
theorem ping_true {l : List Int} {q : List PairT} (h : ∀ i, i < q.length → okAt l q i = true) : pingB l q = true := by
 unfold pingB
 rw [List.all_eq_true]
 exact fun i hi => h i (List.mem_range.1 hi)
theorem ping_at {l : List Int} {q : List PairT} (h : pingB l q = true) (i : Nat) (hi : i < q.length) : okAt l q i = true := by
 unfold pingB at h
 rw [List.all_eq_true] at h
 exact h i (List.mem_range.2 hi)
theorem okAt_eq (l : List Int) (q : List PairT) (i : Nat) (hi : i < q.length) : okAt l q i = (pairK l q[i] && !seenB q i q[i].f0 && !seenB q i q[i].f1 && (i == 0 || decide (cmp2 (q.getD (i - 1) z53).f0 (q.getD (i - 1) z53).f1 q[i].f0 q[i].f1 < 0))) := by
 have : q.getD i z53 = q[i] := by simp [hi]
 simp only [okAt, this]
theorem seen_succ (q : List PairT) (i : Nat) (hi : i < q.length) (x : Int) : seenB q (i + 1) x = (seenB q i x || (q[i].f0 == x || q[i].f1 == x)) := by
 unfold seenB
 rw [List.take_succ_eq_append_getElem hi, List.any_append]
 simp
theorem pairK_mem {l : List Int} {n : Int} (hi : isC n l = true) {p : PairT} (h : pairK l p = true) : (p.f0 ∈ l ∧ 1 ≤ p.f0 ∧ p.f0 ≤ 63) ∧ (p.f1 ∈ l ∧ 1 ≤ p.f1 ∧ p.f1 ≤ 63) ∧ inB p.f0 p.f1 = true ∧ onesI p.f1 = onesI p.f0 + 1 := by
 unfold pairK at h
 simp only [Bool.and_eq_true, decide_eq_true_eq] at h
 exact ⟨has_mem hi h.1.1.1, has_mem hi h.1.1.2, h.1.2, h.2⟩
end Go.Proofs.Ytniikppojffiaaa.K
end

section
/- The reference's numbers of vertices, dimensions, Euler numbers. -/
namespace Go.Proofs.Ytniikppojffiaaa.K
open Go.RowKit Go.Shelf Go.Proofs.Ytniikppojffiaaa.Q Go.Proofs.YtniikppojffiaaaW.PrintWords Go.Proofs.YtniikppojffiaaaW.PrintLast Go.Proofs.YtniikppojffiaaaW.PrintMore
set_option linter.unusedVariables false
set_option linter.unusedSimpArgs false

theorem specOnes_64 : ∀ m : Fin 64, spec_l01Ones.f 8 (m.val : Int) = some (onesI (m.val : Int)) := by decide +kernel
theorem specOnes_is (f : Int) (h1 : 0 ≤ f) (h2 : f ≤ 63) (k : Nat) (hk : 8 ≤ k) : spec_l01Ones.f k f = some (onesI f) := by
 obtain ⟨m, rfl⟩ := Int.eq_ofNat_of_zero_le h1
 exact at_rounds (fun k => spec_l01Ones.mono _ k) hk (specOnes_64 ⟨m, by omega⟩)
theorem ones_64 : ∀ m : Fin 64, m.val ≠ 0 → 1 ≤ onesI (m.val : Int) ∧ onesI (m.val : Int) ≤ 6 := by decide +kernel
theorem ones_range (f : Int) (h1 : 1 ≤ f) (h2 : f ≤ 63) : 1 ≤ onesI f ∧ onesI f ≤ 6 := by
 obtain ⟨m, rfl⟩ := Int.eq_ofNat_of_zero_le (show 0 ≤ f by omega)
 exact ones_64 ⟨m, by omega⟩ (by show m ≠ 0; omega)

end Go.Proofs.Ytniikppojffiaaa.K
end

section
/- Bits of small sets. -/
namespace Go.Proofs.Ytniikppojffiaaa.K
open Go.RowKit Go.Shelf Go.Proofs.YtniikppojffiaaaW.PrintWords Go.Proofs.YtniikppojffiaaaW.PrintLast Go.Proofs.YtniikppojffiaaaW.PrintMore
set_option linter.unusedVariables false
set_option linter.unusedSimpArgs false

theorem and_64 : ∀ a b : Fin 64, Go.bits .and .i64 (a.val : Int) (b.val : Int) = Go.bits .and .i64 (b.val : Int) (a.val : Int) := by decide +kernel
theorem inB_64 : ∀ a b : Fin 64, inB (a.val : Int) (b.val : Int) = decide (Go.bits .and .i64 (a.val : Int) (b.val : Int) = (a.val : Int)) := by decide +kernel
theorem small2 {P : Int → Int → Prop} (h : ∀ a b : Fin 64, P (a.val : Int) (b.val : Int)) (x y : Int) (hx : 0 ≤ x ∧ x ≤ 63) (hy : 0 ≤ y ∧ y ≤ 63) : P x y := by
 obtain ⟨m, rfl⟩ := Int.eq_ofNat_of_zero_le hx.1
 obtain ⟨k, rfl⟩ := Int.eq_ofNat_of_zero_le hy.1
 exact h ⟨m, by omega⟩ ⟨k, by omega⟩
theorem and_comm' (x y : Int) (hx : 0 ≤ x ∧ x ≤ 63) (hy : 0 ≤ y ∧ y ≤ 63) : Go.bits .and .i64 x y = Go.bits .and .i64 y x := small2 (P := fun x y => Go.bits .and .i64 x y = Go.bits .and .i64 y x) and_64 x y hx hy
theorem inB_is (x y : Int) (hx : 0 ≤ x ∧ x ≤ 63) (hy : 0 ≤ y ∧ y ≤ 63) : inB x y = decide (Go.bits .and .i64 x y = x) := small2 (P := fun x y => inB x y = decide (Go.bits .and .i64 x y = x)) inB_64 x y hx hy

end Go.Proofs.Ytniikppojffiaaa.K
end

section
/- complexCode and always. -/
namespace Go.Proofs.Ytniikppojffiaaa.K
open Go.RowKit Go.Shelf Go.Proofs.YtniikppojffiaaaW.PrintWords Go.Proofs.YtniikppojffiaaaW.PrintLast Go.Proofs.YtniikppojffiaaaW.PrintMore
set_option linter.unusedVariables false
set_option linter.unusedSimpArgs false

theorem always_calls (w : World) : Calls Try.prog 63 #[] w fun e w' => e = .returned (.bool true) ∧ Grew w w' := by
 go_enter Try.func63, Try.ntmps63
 go_wp2_with fail
 go_ret
 exact ⟨rfl, Grew.refl w⟩
theorem always_answers (w : World) : Answers w 63 (#[] ++ #[]) (.bool true) := fun W _ => always_calls W

/-- The code of a complex and of a range. -/
def codeOf (n : Int) (l : List Int) (b : Bool) : Int := if isC n l then (if b then 0 else 2) else 1
theorem codeOf_zero {n : Int} {l : List Int} {b : Bool} (h : codeOf n l b = 0) : isC n l = true ∧ b = true := by
 unfold codeOf at h
 cases hi : isC n l <;> cases b <;> simp [hi] at h ⊢

set_option maxHeartbeats 1000000 in
theorem complexCode_calls (b : Bool) (n : Int) (A : Option Addr) (c : Nat) (l : List Int) (g : Nat) (first caps : Array Value) (w : World) (hk : Kx w A c l) (eg : EntersG g)
  (ha : isC n l = true → Answers w g (first ++ caps) (.bool b)) :
  Calls Try.prog 62 #[.agg #[I n, .slice A l.length c], .func (.func g) first caps] w fun e w' => e = .returned (I (codeOf n l b)) ∧ Grew w w' := by
 have hg : Grew w (w.alloc (.cells #[I n, .slice A l.length c] 30)) := below_alloc (Grew.refl w) _
 have H := Aside0.mk (IsComplex_calls n A c l _ (hk.later hg).r hk.c hk.b)
 have HA := Aside0.mk ha
 have HG := Aside0.mk hg
 clear hk ha hg
 obtain ⟨i, hi⟩ : ∃ i, i = isC n l := ⟨_, rfl⟩
 rw [← hi] at H
 cases i with
 | false =>
  have HV : Aside0 (codeOf n l b = 1) := ⟨by simp [codeOf, ← hi]⟩
  clear hi
  go_enter Try.func62, Try.ntmps62
  go_wp2_with fail
  refine H.out.mono ?_
  rintro e w1 ⟨rfl, hG1⟩
  go_wp2_with fail
  go_ret
  exact ⟨by rw [HV.out]; rfl, Grew.trans HG.out hG1⟩
 | true =>
  have HA2 := Aside0.mk (HA.out hi.symm)
  have HI := Aside0.mk hi
  clear hi HA
  cases b with
  | false =>
   have HV : Aside0 (codeOf n l false = 2) := ⟨by simp [codeOf, ← HI.out]⟩
   go_enter Try.func62, Try.ntmps62
   go_wp2_with fail
   refine H.out.mono ?_
   rintro e w1 ⟨rfl, hG1⟩
   have HG1 := Aside0.mk (Grew.trans HG.out hG1)
   have hcall := HA2.out w1 HG1.out
   clear hG1
   go_wp2_with fail
   refine hcall.mono ?_
   rintro e w2 ⟨rfl, hG2⟩
   clear hcall
   go_wp2_with fail
   go_ret
   exact ⟨by rw [HV.out]; rfl, Grew.trans HG1.out hG2⟩
  | true =>
   have HV : Aside0 (codeOf n l true = 0) := ⟨by simp [codeOf, ← HI.out]⟩
   go_enter Try.func62, Try.ntmps62
   go_wp2_with fail
   refine H.out.mono ?_
   rintro e w1 ⟨rfl, hG1⟩
   have HG1 := Aside0.mk (Grew.trans HG.out hG1)
   have hcall := HA2.out w1 HG1.out
   clear hG1
   go_wp2_with fail
   refine hcall.mono ?_
   rintro e w2 ⟨rfl, hG2⟩
   clear hcall
   go_wp2_with fail
   go_ret
   exact ⟨by rw [HV.out]; rfl, Grew.trans HG1.out hG2⟩

end Go.Proofs.Ytniikppojffiaaa.K
end

section
/- The reference's pairings come to what the program's come to. -/
namespace Go.Proofs.Ytniikppojffiaaa.K
open Go.RowKit Go.Shelf Go.Proofs.Ytniikppojffiaaa.Q Go.Proofs.YtniikppojffiaaaW.PrintWords Go.Proofs.YtniikppojffiaaaW.PrintLast Go.Proofs.YtniikppojffiaaaW.PrintMore
set_option linter.unusedVariables false
set_option linter.unusedSimpArgs false

theorem rdP (q : List PairT) (i : Nat) (h : i < q.length) : rd_T53 q (i : Int) = q[i] := by simp [rd_T53, h]
theorem specPair_is {n : Int} {l : List Int} (hi : isC n l = true) (x y : Int) (k : Nat) (hk : l.length + 8 < k) : spec_l02Pair.f k n l x y = some (pairK l ⟨x, y⟩) := by
 obtain ⟨hn, hs, hr, h63⟩ := isC_faces hi
 have hh : ∀ f, hasB l f = decide (f ∈ l) := fun f => has_asc l f (by omega) hs
 unfold spec_l02Pair.f pairK
 rw [specHas_is n x l (by omega) k (by omega), ← hh x]
 simp only [Option.bind_some]
 cases h1 : hasB l x with
 | false => simp
 | true =>
  rw [if_pos rfl, specHas_is n y l (by omega) k (by omega), ← hh y]
  simp only [Option.bind_some]
  cases h2 : hasB l y with
  | false => simp
  | true =>
   have hx := has_mem hi h1
   have hy := has_mem hi h2
   rw [if_pos rfl, inB_is x y (by omega) (by omega)]
   by_cases h3 : Go.bits .and .i64 x y = x
   ·rw [if_pos h3, specOnes_is y (by omega) (by omega) k (by omega), specOnes_is x (by omega) (by omega) k (by omega)]
    simp only [Option.bind_some]
    have := ones_le x
    have hw : wrap64 (onesI x + 1) = onesI x + 1 := by unfold wrap64; omega
    rw [hw, decide_eq_true h3]
    rfl
   ·rw [if_neg h3, decide_eq_false h3]
    rfl
theorem specLess_is (a b c d : Int) : spec_l02Less.f a b c d = some (decide (cmp2 a b c d < 0)) := by
 unfold spec_l02Less.f cmp2 cmp1
 by_cases h1 : a < c
 ·simp [h1]
 ·by_cases h2 : a = c
  ·subst h2
   by_cases h3 : b < d
   ·simp [h3]
   ·by_cases h4 : d < b <;> simp [h3, h4]
  ·have h3 : c < a := by omega
   simp [h1, h2, h3]
/-- Two pairs share a number. -/
def clash (p r : PairT) : Bool := p.f0 == r.f0 || p.f0 == r.f1 || p.f1 == r.f0 || p.f1 == r.f1
theorem seen_clash (q : List PairT) (i : Nat) (p : PairT) : (!seenB q i p.f0 && !seenB q i p.f1) = (q.take i).all fun r => !clash p r := by
 unfold seenB
 generalize q.take i = L
 induction L with
 | nil => rfl
 | cons r L ih =>
  rw [List.any_cons, List.any_cons, List.all_cons, ← ih]
  unfold clash
  have e1 : (r.f0 == p.f0) = (p.f0 == r.f0) := BEq.comm
  have e2 : (r.f1 == p.f0) = (p.f0 == r.f1) := BEq.comm
  have e3 : (r.f0 == p.f1) = (p.f1 == r.f0) := BEq.comm
  have e4 : (r.f1 == p.f1) = (p.f1 == r.f1) := BEq.comm
  rw [e1, e2, e3, e4]
  generalize L.any (fun r => r.f0 == p.f0 || r.f1 == p.f0) = a
  generalize L.any (fun r => r.f0 == p.f1 || r.f1 == p.f1) = b
  cases (p.f0 == r.f0) <;> cases (p.f0 == r.f1) <;> cases (p.f1 == r.f0) <;> cases (p.f1 == r.f1) <;> cases a <;> cases b <;> rfl
theorem specIs02_l1 (n : Int) (l : List Int) (q : List PairT) (hq : q.length ≤ 2097152) (i : Nat) (hi : i < q.length) : ∀ (e j k : Nat), i - j = e → j ≤ i → e < k →
  spec_l02Is.l1 k q (i : Int) (j : Int) n l = if ((q.take i).drop j).all (fun r => !clash q[i] r) then spec_l02Is.l0 (k - (e + 1)) q ((i + 1 : Nat) : Int) n l else some false := by
 intro e
 induction e with
 | zero =>
  intro j k he hj hk
  obtain ⟨k, rfl⟩ : ∃ m, k = m + 1 := ⟨k - 1, by omega⟩
  obtain rfl : j = i := by omega
  simp only [spec_l02Is.l1]
  rw [if_neg (by omega), w64 ((j : Int) + 1) (by omega) (by omega), nat_succ, List.drop_eq_nil_of_le (by rw [List.length_take]; omega)]
  simp
 | succ e ih =>
  intro j k he hj hk
  obtain ⟨k, rfl⟩ : ∃ m, k = m + 1 := ⟨k - 1, by omega⟩
  have hji : j < i := by omega
  have hjl : j < (q.take i).length := by rw [List.length_take]; omega
  simp only [spec_l02Is.l1]
  rw [if_pos (by omega), if_pos (by omega), if_pos (by omega), if_pos (by omega), if_pos (by omega), rdP q i hi, rdP q j (by omega), w64 ((j : Int) + 1) (by omega) (by omega), nat_succ, ih (j + 1) k (by omega) (by omega) (by omega), List.drop_eq_getElem_cons hjl, List.getElem_take, List.all_cons]
  have hkk : k + 1 - (e + 1 + 1) = k - (e + 1) := by omega
  rw [hkk]
  unfold clash
  by_cases h1 : q[i].f0 = q[j].f0
  ·simp [h1]
  ·by_cases h2 : q[i].f0 = q[j].f1
   ·simp [h1, h2]
   ·by_cases h3 : q[i].f1 = q[j].f0
    ·simp [h1, h2, h3]
    ·by_cases h4 : q[i].f1 = q[j].f1
     ·simp [h1, h2, h3, h4]
     ·have e1 : (q[i].f0 == q[j].f0) = false := by simpa using h1
      have e2 : (q[i].f0 == q[j].f1) = false := by simpa using h2
      have e3 : (q[i].f1 == q[j].f0) = false := by simpa using h3
      have e4 : (q[i].f1 == q[j].f1) = false := by simpa using h4
      rw [if_neg h1, if_neg h2, if_neg h3, if_neg h4, e1, e2, e3, e4]
      rfl
theorem specIs02_l0 {n : Int} {l : List Int} (hC : isC n l = true) (q : List PairT) (hq : q.length ≤ 2097152) : ∀ (e i k : Nat), q.length - i = e → i ≤ q.length → e * (q.length + 5) + l.length + 12 < k →
  spec_l02Is.l0 k q (i : Int) n l = some (((List.range q.length).drop i).all (okAt l q)) := by
 intro e
 induction e with
 | zero =>
  intro i k he hi hk
  obtain ⟨k, rfl⟩ : ∃ m, k = m + 1 := ⟨k - 1, by omega⟩
  obtain rfl : i = q.length := by omega
  simp only [spec_l02Is.l0]
  rw [if_neg (by omega), List.drop_eq_nil_of_le (by simp)]
  rfl
 | succ e ih =>
  intro i k he hi hk
  rw [Nat.succ_mul] at hk
  generalize hM : e * (q.length + 5) = M at hk ih
  obtain ⟨k, rfl⟩ : ∃ m, k = m + 1 := ⟨k - 1, by omega⟩
  have hil : i < q.length := by omega
  have hrl : i < (List.range q.length).length := by rw [List.length_range]; exact hil
  rw [List.drop_eq_getElem_cons hrl, List.getElem_range, List.all_cons, okAt_eq l q i hil]
  have hsc := seen_clash q i q[i]
  have hfin : ∀ k', e * (q.length + 5) + l.length + 12 < k' → spec_l02Is.l0 k' q ((i + 1 : Nat) : Int) n l = some (((List.range q.length).drop (i + 1)).all (okAt l q)) := fun k' hk' => ih (i + 1) k' (by omega) (by omega) (by omega)
  simp only [spec_l02Is.l0]
  rw [if_pos (by omega), if_pos (by omega), rdP q i hil, specPair_is hC _ _ k (by omega)]
  simp only [Option.bind_some]
  cases hp : pairK l q[i] with
  | false =>
   rw [if_neg (by simp)]
   obtain ⟨k, rfl⟩ : ∃ m, k = m + 1 := ⟨k - 1, by omega⟩
   simp only [spec_l02Is.j1]
   simp
  | true =>
   rw [if_pos rfl]
   have hrest : ∀ k' : Nat, M + q.length + l.length + 14 < k' → spec_l02Is.l1 k' q (i : Int) 0 n l = some ((!seenB q i q[i].f0 && !seenB q i q[i].f1) && ((List.range q.length).drop (i + 1)).all (okAt l q)) := fun k' hk' => by
    have h1 := specIs02_l1 n l q hq i hil i 0 k' (by omega) (by omega) (by omega)
    rw [show ((0 : Nat) : Int) = 0 from rfl, List.drop_zero, ← hsc] at h1
    rw [h1]
    cases hs : (!seenB q i q[i].f0 && !seenB q i q[i].f1) with
    | false => simp
    | true => rw [if_pos rfl, hfin _ (by omega)]; simp
   by_cases h0 : i = 0
   ·subst h0
    rw [if_neg (by omega)]
    obtain ⟨k, rfl⟩ : ∃ m, k = m + 1 := ⟨k - 1, by omega⟩
    simp only [spec_l02Is.j1]
    have h9 := hrest k (by omega)
    rw [show ((0 : Nat) : Int) = 0 from rfl] at h9
    rw [if_neg (by simp), show ((0 : Nat) : Int) = 0 from rfl, h9]
    simp
   ·have hw : wrap64 ((i : Int) - 1) = ((i - 1 : Nat) : Int) := by rw [w64 _ (by omega) (by omega)]; omega
    rw [if_pos (by omega), hw, if_pos (by omega), if_pos (by omega), rdP q (i - 1) (by omega), specLess_is]
    simp only [Option.bind_some]
    obtain ⟨k, rfl⟩ : ∃ m, k = m + 1 := ⟨k - 1, by omega⟩
    have hgd : q.getD (i - 1) z53 = q[i - 1]'(by omega) := by simp [show i - 1 < q.length by omega]
    have hi0 : (i == 0) = false := by simpa using h0
    rw [hgd, hi0]
    simp only [spec_l02Is.j1]
    cases hc : decide (cmp2 (q[i - 1]'(by omega)).f0 (q[i - 1]'(by omega)).f1 q[i].f0 q[i].f1 < 0) with
    | false => simp
    | true =>
     rw [if_neg (by simp), hrest k (by omega)]
     simp
def pgK (l : List Int) (q : List PairT) : Nat := q.length * (q.length + 5) + l.length + 13
theorem specIs02_is {n : Int} {l : List Int} (hC : isC n l = true) (q : List PairT) (hq : q.length ≤ 2097152) (k : Nat) (hk : pgK l q ≤ k) : spec_l02Is.f k n l q = some (pingB l q) := by
 unfold spec_l02Is.f
 have := specIs02_l0 hC q hq q.length 0 k (by omega) (by omega) (by unfold pgK at hk; omega)
 rw [show ((0 : Nat) : Int) = 0 from rfl, List.drop_zero] at this
 exact this
end Go.Proofs.Ytniikppojffiaaa.K
end

section
/- Sets of vertices as bits; a set in a face is a face. -/
namespace Go.Proofs.Ytniikppojffiaaa.K
open Go.RowKit Go.Shelf Go.Proofs.Ytniikppojffiaaa.Q Go.Proofs.YtniikppojffiaaaW.PrintWords Go.Proofs.YtniikppojffiaaaW.PrintLast Go.Proofs.YtniikppojffiaaaW.PrintMore
set_option linter.unusedVariables false
set_option linter.unusedSimpArgs false

theorem closed_mem {n : Int} {l : List Int} (hi : isC n l = true) (g : Int) (hg : g ∈ l) (h : Int) (hh : h ∈ bords g) : h ∈ l := by
 obtain ⟨hn, hs, hr, h63⟩ := isC_faces hi
 have h1 := ((isC_iff n l).1 hi).2.2 g hg
 unfold closedAt at h1
 rw [List.all_eq_true] at h1
 have h2 := h1 h hh
 rw [has_asc l h (by omega) hs] at h2
 exact of_decide_eq_true h2
end Go.Proofs.Ytniikppojffiaaa.K
end

section
/- Morse functions, plain: pairs, falling pairs, and when a function is a Morse function. -/
namespace Go.Proofs.Ytniikppojffiaaa.K
open Go.RowKit Go.Shelf Go.Proofs.Ytniikppojffiaaa.Q Go.Proofs.YtniikppojffiaaaW.PrintWords Go.Proofs.YtniikppojffiaaaW.PrintLast Go.Proofs.YtniikppojffiaaaW.PrintMore
set_option linter.unusedVariables false
set_option linter.unusedSimpArgs false

def pairsL (l : List Int) : List PairT := l.flatMap fun a => (l.filter fun b => pairK l ⟨a, b⟩).map fun b => ⟨a, b⟩
end Go.Proofs.Ytniikppojffiaaa.K
end

section
/- Flat functions and lists of values, plain. -/
namespace Go.Proofs.Ytniikppojffiaaa.K
open Go.RowKit Go.Shelf Go.Proofs.Ytniikppojffiaaa.Q Go.Proofs.YtniikppojffiaaaW.PrintWords Go.Proofs.YtniikppojffiaaaW.PrintLast Go.Proofs.YtniikppojffiaaaW.PrintMore
set_option linter.unusedVariables false
set_option linter.unusedSimpArgs false

/-- The high face of the pair with a low face. -/
def highL : List PairT → Int → Int
 | [], _ => 0
 | p :: q, a => if p.f0 = a then p.f1 else highL q a
theorem high_cases : ∀ (q : List PairT) (a : Int), (highL q a = 0 ∧ ∀ p ∈ q, p.f0 ≠ a) ∨ ∃ p ∈ q, p.f0 = a ∧ p.f1 = highL q a
 | [], a => Or.inl ⟨rfl, fun p hp => absurd hp (by simp)⟩
 | p :: q, a => by
  unfold highL
  by_cases h : p.f0 = a
  ·rw [if_pos h]
   exact Or.inr ⟨p, by simp, h, rfl⟩
  ·rw [if_neg h]
   rcases high_cases q a with ⟨h1, h2⟩ | ⟨r, hr, h1, h2⟩
   ·exact Or.inl ⟨h1, fun r hr => by
     rcases List.mem_cons.1 hr with e | hr
     ·rw [e]; exact h
     ·exact h2 r hr⟩
   ·exact Or.inr ⟨r, by simp [hr], h1, h2⟩
/-- A number put to an ascending list. -/
def putL : List Int → Int → List Int
 | [], n => [n]
 | a :: L, n => if n < a then n :: a :: L else if n = a then a :: L else a :: putL L n
def putAll (L xs : List Int) : List Int := xs.foldl putL L
end Go.Proofs.Ytniikppojffiaaa.K
end

section
/- The faces to which gradient steps lead. -/
namespace Go.Proofs.Ytniikppojffiaaa.K
open Go.RowKit Go.Shelf Go.Proofs.Ytniikppojffiaaa.Q Go.Proofs.YtniikppojffiaaaW.PrintWords Go.Proofs.YtniikppojffiaaaW.PrintLast Go.Proofs.YtniikppojffiaaaW.PrintMore
set_option linter.unusedVariables false
set_option linter.unusedSimpArgs false

/-- The pairs of a pairing: faces. -/
structure GoodQ (q : List PairT) : Prop where
 len : q.length ≤ 63
 f0 : ∀ p ∈ q, 1 ≤ p.f0 ∧ p.f0 ≤ 63
 f1 : ∀ p ∈ q, 1 ≤ p.f1 ∧ p.f1 ≤ 63
/-- The faces to which steps lead. -/
def stepsL (q : List PairT) (a : Int) : List Int := if highL q a = 0 then [] else (bords (highL q a)).filter fun f => !(f == a)
theorem idx_high (a : Int) : ∀ (q : List PairT) (i : Nat) (hi : i < q.length), (q[i].f0 == a) = true → (∀ j (hj : j < i), ((q[j]'(by omega)).f0 == a) = false) → highL q a = q[i].f1
 | [], i, hi, _, _ => absurd hi (Nat.not_lt_zero _)
 | p :: q, 0, _, h, _ => by
  have h' : p.f0 = a := by simpa using h
  simp [highL, h']
 | p :: q, i + 1, hi, h, hn => by
  have h0 : ¬ p.f0 = a := by simpa using hn 0 (by omega)
  simp only [highL, if_neg h0, List.getElem_cons_succ]
  exact idx_high a q i (by simpa using hi) (by simpa using h) (fun j hj => by simpa using hn (j + 1) (by omega))
theorem idx_low (a : Int) (q : List PairT) (h : ∀ p ∈ q, ¬ p.f0 = a) : highL q a = 0 := by
 rcases high_cases q a with ⟨h1, _⟩ | ⟨p, hp, h1, _⟩
 ·exact h1
 ·exact absurd h1 (h p hp)
theorem idx_caseP {p : PairT → Bool} (l : List PairT) : (idx p l = -1 ∧ ∀ x ∈ l, p x = false) ∨ ∃ i : Nat, idx p l = i ∧ ∃ hi : i < l.length, p l[i] = true ∧ ∀ j (hj : j < i), p (l[j]'(by omega)) = false := by
 unfold idx
 cases hf : l.findIdx? p with
 | none =>
  rw [List.findIdx?_eq_none_iff] at hf
  exact .inl ⟨rfl, fun x hx => by simpa using hf x hx⟩
 | some i =>
  rw [List.findIdx?_eq_some_iff_getElem] at hf
  obtain ⟨hi, hp, hn⟩ := hf
  exact .inr ⟨i, rfl, hi, hp, fun j hj => by have := hn j hj; simpa using this⟩
theorem bords_in_64 : ∀ m : Fin 64, (bords (m.val : Int)).all (fun g => decide (1 ≤ g ∧ g ≤ 63)) = true := by decide +kernel
theorem bords_in (f : Int) (h0 : 0 ≤ f) (h1 : f ≤ 63) (g : Int) (hg : g ∈ bords f) : 1 ≤ g ∧ g ≤ 63 := by
 obtain ⟨m, rfl⟩ : ∃ m : Nat, f = (m : Int) := ⟨f.toNat, by omega⟩
 have h := List.all_eq_true.1 (bords_in_64 ⟨m, by omega⟩) g hg
 simpa using h
theorem steps_mem {q : List PairT} (hg : GoodQ q) {a x : Int} (h : x ∈ stepsL q a) : 1 ≤ x ∧ x ≤ 63 := by
 unfold stepsL at h
 split at h
 ·cases h
 ·rename_i hz
  rcases high_cases q a with ⟨h1, _⟩ | ⟨p, hp, _, h2⟩
  ·exact absurd h1 hz
  ·have := hg.f1 p hp
   rw [h2] at this
   exact (bords_in _ (by omega) this.2 x (List.mem_filter.1 h).1)
theorem steps_len {q : List PairT} (a : Int) : (stepsL q a).length ≤ 6 := by
 unfold stepsL
 split
 ·simp
 ·exact Nat.le_trans (List.length_filter_le _ _) (bords_length _)

set_option maxHeartbeats 1000000 in
theorem steps1_calls (x : PairT) (a : Int) (B : Nat) (w : World) (hb : w.cell? ⟨B, 0, none⟩ = some (I a)) :
  Calls Try.prog 155 #[.agg #[I x.f0, I x.f1], .pointer (some ⟨B, 0, none⟩)] w fun e w' => e = .returned (.bool (x.f0 == a)) ∧ Grew w w' := by
 have hlt := World.block_lt_of_cell? w _ hb
 have hg := Aside0.mk (below_alloc (Grew.refl w) (.cells #[I x.f0, I x.f1] 53))
 go_enter Try.func155, Try.ntmps155
 go_wp2_with fail
 go_ret
 exact ⟨rfl, hg.out⟩
set_option maxHeartbeats 1000000 in
theorem steps2_calls (f a : Int) (B : Nat) (w : World) (hb : w.cell? ⟨B, 0, none⟩ = some (I a)) :
  Calls Try.prog 156 #[I f, .pointer (some ⟨B, 0, none⟩)] w fun e w' => e = .returned (.bool (f == a)) ∧ Grew w w' := by
 go_enter Try.func156, Try.ntmps156
 go_wp2_with fail
 go_ret
 exact ⟨rfl, Grew.refl w⟩

set_option maxRecDepth 100000 in
set_option maxHeartbeats 4000000 in
theorem steps_calls (A2 : Option Addr) (c2 : Nat) {q : List PairT} (a : Int) (w : World) (hq : Kq.C w A2 q.length q) (hc2 : q.length ≤ c2) (hgq : GoodQ q) :
  Calls Try.prog 125 #[.slice A2 q.length c2, I a] w fun e w' => ∃ v, e = .returned v ∧ Ki.R 2 w' w.heap.size (fun _ => True) v (stepsL q a) ∧ Grew w w' := by
 have hg1 : Grew w (w.alloc (.cells #[I a] 2)) := below_alloc (Below.refl _ _) _
 have H := Aside0.mk (IndexFunc_pair (fun x => x.f0 == a) A2 c2 q 155 #[] #[.pointer (some ⟨w.heap.size, 0, none⟩)] (w.alloc (.cells #[I a] 2))
  (Kd.C_below hq hg1) hc2 hq.2.1 (enters_of Try.func155 (by kernel_rfl) rfl) (fun x hx W hW => steps1_calls x a w.heap.size W (blk_cell (blk_below (blk_new w _) hW) 0)))
 have HQ := Aside0.mk hq
 have HL := Aside0.mk hgq.len
 have HG1 := Aside0.mk hg1
 rcases idx_caseP (p := fun x : PairT => x.f0 == a) q with ⟨he, hn⟩ | ⟨i, he, hi, hp, hn⟩
 ·have HS : Aside0 (stepsL q a = []) := ⟨by
   unfold stepsL
   rw [if_pos (idx_low a q (fun p hp => by simpa using hn p hp))]⟩
  rw [he] at H
  rw [HS.out]
  clear hn hq hgq hg1 he
  go_enter Try.func125, Try.ntmps125
  go_wp2_with fail
  refine H.out.mono ?_
  rintro e w1 ⟨rfl, hG⟩
  have HGw := Aside0.mk (Grew.trans HG1.out hG)
  clear hG
  go_wp2_with fail
  go_ret
  exact ⟨_, rfl, Kd.R_nil _ _ _ _ _, HGw.out⟩
 ·have hh := idx_high a q i hi hp hn
  have h1 := hgq.f1 _ (List.getElem_mem hi)
  have HS : Aside0 (stepsL q a = (bords q[i].f1).filter fun f => !(f == a)) := ⟨by
   unfold stepsL
   rw [if_neg (by rw [hh]; omega), hh]⟩
  rw [he] at H
  rw [HS.out]
  obtain ⟨ad, e2, hx0, hx1⟩ := Kq_read hq i hi rfl
  have hlt := World.block_lt_of_cell? w _ hx1
  have HX1 : Aside0 (∀ w1, Grew w w1 → w1.cell? ⟨(ad.add (i * 2)).block, (ad.add (i * 2)).off + 1, none⟩ = some (I q[i].f1)) := ⟨fun w1 hG => (Below.cell hG (p := ⟨(ad.add (i * 2)).block, (ad.add (i * 2)).off + 1, none⟩) hlt).trans hx1⟩
  cases e2
  have hiz : (i : Int) < (q.length : Int) := by omega
  have hi0 : ¬ (i : Int) < 0 := by omega
  have hlq := hgq.len
  clear hn hq hgq hg1 he hh hx0 hx1 hlt HS hp
  generalize q[i].f1 = y at HX1 h1 ⊢
  have HBL := Aside0.mk (bords_length y)
  go_enter Try.func125, Try.ntmps125
  go_wp2_with fail
  refine H.out.mono ?_
  rintro e w1 ⟨rfl, hG⟩
  have HGw := Aside0.mk (Grew.trans HG1.out hG)
  have hx1 := HX1.out w1 HGw.out
  have HB := Aside0.mk (borders_calls y w1)
  have HBX : Aside0 (w1.heap[w.heap.size]? = some (.cells #[I a] 2 (0, 0))) := ⟨blk_below (blk_new w _) hG⟩
  clear hG
  go_wp2_with fail
  refine HB.out.mono ?_
  rintro e w2 ⟨v2, rfl, hR2, hG2⟩
  have HG2 := Aside0.mk hG2
  have HD := Aside0.mk (DeleteFunc_calls (fun f => f == a) w1.heap.size v2 (bords y) 156 #[] #[.pointer (some ⟨w.heap.size, 0, none⟩)] w2 hG2.size hR2 (by have := HBL.out; omega) (enters_of Try.func156 (by kernel_rfl) rfl)
   (fun x hx W hW => by
    have hlw : w.heap.size < w1.heap.size := blk_lt HBX.out
    have hb2 : W.heap[w.heap.size]? = some (.cells #[I a] 2 (0, 0)) := (hW.block _ hlw).trans (blk_below HBX.out HG2.out)
    exact steps2_calls x a w.heap.size W (blk_cell hb2 0)))
  clear hR2 hG2
  go_wp2_with fail
  refine HD.out.mono ?_
  rintro e w3 ⟨v3, rfl, hR3, hG3⟩
  go_wp2_with fail
  go_ret
  exact ⟨_, rfl, Kd.R_lower hR3 HGw.out.size, Grew.trans HGw.out (Below.trans HG2.out hG3)⟩

end Go.Proofs.Ytniikppojffiaaa.K
end

section
/- Sets of numbers as maps from numbers to bools that the call makes. -/
namespace Go.Proofs.Ytniikppojffiaaa.K
open Go.RowKit Go.Shelf Go.Proofs.YtniikppojffiaaaW.PrintWords Go.Proofs.YtniikppojffiaaaW.PrintLast Go.Proofs.YtniikppojffiaaaW.PrintMore
open Go.Maps (Keyed IsMap)
set_option linter.unusedVariables false
set_option linter.unusedSimpArgs false

abbrev TMap : TypeId := 76
theorem keyLaw : Keyed Try.prog 2 := Go.Maps.int_keyed Try.underlying2
theorem zeroBool (w : World) : (zeroValue 4).run Try.prog w = .ok (.bool false) w := by kernel_rfl
/-- How the set changes where x is stored. -/
def upd (S : Int → Bool) (x : Int) (v : Bool) : Int → Bool := fun y => if y = x then v else S y

/-- Block b is a map of at most n entries that reads as the set S. -/
def SetM (w : World) (b n : Nat) (S : Int → Bool) : Prop :=
 ∃ D : DataW Unit, w.ownsMap Try.prog 2 (plainElem Try.prog 4) b n D ∧ IsMap D ∧ ∀ x, (Lit.int .i64 x).wf = true → D.atKey (.int .i64 x) (.lit (.bool false)) = .lit (.bool (S x))
theorem SetM_made (w : World) : SetM (w.alloc (.map #[] 0)) w.heap.size 0 (fun _ => false) := ⟨.map [], World.ownsMap_made _ _ _ _, Go.Maps.isMap_empty, fun x _ => rfl⟩
theorem SetM.lt {w : World} {b n : Nat} {S : Int → Bool} (h : SetM w b n S) : b < w.heap.size := by
 obtain ⟨D, ho, _⟩ := h
 exact ho.lt
theorem SetM.same {w w' : World} {b n : Nat} {S : Int → Bool} (h : SetM w b n S) (he : w'.heap[b]? = w.heap[b]?) : SetM w' b n S := by
 obtain ⟨D, ⟨es, clock, hb, F, hs, hD⟩, h2, h3⟩ := h
 exact ⟨D, ⟨es, clock, he.trans hb, F, hs, hD⟩, h2, h3⟩
theorem SetM.kept {w w' : World} {b n : Nat} {S : Int → Bool} {T : Nat → Prop} (h : SetM w b n S) (hk : Kept w w' T) (hb : ¬ T b) : SetM w' b n S := h.same (hk.2 b h.lt hb)
theorem SetM.later {w w' : World} {b n : Nat} {S : Int → Bool} (h : SetM w b n S) (hg : Grew w w') : SetM w' b n S := h.kept (Kept.of_below hg (fun _ => False)) (fun h => h)
theorem SetM.mono {w : World} {b n m : Nat} {S : Int → Bool} (h : SetM w b n S) (hn : n ≤ m) : SetM w b m S := by
 obtain ⟨D, ho, h2⟩ := h
 exact ⟨D, ho.mono hn, h2⟩
theorem SetM.cong {w : World} {b n : Nat} {S S' : Int → Bool} (h : SetM w b n S) (hs : ∀ x, (Lit.int .i64 x).wf = true → S x = S' x) : SetM w b n S' := by
 obtain ⟨D, ho, h2, h3⟩ := h
 exact ⟨D, ho, h2, fun x hx => by rw [h3 x hx, hs x hx]⟩
theorem boolElem_inv {H : Type} {P : Program} {e : TypeId} (he : P.underlying e = some .bool) {v : Value} {b : Bool} {ps : List MemPlace} (h : plainElem (H := H) P e v = some (.lit (.bool b), ps)) : v = .bool b := by
 unfold plainElem at h
 rw [he] at h
 cases v <;> simp at h
 rw [h.1]
theorem SetM.look {w : World} {b n : Nat} {S : Int → Bool} (h : SetM w b n S) (x : Int) (hx : (Lit.int .i64 x).wf = true) :
  (Instr.lookup TMap (.map (some b)) (I x) false).run Try.prog w = .ok (.bool (S x)) w := by
 obtain ⟨D, ho, _, h3⟩ := h
 obtain ⟨v, ps, hrun, hv⟩ := ho.lookup keyLaw Try.underlying76 (zeroBool w) (plainElem_bool Try.underlying4 false) (Go.Maps.keyOf_int_mk Try.underlying2 hx)
 rw [h3 x hx] at hv
 rw [hrun, boolElem_inv Try.underlying4 hv]
theorem SetM.store {w : World} {b n : Nat} {S : Int → Bool} (h : SetM w b n S) (hn : n < 1000000000) (x : Int) (hx : (Lit.int .i64 x).wf = true) (v : Bool) :
  ∃ w', (Instr.mapUpdate TMap (.map (some b)) (I x) (.bool v)).run Try.prog w = .ok () w' ∧ SetM w' b (n + 1) (upd S x v) ∧ w.grownBy w' (some b) := by
 obtain ⟨D, ho, hm, h3⟩ := h
 obtain ⟨w', hrun, ho', hg⟩ := ho.update keyLaw Try.underlying76 (by unfold maxLen; omega) (Go.Maps.keyOf_int_mk Try.underlying2 hx) (plainElem_bool Try.underlying4 v)
 refine ⟨w', hrun, ⟨_, ho', hm.put _ _, fun y hy => ?_⟩, hg⟩
 by_cases e : y = x
 ·subst e
  rw [Go.Maps.atKey_put_same hm (by simp [WideAt.IsKeyLit])]
  simp [upd]
 ·rw [Go.Maps.atKey_put_other (by simpa using e), h3 y hy]
  simp [upd, e]

section
variable {ops : Array Oper} {rest : List Oper} {o : Oper} {a : Act} {Q : Exit → Act → World → Prop}
end

end Go.Proofs.Ytniikppojffiaaa.K
end

section
/- Plain words: what is reached by steps, by a queue and by a stack. -/
namespace Go.Proofs.Ytniikppojffiaaa.K
open Go.RowKit Go.Shelf
set_option linter.unusedVariables false
set_option linter.unusedSimpArgs false

/-- Reached by at least one step. -/
inductive Reach (nx : Int → List Int) (a : Int) : Int → Prop where
 | one {x : Int} (h : x ∈ nx a) : Reach nx a x
 | more {x y : Int} (h : Reach nx a x) (k : y ∈ nx x) : Reach nx a y
theorem Reach.from {nx : Int → List Int} {a x y : Int} (h : x = a ∨ Reach nx a x) (k : y ∈ nx x) : Reach nx a y := by
 rcases h with rfl | h
 ·exact .one k
 ·exact .more h k
theorem Reach.trans {nx : Int → List Int} {a x y : Int} (h : Reach nx a x) (k : Reach nx x y) : Reach nx a y := by
 induction k with
 | one k => exact .more h k
 | more _ k ih => exact .more ih k
/-- How many of the numbers 0 .. 63 are in the set. -/
def cnt (S : Int → Bool) : Nat := (List.range 64).countP fun i : Nat => S (i : Int)
theorem cnt_le (S : Int → Bool) : cnt S ≤ 64 := by
 have := List.countP_le_length (p := fun i : Nat => S (i : Int)) (l := List.range 64)
 simpa [cnt] using this
theorem countP_upd (S : Int → Bool) (f : Nat) (hf : S (f : Int) = false) : ∀ n : Nat, (List.range n).countP (fun i : Nat => upd S (f : Int) true (i : Int)) = (List.range n).countP (fun i : Nat => S (i : Int)) + if f < n then 1 else 0
 | 0 => by simp
 | n + 1 => by
  rw [List.range_succ, List.countP_append, List.countP_append, countP_upd S f hf n]
  by_cases e : n = f
  ·subst e
   simp [List.countP_cons, upd, hf]
  ·have e' : ¬ ((n : Int) = (f : Int)) := by omega
   have hu : upd S (f : Int) true (n : Int) = S (n : Int) := by simp [upd, e']
   simp only [List.countP_cons, List.countP_nil, hu]
   by_cases h1 : f < n
   ·have h2 : f < n + 1 := by omega
    rw [if_pos h1, if_pos h2]
    omega
   ·have h2 : ¬ f < n + 1 := by omega
    rw [if_neg h1, if_neg h2]
    omega
theorem cnt_upd (S : Int → Bool) (f : Int) (h0 : 0 ≤ f) (h1 : f < 64) (hf : S f = false) : cnt (upd S f true) = cnt S + 1 := by
 obtain ⟨n, rfl⟩ : ∃ n : Nat, f = (n : Int) := ⟨f.toNat, by omega⟩
 unfold cnt
 rw [countP_upd S n hf 64, if_pos (by omega)]
theorem cnt_none : cnt (fun _ => false) = 0 := by simp [cnt]

structure Bfs (nx : Int → List Int) (a : Int) (S : Int → Bool) (q : List Int) : Prop where
 sound : ∀ x, S x = true → Reach nx a x
 qin : ∀ x ∈ q, x = a ∨ S x = true
 closed : ∀ x, (x = a ∨ S x = true) → x ∈ q ∨ ∀ y ∈ nx x, S y = true
section
variable {nx : Int → List Int} {a x f : Int} {S : Int → Bool} {q : List Int}
theorem upd_self (S : Int → Bool) (f : Int) (v : Bool) : upd S f v f = v := by simp [upd]
theorem upd_keep {S : Int → Bool} {f y : Int} (h : S y = true) : upd S f true y = true := by
 unfold upd
 split
 ·rfl
 ·exact h
theorem upd_or {S : Int → Bool} {f y : Int} (h : upd S f true y = true) : y = f ∨ S y = true := by
 unfold upd at h
 split at h
 ·exact .inl (by assumption)
 ·exact .inr h
theorem Bfs.start (nx : Int → List Int) (a : Int) : Bfs nx a (fun _ => false) [a] :=
 ⟨fun x h => by simp at h, fun x h => .inl (by simpa using h), fun x h => .inl (by rcases h with rfl | h <;> simp_all)⟩
theorem Bfs.add (h : Bfs nx a S (x :: q)) (hf : f ∈ nx x) : Bfs nx a (upd S f true) (x :: q ++ [f]) := by
 refine ⟨fun y hy => ?_, fun y hy => ?_, fun y hy => ?_⟩
 ·rcases upd_or hy with rfl | hy
  ·exact Reach.from ((h.qin x (by simp)).imp id (h.sound x)) hf
  ·exact h.sound y hy
 ·rcases List.mem_append.1 hy with hy | hy
  ·exact (h.qin y hy).imp id upd_keep
  ·exact .inr (by rw [List.mem_singleton.1 hy]; exact upd_self _ _ _)
 ·by_cases e : y = f
  ·exact .inl (by simp [e])
  ·rcases h.closed y (hy.imp id fun hy => (upd_or hy).resolve_left e) with h1 | h1
   ·exact .inl (List.mem_append_left _ h1)
   ·exact .inr fun z hz => upd_keep (h1 z hz)
theorem Bfs.pop (h : Bfs nx a S (x :: q)) (hall : ∀ y ∈ nx x, S y = true) : Bfs nx a S q := by
 refine ⟨h.sound, fun y hy => h.qin y (List.mem_cons_of_mem _ hy), fun y hy => ?_⟩
 rcases h.closed y hy with h1 | h1
 ·rcases List.mem_cons.1 h1 with rfl | h1
  ·exact .inr hall
  ·exact .inl h1
 ·exact .inr h1
theorem Bfs.done (h : Bfs nx a S []) (y : Int) : S y = true ↔ Reach nx a y := by
 refine ⟨h.sound y, fun hy => ?_⟩
 induction hy with
 | one hy => exact ((h.closed a (.inl rfl)).resolve_left (by simp)) _ hy
 | more _ hy ih => exact ((h.closed _ (.inr ih)).resolve_left (by simp)) _ hy

structure Dfs (nx : Int → List Int) (a : Int) (S : Int → Bool) (q : List Int) : Prop where
 sound : ∀ x, S x = true → Reach nx a x
 qin : ∀ x ∈ q, Reach nx a x
 closed : ∀ x, (x = a ∨ S x = true) → ∀ y ∈ nx x, S y = true ∨ y ∈ q
theorem Dfs.start (nx : Int → List Int) (a : Int) : Dfs nx a (fun _ => false) (nx a) :=
 ⟨fun x h => by simp at h, fun x h => .one h, fun x h y hy => .inr (by rcases h with rfl | h; exact hy; simp at h)⟩
theorem Dfs.skip (h : Dfs nx a S (q ++ [x])) (hx : S x = true) : Dfs nx a S q := by
 refine ⟨h.sound, fun y hy => h.qin y (List.mem_append_left _ hy), fun y hy z hz => ?_⟩
 rcases h.closed y hy z hz with h1 | h1
 ·exact .inl h1
 ·rcases List.mem_append.1 h1 with h1 | h1
  ·exact .inr h1
  ·exact .inl (by rw [List.mem_singleton.1 h1]; exact hx)
theorem Dfs.new (h : Dfs nx a S (q ++ [x])) : Dfs nx a (upd S x true) (q ++ nx x) := by
 have hr := h.qin x (by simp)
 refine ⟨fun y hy => ?_, fun y hy => ?_, fun y hy z hz => ?_⟩
 ·rcases upd_or hy with rfl | hy
  ·exact hr
  ·exact h.sound y hy
 ·rcases List.mem_append.1 hy with hy | hy
  ·exact h.qin y (List.mem_append_left _ hy)
  ·exact .more hr hy
 ·by_cases e : y = x
  ·subst e
   exact .inr (List.mem_append_right _ hz)
  ·rcases h.closed y (hy.imp id fun hy => (upd_or hy).resolve_left e) z hz with h1 | h1
   ·exact .inl (upd_keep h1)
   ·rcases List.mem_append.1 h1 with h1 | h1
    ·exact .inr (List.mem_append_left _ h1)
    ·exact .inl (by rw [List.mem_singleton.1 h1]; exact upd_self _ _ _)
theorem Dfs.done (h : Dfs nx a S []) (y : Int) : S y = true ↔ Reach nx a y := by
 refine ⟨h.sound y, fun hy => ?_⟩
 induction hy with
 | one hy => exact (h.closed a (.inl rfl) _ hy).resolve_right (by simp)
 | more _ hy ih => exact (h.closed _ (.inr ih) _ hy).resolve_right (by simp)
end
/-- The set of what is reached. -/
noncomputable def reachB (nx : Int → List Int) (a : Int) (x : Int) : Bool := @decide (Reach nx a x) (Classical.propDecidable _)
theorem reachB_of {nx : Int → List Int} {a : Int} {S : Int → Bool} (h : ∀ y, S y = true ↔ Reach nx a y) (y : Int) : S y = reachB nx a y := by
 unfold reachB
 by_cases hy : Reach nx a y
 ·rw [(h y).2 hy]
  simp [hy]
 ·cases hS : S y with
  | true => exact absurd ((h y).1 hS) hy
  | false => simp [hy]
end Go.Proofs.Ytniikppojffiaaa.K
end

section
/- Sets of numbers as maps whose keys are just what is in the set. -/
namespace Go.Proofs.Ytniikppojffiaaa.K
open Go.RowKit Go.Shelf Go.Proofs.YtniikppojffiaaaW.PrintWords Go.Proofs.YtniikppojffiaaaW.PrintLast Go.Proofs.YtniikppojffiaaaW.PrintMore
open Go.Maps (Keyed IsMap has)
set_option linter.unusedVariables false
set_option linter.unusedSimpArgs false

def SetK (w : World) (b n : Nat) (S : Int → Bool) : Prop :=
 ∃ D : DataW Unit, w.ownsMap Try.prog 2 (plainElem Try.prog 4) b n D ∧ IsMap D ∧ (∀ x, (Lit.int .i64 x).wf = true → D.atKey (.int .i64 x) (.lit (.bool false)) = .lit (.bool (S x))) ∧ ∀ x, has D (.int .i64 x) = S x
theorem SetK_made (w : World) : SetK (w.alloc (.map #[] 0)) w.heap.size 0 (fun _ => false) := ⟨.map [], World.ownsMap_made _ _ _ _, Go.Maps.isMap_empty, fun x _ => rfl, fun x => rfl⟩
theorem SetK.set {w : World} {b n : Nat} {S : Int → Bool} (h : SetK w b n S) : SetM w b n S := by
 obtain ⟨D, h1, h2, h3, _⟩ := h
 exact ⟨D, h1, h2, h3⟩
theorem SetK.lt {w : World} {b n : Nat} {S : Int → Bool} (h : SetK w b n S) : b < w.heap.size := h.set.lt
theorem SetK.same {w w' : World} {b n : Nat} {S : Int → Bool} (h : SetK w b n S) (he : w'.heap[b]? = w.heap[b]?) : SetK w' b n S := by
 obtain ⟨D, ⟨es, clock, hb, F, hs, hD⟩, h2, h3⟩ := h
 exact ⟨D, ⟨es, clock, he.trans hb, F, hs, hD⟩, h2, h3⟩
theorem SetK.later {w w' : World} {b n : Nat} {S : Int → Bool} (h : SetK w b n S) (hg : Grew w w') : SetK w' b n S := h.same (hg.block b h.lt)
theorem SetK.mono {w : World} {b n m : Nat} {S : Int → Bool} (h : SetK w b n S) (hn : n ≤ m) : SetK w b m S := by
 obtain ⟨D, ho, h2⟩ := h
 exact ⟨D, ho.mono hn, h2⟩
theorem SetK.cong {w : World} {b n : Nat} {S S' : Int → Bool} (h : SetK w b n S) (hs : ∀ x, S x = S' x) : SetK w b n S' := by
 obtain rfl : S = S' := funext hs
 exact h
theorem SetK.look {w : World} {b n : Nat} {S : Int → Bool} (h : SetK w b n S) (x : Int) (hx : (Lit.int .i64 x).wf = true) :
  (Instr.lookup TMap (.map (some b)) (I x) false).run Try.prog w = .ok (.bool (S x)) w := h.set.look x hx
theorem SetK.store {w : World} {b n : Nat} {S : Int → Bool} (h : SetK w b n S) (hn : n < 1000000000) (x : Int) (hx : (Lit.int .i64 x).wf = true) :
  ∃ w', (Instr.mapUpdate TMap (.map (some b)) (I x) (.bool true)).run Try.prog w = .ok () w' ∧ SetK w' b (n + 1) (upd S x true) ∧ w.grownBy w' (some b) := by
 obtain ⟨D, ho, hm, h3, h4⟩ := h
 obtain ⟨w', hrun, ho', hg⟩ := ho.update keyLaw Try.underlying76 (by unfold maxLen; omega) (Go.Maps.keyOf_int_mk Try.underlying2 hx) (plainElem_bool Try.underlying4 true)
 refine ⟨w', hrun, ⟨_, ho', hm.put _ _, fun y hy => ?_, fun y => ?_⟩, hg⟩
 ·by_cases e : y = x
  ·subst e
   rw [Go.Maps.atKey_put_same hm (by simp [WideAt.IsKeyLit])]
   simp [upd]
  ·rw [Go.Maps.atKey_put_other (by simpa using e), h3 y hy]
   simp [upd, e]
 ·by_cases e : y = x
  ·subst e
   rw [Go.Maps.has_put_same hm (by simp [WideAt.IsKeyLit])]
   simp [upd]
  ·rw [Go.Maps.has_put_other (by simpa using e), h4 y]
   simp [upd, e]
end Go.Proofs.Ytniikppojffiaaa.K
end

section
/- What is behind a face: a queue and a set. -/
namespace Go.Proofs.Ytniikppojffiaaa.K
open Go.RowKit Go.Shelf Go.Proofs.Ytniikppojffiaaa.Q Go.Proofs.YtniikppojffiaaaW.PrintWords Go.Proofs.YtniikppojffiaaaW.PrintLast Go.Proofs.YtniikppojffiaaaW.PrintMore
set_option linter.unusedVariables false
set_option linter.unusedSimpArgs false

abbrev Qi (w : World) (base : Nat) (v : Value) (xs : List Int) : Prop := Ki.Q 2 w base (fun _ => True) v xs
theorem Q_one (w : World) (a : Int) : Qi (w.alloc (.cells #[I a] 2)) w.heap.size (.slice (some ⟨w.heap.size, 0, none⟩) 1 1) [a] := by
 refine Kd.Q_of_R (Kd.R_of_own ?_ (fun _ _ => trivial))
 have := World.ownsRow_lit (base := w.heap.size) (e := 2) (size := 1) w #[I a] 1 (Nat.le_refl _) (by decide) rfl
 exact this
theorem cutQ {W : World} {base : Nat} {A : Option Addr} {n c : Nat} {x : Int} {xs : List Int} (h : Qi W base (.slice A n c) (x :: xs)) :
  ∃ A1 c1, (∀ W : World, (Instr.slice 22 (.slice A n c) (some (.int .i64 1)) none none).run Try.prog W = .ok (.slice A1 xs.length c1) W) ∧ Qi W base (.slice A1 xs.length c1) xs := by
 have hn : n = xs.length + 1 := by have := (Kd.Q_reads' h).1; simpa using this
 obtain ⟨i0, hi0, _, hsz, _⟩ := info_parts infoI
 have hcut := cut_from (P := Try.prog) 22 2 .i64 Try.underlying22 hi0 1 hsz A n c 1 (by omega) (by omega)
 have hr := Kd.Q_drop (k := 1) h (by simp)
 have e1 : n - (1 : Int).toNat = xs.length := by rw [hn]; rfl
 have e2 : n - 1 = xs.length := by omega
 rw [e1] at hcut
 rw [e2] at hr
 exact ⟨_, _, hcut, hr⟩
section
variable {ops : Array Oper} {rest : List Oper} {o : Oper} {a : Act} {Q : Exit → Act → World → Prop}
theorem appendQ {W : World} (base : Nat) (hgd : o.guard = none) (s x : Operand)
  (ho : o.op = .call { callee := .builtin .append, args := #[s, x], argTypes := #[22, 22] })
  (v : Value) (xs : List Int) (p : Int) (hs : a.eval s = v) (hx : a.eval x = .slice (some ⟨W.heap.size, 0, none⟩) 1 1)
  (HO : Qi W base v xs) (hbase : base ≤ W.heap.size) (hl : xs.length ≤ 1000000000000)
  (h : ∀ v1 w1, Qi w1 base v1 (xs ++ [p]) → Below base W w1 → W.grownBy w1 v.ownBlock → (v1.ownBlock = v.ownBlock ∨ ∃ b, v1.ownBlock = some b ∧ W.heap.size ≤ b) → wpList Try.prog ops Q rest (a.put o.dst v1) w1) :
  wpList Try.prog ops Q (o :: rest) a (W.alloc (.cells #[I p] 2)) :=
 Kd.Q_append Ki (w0 := W) base hgd s x 22 2 (.int .i64 0) 8 ho Try.underlying22 infoI rfl (by decide) (by omega) v xs p [I p] (fun _ => True) (fun _ => False) hs hx rfl (fun _ hk => hk.elim) (fun _ _ => trivial) HO (Below.refl _ _) hbase (by omega) h
end
set_option maxRecDepth 100000 in
set_option maxHeartbeats 16000000 in
theorem behind_calls (A2 : Option Addr) (c2 : Nat) {q : List PairT} (a : Int) (w : World) (hq : Kq.C w A2 q.length q) (hc2 : q.length ≤ c2) (hgq : GoodQ q) :
  Calls Try.prog 77 #[.slice A2 q.length c2, I a] w fun e w' => ∃ b, e = .returned (.map (some b)) ∧ w.heap.size ≤ b ∧ (∃ m, m ≤ 64 ∧ SetK w' b m (reachB (stepsL q) a)) ∧ Grew w w' := by
 obtain ⟨W0, hW0⟩ : ∃ W0, W0 = w.alloc (.map #[] 0) := ⟨_, rfl⟩
 have hS : SetK W0 w.heap.size 0 (fun _ => false) := by rw [hW0]; exact SetK_made w
 have hg0 : Grew w W0 := by rw [hW0]; exact below_alloc (Grew.refl w) _
 have hz : W0.heap.size = w.heap.size + 1 := by rw [hW0]; simp
 have hQ1 := Q_one W0 a
 have hg1 : Grew W0 (W0.alloc (.cells #[I a] 2)) := below_alloc (Grew.refl W0) _
 have HS1 := Aside0.mk (hS.later hg1)
 have HGA := Aside0.mk (Grew.trans hg0 hg1)
 rw [hz] at hQ1
 have HQ1 := Aside0.mk hQ1
 have HST := Aside0.mk (fun (x : Int) (W : World) (h : Grew w W) => steps_calls A2 c2 x W (Kd.C_below hq h) hc2 hgq)
 have HSM := Aside0.mk (fun (x y : Int) (h : y ∈ stepsL q x) => steps_mem hgq h)
 have HSL := Aside0.mk (fun (x : Int) => steps_len (q := q) x)
 have hmm := @run_makeMap Try.prog
 have hlq := hgq.len
 clear hq hS hg0 hz hg1 hQ1 hgq
 subst hW0
 go_enter Try.func77, Try.ntmps77
 go_wp2_with fail
 go_loopg [6, 8] (1 + 128) (fun gg s6 _ wr => ∃ (S : Int → Bool) (xs : List Int), xs.length + 2 * (64 - cnt S) ≤ gg ∧ xs.length + 2 * (64 - cnt S) ≤ 129 ∧ Aside0 (Bfs (stepsL q) a S xs) ∧ Aside0 (SetK wr w.heap.size (cnt S) S) ∧ Aside0 (Qi wr (w.heap.size + 1) s6 xs) ∧ Aside0 (Grew w wr))
 case atStart => exact ⟨fun _ => false, [a], by simp [cnt_none], by simp [cnt_none], ⟨Bfs.start _ _⟩, ⟨by rw [cnt_none]; exact HS1.out⟩, HQ1, HGA⟩
 case round =>
  obtain ⟨S, xs, hgg, h129, HB, HS, HQ, HG⟩ := hrel
  obtain ⟨A6, c6, e6, hc6, hC6⟩ := Kd.Q_reads HQ.out
  cases xs with
  | nil =>
   subst e6
   have HR := Aside0.mk (reachB_of (Bfs.done HB.out))
   go_wp2_with fail
   go_ret
   exact ⟨_, rfl, Nat.le_refl _, ⟨cnt S, cnt_le S, HS.out.cong HR.out⟩, HG.out⟩
  | cons x xs =>
   obtain ⟨n6, hn6⟩ : ∃ n, n = (x :: xs).length := ⟨_, rfl⟩
   rw [← hn6] at e6
   subst e6
   obtain ⟨ad, e6, hx⟩ := Kd.at_int hC6 0 (by omega) (by simp)
   cases e6
   have hrd : rd (x :: xs) 0 = x := by simp [rd]
   rw [hrd] at hx
   have hx2 : wr.cell? ad = some (I x) := by simpa [Addr.add] using hx
   have hn0 : 0 < n6 := by simp at hn6; omega
   have HN6 : Aside0 (n6 = xs.length + 1) := ⟨by simpa using hn6⟩
   simp only [List.length_cons] at hgg h129
   have HSTx := Aside0.mk (HST.out x wr HG.out)
   have HMx := Aside0.mk (HSM.out x)
   have HLx := Aside0.mk (HSL.out x)
   obtain ⟨L, hL⟩ : ∃ L, L = stepsL q x := ⟨_, rfl⟩
   rw [← hL] at HSTx HLx
   have HL := Aside0.mk hL
   clear hrd hC6 hn6 hc6 hL
   go_wp2_with fail
   refine HSTx.out.mono ?_
   rintro e w1 ⟨v1, rfl, hR1, hG1⟩
   obtain ⟨A1, c1, e1, hc1, _⟩ := Kd.R_reads hR1
   subst e1
   have HR1 := Aside0.mk (Kd.R_new' hR1 (Kd.Q_lt HQ.out))
   have HS1' := Aside0.mk (HS.out.later hG1)
   have HQ1' : Aside0 (Qi w1 (w.heap.size + 1) (.slice (some ad) n6 c6) (x :: xs)) := ⟨Kd.Q_below HQ.out hG1⟩
   have HG1 := Aside0.mk (Grew.trans HG.out hG1)
   have HLW := Aside0.mk HLx.out
   have hLl := HLx.out
   obtain ⟨N0, hN0⟩ : ∃ N0, N0 = wr.heap.size := ⟨_, rfl⟩
   have HWR : Aside0 (w.heap.size < N0) := ⟨by rw [hN0]; exact HS.out.lt⟩
   rw [← hN0] at HR1
   clear hN0 hR1 hG1 hx hx2 hn0 HSTx HLx HS HQ HG
   go_wp2_with fail
   go_loopg [6, 8, 23] L.length (fun gj s6 _ s23 wq => ∃ (j : Nat) (T : Int → Bool) (ys : List Int), j ≤ L.length ∧ L.length - j ≤ gj ∧ s23 = .int .i64 j ∧ (ys.length + 1) + 2 * (64 - cnt T) ≤ gk ∧ (ys.length + 1) + 2 * (64 - cnt T) ≤ 129 ∧ Aside0 (Bfs (stepsL q) a T (x :: ys)) ∧ Aside0 (∀ t (ht : t < L.length), t < j → T L[t] = true) ∧ Aside0 (SetK wq w.heap.size (cnt T) T) ∧ Aside0 (Qi wq (w.heap.size + 1) s6 (x :: ys)) ∧ Aside0 (Ki.R 2 wq N0 (fun k => True ∧ some k ≠ s6.ownBlock) (.slice A1 L.length c1) L) ∧ Aside0 (Grew w wq))
   case atStart => exact ⟨0, S, xs, Nat.zero_le _, by omega, rfl, hgg, h129, HB, ⟨fun j _ hj => absurd hj (Nat.not_lt_zero _)⟩, HS1', HQ1', HR1, HG1⟩
   case round =>
    obtain ⟨j, T, ys, hj1, hgj, rfl, hgT, hT9, HBT, HDT, HST', HQT, HRT, HGT⟩ := hrel
    obtain ⟨A6, cc, e6, hc6, _⟩ := Kd.Q_reads HQT.out
    obtain ⟨m6, hm6⟩ : ∃ n, n = (x :: ys).length := ⟨_, rfl⟩
    rw [← hm6] at e6
    subst e6
    have HM6 := Aside0.mk hm6
    clear hm6 hc6
    by_cases hlj : j < L.length
    ·have hljz : (j : Int) < (L.length : Int) := by omega
     obtain ⟨ad2, e2, hy⟩ := Kd.at_int (Kd.R_reads' HRT.out).2.2 (j : Int) (by omega) (by omega)
     cases e2
     have hrd : rd L (j : Int) = L[j] := by simp [rd, hlj]
     rw [hrd, Int.toNat_natCast] at hy
     have HYM : Aside0 (L[j] ∈ stepsL q x) := ⟨by rw [← HL.out]; exact List.getElem_mem hlj⟩
     have HYB := HMx.out _ HYM.out
     have HDJ : Aside0 (∀ T' : Int → Bool, T' L[j] = true → (∀ z, T z = true → T' z = true) → ∀ t (ht : t < L.length), t < j + 1 → T' L[t] = true) := ⟨fun T' h hm t ht ht2 => by
      rcases Nat.lt_or_ge t j with h1 | h1
      ·exact hm _ (HDT.out t ht h1)
      ·obtain rfl : t = j := by omega
       exact h⟩
     clear hrd
     generalize L[j] = y at hy HYM HYB HDJ
     have HWF := Aside0.mk (wf_face HYB.1 HYB.2)
     have HY := Aside0.mk HYB
     have hlk := HST'.out.look y HWF.out
     clear HYB
     cases hty : T y with
     | true =>
      rw [hty] at hlk
      have HD2 := Aside0.mk (HDJ.out T hty (fun _ h => h))
      clear hty
      go_wp2_with fail
      go_roundg (L.length - (j + 1))
      case measure => omega
      case rel => exact ⟨j + 1, T, ys, by omega, by omega, by go_num, hgT, hT9, HBT, HD2, HST', HQT, HRT, HGT⟩
     | false =>
      rw [hty] at hlk
      have HCT := Aside0.mk (cnt_upd T y (by have := HY.out; omega) (by have := HY.out; omega) hty)
      have h64 := cnt_le (upd T y true)
      rw [HCT.out] at h64
      obtain ⟨w5, hr5, hS5, hg5⟩ := HST'.out.store (by have := cnt_le T; omega) y HWF.out
      have hbs := HST'.out.lt
      have HD2 := Aside0.mk (HDJ.out (upd T y true) (upd_self _ _ _) (fun z h => upd_keep h))
      have HB2 := Aside0.mk (HBT.out.add HYM.out)
      have HQ5 : Aside0 (Qi w5 (w.heap.size + 1) (.slice A6 m6 cc) (x :: ys)) := ⟨Kd.Q_mono (Kd.Q_grown (Kd.Q_bound HQT.out) hg5 (fun k hk e => by cases e; omega)) (fun _ _ => trivial)⟩
      have hsz := HGT.out.size
      have HR5 : Aside0 (Ki.R 2 w5 N0 (fun k => True ∧ some k ≠ (Value.slice A6 m6 cc).ownBlock) (.slice (some ad2) L.length c1) L) := ⟨Kd.R_mono (Kd.R_grown (Kd.R_bound HRT.out) hg5 (fun k hk e => by cases e; have := HG1.out.size; have := hk.2.1; have := HWR.out; omega)) (fun _ hk => hk.1)⟩
      have HG5 := Aside0.mk (pw_below_grown HGT.out _ hsz hg5 (fun k hk => by cases hk; omega))
      have HS5 := Aside0.mk hS5
      have hs5 : w.heap.size + 1 ≤ w5.heap.size := by have := hg5.size; omega
      have hml : (x :: ys).length ≤ 1000000000000 := by simp; omega
      clear hty hS5 hg5 hsz
      go_wp2_with (at_builtin; refine appendQ (w.heap.size + 1) rfl (.tmp 33) (.tmp 35) rfl _ (x :: ys) y rfl rfl HQ5.out hs5 hml ?_; intro v6 w6 hQ6 hB6 hg6 hat6; have HQ6 := Aside0.mk hQ6; have HR6 := Aside0.mk (Kd.R_after HR5.out hg6 hat6); have HS6 := Aside0.mk (HS5.out.same (hg6.block w.heap.size (by omega) (fun e => by have := Kd.Q_base HQ5.out _ e.symm; omega))); have HG6 := Aside0.mk (Below.trans HG5.out (hB6.mono (Nat.le_succ _))); clear hQ6 hB6 hg6 hat6 hml hs5)
      go_roundg (L.length - (j + 1))
      case measure => omega
      case rel => exact ⟨j + 1, upd T y true, ys ++ [y], by omega, by omega, by go_num, by rw [HCT.out, List.length_append]; simp; omega, by rw [HCT.out, List.length_append]; simp; omega, HB2, HD2, ⟨by rw [HCT.out]; exact HS6.out⟩, HQ6, HR6, HG6⟩
    ·have hltz : ¬ (j : Int) < (L.length : Int) := by omega
     have HPO := Aside0.mk (HBT.out.pop (fun y hy => by
      rw [← HL.out] at hy
      obtain ⟨t, ht, rfl⟩ := List.mem_iff_getElem.1 hy
      exact HDT.out t ht (by omega)))
     obtain ⟨A7, c7, hcut, hQ7⟩ := cutQ HQT.out
     have HQ7 := Aside0.mk hQ7
     clear hQ7
     go_wp2_with fail
     go_roundg (ys.length + 2 * (64 - cnt T))
     case measure => omega
     case rel => exact ⟨T, ys, Nat.le_refl _, by omega, HPO, HST', HQ7, HGT⟩

end Go.Proofs.Ytniikppojffiaaa.K
end

section
/- isPair. -/
namespace Go.Proofs.Ytniikppojffiaaa.K
open Go.RowKit Go.Shelf Go.Proofs.Ytniikppojffiaaa.Q Go.Proofs.YtniikppojffiaaaW.PrintWords Go.Proofs.YtniikppojffiaaaW.PrintLast Go.Proofs.YtniikppojffiaaaW.PrintMore
set_option linter.unusedVariables false
set_option linter.unusedSimpArgs false

theorem isPair_is {n : Int} {l : List Int} (hi : isC n l = true) (x y : Int) : impl_Complex_isPair.f (l.length + 1) n l x y = some (pairK l ⟨x, y⟩) := by
 obtain ⟨hn, hs, hr, h63⟩ := isC_faces hi
 have hh : ∀ f, impl_Complex_has.f (l.length + 1) n l f = some (hasB l f) := fun f => by unfold impl_Complex_has.f; rw [bs_is l f (by omega)]; rfl
 have hI : impl_isIn.f x y = some (inB x y) := rfl
 unfold impl_Complex_isPair.f pairK
 rw [hh x]
 simp only [Option.bind_some]
 cases h1 : hasB l x with
 | false => simp
 | true =>
  rw [if_pos rfl, hh y]
  simp only [Option.bind_some]
  cases h2 : hasB l y with
  | false => simp
  | true =>
   rw [if_pos rfl, hI]
   simp only [Option.bind_some]
   cases h3 : inB x y with
   | false => simp
   | true =>
    have hx := has_mem hi h1
    have hy := has_mem hi h2
    rw [if_pos rfl, size_is y (by omega) (by omega), size_is x (by omega) (by omega)]
    simp only [Option.bind_some]
    have := ones_le x
    have hw : wrap64 (onesI x + 1) = onesI x + 1 := by unfold wrap64; omega
    rw [hw]
    simp only [Bool.true_and]
    rfl
theorem isPair_calls {n : Int} (A : Option Addr) (c : Nat) {l : List Int} (hi : isC n l = true) (p : PairT) (w : World) (hk : Kx w A c l) :
  Calls Try.prog 88 #[.agg #[I n, .slice A l.length c], .agg #[I p.f0, I p.f1]] w fun e w' => e = .returned (.bool (pairK l p)) ∧ Grew w w' :=
 impl_Complex_isPair.calls (l.length + 1) n A c l p.f0 p.f1 (pairK l p) w hk.r hk.c (isPair_is hi p.f0 p.f1)


end Go.Proofs.Ytniikppojffiaaa.K
end

section
/- isPairing. -/
namespace Go.Proofs.Ytniikppojffiaaa.K
open Go.RowKit Go.Shelf Go.Proofs.Ytniikppojffiaaa.Q Go.Proofs.YtniikppojffiaaaW.PrintWords Go.Proofs.YtniikppojffiaaaW.PrintLast Go.Proofs.YtniikppojffiaaaW.PrintMore
open Go.Maps (Keyed IsMap)
set_option linter.unusedVariables false
set_option linter.unusedSimpArgs false

theorem upd_seen (S : Int → Bool) (a b x : Int) : upd (upd S a true) b true x = (S x || (a == x || b == x)) := by
 unfold upd
 by_cases h1 : x = b
 ·subst h1; simp
 ·by_cases h2 : x = a
  ·subst h2; simp [h1]
  ·have e1 : (a == x) = false := by simpa using fun h => h2 h.symm
   have e2 : (b == x) = false := by simpa using fun h => h1 h.symm
   simp [h1, h2, e1, e2]
set_option maxRecDepth 100000 in
set_option maxHeartbeats 16000000 in
theorem isPairing_calls {n : Int} (A : Option Addr) (c : Nat) {l : List Int} (hi : isC n l = true) (A2 : Option Addr) (c2 : Nat) (q : List PairT) (w : World) (hk : Kx w A c l) (hq : Kq.C w A2 q.length q) (hc2 : q.length ≤ c2) (hq2 : q.length ≤ 2097152) :
  Calls Try.prog 64 #[.agg #[I n, .slice A l.length c], .slice A2 q.length c2] w fun e w' => e = .returned (.bool (pingB l q)) ∧ Grew w w' := by
 obtain ⟨W0, hW0⟩ : ∃ W0, W0 = (w.alloc (.cells #[I n, .slice A l.length c] 30)).alloc (.map #[] 0) := ⟨_, rfl⟩
 have hB : CB W0 w.heap.size n (.slice A l.length c) := by rw [hW0]; exact blk_alloc (blk_new w _) _
 have hS : SetM W0 (w.heap.size + 1) 0 (fun _ => false) := by
  rw [hW0]
  have := SetM_made (w.alloc (.cells #[I n, .slice A l.length c] 30))
  rwa [World.size_alloc] at this
 have hg : Grew w W0 := by rw [hW0]; exact below_alloc (below_alloc (Grew.refl w) _) _
 have HK := Aside0.mk hk
 have HQ := Aside0.mk hq
 have HC2 := Aside0.mk hc2
 have HI := Aside0.mk hi
 have HB := Aside0.mk hB
 have HS := Aside0.mk hS
 have HG := Aside0.mk hg
 have hmm := @run_makeMap Try.prog
 clear hk hq hc2 hi hB hS hg
 subst hW0
 go_enter Try.func64, Try.ntmps64
 go_wp2_with fail
 go_loopg [6, 7, 11] q.length (fun gg _ _ s11 wr => ∃ i : Nat, i ≤ q.length ∧ q.length - i ≤ gg ∧ s11 = .int .i64 i ∧ Aside0 (CB wr w.heap.size n (.slice A l.length c)) ∧ Aside0 (SetM wr (w.heap.size + 1) (2 * i) (seenB q i)) ∧ Aside0 (Grew w wr) ∧ Aside0 (∀ j, j < i → okAt l q j = true))
 case atStart => exact ⟨0, Nat.zero_le _, by omega, rfl, HB, ⟨HS.out.cong (fun x _ => by simp [seenB])⟩, HG, ⟨fun j hj => absurd hj (Nat.not_lt_zero _)⟩⟩
 case round =>
  obtain ⟨i, hi1, hgg, rfl, HBr, HSr, HGr, HO⟩ := hrel
  by_cases hlt : i < q.length
  ·have hltz : (i : Int) < (q.length : Int) := by omega
   obtain ⟨ad, e0, hx0, hx1⟩ := Kq_read (Kd.C_below HQ.out HGr.out) i hlt rfl
   cases e0
   have hlw : w.heap.size < wr.heap.size := blk_lt HBr.out
   have HOK := Aside0.mk (okAt_eq l q i hlt)
   have HSS := Aside0.mk (seen_succ q i hlt)
   have HPB : Aside0 (okAt l q i = false → pingB l q = false) := ⟨fun h => ping_false hlt h⟩
   have HPS : Aside0 (okAt l q i = true → ∀ j, j < i + 1 → okAt l q j = true) := ⟨fun h j hj => by
    rcases Nat.lt_or_ge j i with h1 | h1
    ·exact HO.out j h1
    ·rw [show j = i by omega]; exact h⟩
   -- the pair before
   have HPV : Aside0 (0 < i → wr.cell? (ad.add ((i - 1) * 2)) = some (I (q.getD (i - 1) z53).f0) ∧ wr.cell? ⟨(ad.add ((i - 1) * 2)).block, (ad.add ((i - 1) * 2)).off + 1, none⟩ = some (I (q.getD (i - 1) z53).f1)) := ⟨fun h0 => by
    obtain ⟨ad2, e2, hy0, hy1⟩ := Kq_read (Kd.C_below HQ.out HGr.out) (i - 1) (by omega) rfl
    cases e2
    have hz : q.getD (i - 1) z53 = q[i - 1] := by simp [show i - 1 < q.length by omega]
    rw [hz]
    exact ⟨hy0, hy1⟩⟩
   generalize q.getD (i - 1) z53 = r at HOK HPV
   generalize q[i] = p at hx0 hx1 HOK HSS
   have HLB := Aside0.mk (World.block_lt_of_cell? wr _ hx0)
   -- the world with the pair's box
   obtain ⟨W1, hW1⟩ : ∃ W1, W1 = wr.alloc (.cells #[I p.f0, I p.f1] 53) := ⟨_, rfl⟩
   have hp : W1.heap[wr.heap.size]? = some (.cells #[I p.f0, I p.f1] 53 (0, 0)) := by rw [hW1]; exact blk_new wr _
   have hG1 : Grew wr W1 := by rw [hW1]; exact below_alloc (Grew.refl wr) _
   have HS1 := Aside0.mk (HSr.out.later hG1)
   have HB1 : Aside0 (CB W1 w.heap.size n (.slice A l.length c)) := ⟨blk_below HBr.out hG1⟩
   have HP1 := Aside0.mk hp
   have HG1 := Aside0.mk hG1
   have HGw1 := Aside0.mk (Grew.trans HGr.out hG1)
   have HIP := Aside0.mk (fun (W : World) (h : Grew W1 W) => isPair_calls A c HI.out p W (HK.out.later (Grew.trans HGw1.out h)))
   have HCP := Aside0.mk (fun (W : World) => comparePairs_calls r.f0 r.f1 p.f0 p.f1 W)
   have k0 := HB1.out.c0
   have k1 := HB1.out.c1
   have hp0 : W1.cell? ⟨wr.heap.size, 0, none⟩ = some (I p.f0) := blk_cell hp 0
   have hp1 : W1.cell? ⟨wr.heap.size, 1, none⟩ = some (I p.f1) := blk_cell hp 1
   have hl0 := World.block_lt_of_cell? W1 _ k0
   have hl1 := World.block_lt_of_cell? W1 _ hp0
   have HE1 := Aside0.mk hW1
   clear hp hG1 hW1
   generalize hb1 : pairK l p = b1 at HOK HIP
   have HPK := Aside0.mk hb1
   clear hb1
   cases b1 with
   | false =>
    have HPF := Aside0.mk (HPB.out (by rw [HOK.out]; rfl))
    clear HPB HPS HOK
    go_wp2_with fail
    rw [← HE1.out]
    refine start_ (n := 30) (S := fun w' => w'.cell? ⟨w.heap.size, 0, none⟩ = some (I n) ∧ w'.cell? ⟨w.heap.size, 1, none⟩ = some (.slice A l.length c) ∧ w'.cell? ⟨wr.heap.size, 0, none⟩ = some (I p.f0) ∧ w'.cell? ⟨wr.heap.size, 1, none⟩ = some (I p.f1)) (ds := []) (ar 0 30) (by kernel_rfl) rfl rfl ⟨(Below.cell (w := W1) (below_drew (Grew.refl W1)) (p := ⟨w.heap.size, 0, none⟩) hl0).trans k0, (Below.cell (w := W1) (below_drew (Grew.refl W1)) (p := ⟨w.heap.size, 1, none⟩) hl0).trans k1, (Below.cell (w := W1) (below_drew (Grew.refl W1)) (p := ⟨wr.heap.size, 0, none⟩) hl1).trans hp0, (Below.cell (w := W1) (below_drew (Grew.refl W1)) (p := ⟨wr.heap.size, 1, none⟩) hl1).trans hp1⟩ (fun hHeld => ?_)
    refine take_ (i := 0) (N := some 16) (v := ?_) (a' := ?_) (ar 1 29) rfl rfl (by kernel_rfl) hh_ (Or.inl ⟨by rfl, ?_⟩) hHeld ?_ ?_
    rotate_left; · rintro w' ⟨s0, s1, s2, s3⟩; go_simp; with_reducible rfl
    rotate_left; · simp only [nm_]; rfl
    refine take_ (i := 1) (N := some 17) (v := ?_) (a' := ?_) (ar 2 28) rfl rfl (by kernel_rfl) hh_ (Or.inl ⟨by rfl, ?_⟩) hHeld ?_ ?_
    rotate_left; · rintro w' ⟨s0, s1, s2, s3⟩; go_simp; with_reducible rfl
    rotate_left; · simp only [nm_]; rfl
    refine one_ (i := 2) (N := some 18) (ar 3 27) rfl rfl (by kernel_rfl) (by decide) (fun K hK => ?_)
    refine goes_ Try.func88 (by kernel_rfl) rfl #[.agg #[I n, .slice A l.length c], .agg #[I p.f0, I p.f1]] (by rfl) rfl rfl (by simp only [List.map_toArray, List.map_cons, List.map_nil]; rfl) ?_
    with_reducible refine (HIP.out _ (below_drew (Grew.refl W1))).mono ?_
    rintro e w3 ⟨rfl, hGa⟩
    refine ⟨_, rfl, ?_⟩
    have HL := Aside0.mk (Grew.trans (below_drew (Grew.refl W1)) hGa)
    clear hGa
    refine hK.out _ _ ⟨(Below.cell (w := W1) HL.out (p := ⟨w.heap.size, 0, none⟩) hl0).trans k0, (Below.cell (w := W1) HL.out (p := ⟨w.heap.size, 1, none⟩) hl0).trans k1, (Below.cell (w := W1) HL.out (p := ⟨wr.heap.size, 0, none⟩) hl1).trans hp0, (Below.cell (w := W1) HL.out (p := ⟨wr.heap.size, 1, none⟩) hl1).trans hp1⟩ (fun hHeld => ?_)
    clear hK K
    refine norm_ (a' := ?_) ?_ ?_
    rotate_left
    ·show Act.put _ (some 18) _ = _
     simp only [nm_]
     rfl
    refine pure_ (i := 3) (N := some 19) (v := ?_) (a' := ?_) (ar 4 26) rfl rfl (by kernel_rfl) hh_ (Or.inl ⟨by rfl, ?_⟩) ?_ ?_; rotate_left; (intro w'; go_simp; with_reducible rfl); rotate_left; · simp only [nm_]; rfl
    refine pure_ (i := 4) (N := some 20) (v := ?_) (a' := ?_) (ar 5 25) rfl rfl (by kernel_rfl) hh_ (Or.inl ⟨by rfl, ?_⟩) ?_ ?_; rotate_left; (intro w'; go_simp; with_reducible rfl); rotate_left; · simp only [nm_]; rfl
    refine pure_ (i := 5) (N := some 21) (v := undef) (a' := ?_) (ar 6 24) rfl rfl (by kernel_rfl) hh_ (Or.inr ⟨by rfl, rfl⟩) ?_ ?_; rotate_left; · simp only [nm_]; rfl
    refine pure_ (i := 6) (N := some 22) (v := undef) (a' := ?_) (ar 7 23) rfl rfl (by kernel_rfl) hh_ (Or.inr ⟨by rfl, rfl⟩) ?_ ?_; rotate_left; · simp only [nm_]; rfl
    refine pure_ (i := 7) (N := some 23) (v := undef) (a' := ?_) (ar 8 22) rfl rfl (by kernel_rfl) hh_ (Or.inr ⟨by rfl, rfl⟩) ?_ ?_; rotate_left; · simp only [nm_]; rfl
    refine pure_ (i := 8) (N := some 24) (v := undef) (a' := ?_) (ar 9 21) rfl rfl (by kernel_rfl) hh_ (Or.inr ⟨by rfl, rfl⟩) ?_ ?_; rotate_left; · simp only [nm_]; rfl
    refine pure_ (i := 9) (N := some 25) (v := ?_) (a' := ?_) (ar 10 20) rfl rfl (by kernel_rfl) hh_ (Or.inl ⟨by rfl, ?_⟩) ?_ ?_; rotate_left; (intro w'; go_simp; with_reducible rfl); rotate_left; · simp only [nm_]; rfl
    refine pure_ (i := 10) (N := some 26) (v := ?_) (a' := ?_) (ar 11 19) rfl rfl (by kernel_rfl) hh_ (Or.inl ⟨by rfl, ?_⟩) ?_ ?_; rotate_left; (intro w'; go_simp; with_reducible rfl); rotate_left; · simp only [nm_]; rfl
    refine pure_ (i := 11) (N := some 27) (v := undef) (a' := ?_) (ar 12 18) rfl rfl (by kernel_rfl) hh_ (Or.inr ⟨by rfl, rfl⟩) ?_ ?_; rotate_left; · simp only [nm_]; rfl
    refine pure_ (i := 12) (N := some 28) (v := undef) (a' := ?_) (ar 13 17) rfl rfl (by kernel_rfl) hh_ (Or.inr ⟨by rfl, rfl⟩) ?_ ?_; rotate_left; · simp only [nm_]; rfl
    refine pure_ (i := 13) (N := some 29) (v := undef) (a' := ?_) (ar 14 16) rfl rfl (by kernel_rfl) hh_ (Or.inr ⟨by rfl, rfl⟩) ?_ ?_; rotate_left; · simp only [nm_]; rfl
    refine pure_ (i := 14) (N := some 30) (v := undef) (a' := ?_) (ar 15 15) rfl rfl (by kernel_rfl) hh_ (Or.inr ⟨by rfl, rfl⟩) ?_ ?_; rotate_left; · simp only [nm_]; rfl
    refine pure_ (i := 15) (N := some 31) (v := ?_) (a' := ?_) (ar 16 14) rfl rfl (by kernel_rfl) hh_ (Or.inl ⟨by rfl, ?_⟩) ?_ ?_; rotate_left; (intro w'; go_simp; with_reducible rfl); rotate_left; · simp only [nm_]; rfl
    refine pure_ (i := 16) (N := some 32) (v := ?_) (a' := ?_) (ar 17 13) rfl rfl (by kernel_rfl) hh_ (Or.inl ⟨by rfl, ?_⟩) ?_ ?_; rotate_left; (intro w'; go_simp; with_reducible rfl); rotate_left; · simp only [nm_]; rfl
    refine pure_ (i := 17) (N := some 33) (v := undef) (a' := ?_) (ar 18 12) rfl rfl (by kernel_rfl) hh_ (Or.inr ⟨by rfl, rfl⟩) ?_ ?_; rotate_left; · simp only [nm_]; rfl
    refine pure_ (i := 18) (N := some 34) (v := undef) (a' := ?_) (ar 19 11) rfl rfl (by kernel_rfl) hh_ (Or.inr ⟨by rfl, rfl⟩) ?_ ?_; rotate_left; · simp only [nm_]; rfl
    refine pure_ (i := 19) (N := some 35) (v := undef) (a' := ?_) (ar 20 10) rfl rfl (by kernel_rfl) hh_ (Or.inr ⟨by rfl, rfl⟩) ?_ ?_; rotate_left; · simp only [nm_]; rfl
    refine pure_ (i := 20) (N := some 36) (v := undef) (a' := ?_) (ar 21 9) rfl rfl (by kernel_rfl) hh_ (Or.inr ⟨by rfl, rfl⟩) ?_ ?_; rotate_left; · simp only [nm_]; rfl
    refine pure_ (i := 21) (N := some 37) (v := undef) (a' := ?_) (ar 22 8) rfl rfl (by kernel_rfl) hh_ (Or.inr ⟨by rfl, rfl⟩) ?_ ?_; rotate_left; · simp only [nm_]; rfl
    refine pure_ (i := 22) (N := some 38) (v := undef) (a' := ?_) (ar 23 7) rfl rfl (by kernel_rfl) hh_ (Or.inr ⟨by rfl, rfl⟩) ?_ ?_; rotate_left; · simp only [nm_]; rfl
    refine pure_ (i := 23) (N := some 39) (v := undef) (a' := ?_) (ar 24 6) rfl rfl (by kernel_rfl) hh_ (Or.inr ⟨by rfl, rfl⟩) ?_ ?_; rotate_left; · simp only [nm_]; rfl
    refine pure_ (i := 24) (N := some 40) (v := undef) (a' := ?_) (ar 25 5) rfl rfl (by kernel_rfl) hh_ (Or.inr ⟨by rfl, rfl⟩) ?_ ?_; rotate_left; · simp only [nm_]; rfl
    refine pure_ (i := 25) (N := some 41) (v := undef) (a' := ?_) (ar 26 4) rfl rfl (by kernel_rfl) hh_ (Or.inr ⟨by rfl, rfl⟩) ?_ ?_; rotate_left; · simp only [nm_]; rfl
    refine pure_ (i := 26) (N := some 42) (v := undef) (a' := ?_) (ar 27 3) rfl rfl (by kernel_rfl) hh_ (Or.inr ⟨by rfl, rfl⟩) ?_ ?_; rotate_left; · simp only [nm_]; rfl
    refine pure_ (i := 27) (N := some 43) (v := undef) (a' := ?_) (ar 28 2) rfl rfl (by kernel_rfl) hh_ (Or.inr ⟨by rfl, rfl⟩) ?_ ?_; rotate_left; · simp only [nm_]; rfl
    refine pure_ (i := 28) (N := some 44) (v := undef) (a' := ?_) (ar 29 1) rfl rfl (by kernel_rfl) hh_ (Or.inr ⟨by rfl, rfl⟩) ?_ ?_; rotate_left; · simp only [nm_]; rfl
    refine pure_ (i := 29) (N := some 45) (v := ?_) (a' := ?_) (ar 30 0) rfl rfl (by kernel_rfl) hh_ (Or.inl ⟨by rfl, ?_⟩) ?_ ?_; rotate_left; (intro w'; go_simp; with_reducible rfl); rotate_left; · simp only [nm_]; rfl
    refine done_ (by kernel_rfl) ?_
    go_wp2_with fail
    go_ret
    exact ⟨by rw [HPF.out]; rfl, Grew.trans HGw1.out HL.out⟩
   | true =>
    have HM := Aside0.mk (pairK_mem HI.out HPK.out)
    have HW0 := Aside0.mk (wf_face HM.out.1.2.1 HM.out.1.2.2)
    have HW1 := Aside0.mk (wf_face HM.out.2.1.2.1 HM.out.2.1.2.2)
    cases hb2 : seenB q i p.f0 with
    | true =>
     have HL0 := Aside0.mk hb2
     clear hb2
     have HPF := Aside0.mk (HPB.out (by rw [HOK.out]; rw [HL0.out]; rfl))
     clear HPB HPS HOK
     go_wp2_with fail
     rw [← HE1.out]
     have HLK0 : Aside0 (∀ W, Grew W1 W → (Instr.lookup TMap (.map (some (w.heap.size + 1))) (I p.f0) false).run Try.prog W = .ok (.bool true) W) := ⟨fun W h => by have h2 := (HS1.out.later h).look p.f0 HW0.out; rw [HL0.out] at h2; exact h2⟩
     refine start_ (n := 30) (S := fun w' => w'.cell? ⟨w.heap.size, 0, none⟩ = some (I n) ∧ w'.cell? ⟨w.heap.size, 1, none⟩ = some (.slice A l.length c) ∧ w'.cell? ⟨wr.heap.size, 0, none⟩ = some (I p.f0) ∧ w'.cell? ⟨wr.heap.size, 1, none⟩ = some (I p.f1) ∧ (Instr.lookup TMap (.map (some (w.heap.size + 1))) (I p.f0) false).run Try.prog w' = .ok (.bool true) w') (ds := []) (ar 0 30) (by kernel_rfl) rfl rfl ⟨(Below.cell (w := W1) (below_drew (Grew.refl W1)) (p := ⟨w.heap.size, 0, none⟩) hl0).trans k0, (Below.cell (w := W1) (below_drew (Grew.refl W1)) (p := ⟨w.heap.size, 1, none⟩) hl0).trans k1, (Below.cell (w := W1) (below_drew (Grew.refl W1)) (p := ⟨wr.heap.size, 0, none⟩) hl1).trans hp0, (Below.cell (w := W1) (below_drew (Grew.refl W1)) (p := ⟨wr.heap.size, 1, none⟩) hl1).trans hp1, HLK0.out _ (below_drew (Grew.refl W1))⟩ (fun hHeld => ?_)
     refine take_ (i := 0) (N := some 16) (v := ?_) (a' := ?_) (ar 1 29) rfl rfl (by kernel_rfl) hh_ (Or.inl ⟨by rfl, ?_⟩) hHeld ?_ ?_
     rotate_left; · rintro w' ⟨s0, s1, s2, s3, s4⟩; go_simp; with_reducible rfl
     rotate_left; · simp only [nm_]; rfl
     refine take_ (i := 1) (N := some 17) (v := ?_) (a' := ?_) (ar 2 28) rfl rfl (by kernel_rfl) hh_ (Or.inl ⟨by rfl, ?_⟩) hHeld ?_ ?_
     rotate_left; · rintro w' ⟨s0, s1, s2, s3, s4⟩; go_simp; with_reducible rfl
     rotate_left; · simp only [nm_]; rfl
     refine one_ (i := 2) (N := some 18) (ar 3 27) rfl rfl (by kernel_rfl) (by decide) (fun K hK => ?_)
     refine goes_ Try.func88 (by kernel_rfl) rfl #[.agg #[I n, .slice A l.length c], .agg #[I p.f0, I p.f1]] (by rfl) rfl rfl (by simp only [List.map_toArray, List.map_cons, List.map_nil]; rfl) ?_
     with_reducible refine (HIP.out _ (below_drew (Grew.refl W1))).mono ?_
     rintro e w3 ⟨rfl, hGa⟩
     refine ⟨_, rfl, ?_⟩
     have HL := Aside0.mk (Grew.trans (below_drew (Grew.refl W1)) hGa)
     clear hGa
     refine hK.out _ _ ⟨(Below.cell (w := W1) HL.out (p := ⟨w.heap.size, 0, none⟩) hl0).trans k0, (Below.cell (w := W1) HL.out (p := ⟨w.heap.size, 1, none⟩) hl0).trans k1, (Below.cell (w := W1) HL.out (p := ⟨wr.heap.size, 0, none⟩) hl1).trans hp0, (Below.cell (w := W1) HL.out (p := ⟨wr.heap.size, 1, none⟩) hl1).trans hp1, HLK0.out _ HL.out⟩ (fun hHeld => ?_)
     clear hK K
     refine norm_ (a' := ?_) ?_ ?_
     rotate_left
     ·show Act.put _ (some 18) _ = _
      simp only [nm_]
      rfl
     refine pure_ (i := 3) (N := some 19) (v := ?_) (a' := ?_) (ar 4 26) rfl rfl (by kernel_rfl) hh_ (Or.inl ⟨by rfl, ?_⟩) ?_ ?_; rotate_left; (intro w'; go_simp; with_reducible rfl); rotate_left; · simp only [nm_]; rfl
     refine pure_ (i := 4) (N := some 20) (v := ?_) (a' := ?_) (ar 5 25) rfl rfl (by kernel_rfl) hh_ (Or.inl ⟨by rfl, ?_⟩) ?_ ?_; rotate_left; (intro w'; go_simp; with_reducible rfl); rotate_left; · simp only [nm_]; rfl
     refine pure_ (i := 5) (N := some 21) (v := ?_) (a' := ?_) (ar 6 24) rfl rfl (by kernel_rfl) hh_ (Or.inl ⟨by rfl, ?_⟩) ?_ ?_; rotate_left; (intro w'; go_simp; with_reducible rfl); rotate_left; · simp only [nm_]; rfl
     refine pure_ (i := 6) (N := some 22) (v := ?_) (a' := ?_) (ar 7 23) rfl rfl (by kernel_rfl) hh_ (Or.inl ⟨by rfl, ?_⟩) ?_ ?_; rotate_left; (intro w'; go_simp; with_reducible rfl); rotate_left; · simp only [nm_]; rfl
     refine take_ (i := 7) (N := some 23) (v := ?_) (a' := ?_) (ar 8 22) rfl rfl (by kernel_rfl) hh_ (Or.inl ⟨by rfl, ?_⟩) hHeld ?_ ?_
     rotate_left; · rintro w' ⟨s0, s1, s2, s3, s4⟩; go_simp; with_reducible rfl
     rotate_left; · simp only [nm_]; rfl
     refine take_ (i := 8) (N := some 24) (v := ?_) (a' := ?_) (ar 9 21) rfl rfl (by kernel_rfl) hh_ (Or.inl ⟨by rfl, ?_⟩) hHeld ?_ ?_
     rotate_left; · rintro w' ⟨s0, s1, s2, s3, s4⟩; go_simp; with_reducible rfl
     rotate_left; · simp only [nm_]; rfl
     refine pure_ (i := 9) (N := some 25) (v := ?_) (a' := ?_) (ar 10 20) rfl rfl (by kernel_rfl) hh_ (Or.inl ⟨by rfl, ?_⟩) ?_ ?_; rotate_left; (intro w'; go_simp; with_reducible rfl); rotate_left; · simp only [nm_]; rfl
     refine pure_ (i := 10) (N := some 26) (v := ?_) (a' := ?_) (ar 11 19) rfl rfl (by kernel_rfl) hh_ (Or.inl ⟨by rfl, ?_⟩) ?_ ?_; rotate_left; (intro w'; go_simp; with_reducible rfl); rotate_left; · simp only [nm_]; rfl
     refine pure_ (i := 11) (N := some 27) (v := undef) (a' := ?_) (ar 12 18) rfl rfl (by kernel_rfl) hh_ (Or.inr ⟨by rfl, rfl⟩) ?_ ?_; rotate_left; · simp only [nm_]; rfl
     refine pure_ (i := 12) (N := some 28) (v := undef) (a' := ?_) (ar 13 17) rfl rfl (by kernel_rfl) hh_ (Or.inr ⟨by rfl, rfl⟩) ?_ ?_; rotate_left; · simp only [nm_]; rfl
     refine pure_ (i := 13) (N := some 29) (v := undef) (a' := ?_) (ar 14 16) rfl rfl (by kernel_rfl) hh_ (Or.inr ⟨by rfl, rfl⟩) ?_ ?_; rotate_left; · simp only [nm_]; rfl
     refine pure_ (i := 14) (N := some 30) (v := undef) (a' := ?_) (ar 15 15) rfl rfl (by kernel_rfl) hh_ (Or.inr ⟨by rfl, rfl⟩) ?_ ?_; rotate_left; · simp only [nm_]; rfl
     refine pure_ (i := 15) (N := some 31) (v := ?_) (a' := ?_) (ar 16 14) rfl rfl (by kernel_rfl) hh_ (Or.inl ⟨by rfl, ?_⟩) ?_ ?_; rotate_left; (intro w'; go_simp; with_reducible rfl); rotate_left; · simp only [nm_]; rfl
     refine pure_ (i := 16) (N := some 32) (v := ?_) (a' := ?_) (ar 17 13) rfl rfl (by kernel_rfl) hh_ (Or.inl ⟨by rfl, ?_⟩) ?_ ?_; rotate_left; (intro w'; go_simp; with_reducible rfl); rotate_left; · simp only [nm_]; rfl
     refine pure_ (i := 17) (N := some 33) (v := undef) (a' := ?_) (ar 18 12) rfl rfl (by kernel_rfl) hh_ (Or.inr ⟨by rfl, rfl⟩) ?_ ?_; rotate_left; · simp only [nm_]; rfl
     refine pure_ (i := 18) (N := some 34) (v := undef) (a' := ?_) (ar 19 11) rfl rfl (by kernel_rfl) hh_ (Or.inr ⟨by rfl, rfl⟩) ?_ ?_; rotate_left; · simp only [nm_]; rfl
     refine pure_ (i := 19) (N := some 35) (v := undef) (a' := ?_) (ar 20 10) rfl rfl (by kernel_rfl) hh_ (Or.inr ⟨by rfl, rfl⟩) ?_ ?_; rotate_left; · simp only [nm_]; rfl
     refine pure_ (i := 20) (N := some 36) (v := undef) (a' := ?_) (ar 21 9) rfl rfl (by kernel_rfl) hh_ (Or.inr ⟨by rfl, rfl⟩) ?_ ?_; rotate_left; · simp only [nm_]; rfl
     refine pure_ (i := 21) (N := some 37) (v := undef) (a' := ?_) (ar 22 8) rfl rfl (by kernel_rfl) hh_ (Or.inr ⟨by rfl, rfl⟩) ?_ ?_; rotate_left; · simp only [nm_]; rfl
     refine pure_ (i := 22) (N := some 38) (v := undef) (a' := ?_) (ar 23 7) rfl rfl (by kernel_rfl) hh_ (Or.inr ⟨by rfl, rfl⟩) ?_ ?_; rotate_left; · simp only [nm_]; rfl
     refine pure_ (i := 23) (N := some 39) (v := undef) (a' := ?_) (ar 24 6) rfl rfl (by kernel_rfl) hh_ (Or.inr ⟨by rfl, rfl⟩) ?_ ?_; rotate_left; · simp only [nm_]; rfl
     refine pure_ (i := 24) (N := some 40) (v := undef) (a' := ?_) (ar 25 5) rfl rfl (by kernel_rfl) hh_ (Or.inr ⟨by rfl, rfl⟩) ?_ ?_; rotate_left; · simp only [nm_]; rfl
     refine pure_ (i := 25) (N := some 41) (v := undef) (a' := ?_) (ar 26 4) rfl rfl (by kernel_rfl) hh_ (Or.inr ⟨by rfl, rfl⟩) ?_ ?_; rotate_left; · simp only [nm_]; rfl
     refine pure_ (i := 26) (N := some 42) (v := undef) (a' := ?_) (ar 27 3) rfl rfl (by kernel_rfl) hh_ (Or.inr ⟨by rfl, rfl⟩) ?_ ?_; rotate_left; · simp only [nm_]; rfl
     refine pure_ (i := 27) (N := some 43) (v := undef) (a' := ?_) (ar 28 2) rfl rfl (by kernel_rfl) hh_ (Or.inr ⟨by rfl, rfl⟩) ?_ ?_; rotate_left; · simp only [nm_]; rfl
     refine pure_ (i := 28) (N := some 44) (v := undef) (a' := ?_) (ar 29 1) rfl rfl (by kernel_rfl) hh_ (Or.inr ⟨by rfl, rfl⟩) ?_ ?_; rotate_left; · simp only [nm_]; rfl
     refine pure_ (i := 29) (N := some 45) (v := ?_) (a' := ?_) (ar 30 0) rfl rfl (by kernel_rfl) hh_ (Or.inl ⟨by rfl, ?_⟩) ?_ ?_; rotate_left; (intro w'; go_simp; with_reducible rfl); rotate_left; · simp only [nm_]; rfl
     refine done_ (by kernel_rfl) ?_
     go_wp2_with fail
     go_ret
     exact ⟨by rw [HPF.out]; rfl, Grew.trans HGw1.out HL.out⟩
    | false =>
     have HL0 := Aside0.mk hb2
     clear hb2
     cases hb3 : seenB q i p.f1 with
     | true =>
      have HL1 := Aside0.mk hb3
      clear hb3
      have HPF := Aside0.mk (HPB.out (by rw [HOK.out]; rw [HL0.out, HL1.out]; rfl))
      clear HPB HPS HOK
      go_wp2_with fail
      rw [← HE1.out]
      have HLK0 : Aside0 (∀ W, Grew W1 W → (Instr.lookup TMap (.map (some (w.heap.size + 1))) (I p.f0) false).run Try.prog W = .ok (.bool false) W) := ⟨fun W h => by have h2 := (HS1.out.later h).look p.f0 HW0.out; rw [HL0.out] at h2; exact h2⟩
      have HLK1 : Aside0 (∀ W, Grew W1 W → (Instr.lookup TMap (.map (some (w.heap.size + 1))) (I p.f1) false).run Try.prog W = .ok (.bool true) W) := ⟨fun W h => by have h2 := (HS1.out.later h).look p.f1 HW1.out; rw [HL1.out] at h2; exact h2⟩
      refine start_ (n := 30) (S := fun w' => w'.cell? ⟨w.heap.size, 0, none⟩ = some (I n) ∧ w'.cell? ⟨w.heap.size, 1, none⟩ = some (.slice A l.length c) ∧ w'.cell? ⟨wr.heap.size, 0, none⟩ = some (I p.f0) ∧ w'.cell? ⟨wr.heap.size, 1, none⟩ = some (I p.f1) ∧ (Instr.lookup TMap (.map (some (w.heap.size + 1))) (I p.f0) false).run Try.prog w' = .ok (.bool false) w' ∧ (Instr.lookup TMap (.map (some (w.heap.size + 1))) (I p.f1) false).run Try.prog w' = .ok (.bool true) w') (ds := []) (ar 0 30) (by kernel_rfl) rfl rfl ⟨(Below.cell (w := W1) (below_drew (Grew.refl W1)) (p := ⟨w.heap.size, 0, none⟩) hl0).trans k0, (Below.cell (w := W1) (below_drew (Grew.refl W1)) (p := ⟨w.heap.size, 1, none⟩) hl0).trans k1, (Below.cell (w := W1) (below_drew (Grew.refl W1)) (p := ⟨wr.heap.size, 0, none⟩) hl1).trans hp0, (Below.cell (w := W1) (below_drew (Grew.refl W1)) (p := ⟨wr.heap.size, 1, none⟩) hl1).trans hp1, HLK0.out _ (below_drew (Grew.refl W1)), HLK1.out _ (below_drew (Grew.refl W1))⟩ (fun hHeld => ?_)
      refine take_ (i := 0) (N := some 16) (v := ?_) (a' := ?_) (ar 1 29) rfl rfl (by kernel_rfl) hh_ (Or.inl ⟨by rfl, ?_⟩) hHeld ?_ ?_
      rotate_left; · rintro w' ⟨s0, s1, s2, s3, s4, s5⟩; go_simp; with_reducible rfl
      rotate_left; · simp only [nm_]; rfl
      refine take_ (i := 1) (N := some 17) (v := ?_) (a' := ?_) (ar 2 28) rfl rfl (by kernel_rfl) hh_ (Or.inl ⟨by rfl, ?_⟩) hHeld ?_ ?_
      rotate_left; · rintro w' ⟨s0, s1, s2, s3, s4, s5⟩; go_simp; with_reducible rfl
      rotate_left; · simp only [nm_]; rfl
      refine one_ (i := 2) (N := some 18) (ar 3 27) rfl rfl (by kernel_rfl) (by decide) (fun K hK => ?_)
      refine goes_ Try.func88 (by kernel_rfl) rfl #[.agg #[I n, .slice A l.length c], .agg #[I p.f0, I p.f1]] (by rfl) rfl rfl (by simp only [List.map_toArray, List.map_cons, List.map_nil]; rfl) ?_
      with_reducible refine (HIP.out _ (below_drew (Grew.refl W1))).mono ?_
      rintro e w3 ⟨rfl, hGa⟩
      refine ⟨_, rfl, ?_⟩
      have HL := Aside0.mk (Grew.trans (below_drew (Grew.refl W1)) hGa)
      clear hGa
      refine hK.out _ _ ⟨(Below.cell (w := W1) HL.out (p := ⟨w.heap.size, 0, none⟩) hl0).trans k0, (Below.cell (w := W1) HL.out (p := ⟨w.heap.size, 1, none⟩) hl0).trans k1, (Below.cell (w := W1) HL.out (p := ⟨wr.heap.size, 0, none⟩) hl1).trans hp0, (Below.cell (w := W1) HL.out (p := ⟨wr.heap.size, 1, none⟩) hl1).trans hp1, HLK0.out _ HL.out, HLK1.out _ HL.out⟩ (fun hHeld => ?_)
      clear hK K
      refine norm_ (a' := ?_) ?_ ?_
      rotate_left
      ·show Act.put _ (some 18) _ = _
       simp only [nm_]
       rfl
      refine pure_ (i := 3) (N := some 19) (v := ?_) (a' := ?_) (ar 4 26) rfl rfl (by kernel_rfl) hh_ (Or.inl ⟨by rfl, ?_⟩) ?_ ?_; rotate_left; (intro w'; go_simp; with_reducible rfl); rotate_left; · simp only [nm_]; rfl
      refine pure_ (i := 4) (N := some 20) (v := ?_) (a' := ?_) (ar 5 25) rfl rfl (by kernel_rfl) hh_ (Or.inl ⟨by rfl, ?_⟩) ?_ ?_; rotate_left; (intro w'; go_simp; with_reducible rfl); rotate_left; · simp only [nm_]; rfl
      refine pure_ (i := 5) (N := some 21) (v := ?_) (a' := ?_) (ar 6 24) rfl rfl (by kernel_rfl) hh_ (Or.inl ⟨by rfl, ?_⟩) ?_ ?_; rotate_left; (intro w'; go_simp; with_reducible rfl); rotate_left; · simp only [nm_]; rfl
      refine pure_ (i := 6) (N := some 22) (v := ?_) (a' := ?_) (ar 7 23) rfl rfl (by kernel_rfl) hh_ (Or.inl ⟨by rfl, ?_⟩) ?_ ?_; rotate_left; (intro w'; go_simp; with_reducible rfl); rotate_left; · simp only [nm_]; rfl
      refine take_ (i := 7) (N := some 23) (v := ?_) (a' := ?_) (ar 8 22) rfl rfl (by kernel_rfl) hh_ (Or.inl ⟨by rfl, ?_⟩) hHeld ?_ ?_
      rotate_left; · rintro w' ⟨s0, s1, s2, s3, s4, s5⟩; go_simp; with_reducible rfl
      rotate_left; · simp only [nm_]; rfl
      refine take_ (i := 8) (N := some 24) (v := ?_) (a' := ?_) (ar 9 21) rfl rfl (by kernel_rfl) hh_ (Or.inl ⟨by rfl, ?_⟩) hHeld ?_ ?_
      rotate_left; · rintro w' ⟨s0, s1, s2, s3, s4, s5⟩; go_simp; with_reducible rfl
      rotate_left; · simp only [nm_]; rfl
      refine pure_ (i := 9) (N := some 25) (v := ?_) (a' := ?_) (ar 10 20) rfl rfl (by kernel_rfl) hh_ (Or.inl ⟨by rfl, ?_⟩) ?_ ?_; rotate_left; (intro w'; go_simp; with_reducible rfl); rotate_left; · simp only [nm_]; rfl
      refine pure_ (i := 10) (N := some 26) (v := ?_) (a' := ?_) (ar 11 19) rfl rfl (by kernel_rfl) hh_ (Or.inl ⟨by rfl, ?_⟩) ?_ ?_; rotate_left; (intro w'; go_simp; with_reducible rfl); rotate_left; · simp only [nm_]; rfl
      refine pure_ (i := 11) (N := some 27) (v := ?_) (a' := ?_) (ar 12 18) rfl rfl (by kernel_rfl) hh_ (Or.inl ⟨by rfl, ?_⟩) ?_ ?_; rotate_left; (intro w'; go_simp; with_reducible rfl); rotate_left; · simp only [nm_]; rfl
      refine pure_ (i := 12) (N := some 28) (v := ?_) (a' := ?_) (ar 13 17) rfl rfl (by kernel_rfl) hh_ (Or.inl ⟨by rfl, ?_⟩) ?_ ?_; rotate_left; (intro w'; go_simp; with_reducible rfl); rotate_left; · simp only [nm_]; rfl
      refine take_ (i := 13) (N := some 29) (v := ?_) (a' := ?_) (ar 14 16) rfl rfl (by kernel_rfl) hh_ (Or.inl ⟨by rfl, ?_⟩) hHeld ?_ ?_
      rotate_left; · rintro w' ⟨s0, s1, s2, s3, s4, s5⟩; go_simp; with_reducible rfl
      rotate_left; · simp only [nm_]; rfl
      refine take_ (i := 14) (N := some 30) (v := ?_) (a' := ?_) (ar 15 15) rfl rfl (by kernel_rfl) hh_ (Or.inl ⟨by rfl, ?_⟩) hHeld ?_ ?_
      rotate_left; · rintro w' ⟨s0, s1, s2, s3, s4, s5⟩; go_simp; with_reducible rfl
      rotate_left; · simp only [nm_]; rfl
      refine pure_ (i := 15) (N := some 31) (v := ?_) (a' := ?_) (ar 16 14) rfl rfl (by kernel_rfl) hh_ (Or.inl ⟨by rfl, ?_⟩) ?_ ?_; rotate_left; (intro w'; go_simp; with_reducible rfl); rotate_left; · simp only [nm_]; rfl
      refine pure_ (i := 16) (N := some 32) (v := ?_) (a' := ?_) (ar 17 13) rfl rfl (by kernel_rfl) hh_ (Or.inl ⟨by rfl, ?_⟩) ?_ ?_; rotate_left; (intro w'; go_simp; with_reducible rfl); rotate_left; · simp only [nm_]; rfl
      refine pure_ (i := 17) (N := some 33) (v := undef) (a' := ?_) (ar 18 12) rfl rfl (by kernel_rfl) hh_ (Or.inr ⟨by rfl, rfl⟩) ?_ ?_; rotate_left; · simp only [nm_]; rfl
      refine pure_ (i := 18) (N := some 34) (v := undef) (a' := ?_) (ar 19 11) rfl rfl (by kernel_rfl) hh_ (Or.inr ⟨by rfl, rfl⟩) ?_ ?_; rotate_left; · simp only [nm_]; rfl
      refine pure_ (i := 19) (N := some 35) (v := undef) (a' := ?_) (ar 20 10) rfl rfl (by kernel_rfl) hh_ (Or.inr ⟨by rfl, rfl⟩) ?_ ?_; rotate_left; · simp only [nm_]; rfl
      refine pure_ (i := 20) (N := some 36) (v := undef) (a' := ?_) (ar 21 9) rfl rfl (by kernel_rfl) hh_ (Or.inr ⟨by rfl, rfl⟩) ?_ ?_; rotate_left; · simp only [nm_]; rfl
      refine pure_ (i := 21) (N := some 37) (v := undef) (a' := ?_) (ar 22 8) rfl rfl (by kernel_rfl) hh_ (Or.inr ⟨by rfl, rfl⟩) ?_ ?_; rotate_left; · simp only [nm_]; rfl
      refine pure_ (i := 22) (N := some 38) (v := undef) (a' := ?_) (ar 23 7) rfl rfl (by kernel_rfl) hh_ (Or.inr ⟨by rfl, rfl⟩) ?_ ?_; rotate_left; · simp only [nm_]; rfl
      refine pure_ (i := 23) (N := some 39) (v := undef) (a' := ?_) (ar 24 6) rfl rfl (by kernel_rfl) hh_ (Or.inr ⟨by rfl, rfl⟩) ?_ ?_; rotate_left; · simp only [nm_]; rfl
      refine pure_ (i := 24) (N := some 40) (v := undef) (a' := ?_) (ar 25 5) rfl rfl (by kernel_rfl) hh_ (Or.inr ⟨by rfl, rfl⟩) ?_ ?_; rotate_left; · simp only [nm_]; rfl
      refine pure_ (i := 25) (N := some 41) (v := undef) (a' := ?_) (ar 26 4) rfl rfl (by kernel_rfl) hh_ (Or.inr ⟨by rfl, rfl⟩) ?_ ?_; rotate_left; · simp only [nm_]; rfl
      refine pure_ (i := 26) (N := some 42) (v := undef) (a' := ?_) (ar 27 3) rfl rfl (by kernel_rfl) hh_ (Or.inr ⟨by rfl, rfl⟩) ?_ ?_; rotate_left; · simp only [nm_]; rfl
      refine pure_ (i := 27) (N := some 43) (v := undef) (a' := ?_) (ar 28 2) rfl rfl (by kernel_rfl) hh_ (Or.inr ⟨by rfl, rfl⟩) ?_ ?_; rotate_left; · simp only [nm_]; rfl
      refine pure_ (i := 28) (N := some 44) (v := undef) (a' := ?_) (ar 29 1) rfl rfl (by kernel_rfl) hh_ (Or.inr ⟨by rfl, rfl⟩) ?_ ?_; rotate_left; · simp only [nm_]; rfl
      refine pure_ (i := 29) (N := some 45) (v := ?_) (a' := ?_) (ar 30 0) rfl rfl (by kernel_rfl) hh_ (Or.inl ⟨by rfl, ?_⟩) ?_ ?_; rotate_left; (intro w'; go_simp; with_reducible rfl); rotate_left; · simp only [nm_]; rfl
      refine done_ (by kernel_rfl) ?_
      go_wp2_with fail
      go_ret
      exact ⟨by rw [HPF.out]; rfl, Grew.trans HGw1.out HL.out⟩
     | false =>
      have HL1 := Aside0.mk hb3
      clear hb3
      by_cases hi0 : i = 0
      ·have hi0z : decide (0 < i) = false := decide_eq_false (by omega)
       have HI0 := Aside0.mk hi0
       clear hi0
       have HOK2 := Aside0.mk (HPS.out (by rw [HOK.out, HL0.out, HL1.out]; simp [HI0.out]))
       clear HPB HPS HOK
       go_wp2_with fail
       rw [← HE1.out]
       have HLK0 : Aside0 (∀ W, Grew W1 W → (Instr.lookup TMap (.map (some (w.heap.size + 1))) (I p.f0) false).run Try.prog W = .ok (.bool false) W) := ⟨fun W h => by have h2 := (HS1.out.later h).look p.f0 HW0.out; rw [HL0.out] at h2; exact h2⟩
       have HLK1 : Aside0 (∀ W, Grew W1 W → (Instr.lookup TMap (.map (some (w.heap.size + 1))) (I p.f1) false).run Try.prog W = .ok (.bool false) W) := ⟨fun W h => by have h2 := (HS1.out.later h).look p.f1 HW1.out; rw [HL1.out] at h2; exact h2⟩
       refine start_ (n := 30) (S := fun w' => w'.cell? ⟨w.heap.size, 0, none⟩ = some (I n) ∧ w'.cell? ⟨w.heap.size, 1, none⟩ = some (.slice A l.length c) ∧ w'.cell? ⟨wr.heap.size, 0, none⟩ = some (I p.f0) ∧ w'.cell? ⟨wr.heap.size, 1, none⟩ = some (I p.f1) ∧ (Instr.lookup TMap (.map (some (w.heap.size + 1))) (I p.f0) false).run Try.prog w' = .ok (.bool false) w' ∧ (Instr.lookup TMap (.map (some (w.heap.size + 1))) (I p.f1) false).run Try.prog w' = .ok (.bool false) w') (ds := []) (ar 0 30) (by kernel_rfl) rfl rfl ⟨(Below.cell (w := W1) (below_drew (Grew.refl W1)) (p := ⟨w.heap.size, 0, none⟩) hl0).trans k0, (Below.cell (w := W1) (below_drew (Grew.refl W1)) (p := ⟨w.heap.size, 1, none⟩) hl0).trans k1, (Below.cell (w := W1) (below_drew (Grew.refl W1)) (p := ⟨wr.heap.size, 0, none⟩) hl1).trans hp0, (Below.cell (w := W1) (below_drew (Grew.refl W1)) (p := ⟨wr.heap.size, 1, none⟩) hl1).trans hp1, HLK0.out _ (below_drew (Grew.refl W1)), HLK1.out _ (below_drew (Grew.refl W1))⟩ (fun hHeld => ?_)
       refine take_ (i := 0) (N := some 16) (v := ?_) (a' := ?_) (ar 1 29) rfl rfl (by kernel_rfl) hh_ (Or.inl ⟨by rfl, ?_⟩) hHeld ?_ ?_
       rotate_left; · rintro w' ⟨s0, s1, s2, s3, s4, s5⟩; go_simp; with_reducible rfl
       rotate_left; · simp only [nm_]; rfl
       refine take_ (i := 1) (N := some 17) (v := ?_) (a' := ?_) (ar 2 28) rfl rfl (by kernel_rfl) hh_ (Or.inl ⟨by rfl, ?_⟩) hHeld ?_ ?_
       rotate_left; · rintro w' ⟨s0, s1, s2, s3, s4, s5⟩; go_simp; with_reducible rfl
       rotate_left; · simp only [nm_]; rfl
       refine one_ (i := 2) (N := some 18) (ar 3 27) rfl rfl (by kernel_rfl) (by decide) (fun K hK => ?_)
       refine goes_ Try.func88 (by kernel_rfl) rfl #[.agg #[I n, .slice A l.length c], .agg #[I p.f0, I p.f1]] (by rfl) rfl rfl (by simp only [List.map_toArray, List.map_cons, List.map_nil]; rfl) ?_
       with_reducible refine (HIP.out _ (below_drew (Grew.refl W1))).mono ?_
       rintro e w3 ⟨rfl, hGa⟩
       refine ⟨_, rfl, ?_⟩
       have HL := Aside0.mk (Grew.trans (below_drew (Grew.refl W1)) hGa)
       clear hGa
       refine hK.out _ _ ⟨(Below.cell (w := W1) HL.out (p := ⟨w.heap.size, 0, none⟩) hl0).trans k0, (Below.cell (w := W1) HL.out (p := ⟨w.heap.size, 1, none⟩) hl0).trans k1, (Below.cell (w := W1) HL.out (p := ⟨wr.heap.size, 0, none⟩) hl1).trans hp0, (Below.cell (w := W1) HL.out (p := ⟨wr.heap.size, 1, none⟩) hl1).trans hp1, HLK0.out _ HL.out, HLK1.out _ HL.out⟩ (fun hHeld => ?_)
       clear hK K
       refine norm_ (a' := ?_) ?_ ?_
       rotate_left
       ·show Act.put _ (some 18) _ = _
        simp only [nm_]
        rfl
       refine pure_ (i := 3) (N := some 19) (v := ?_) (a' := ?_) (ar 4 26) rfl rfl (by kernel_rfl) hh_ (Or.inl ⟨by rfl, ?_⟩) ?_ ?_; rotate_left; (intro w'; go_simp; with_reducible rfl); rotate_left; · simp only [nm_]; rfl
       refine pure_ (i := 4) (N := some 20) (v := ?_) (a' := ?_) (ar 5 25) rfl rfl (by kernel_rfl) hh_ (Or.inl ⟨by rfl, ?_⟩) ?_ ?_; rotate_left; (intro w'; go_simp; with_reducible rfl); rotate_left; · simp only [nm_]; rfl
       refine pure_ (i := 5) (N := some 21) (v := ?_) (a' := ?_) (ar 6 24) rfl rfl (by kernel_rfl) hh_ (Or.inl ⟨by rfl, ?_⟩) ?_ ?_; rotate_left; (intro w'; go_simp; with_reducible rfl); rotate_left; · simp only [nm_]; rfl
       refine pure_ (i := 6) (N := some 22) (v := ?_) (a' := ?_) (ar 7 23) rfl rfl (by kernel_rfl) hh_ (Or.inl ⟨by rfl, ?_⟩) ?_ ?_; rotate_left; (intro w'; go_simp; with_reducible rfl); rotate_left; · simp only [nm_]; rfl
       refine take_ (i := 7) (N := some 23) (v := ?_) (a' := ?_) (ar 8 22) rfl rfl (by kernel_rfl) hh_ (Or.inl ⟨by rfl, ?_⟩) hHeld ?_ ?_
       rotate_left; · rintro w' ⟨s0, s1, s2, s3, s4, s5⟩; go_simp; with_reducible rfl
       rotate_left; · simp only [nm_]; rfl
       refine take_ (i := 8) (N := some 24) (v := ?_) (a' := ?_) (ar 9 21) rfl rfl (by kernel_rfl) hh_ (Or.inl ⟨by rfl, ?_⟩) hHeld ?_ ?_
       rotate_left; · rintro w' ⟨s0, s1, s2, s3, s4, s5⟩; go_simp; with_reducible rfl
       rotate_left; · simp only [nm_]; rfl
       refine pure_ (i := 9) (N := some 25) (v := ?_) (a' := ?_) (ar 10 20) rfl rfl (by kernel_rfl) hh_ (Or.inl ⟨by rfl, ?_⟩) ?_ ?_; rotate_left; (intro w'; go_simp; with_reducible rfl); rotate_left; · simp only [nm_]; rfl
       refine pure_ (i := 10) (N := some 26) (v := ?_) (a' := ?_) (ar 11 19) rfl rfl (by kernel_rfl) hh_ (Or.inl ⟨by rfl, ?_⟩) ?_ ?_; rotate_left; (intro w'; go_simp; with_reducible rfl); rotate_left; · simp only [nm_]; rfl
       refine pure_ (i := 11) (N := some 27) (v := ?_) (a' := ?_) (ar 12 18) rfl rfl (by kernel_rfl) hh_ (Or.inl ⟨by rfl, ?_⟩) ?_ ?_; rotate_left; (intro w'; go_simp; with_reducible rfl); rotate_left; · simp only [nm_]; rfl
       refine pure_ (i := 12) (N := some 28) (v := ?_) (a' := ?_) (ar 13 17) rfl rfl (by kernel_rfl) hh_ (Or.inl ⟨by rfl, ?_⟩) ?_ ?_; rotate_left; (intro w'; go_simp; with_reducible rfl); rotate_left; · simp only [nm_]; rfl
       refine take_ (i := 13) (N := some 29) (v := ?_) (a' := ?_) (ar 14 16) rfl rfl (by kernel_rfl) hh_ (Or.inl ⟨by rfl, ?_⟩) hHeld ?_ ?_
       rotate_left; · rintro w' ⟨s0, s1, s2, s3, s4, s5⟩; go_simp; with_reducible rfl
       rotate_left; · simp only [nm_]; rfl
       refine take_ (i := 14) (N := some 30) (v := ?_) (a' := ?_) (ar 15 15) rfl rfl (by kernel_rfl) hh_ (Or.inl ⟨by rfl, ?_⟩) hHeld ?_ ?_
       rotate_left; · rintro w' ⟨s0, s1, s2, s3, s4, s5⟩; go_simp; with_reducible rfl
       rotate_left; · simp only [nm_]; rfl
       refine pure_ (i := 15) (N := some 31) (v := ?_) (a' := ?_) (ar 16 14) rfl rfl (by kernel_rfl) hh_ (Or.inl ⟨by rfl, ?_⟩) ?_ ?_; rotate_left; (intro w'; go_simp; with_reducible rfl); rotate_left; · simp only [nm_]; rfl
       refine pure_ (i := 16) (N := some 32) (v := ?_) (a' := ?_) (ar 17 13) rfl rfl (by kernel_rfl) hh_ (Or.inl ⟨by rfl, ?_⟩) ?_ ?_; rotate_left; (intro w'; go_simp; with_reducible rfl); rotate_left; · simp only [nm_]; rfl
       refine pure_ (i := 17) (N := some 33) (v := ?_) (a' := ?_) (ar 18 12) rfl rfl (by kernel_rfl) hh_ (Or.inl ⟨by rfl, ?_⟩) ?_ ?_; rotate_left; (intro w'; go_simp; with_reducible rfl); rotate_left; · simp only [nm_]; rfl
       refine pure_ (i := 18) (N := some 34) (v := ?_) (a' := ?_) (ar 19 11) rfl rfl (by kernel_rfl) hh_ (Or.inl ⟨by rfl, ?_⟩) ?_ ?_; rotate_left; (intro w'; go_simp; with_reducible rfl); rotate_left; · simp only [nm_]; rfl
       refine pure_ (i := 19) (N := some 35) (v := ?_) (a' := ?_) (ar 20 10) rfl rfl (by kernel_rfl) hh_ (Or.inl ⟨by rfl, ?_⟩) ?_ ?_; rotate_left; (intro w'; go_simp; with_reducible rfl); rotate_left; · simp only [nm_]; rfl
       refine pure_ (i := 20) (N := some 36) (v := undef) (a' := ?_) (ar 21 9) rfl rfl (by kernel_rfl) hh_ (Or.inr ⟨by rfl, rfl⟩) ?_ ?_; rotate_left; · simp only [nm_]; rfl
       refine pure_ (i := 21) (N := some 37) (v := undef) (a' := ?_) (ar 22 8) rfl rfl (by kernel_rfl) hh_ (Or.inr ⟨by rfl, rfl⟩) ?_ ?_; rotate_left; · simp only [nm_]; rfl
       refine pure_ (i := 22) (N := some 38) (v := undef) (a' := ?_) (ar 23 7) rfl rfl (by kernel_rfl) hh_ (Or.inr ⟨by rfl, rfl⟩) ?_ ?_; rotate_left; · simp only [nm_]; rfl
       refine pure_ (i := 23) (N := some 39) (v := undef) (a' := ?_) (ar 24 6) rfl rfl (by kernel_rfl) hh_ (Or.inr ⟨by rfl, rfl⟩) ?_ ?_; rotate_left; · simp only [nm_]; rfl
       refine pure_ (i := 24) (N := some 40) (v := undef) (a' := ?_) (ar 25 5) rfl rfl (by kernel_rfl) hh_ (Or.inr ⟨by rfl, rfl⟩) ?_ ?_; rotate_left; · simp only [nm_]; rfl
       refine pure_ (i := 25) (N := some 41) (v := undef) (a' := ?_) (ar 26 4) rfl rfl (by kernel_rfl) hh_ (Or.inr ⟨by rfl, rfl⟩) ?_ ?_; rotate_left; · simp only [nm_]; rfl
       refine pure_ (i := 26) (N := some 42) (v := undef) (a' := ?_) (ar 27 3) rfl rfl (by kernel_rfl) hh_ (Or.inr ⟨by rfl, rfl⟩) ?_ ?_; rotate_left; · simp only [nm_]; rfl
       refine pure_ (i := 27) (N := some 43) (v := undef) (a' := ?_) (ar 28 2) rfl rfl (by kernel_rfl) hh_ (Or.inr ⟨by rfl, rfl⟩) ?_ ?_; rotate_left; · simp only [nm_]; rfl
       refine pure_ (i := 28) (N := some 44) (v := ?_) (a' := ?_) (ar 29 1) rfl rfl (by kernel_rfl) hh_ (Or.inl ⟨by rfl, ?_⟩) ?_ ?_; rotate_left; (intro w'; go_simp; with_reducible rfl); rotate_left; · simp only [nm_]; rfl
       refine pure_ (i := 29) (N := some 45) (v := ?_) (a' := ?_) (ar 30 0) rfl rfl (by kernel_rfl) hh_ (Or.inl ⟨by rfl, ?_⟩) ?_ ?_; rotate_left; (intro w'; go_simp; with_reducible rfl); rotate_left; · simp only [nm_]; rfl
       refine done_ (by kernel_rfl) ?_
       have hbB := HSr.out.lt
       have HS4 := Aside0.mk (HS1.out.later HL.out)
       have HP4 := Aside0.mk (blk_below HP1.out HL.out)
       obtain ⟨w5, hr5, hS5, hg5⟩ := SetM.store (w := w3.drew) (HS4.out.same rfl) (by omega) p.f0 HW0.out true
       have HP5 := Aside0.mk (blk_grown (blk_drew HP4.out) hg5 (by simp; omega))
       obtain ⟨w6, hr6, hS6, hg6⟩ := SetM.store hS5 (by omega) p.f1 HW1.out true
       have HP6 := Aside0.mk (blk_grown HP5.out hg6 (by simp; omega))
       have HB6 := Aside0.mk (blk_grown (blk_grown (blk_drew (blk_below HB1.out HL.out)) hg5 (by simp)) hg6 (by simp))
       have HS6 := Aside0.mk hS6
       have HGL := Aside0.mk (Grew.trans HGw1.out HL.out)
       have hzl := HGL.out.size
       have HG6 := Aside0.mk (pw_below_grown (pw_below_grown (below_drew HGL.out) _ (by simp; omega) hg5 (fun k hk => by cases hk; omega)) _ (by have := hg5.size; simp at this; omega) hg6 (fun k hk => by cases hk; omega))
       clear hS5 hS6 hg5 hg6 hzl
       go_wp2_with fail
       refine start_ (n := 8) (S := fun w' => w'.cell? ⟨wr.heap.size, 0, none⟩ = some (I p.f0) ∧ w'.cell? ⟨wr.heap.size, 1, none⟩ = some (I p.f1)) (ds := []) (ar 0 8) (by kernel_rfl) rfl rfl ⟨blk_cell (blk_drew HP4.out) 0, blk_cell (blk_drew HP4.out) 1⟩ (fun hHeld => ?_)
       refine pure_ (i := 0) (N := some 46) (v := ?_) (a' := ?_) (ar 1 7) rfl rfl (by kernel_rfl) hh_ (Or.inl ⟨by rfl, ?_⟩) ?_ ?_; rotate_left; (intro w'; go_simp; with_reducible rfl); rotate_left; · simp only [nm_]; rfl
       refine pure_ (i := 1) (N := some 47) (v := ?_) (a' := ?_) (ar 2 6) rfl rfl (by kernel_rfl) hh_ (Or.inl ⟨by rfl, ?_⟩) ?_ ?_; rotate_left; (intro w'; go_simp; with_reducible rfl); rotate_left; · simp only [nm_]; rfl
       refine pure_ (i := 3) (N := some 49) (v := ?_) (a' := ?_) #[U,U,O,U,O,O,O,O] rfl rfl (by kernel_rfl) hh_ (Or.inl ⟨by rfl, ?_⟩) ?_ ?_; rotate_left; (intro w'; go_simp; with_reducible rfl); rotate_left; · simp only [nm_]; rfl
       refine pure_ (i := 4) (N := some 50) (v := ?_) (a' := ?_) #[U,U,O,U,U,O,O,O] rfl rfl (by kernel_rfl) hh_ (Or.inl ⟨by rfl, ?_⟩) ?_ ?_; rotate_left; (intro w'; go_simp; with_reducible rfl); rotate_left; · simp only [nm_]; rfl
       refine take_ (i := 2) (N := some 48) (v := ?_) (a' := ?_) (ar 5 3) rfl rfl (by kernel_rfl) hh_ (Or.inl ⟨by rfl, ?_⟩) hHeld ?_ ?_
       rotate_left; · rintro w' ⟨s0, s1⟩; go_simp; with_reducible rfl
       rotate_left; · simp only [nm_]; rfl
       refine take_ (i := 5) (N := some 51) (v := ?_) (a' := ?_) (ar 6 2) rfl rfl (by kernel_rfl) hh_ (Or.inl ⟨by rfl, ?_⟩) hHeld ?_ ?_
       rotate_left; · rintro w' ⟨s0, s1⟩; go_simp; with_reducible rfl
       rotate_left; · simp only [nm_]; rfl
       refine one_ (i := 6) (N := none) (ar 7 1) rfl rfl (by kernel_rfl) (by decide) (fun K hK => ?_)
       refine skip_ (w1 := w5) (by rfl) rfl ?_ ?_
       ·simp only [execOp]
        go_simp
       refine hK.out _ _ ⟨blk_cell HP5.out 0, blk_cell HP5.out 1⟩ (fun hHeld => ?_)
       clear hK K
       refine one_ (i := 7) (N := none) (ar 8 0) rfl rfl (by kernel_rfl) (by decide) (fun K hK => ?_)
       refine skip_ (w1 := w6) (by rfl) rfl ?_ ?_
       ·simp only [execOp]
        go_simp
       refine hK.out _ _ ⟨blk_cell HP6.out 0, blk_cell HP6.out 1⟩ (fun hHeld => ?_)
       clear hK K
       refine done_ (by kernel_rfl) ?_
       go_wp2_with fail
       go_roundg (q.length - (i + 1))
       case measure => omega
       case rel => exact ⟨i + 1, by omega, by omega, by go_num, HB6, ⟨(HS6.out.mono (by omega)).cong (fun x _ => by rw [HSS.out x]; exact upd_seen _ _ _ x)⟩, HG6, HOK2⟩
      ·obtain ⟨j, rfl⟩ : ∃ j, i = j + 1 := ⟨i - 1, by omega⟩
       have HWJ : Aside0 (wrap64 (j : Int) = (j : Int)) := ⟨by unfold wrap64; omega⟩
       have hj0 : 0 ≤ (j : Int) := by omega
       have hj0d : decide (0 < j + 1) = true := decide_eq_true (by omega)
       have hv := HPV.out (Nat.succ_pos j)
       rw [Nat.add_sub_cancel] at hv
       obtain ⟨hv0, hv1⟩ := hv
       have hl2 := World.block_lt_of_cell? wr _ hv0
       replace hv0 : W1.cell? (ad.add (j * 2)) = some (I r.f0) := (Below.cell HG1.out (p := ad.add (j * 2)) hl2).trans hv0
       replace hv1 : W1.cell? ⟨(ad.add (j * 2)).block, (ad.add (j * 2)).off + 1, none⟩ = some (I r.f1) := (Below.cell HG1.out (p := ⟨(ad.add (j * 2)).block, (ad.add (j * 2)).off + 1, none⟩) hl2).trans hv1
       replace hl2 := World.block_lt_of_cell? W1 _ hv0
       clear HPV
       have hj1 : ((j + 1 : Nat) : Int) - 1 = (j : Int) := by omega
       have hjp : (0 : Int) < ((j + 1 : Nat) : Int) := by omega
       have hjl : (j : Int) < (q.length : Int) := by omega
       by_cases hcv : cmp2 r.f0 r.f1 p.f0 p.f1 < 0
       ·have HCV := Aside0.mk hcv
        have hge : ¬ (0 ≤ cmp2 r.f0 r.f1 p.f0 p.f1) := by omega
        clear hcv
        have HOK2 := Aside0.mk (HPS.out (by rw [HOK.out, HL0.out, HL1.out]; simp [HCV.out]))
        clear HPB HPS HOK
        go_wp2_with fail
        rw [← HE1.out]
        have HLK0 : Aside0 (∀ W, Grew W1 W → (Instr.lookup TMap (.map (some (w.heap.size + 1))) (I p.f0) false).run Try.prog W = .ok (.bool false) W) := ⟨fun W h => by have h2 := (HS1.out.later h).look p.f0 HW0.out; rw [HL0.out] at h2; exact h2⟩
        have HLK1 : Aside0 (∀ W, Grew W1 W → (Instr.lookup TMap (.map (some (w.heap.size + 1))) (I p.f1) false).run Try.prog W = .ok (.bool false) W) := ⟨fun W h => by have h2 := (HS1.out.later h).look p.f1 HW1.out; rw [HL1.out] at h2; exact h2⟩
        have hwj := HWJ.out
        refine start_ (n := 30) (S := fun w' => w'.cell? ⟨w.heap.size, 0, none⟩ = some (I n) ∧ w'.cell? ⟨w.heap.size, 1, none⟩ = some (.slice A l.length c) ∧ w'.cell? ⟨wr.heap.size, 0, none⟩ = some (I p.f0) ∧ w'.cell? ⟨wr.heap.size, 1, none⟩ = some (I p.f1) ∧ w'.cell? (ad.add (j * 2)) = some (I r.f0) ∧ w'.cell? ⟨(ad.add (j * 2)).block, (ad.add (j * 2)).off + 1, none⟩ = some (I r.f1) ∧ (Instr.lookup TMap (.map (some (w.heap.size + 1))) (I p.f0) false).run Try.prog w' = .ok (.bool false) w' ∧ (Instr.lookup TMap (.map (some (w.heap.size + 1))) (I p.f1) false).run Try.prog w' = .ok (.bool false) w') (ds := []) (ar 0 30) (by kernel_rfl) rfl rfl ⟨(Below.cell (w := W1) (below_drew (Grew.refl W1)) (p := ⟨w.heap.size, 0, none⟩) hl0).trans k0, (Below.cell (w := W1) (below_drew (Grew.refl W1)) (p := ⟨w.heap.size, 1, none⟩) hl0).trans k1, (Below.cell (w := W1) (below_drew (Grew.refl W1)) (p := ⟨wr.heap.size, 0, none⟩) hl1).trans hp0, (Below.cell (w := W1) (below_drew (Grew.refl W1)) (p := ⟨wr.heap.size, 1, none⟩) hl1).trans hp1, (Below.cell (w := W1) (below_drew (Grew.refl W1)) (p := ad.add (j * 2)) hl2).trans hv0, (Below.cell (w := W1) (below_drew (Grew.refl W1)) (p := ⟨(ad.add (j * 2)).block, (ad.add (j * 2)).off + 1, none⟩) hl2).trans hv1, HLK0.out _ (below_drew (Grew.refl W1)), HLK1.out _ (below_drew (Grew.refl W1))⟩ (fun hHeld => ?_)
        refine take_ (i := 0) (N := some 16) (v := ?_) (a' := ?_) (ar 1 29) rfl rfl (by kernel_rfl) hh_ (Or.inl ⟨by rfl, ?_⟩) hHeld ?_ ?_
        rotate_left; · rintro w' ⟨s0, s1, s2, s3, s4, s5, s6, s7⟩; go_simp; with_reducible rfl
        rotate_left; · simp only [nm_]; rfl
        refine take_ (i := 1) (N := some 17) (v := ?_) (a' := ?_) (ar 2 28) rfl rfl (by kernel_rfl) hh_ (Or.inl ⟨by rfl, ?_⟩) hHeld ?_ ?_
        rotate_left; · rintro w' ⟨s0, s1, s2, s3, s4, s5, s6, s7⟩; go_simp; with_reducible rfl
        rotate_left; · simp only [nm_]; rfl
        refine one_ (i := 2) (N := some 18) (ar 3 27) rfl rfl (by kernel_rfl) (by decide) (fun K hK => ?_)
        refine goes_ Try.func88 (by kernel_rfl) rfl #[.agg #[I n, .slice A l.length c], .agg #[I p.f0, I p.f1]] (by rfl) rfl rfl (by simp only [List.map_toArray, List.map_cons, List.map_nil]; rfl) ?_
        with_reducible refine (HIP.out _ (below_drew (Grew.refl W1))).mono ?_
        rintro e w3 ⟨rfl, hGa⟩
        refine ⟨_, rfl, ?_⟩
        have HL := Aside0.mk (Grew.trans (below_drew (Grew.refl W1)) hGa)
        clear hGa
        refine hK.out _ _ ⟨(Below.cell (w := W1) HL.out (p := ⟨w.heap.size, 0, none⟩) hl0).trans k0, (Below.cell (w := W1) HL.out (p := ⟨w.heap.size, 1, none⟩) hl0).trans k1, (Below.cell (w := W1) HL.out (p := ⟨wr.heap.size, 0, none⟩) hl1).trans hp0, (Below.cell (w := W1) HL.out (p := ⟨wr.heap.size, 1, none⟩) hl1).trans hp1, (Below.cell (w := W1) HL.out (p := ad.add (j * 2)) hl2).trans hv0, (Below.cell (w := W1) HL.out (p := ⟨(ad.add (j * 2)).block, (ad.add (j * 2)).off + 1, none⟩) hl2).trans hv1, HLK0.out _ HL.out, HLK1.out _ HL.out⟩ (fun hHeld => ?_)
        clear hK K
        refine norm_ (a' := ?_) ?_ ?_
        rotate_left
        ·show Act.put _ (some 18) _ = _
         simp only [nm_]
         rfl
        refine pure_ (i := 3) (N := some 19) (v := ?_) (a' := ?_) (ar 4 26) rfl rfl (by kernel_rfl) hh_ (Or.inl ⟨by rfl, ?_⟩) ?_ ?_; rotate_left; (intro w'; go_simp; with_reducible rfl); rotate_left; · simp only [nm_]; rfl
        refine pure_ (i := 4) (N := some 20) (v := ?_) (a' := ?_) (ar 5 25) rfl rfl (by kernel_rfl) hh_ (Or.inl ⟨by rfl, ?_⟩) ?_ ?_; rotate_left; (intro w'; go_simp; with_reducible rfl); rotate_left; · simp only [nm_]; rfl
        refine pure_ (i := 5) (N := some 21) (v := ?_) (a' := ?_) (ar 6 24) rfl rfl (by kernel_rfl) hh_ (Or.inl ⟨by rfl, ?_⟩) ?_ ?_; rotate_left; (intro w'; go_simp; with_reducible rfl); rotate_left; · simp only [nm_]; rfl
        refine pure_ (i := 6) (N := some 22) (v := ?_) (a' := ?_) (ar 7 23) rfl rfl (by kernel_rfl) hh_ (Or.inl ⟨by rfl, ?_⟩) ?_ ?_; rotate_left; (intro w'; go_simp; with_reducible rfl); rotate_left; · simp only [nm_]; rfl
        refine take_ (i := 7) (N := some 23) (v := ?_) (a' := ?_) (ar 8 22) rfl rfl (by kernel_rfl) hh_ (Or.inl ⟨by rfl, ?_⟩) hHeld ?_ ?_
        rotate_left; · rintro w' ⟨s0, s1, s2, s3, s4, s5, s6, s7⟩; go_simp; with_reducible rfl
        rotate_left; · simp only [nm_]; rfl
        refine take_ (i := 8) (N := some 24) (v := ?_) (a' := ?_) (ar 9 21) rfl rfl (by kernel_rfl) hh_ (Or.inl ⟨by rfl, ?_⟩) hHeld ?_ ?_
        rotate_left; · rintro w' ⟨s0, s1, s2, s3, s4, s5, s6, s7⟩; go_simp; with_reducible rfl
        rotate_left; · simp only [nm_]; rfl
        refine pure_ (i := 9) (N := some 25) (v := ?_) (a' := ?_) (ar 10 20) rfl rfl (by kernel_rfl) hh_ (Or.inl ⟨by rfl, ?_⟩) ?_ ?_; rotate_left; (intro w'; go_simp; with_reducible rfl); rotate_left; · simp only [nm_]; rfl
        refine pure_ (i := 10) (N := some 26) (v := ?_) (a' := ?_) (ar 11 19) rfl rfl (by kernel_rfl) hh_ (Or.inl ⟨by rfl, ?_⟩) ?_ ?_; rotate_left; (intro w'; go_simp; with_reducible rfl); rotate_left; · simp only [nm_]; rfl
        refine pure_ (i := 11) (N := some 27) (v := ?_) (a' := ?_) (ar 12 18) rfl rfl (by kernel_rfl) hh_ (Or.inl ⟨by rfl, ?_⟩) ?_ ?_; rotate_left; (intro w'; go_simp; with_reducible rfl); rotate_left; · simp only [nm_]; rfl
        refine pure_ (i := 12) (N := some 28) (v := ?_) (a' := ?_) (ar 13 17) rfl rfl (by kernel_rfl) hh_ (Or.inl ⟨by rfl, ?_⟩) ?_ ?_; rotate_left; (intro w'; go_simp; with_reducible rfl); rotate_left; · simp only [nm_]; rfl
        refine take_ (i := 13) (N := some 29) (v := ?_) (a' := ?_) (ar 14 16) rfl rfl (by kernel_rfl) hh_ (Or.inl ⟨by rfl, ?_⟩) hHeld ?_ ?_
        rotate_left; · rintro w' ⟨s0, s1, s2, s3, s4, s5, s6, s7⟩; go_simp; with_reducible rfl
        rotate_left; · simp only [nm_]; rfl
        refine take_ (i := 14) (N := some 30) (v := ?_) (a' := ?_) (ar 15 15) rfl rfl (by kernel_rfl) hh_ (Or.inl ⟨by rfl, ?_⟩) hHeld ?_ ?_
        rotate_left; · rintro w' ⟨s0, s1, s2, s3, s4, s5, s6, s7⟩; go_simp; with_reducible rfl
        rotate_left; · simp only [nm_]; rfl
        refine pure_ (i := 15) (N := some 31) (v := ?_) (a' := ?_) (ar 16 14) rfl rfl (by kernel_rfl) hh_ (Or.inl ⟨by rfl, ?_⟩) ?_ ?_; rotate_left; (intro w'; go_simp; with_reducible rfl); rotate_left; · simp only [nm_]; rfl
        refine pure_ (i := 16) (N := some 32) (v := ?_) (a' := ?_) (ar 17 13) rfl rfl (by kernel_rfl) hh_ (Or.inl ⟨by rfl, ?_⟩) ?_ ?_; rotate_left; (intro w'; go_simp; with_reducible rfl); rotate_left; · simp only [nm_]; rfl
        refine pure_ (i := 17) (N := some 33) (v := ?_) (a' := ?_) (ar 18 12) rfl rfl (by kernel_rfl) hh_ (Or.inl ⟨by rfl, ?_⟩) ?_ ?_; rotate_left; (intro w'; go_simp; with_reducible rfl); rotate_left; · simp only [nm_]; rfl
        refine pure_ (i := 18) (N := some 34) (v := ?_) (a' := ?_) (ar 19 11) rfl rfl (by kernel_rfl) hh_ (Or.inl ⟨by rfl, ?_⟩) ?_ ?_; rotate_left; (intro w'; go_simp; with_reducible rfl); rotate_left; · simp only [nm_]; rfl
        refine pure_ (i := 19) (N := some 35) (v := ?_) (a' := ?_) (ar 20 10) rfl rfl (by kernel_rfl) hh_ (Or.inl ⟨by rfl, ?_⟩) ?_ ?_; rotate_left; (intro w'; go_simp; with_reducible rfl); rotate_left; · simp only [nm_]; rfl
        refine pure_ (i := 20) (N := some 36) (v := ?_) (a' := ?_) (ar 21 9) rfl rfl (by kernel_rfl) hh_ (Or.inl ⟨by rfl, ?_⟩) ?_ ?_; rotate_left; (intro w'; go_simp; with_reducible rfl); rotate_left; · simp only [nm_]; rfl
        refine pure_ (i := 21) (N := some 37) (v := ?_) (a' := ?_) (ar 22 8) rfl rfl (by kernel_rfl) hh_ (Or.inl ⟨by rfl, ?_⟩) ?_ ?_; rotate_left; (intro w'; go_simp; with_reducible rfl); rotate_left; · simp only [nm_]; rfl
        refine pure_ (i := 22) (N := some 38) (v := ?_) (a' := ?_) (ar 23 7) rfl rfl (by kernel_rfl) hh_ (Or.inl ⟨by rfl, ?_⟩) ?_ ?_; rotate_left; (intro w'; go_simp; with_reducible rfl); rotate_left; · simp only [nm_]; rfl
        refine pure_ (i := 23) (N := some 39) (v := ?_) (a' := ?_) (ar 24 6) rfl rfl (by kernel_rfl) hh_ (Or.inl ⟨by rfl, ?_⟩) ?_ ?_; rotate_left; (intro w'; go_simp; with_reducible rfl); rotate_left; · simp only [nm_]; rfl
        refine take_ (i := 24) (N := some 40) (v := ?_) (a' := ?_) (ar 25 5) rfl rfl (by kernel_rfl) hh_ (Or.inl ⟨by rfl, ?_⟩) hHeld ?_ ?_
        rotate_left; · rintro w' ⟨s0, s1, s2, s3, s4, s5, s6, s7⟩; go_simp; with_reducible rfl
        rotate_left; · simp only [nm_]; rfl
        refine take_ (i := 25) (N := some 41) (v := ?_) (a' := ?_) (ar 26 4) rfl rfl (by kernel_rfl) hh_ (Or.inl ⟨by rfl, ?_⟩) hHeld ?_ ?_
        rotate_left; · rintro w' ⟨s0, s1, s2, s3, s4, s5, s6, s7⟩; go_simp; with_reducible rfl
        rotate_left; · simp only [nm_]; rfl
        refine one_ (i := 26) (N := some 42) (ar 27 3) rfl rfl (by kernel_rfl) (by decide) (fun K hK => ?_)
        refine goes_ Try.func110 (by kernel_rfl) rfl #[.agg #[I r.f0, I r.f1], .agg #[I p.f0, I p.f1]] (by rfl) rfl rfl (by simp only [List.map_toArray, List.map_cons, List.map_nil]; rfl) ?_
        with_reducible refine (HCP.out _).mono ?_
        rintro e w4 ⟨rfl, hGb⟩
        refine ⟨_, rfl, ?_⟩
        replace HL := Aside0.mk (Grew.trans HL.out hGb)
        clear hGb
        refine hK.out _ _ ⟨(Below.cell (w := W1) HL.out (p := ⟨w.heap.size, 0, none⟩) hl0).trans k0, (Below.cell (w := W1) HL.out (p := ⟨w.heap.size, 1, none⟩) hl0).trans k1, (Below.cell (w := W1) HL.out (p := ⟨wr.heap.size, 0, none⟩) hl1).trans hp0, (Below.cell (w := W1) HL.out (p := ⟨wr.heap.size, 1, none⟩) hl1).trans hp1, (Below.cell (w := W1) HL.out (p := ad.add (j * 2)) hl2).trans hv0, (Below.cell (w := W1) HL.out (p := ⟨(ad.add (j * 2)).block, (ad.add (j * 2)).off + 1, none⟩) hl2).trans hv1, HLK0.out _ HL.out, HLK1.out _ HL.out⟩ (fun hHeld => ?_)
        clear hK K
        refine norm_ (a' := ?_) ?_ ?_
        rotate_left
        ·show Act.put _ (some 42) _ = _
         simp only [nm_]
         rfl
        refine pure_ (i := 27) (N := some 43) (v := ?_) (a' := ?_) (ar 28 2) rfl rfl (by kernel_rfl) hh_ (Or.inl ⟨by rfl, ?_⟩) ?_ ?_; rotate_left; (intro w'; go_simp; with_reducible rfl); rotate_left; · simp only [nm_]; rfl
        refine pure_ (i := 28) (N := some 44) (v := ?_) (a' := ?_) (ar 29 1) rfl rfl (by kernel_rfl) hh_ (Or.inl ⟨by rfl, ?_⟩) ?_ ?_; rotate_left; (intro w'; go_simp; with_reducible rfl); rotate_left; · simp only [nm_]; rfl
        refine pure_ (i := 29) (N := some 45) (v := ?_) (a' := ?_) (ar 30 0) rfl rfl (by kernel_rfl) hh_ (Or.inl ⟨by rfl, ?_⟩) ?_ ?_; rotate_left; (intro w'; go_simp; with_reducible rfl); rotate_left; · simp only [nm_]; rfl
        refine done_ (by kernel_rfl) ?_
        clear hwj
        have hbB := HSr.out.lt
        have HS4 := Aside0.mk (HS1.out.later HL.out)
        have HP4 := Aside0.mk (blk_below HP1.out HL.out)
        obtain ⟨w5, hr5, hS5, hg5⟩ := SetM.store (w := w4.drew) (HS4.out.same rfl) (by omega) p.f0 HW0.out true
        have HP5 := Aside0.mk (blk_grown (blk_drew HP4.out) hg5 (by simp; omega))
        obtain ⟨w6, hr6, hS6, hg6⟩ := SetM.store hS5 (by omega) p.f1 HW1.out true
        have HP6 := Aside0.mk (blk_grown HP5.out hg6 (by simp; omega))
        have HB6 := Aside0.mk (blk_grown (blk_grown (blk_drew (blk_below HB1.out HL.out)) hg5 (by simp)) hg6 (by simp))
        have HS6 := Aside0.mk hS6
        have HGL := Aside0.mk (Grew.trans HGw1.out HL.out)
        have hzl := HGL.out.size
        have HG6 := Aside0.mk (pw_below_grown (pw_below_grown (below_drew HGL.out) _ (by simp; omega) hg5 (fun k hk => by cases hk; omega)) _ (by have := hg5.size; simp at this; omega) hg6 (fun k hk => by cases hk; omega))
        clear hS5 hS6 hg5 hg6 hzl
        go_wp2_with fail
        refine start_ (n := 8) (S := fun w' => w'.cell? ⟨wr.heap.size, 0, none⟩ = some (I p.f0) ∧ w'.cell? ⟨wr.heap.size, 1, none⟩ = some (I p.f1)) (ds := []) (ar 0 8) (by kernel_rfl) rfl rfl ⟨blk_cell (blk_drew HP4.out) 0, blk_cell (blk_drew HP4.out) 1⟩ (fun hHeld => ?_)
        refine pure_ (i := 0) (N := some 46) (v := ?_) (a' := ?_) (ar 1 7) rfl rfl (by kernel_rfl) hh_ (Or.inl ⟨by rfl, ?_⟩) ?_ ?_; rotate_left; (intro w'; go_simp; with_reducible rfl); rotate_left; · simp only [nm_]; rfl
        refine pure_ (i := 1) (N := some 47) (v := ?_) (a' := ?_) (ar 2 6) rfl rfl (by kernel_rfl) hh_ (Or.inl ⟨by rfl, ?_⟩) ?_ ?_; rotate_left; (intro w'; go_simp; with_reducible rfl); rotate_left; · simp only [nm_]; rfl
        refine pure_ (i := 3) (N := some 49) (v := ?_) (a' := ?_) #[U,U,O,U,O,O,O,O] rfl rfl (by kernel_rfl) hh_ (Or.inl ⟨by rfl, ?_⟩) ?_ ?_; rotate_left; (intro w'; go_simp; with_reducible rfl); rotate_left; · simp only [nm_]; rfl
        refine pure_ (i := 4) (N := some 50) (v := ?_) (a' := ?_) #[U,U,O,U,U,O,O,O] rfl rfl (by kernel_rfl) hh_ (Or.inl ⟨by rfl, ?_⟩) ?_ ?_; rotate_left; (intro w'; go_simp; with_reducible rfl); rotate_left; · simp only [nm_]; rfl
        refine take_ (i := 2) (N := some 48) (v := ?_) (a' := ?_) (ar 5 3) rfl rfl (by kernel_rfl) hh_ (Or.inl ⟨by rfl, ?_⟩) hHeld ?_ ?_
        rotate_left; · rintro w' ⟨s0, s1⟩; go_simp; with_reducible rfl
        rotate_left; · simp only [nm_]; rfl
        refine take_ (i := 5) (N := some 51) (v := ?_) (a' := ?_) (ar 6 2) rfl rfl (by kernel_rfl) hh_ (Or.inl ⟨by rfl, ?_⟩) hHeld ?_ ?_
        rotate_left; · rintro w' ⟨s0, s1⟩; go_simp; with_reducible rfl
        rotate_left; · simp only [nm_]; rfl
        refine one_ (i := 6) (N := none) (ar 7 1) rfl rfl (by kernel_rfl) (by decide) (fun K hK => ?_)
        refine skip_ (w1 := w5) (by rfl) rfl ?_ ?_
        ·simp only [execOp]
         go_simp
        refine hK.out _ _ ⟨blk_cell HP5.out 0, blk_cell HP5.out 1⟩ (fun hHeld => ?_)
        clear hK K
        refine one_ (i := 7) (N := none) (ar 8 0) rfl rfl (by kernel_rfl) (by decide) (fun K hK => ?_)
        refine skip_ (w1 := w6) (by rfl) rfl ?_ ?_
        ·simp only [execOp]
         go_simp
        refine hK.out _ _ ⟨blk_cell HP6.out 0, blk_cell HP6.out 1⟩ (fun hHeld => ?_)
        clear hK K
        refine done_ (by kernel_rfl) ?_
        go_wp2_with fail
        go_roundg (q.length - ((j + 1) + 1))
        case measure => omega
        case rel => exact ⟨(j + 1) + 1, by omega, by omega, by go_num, HB6, ⟨(HS6.out.mono (by omega)).cong (fun x _ => by rw [HSS.out x]; exact upd_seen _ _ _ x)⟩, HG6, HOK2⟩
       ·have HCV := Aside0.mk hcv
        have hge : 0 ≤ cmp2 r.f0 r.f1 p.f0 p.f1 := by omega
        clear hcv
        have HPF := Aside0.mk (HPB.out (by rw [HOK.out]; rw [HL0.out, HL1.out]; simp [HCV.out]))
        clear HPB HPS HOK
        go_wp2_with fail
        rw [← HE1.out]
        have HLK0 : Aside0 (∀ W, Grew W1 W → (Instr.lookup TMap (.map (some (w.heap.size + 1))) (I p.f0) false).run Try.prog W = .ok (.bool false) W) := ⟨fun W h => by have h2 := (HS1.out.later h).look p.f0 HW0.out; rw [HL0.out] at h2; exact h2⟩
        have HLK1 : Aside0 (∀ W, Grew W1 W → (Instr.lookup TMap (.map (some (w.heap.size + 1))) (I p.f1) false).run Try.prog W = .ok (.bool false) W) := ⟨fun W h => by have h2 := (HS1.out.later h).look p.f1 HW1.out; rw [HL1.out] at h2; exact h2⟩
        have hwj := HWJ.out
        refine start_ (n := 30) (S := fun w' => w'.cell? ⟨w.heap.size, 0, none⟩ = some (I n) ∧ w'.cell? ⟨w.heap.size, 1, none⟩ = some (.slice A l.length c) ∧ w'.cell? ⟨wr.heap.size, 0, none⟩ = some (I p.f0) ∧ w'.cell? ⟨wr.heap.size, 1, none⟩ = some (I p.f1) ∧ w'.cell? (ad.add (j * 2)) = some (I r.f0) ∧ w'.cell? ⟨(ad.add (j * 2)).block, (ad.add (j * 2)).off + 1, none⟩ = some (I r.f1) ∧ (Instr.lookup TMap (.map (some (w.heap.size + 1))) (I p.f0) false).run Try.prog w' = .ok (.bool false) w' ∧ (Instr.lookup TMap (.map (some (w.heap.size + 1))) (I p.f1) false).run Try.prog w' = .ok (.bool false) w') (ds := []) (ar 0 30) (by kernel_rfl) rfl rfl ⟨(Below.cell (w := W1) (below_drew (Grew.refl W1)) (p := ⟨w.heap.size, 0, none⟩) hl0).trans k0, (Below.cell (w := W1) (below_drew (Grew.refl W1)) (p := ⟨w.heap.size, 1, none⟩) hl0).trans k1, (Below.cell (w := W1) (below_drew (Grew.refl W1)) (p := ⟨wr.heap.size, 0, none⟩) hl1).trans hp0, (Below.cell (w := W1) (below_drew (Grew.refl W1)) (p := ⟨wr.heap.size, 1, none⟩) hl1).trans hp1, (Below.cell (w := W1) (below_drew (Grew.refl W1)) (p := ad.add (j * 2)) hl2).trans hv0, (Below.cell (w := W1) (below_drew (Grew.refl W1)) (p := ⟨(ad.add (j * 2)).block, (ad.add (j * 2)).off + 1, none⟩) hl2).trans hv1, HLK0.out _ (below_drew (Grew.refl W1)), HLK1.out _ (below_drew (Grew.refl W1))⟩ (fun hHeld => ?_)
        refine take_ (i := 0) (N := some 16) (v := ?_) (a' := ?_) (ar 1 29) rfl rfl (by kernel_rfl) hh_ (Or.inl ⟨by rfl, ?_⟩) hHeld ?_ ?_
        rotate_left; · rintro w' ⟨s0, s1, s2, s3, s4, s5, s6, s7⟩; go_simp; with_reducible rfl
        rotate_left; · simp only [nm_]; rfl
        refine take_ (i := 1) (N := some 17) (v := ?_) (a' := ?_) (ar 2 28) rfl rfl (by kernel_rfl) hh_ (Or.inl ⟨by rfl, ?_⟩) hHeld ?_ ?_
        rotate_left; · rintro w' ⟨s0, s1, s2, s3, s4, s5, s6, s7⟩; go_simp; with_reducible rfl
        rotate_left; · simp only [nm_]; rfl
        refine one_ (i := 2) (N := some 18) (ar 3 27) rfl rfl (by kernel_rfl) (by decide) (fun K hK => ?_)
        refine goes_ Try.func88 (by kernel_rfl) rfl #[.agg #[I n, .slice A l.length c], .agg #[I p.f0, I p.f1]] (by rfl) rfl rfl (by simp only [List.map_toArray, List.map_cons, List.map_nil]; rfl) ?_
        with_reducible refine (HIP.out _ (below_drew (Grew.refl W1))).mono ?_
        rintro e w3 ⟨rfl, hGa⟩
        refine ⟨_, rfl, ?_⟩
        have HL := Aside0.mk (Grew.trans (below_drew (Grew.refl W1)) hGa)
        clear hGa
        refine hK.out _ _ ⟨(Below.cell (w := W1) HL.out (p := ⟨w.heap.size, 0, none⟩) hl0).trans k0, (Below.cell (w := W1) HL.out (p := ⟨w.heap.size, 1, none⟩) hl0).trans k1, (Below.cell (w := W1) HL.out (p := ⟨wr.heap.size, 0, none⟩) hl1).trans hp0, (Below.cell (w := W1) HL.out (p := ⟨wr.heap.size, 1, none⟩) hl1).trans hp1, (Below.cell (w := W1) HL.out (p := ad.add (j * 2)) hl2).trans hv0, (Below.cell (w := W1) HL.out (p := ⟨(ad.add (j * 2)).block, (ad.add (j * 2)).off + 1, none⟩) hl2).trans hv1, HLK0.out _ HL.out, HLK1.out _ HL.out⟩ (fun hHeld => ?_)
        clear hK K
        refine norm_ (a' := ?_) ?_ ?_
        rotate_left
        ·show Act.put _ (some 18) _ = _
         simp only [nm_]
         rfl
        refine pure_ (i := 3) (N := some 19) (v := ?_) (a' := ?_) (ar 4 26) rfl rfl (by kernel_rfl) hh_ (Or.inl ⟨by rfl, ?_⟩) ?_ ?_; rotate_left; (intro w'; go_simp; with_reducible rfl); rotate_left; · simp only [nm_]; rfl
        refine pure_ (i := 4) (N := some 20) (v := ?_) (a' := ?_) (ar 5 25) rfl rfl (by kernel_rfl) hh_ (Or.inl ⟨by rfl, ?_⟩) ?_ ?_; rotate_left; (intro w'; go_simp; with_reducible rfl); rotate_left; · simp only [nm_]; rfl
        refine pure_ (i := 5) (N := some 21) (v := ?_) (a' := ?_) (ar 6 24) rfl rfl (by kernel_rfl) hh_ (Or.inl ⟨by rfl, ?_⟩) ?_ ?_; rotate_left; (intro w'; go_simp; with_reducible rfl); rotate_left; · simp only [nm_]; rfl
        refine pure_ (i := 6) (N := some 22) (v := ?_) (a' := ?_) (ar 7 23) rfl rfl (by kernel_rfl) hh_ (Or.inl ⟨by rfl, ?_⟩) ?_ ?_; rotate_left; (intro w'; go_simp; with_reducible rfl); rotate_left; · simp only [nm_]; rfl
        refine take_ (i := 7) (N := some 23) (v := ?_) (a' := ?_) (ar 8 22) rfl rfl (by kernel_rfl) hh_ (Or.inl ⟨by rfl, ?_⟩) hHeld ?_ ?_
        rotate_left; · rintro w' ⟨s0, s1, s2, s3, s4, s5, s6, s7⟩; go_simp; with_reducible rfl
        rotate_left; · simp only [nm_]; rfl
        refine take_ (i := 8) (N := some 24) (v := ?_) (a' := ?_) (ar 9 21) rfl rfl (by kernel_rfl) hh_ (Or.inl ⟨by rfl, ?_⟩) hHeld ?_ ?_
        rotate_left; · rintro w' ⟨s0, s1, s2, s3, s4, s5, s6, s7⟩; go_simp; with_reducible rfl
        rotate_left; · simp only [nm_]; rfl
        refine pure_ (i := 9) (N := some 25) (v := ?_) (a' := ?_) (ar 10 20) rfl rfl (by kernel_rfl) hh_ (Or.inl ⟨by rfl, ?_⟩) ?_ ?_; rotate_left; (intro w'; go_simp; with_reducible rfl); rotate_left; · simp only [nm_]; rfl
        refine pure_ (i := 10) (N := some 26) (v := ?_) (a' := ?_) (ar 11 19) rfl rfl (by kernel_rfl) hh_ (Or.inl ⟨by rfl, ?_⟩) ?_ ?_; rotate_left; (intro w'; go_simp; with_reducible rfl); rotate_left; · simp only [nm_]; rfl
        refine pure_ (i := 11) (N := some 27) (v := ?_) (a' := ?_) (ar 12 18) rfl rfl (by kernel_rfl) hh_ (Or.inl ⟨by rfl, ?_⟩) ?_ ?_; rotate_left; (intro w'; go_simp; with_reducible rfl); rotate_left; · simp only [nm_]; rfl
        refine pure_ (i := 12) (N := some 28) (v := ?_) (a' := ?_) (ar 13 17) rfl rfl (by kernel_rfl) hh_ (Or.inl ⟨by rfl, ?_⟩) ?_ ?_; rotate_left; (intro w'; go_simp; with_reducible rfl); rotate_left; · simp only [nm_]; rfl
        refine take_ (i := 13) (N := some 29) (v := ?_) (a' := ?_) (ar 14 16) rfl rfl (by kernel_rfl) hh_ (Or.inl ⟨by rfl, ?_⟩) hHeld ?_ ?_
        rotate_left; · rintro w' ⟨s0, s1, s2, s3, s4, s5, s6, s7⟩; go_simp; with_reducible rfl
        rotate_left; · simp only [nm_]; rfl
        refine take_ (i := 14) (N := some 30) (v := ?_) (a' := ?_) (ar 15 15) rfl rfl (by kernel_rfl) hh_ (Or.inl ⟨by rfl, ?_⟩) hHeld ?_ ?_
        rotate_left; · rintro w' ⟨s0, s1, s2, s3, s4, s5, s6, s7⟩; go_simp; with_reducible rfl
        rotate_left; · simp only [nm_]; rfl
        refine pure_ (i := 15) (N := some 31) (v := ?_) (a' := ?_) (ar 16 14) rfl rfl (by kernel_rfl) hh_ (Or.inl ⟨by rfl, ?_⟩) ?_ ?_; rotate_left; (intro w'; go_simp; with_reducible rfl); rotate_left; · simp only [nm_]; rfl
        refine pure_ (i := 16) (N := some 32) (v := ?_) (a' := ?_) (ar 17 13) rfl rfl (by kernel_rfl) hh_ (Or.inl ⟨by rfl, ?_⟩) ?_ ?_; rotate_left; (intro w'; go_simp; with_reducible rfl); rotate_left; · simp only [nm_]; rfl
        refine pure_ (i := 17) (N := some 33) (v := ?_) (a' := ?_) (ar 18 12) rfl rfl (by kernel_rfl) hh_ (Or.inl ⟨by rfl, ?_⟩) ?_ ?_; rotate_left; (intro w'; go_simp; with_reducible rfl); rotate_left; · simp only [nm_]; rfl
        refine pure_ (i := 18) (N := some 34) (v := ?_) (a' := ?_) (ar 19 11) rfl rfl (by kernel_rfl) hh_ (Or.inl ⟨by rfl, ?_⟩) ?_ ?_; rotate_left; (intro w'; go_simp; with_reducible rfl); rotate_left; · simp only [nm_]; rfl
        refine pure_ (i := 19) (N := some 35) (v := ?_) (a' := ?_) (ar 20 10) rfl rfl (by kernel_rfl) hh_ (Or.inl ⟨by rfl, ?_⟩) ?_ ?_; rotate_left; (intro w'; go_simp; with_reducible rfl); rotate_left; · simp only [nm_]; rfl
        refine pure_ (i := 20) (N := some 36) (v := ?_) (a' := ?_) (ar 21 9) rfl rfl (by kernel_rfl) hh_ (Or.inl ⟨by rfl, ?_⟩) ?_ ?_; rotate_left; (intro w'; go_simp; with_reducible rfl); rotate_left; · simp only [nm_]; rfl
        refine pure_ (i := 21) (N := some 37) (v := ?_) (a' := ?_) (ar 22 8) rfl rfl (by kernel_rfl) hh_ (Or.inl ⟨by rfl, ?_⟩) ?_ ?_; rotate_left; (intro w'; go_simp; with_reducible rfl); rotate_left; · simp only [nm_]; rfl
        refine pure_ (i := 22) (N := some 38) (v := ?_) (a' := ?_) (ar 23 7) rfl rfl (by kernel_rfl) hh_ (Or.inl ⟨by rfl, ?_⟩) ?_ ?_; rotate_left; (intro w'; go_simp; with_reducible rfl); rotate_left; · simp only [nm_]; rfl
        refine pure_ (i := 23) (N := some 39) (v := ?_) (a' := ?_) (ar 24 6) rfl rfl (by kernel_rfl) hh_ (Or.inl ⟨by rfl, ?_⟩) ?_ ?_; rotate_left; (intro w'; go_simp; with_reducible rfl); rotate_left; · simp only [nm_]; rfl
        refine take_ (i := 24) (N := some 40) (v := ?_) (a' := ?_) (ar 25 5) rfl rfl (by kernel_rfl) hh_ (Or.inl ⟨by rfl, ?_⟩) hHeld ?_ ?_
        rotate_left; · rintro w' ⟨s0, s1, s2, s3, s4, s5, s6, s7⟩; go_simp; with_reducible rfl
        rotate_left; · simp only [nm_]; rfl
        refine take_ (i := 25) (N := some 41) (v := ?_) (a' := ?_) (ar 26 4) rfl rfl (by kernel_rfl) hh_ (Or.inl ⟨by rfl, ?_⟩) hHeld ?_ ?_
        rotate_left; · rintro w' ⟨s0, s1, s2, s3, s4, s5, s6, s7⟩; go_simp; with_reducible rfl
        rotate_left; · simp only [nm_]; rfl
        refine one_ (i := 26) (N := some 42) (ar 27 3) rfl rfl (by kernel_rfl) (by decide) (fun K hK => ?_)
        refine goes_ Try.func110 (by kernel_rfl) rfl #[.agg #[I r.f0, I r.f1], .agg #[I p.f0, I p.f1]] (by rfl) rfl rfl (by simp only [List.map_toArray, List.map_cons, List.map_nil]; rfl) ?_
        with_reducible refine (HCP.out _).mono ?_
        rintro e w4 ⟨rfl, hGb⟩
        refine ⟨_, rfl, ?_⟩
        replace HL := Aside0.mk (Grew.trans HL.out hGb)
        clear hGb
        refine hK.out _ _ ⟨(Below.cell (w := W1) HL.out (p := ⟨w.heap.size, 0, none⟩) hl0).trans k0, (Below.cell (w := W1) HL.out (p := ⟨w.heap.size, 1, none⟩) hl0).trans k1, (Below.cell (w := W1) HL.out (p := ⟨wr.heap.size, 0, none⟩) hl1).trans hp0, (Below.cell (w := W1) HL.out (p := ⟨wr.heap.size, 1, none⟩) hl1).trans hp1, (Below.cell (w := W1) HL.out (p := ad.add (j * 2)) hl2).trans hv0, (Below.cell (w := W1) HL.out (p := ⟨(ad.add (j * 2)).block, (ad.add (j * 2)).off + 1, none⟩) hl2).trans hv1, HLK0.out _ HL.out, HLK1.out _ HL.out⟩ (fun hHeld => ?_)
        clear hK K
        refine norm_ (a' := ?_) ?_ ?_
        rotate_left
        ·show Act.put _ (some 42) _ = _
         simp only [nm_]
         rfl
        refine pure_ (i := 27) (N := some 43) (v := ?_) (a' := ?_) (ar 28 2) rfl rfl (by kernel_rfl) hh_ (Or.inl ⟨by rfl, ?_⟩) ?_ ?_; rotate_left; (intro w'; go_simp; with_reducible rfl); rotate_left; · simp only [nm_]; rfl
        refine pure_ (i := 28) (N := some 44) (v := ?_) (a' := ?_) (ar 29 1) rfl rfl (by kernel_rfl) hh_ (Or.inl ⟨by rfl, ?_⟩) ?_ ?_; rotate_left; (intro w'; go_simp; with_reducible rfl); rotate_left; · simp only [nm_]; rfl
        refine pure_ (i := 29) (N := some 45) (v := ?_) (a' := ?_) (ar 30 0) rfl rfl (by kernel_rfl) hh_ (Or.inl ⟨by rfl, ?_⟩) ?_ ?_; rotate_left; (intro w'; go_simp; with_reducible rfl); rotate_left; · simp only [nm_]; rfl
        refine done_ (by kernel_rfl) ?_
        clear hwj
        go_wp2_with fail
        go_ret
        exact ⟨by rw [HPF.out]; rfl, Grew.trans HGw1.out HL.out⟩
  ·have hltz : ¬ (i : Int) < (q.length : Int) := by omega
   have HE : Aside0 (i = q.length) := ⟨by omega⟩
   have HPT := Aside0.mk (ping_true (l := l) (q := q) (fun j hj => HO.out j (by have := HE.out; omega)))
   go_wp2_with fail
   go_ret
   exact ⟨by rw [HPT.out]; rfl, HGr.out⟩

end Go.Proofs.Ytniikppojffiaaa.K
end

section
/- Acyclic pairings; the faces on cycles. -/
namespace Go.Proofs.Ytniikppojffiaaa.K
open Go.RowKit Go.Shelf Go.Proofs.Ytniikppojffiaaa.Q Go.Proofs.YtniikppojffiaaaW.PrintWords Go.Proofs.YtniikppojffiaaaW.PrintLast Go.Proofs.YtniikppojffiaaaW.PrintMore
set_option linter.unusedVariables false
set_option linter.unusedSimpArgs false

/-- A pairing is acyclic; the faces on cycles. -/
noncomputable def acycB (q : List PairT) : Bool := q.all fun p => !reachB (stepsL q) p.f0 p.f0
theorem cmp_fst (a b c d : Int) (h : cmp2 a b c d < 0) : a < c ∨ (a = c ∧ b < d) := by
 unfold cmp2 cmp1 at h
 repeat' split at h
 all_goals omega
theorem ping_asc {n : Int} {l : List Int} (hi : isC n l = true) {q : List PairT} (h : pingB l q = true) : ∀ i (hi : i < q.length), (i : Int) + 1 ≤ q[i].f0 ∧ (q[i].f0 ∈ l ∧ 1 ≤ q[i].f0 ∧ q[i].f0 ≤ 63) ∧ (q[i].f1 ∈ l ∧ 1 ≤ q[i].f1 ∧ q[i].f1 ≤ 63) := by
 intro i
 induction i with
 | zero =>
  intro h0
  have h1 := ping_at h 0 h0
  rw [okAt_eq l q 0 h0] at h1
  simp only [Bool.and_eq_true] at h1
  obtain ⟨m0, m1, _, _⟩ := pairK_mem hi h1.1.1.1
  exact ⟨by have := m0.2.1; simpa using this, m0, m1⟩
 | succ i ih =>
  intro h0
  have h1 := ping_at h (i + 1) h0
  rw [okAt_eq l q (i + 1) h0] at h1
  simp only [Bool.and_eq_true] at h1
  obtain ⟨m0, m1, _, _⟩ := pairK_mem hi h1.1.1.1
  refine ⟨?_, m0, m1⟩
  have hp := (ih (by omega)).1
  have h2 := h1.2
  simp only [Nat.add_eq_zero_iff, Nat.succ_ne_zero, and_false, beq_iff_eq, Bool.or_eq_true, decide_eq_true_eq, Nat.add_sub_cancel] at h2
  have hg : q.getD i z53 = q[i]'(by omega) := by simp [show i < q.length by omega]
  rw [hg] at h2
  rcases h2 with h2 | h2
  ·exact absurd h2 (by simp)
  have hs := h1.1.1.2
  have hs2 : q[i + 1].f0 ≠ (q[i]'(by omega)).f0 := by
   intro e
   unfold seenB at hs
   simp only [Bool.not_eq_true', List.any_eq_false] at hs
   have := hs (q[i]'(by omega)) (List.mem_iff_getElem.2 ⟨i, by simp; omega, by simp⟩)
   simp [e] at this
  have := cmp_fst _ _ _ _ h2
  omega
theorem ping_good {n : Int} {l : List Int} (hi : isC n l = true) {q : List PairT} (h : pingB l q = true) : GoodQ q := by
 refine ⟨?_, fun p hp => ?_, fun p hp => ?_⟩
 ·rcases Nat.lt_or_ge 63 q.length with h1 | h1
  ·have := ping_asc hi h 63 h1
   omega
  ·exact h1
 ·obtain ⟨i, hl, rfl⟩ := List.mem_iff_getElem.1 hp
  exact (ping_asc hi h i hl).2.1.2
 ·obtain ⟨i, hl, rfl⟩ := List.mem_iff_getElem.1 hp
  exact (ping_asc hi h i hl).2.2.2

set_option maxRecDepth 100000 in
set_option maxHeartbeats 4000000 in
theorem isAcyclic1_calls (p : PairT) (B : Nat) (A2 : Option Addr) (c2 : Nat) {q : List PairT} (w : World) (hb : w.cell? ⟨B, 0, none⟩ = some (.slice A2 q.length c2)) (hq : Kq.C w A2 q.length q) (hc2 : q.length ≤ c2) (hgq : GoodQ q) (hf : 1 ≤ p.f0 ∧ p.f0 ≤ 63) :
  Calls Try.prog 121 #[.agg #[I p.f0, I p.f1], .pointer (some ⟨B, 0, none⟩)] w fun e w' => e = .returned (.bool (!reachB (stepsL q) p.f0 p.f0)) ∧ Grew w w' := by
 obtain ⟨W1, hW1⟩ : ∃ W1, W1 = w.alloc (.cells #[I p.f0, I p.f1] 53) := ⟨_, rfl⟩
 have hp : W1.heap[w.heap.size]? = some (.cells #[I p.f0, I p.f1] 53 (0, 0)) := by rw [hW1]; exact blk_new w _
 have hG1 : Grew w W1 := by rw [hW1]; exact below_alloc (Grew.refl w) _
 have HBH := Aside0.mk (fun (W : World) (h : Grew W1 W) => behind_calls A2 c2 p.f0 W (Kd.C_below hq (Grew.trans hG1 h)) hc2 hgq)
 have hlb := World.block_lt_of_cell? w _ hb
 have k0 : W1.cell? ⟨B, 0, none⟩ = some (.slice A2 q.length c2) := (Below.cell hG1 (p := ⟨B, 0, none⟩) hlb).trans hb
 have k1 : W1.cell? ⟨w.heap.size, 0, none⟩ = some (I p.f0) := blk_cell hp 0
 have hl0 := World.block_lt_of_cell? W1 _ k0
 have hl1 := World.block_lt_of_cell? W1 _ k1
 have HWF := Aside0.mk (wf_face hf.1 hf.2)
 have HG1 := Aside0.mk hG1
 have HE1 := Aside0.mk hW1
 generalize reachB (stepsL q) p.f0 = R at HBH ⊢
 clear hp hG1 hW1 hq hf hgq
 go_enter Try.func121, Try.ntmps121
 go_wp2_with fail
 rw [← HE1.out]
 refine start_ (n := 9) (S := fun w' => w'.cell? ⟨B, 0, none⟩ = some (.slice A2 q.length c2) ∧ w'.cell? ⟨w.heap.size, 0, none⟩ = some (I p.f0)) (ds := []) (ar 0 9) (by kernel_rfl) rfl rfl ⟨(Below.cell (w := W1) (below_drew (Grew.refl W1)) (p := ⟨B, 0, none⟩) hl0).trans k0, (Below.cell (w := W1) (below_drew (Grew.refl W1)) (p := ⟨w.heap.size, 0, none⟩) hl1).trans k1⟩ (fun hHeld => ?_)
 refine pure_ (i := 1) (N := some 5) (v := ?_) (a' := ?_) #[O,U,O,O,O,O,O,O,O] rfl rfl (by kernel_rfl) hh_ (Or.inl ⟨by rfl, ?_⟩) ?_ ?_; rotate_left; (intro w'; go_simp; with_reducible rfl); rotate_left; · simp only [nm_]; rfl
 refine pure_ (i := 4) (N := some 8) (v := ?_) (a' := ?_) #[O,U,O,O,U,O,O,O,O] rfl rfl (by kernel_rfl) hh_ (Or.inl ⟨by rfl, ?_⟩) ?_ ?_; rotate_left; (intro w'; go_simp; with_reducible rfl); rotate_left; · simp only [nm_]; rfl
 refine take_ (i := 0) (N := some 4) (v := ?_) (a' := ?_) #[U,U,O,O,U,O,O,O,O] rfl rfl (by kernel_rfl) hh_ (Or.inl ⟨by rfl, ?_⟩) hHeld ?_ ?_
 rotate_left; · rintro w' ⟨s0, s1⟩; go_simp; with_reducible rfl
 rotate_left; · simp only [nm_]; rfl
 refine take_ (i := 2) (N := some 6) (v := ?_) (a' := ?_) #[U,U,U,O,U,O,O,O,O] rfl rfl (by kernel_rfl) hh_ (Or.inl ⟨by rfl, ?_⟩) hHeld ?_ ?_
 rotate_left; · rintro w' ⟨s0, s1⟩; go_simp; with_reducible rfl
 rotate_left; · simp only [nm_]; rfl
 refine take_ (i := 5) (N := some 9) (v := ?_) (a' := ?_) #[U,U,U,O,U,U,O,O,O] rfl rfl (by kernel_rfl) hh_ (Or.inl ⟨by rfl, ?_⟩) hHeld ?_ ?_
 rotate_left; · rintro w' ⟨s0, s1⟩; go_simp; with_reducible rfl
 rotate_left; · simp only [nm_]; rfl
 refine one_ (i := 3) (N := some 7) (ar 6 3) rfl rfl (by kernel_rfl) (by decide) (fun K hK => ?_)
 refine goes_ Try.func77 (by kernel_rfl) rfl #[.slice A2 q.length c2, I p.f0] (by rfl) rfl rfl (by simp only [List.map_toArray, List.map_cons, List.map_nil]; rfl) ?_
 with_reducible refine (HBH.out _ (below_drew (Grew.refl W1))).mono ?_
 rintro e w3 ⟨b, rfl, hbb, ⟨m, hm, hS⟩, hGa⟩
 refine ⟨_, rfl, ?_⟩
 have HL := Aside0.mk (Grew.trans (below_drew (Grew.refl W1)) hGa)
 have hlk := hS.look p.f0 HWF.out
 clear hGa hS hbb hm
 refine hK.out _ _ ⟨(Below.cell (w := W1) HL.out (p := ⟨B, 0, none⟩) hl0).trans k0, (Below.cell (w := W1) HL.out (p := ⟨w.heap.size, 0, none⟩) hl1).trans k1⟩ (fun hHeld => ?_)
 clear hK K
 refine norm_ (a' := ?_) ?_ ?_
 rotate_left
 ·show Act.put _ (some 7) _ = _
  simp only [nm_]
  rfl
 refine one_ (i := 6) (N := some 10) (ar 7 2) rfl rfl (by kernel_rfl) (by decide) (fun K hK => ?_)
 refine value_ (w1 := ?_) (v := ?_) (by rfl) rfl ?_ ?_
 rotate_left 2
 ·go_simp
  constructor
  ·rfl
  ·rfl
 refine hK.out _ _ ⟨(Below.cell (w := W1) HL.out (p := ⟨B, 0, none⟩) hl0).trans k0, (Below.cell (w := W1) HL.out (p := ⟨w.heap.size, 0, none⟩) hl1).trans k1⟩ (fun hHeld => ?_)
 clear hK K
 refine norm_ (a' := ?_) ?_ ?_
 rotate_left
 ·show Act.put _ (some 10) _ = _
  simp only [nm_]
  rfl
 refine pure_ (i := 7) (N := some 11) (v := ?_) (a' := ?_) (ar 8 1) rfl rfl (by kernel_rfl) hh_ (Or.inl ⟨by rfl, ?_⟩) ?_ ?_; rotate_left; (intro w'; go_simp; with_reducible rfl); rotate_left; · simp only [nm_]; rfl
 refine pure_ (i := 8) (N := some 3) (v := ?_) (a' := ?_) (ar 9 0) rfl rfl (by kernel_rfl) hh_ (Or.inl ⟨by rfl, ?_⟩) ?_ ?_; rotate_left; (intro w'; go_simp; with_reducible rfl); rotate_left; · simp only [nm_]; rfl
 refine done_ (by kernel_rfl) ?_
 go_wp2_with fail
 go_ret
 exact ⟨rfl, Grew.trans HG1.out HL.out⟩
set_option maxHeartbeats 2000000 in
theorem isAcyclic_calls (A2 : Option Addr) (c2 : Nat) {q : List PairT} (n : Int) (A : Option Addr) (c : Nat) (l : List Int) (w : World) (hq : Kq.C w A2 q.length q) (hc2 : q.length ≤ c2) (hgq : GoodQ q) :
  Calls Try.prog 73 #[.agg #[I n, .slice A l.length c], .slice A2 q.length c2] w fun e w' => e = .returned (.bool (acycB q)) ∧ Grew w w' := by
 obtain ⟨W, hW⟩ : ∃ W, W = (w.alloc (.cells #[I n, .slice A l.length c] 30)).alloc (.cells #[.slice A2 q.length c2] 32) := ⟨_, rfl⟩
 have hL : W.heap[w.heap.size + 1]? = some (.cells #[.slice A2 q.length c2] 32 (0, 0)) := by
  rw [hW]
  have := blk_new (w.alloc (.cells #[I n, .slice A l.length c] 30)) (.cells #[.slice A2 q.length c2] 32)
  rwa [World.size_alloc] at this
 have hg : Grew w W := by rw [hW]; exact below_alloc (below_alloc (Grew.refl w) _) _
 have H := Aside0.mk (areAll_pair (fun p => !reachB (stepsL q) p.f0 p.f0) A2 c2 q 121 #[] #[.pointer (some ⟨w.heap.size + 1, 0, none⟩)] W (Kd.C_below hq hg) hc2 hq.2.1 (enters_of Try.func121 (by kernel_rfl) rfl)
  (fun x hx W2 hW2 => isAcyclic1_calls x (w.heap.size + 1) A2 c2 W2 (blk_cell (blk_below hL hW2) 0) (Kd.C_below hq (Grew.trans hg hW2)) hc2 hgq (hgq.f0 x hx)))
 have HG := Aside0.mk hg
 have HV : Aside0 (acycB q = q.all fun p => !reachB (stepsL q) p.f0 p.f0) := ⟨rfl⟩
 rw [HV.out]
 generalize (q.all fun p => !reachB (stepsL q) p.f0 p.f0) = r at H ⊢
 clear hL hg hq hgq HV
 subst hW
 go_enter Try.func73, Try.ntmps73
 go_wp2_with fail
 refine H.out.mono ?_
 rintro e w1 ⟨rfl, hG1⟩
 go_wp2_with fail
 go_ret
 exact ⟨rfl, Grew.trans HG.out hG1⟩

end Go.Proofs.Ytniikppojffiaaa.K
end

section
/- A pair put into an ascending list of pairs. -/
namespace Go.Proofs.Ytniikppojffiaaa.K
open Go.RowKit Go.Shelf Go.Proofs.Ytniikppojffiaaa.Q Go.Proofs.YtniikppojffiaaaW.PrintWords Go.Proofs.YtniikppojffiaaaW.PrintLast Go.Proofs.YtniikppojffiaaaW.PrintMore
set_option linter.unusedVariables false
set_option linter.unusedSimpArgs false

theorem ltP_iff (r p : PairT) : ltP r p ↔ r.f0 < p.f0 ∨ (r.f0 = p.f0 ∧ r.f1 < p.f1) := by
 unfold ltP cmp2 cmp1
 constructor
 ·intro h
  exact cmp_fst _ _ _ _ h
 ·rintro (h | ⟨h, h2⟩)
  ·rw [if_pos h, if_neg (by decide)]
   omega
  ·rw [if_neg (show ¬ r.f0 < p.f0 by omega), if_neg (show ¬ p.f0 < r.f0 by omega), if_pos rfl, if_pos h2]
   omega
/-- A list with a pair put in. -/
def insQ (p : PairT) : List PairT → List PairT
 | [] => [p]
 | r :: q => if cmp2 r.f0 r.f1 p.f0 p.f1 < 0 then r :: insQ p q else p :: r :: q
theorem insQ_len (p : PairT) : ∀ q : List PairT, (insQ p q).length = q.length + 1
 | [] => rfl
 | r :: q => by
  unfold insQ
  split
  ·simp [insQ_len p q]
  ·simp
theorem insQ_at (p : PairT) : ∀ (q : List PairT) (i : Nat), i ≤ q.length → (∀ t (ht : t < q.length), t < i → ltP q[t] p) → (∀ t (ht : t < q.length), i ≤ t → ¬ ltP q[t] p) → q.take i ++ p :: q.drop i = insQ p q
 | [], i, hi, _, _ => by simp [insQ]
 | r :: q, 0, _, _, h2 => by
  have h0 : ¬ ltP r p := h2 0 (by simp) (Nat.le_refl _)
  unfold insQ
  rw [if_neg h0]
  rfl
 | r :: q, i + 1, hi, h1, h2 => by
  have h0 : ltP r p := h1 0 (by simp) (by omega)
  unfold insQ
  rw [if_pos h0, ← insQ_at p q i (by simpa using hi) (fun t ht hti => h1 (t + 1) (by simpa using ht) (by omega)) (fun t ht hti => h2 (t + 1) (by simpa using ht) (by omega))]
  rfl
/-- Each pair comes ahead of the next. -/
def AscQ (q : List PairT) : Prop := ∀ i j (hj : j < q.length) (hij : i < j), ltP (q[i]'(by omega)) q[j]
theorem ping_ascQ {l : List Int} {q : List PairT} (h : pingB l q = true) : AscQ q := by
 have h1 : ∀ i (hi : i + 1 < q.length), ltP (q[i]'(by omega)) q[i + 1] := by
  intro i hi
  have := ping_at h (i + 1) hi
  rw [okAt_eq l q (i + 1) hi] at this
  simp only [Bool.and_eq_true, Bool.or_eq_true, beq_iff_eq, decide_eq_true_eq] at this
  have h2 := this.2
  simp only [Nat.add_sub_cancel, Nat.add_eq_zero_iff, Nat.one_ne_zero, and_false, false_or] at h2
  rw [List.getD_eq_getElem?_getD, List.getElem?_eq_getElem (by omega), Option.getD_some] at h2
  exact h2
 intro i j
 induction j with
 | zero => intro _ h; omega
 | succ j ih =>
  intro hj hij
  rcases Nat.lt_or_ge i j with h2 | h2
  ·have a := (ltP_iff _ _).1 (ih (by omega) h2)
   have b := (ltP_iff _ _).1 (h1 j hj)
   exact (ltP_iff _ _).2 (by omega)
  ·have : i = j := by omega
   subst this
   exact h1 i hj
theorem asc_mono {q : List PairT} (h : AscQ q) (p : PairT) : ∀ i j (hj : j < q.length) (hij : i ≤ j), ltP q[j] p → ltP (q[i]'(by omega)) p := by
 intro i j hj hij hp
 rcases Nat.lt_or_ge i j with h2 | h2
 ·have a := (ltP_iff _ _).1 (h i j hj h2)
  have b := (ltP_iff _ _).1 hp
  exact (ltP_iff _ _).2 (by omega)
 ·have : i = j := by omega
  subst this
  exact hp
/-- The place from the end gives the same list. -/
theorem insQ_end {q : List PairT} (h : AscQ q) (p : PairT) (i : Nat) (hi : i ≤ q.length) (h1 : ∀ t (ht : t < q.length), i ≤ t → ltP p q[t]) (h2 : ∀ (hp : 0 < i), ¬ ltP p (q[i - 1]'(by omega))) : q.take i ++ p :: q.drop i = insQ p q := by
 have hge : ∀ t (ht : t < q.length), i ≤ t → ¬ ltP q[t] p := fun t ht hit => by
  have := (ltP_iff _ _).1 (h1 t ht hit)
  rw [ltP_iff]
  omega
 rcases Nat.eq_zero_or_pos i with h0 | h0
 ·exact insQ_at p q i hi (fun t _ h => absurd h (by omega)) hge
 ·have hn := h2 h0
  by_cases hl : ltP (q[i - 1]'(by omega)) p
  ·exact insQ_at p q i hi (fun t ht hti => asc_mono h p t (i - 1) (by omega) (by omega) hl) hge
  ·have he : q[i - 1]'(by omega) = p := by
    rw [ltP_iff] at hn hl
    have e0 : (q[i - 1]'(by omega)).f0 = p.f0 := by omega
    have e1 : (q[i - 1]'(by omega)).f1 = p.f1 := by omega
    generalize q[i - 1]'(by omega) = r at e0 e1
    cases r; cases p
    simp only at e0 e1
    rw [e0, e1]
   rw [← insQ_at p q (i - 1) (by omega) (fun t ht hti => ?_) (fun t ht hti => ?_)]
   ·obtain ⟨j, rfl⟩ : ∃ j, i = j + 1 := ⟨i - 1, by omega⟩
    simp only [Nat.add_sub_cancel] at he ⊢
    rw [List.take_add_one, List.getElem?_eq_getElem (by omega), he, List.drop_eq_getElem_cons (i := j) (by omega), he]
    simp
   ·have := h t (i - 1) (by omega) hti
    rw [he] at this
    exact this
   ·rcases Nat.lt_or_ge t i with h3 | h3
    ·have : t = i - 1 := by omega
     subst this
     exact hl
    ·exact hge t ht h3
/-- Whether a pair can be put in. -/
noncomputable def withB (l : List Int) (q : List PairT) (p : PairT) : Bool := pingB l (insQ p q) && acycB (insQ p q)

end Go.Proofs.Ytniikppojffiaaa.K
end

section
/- The faces above a face, the reference's. -/
namespace Go.Proofs.Ytniikppojffiaaa.K
open Go.RowKit Go.Shelf Go.Proofs.Ytniikppojffiaaa.Q Go.Proofs.YtniikppojffiaaaW.PrintWords Go.Proofs.YtniikppojffiaaaW.PrintLast Go.Proofs.YtniikppojffiaaaW.PrintMore
set_option linter.unusedVariables false
set_option linter.unusedSimpArgs false

theorem specAbove_loop (n f : Int) (hf : 1 ≤ f ∧ f ≤ 63) (l : List Int) (hl : l.length ≤ 63) (hr : ∀ x ∈ l, 1 ≤ x ∧ x ≤ 63) : ∀ (d i k : Nat) (acc : List Int), l.length - i = d → i ≤ l.length → d + 8 < k → acc.length ≤ i →
  spec_l01Above.l0 k f acc (i : Int) n l = some (acc ++ (l.drop i).filter (fun x => decide (Go.bits .and .i64 x f = f) && decide (onesI x = onesI f + 1))) := by
 have ho := ones_range f hf.1 hf.2
 intro d
 induction d with
 | zero =>
  intro i k acc hd hi hk ha
  obtain ⟨k, rfl⟩ : ∃ m, k = m + 1 := ⟨k - 1, by omega⟩
  obtain rfl : i = l.length := by omega
  simp only [spec_l01Above.l0]
  rw [if_neg (by omega)]
  simp
 | succ d ih =>
  intro i k acc hd hi hk ha
  obtain ⟨k, rfl⟩ : ∃ m, k = m + 1 := ⟨k - 1, by omega⟩
  simp only [spec_l01Above.l0]
  have hil : i < l.length := by omega
  have hx := hr _ (List.getElem_mem hil)
  have hin := fun acc' (h : acc'.length ≤ i + 1) => ih (i + 1) k acc' (by omega) (by omega) (by omega) h
  rw [if_pos (by omega), if_pos (by omega), rd_nat l i hil, w64 ((i : Int) + 1) (by omega) (by omega), nat_succ, List.drop_eq_getElem_cons hil, List.filter_cons]
  by_cases h : Go.bits .and .i64 l[i] f = f
  ·rw [if_pos h, specOnes_is l[i] (by omega) (by omega) k (by omega), specOnes_is f (by omega) (by omega) k (by omega)]
   simp only [Option.bind_some]
   rw [w64 (onesI f + 1) (by omega) (by omega)]
   by_cases h2 : onesI l[i] = onesI f + 1
   ·rw [if_pos h2]
    simp only [h, h2, decide_true, Bool.and_self, if_true]
    rw [if_pos (show acc.length < 17592186044416 by omega), hin _ (by simp; omega), List.append_assoc]
    rfl
   ·rw [if_neg h2]
    simp only [h, h2, decide_true, decide_false, Bool.and_false, Bool.false_eq_true, if_false]
    exact hin _ (by omega)
  ·rw [if_neg h]
   simp only [h, decide_false, Bool.false_and, Bool.false_eq_true, if_false]
   exact hin _ (by omega)
def aboveL (l : List Int) (f : Int) : List Int := l.filter (fun x => decide (Go.bits .and .i64 x f = f) && decide (onesI x = onesI f + 1))
theorem specAbove_is (n f : Int) (hf : 1 ≤ f ∧ f ≤ 63) (l : List Int) (hl : l.length ≤ 63) (hr : ∀ x ∈ l, 1 ≤ x ∧ x ≤ 63) (k : Nat) (hk : 72 ≤ k) : spec_l01Above.f k n l f = some (aboveL l f) := by
 have := specAbove_loop n f hf l hl hr l.length 0 k [] (by omega) (by omega) (by omega) (by simp)
 rw [show ((0 : Nat) : Int) = 0 from rfl, List.nil_append, List.drop_zero] at this
 exact this

end Go.Proofs.Ytniikppojffiaaa.K
end

section
/- The reference's falling pairs come to what the program's come to. -/
namespace Go.Proofs.Ytniikppojffiaaa.K
open Go.RowKit Go.Shelf Go.Proofs.Ytniikppojffiaaa.Q Go.Proofs.YtniikppojffiaaaW.PrintWords Go.Proofs.YtniikppojffiaaaW.PrintLast Go.Proofs.YtniikppojffiaaaW.PrintMore
set_option linter.unusedVariables false
set_option linter.unusedSimpArgs false

theorem pgK_le {l : List Int} (hl : l.length ≤ 63) {q : List PairT} (hq : q.length ≤ 4100) : pgK l q ≤ 17000000 := by
 unfold pgK
 have h1 : q.length * (q.length + 5) ≤ 4100 * 4105 := Nat.mul_le_mul hq (by omega)
 omega
theorem specWith_last {n : Int} {l : List Int} (hC : isC n l = true) (B : Nat) (hB : ∀ q : List PairT, q.length ≤ 4100 → pgK l q ≤ B) (q : List PairT) (hq : q.length ≤ 4099) (x y : Int) (hlt : ∀ p ∈ q, ¬ cmp2 x y p.f0 p.f1 < 0) (k : Nat) (hk : B < k) :
  spec_l02With.f k n l q x y = some (q ++ [⟨x, y⟩], pingB l (q ++ [⟨x, y⟩])) := by
 obtain ⟨k, rfl⟩ : ∃ m, k = m + 1 := ⟨k - 1, by omega⟩
 have h63 := (isC_faces hC).2.2.2
 have hp : (q ++ [(⟨x, y⟩ : PairT)]).length ≤ 4100 := by simp; omega
 have hI := specIs02_is hC (q ++ [⟨x, y⟩]) (by omega) k (Nat.le_trans (hB _ hp) (by omega))
 have hT : q.take (q.length : Int).toNat = q := by simp
 have hD : q.drop (q.length : Int).toNat = [] := by simp
 unfold spec_l02With.f
 simp only [spec_l02With.l0]
 by_cases h0 : q.length = 0
 ·rw [if_neg (by omega), hT, hD]
  simp only [Option.bind_some, List.append_nil, List.nil_append]
  rw [if_pos (by omega), if_pos (by omega), if_pos (by simp), if_pos (by simp; omega), if_pos (by simp; omega), hI]
  rfl
 ·have hw : Aside0 (wrap64 ((q.length : Int) - 1) = ((q.length - 1 : Nat) : Int)) := ⟨by rw [w64 _ (by omega) (by omega)]; omega⟩
  have hlast := hlt _ (List.getElem_mem (show q.length - 1 < q.length by omega))
  rw [if_pos (by omega), hw.out, if_pos (by omega), if_pos (by omega), rdP q (q.length - 1) (by omega), specLess_is, hT, hD]
  simp only [Option.bind_some, List.append_nil, List.nil_append]
  rw [decide_eq_false hlast, if_neg (by simp), if_pos (by omega), if_pos (by omega), if_pos (by simp), if_pos (by simp; omega), if_pos (by simp; omega), hI]
  rfl
theorem above_eq {n : Int} {l : List Int} (hi : isC n l = true) {a : Int} (ha : a ∈ l) : aboveL l a = l.filter fun b => pairK l ⟨a, b⟩ := by
 obtain ⟨hn, hs, hr, h63⟩ := isC_faces hi
 unfold aboveL
 apply List.filter_congr
 intro b hb
 have hra := hr a ha
 have hrb := hr b hb
 unfold pairK
 rw [mem_has hi ha, mem_has hi hb, inB_is a b (by omega) (by omega), and_comm' a b (by omega) (by omega)]
 rfl
theorem cmp2_ge {x y : Int} {p : PairT} (h : p.f0 < x ∨ p.f0 = x ∧ p.f1 < y) : ¬ cmp2 x y p.f0 p.f1 < 0 := by
 unfold cmp2 cmp1
 rcases h with h | ⟨h, h2⟩
 all_goals (repeat' split)
 all_goals omega
theorem closedB {n : Int} {l : List Int} (hC : isC n l = true) : ∀ a ∈ l, ∀ x ∈ bords a, x ∈ l := fun a ha x hx => closed_mem hC a ha x hx
end Go.Proofs.Ytniikppojffiaaa.K
end

section
/- Written by a program of this session (myprint.py over the kit's print). -/
namespace Go.Proofs.Ytniikppojffiaaa.Q
open Go.RowKit Go.Proofs.YtniikppojffiaaaW.PrintWords Go.Proofs.YtniikppojffiaaaW.PrintLast Go.Proofs.YtniikppojffiaaaW.PrintMore
attribute [local go_sem] max2_int min2_int max_two min_two max_three min_three max_four min_four   -- for this text's walks alone
set_option linter.unusedVariables false
set_option linter.unusedSimpArgs false

/-! ### spec_l02All: function 128 -/
mutual
def spec_l02All.l0 : Nat → List (S53) → Int → Int → List Int → Option ((List (S53)))
 | 0, _, _, _, _ => none
 | k + 1, x3, x4, x343000, x343001 => if x4 < (x343001.length : Int) then (if 0 ≤ x4 then ((spec_l01Above.f k x343000 x343001 (rd x343001 x4)).bind fun t347 => (spec_l02All.l1 k x3 x4 t347 0 x343000 x343001)) else (none)) else (some x3)
def spec_l02All.l1 : Nat → List (S53) → Int → List Int → Int → Int → List Int → Option ((List (S53)))
 | 0, _, _, _, _, _, _ => none
 | k + 1, x3, x4, x5, x6, x343000, x343001 => if x6 < (x5.length : Int) then (if 0 ≤ x4 then (if x4 < (x343001.length : Int) then (if 0 ≤ x6 then ((spec_l02With.f k x343000 x343001 x3 (rd x343001 x4) (rd x5 x6)).bind fun bt352 => (spec_l02All.l1 k bt352.1 x4 x5 (wrap64 (x6 + 1)) x343000 x343001)) else (none)) else (none)) else (none)) else (spec_l02All.l0 k x3 (wrap64 (x4 + 1)) x343000 x343001)
end
def spec_l02All.f (k : Nat) (a0_0 : Int) (l0_1 : List Int) : Option ((List (S53))) := spec_l02All.l0 k (([] : List (S53))) 0 a0_0 l0_1
theorem spec_l02All.mono_l : ∀ k, (∀ y0 y1 y2 y3, LeO (spec_l02All.l0 k y0 y1 y2 y3) (spec_l02All.l0 (k + 1) y0 y1 y2 y3)) ∧ (∀ y0 y1 y2 y3 y4 y5, LeO (spec_l02All.l1 k y0 y1 y2 y3 y4 y5) (spec_l02All.l1 (k + 1) y0 y1 y2 y3 y4 y5))
 | 0 => ⟨fun _ _ _ _ r h => by simp [spec_l02All.l0] at h, fun _ _ _ _ _ _ r h => by simp [spec_l02All.l1] at h⟩
 | k + 1 => by
  obtain ⟨ih0, ih1⟩ := spec_l02All.mono_l k
  refine ⟨?_, ?_⟩
  ·intro y0 y1 y2 y3
   unfold spec_l02All.l0
   repeat' first
   | (with_reducible exact ih0 _ _ _ _)
   | (with_reducible exact ih1 _ _ _ _ _ _)
   | (with_reducible exact spec_l01Above.mono _ _ _ _)
   | (with_reducible exact spec_l02With.mono _ _ _ _ _ _)
   | (with_reducible exact LeO.refl _)
   | (with_reducible exact LeO.none _)
   | (with_reducible refine LeO.ite ?_ ?_)
   | (with_reducible refine LeO.bind ?_ (fun _ => ?_))
   | exact ih0 _ _ _ _
   | exact ih1 _ _ _ _ _ _
   | exact spec_l01Above.mono _ _ _ _
   | exact spec_l02With.mono _ _ _ _ _ _
   | exact LeO.none _
   | refine LeO.ite ?_ ?_
   | refine LeO.bind ?_ (fun _ => ?_)
  ·intro y0 y1 y2 y3 y4 y5
   unfold spec_l02All.l1
   repeat' first
   | (with_reducible exact ih0 _ _ _ _)
   | (with_reducible exact ih1 _ _ _ _ _ _)
   | (with_reducible exact spec_l01Above.mono _ _ _ _)
   | (with_reducible exact spec_l02With.mono _ _ _ _ _ _)
   | (with_reducible exact LeO.refl _)
   | (with_reducible exact LeO.none _)
   | (with_reducible refine LeO.ite ?_ ?_)
   | (with_reducible refine LeO.bind ?_ (fun _ => ?_))
   | exact ih0 _ _ _ _
   | exact ih1 _ _ _ _ _ _
   | exact spec_l01Above.mono _ _ _ _
   | exact spec_l02With.mono _ _ _ _ _ _
   | exact LeO.none _
   | refine LeO.ite ?_ ?_
   | refine LeO.bind ?_ (fun _ => ?_)
theorem spec_l02All.mono : ∀ a0 a1 k, LeO (spec_l02All.f k a0 a1) (spec_l02All.f (k + 1) a0 a1) := by
 intro a0 a1 k
 obtain ⟨ih0, ih1⟩ := spec_l02All.mono_l k
 unfold spec_l02All.f
 repeat' first
   | (with_reducible exact ih0 _ _ _ _)
   | (with_reducible exact ih1 _ _ _ _ _ _)
   | (with_reducible exact spec_l01Above.mono _ _ _ _)
   | (with_reducible exact spec_l02With.mono _ _ _ _ _ _)
   | (with_reducible exact LeO.refl _)
   | (with_reducible exact LeO.none _)
   | (with_reducible refine LeO.ite ?_ ?_)
   | (with_reducible refine LeO.bind ?_ (fun _ => ?_))
   | exact ih0 _ _ _ _
   | exact ih1 _ _ _ _ _ _
   | exact spec_l01Above.mono _ _ _ _
   | exact spec_l02With.mono _ _ _ _ _ _
   | exact LeO.none _
   | refine LeO.ite ?_ ?_
   | refine LeO.bind ?_ (fun _ => ?_)
def spec_l02All.T5 : Bool × List (List Nat × List Nat) := (true, [([], []), ([], []), ([1], [1]), ([], []), ([2, 3], [2, 3]), ([4], [4]), ([0, 5], [0, 5]), ([6, 6, 0, 1, 2, 3, 4, 5, 6], [6])])
def spec_l02All.B5 : List Nat := [0, 0, 2, 0, 14, 30, 63, 127]
theorem spec_l02All.tab5 : rtab .any (opsOf Try.f128 5) = spec_l02All.T5 := by kernel_rfl
theorem spec_l02All.bits5 : waitsOk spec_l02All.T5.2 spec_l02All.B5 = true := by kernel_rfl
def spec_l02All.T9 : Bool × List (List Nat × List Nat) := (true, [([], []), ([], []), ([], []), ([2], [2]), ([], []), ([3, 4], [3, 4]), ([5], [5]), ([], []), ([], []), ([7, 8], [7, 8]), ([9], [9]), ([6, 10], [6, 10]), ([0, 1, 11], [0, 1, 11]), ([12], [12]), ([13], [13]), ([13], [13]), ([14, 12, 0, 1, 2, 3, 4, 5, 6, 7, 8, 9, 10, 11, 12, 13, 14], [1, 14])])
def spec_l02All.B9 : List Nat := [0, 0, 0, 4, 0, 28, 60, 0, 0, 384, 896, 2044, 4095, 8191, 16383, 16383, 32767]
theorem spec_l02All.tab9 : rtab .any (opsOf Try.f128 9) = spec_l02All.T9 := by kernel_rfl
theorem spec_l02All.bits9 : waitsOk spec_l02All.T9.2 spec_l02All.B9 = true := by kernel_rfl
set_option maxHeartbeats 8000000 in
set_option maxRecDepth 100000 in
theorem spec_l02All.calls (k : Nat) (a0_0 : Int) (A0_1 : Option Addr) (c0_1 : Nat) (l0_1 : List Int) (r : List (S53)) (w : World) (hr0_1 : Kd.C (Kd.int .i64) w A0_1 l0_1.length l0_1) (hc0_1 : l0_1.length ≤ c0_1) (h : spec_l02All.f k a0_0 l0_1 = some r) :
  Calls Try.prog 128 #[.agg #[.int .i64 a0_0, .slice A0_1 l0_1.length c0_1]] w fun e w' => ∃ v0_ : Value, e = .returned (v0_) ∧ Kd.R k53 53 w' w.heap.size (fun _ => True) v0_ r ∧ Below w.heap.size w w' := by
 have hu30 := Try.underlying30
 have hu53 := Try.underlying53
 have HR0_1 := Aside0.mk hr0_1
 have HC0_1 := Aside0.mk hc0_1
 clear hr0_1 hc0_1
 have HB := Aside0.mk (Below.refl w.heap.size w)
 have H : (spec_l02All.l0 k (([] : List (S53))) 0 a0_0 l0_1) = some r := h
 clear h
 obtain ⟨y343, hy343⟩ : ∃ y_ : List (S53), y_ = (([] : List (S53))) := ⟨_, rfl⟩
 replace H : (spec_l02All.l0 k y343 0 a0_0 l0_1) = some r := by first | (rw [hy343]; with_reducible exact H) | (have H2_ := (Option.bind_some _ _).symm.trans H; rw [hy343]; with_reducible exact H2_) | (have H2_ := (Option.bind_some _ _).symm.trans H; with_reducible exact H2_) | with_reducible exact H | (rw [hy343]; exact H) | exact H
 have Ny343 := Aside0.mk hy343
 clear hy343
 have H' := Aside0.mk H
 clear H
 go_enter Try.func128, Try.ntmps128
 go_wp2_with (first | ((with_reducible refine gate_dst (N := 1) rfl ?_); refine box_event ?hg (N := 1) ?hd (cs := #[.int .i64 a0_0, .slice A0_1 l0_1.length c0_1]) (t := 30) ?hr ?_; (case hd => rfl); (case hg => rfl); (case hr => first | (go_simp; done) | (go_simp; rfl)); intro gb342 hg w2 hbox hb; have n0_ := Aside0.mk (below_step (by repeat (first | (with_reducible first | exact HB.out | apply below_alloc | apply pw_below_drewN | apply below_drew1) | exact HB.out)) hb); have n1_ := Aside0.mk (hbox); have n2_ := Aside0.mk ((by rw [hg]; exact (below_size (by repeat (first | (with_reducible first | exact HB.out | apply below_alloc | apply pw_below_drewN | apply below_drew1) | exact HB.out))) : w.heap.size ≤ gb342)); have n3_ := Aside0.mk ((by rw [hg]; exact (below_size (by repeat (first | (with_reducible first | exact HB.out | apply below_alloc | apply pw_below_drewN | apply below_drew1) | exact HB.out))) : w.heap.size ≤ gb342)); clear HB; have HB := n0_; have BK342 := n1_; have GW342 := n2_; have GE342 := n3_; clear n0_ n1_ n2_ n3_; clear hb hbox hg) | ((with_reducible refine gate_dst (N := 7) rfl ?_); refine Kd.R_lit k53 _ 53 ?hg (N := 7) ?hd (xs := ([] : List (S53))) (inner := []) (ok := fun _ => True) (okp := fun _ => True) ?hr ?hp (fun _ hk => hk) trivial (Below.refl _ _) (Nat.le_refl _) (by simp) ?_; (case hd => rfl); (case hg => rfl); (case hr => first | (go_simp; done) | (go_simp; rfl)); (case hp => exact (Reps.none _ _)); intro v344 w3 ho4 hb hg_ hnew_; clear hg_ hnew_; (first | rw [← Ny343.out] at ho4 | (simp only [Int.reduceToNat] at ho4; rw [← Ny343.out] at ho4)); have n0_ := Aside0.mk (Kd.R_lower ho4 (below_size (by repeat (first | (with_reducible first | exact HB.out | apply below_alloc | apply pw_below_drewN | apply below_drew1 | refine below_set ?_ GE342.out) | exact HB.out)))); have n1_ := Aside0.mk (blk_below (g := gb342) (o := .cells #[.int .i64 a0_0, .slice A0_1 l0_1.length c0_1] 30 (0, 0)) (by (with_reducible repeat (first | refine blk_drewN ?_ _ | refine blk_drew ?_ | refine blk_alloc ?_ _)); exact BK342.out) hb); have n2_ := Aside0.mk (below_step (by repeat (first | (with_reducible first | exact HB.out | apply below_alloc | apply pw_below_drewN | apply below_drew1 | refine below_set ?_ GE342.out) | exact HB.out)) hb); clear BK342; clear HB; have HO345 := n0_; have BK342 := n1_; have HB := n2_; clear n0_ n1_ n2_; clear hb ho4))
 go_loopg [3, 4] k (fun kq v3 v4 w' => ∃ (x3_1 : List (S53)) (x4_1 : Int), v4 = .int .i64 x4_1 ∧ Aside0 (spec_l02All.l0 kq x3_1 x4_1 a0_0 l0_1 = some r) ∧ Aside0 (kq ≤ k) ∧ Aside0 (Kd.R k53 53 w' w.heap.size (fun _ => True) v3 x3_1) ∧ Aside0 (w'.heap[gb342]? = some (.cells #[.int .i64 a0_0, (.slice A0_1 l0_1.length c0_1)] 30 (0, 0))) ∧ Aside0 (Below w.heap.size w w'))
 case atStart => exact ⟨(y343), (0), (by first | rfl | (simp; done) | (simp [*]; done)), H', ⟨Nat.le_refl _⟩, ⟨by (with_reducible repeat (first | apply Kd.R_alloc | apply Kd.R_drewN | apply Kd.R_drew)); exact HO345.out⟩, ⟨by (with_reducible repeat (first | refine blk_drewN ?_ _ | refine blk_drew ?_ | refine blk_alloc ?_ _)); exact BK342.out⟩, ⟨by repeat (first | (with_reducible first | exact HB.out | apply below_alloc | apply pw_below_drewN | apply below_drew1 | refine below_set ?_ GE342.out) | exact HB.out)⟩⟩
 case round =>
  clear H'
  try clear c1
  try clear p2
  obtain ⟨x3_1, x4_1, rfl, HA, HK1, HO_3, BK342, HB⟩ := hrel
  cases gk with
  | zero => exact absurd HA.out (by simp [spec_l02All.l0])
  | succ k1 =>
   have H := HA.out
   clear HA
   simp only [spec_l02All.l0] at H
   by_cases c5 : x4_1 < (l0_1.length : Int)
   ·rw [if_pos c5] at H
    have c5b0 : decide (x4_1 < (l0_1.length : Int)) = true := decide_eq_true c5
    clear c5
    by_cases c6 : 0 ≤ x4_1
    ·rw [if_pos c6] at H
     have c6b0 : decide (0 ≤ x4_1) = true := decide_eq_true c6
     clear c6
     replace H := Option.bind_eq_some_iff.mp H
     obtain ⟨t347, A70, H⟩ := H
     replace H : (spec_l02All.l1 k1 x3_1 x4_1 t347 0 a0_0 l0_1) = some r := H
     have A7 := Aside0.mk A70
     clear A70
     have H' := Aside0.mk H
     clear H
     have hcz8_0 : wr.cell? ⟨gb342, 0, none⟩ = some (.int .i64 a0_0) := (blk_cell BK342.out 0).trans rfl
     have hcz8_1 : wr.cell? ⟨gb342, 1, none⟩ = some (.slice A0_1 l0_1.length c0_1) := (blk_cell BK342.out 1).trans rfl
     have hfz8_0 := blk_frozen BK342.out 0
     have hfz8_1 := blk_frozen BK342.out 1
     try go_wp2
     have n0_ := Aside0.mk (Kd.R_drew HO_3.out)
     have n1_ := Aside0.mk (blk_drew BK342.out)
     have n2_ := Aside0.mk (below_drew1 HB.out)
     clear HO_3
     clear BK342
     clear HB
     have HO_3 := n0_
     have BK342 := n1_
     have HB := n2_
     clear n0_ n1_ n2_
     have p346 : 0 ≤ (x4_1 : Int) := of_decide_eq_true (by first | (with_reducible assumption) | assumption)
     have q346 : x4_1 < (l0_1.length : Int) := of_decide_eq_true (by first | (with_reducible assumption) | assumption)
     obtain ⟨ad346, e346, hx346_0⟩ := Kd.at_int HR0_1.out x4_1 p346 q346
     have hw346_0 := hx346_0
     cases e346
     replace hx346_0 := (HB.out.cell (World.block_lt_of_cell? w _ hx346_0)).trans hx346_0
     replace p346 := eq_true p346
     replace q346 := eq_true q346
     refine start_ (n := 8) (S := fun w' => w'.cell? ⟨gb342, 0, none⟩ = some (.int .i64 a0_0) ∧ w'.cell? ⟨gb342, 1, none⟩ = some (.slice (some ad346) l0_1.length c0_1) ∧ w'.cell? (ad346.add (x4_1).toNat) = some (.int .i64 (rd l0_1 x4_1))) (ds := []) (ar 0 8) (by kernel_rfl) rfl rfl ⟨(blk_cell BK342.out 0).trans rfl, (blk_cell BK342.out 1).trans rfl, ((HB.out.cell (World.block_lt_of_cell? w _ hw346_0)).trans hw346_0)⟩ (fun hHeld => ?_); refine with_tabW spec_l02All.tab5 spec_l02All.bits5 (fun HT_ HW_ => ?_)
     generalize wr.drew = w9 at HO_3 BK342 HB hx346_0 hHeld ⊢
     refine pure_ (i := 1) (N := some 16) (v := ?_) (a' := ?_) #[O,U,O,O,O,O,O,O] rfl rfl (any_of HT_.out (by kernel_rfl)) hh_ (Or.inl ⟨by rfl, ?_⟩) ?_ ?_; rotate_left; (intro w'; go_simp; with_reducible rfl); rotate_left; · simp only [nm_]; rfl
     refine pure_ (i := 3) (N := some 18) (v := ?_) (a' := ?_) #[O,U,O,U,O,O,O,O] rfl rfl (any_of HT_.out (by kernel_rfl)) hh_ (Or.inl ⟨by rfl, ?_⟩) ?_ ?_; rotate_left; (intro w'; go_simp; with_reducible rfl); rotate_left; · simp only [nm_]; rfl
     refine take_ (i := 0) (N := some 15) (v := ?_) (a' := ?_) #[U,U,O,U,O,O,O,O] rfl rfl (take_ofW HT_.out HW_.out (by kernel_rfl)) hh_ (Or.inl ⟨by rfl, ?_⟩) hHeld ?_ ?_
     rotate_left; · rintro w' ⟨s0, s1, s2⟩; go_simp; with_reducible rfl
     rotate_left; · simp only [nm_]; rfl
     refine take_ (i := 2) (N := some 17) (v := ?_) (a' := ?_) (ar 4 4) rfl rfl (take_ofW HT_.out HW_.out (by kernel_rfl)) hh_ (Or.inl ⟨by rfl, ?_⟩) hHeld ?_ ?_
     rotate_left; · rintro w' ⟨s0, s1, s2⟩; go_simp; with_reducible rfl
     rotate_left; · simp only [nm_]; rfl
     refine pure_ (i := 4) (N := some 19) (v := ?_) (a' := ?_) (ar 5 3) rfl rfl (any_of HT_.out (by kernel_rfl)) hh_ (Or.inl ⟨by rfl, ?_⟩) ?_ ?_; rotate_left; (intro w'; go_simp; with_reducible rfl); rotate_left; · simp only [nm_]; rfl
     refine take_ (i := 5) (N := some 20) (v := ?_) (a' := ?_) (ar 6 2) rfl rfl (take_ofW HT_.out HW_.out (by kernel_rfl)) hh_ (Or.inl ⟨by rfl, ?_⟩) hHeld ?_ ?_
     rotate_left; · rintro w' ⟨s0, s1, s2⟩; go_simp; with_reducible rfl
     rotate_left; · simp only [nm_]; rfl
     refine one_ (i := 6) (N := some 21) (ar 7 1) rfl rfl (one_of HT_.out (by kernel_rfl)) (by decide) (fun K hK => ?_)
     refine goes_ Try.func134 (by kernel_rfl) rfl #[.agg #[.int .i64 a0_0, .slice (some ad346) l0_1.length c0_1], .int .i64 (rd l0_1 x4_1)] (by rfl) rfl rfl (by (try simp only [List.map_toArray, List.map_cons, List.map_nil]); first | done | rfl | (simp only [List.length_drop, List.length_take]; rfl)) ?_
     with_reducible refine (spec_l01Above.calls k1 a0_0 _ _ l0_1 (rd l0_1 x4_1) t347 _ ?side1 ?side2 A7.out).mono ?_
     (case side1 => repeat (first | exact (Kd.C_below HR0_1.out HB.out) | (with_reducible refine Kd.C_alloc ?_ _) | (with_reducible refine Kd.C_drewN ?_ _) | (with_reducible refine Kd.C_drew ?_)))
     (case side2 => exact HC0_1.out)
     rintro e w10 ⟨v348, rfl, ho0, hb⟩
     refine ⟨_, rfl, ?_⟩
     have n0_ := Aside0.mk (Kd.R_below (by (with_reducible repeat (first | apply Kd.R_alloc | apply Kd.R_drewN | apply Kd.R_drew)); exact HO_3.out) hb)
     have n1_ := Aside0.mk (Kd.R_lower ho0 (below_size (by repeat (first | (with_reducible first | exact HB.out | apply below_alloc | apply pw_below_drewN | apply below_drew1 | refine below_set ?_ GE342.out) | exact HB.out))))
     have n2_ := Aside0.mk (blk_below (g := gb342) (o := .cells #[.int .i64 a0_0, .slice (some ad346) l0_1.length c0_1] 30 (0, 0)) (by (with_reducible repeat (first | refine blk_drewN ?_ _ | refine blk_drew ?_ | refine blk_alloc ?_ _)); exact BK342.out) hb)
     have n3_ := Aside0.mk (below_step (by repeat (first | (with_reducible first | exact HB.out | apply below_alloc | apply pw_below_drewN | apply below_drew1 | refine below_set ?_ GE342.out) | exact HB.out)) hb)
     clear HO_3
     clear BK342
     clear HB
     have HO_3 := n0_
     have HO349 := n1_
     have BK342 := n2_
     have HB := n3_
     clear n0_ n1_ n2_ n3_
     (try clear hb)
     (try clear hb2)
     (try clear hk)
     (try clear hi)
     (try clear ho0)
     refine hK.out _ _ ⟨(blk_cell BK342.out 0).trans rfl, (blk_cell BK342.out 1).trans rfl, ((HB.out.cell (World.block_lt_of_cell? w _ hw346_0)).trans hw346_0)⟩ (fun hHeld => ?_)
     clear hK K
     refine norm_ (a' := ?_) ?_ ?_
     rotate_left
     ·show Act.put _ (some 21) _ = _
      simp only [nm_]
      rfl
     refine pure_ (i := 7) (N := some 5) (v := ?_) (a' := ?_) (ar 8 0) rfl rfl (any_of HT_.out (by kernel_rfl)) hh_ (Or.inl ⟨by rfl, ?_⟩) ?_ ?_; rotate_left; (intro w'; go_simp; with_reducible rfl); rotate_left; · simp only [nm_]; rfl
     refine done_ (done_of HT_.out (by kernel_rfl)) ?_
     try go_wp2
     go_loopg [3, 6] k1 (fun kq v3 v6 w' => ∃ (x3_2 : List (S53)) (x6_2 : Int), v6 = .int .i64 x6_2 ∧ Aside0 (spec_l02All.l1 kq x3_2 x4_1 t347 x6_2 a0_0 l0_1 = some r) ∧ Aside0 (kq ≤ k1) ∧ Aside0 (Kd.R k53 53 w' w.heap.size (fun _ => True) v3 x3_2) ∧ Aside0 (Kd.R (Kd.int .i64) 2 w' w.heap.size (fun _ => True) v348 t347) ∧ Aside0 (w'.heap[gb342]? = some (.cells #[.int .i64 a0_0, (.slice (some ad346) l0_1.length c0_1)] 30 (0, 0))) ∧ Aside0 (Below w.heap.size w w'))
     case atStart => exact ⟨(x3_1), (0), (by first | rfl | (simp; done) | (simp [*]; done)), H', ⟨Nat.le_refl _⟩, ⟨by (with_reducible repeat (first | apply Kd.R_alloc | apply Kd.R_drewN | apply Kd.R_drew)); exact HO_3.out⟩, ⟨by (with_reducible repeat (first | apply Kd.R_alloc | apply Kd.R_drewN | apply Kd.R_drew)); exact HO349.out⟩, ⟨by (with_reducible repeat (first | refine blk_drewN ?_ _ | refine blk_drew ?_ | refine blk_alloc ?_ _)); exact BK342.out⟩, ⟨by repeat (first | (with_reducible first | exact HB.out | apply below_alloc | apply pw_below_drewN | apply below_drew1 | refine below_set ?_ GE342.out) | exact HB.out)⟩⟩
     case round =>
      clear H'
      try clear c1
      try clear p2
      try clear p3
      try clear q3
      try clear hx3
      try clear c5
      try clear c5b0
      try clear c6
      try clear c6b0
      try clear hcz8_0
      try clear hcz8_1
      try clear hfz8_0
      try clear hfz8_1
      try clear hx346_0
      try clear p2
      try clear p346
      try clear q346
      obtain ⟨x3_2, x6_2, rfl, HA, HK2, HO_3, HO_5, BK342, HB⟩ := hrel
      cases gk with
      | zero => exact absurd HA.out (by simp [spec_l02All.l1])
      | succ k2 =>
       have H := HA.out
       clear HA
       simp only [spec_l02All.l1] at H
       by_cases c11 : x6_2 < (t347.length : Int)
       ·rw [if_pos c11] at H
        have c11b0 : decide (x6_2 < (t347.length : Int)) = true := decide_eq_true c11
        clear c11
        by_cases c12 : 0 ≤ x4_1
        ·rw [if_pos c12] at H
         have c12b0 : decide (0 ≤ x4_1) = true := decide_eq_true c12
         clear c12
         by_cases c13 : x4_1 < (l0_1.length : Int)
         ·rw [if_pos c13] at H
          have c13b0 : decide (x4_1 < (l0_1.length : Int)) = true := decide_eq_true c13
          clear c13
          by_cases c14 : 0 ≤ x6_2
          ·rw [if_pos c14] at H
           have c14b0 : decide (0 ≤ x6_2) = true := decide_eq_true c14
           clear c14
           replace H := Option.bind_eq_some_iff.mp H
           obtain ⟨⟨t352, t355⟩, A150, H⟩ := H
           replace H : (spec_l02All.l1 k2 t352 x4_1 t347 (wrap64 (x6_2 + 1)) a0_0 l0_1) = some r := H
           have A15 := Aside0.mk A150
           clear A150
           have H' := Aside0.mk H
           clear H
           obtain ⟨Ao16, co16, eo16⟩ := Kd.R_slice HO_5.out
           subst eo16
           try go_wp2
           have n0_ := Aside0.mk (Kd.R_drew HO_3.out)
           have n1_ := Aside0.mk (Kd.R_drew HO_5.out)
           have n2_ := Aside0.mk (blk_drew BK342.out)
           have n3_ := Aside0.mk (below_drew1 HB.out)
           clear HO_3
           clear HO_5
           clear BK342
           clear HB
           have HO_3 := n0_
           have HO_5 := n1_
           have BK342 := n2_
           have HB := n3_
           clear n0_ n1_ n2_ n3_
           have p350 : 0 ≤ (x4_1 : Int) := of_decide_eq_true (by first | (with_reducible assumption) | assumption)
           have q350 : x4_1 < (l0_1.length : Int) := of_decide_eq_true (by first | (with_reducible assumption) | assumption)
           obtain ⟨ad350, e350, hx350_0⟩ := Kd.at_int HR0_1.out x4_1 p350 q350
           have hw350_0 := hx350_0
           obtain rfl : ad346 = ad350 := (by injection e350)
           replace hx350_0 := (HB.out.cell (World.block_lt_of_cell? w _ hx350_0)).trans hx350_0
           replace p350 := eq_true p350
           replace q350 := eq_true q350
           have p351 : 0 ≤ (x6_2 : Int) := of_decide_eq_true (by first | (with_reducible assumption) | assumption)
           have q351 : x6_2 < (t347.length : Int) := of_decide_eq_true (by first | (with_reducible assumption) | assumption)
           obtain ⟨ad351, e351, hx351_0⟩ := Kd.at_int (Kd.R_reads' HO_5.out).2.2 x6_2 p351 q351
           cases e351
           replace p351 := eq_true p351
           replace q351 := eq_true q351
           obtain ⟨Ao18, co18, eo18⟩ := Kd.R_slice HO_3.out
           (first | subst eo18 | (injection eo18 with f1_ f2_ f3_; have f4_ := f1_.symm; have f5_ := f3_.symm; clear f1_ f2_ f3_; subst f4_; subst f5_))
           refine start_ (n := 17) (S := fun w' => w'.cell? ⟨gb342, 0, none⟩ = some (.int .i64 a0_0) ∧ w'.cell? ⟨gb342, 1, none⟩ = some (.slice (some ad346) l0_1.length c0_1) ∧ w'.cell? (ad346.add (x4_1).toNat) = some (.int .i64 (rd l0_1 x4_1)) ∧ w'.cell? (ad351.add (x6_2).toNat) = some (.int .i64 (rd t347 x6_2))) (ds := []) (ar 0 17) (by kernel_rfl) rfl rfl ⟨(blk_cell BK342.out 0).trans rfl, (blk_cell BK342.out 1).trans rfl, ((HB.out.cell (World.block_lt_of_cell? w _ hw350_0)).trans hw350_0), hx351_0⟩ (fun hHeld => ?_); refine with_tabW spec_l02All.tab9 spec_l02All.bits9 (fun HT_ HW_ => ?_)
           generalize wr.drew = w17 at HO_3 HO_5 BK342 HB hx350_0 hx351_0 hHeld ⊢
           refine pure_ (i := 1) (N := some 30) (v := ?_) (a' := ?_) #[O,U,O,O,O,O,O,O,O,O,O,O,O,O,O,O,O] rfl rfl (any_of HT_.out (by kernel_rfl)) hh_ (Or.inl ⟨by rfl, ?_⟩) ?_ ?_; rotate_left; (intro w'; go_simp; with_reducible rfl); rotate_left; · simp only [nm_]; rfl
           refine pure_ (i := 2) (N := some 31) (v := ?_) (a' := ?_) #[O,U,U,O,O,O,O,O,O,O,O,O,O,O,O,O,O] rfl rfl (any_of HT_.out (by kernel_rfl)) hh_ (Or.inl ⟨by rfl, ?_⟩) ?_ ?_; rotate_left; (intro w'; go_simp; with_reducible rfl); rotate_left; · simp only [nm_]; rfl
           refine pure_ (i := 4) (N := some 33) (v := ?_) (a' := ?_) #[O,U,U,O,U,O,O,O,O,O,O,O,O,O,O,O,O] rfl rfl (any_of HT_.out (by kernel_rfl)) hh_ (Or.inl ⟨by rfl, ?_⟩) ?_ ?_; rotate_left; (intro w'; go_simp; with_reducible rfl); rotate_left; · simp only [nm_]; rfl
           refine pure_ (i := 7) (N := some 36) (v := ?_) (a' := ?_) #[O,U,U,O,U,O,O,U,O,O,O,O,O,O,O,O,O] rfl rfl (any_of HT_.out (by kernel_rfl)) hh_ (Or.inl ⟨by rfl, ?_⟩) ?_ ?_; rotate_left; (intro w'; go_simp; with_reducible rfl); rotate_left; · simp only [nm_]; rfl
           refine pure_ (i := 8) (N := some 37) (v := ?_) (a' := ?_) #[O,U,U,O,U,O,O,U,U,O,O,O,O,O,O,O,O] rfl rfl (any_of HT_.out (by kernel_rfl)) hh_ (Or.inl ⟨by rfl, ?_⟩) ?_ ?_; rotate_left; (intro w'; go_simp; with_reducible rfl); rotate_left; · simp only [nm_]; rfl
           refine pure_ (i := 9) (N := some 38) (v := ?_) (a' := ?_) #[O,U,U,O,U,O,O,U,U,U,O,O,O,O,O,O,O] rfl rfl (any_of HT_.out (by kernel_rfl)) hh_ (Or.inl ⟨by rfl, ?_⟩) ?_ ?_; rotate_left; (intro w'; go_simp; with_reducible rfl); rotate_left; · simp only [nm_]; rfl
           refine take_ (i := 0) (N := some 29) (v := ?_) (a' := ?_) #[U,U,U,O,U,O,O,U,U,U,O,O,O,O,O,O,O] rfl rfl (take_ofW HT_.out HW_.out (by kernel_rfl)) hh_ (Or.inl ⟨by rfl, ?_⟩) hHeld ?_ ?_
           rotate_left; · rintro w' ⟨s0, s1, s2, s3⟩; go_simp; with_reducible rfl
           rotate_left; · simp only [nm_]; rfl
           refine take_ (i := 3) (N := some 32) (v := ?_) (a' := ?_) #[U,U,U,U,U,O,O,U,U,U,O,O,O,O,O,O,O] rfl rfl (take_ofW HT_.out HW_.out (by kernel_rfl)) hh_ (Or.inl ⟨by rfl, ?_⟩) hHeld ?_ ?_
           rotate_left; · rintro w' ⟨s0, s1, s2, s3⟩; go_simp; with_reducible rfl
           rotate_left; · simp only [nm_]; rfl
           refine pure_ (i := 5) (N := some 34) (v := ?_) (a' := ?_) #[U,U,U,U,U,U,O,U,U,U,O,O,O,O,O,O,O] rfl rfl (any_of HT_.out (by kernel_rfl)) hh_ (Or.inl ⟨by rfl, ?_⟩) ?_ ?_; rotate_left; (intro w'; go_simp; with_reducible rfl); rotate_left; · simp only [nm_]; rfl
           refine take_ (i := 6) (N := some 35) (v := ?_) (a' := ?_) (ar 10 7) rfl rfl (take_ofW HT_.out HW_.out (by kernel_rfl)) hh_ (Or.inl ⟨by rfl, ?_⟩) hHeld ?_ ?_
           rotate_left; · rintro w' ⟨s0, s1, s2, s3⟩; go_simp; with_reducible rfl
           rotate_left; · simp only [nm_]; rfl
           refine take_ (i := 10) (N := some 39) (v := ?_) (a' := ?_) (ar 11 6) rfl rfl (take_ofW HT_.out HW_.out (by kernel_rfl)) hh_ (Or.inl ⟨by rfl, ?_⟩) hHeld ?_ ?_
           rotate_left; · rintro w' ⟨s0, s1, s2, s3⟩; go_simp; with_reducible rfl
           rotate_left; · simp only [nm_]; rfl
           refine pure_ (i := 11) (N := some 40) (v := ?_) (a' := ?_) (ar 12 5) rfl rfl (any_of HT_.out (by kernel_rfl)) hh_ (Or.inl ⟨by rfl, ?_⟩) ?_ ?_; rotate_left; (intro w'; go_simp; with_reducible rfl); rotate_left; · simp only [nm_]; rfl
           refine one_ (i := 12) (N := some 41) (ar 13 4) rfl rfl (one_of HT_.out (by kernel_rfl)) (by decide) (fun K hK => ?_)
           refine goes_ Try.func87 (by kernel_rfl) rfl #[.agg #[.int .i64 a0_0, .slice (some ad346) l0_1.length c0_1], .slice Ao18 x3_2.length co18, .agg #[.int .i64 (rd l0_1 x4_1), .int .i64 (rd t347 x6_2)]] (by rfl) rfl rfl (by (try simp only [List.map_toArray, List.map_cons, List.map_nil]); first | done | rfl | (simp only [List.length_drop, List.length_take]; rfl)) ?_
           with_reducible refine (spec_l02With.calls k2 a0_0 _ _ l0_1 _ _ x3_2 (rd l0_1 x4_1) (rd t347 x6_2) t352 t355 _ ?side1 ?side2 ?side3 ?side4 A15.out).mono ?_
           (case side1 => repeat (first | exact (Kd.C_below HR0_1.out HB.out) | (with_reducible refine Kd.C_alloc ?_ _) | (with_reducible refine Kd.C_drewN ?_ _) | (with_reducible refine Kd.C_drew ?_)))
           (case side2 => exact HC0_1.out)
           (case side3 => repeat (first | exact (Kd.R_reads' HO_3.out).2.2 | (with_reducible refine Kd.C_alloc ?_ _) | (with_reducible refine Kd.C_drewN ?_ _) | (with_reducible refine Kd.C_drew ?_)))
           (case side4 => exact (Kd.R_reads' HO_3.out).2.1)
           rintro e w19 ⟨v353, rfl, ho0, hb⟩
           have HS3_ := (hb.cell (World.block_lt_of_cell? _ _ (hHeld.2.2.2))).trans (hHeld.2.2.2)
           refine ⟨_, rfl, ?_⟩
           have n0_ := Aside0.mk (Kd.R_elder' (by (with_reducible repeat (first | apply Kd.R_alloc | apply Kd.R_drewN | apply Kd.R_drew)); exact HO_3.out) (Kd.R_base ho0) hb)
           have n1_ := Aside0.mk (Kd.R_below (by (with_reducible repeat (first | apply Kd.R_alloc | apply Kd.R_drewN | apply Kd.R_drew)); exact HO_5.out) hb)
           have n2_ := Aside0.mk (Kd.R_lower (Kd.R_new' ho0 (Kd.R_lt (by (with_reducible repeat (first | apply Kd.R_alloc | apply Kd.R_drewN | apply Kd.R_drew)); exact HO_3.out))) (below_size (by repeat (first | (with_reducible first | exact HB.out | apply below_alloc | apply pw_below_drewN | apply below_drew1 | refine below_set ?_ GE342.out) | exact HB.out))))
           have n3_ := Aside0.mk (blk_below (g := gb342) (o := .cells #[.int .i64 a0_0, .slice (some ad346) l0_1.length c0_1] 30 (0, 0)) (by (with_reducible repeat (first | refine blk_drewN ?_ _ | refine blk_drew ?_ | refine blk_alloc ?_ _)); exact BK342.out) hb)
           have n4_ := Aside0.mk (below_step (by repeat (first | (with_reducible first | exact HB.out | apply below_alloc | apply pw_below_drewN | apply below_drew1 | refine below_set ?_ GE342.out) | exact HB.out)) hb)
           clear HO_3
           clear HO_5
           clear BK342
           clear HB
           have HO_3 := n0_
           have HO_5 := n1_
           have HO354 := n2_
           have BK342 := n3_
           have HB := n4_
           clear n0_ n1_ n2_ n3_ n4_
           (try clear hb)
           (try clear hb2)
           (try clear hk)
           (try clear hi)
           (try clear ho0)
           refine hK.out _ _ ⟨(blk_cell BK342.out 0).trans rfl, (blk_cell BK342.out 1).trans rfl, ((HB.out.cell (World.block_lt_of_cell? w _ hw350_0)).trans hw350_0), HS3_⟩ (fun hHeld => ?_)
           clear hK K
           refine norm_ (a' := ?_) ?_ ?_
           rotate_left
           ·show Act.put _ (some 41) _ = _
            simp only [nm_]
            rfl
           refine pure_ (i := 13) (N := some 28) (v := ?_) (a' := ?_) (ar 14 3) rfl rfl (any_of HT_.out (by kernel_rfl)) hh_ (Or.inl ⟨by rfl, ?_⟩) ?_ ?_; rotate_left; (intro w'; go_simp; with_reducible rfl); rotate_left; · simp only [nm_]; rfl
           refine pure_ (i := 14) (N := some 42) (v := ?_) (a' := ?_) (ar 15 2) rfl rfl (any_of HT_.out (by kernel_rfl)) hh_ (Or.inl ⟨by rfl, ?_⟩) ?_ ?_; rotate_left; (intro w'; go_simp; with_reducible rfl); rotate_left; · simp only [nm_]; rfl
           refine pure_ (i := 15) (N := some 43) (v := ?_) (a' := ?_) (ar 16 1) rfl rfl (any_of HT_.out (by kernel_rfl)) hh_ (Or.inl ⟨by rfl, ?_⟩) ?_ ?_; rotate_left; (intro w'; go_simp; with_reducible rfl); rotate_left; · simp only [nm_]; rfl
           refine pure_ (i := 16) (N := some 3) (v := ?_) (a' := ?_) (ar 17 0) rfl rfl (any_of HT_.out (by kernel_rfl)) hh_ (Or.inl ⟨by rfl, ?_⟩) ?_ ?_; rotate_left; (intro w'; go_simp; with_reducible rfl); rotate_left; · simp only [nm_]; rfl
           refine done_ (done_of HT_.out (by kernel_rfl)) ?_
           try go_wp2
           go_roundg k2
           case measure => have := HK1.out; have := HK2.out; omega
           case rel => exact ⟨(t352), (wrap64 (x6_2 + 1)), (by first | rfl | (simp; done) | (simp [*]; done)), H', ⟨by have := HK1.out; have := HK2.out; omega⟩, ⟨by (with_reducible repeat (first | apply Kd.R_alloc | apply Kd.R_drewN | apply Kd.R_drew)); exact Kd.R_mono HO354.out (fun _ hk => trivial)⟩, ⟨by (with_reducible repeat (first | apply Kd.R_alloc | apply Kd.R_drewN | apply Kd.R_drew)); exact HO_5.out⟩, ⟨by (with_reducible repeat (first | refine blk_drewN ?_ _ | refine blk_drew ?_ | refine blk_alloc ?_ _)); exact BK342.out⟩, ⟨by repeat (first | (with_reducible first | exact HB.out | apply below_alloc | apply pw_below_drewN | apply below_drew1 | refine below_set ?_ GE342.out) | exact HB.out)⟩⟩
          ·rw [if_neg c14] at H
           exact absurd H (by simp)
         ·rw [if_neg c13] at H
          exact absurd H (by simp)
        ·rw [if_neg c12] at H
         exact absurd H (by simp)
       ·rw [if_neg c11] at H
        have c11b0 : decide (x6_2 < (t347.length : Int)) = false := decide_eq_false c11
        clear c11
        have H' := Aside0.mk H
        clear H
        obtain ⟨Ao20, co20, eo20⟩ := Kd.R_slice HO_5.out
        subst eo20
        go_wp2
        go_roundg k2
        case measure => have := HK1.out; have := HK2.out; omega
        case rel => exact ⟨(x3_2), (wrap64 (x4_1 + 1)), (by first | rfl | (simp; done) | (simp [*]; done)), H', ⟨by have := HK1.out; have := HK2.out; omega⟩, ⟨by (with_reducible repeat (first | apply Kd.R_alloc | apply Kd.R_drewN | apply Kd.R_drew)); exact HO_3.out⟩, ⟨by (with_reducible repeat (first | refine blk_drewN ?_ _ | refine blk_drew ?_ | refine blk_alloc ?_ _)); exact BK342.out⟩, ⟨by repeat (first | (with_reducible first | exact HB.out | apply below_alloc | apply pw_below_drewN | apply below_drew1 | refine below_set ?_ GE342.out) | exact HB.out)⟩⟩
    ·rw [if_neg c6] at H
     exact absurd H (by simp)
   ·rw [if_neg c5] at H
    have c5b0 : decide (x4_1 < (l0_1.length : Int)) = false := decide_eq_false c5
    clear c5
    obtain rfl := Option.some.inj H
    have hcz21_0 : wr.cell? ⟨gb342, 0, none⟩ = some (.int .i64 a0_0) := (blk_cell BK342.out 0).trans rfl
    have hcz21_1 : wr.cell? ⟨gb342, 1, none⟩ = some (.slice A0_1 l0_1.length c0_1) := (blk_cell BK342.out 1).trans rfl
    have hfz21_0 := blk_frozen BK342.out 0
    have hfz21_1 := blk_frozen BK342.out 1
    go_wp2
    go_ret
    exact ⟨_, by first | rfl | (simp [errW_none, errW_some] <;> rfl) | (simp [*, errW_none, errW_some] <;> rfl), by (with_reducible repeat (first | apply Kd.R_alloc | apply Kd.R_drewN | apply Kd.R_drew)); exact HO_3.out, by repeat (first | (with_reducible first | exact HB.out | apply below_alloc | apply pw_below_drewN | apply below_drew1 | refine below_set ?_ GE342.out) | exact HB.out)⟩

end Go.Proofs.Ytniikppojffiaaa.Q
end

section
/- The reference's pairing with a pair more, and all pairs of a complex, plain. -/
namespace Go.Proofs.Ytniikppojffiaaa.K
open Go.RowKit Go.Shelf Go.Proofs.Ytniikppojffiaaa.Q Go.Proofs.YtniikppojffiaaaW.PrintWords Go.Proofs.YtniikppojffiaaaW.PrintLast Go.Proofs.YtniikppojffiaaaW.PrintMore
set_option linter.unusedVariables false
set_option linter.unusedSimpArgs false

theorem specWith_l0 {n : Int} {l : List Int} (hC : isC n l = true) (B : Nat) (q : List PairT) (hq : q.length ≤ 4000) (ha : AscQ q) (p : PairT) (hB : pgK l (insQ p q) ≤ B) : ∀ (j k : Nat), j ≤ q.length → (∀ t (ht : t < q.length), j ≤ t → ltP p q[t]) → B + j < k →
  spec_l02With.l0 k q (j : Int) n l p.f0 p.f1 = some (insQ p q, pingB l (insQ p q)) := by
 have fin : ∀ (j k : Nat), j ≤ q.length → (∀ t (ht : t < q.length), j ≤ t → ltP p q[t]) → (∀ (h0 : 0 < j) (hj : j - 1 < q.length), ¬ ltP p q[j - 1]) → B ≤ k →
   (([] ++ q.take (j : Int).toNat) ++ (([p] : List PairT) ++ q.drop (j : Int).toNat) : List PairT) = insQ p q ∧ spec_l02Is.f k n l (insQ p q) = some (pingB l (insQ p q)) := by
  intro j k hj h1 h2 hk
  have hl := insQ_len p q
  refine ⟨?_, specIs02_is hC (insQ p q) (by omega) k (by omega)⟩
  rw [Int.toNat_natCast, List.nil_append]
  exact insQ_end ha p j hj h1 (fun h0 => h2 h0 (by omega))
 intro j
 induction j with
 | zero =>
  intro k hj h1 hk
  obtain ⟨k, rfl⟩ : ∃ m, k = m + 1 := ⟨k - 1, by omega⟩
  obtain ⟨e1, e2⟩ := fin 0 k hj h1 (fun h => absurd h (by omega)) (by omega)
  simp only [spec_l02With.l0]
  rw [if_neg (by omega)]
  simp only [Option.bind_some]
  rw [if_pos (by omega), if_pos (by omega), if_pos (by simp; omega), if_pos (by simp), if_pos (by simp; omega), e1, e2]
  rfl
 | succ j ih =>
  intro k hj h1 hk
  obtain ⟨k, rfl⟩ : ∃ m, k = m + 1 := ⟨k - 1, by omega⟩
  have hjl : j < q.length := by omega
  have hw : Aside0 (wrap64 (((j + 1 : Nat) : Int) - 1) = (j : Int)) := ⟨by rw [w64 _ (by omega) (by omega)]; omega⟩
  simp only [spec_l02With.l0]
  rw [if_pos (by omega), hw.out, if_pos (by omega), if_pos (by omega), rdP q j hjl, specLess_is]
  simp only [Option.bind_some]
  by_cases hlt : ltP p q[j]
  ·rw [decide_eq_true hlt, if_pos rfl]
   refine ih k (by omega) (fun t ht hjt => ?_) (by omega)
   rcases Nat.eq_or_lt_of_le hjt with e | e
   ·subst e; exact hlt
   ·exact h1 t ht e
  ·obtain ⟨e1, e2⟩ := fin (j + 1) k hj h1 (fun _ _ => hlt) (by omega)
   rw [decide_eq_false hlt, if_neg (by simp), if_pos (by omega), if_pos (by omega), if_pos (by simp; omega), if_pos (by simp; omega), if_pos (by simp; omega), e1, e2]
   rfl
theorem specWith_is {n : Int} {l : List Int} (hC : isC n l = true) {q : List PairT} (hp : pingB l q = true) (p : PairT) (k : Nat) (hk : 17001000 ≤ k) : spec_l02With.f k n l q p.f0 p.f1 = some (insQ p q, pingB l (insQ p q)) := by
 have hl := (ping_good hC hp).len
 have hi := insQ_len p q
 unfold spec_l02With.f
 exact specWith_l0 hC 17000000 q (by omega) (ping_ascQ hp) p (pgK_le (isC_faces hC).2.2.2 (by omega)) q.length k (Nat.le_refl _) (fun t ht h => absurd ht (by omega)) (by omega)
theorem specAll_l1 {n : Int} {l : List Int} (hC : isC n l = true) (B : Nat) (hB : ∀ q : List PairT, q.length ≤ 4100 → pgK l q ≤ B) (i : Nat) (hi : i < l.length) (ab : List Int) (hab : ab.Pairwise (· < ·)) (ha63 : ab.length ≤ 63) : ∀ (e j k : Nat) (out : List PairT), ab.length - j = e → j ≤ ab.length → B + e + 100 < k → out.length + e ≤ 4099 →
  (∀ p ∈ out, p.f0 < l[i] ∨ p.f0 = l[i] ∧ ∀ b ∈ ab.drop j, p.f1 < b) →
  spec_l02All.l1 k out (i : Int) ab (j : Int) n l = spec_l02All.l0 (k - (e + 1)) (out ++ (ab.drop j).map fun b => ⟨l[i], b⟩) ((i + 1 : Nat) : Int) n l := by
 obtain ⟨hn, hs, hr, h63⟩ := isC_faces hC
 have HWi : Aside0 (wrap64 ((i : Int) + 1) = ((i + 1 : Nat) : Int)) := ⟨by rw [w64 _ (by omega) (by omega)]; omega⟩
 intro e
 induction e with
 | zero =>
  intro j k out he hj hk ho hout
  obtain ⟨k, rfl⟩ : ∃ m, k = m + 1 := ⟨k - 1, by omega⟩
  obtain rfl : j = ab.length := by omega
  simp only [spec_l02All.l1]
  rw [if_neg (by omega), HWi.out, List.drop_eq_nil_of_le (by omega)]
  simp
 | succ e ih =>
  intro j k out he hj hk ho hout
  obtain ⟨k, rfl⟩ : ∃ m, k = m + 1 := ⟨k - 1, by omega⟩
  have hjl : j < ab.length := by omega
  have hkk : k + 1 - (e + 1 + 1) = k - (e + 1) := by omega
  have hd := List.drop_eq_getElem_cons hjl
  have HWj : Aside0 (wrap64 ((j : Int) + 1) = ((j + 1 : Nat) : Int)) := ⟨by rw [w64 _ (by omega) (by omega)]; omega⟩
  simp only [spec_l02All.l1]
  rw [if_pos (by omega), if_pos (by omega), if_pos (by omega), if_pos (by omega), rd_nat ab j hjl, rd_nat l i hi, HWj.out]
  rw [hd] at hout
  rw [specWith_last hC B hB out (by omega) l[i] ab[j] (fun p hp => cmp2_ge (by
    rcases hout p hp with h | ⟨h, h2⟩
    ·exact Or.inl h
    ·exact Or.inr ⟨h, h2 _ List.mem_cons_self⟩)) k (by omega)]
  simp only [Option.bind_some]
  rw [ih (j + 1) k (out ++ [(⟨l[i], ab[j]⟩ : PairT)]) (by omega) (by omega) (by omega) (by simp; omega) (fun p hp => by
    rcases List.mem_append.1 hp with hp | hp
    ·rcases hout p hp with h | ⟨h, h2⟩
     ·exact Or.inl h
     ·exact Or.inr ⟨h, fun b hb => h2 b (List.mem_cons_of_mem _ hb)⟩
    ·rw [List.mem_singleton.1 hp]
     refine Or.inr ⟨rfl, fun b hb => ?_⟩
     have := hab.sublist (List.drop_sublist j ab)
     rw [hd, List.pairwise_cons] at this
     exact this.1 b hb), hkk, hd]
  simp only [List.map_cons, List.append_assoc, List.singleton_append]
theorem specAll_l0 {n : Int} {l : List Int} (hC : isC n l = true) (B : Nat) (hB : ∀ q : List PairT, q.length ≤ 4100 → pgK l q ≤ B) : ∀ (e i k : Nat) (out : List PairT), l.length - i = e → i ≤ l.length → B + e * 80 + 300 < k → out.length ≤ i * 63 → (∀ p ∈ out, ∀ a ∈ l.drop i, p.f0 < a) →
  spec_l02All.l0 k out (i : Int) n l = some (out ++ (l.drop i).flatMap fun a => (l.filter fun b => pairK l ⟨a, b⟩).map fun b => ⟨a, b⟩) := by
 obtain ⟨hn, hs, hr, h63⟩ := isC_faces hC
 intro e
 induction e with
 | zero =>
  intro i k out he hi hk ho hout
  obtain ⟨k, rfl⟩ : ∃ m, k = m + 1 := ⟨k - 1, by omega⟩
  obtain rfl : i = l.length := by omega
  simp only [spec_l02All.l0]
  rw [if_neg (by omega), List.drop_eq_nil_of_le (by omega)]
  simp
 | succ e ih =>
  intro i k out he hi hk ho hout
  obtain ⟨k, rfl⟩ : ∃ m, k = m + 1 := ⟨k - 1, by omega⟩
  have hil : i < l.length := by omega
  have hrx := hr _ (List.getElem_mem hil)
  have hd := List.drop_eq_getElem_cons hil
  have hab : aboveL l l[i] = l.filter fun b => pairK l ⟨l[i], b⟩ := above_eq hC (List.getElem_mem hil)
  have hfl : (l.filter fun b => pairK l ⟨l[i], b⟩).length ≤ 63 := Nat.le_trans (List.length_filter_le _ _) h63
  have hfp : (l.filter fun b => pairK l ⟨l[i], b⟩).Pairwise (· < ·) := hs.filter _
  simp only [spec_l02All.l0]
  rw [if_pos (by omega), if_pos (by omega), rd_nat l i hil, specAbove_is n l[i] (by omega) l h63 (fun x hx => by have := hr x hx; omega) k (by omega), hab]
  simp only [Option.bind_some]
  have h1 := specAll_l1 hC B hB i hil (l.filter fun b => pairK l ⟨l[i], b⟩) hfp hfl (l.filter fun b => pairK l ⟨l[i], b⟩).length 0 k out (by omega) (by omega) (by omega) (by omega) (fun p hp => Or.inl (hout p hp _ (by rw [hd]; exact List.mem_cons_self)))
  rw [show ((0 : Nat) : Int) = 0 from rfl, List.drop_zero] at h1
  rw [h1, ih (i + 1) _ _ (by omega) (by omega) (by omega) (by rw [List.length_append, List.length_map]; omega) (fun p hp a ha => by
   have hlt : l[i] < a := by
    have := hs.sublist (List.drop_sublist i l)
    rw [hd, List.pairwise_cons] at this
    exact this.1 a ha
   rcases List.mem_append.1 hp with hp | hp
   ·exact hout p hp a (by rw [hd]; exact List.mem_cons_of_mem _ ha)
   ·obtain ⟨b, _, rfl⟩ := List.mem_map.1 hp
    exact hlt), hd, List.flatMap_cons, List.append_assoc]
theorem specPairsAll_is {n : Int} {l : List Int} (hC : isC n l = true) (k : Nat) (hk : 17010000 ≤ k) : spec_l02All.f k n l = some (pairsL l) := by
 have h63 := (isC_faces hC).2.2.2
 unfold spec_l02All.f
 have := specAll_l0 hC 17000000 (fun q hq => pgK_le h63 hq) l.length 0 k [] (by omega) (by omega) (by omega) (by simp) (fun p hp => by cases hp)
 rw [show ((0 : Nat) : Int) = 0 from rfl, List.drop_zero, List.nil_append] at this
 rw [this]
 rfl

end Go.Proofs.Ytniikppojffiaaa.K
end
