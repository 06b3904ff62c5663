/- Words of this seat's proofs: function values, lists of numbers as slices. -/
import Derived.Test.YtoeapnempdgagaaProg
import Derived.Below
import Derived.Deep.Draws
import Derived.Deep.AppendLies
import Derived.Maps.AppendAt
import Derived.OwnWalk
import Derived.Laws.BytesArg
import Derived.Laws.MakeOwn
import Derived.Laws.OwnMore
import Derived.Deep.OwnRows
import Derived.Tactics
import Derived.Lib.ConvBytes
import Derived.Laws.Slices
import Derived.WalkKit
import Derived.KernelRfl
import Derived.RowKit3
import Derived.Deep.LoopGhost
import Derived.Deep.QuietTactic
import Derived.BigQuiet
import Derived.WideLaws
import Derived.Deep.DeepCutAuto
import Derived.Deep.CutBlock
import Derived.Deep.RegionHeld3
import Derived.Laws.Rows
import Derived.Lib.AppendStr
import Derived.ArgAppend
import Derived.Laws.IdiomCopy
import Derived.OrdersHeld
import Derived.Laws.BitsLemmas
import Derived.RowKit
import Derived.Shelf.Abstract
import Derived.Test.YtoeapnempdgagaaWWords
import Derived.Test.YtoeapnempdgagaaWLast
import Derived.Test.YtoeapnempdgagaaWMore
namespace Go.Proofs.Ytoeapnempdgagaa.K
open Go.RowKit Go.Shelf Go.Proofs.YtoeapnempdgagaaW.PrintWords Go.Proofs.YtoeapnempdgagaaW.PrintLast Go.Proofs.YtoeapnempdgagaaW.PrintMore

abbrev I (x : Int) : Value := .int .i64 x
abbrev Ki : Kd Int := Kd.int .i64
/-- What was there is there still; from the heap's size of w on anything may have been laid. -/
abbrev Grew (w w' : World) : Prop := Below w.heap.size w w'
theorem Grew.trans {a b c : World} (h : Grew a b) (k : Grew b c) : Grew a c := Below.trans h (k.mono h.size)
theorem Grew.refl (a : World) : Grew a a := Below.refl _ _

/-- The function value (g, first, caps): it enters g. -/
abbrev EntersG (g : Nat) : Prop := ∀ (args : Array Value) (W : World), (callFunc g args).run Try.prog W = .ok (.enter g args) W
/-- Called at these arguments in whatever later world, it answers as told, and keeps what was there. -/
def Answers (w : World) (g : Nat) (args : Array Value) (r : Value) : Prop :=
  ∀ W, Grew w W → Calls Try.prog g args W fun e w' => e = .returned r ∧ Grew W w'
theorem Answers.later {w w1 : World} {g : Nat} {args : Array Value} {r : Value} (h : Answers w g args r) (hb : Grew w w1) : Answers w1 g args r :=
  fun W hW => h W (hb.trans hW)

end Go.Proofs.Ytoeapnempdgagaa.K
