/- The vertices of a face: what the walk's function comes to, and its contract. -/
import Derived.Test.YtoeapnempdgagaaKit
import Derived.Test.YtoeapnempdgagaaQx20
namespace Go.Proofs.Ytoeapnempdgagaa.K
open Go.RowKit Go.Shelf Go.Proofs.Ytoeapnempdgagaa.Q Go.Proofs.YtoeapnempdgagaaW.PrintWords Go.Proofs.YtoeapnempdgagaaW.PrintLast Go.Proofs.YtoeapnempdgagaaW.PrintMore
set_option linter.unusedVariables false
set_option linter.unusedSimpArgs false

def vbit (f v : Int) : Bool := decide (Go.bits .and .i64 (shr .i64 f v) 1 = 1)
def verts (f : Int) : List Int := [0, 1, 2, 3, 4, 5].filter (vbit f)

theorem verts_step (k : Nat) (f : Int) (acc : List Int) (i : Int) (h0 : 0 ≤ i) (h6 : i < 6) (ha : acc.length < 100) :
    impl_vertices.l0 (k + 1) f acc i = impl_vertices.l0 k f (acc ++ [i].filter (vbit f)) (i + 1) := by
  have hw : wrap64 (i + 1) = i + 1 := by unfold wrap64; omega
  simp only [impl_vertices.l0]
  rw [if_pos h6, if_pos h0, hw]
  by_cases hb : Go.bits .and .i64 (shr .i64 f i) 1 = 1
  · rw [if_pos hb, if_pos (by omega)]
    simp [vbit, hb]
  · rw [if_neg hb]
    simp [vbit, hb]

theorem verts_is (f : Int) : impl_vertices.f 7 f = some (verts f) := by
  unfold impl_vertices.f
  have hl : ∀ (i : Int), ([i].filter (vbit f)).length ≤ 1 := fun i => by have := List.length_filter_le (vbit f) [i]; simpa using this
  rw [verts_step _ _ _ _ (by omega) (by omega) (by simp), verts_step _ _ _ _ (by omega) (by omega) (by have := hl 0; simp; omega),
    verts_step _ _ _ _ (by omega) (by omega) (by have := hl 0; have := hl 1; simp; omega),
    verts_step _ _ _ _ (by omega) (by omega) (by have := hl 0; have := hl 1; have := hl 2; simp; omega),
    verts_step _ _ _ _ (by omega) (by omega) (by have := hl 0; have := hl 1; have := hl 2; have := hl 3; simp; omega),
    verts_step _ _ _ _ (by omega) (by omega) (by have := hl 0; have := hl 1; have := hl 2; have := hl 3; have := hl 4; simp; omega)]
  simp only [impl_vertices.l0]
  rw [if_neg (by omega)]
  congr 1
  unfold verts
  rw [show ([0, 1, 2, 3, 4, 5] : List Int) = [0] ++ [1] ++ [2] ++ [3] ++ [4] ++ [5] from rfl]
  simp only [List.filter_append, List.nil_append]
  rfl

theorem verts_range (f v : Int) (h : v ∈ verts f) : 0 ≤ v ∧ v < 6 := by
  unfold verts at h
  have := (List.mem_filter.1 h).1
  simp at this
  omega

theorem vertices_calls (f : Int) (w : World) :
    Calls Try.prog 92 #[I f] w fun e w' => ∃ v, e = .returned v ∧ Ki.R 2 w' w.heap.size (fun _ => True) v (verts f) ∧ Grew w w' :=
  impl_vertices.calls 7 f (verts f) w (verts_is f)

end Go.Proofs.Ytoeapnempdgagaa.K
