/- slices.Backward over numbers: the iterator's contract. -/
import Derived.Test.YtoeapnempdgagaaKit
import Derived.RangeFuncBox
import Derived.RangeFuncLeaves
import Derived.OwnWalkIn
import Derived.TacticsInMore
import Derived.LoopNIn
import Derived.LoopIn
namespace Go.Proofs.Ytoeapnempdgagaa.K
open Go.RowKit Go.Shelf Go.Proofs.YtoeapnempdgagaaW.PrintWords Go.Proofs.YtoeapnempdgagaaW.PrintLast Go.Proofs.YtoeapnempdgagaaW.PrintMore
set_option linter.unusedVariables false
set_option linter.unusedSimpArgs false
attribute [local go_sem] Oper.semAt_some

/-- A number that a vertex can be. -/
abbrev Vx : Type := { v : Int // 0 ≤ v ∧ v < 64 }
/-- What comes: the last element first, with its index. -/
def bwd (zs : List Vx) : List (Nat × Vx) := (zs.zipIdx.map fun p => (p.2, p.1)).reverse
theorem bwd_length (zs : List Vx) : (bwd zs).length = zs.length := by simp [bwd]
theorem bwd_get (zs : List Vx) (m : Nat) (h : m < zs.length) : (bwd zs)[m]'(by rw [bwd_length]; exact h) = (zs.length - 1 - m, zs[zs.length - 1 - m]) := by
  simp [bwd, List.getElem_reverse]
theorem bwd_snd (zs : List Vx) : (bwd zs).map (·.2) = zs.reverse := by
  simp only [bwd, List.map_reverse, List.map_map]
  congr 1
  apply List.ext_getElem
  · simp
  · intro i h1 h2; simp

/-- What a round keeps: the blocks below n, but for B. -/
def KeptBut (B n : Nat) (X Y : World) : Prop := ∀ k, k < n → k ≠ B → Y.heap[k]? = X.heap[k]?
theorem KeptBut.refl (B n : Nat) (X : World) : KeptBut B n X X := fun _ _ _ => rfl
theorem KeptBut.t {B n : Nat} {X Y Z : World} (h : KeptBut B n X Y) (k : KeptBut B n Y Z) : KeptBut B n X Z := fun j h1 h2 => (k j h1 h2).trans (h j h1 h2)

set_option maxRecDepth 100000 in
set_option maxHeartbeats 2000000 in
theorem Backward1_in (F : Fence) (n : Nat) (hF : F.fn 104) (hro : F.round = none) (hn : 1 ≤ n) (l Bs B n₀ b cap : Nat) (zs : List Vx) (hreach : zs.length ≤ 64) (hb : b < n₀) (hbB : b ≠ B) (hs : Bs < n₀) (hsB : Bs ≠ B)
    (J Jx : List (Nat × Vx) → World → Prop)
    (hY : ∀ pre x W, J pre W → pre.length < zs.length → YieldAt F (n - 1) Try.prog l #[.int .i64 (x.1 : Int), .int .i64 x.2.val] W fun e W' =>
      (e = .returned (.bool true) ∧ J (pre ++ [x]) W' ∧ KeptBut B n₀ W W') ∨ (e = .returned (.bool false) ∧ Jx (pre ++ [x]) W'))
    (W : World) (hBs : W.cell? ⟨Bs, 0, none⟩ = some (.slice (some ⟨b, 0, none⟩) zs.length cap)) (hc : ∀ j (h : j < zs.length), W.cell? ⟨b, j, none⟩ = some (I zs[j].val)) (h0 : J [] W) :
    CallsIn F n Try.prog 104 #[.func (.yield l) #[] #[], .pointer (some ⟨Bs, 0, none⟩)] W fun e W' => (∃ v, e = .returned v) ∧
      ((∃ ys, ys = bwd zs ∧ J ys W') ∨ (∃ pre, pre <+: bwd zs ∧ Jx pre W')) := by
  refine callsIn_of_wp Try.func104 rfl hF ?_ hro
  simp only [Try.ntmps104, List.size_toArray, List.length_cons, List.length_nil, Nat.reduceAdd, Nat.reduceSub, Array.replicate_succ, Array.replicate_zero, List.push_toArray, List.append_toArray, List.nil_append, List.cons_append]
  gi_wp2
  gi_loopw [3] (fun i wr => ∃ k : Nat, k ≤ zs.length ∧ i = .int .i64 ((zs.length : Int) - 1 - k) ∧ J ((bwd zs).take k) wr ∧ KeptBut B n₀ W wr)
    (fun i _ => (intOf i + 1).toNat)
  case atStart => exact ⟨0, Nat.zero_le _, by simp, by simpa using h0, KeptBut.refl _ _ _⟩
  case round =>
    obtain ⟨k, hk, rfl, hJs, hnx⟩ := hrel
    by_cases hlt : k < zs.length
    · obtain ⟨r, hr⟩ : ∃ r : Nat, r = zs.length - 1 - k := ⟨_, rfl⟩
      have hrl : r < zs.length := by omega
      have er : ((zs.length : Int) - 1 - k) = (r : Int) := by omega
      have hcx : wr.cell? ⟨b, r, none⟩ = some (I zs[r].val) := (World.cell?_of_block (w := W) (a := ⟨b, r, none⟩) (hnx b hb hbB)).trans (hc r hrl)
      have hbx : wr.cell? ⟨Bs, 0, none⟩ = some (.slice (some ⟨b, 0, none⟩) zs.length cap) := (World.cell?_of_block (w := W) (a := ⟨Bs, 0, none⟩) (hnx Bs hs hsB)).trans hBs
      have HE := Aside0.mk er
      obtain ⟨fn, tmps, assign, body, hy, hR⟩ := hY _ (r, zs[r]) wr hJs (by simp; omega)
      dsimp only at hy
      rw [er]
      clear er
      have HR := Aside0.mk hr
      clear hr
      generalize hz : zs[r] = z at hcx hy hR
      have HZ := Aside0.mk hz
      clear hz
      clear hc hBs
      have HT := Aside0.mk (show (bwd zs).take (k + 1) = (bwd zs).take k ++ [(r, z)] by
        rw [List.take_succ_eq_append_getElem (by rw [bwd_length]; exact hlt), bwd_get zs k hlt]
        have e1 := HR.out
        have e2 := HZ.out
        subst e1
        rw [e2])
      gi_wp2
      refine hR.mono ?_
      rintro e W3 (⟨rfl, hJ3, hk3⟩ | ⟨rfl, hJx3⟩)
      · gi_wp2
        go_roundw
        case rel => exact ⟨k + 1, by omega, by have := HR.out; congr 1; omega, by rw [HT.out]; exact hJ3, hnx.t hk3⟩
        case measure => simp [intOf]
      · gi_wp2
        refine bodyPost_ret (results_none rfl _ _ _) rfl ?_
        exact ⟨⟨_, rfl⟩, .inr ⟨_, by rw [← HT.out]; exact List.take_prefix _ _, hJx3⟩⟩
    · obtain rfl : k = zs.length := by omega
      rw [List.take_of_length_le (by rw [bwd_length]; exact Nat.le_refl _)] at hJs
      gi_wp2
      go_end0
      exact ⟨⟨_, rfl⟩, .inl ⟨_, rfl, hJs⟩⟩

set_option maxRecDepth 100000 in
set_option maxHeartbeats 1000000 in
theorem Backward1_nil_in (F : Fence) (n : Nat) (hF : F.fn 104) (hro : F.round = none) (l Bs : Nat) (J : List (Nat × Vx) → World → Prop)
    (W : World) (hBs : W.cell? ⟨Bs, 0, none⟩ = some (.slice none 0 0)) (h0 : J [] W) :
    CallsIn F n Try.prog 104 #[.func (.yield l) #[] #[], .pointer (some ⟨Bs, 0, none⟩)] W fun e W' => (∃ v, e = .returned v) ∧ J [] W' := by
  refine callsIn_of_wp Try.func104 rfl hF ?_ hro
  simp only [Try.ntmps104, List.size_toArray, List.length_cons, List.length_nil, Nat.reduceAdd, Nat.reduceSub, Array.replicate_succ, Array.replicate_zero, List.push_toArray, List.append_toArray, List.nil_append, List.cons_append]
  gi_wp2
  gi_loopw [3] (fun i wr => i = .int .i64 (-1) ∧ J [] wr) (fun _ _ => 0)
  case atStart => exact ⟨rfl, h0⟩
  case round =>
    obtain ⟨rfl, hJs⟩ := hrel
    gi_wp2
    go_end0
    exact ⟨⟨_, rfl⟩, hJs⟩

set_option maxHeartbeats 1000000 in
theorem Backward_in (F : Fence) (n : Nat) (hF : F.fn 91) (hro : F.round = none) (a : Option Addr) (len cap : Nat) (w : World) :
    CallsIn F n Try.prog 91 #[.slice a len cap] w fun e w' => e = .returned (.func (.func 104) #[] #[.pointer (some ⟨w.heap.size, 0, none⟩)]) ∧ w' = w.alloc (.cells #[.slice a len cap] 23) := by
  refine callsIn_of_wp Try.func91 rfl hF ?_ hro
  simp only [Try.ntmps91, List.size_toArray, List.length_cons, List.length_nil, Nat.reduceAdd, Nat.reduceSub, Array.replicate_succ, Array.replicate_zero, List.push_toArray, List.append_toArray, List.nil_append, List.cons_append]
  gi_wp2
  go_ret
  exact ⟨rfl, rfl⟩

/-- The slice value sv holds the vertices zs, in a block below n that isn't B; or it is nil and there are none. -/
def Vs (B n : Nat) (W : World) (sv : Value) (zs : List Vx) : Prop :=
  (sv = .slice none 0 0 ∧ zs = []) ∨ ∃ b cap, sv = .slice (some ⟨b, 0, none⟩) zs.length cap ∧ b < n ∧ b ≠ B ∧ ∀ j (h : j < zs.length), W.cell? ⟨b, j, none⟩ = some (I zs[j].val)

theorem Backward_stops (F : Fence) (n : Nat) (hF : F.fn 104) (hro : F.round = none) (hn : 1 ≤ n) (Bs B n₀ : Nat) (sv : Value) (zs : List Vx) (hreach : zs.length ≤ 64) (w : World) (hBs : Bs < n₀) (hBB : Bs ≠ B) (hn₀ : n₀ ≤ w.heap.size)
    (hc : w.cell? ⟨Bs, 0, none⟩ = some sv) (hI : Vs B n₀ w sv zs) :
    SeqStopsK F n Try.prog 104 #[.pointer (some ⟨Bs, 0, none⟩)] (fun x : Nat × Vx => #[Value.int .i64 (x.1 : Int), Value.int .i64 x.2.val]) (KeptBut B n₀) (fun ys => ys = bwd zs) (fun pre => pre <+: bwd zs) zs.length w := fun l J Jx W hW _ _ hY h0 => by
  have hc' := (hW.cell (p := ⟨Bs, 0, none⟩) (by show Bs < _; omega)).trans hc
  rcases hI with ⟨rfl, rfl⟩ | ⟨b, cap, rfl, hb, hbB, hcs⟩
  · exact (Backward1_nil_in F n hF hro l Bs J W hc' h0).mono fun e W' ⟨he, hj⟩ => ⟨he, .inl ⟨_, rfl, hj⟩⟩
  · exact Backward1_in F n hF hro hn l Bs B n₀ b cap zs hreach hb hbB hBs hBB J Jx hY W hc' (fun j h => (hW.cell (p := ⟨b, j, none⟩) (by show b < _; omega)).trans (hcs j h)) h0

end Go.Proofs.Ytoeapnempdgagaa.K
