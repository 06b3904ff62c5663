/- The row of the law FnExactRenumberComplex: for every input the law answers true, and the arguments read as before. No conditions. -/
import Derived.Test.YtjoggjgmpoaaiaaJRen2
import Derived.Test.YtjoggjgmpoaaiaaChecked
import Derived.Shelf.SortM.SortNone
import Derived.Shelf.SortM.Plain
import Derived.Below
import Derived.Deep.Draws
import Derived.Deep.AppendLies
import Derived.Maps.AppendAt
import Derived.OwnWalk
import Derived.Laws.BytesArg
import Derived.Laws.MakeOwn
import Derived.Laws.OwnMore
import Derived.Deep.OwnRows
import Derived.Tactics
import Derived.Lib.ConvBytes
import Derived.Laws.Slices
import Derived.WalkKit
import Derived.KernelRfl
import Derived.RowKit3
import Derived.Deep.LoopGhost
import Derived.Deep.QuietTactic
import Derived.BigQuiet
import Derived.WideLaws
import Derived.Deep.DeepCutAuto
import Derived.Deep.CutBlock
import Derived.Deep.RegionHeld3
import Derived.Laws.Rows
import Derived.Lib.AppendStr
import Derived.ArgAppend
import Derived.Laws.IdiomCopy
import Derived.RowKit
import Derived.OrdersHeld
import Derived.Laws.BitsLemmas
import Derived.Test.YtjoggjgmpoaaiaaProg
import Derived.Shelf.Abstract
import Derived.Lib.SortBridge
import Derived.Lib.RowBridge
import Derived.Lib.Small
import Derived.Laws.StructEq
import Derived.RangeFuncBox
import Derived.RangeFuncLeaves
import Derived.OwnWalkIn
import Derived.TacticsInMore
import Derived.LoopNIn
import Derived.LoopIn
import Derived.JoinedOf
import Derived.Test.YtjoggjgmpoaaiaaRows
import Derived.ProofKit
import Derived.OpenShut
import Derived.ShutString
import Derived.ChangeOld
import Derived.SizedLaws
import Derived.Lib.SmallJoins
section
/- The shelf's contract of a function of the library, laid at this program. -/
namespace Go.Proofs.Ytjoggjgmpoaaiaa.K
open Go.Shelf
def SortI_ren : Go.Shelf.Ren := {
 f := fun x =>
  match x with
  | 5 => 31
  | 8 => 57
  | 7 => 56
  | 19 => 85
  | 20 => 86
  | 10 => 76
  | 11 => 77
  | 12 => 78
  | 13 => 79
  | 14 => 80
  | 15 => 81
  | 16 => 82
  | 17 => 83
  | 18 => 84
  | 30 => 97
  | 31 => 98
  | 32 => 99
  | 33 => 100
  | 34 => 101
  | 35 => 102
  | 40 => 108
  | n => n,
 t := fun x =>
  match x with
  | 23 => 22
  | 25 => 2
  | 3 => 3
  | 32 => 71
  | 22 => 22
  | 0 => 0
  | 44 => 97
  | 46 => 57
  | 4 => 4
  | 36 => 90
  | 35 => 89
  | 41 => 73
  | 5 => 5
  | 9 => 9
  | 53 => 103
  | 57 => 107
  | 63 => 113
  | 64 => 114
  | n => n,
 g := fun x =>
    x }
theorem SortI : SlLaysM.n5 Try.prog SortI_ren := {
 mixed := by kernel_rfl,
 f5 := ⟨Try.f31.name, by decide, Try.func31.trans (congrArg some (by kernel_rfl))⟩,
 f7 := ⟨Try.f56.name, by decide, Try.func56.trans (congrArg some (by kernel_rfl))⟩,
 f8 := Try.func57.trans (congrArg some (by kernel_rfl)),
 f10 := ⟨Try.f76.name, by decide, Try.func76.trans (congrArg some (by kernel_rfl))⟩,
 f11 := ⟨Try.f77.name, by decide, Try.func77.trans (congrArg some (by kernel_rfl))⟩,
 f12 := ⟨Try.f78.name, by decide, Try.func78.trans (congrArg some (by kernel_rfl))⟩,
 f13 := ⟨Try.f79.name, by decide, Try.func79.trans (congrArg some (by kernel_rfl))⟩,
 f14 := ⟨Try.f80.name, by decide, Try.func80.trans (congrArg some (by kernel_rfl))⟩,
 f15 := ⟨Try.f81.name, by decide, Try.func81.trans (congrArg some (by kernel_rfl))⟩,
 f16 := ⟨Try.f82.name, by decide, Try.func82.trans (congrArg some (by kernel_rfl))⟩,
 f17 := ⟨Try.f83.name, by decide, Try.func83.trans (congrArg some (by kernel_rfl))⟩,
 f18 := ⟨Try.f84.name, by decide, Try.func84.trans (congrArg some (by kernel_rfl))⟩,
 f19 := Try.func85.trans (congrArg some (by kernel_rfl)),
 f20 := Try.func86.trans (congrArg some (by kernel_rfl)),
 f30 := ⟨Try.f97.name, by decide, Try.func97.trans (congrArg some (by kernel_rfl))⟩,
 f31 := Try.func98.trans (congrArg some (by kernel_rfl)),
 f32 := Try.func99.trans (congrArg some (by kernel_rfl)),
 f33 := ⟨Try.f100.name, by decide, Try.func100.trans (congrArg some (by kernel_rfl))⟩,
 f34 := ⟨Try.f101.name, by decide, Try.func101.trans (congrArg some (by kernel_rfl))⟩,
 f35 := ⟨Try.f102.name, by decide, Try.func102.trans (congrArg some (by kernel_rfl))⟩,
 f40 := ⟨Try.f108.name, by decide, Try.func108.trans (congrArg some (by kernel_rfl))⟩,
 t0 := Try.underlying0,
 a0 := Try.isAgg0,
 z0 := Try.sizeOf0,
 v0 := Try.zeroValue0,
 t3 := Try.underlying3,
 a3 := Try.isAgg3,
 z3 := Try.sizeOf3,
 v3 := Try.zeroValue3,
 t4 := Try.underlying4,
 a4 := Try.isAgg4,
 z4 := Try.sizeOf4,
 v4 := Try.zeroValue4,
 t5 := Try.underlying5,
 a5 := Try.isAgg5,
 z5 := Try.sizeOf5,
 v5 := Try.zeroValue5,
 t9 := Try.underlying9,
 a9 := Try.isAgg9,
 z9 := Try.sizeOf9,
 v9 := Try.zeroValue9,
 t22 := Try.underlying22,
 a22 := Try.isAgg22,
 z22 := Try.sizeOf22,
 v22 := Try.zeroValue22,
 t23 := Try.underlying22,
 a23 := Try.isAgg22,
 z23 := Try.sizeOf22,
 v23 := Try.zeroValue22,
 t25 := Try.underlying2,
 a25 := Try.isAgg2,
 z25 := Try.sizeOf2,
 v25 := Try.zeroValue2,
 t32 := Try.underlying71,
 a32 := Try.isAgg71,
 z32 := Try.sizeOf71,
 v32 := Try.zeroValue71,
 t35 := Try.underlying89,
 a35 := Try.isAgg89,
 z35 := Try.sizeOf89,
 v35 := Try.zeroValue89,
 t36 := Try.underlying90,
 a36 := Try.isAgg90,
 z36 := Try.sizeOf90,
 v36 := Try.zeroValue90,
 t41 := Try.underlying73,
 a41 := Try.isAgg73,
 z41 := Try.sizeOf73,
 v41 := Try.zeroValue73,
 t44 := Try.underlying97,
 a44 := Try.isAgg97,
 z44 := Try.sizeOf97,
 v44 := Try.zeroValue97,
 t46 := Try.underlying57,
 a46 := Try.isAgg57,
 z46 := Try.sizeOf57,
 v46 := Try.zeroValue57,
 t53 := Try.underlying103,
 a53 := Try.isAgg103,
 z53 := Try.sizeOf103,
 v53 := Try.zeroValue103,
 t57 := Try.underlying107,
 a57 := Try.isAgg107,
 z57 := Try.sizeOf107,
 v57 := Try.zeroValue107,
 t63 := Try.underlying113,
 a63 := Try.isAgg113,
 z63 := Try.sizeOf113,
 v63 := Try.zeroValue113,
 t64 := Try.underlying114,
 a64 := Try.isAgg114,
 z64 := Try.sizeOf114,
 v64 := Try.zeroValue114 }
end Go.Proofs.Ytjoggjgmpoaaiaa.K
end

section
/- slices.Sort over rows of numbers of the call's own. -/
namespace Go.Proofs.Ytjoggjgmpoaaiaa.K
open Go.RowKit Go.Shelf Go.Lib Go.Sort Go.Proofs.YtjoggjgmpoaaiaaW.PrintWords Go.Proofs.YtjoggjgmpoaaiaaW.PrintLast Go.Proofs.YtjoggjgmpoaaiaaW.PrintMore
set_option linter.unusedVariables false
set_option linter.unusedSimpArgs false

theorem below_setCellsJ {base : Nat} {w : World} {G : Nat} (hb : base ≤ G) : ∀ (vs : List Value) (i : Nat) (W : World), Below base w W → Below base w (W.setCells G i vs)
 | [], _, _, h => h
 | v :: r, i, W, h => below_setCellsJ hb r (i + 1) _ (Below.setCell h hb v)
theorem below_growI (w : World) (os : Array Obj) : Below w.heap.size w (grow w os) := ⟨rfl, rfl, rfl, by simp [grow], fun k hk => heap_grow_old w os hk⟩
theorem Ri.put_all {base : Nat} {ok : Nat → Prop} {G n c : Nat} : ∀ (ys : List Int) (i : Nat) (W : World) (xs : List Int), i + ys.length = xs.length → Ki.R 2 W base ok (.slice (some ⟨G, 0, none⟩) n c) xs →
  Ki.R 2 (W.setCells G i (ys.map (Value.int .i64))) base ok (.slice (some ⟨G, 0, none⟩) n c) (xs.take i ++ ys)
 | [], i, W, xs, hl, h => by
  simp at hl
  rw [hl, List.take_length, List.append_nil]
  exact h
 | y :: r, i, W, xs, hl, h => by
  simp at hl
  have h1 := Kd.R_putn h (i : Int) y
  rw [Int.toNat_natCast] at h1
  have h2 := Ri.put_all r (i + 1) _ _ (by simp; omega) h1
  have e : (xs.set i y).take (i + 1) ++ r = xs.take i ++ y :: r := by
   rw [List.take_succ_eq_append_getElem (by simp; omega), List.take_set, List.set_eq_of_length_le (by simp; omega)]
   simp
  rw [e] at h2
  exact h2
theorem Ri.holds {base : Nat} {ok : Nat → Prop} {G c : Nat} {L : List Int} {w : World} (hR : Ki.R 2 w base ok (.slice (some ⟨G, 0, none⟩) L.length c) L) : Holds (Value.int .i64) w G 0 L.toArray := fun j hj => by
 have h := Kd.R_celln (0 : Int) hR (j : Int) (by omega) (by simpa using hj)
 rw [Int.toNat_natCast] at h
 have hj2 : j < L.length := by simpa using hj
 have e : rdOf (0 : Int) L (j : Int) = L.toArray[j]! := by simp [rdOf, hj2]
 rw [e] at h
 simpa using h
set_option maxHeartbeats 1000000 in
theorem SortI_calls {base : Nat} {ok : Nat → Prop} (v : Value) (L : List Int) (w : World) (hR : Ki.R 2 w base ok v L) (hbase : base ≤ w.heap.size) (hl : L.length ≤ 1000000000) :
  Calls Try.prog 31 #[v] w fun e w' => e = .returned (.tuple #[]) ∧ Ki.R 2 w' base ok v (L.mergeSort fun x y => decide (x ≤ y)) ∧ Below base w w' := by
 by_cases h0 : L.length = 0
 ·obtain ⟨A, c, rfl, hc, _⟩ := Kd.R_reads hR
  obtain rfl : L = [] := List.length_eq_zero_iff.1 h0
  refine (show Calls Try.prog 31 _ _ _ from AnyM.slices_Sort_int_none SortI A c w).mono ?_
  rintro e w' ⟨rfl, rfl⟩
  exact ⟨rfl, by rw [List.mergeSort_nil]; exact hR, Below.mono (Below.refl _ _) hbase⟩
 ·obtain ⟨G, c, rfl, hb, hG, _⟩ := Kd.R_form hR (by omega)
  have hH := Ri.holds hR
  refine (show Calls Try.prog 31 _ _ _ from AnyM.slices_Sort_int SortI G 0 c L w hH hG (by omega)).mono ?_
  rintro e w' ⟨rfl, n, os, rfl⟩
  have hw := Lib.sorted_world (Value.int .i64) w G 0 n L.toArray (L.mergeSort fun x y => decide (x ≤ y)) os hH (by simp)
  have hr := Ri.put_all (L.mergeSort fun x y => decide (x ≤ y)) 0 (w.drewN n) L (by simp) (Kd.R_drewN hR n)
  rw [List.take_zero, List.nil_append] at hr
  refine ⟨rfl, ?_, ?_⟩
  ·rw [hw]
   exact Kd.R_below hr (below_growI _ _)
  ·rw [hw]
   have h1 : Below base w ((w.drewN n).setCells G 0 ((L.mergeSort fun x y => decide (x ≤ y)).map (Value.int .i64))) := below_setCellsJ hb _ _ _ (Below.mono (pw_below_drewN (Below.refl _ _) n) (by omega))
   exact Below.trans h1 (Below.mono (below_growI _ _) (Nat.le_trans (by omega) h1.size))

end Go.Proofs.Ytjoggjgmpoaaiaa.K
end

section
/- RenumberComplex: the program's. -/
namespace Go.Proofs.Ytjoggjgmpoaaiaa.K
open Go.RowKit Go.Shelf Go.Proofs.Ytjoggjgmpoaaiaa.Q Go.Proofs.YtjoggjgmpoaaiaaW.PrintWords Go.Proofs.YtjoggjgmpoaaiaaW.PrintLast Go.Proofs.YtjoggjgmpoaaiaaW.PrintMore
set_option linter.unusedVariables false
set_option linter.unusedSimpArgs false

section
variable {ops : Array Oper} {o : Oper} {a : Act} {Q : Exit → Act → World → Prop}
/-- 'append' of one number in a region that draws its order. -/
theorem append_int_step {Kc : Act → World → Prop} {W : World} (base : Nat) (hw : Region.wanted o (yielded ops a.tmps) = true) (s x : Operand)
  (ho : o.op = .call { callee := .builtin .append, args := #[s, x], argTypes := #[22, 22] })
  (v : Value) (xs : List Int) (p : Int) (hs : a.eval s = v) (hx : a.eval x = .slice (some ⟨W.heap.size, 0, none⟩) 1 1)
  (HO : Ki.R 2 W base (fun _ => True) v xs) (hbase : base ≤ W.heap.size) (hl : xs.length ≤ 1000000000000)
  (h : ∀ A c w1, Ki.R 2 w1 base (fun _ => True) (.slice A (xs.length + 1) c) (xs ++ [p]) → Below base W w1 → Kc (a.put o.dst (.slice A (xs.length + 1) c)) w1) :
  if Region.wanted o (yielded ops a.tmps) = true then Oper.wp Try.prog o a (W.alloc (.cells #[I p] 2)) Kc Q else Kc (a.put o.dst undef) (W.alloc (.cells #[I p] 2)) := by
 refine Kd.R_append_step Ki (w0 := W) base hw s x 22 2 (.int .i64 0) 8 ho Try.underlying22 infoI rfl (by decide) (by omega) v xs p [I p] (fun _ => True) (fun _ => False) hs hx rfl (fun _ hk => hk.elim) (fun _ _ => trivial) HO (Below.refl _ _) hbase (by omega) ?_
 intro v1 w1 hR hB hg _
 obtain ⟨A, c, e⟩ := Kd.R_slice hR
 rw [List.length_append] at e
 subst e
 exact h A c w1 hR hB
end
theorem below6 {w1 wr w5 w6 : World} (h1 : Grew w1 wr) (h2 : Grew wr w5) (h3 : Below (w1.heap.size + 1) w5 w6) : Grew w1 w6 := Below.trans h1 (Below.trans (Below.mono h2 h1.size) (Below.mono h3 (Nat.le_succ _)))
set_option maxHeartbeats 2000000 in
theorem Ren1_calls {n : Int} (hn : 1 ≤ n ∧ n ≤ 6) (A : Option Addr) (c : Nat) (l : List Int) (A2 : Option Addr) (c2 : Nat) (p : List Int) {Bk Bp : Nat} (w : World) (h0 : CB w Bk n (.slice A l.length c)) (h1 : w.cell? ⟨Bp, 0, none⟩ = some (.slice A2 p.length c2)) (hp : Ki.C w A2 p.length p) (hc2 : p.length ≤ c2) (hp2 : p.length ≤ 2097152) :
  Calls Try.prog 28 #[.pointer (some ⟨Bp, 0, none⟩), .pointer (some ⟨Bk, 0, none⟩)] w fun e w' => e = .returned (.bool (ordB n p)) ∧ Grew w w' := by
 have k0 := h0.c0
 have k1 := h0.c1
 have H := Aside0.mk ((impl_isOrder.calls (p.length + 1) A2 c2 p n _ w hp hc2 (isOrder_is hn p hp2 _ (by omega))).mono fun e w' ⟨he, hd⟩ => (⟨he, hd.below⟩ : _ ∧ Grew w w'))
 clear hp hc2 h0
 generalize ordB n p = r at H ⊢
 go_enter Try.func28, Try.ntmps28
 go_wp2_with fail
 refine H.out.mono ?_
 rintro e w1 ⟨rfl, hG1⟩
 go_wp2_with fail
 go_ret
 exact ⟨rfl, hG1⟩
set_option maxRecDepth 100000 in
set_option maxHeartbeats 8000000 in
theorem Ren_calls (n : Int) (A : Option Addr) (c : Nat) (l : List Int) (A2 : Option Addr) (c2 : Nat) (p : List Int) (w : World) (hk : Kx w A c l) (hp : Ki.C w A2 p.length p) (hc2 : p.length ≤ c2) (hp2 : p.length ≤ 2097152) :
  Calls Try.prog 11 #[.agg #[I n, .slice A l.length c], .slice A2 p.length c2] w fun e w' => ∃ v, e = .returned (.tuple #[.agg #[I (renOf n l p).1, v], I (renOf n l p).2.2]) ∧ Ki.R 2 w' w.heap.size (fun _ => True) v (renOf n l p).2.1 ∧ Grew w w' := by
 obtain ⟨W3, hW3⟩ : ∃ W3, W3 = ((w.alloc (.cells #[I n, .slice A l.length c] 26)).alloc (.cells #[.slice A2 p.length c2] 22)).alloc (.cells #[I 0, .slice none 0 0] 26) := ⟨_, rfl⟩
 have hB : CB W3 w.heap.size n (.slice A l.length c) := by rw [hW3]; exact blk_alloc (blk_alloc (blk_new w _) _) _
 have hF : W3.heap[w.heap.size + 1]? = some (.cells #[.slice A2 p.length c2] 22 (0, 0)) := by
  rw [hW3]
  refine blk_alloc ?_ _
  have := blk_new (w.alloc (.cells #[I n, .slice A l.length c] 26)) (.cells #[.slice A2 p.length c2] 22)
  rwa [World.size_alloc] at this
 have hO : CB W3 (w.heap.size + 2) 0 (.slice none 0 0) := by
  rw [hW3]
  have := blk_new ((w.alloc (.cells #[I n, .slice A l.length c] 26)).alloc (.cells #[.slice A2 p.length c2] 22)) (.cells #[I 0, .slice none 0 0] 26)
  rwa [World.size_alloc, World.size_alloc] at this
 have hg : Grew w W3 := by rw [hW3]; exact below_alloc (below_alloc (below_alloc (Grew.refl w) _) _) _
 have H := Aside0.mk (complexCode_calls (ordB n p) n A c l 28 #[] #[.pointer (some ⟨w.heap.size + 1, 0, none⟩), .pointer (some ⟨w.heap.size, 0, none⟩)] W3 (hk.later hg) (enters_of Try.func28 (by kernel_rfl) rfl)
  (fun hi W hW => by
   have := Ren1_calls (isC_faces hi).1 A c l A2 c2 p W (blk_below hB hW) (blk_cell (blk_below hF hW) 0) (Kd.C_below hp (Grew.trans hg hW)) hc2 hp2
   rw [Array.empty_append]
   exact this))
 obtain ⟨r, hr⟩ : ∃ r, r = renOf n l p := ⟨_, rfl⟩
 rw [← hr]
 have k0 := hB.c0
 have k1 := hB.c1
 have HK := Aside0.mk hk
 have HP := Aside0.mk hp
 have HC2 := Aside0.mk hc2
 have HB := Aside0.mk hB
 have HF := Aside0.mk hF
 have HO := Aside0.mk hO
 have HG := Aside0.mk hg
 have hc := hk.c
 clear hk hB hF hO hg hp hc2
 obtain ⟨cc, hcc⟩ : ∃ cc, cc = codeOf n l (ordB n p) := ⟨_, rfl⟩
 rw [← hcc] at H
 by_cases hz : cc = 0
 ·subst hz
  obtain ⟨hi, hb⟩ := codeOf_zero hcc.symm
  have HV : Aside0 (r = (n, renL l p, 0)) := ⟨by rw [hr]; unfold renOf; rw [if_pos hcc.symm]⟩
  obtain ⟨hn, hs, hrg, h63⟩ := isC_faces hi
  have HIM : Aside0 (∀ x ∈ l, ∀ W, Grew w W → Calls Try.prog 30 #[I x, .slice A2 p.length c2] W fun e w' => e = .returned (I (imgN p x : Int)) ∧ Grew W w') := ⟨fun x hx W hW => impl_imageOf.calls 20 x A2 c2 p _ W (Kd.C_below HP.out hW) HC2.out (imageOf_is hn hb x (hrg x hx).1 (hrg x hx).2.1)⟩
  clear hr hcc hi hb hs hrg
  subst hW3
  go_enter Try.func11, Try.ntmps11
  go_wp2_with fail
  refine H.out.mono ?_
  rintro e w1 ⟨rfl, hG1⟩
  have HB1 := Aside0.mk (blk_below HB.out hG1)
  have HF1 := Aside0.mk (blk_below HF.out hG1)
  have HO1 := Aside0.mk (blk_below HO.out hG1)
  have HG1 := Aside0.mk (Grew.trans HG.out hG1)
  have k0 : w1.cell? ⟨w.heap.size, 0, none⟩ = some (I n) := blk_cell HB1.out 0
  have k1 : w1.cell? ⟨w.heap.size, 1, none⟩ = some (.slice A l.length c) := blk_cell HB1.out 1
  have HX1 : Aside0 (CB (w1.alloc (.cells #[I n, .slice none 0 0] 26)) w1.heap.size n (.slice none 0 0)) := ⟨blk_new w1 _⟩
  have HGX : Aside0 (Grew w1 (w1.alloc (.cells #[I n, .slice none 0 0] 26))) := ⟨below_alloc (Grew.refl w1) _⟩
  have hzx : (w1.alloc (.cells #[I n, .slice none 0 0] 26)).heap.size = w1.heap.size + 1 := World.size_alloc _ _
  have HZX := Aside0.mk hzx
  have kx1 := (Below.cell HGX.out (p := ⟨w.heap.size, 1, none⟩) (World.block_lt_of_cell? w1 _ k1)).trans k1
  clear hG1 hzx
  go_wp2_with fail
  clear k0 k1 kx1
  go_loopg [23] l.length (fun gg s23 wr => ∃ (kk : Nat) (A5 : Option Addr) (c5 : Nat), kk ≤ l.length ∧ l.length - kk ≤ gg ∧ s23 = .int .i64 kk ∧ Aside0 (CB wr w1.heap.size n (.slice A5 kk c5)) ∧ Aside0 (Ki.R 2 wr (w1.heap.size + 1) (fun _ => True) (.slice A5 kk c5) ((l.take kk).map fun f => (imgN p f : Int))) ∧ Aside0 (Grew w1 wr))
  case atStart => exact ⟨0, none, 0, Nat.zero_le _, by omega, rfl, HX1, ⟨Kd.R_nil _ _ _ _ _⟩, HGX⟩
  case round =>
   obtain ⟨kk, A5, c5, hkk, hgg, rfl, HX, HR, HGr⟩ := hrel
   by_cases hlt : kk < l.length
   ·have hltz : (kk : Int) < (l.length : Int) := by omega
    obtain ⟨ad, e0, hx⟩ := Kd.at_int (HK.out.later (Grew.trans HG1.out HGr.out)).r (kk : Int) (by omega) (by omega)
    cases e0
    have hrd : rd l (kk : Int) = l[kk] := by simp [rd, hlt]
    rw [hrd, Int.toNat_natCast] at hx
    have HN : Aside0 ((l.take (kk + 1)).map (fun f => (imgN p f : Int)) = (l.take kk).map (fun f => (imgN p f : Int)) ++ [(imgN p l[kk] : Int)]) := ⟨by rw [List.take_succ_eq_append_getElem hlt, List.map_append]; rfl⟩
    have HLk : Aside0 (((l.take kk).map fun f => (imgN p f : Int)).length = kk) := ⟨by simp; omega⟩
    have HIX := Aside0.mk (HIM.out _ (List.getElem_mem hlt))
    clear hrd
    generalize l[kk] = x at hx HN HIX
    generalize (imgN p x : Int) = z at HN HIX
    generalize (l.take kk).map (fun f => (imgN p f : Int)) = L at HR HN HLk
    have hLk := HLk.out
    subst hLk
    have hlw := blk_lt HX.out
    have HFr := Aside0.mk (blk_below HF1.out HGr.out)
    have q0 : wr.cell? ⟨w.heap.size + 1, 0, none⟩ = some (.slice A2 p.length c2) := blk_cell HFr.out 0
    have x1 := HX.out.c1
    have hlq := World.block_lt_of_cell? wr _ q0
    have hsz := HGr.out.size
    have hsw : w.heap.size + 2 < w1.heap.size := blk_lt HO1.out
    go_wp2_with fail
    refine start_ (n := 9) (S := fun w' => w'.cell? ⟨w1.heap.size, 1, none⟩ = some (.slice A5 L.length c5) ∧ w'.cell? ⟨w.heap.size + 1, 0, none⟩ = some (.slice A2 p.length c2)) (ds := [8]) (ar 0 9) (by kernel_rfl) rfl rfl ⟨(Below.cell (w := wr) (below_drew (Grew.refl wr)) (p := ⟨w1.heap.size, 1, none⟩) hlw).trans x1, (Below.cell (w := wr) (below_drew (Grew.refl wr)) (p := ⟨w.heap.size + 1, 0, none⟩) hlq).trans q0⟩ (fun hHeld => ?_)
    refine pure_ (i := 0) (N := some 27) (v := ?_) (a' := ?_) (ar 1 8) rfl rfl (by kernel_rfl) (fun _ _ _ h => h) (Or.inl ⟨by rfl, ?_⟩) ?_ ?_; rotate_left; (intro w'; go_simp; with_reducible rfl); rotate_left; · simp only [nm_]; rfl
    refine pure_ (i := 2) (N := some 29) (v := ?_) (a' := ?_) #[U,O,U,O,O,O,O,O,O] rfl rfl (by kernel_rfl) (fun _ _ _ h => h) (Or.inl ⟨by rfl, ?_⟩) ?_ ?_; rotate_left; (intro w'; go_simp; with_reducible rfl); rotate_left; · simp only [nm_]; rfl
    refine take_ (i := 1) (N := some 28) (v := ?_) (a' := ?_) (ar 3 6) rfl rfl (by kernel_rfl) (fun _ _ _ h => h) (Or.inl ⟨by rfl, ?_⟩) hHeld ?_ ?_
    rotate_left; · rintro w' ⟨s0, s1⟩; go_simp; with_reducible rfl
    rotate_left; · simp only [nm_]; rfl
    refine take_ (i := 3) (N := some 30) (v := ?_) (a' := ?_) (ar 4 5) rfl rfl (by kernel_rfl) (fun _ _ _ h => h) (Or.inl ⟨by rfl, ?_⟩) hHeld ?_ ?_
    rotate_left; · rintro w' ⟨s0, s1⟩; go_simp; with_reducible rfl
    rotate_left; · simp only [nm_]; rfl
    refine one_ (i := 4) (N := some 31) (ar 5 4) rfl rfl (by kernel_rfl) (by decide) (fun K hK => ?_)
    refine goes_ Try.func30 (by kernel_rfl) rfl #[I x, .slice A2 p.length c2] (by rfl) rfl rfl (by simp only [List.map_toArray, List.map_cons, List.map_nil]; rfl) ?_
    with_reducible refine (HIX.out _ (Grew.trans HG1.out (Grew.trans HGr.out (below_drew (Grew.refl wr))))).mono ?_
    rintro e w5 ⟨rfl, hGa⟩
    refine ⟨_, rfl, ?_⟩
    have HL := Aside0.mk (Grew.trans (below_drew (Grew.refl wr)) hGa)
    have HRL := Aside0.mk (Kd.R_below (Kd.R_drewN HR.out 1) hGa)
    have HXL := Aside0.mk (CB.later HX.out HL.out)
    have hs5 := HL.out.size
    clear hGa
    refine hK.out _ _ ⟨(Below.cell (w := wr) HL.out (p := ⟨w1.heap.size, 1, none⟩) hlw).trans x1, (Below.cell (w := wr) HL.out (p := ⟨w.heap.size + 1, 0, none⟩) hlq).trans q0⟩ (fun hHeld => ?_)
    clear hK K
    refine norm_ (a' := ?_) ?_ ?_
    rotate_left
    ·show Act.put _ (some 31) _ = _
     simp only [nm_]
     rfl
    refine one_ (i := 5) (N := some 32) (ar 6 3) rfl rfl (by kernel_rfl) (by decide) (fun K hK => ?_)
    refine value_ (w1 := ?_) (v := ?_) (by rfl) rfl ?_ ?_
    rotate_left 2
    ·go_simp
     constructor
     ·rfl
     ·rfl
    refine hK.out _ _ ⟨(Below.cell (w := wr) (below_alloc HL.out _) (p := ⟨w1.heap.size, 1, none⟩) hlw).trans x1, (Below.cell (w := wr) (below_alloc HL.out _) (p := ⟨w.heap.size + 1, 0, none⟩) hlq).trans q0⟩ (fun hHeld => ?_)
    clear hK K
    refine norm_ (a' := ?_) ?_ ?_
    rotate_left
    ·show Act.put _ (some 32) _ = _
     simp only [nm_]
     rfl
    refine one_ (i := 6) (N := some 33) (ar 7 2) rfl rfl (by kernel_rfl) (by decide) (fun K hK => ?_)
    refine append_int_step (w1.heap.size + 1) (by rfl) (.tmp 28) (.tmp 32) (by rfl) _ L z (by rfl) (by rfl) HRL.out (by omega) (by omega) ?_
    intro A6 c6 w6 hR6 hB6
    have HXB : Aside0 (CB w6 w1.heap.size n (.slice A5 L.length c5)) := ⟨(hB6.block w1.heap.size (by omega)).trans HXL.out⟩
    have HQ6 : Aside0 (w6.heap[w.heap.size + 1]? = some (.cells #[.slice A2 p.length c2] 22 (0, 0))) := ⟨(hB6.block (w.heap.size + 1) (by omega)).trans (blk_below HFr.out HL.out)⟩
    have HR6 := Aside0.mk hR6
    have HG6 := Aside0.mk (below6 HGr.out HL.out hB6)
    have x6 := HXB.out.c1
    have f6 := blk_frozen HXB.out 1
    clear hR6 hB6
    refine hK.out _ _ ⟨HXB.out.c1, blk_cell HQ6.out 0⟩ (fun hHeld => ?_)
    clear hK K
    refine norm_ (a' := ?_) ?_ ?_
    rotate_left
    ·show Act.put _ (some 33) _ = _
     simp only [nm_]
     rfl
    refine pure_ (i := 7) (N := some 34) (v := ?_) (a' := ?_) (ar 8 1) rfl rfl (by kernel_rfl) (fun _ _ _ h => h) (Or.inl ⟨by rfl, ?_⟩) ?_ ?_; rotate_left; (intro w'; go_simp; with_reducible rfl); rotate_left; · simp only [nm_]; rfl
    refine last_ (i := 8) (N := none) (ar 9 0) rfl rfl (by kernel_rfl) (by decide) (fun K hK => ?_)
    refine skip_ (w1 := ?_) (by rfl) rfl ?_ ?_
    rotate_left
    ·go_simp
     rfl
    refine hK.out _ _ ?_
    clear hK K
    refine done_ (by kernel_rfl) ?_
    go_wp2_with fail
    go_roundg (l.length - (L.length + 1))
    case measure => omega
    case rel =>
     refine ⟨L.length + 1, A6, c6, by omega, by omega, by go_num, ⟨HXB.out.set1⟩, ⟨?_⟩, ⟨below_set HG6.out (Nat.le_refl _)⟩⟩
     rw [HN.out]
     exact Ri.setCB HR6.out HXB.out 1 _
   ·obtain rfl : kk = l.length := by omega
    have hltz : ¬ (l.length : Int) < (l.length : Int) := by omega
    have HT : Aside0 ((l.take l.length).map (fun f => (imgN p f : Int)) = imgsL l p) := ⟨by rw [List.take_length]; rfl⟩
    rw [HT.out] at HR
    have hml : (imgsL l p).length ≤ 1000000000 := by simp [imgsL]; omega
    have hlw := blk_lt HX.out
    have HSO := Aside0.mk (SortI_calls _ _ wr HR.out hlw hml)
    have x0 := HX.out.c0
    have x1 := HX.out.c1
    have hsz := HGr.out.size
    clear HT hml
    go_wp2_with fail
    refine HSO.out.mono ?_
    rintro e w7 ⟨rfl, hR7, hB7⟩
    have HX7 : Aside0 (CB w7 w1.heap.size n (.slice A5 l.length c5)) := ⟨(hB7.block w1.heap.size (Nat.lt_succ_self _)).trans HX.out⟩
    have HG7 := Aside0.mk (Below.trans HGr.out (hB7.mono (Nat.le_succ _)))
    have HO7 := Aside0.mk (blk_below HO1.out HG7.out)
    have HR7 := Aside0.mk hR7
    have hg1 := HG1.out.size
    clear x0 x1 hR7 hB7
    have x0 := HX7.out.c0
    have x1 := HX7.out.c1
    have o0 := (show CB w7 (w.heap.size + 2) 0 (.slice none 0 0) from HO7.out).c0
    have o1 := (show CB w7 (w.heap.size + 2) 0 (.slice none 0 0) from HO7.out).c1
    have f0 := blk_frozen HO7.out 0
    have f1 := blk_frozen HO7.out 1
    go_wp2_with fail
    refine bodyPost_ret (results_ct rfl _ _ (w.heap.size + 2) 26 #[I n, _] (0, 0) _ rfl (show CB w7 (w.heap.size + 2) 0 (.slice none 0 0) from HO7.out).set Try.underlying26 rfl (by kernel_rfl)) rfl ?_
    rw [HV.out]
    exact ⟨_, rfl, Kd.R_lower (Ri.setCB2 HR7.out HO7.out) (Nat.le_trans hg1 (Nat.le_succ _)), below_set (below_set (Grew.trans HG1.out HG7.out) (by omega)) (by omega)⟩
 ·have HV : Aside0 (r = (0, [], cc)) := ⟨by rw [hr, hcc]; unfold renOf; rw [if_neg (by rw [← hcc]; exact hz)]⟩
  clear hr hcc
  subst hW3
  go_enter Try.func11, Try.ntmps11
  go_wp2_with fail
  refine H.out.mono ?_
  rintro e w1 ⟨rfl, hG1⟩
  clear k0 k1
  have hB1 : CB w1 (w.heap.size + 2) 0 (.slice none 0 0) := blk_below HO.out hG1
  have HB1 := Aside0.mk hB1
  have HG1 := Aside0.mk (Grew.trans HG.out hG1)
  have k0 := hB1.c0
  have k1 := hB1.c1
  have f0 := blk_frozen hB1 0
  have f1 := blk_frozen hB1 1
  clear hB1 hG1
  go_wp2_with fail
  refine bodyPost_ret (results_ct rfl _ _ (w.heap.size + 2) 26 #[I 0, .slice none 0 0] (0, 0) _ rfl HB1.out.set Try.underlying26 rfl (by kernel_rfl)) rfl ?_
  rw [HV.out]
  exact ⟨_, rfl, Kd.R_nil _ _ _ _ _, below_set (below_set HG1.out (by omega)) (by omega)⟩

end Go.Proofs.Ytjoggjgmpoaaiaa.K
end

section
/- The walk through the law FnExactRenumberComplex. -/
namespace Go.Proofs.Ytjoggjgmpoaaiaa.K
open Go.RowKit Go.Shelf Go.Proofs.Ytjoggjgmpoaaiaa.Q Go.Proofs.YtjoggjgmpoaaiaaW.PrintWords Go.Proofs.YtjoggjgmpoaaiaaW.PrintLast Go.Proofs.YtjoggjgmpoaaiaaW.PrintMore
set_option linter.unusedVariables false
set_option linter.unusedSimpArgs false

set_option maxRecDepth 100000 in
set_option maxHeartbeats 8000000 in
theorem LRenumberComplex_i0 (n0 : Int) (A0 : Option Addr) (c0 : Nat) (l0 : List Int) (A1 : Option Addr) (c1 : Nat) (l1 : List Int) (w : World) (hr0 : Ki.C w A0 l0.length l0) (hc0 : l0.length ≤ c0) (hr1 : Ki.C w A1 l1.length l1) (hc1 : l1.length ≤ c1)  (hz : (1048576 : Int) < (l1.length : Int)) :
  Calls Try.prog 3 #[.agg #[I n0, .slice A0 l0.length c0], .slice A1 l1.length c1] w fun e w' => e = .returned (.bool true) ∧ Grew w w' := by
 have hbig0 := hr0.2.1
 have HR0 := Aside0.mk hr0
 have HC0 := Aside0.mk hc0
 clear hr0 hc0
 have hbig1 := hr1.2.1
 have HR1 := Aside0.mk hr1
 have HC1 := Aside0.mk hc1
 clear hr1 hc1
 obtain ⟨W0, hW0⟩ : ∃ W0, W0 = (w.alloc (.cells #[I n0, .slice A0 l0.length c0] 24)) := ⟨_, rfl⟩
 have hb_p0 : (Item.box w.heap.size 24 #[I n0, .slice A0 l0.length c0]).ok W0 := by
  rw [hW0]
  have := blk_new w (.cells #[I n0, .slice A0 l0.length c0] 24)
  exact this
 have HM0 : Aside0 (Mem W0 [.box w.heap.size 24 #[I n0, .slice A0 l0.length c0]]) := ⟨Mem.cons (it := .box w.heap.size 24 #[I n0, .slice A0 l0.length c0]) hb_p0 (Mem.nil _)⟩
 have HG0 : Aside0 (Grew w W0) := ⟨by rw [hW0]; exact below_alloc (Grew.refl w) _⟩
 have hs0 : W0.heap.size = w.heap.size + 1 := by rw [hW0]; simp
 clear hb_p0
 subst hW0
 go_enter Try.func3, Try.ntmps3
 go_wp2_with fail
 go_ret
 exact ⟨rfl, HG0.out⟩

set_option maxRecDepth 100000 in
set_option maxHeartbeats 8000000 in
theorem LRenumberComplex_b0 (n0 : Int) (A0 : Option Addr) (c0 : Nat) (l0 : List Int) (A1 : Option Addr) (c1 : Nat) (l1 : List Int) (w : World) (hr0 : Ki.C w A0 l0.length l0) (hc0 : l0.length ≤ c0) (hr1 : Ki.C w A1 l1.length l1) (hc1 : l1.length ≤ c1) (hn1 : ¬ (1048576 : Int) < (l1.length : Int))  (hz : (1048576 : Int) < (l0.length : Int)) :
  Calls Try.prog 3 #[.agg #[I n0, .slice A0 l0.length c0], .slice A1 l1.length c1] w fun e w' => e = .returned (.bool true) ∧ Grew w w' := by
 have hbig0 := hr0.2.1
 have HR0 := Aside0.mk hr0
 have HC0 := Aside0.mk hc0
 clear hr0 hc0
 have hbig1 := hr1.2.1
 have HR1 := Aside0.mk hr1
 have HC1 := Aside0.mk hc1
 clear hr1 hc1
 obtain ⟨W0, hW0⟩ : ∃ W0, W0 = (w.alloc (.cells #[I n0, .slice A0 l0.length c0] 24)) := ⟨_, rfl⟩
 have hb_p0 : (Item.box w.heap.size 24 #[I n0, .slice A0 l0.length c0]).ok W0 := by
  rw [hW0]
  have := blk_new w (.cells #[I n0, .slice A0 l0.length c0] 24)
  exact this
 have HM0 : Aside0 (Mem W0 [.box w.heap.size 24 #[I n0, .slice A0 l0.length c0]]) := ⟨Mem.cons (it := .box w.heap.size 24 #[I n0, .slice A0 l0.length c0]) hb_p0 (Mem.nil _)⟩
 have HG0 : Aside0 (Grew w W0) := ⟨by rw [hW0]; exact below_alloc (Grew.refl w) _⟩
 have hs0 : W0.heap.size = w.heap.size + 1 := by rw [hW0]; simp
 clear hb_p0
 have H0 := Aside0.mk (szC_calls n0 A0 c0 l0 (1048576 : Int) (by omega) W0 (Kd.C_below HR0.out HG0.out) HC0.out)
 rw [if_pos (by omega)] at H0
 have p0_0 : W0.cell? ⟨w.heap.size, 0, none⟩ = some (I n0) := blk_cell HM0.out.head 0
 have p0_1 : W0.cell? ⟨w.heap.size, 1, none⟩ = some (.slice A0 l0.length c0) := blk_cell HM0.out.head 1
 subst hW0
 go_enter Try.func3, Try.ntmps3
 go_wp2_with fail
 refine H0.out.mono ?_
 rintro e w1 ⟨rfl, hG1⟩
 clear p0_0 p0_1
 have HM1 := Aside0.mk (HM0.out.grew hG1)
 have HG1 := Aside0.mk (Grew.trans HG0.out hG1)
 have hs1 := hG1.size
 try simp at hs1
 clear hG1 H0
 go_wp2_with fail
 go_ret
 exact ⟨rfl, HG1.out⟩

set_option maxRecDepth 100000 in
set_option maxHeartbeats 8000000 in
theorem LRenumberComplex_main (n0 : Int) (A0 : Option Addr) (c0 : Nat) (l0 : List Int) (A1 : Option Addr) (c1 : Nat) (l1 : List Int) (w : World) (hr0 : Ki.C w A0 l0.length l0) (hc0 : l0.length ≤ c0) (hr1 : Ki.C w A1 l1.length l1) (hc1 : l1.length ≤ c1) (hn1 : ¬ (1048576 : Int) < (l1.length : Int)) (hl0 : ¬ (1048576 : Int) < (l0.length : Int)) :
  Calls Try.prog 3 #[.agg #[I n0, .slice A0 l0.length c0], .slice A1 l1.length c1] w fun e w' => e = .returned (.bool true) ∧ Grew w w' := by
  obtain ⟨rn0, r0, r1, HS, HI, hlen0⟩ : ∃ (rn0 : Int) (r0 : List Int) (r1 : Int), Aside0 (∀ W A0 c0 A1 c1, Ki.C W A0 l0.length l0 → l0.length ≤ c0 → Ki.C W A1 l1.length l1 → l1.length ≤ c1 → Calls Try.prog 8 #[.agg #[I n0, .slice A0 l0.length c0], .slice A1 l1.length c1] W fun e w' => ∃ v0, e = .returned (.tuple #[.agg #[I rn0, v0], I r1]) ∧ Ki.R 2 w' W.heap.size (fun _ => True) v0 r0 ∧ Grew W w') ∧ Aside0 (∀ W A0 c0 A1 c1, Ki.C W A0 l0.length l0 → l0.length ≤ c0 → Ki.C W A1 l1.length l1 → l1.length ≤ c1 → Calls Try.prog 11 #[.agg #[I n0, .slice A0 l0.length c0], .slice A1 l1.length c1] W fun e w' => ∃ v0, e = .returned (.tuple #[.agg #[I rn0, v0], I r1]) ∧ Ki.R 2 w' W.heap.size (fun _ => True) v0 r0 ∧ Grew W w') ∧ r0.length ≤ 1000000 := by
   have hbig0 := hr0.2.1
   have hbig1 := hr1.2.1
   have hS := fun (W : World) (A0 : Option Addr) (c0 : Nat) (A1 : Option Addr) (c1 : Nat) (hr0 : Ki.C W A0 l0.length l0) (hc0 : l0.length ≤ c0) (hr1 : Ki.C W A1 l1.length l1) (hc1 : l1.length ≤ c1) => spec_RenumberComplex.calls (isK l0 + l1.length + 6000) n0 A0 c0 l0 A1 c1 l1 _ _ _ W hr0 hc0 hr1 hc1 (specRenumber_is n0 l0 l1 (by omega) (by omega) _ (Nat.le_refl _))
   have hI := fun (W : World) (A0 : Option Addr) (c0 : Nat) (A1 : Option Addr) (c1 : Nat) (hr0 : Ki.C W A0 l0.length l0) (hc0 : l0.length ≤ c0) (hr1 : Ki.C W A1 l1.length l1) (hc1 : l1.length ≤ c1) => Ren_calls n0 A0 c0 l0 A1 c1 l1 W ⟨hr0, hc0, by omega⟩ hr1 hc1 (by omega)
   have hlen0 := renOf_len (n := n0) (l := l0) (p := l1)
   exact ⟨(renOf n0 l0 l1).1, (renOf n0 l0 l1).2.1, (renOf n0 l0 l1).2.2, ⟨hS⟩, ⟨hI⟩, Nat.le_trans hlen0 (by decide)⟩
  have hbig0 := hr0.2.1
  have HR0 := Aside0.mk hr0
  have HC0 := Aside0.mk hc0
  clear hr0 hc0
  have hbig1 := hr1.2.1
  have HR1 := Aside0.mk hr1
  have HC1 := Aside0.mk hc1
  clear hr1 hc1
  obtain ⟨W0, hW0⟩ : ∃ W0, W0 = (w.alloc (.cells #[I n0, .slice A0 l0.length c0] 24)) := ⟨_, rfl⟩
  have hb_p0 : (Item.box w.heap.size 24 #[I n0, .slice A0 l0.length c0]).ok W0 := by
   rw [hW0]
   have := blk_new w (.cells #[I n0, .slice A0 l0.length c0] 24)
   exact this
  have HM0 : Aside0 (Mem W0 [.box w.heap.size 24 #[I n0, .slice A0 l0.length c0]]) := ⟨Mem.cons (it := .box w.heap.size 24 #[I n0, .slice A0 l0.length c0]) hb_p0 (Mem.nil _)⟩
  have HG0 : Aside0 (Grew w W0) := ⟨by rw [hW0]; exact below_alloc (Grew.refl w) _⟩
  have hs0 : W0.heap.size = w.heap.size + 1 := by rw [hW0]; simp
  clear hb_p0
  have H0 := Aside0.mk (szC_calls n0 A0 c0 l0 (1048576 : Int) (by omega) W0 (Kd.C_below HR0.out HG0.out) HC0.out)
  rw [if_neg (by omega)] at H0
  have p0_0 : W0.cell? ⟨w.heap.size, 0, none⟩ = some (I n0) := blk_cell HM0.out.head 0
  have p0_1 : W0.cell? ⟨w.heap.size, 1, none⟩ = some (.slice A0 l0.length c0) := blk_cell HM0.out.head 1
  subst hW0
  go_enter Try.func3, Try.ntmps3
  have hneg0 : ¬ (((1048576 : Int) - (l0.length : Int)) < 0) := by omega
  go_wp2_with fail
  refine H0.out.mono ?_
  rintro e w1 ⟨rfl, hG1⟩
  clear p0_0 p0_1
  have HM1 := Aside0.mk (HM0.out.grew hG1)
  have HG1 := Aside0.mk (Grew.trans HG0.out hG1)
  have hs1 := hG1.size
  try simp at hs1
  clear hG1 H0
  have p0_0 : w1.cell? ⟨w.heap.size, 0, none⟩ = some (I n0) := blk_cell HM1.out.head 0
  have p0_1 : w1.cell? ⟨w.heap.size, 1, none⟩ = some (.slice A0 l0.length c0) := blk_cell HM1.out.head 1
  go_wp2_with fail
  clear p0_0 p0_1
  refine (toC_calls n0 A0 c0 l0 w1 (Kd.C_below HR0.out HG1.out) HC0.out (by omega)).mono ?_
  rintro e w2 ⟨AS0, cS0, rfl, hR2, hG2⟩
  have HM2 : Aside0 (Mem w2 [.row w1.heap.size w2.heap.size (.slice AS0 l0.length cS0) l0, .box w.heap.size 24 #[I n0, .slice A0 l0.length c0]]) := ⟨Mem.cons (it := .row w1.heap.size w2.heap.size (.slice AS0 l0.length cS0) l0) (hR2) (HM1.out.grew hG2)⟩
  have HG2 := Aside0.mk (Grew.trans HG1.out hG2)
  have hs2 := hG2.size
  clear hG2 
  go_wp2_with fail
  refine (toI_calls A1 c1 l1 w2 (Kd.C_below HR1.out HG2.out) HC1.out (by omega)).mono ?_
  rintro e w3 ⟨AS1, cS1, rfl, hR3, hG3⟩
  have HM3 : Aside0 (Mem w3 [.row w2.heap.size w3.heap.size (.slice AS1 l1.length cS1) l1, .row w1.heap.size w2.heap.size (.slice AS0 l0.length cS0) l0, .box w.heap.size 24 #[I n0, .slice A0 l0.length c0]]) := ⟨Mem.cons (it := .row w2.heap.size w3.heap.size (.slice AS1 l1.length cS1) l1) (hR3) (HM2.out.grew hG3)⟩
  have HG3 := Aside0.mk (Grew.trans HG2.out hG3)
  have hs3 := hG3.size
  clear hG3 
  go_wp2_with fail
  refine (HS.out w3 AS0 cS0 AS1 cS1 (Row.slice HM3.out.tail.head).2.2 (Row.slice HM3.out.tail.head).2.1 (Row.slice HM3.out.head).2.2 (Row.slice HM3.out.head).2.1).mono ?_
  rintro e w4 ⟨vw0, rfl, hRw0, hG4⟩
  obtain ⟨Aw0, cw0, rfl⟩ := Kd.R_slice hRw0
  have HM4 : Aside0 (Mem w4 [.row w3.heap.size w4.heap.size (.slice Aw0 r0.length cw0) r0, .row w2.heap.size w3.heap.size (.slice AS1 l1.length cS1) l1, .row w1.heap.size w2.heap.size (.slice AS0 l0.length cS0) l0, .box w.heap.size 24 #[I n0, .slice A0 l0.length c0]]) := ⟨Mem.cons (it := .row w3.heap.size w4.heap.size (.slice Aw0 r0.length cw0) r0) (Row.of_R hRw0) (HM3.out.grew hG4)⟩
  have HG4 := Aside0.mk (Grew.trans HG3.out hG4)
  have hs4 := hG4.size
  clear hG4 
  have HM5 : Aside0 (Mem (w4.alloc (.cells #[I rn0, .slice Aw0 r0.length cw0] 26)) [.box w4.heap.size 26 #[I rn0, .slice Aw0 r0.length cw0], .row w3.heap.size w4.heap.size (.slice Aw0 r0.length cw0) r0, .row w2.heap.size w3.heap.size (.slice AS1 l1.length cS1) l1, .row w1.heap.size w2.heap.size (.slice AS0 l0.length cS0) l0, .box w.heap.size 24 #[I n0, .slice A0 l0.length c0]]) := ⟨Mem.cons (blk_new w4 _) (HM4.out.grew (below_alloc (Grew.refl w4) _))⟩
  have HG5 : Aside0 (Grew w (w4.alloc (.cells #[I rn0, .slice Aw0 r0.length cw0] 26))) := ⟨Grew.trans HG4.out (below_alloc (Grew.refl w4) _)⟩
  have hS5 : (w4.alloc (.cells #[I rn0, .slice Aw0 r0.length cw0] 26)).heap.size = w4.heap.size + 1 := by simp
  have p0_0 : (w4.alloc (.cells #[I rn0, .slice Aw0 r0.length cw0] 26)).cell? ⟨w.heap.size, 0, none⟩ = some (I n0) := blk_cell HM5.out.tail.tail.tail.tail.head 0
  have p0_1 : (w4.alloc (.cells #[I rn0, .slice Aw0 r0.length cw0] 26)).cell? ⟨w.heap.size, 1, none⟩ = some (.slice A0 l0.length c0) := blk_cell HM5.out.tail.tail.tail.tail.head 1
  go_wp2_with fail
  generalize (w4.alloc (.cells #[I rn0, .slice Aw0 r0.length cw0] 26)) = W5 at HM5 HG5 hS5 p0_0 p0_1 ⊢
  clear p0_0 p0_1
  refine (toC_calls n0 A0 c0 l0 W5 (Kd.C_below HR0.out HG5.out) HC0.out (by omega)).mono ?_
  rintro e w6 ⟨Ax0, cx0, rfl, hR6, hG6⟩
  have HM6 : Aside0 (Mem w6 [.row W5.heap.size w6.heap.size (.slice Ax0 l0.length cx0) l0, .box w4.heap.size 26 #[I rn0, .slice Aw0 r0.length cw0], .row w3.heap.size w4.heap.size (.slice Aw0 r0.length cw0) r0, .row w2.heap.size w3.heap.size (.slice AS1 l1.length cS1) l1, .row w1.heap.size w2.heap.size (.slice AS0 l0.length cS0) l0, .box w.heap.size 24 #[I n0, .slice A0 l0.length c0]]) := ⟨Mem.cons (it := .row W5.heap.size w6.heap.size (.slice Ax0 l0.length cx0) l0) (hR6) (HM5.out.grew hG6)⟩
  have HG6 := Aside0.mk (Grew.trans HG5.out hG6)
  have hs6 := hG6.size
  clear hG6 
  have HM7 : Aside0 (Mem (w6.alloc (.cells #[I n0, .slice Ax0 l0.length cx0] 26)) [.box w6.heap.size 26 #[I n0, .slice Ax0 l0.length cx0], .row W5.heap.size w6.heap.size (.slice Ax0 l0.length cx0) l0, .box w4.heap.size 26 #[I rn0, .slice Aw0 r0.length cw0], .row w3.heap.size w4.heap.size (.slice Aw0 r0.length cw0) r0, .row w2.heap.size w3.heap.size (.slice AS1 l1.length cS1) l1, .row w1.heap.size w2.heap.size (.slice AS0 l0.length cS0) l0, .box w.heap.size 24 #[I n0, .slice A0 l0.length c0]]) := ⟨Mem.cons (blk_new w6 _) (HM6.out.grew (below_alloc (Grew.refl w6) _))⟩
  have HG7 : Aside0 (Grew w (w6.alloc (.cells #[I n0, .slice Ax0 l0.length cx0] 26))) := ⟨Grew.trans HG6.out (below_alloc (Grew.refl w6) _)⟩
  have hS7 : (w6.alloc (.cells #[I n0, .slice Ax0 l0.length cx0] 26)).heap.size = w6.heap.size + 1 := by simp
  go_wp2_with fail
  generalize (w6.alloc (.cells #[I n0, .slice Ax0 l0.length cx0] 26)) = W7 at HM7 HG7 hS7  ⊢
  refine (toI_calls A1 c1 l1 W7 (Kd.C_below HR1.out HG7.out) HC1.out (by omega)).mono ?_
  rintro e w8 ⟨Ax1, cx1, rfl, hR8, hG8⟩
  have HM8 : Aside0 (Mem w8 [.row W7.heap.size w8.heap.size (.slice Ax1 l1.length cx1) l1, .box w6.heap.size 26 #[I n0, .slice Ax0 l0.length cx0], .row W5.heap.size w6.heap.size (.slice Ax0 l0.length cx0) l0, .box w4.heap.size 26 #[I rn0, .slice Aw0 r0.length cw0], .row w3.heap.size w4.heap.size (.slice Aw0 r0.length cw0) r0, .row w2.heap.size w3.heap.size (.slice AS1 l1.length cS1) l1, .row w1.heap.size w2.heap.size (.slice AS0 l0.length cS0) l0, .box w.heap.size 24 #[I n0, .slice A0 l0.length c0]]) := ⟨Mem.cons (it := .row W7.heap.size w8.heap.size (.slice Ax1 l1.length cx1) l1) (hR8) (HM7.out.grew hG8)⟩
  have HG8 := Aside0.mk (Grew.trans HG7.out hG8)
  have hs8 := hG8.size
  clear hG8 
  have bx0_0 : w8.cell? ⟨w6.heap.size, 0, none⟩ = some (I n0) := blk_cell HM8.out.tail.head 0
  have bx0_1 : w8.cell? ⟨w6.heap.size, 1, none⟩ = some (.slice Ax0 l0.length cx0) := blk_cell HM8.out.tail.head 1
  go_wp2_with fail
  clear bx0_0 bx0_1
  refine (HI.out w8 Ax0 cx0 Ax1 cx1 (Row.slice HM8.out.tail.tail.head).2.2 (Row.slice HM8.out.tail.tail.head).2.1 (Row.slice HM8.out.head).2.2 (Row.slice HM8.out.head).2.1).mono ?_
  rintro e w9 ⟨vg0, rfl, hRg0, hG9⟩
  obtain ⟨Ag0, cg0, rfl⟩ := Kd.R_slice hRg0
  have HM9 : Aside0 (Mem w9 [.row w8.heap.size w9.heap.size (.slice Ag0 r0.length cg0) r0, .row W7.heap.size w8.heap.size (.slice Ax1 l1.length cx1) l1, .box w6.heap.size 26 #[I n0, .slice Ax0 l0.length cx0], .row W5.heap.size w6.heap.size (.slice Ax0 l0.length cx0) l0, .box w4.heap.size 26 #[I rn0, .slice Aw0 r0.length cw0], .row w3.heap.size w4.heap.size (.slice Aw0 r0.length cw0) r0, .row w2.heap.size w3.heap.size (.slice AS1 l1.length cS1) l1, .row w1.heap.size w2.heap.size (.slice AS0 l0.length cS0) l0, .box w.heap.size 24 #[I n0, .slice A0 l0.length c0]]) := ⟨Mem.cons (it := .row w8.heap.size w9.heap.size (.slice Ag0 r0.length cg0) r0) (Row.of_R hRg0) (HM8.out.grew hG9)⟩
  have HG9 := Aside0.mk (Grew.trans HG8.out hG9)
  have hs9 := hG9.size
  clear hG9 
  have HM10 : Aside0 (Mem (w9.alloc (.cells #[I rn0, .slice Ag0 r0.length cg0] 26)) [.box w9.heap.size 26 #[I rn0, .slice Ag0 r0.length cg0], .row w8.heap.size w9.heap.size (.slice Ag0 r0.length cg0) r0, .row W7.heap.size w8.heap.size (.slice Ax1 l1.length cx1) l1, .box w6.heap.size 26 #[I n0, .slice Ax0 l0.length cx0], .row W5.heap.size w6.heap.size (.slice Ax0 l0.length cx0) l0, .box w4.heap.size 26 #[I rn0, .slice Aw0 r0.length cw0], .row w3.heap.size w4.heap.size (.slice Aw0 r0.length cw0) r0, .row w2.heap.size w3.heap.size (.slice AS1 l1.length cS1) l1, .row w1.heap.size w2.heap.size (.slice AS0 l0.length cS0) l0, .box w.heap.size 24 #[I n0, .slice A0 l0.length c0]]) := ⟨Mem.cons (blk_new w9 _) (HM9.out.grew (below_alloc (Grew.refl w9) _))⟩
  have HG10 : Aside0 (Grew w (w9.alloc (.cells #[I rn0, .slice Ag0 r0.length cg0] 26))) := ⟨Grew.trans HG9.out (below_alloc (Grew.refl w9) _)⟩
  have hS10 : (w9.alloc (.cells #[I rn0, .slice Ag0 r0.length cg0] 26)).heap.size = w9.heap.size + 1 := by simp
  have bg0_0 : (w9.alloc (.cells #[I rn0, .slice Ag0 r0.length cg0] 26)).cell? ⟨w9.heap.size, 0, none⟩ = some (I rn0) := blk_cell HM10.out.head 0
  have bg0_1 : (w9.alloc (.cells #[I rn0, .slice Ag0 r0.length cg0] 26)).cell? ⟨w9.heap.size, 1, none⟩ = some (.slice Ag0 r0.length cg0) := blk_cell HM10.out.head 1
  have bw0_0 : (w9.alloc (.cells #[I rn0, .slice Ag0 r0.length cg0] 26)).cell? ⟨w4.heap.size, 0, none⟩ = some (I rn0) := blk_cell HM10.out.tail.tail.tail.tail.tail.head 0
  have bw0_1 : (w9.alloc (.cells #[I rn0, .slice Ag0 r0.length cg0] 26)).cell? ⟨w4.heap.size, 1, none⟩ = some (.slice Aw0 r0.length cw0) := blk_cell HM10.out.tail.tail.tail.tail.tail.head 1
  go_wp2_with fail
  generalize (w9.alloc (.cells #[I rn0, .slice Ag0 r0.length cg0] 26)) = W10 at HM10 HG10 hS10 bg0_0 bg0_1 bw0_0 bw0_1 ⊢
  clear bg0_0 bg0_1 bw0_0 bw0_1
  refine (eqC_calls rn0 r0 Ag0 Aw0 cg0 cw0 _ _ _ _ _ _ W10 HM10.out.tail.head HM10.out.tail.tail.tail.tail.tail.tail.head).mono ?_
  rintro e w11 ⟨rfl, hG11⟩
  have HM11 := Aside0.mk (HM10.out.grew hG11)
  have HG11 := Aside0.mk (Grew.trans HG10.out hG11)
  have hs11 := hG11.size
  clear hG11
  go_wp2_with fail
  have bx0_0 : w11.cell? ⟨w6.heap.size, 0, none⟩ = some (I n0) := blk_cell HM11.out.tail.tail.tail.head 0
  have bx0_1 : w11.cell? ⟨w6.heap.size, 1, none⟩ = some (.slice Ax0 l0.length cx0) := blk_cell HM11.out.tail.tail.tail.head 1
  have p0_0 : w11.cell? ⟨w.heap.size, 0, none⟩ = some (I n0) := blk_cell HM11.out.tail.tail.tail.tail.tail.tail.tail.tail.tail.head 0
  have p0_1 : w11.cell? ⟨w.heap.size, 1, none⟩ = some (.slice A0 l0.length c0) := blk_cell HM11.out.tail.tail.tail.tail.tail.tail.tail.tail.tail.head 1
  have hlx : w6.heap.size < w11.heap.size := World.block_lt_of_cell? w11 _ bx0_0
  have hlp : w.heap.size < w11.heap.size := World.block_lt_of_cell? w11 _ p0_0
  go_region_held3 (fun w' => w'.cell? ⟨w6.heap.size, 0, none⟩ = some (I n0) ∧ w'.cell? ⟨w6.heap.size, 1, none⟩ = some (.slice Ax0 l0.length cx0) ∧ w'.cell? ⟨w.heap.size, 0, none⟩ = some (I n0) ∧ w'.cell? ⟨w.heap.size, 1, none⟩ = some (.slice A0 l0.length c0))
   (first | exact ⟨(HDb.out.cell (p := ⟨w6.heap.size, 0, none⟩) hlx).trans bx0_0, (HDb.out.cell (p := ⟨w6.heap.size, 1, none⟩) hlx).trans bx0_1, (HDb.out.cell (p := ⟨w.heap.size, 0, none⟩) hlp).trans p0_0, (HDb.out.cell (p := ⟨w.heap.size, 1, none⟩) hlp).trans p0_1⟩ | exact ⟨(HDa.out.cell (p := ⟨w6.heap.size, 0, none⟩) hlx).trans bx0_0, (HDa.out.cell (p := ⟨w6.heap.size, 1, none⟩) hlx).trans bx0_1, (HDa.out.cell (p := ⟨w.heap.size, 0, none⟩) hlp).trans p0_0, (HDa.out.cell (p := ⟨w.heap.size, 1, none⟩) hlp).trans p0_1⟩ | go_keep)
   (first
    | (go_at_call 9; refine (toC_calls n0 A0 c0 l0 _ (Kd.C_below HR0.out (Below.trans HG11.out ((Below.refl _ w11).drew))) HC0.out (by omega)).mono ?_; rintro e w12 ⟨Aq0, cq0, rfl, hRa, hGa⟩; have HDa : Aside0 (Grew w11 w12) := ⟨Below.trans ((Below.refl _ w11).drew) hGa⟩; have HRa := Aside0.mk hRa; clear hRa hGa)
    | (go_at_call 12; refine (eqC_calls n0 l0 Ax0 Aq0 cx0 cq0 _ _ _ _ _ _ w12 (HM11.out.grew HDa.out).tail.tail.tail.tail.head HRa.out).mono ?_; rintro e w13 ⟨rfl, hGb⟩; have HDb : Aside0 (Grew w11 w13) := ⟨Grew.trans HDa.out hGb⟩; clear hGb))
  clear bx0_0 bx0_1 p0_0 p0_1
  have hG13 := HDb.out
  clear hlx hlp HDa HDb HRa
  have HM13 := Aside0.mk (HM11.out.grew hG13)
  have HG13 := Aside0.mk (Grew.trans HG11.out hG13)
  have hs13 := hG13.size
  clear hG13
  go_wp2_with fail
  refine (toI_calls A1 c1 l1 w13 (Kd.C_below HR1.out HG13.out) HC1.out (by omega)).mono ?_
  rintro e w14 ⟨Ay1, cy1, rfl, hR14, hG14⟩
  have HM14 : Aside0 (Mem w14 [.row w13.heap.size w14.heap.size (.slice Ay1 l1.length cy1) l1, .box w9.heap.size 26 #[I rn0, .slice Ag0 r0.length cg0], .row w8.heap.size w9.heap.size (.slice Ag0 r0.length cg0) r0, .row W7.heap.size w8.heap.size (.slice Ax1 l1.length cx1) l1, .box w6.heap.size 26 #[I n0, .slice Ax0 l0.length cx0], .row W5.heap.size w6.heap.size (.slice Ax0 l0.length cx0) l0, .box w4.heap.size 26 #[I rn0, .slice Aw0 r0.length cw0], .row w3.heap.size w4.heap.size (.slice Aw0 r0.length cw0) r0, .row w2.heap.size w3.heap.size (.slice AS1 l1.length cS1) l1, .row w1.heap.size w2.heap.size (.slice AS0 l0.length cS0) l0, .box w.heap.size 24 #[I n0, .slice A0 l0.length c0]]) := ⟨Mem.cons (it := .row w13.heap.size w14.heap.size (.slice Ay1 l1.length cy1) l1) (hR14) (HM13.out.grew hG14)⟩
  have HG14 := Aside0.mk (Grew.trans HG13.out hG14)
  have hs14 := hG14.size
  clear hG14 
  go_wp2_with fail
  refine (eqI_calls l1 Ax1 Ay1 cx1 cy1 _ _ _ _ _ _ w14 HM14.out.tail.tail.tail.head HM14.out.head).mono ?_
  rintro e w15 ⟨rfl, hG15⟩
  have HM15 := Aside0.mk (HM14.out.grew hG15)
  have HG15 := Aside0.mk (Grew.trans HG14.out hG15)
  have hs15 := hG15.size
  clear hG15
  have bx0_0 : w15.cell? ⟨w6.heap.size, 0, none⟩ = some (I n0) := blk_cell HM15.out.tail.tail.tail.tail.head 0
  have bx0_1 : w15.cell? ⟨w6.heap.size, 1, none⟩ = some (.slice Ax0 l0.length cx0) := blk_cell HM15.out.tail.tail.tail.tail.head 1
  go_wp2_with fail
  clear bx0_0 bx0_1
  refine (markC_calls n0 Ax0 l0.length cx0 l0 1 (by omega) (by omega) _ _ w w15 HG15.out (by omega) HM15.out.tail.tail.tail.tail.tail.head).mono ?_
  rintro e w16 ⟨rfl, hX16, hB16, hK16⟩
  have HM16 : Aside0 (Mem w16 [.row w13.heap.size w14.heap.size (.slice Ay1 l1.length cy1) l1, .box w9.heap.size 26 #[I rn0, .slice Ag0 r0.length cg0], .row w8.heap.size w9.heap.size (.slice Ag0 r0.length cg0) r0, .row W7.heap.size w8.heap.size (.slice Ax1 l1.length cx1) l1, .box w6.heap.size 26 #[I n0, .slice Ax0 l0.length cx0], .box w4.heap.size 26 #[I rn0, .slice Aw0 r0.length cw0], .row w3.heap.size w4.heap.size (.slice Aw0 r0.length cw0) r0, .row w2.heap.size w3.heap.size (.slice AS1 l1.length cS1) l1, .row w1.heap.size w2.heap.size (.slice AS0 l0.length cS0) l0, .box w.heap.size 24 #[I n0, .slice A0 l0.length c0]]) := ⟨Mem.kept (Mem.cons (it := .row w13.heap.size w14.heap.size (.slice Ay1 l1.length cy1) l1) HM15.out.head (Mem.cons (it := .box w9.heap.size 26 #[I rn0, .slice Ag0 r0.length cg0]) HM15.out.tail.head (Mem.cons (it := .row w8.heap.size w9.heap.size (.slice Ag0 r0.length cg0) r0) HM15.out.tail.tail.head (Mem.cons (it := .row W7.heap.size w8.heap.size (.slice Ax1 l1.length cx1) l1) HM15.out.tail.tail.tail.head (Mem.cons (it := .box w6.heap.size 26 #[I n0, .slice Ax0 l0.length cx0]) HM15.out.tail.tail.tail.tail.head (Mem.cons (it := .box w4.heap.size 26 #[I rn0, .slice Aw0 r0.length cw0]) HM15.out.tail.tail.tail.tail.tail.tail.head (Mem.cons (it := .row w3.heap.size w4.heap.size (.slice Aw0 r0.length cw0) r0) HM15.out.tail.tail.tail.tail.tail.tail.tail.head (Mem.cons (it := .row w2.heap.size w3.heap.size (.slice AS1 l1.length cS1) l1) HM15.out.tail.tail.tail.tail.tail.tail.tail.tail.head (Mem.cons (it := .row w1.heap.size w2.heap.size (.slice AS0 l0.length cS0) l0) HM15.out.tail.tail.tail.tail.tail.tail.tail.tail.tail.head (Mem.cons (it := .box w.heap.size 24 #[I n0, .slice A0 l0.length c0]) HM15.out.tail.tail.tail.tail.tail.tail.tail.tail.tail.tail.head (Mem.nil _))))))))))) hK16 (by intro it hit k hk; simp only [List.mem_cons, List.not_mem_nil, or_false] at hit; rcases hit with rfl | rfl | rfl | rfl | rfl | rfl | rfl | rfl | rfl | rfl <;> (simp only [Item.at_] at hk; omega))⟩
  have HG16 := Aside0.mk hB16
  have hs16 := hK16.1
  clear hX16 hB16 hK16
  go_wp2_with fail
  refine (markI_calls Ax1 l1.length cx1 l1 (1 + (l0.length : Int)) (by omega) (by omega) _ _ w w16 HG16.out (by omega) HM16.out.tail.tail.tail.head).mono ?_
  rintro e w17 ⟨rfl, hX17, hB17, hK17⟩
  have HM17 : Aside0 (Mem w17 [.row w13.heap.size w14.heap.size (.slice Ay1 l1.length cy1) l1, .box w9.heap.size 26 #[I rn0, .slice Ag0 r0.length cg0], .row w8.heap.size w9.heap.size (.slice Ag0 r0.length cg0) r0, .box w6.heap.size 26 #[I n0, .slice Ax0 l0.length cx0], .box w4.heap.size 26 #[I rn0, .slice Aw0 r0.length cw0], .row w3.heap.size w4.heap.size (.slice Aw0 r0.length cw0) r0, .row w2.heap.size w3.heap.size (.slice AS1 l1.length cS1) l1, .row w1.heap.size w2.heap.size (.slice AS0 l0.length cS0) l0, .box w.heap.size 24 #[I n0, .slice A0 l0.length c0]]) := ⟨Mem.kept (Mem.cons (it := .row w13.heap.size w14.heap.size (.slice Ay1 l1.length cy1) l1) HM16.out.head (Mem.cons (it := .box w9.heap.size 26 #[I rn0, .slice Ag0 r0.length cg0]) HM16.out.tail.head (Mem.cons (it := .row w8.heap.size w9.heap.size (.slice Ag0 r0.length cg0) r0) HM16.out.tail.tail.head (Mem.cons (it := .box w6.heap.size 26 #[I n0, .slice Ax0 l0.length cx0]) HM16.out.tail.tail.tail.tail.head (Mem.cons (it := .box w4.heap.size 26 #[I rn0, .slice Aw0 r0.length cw0]) HM16.out.tail.tail.tail.tail.tail.head (Mem.cons (it := .row w3.heap.size w4.heap.size (.slice Aw0 r0.length cw0) r0) HM16.out.tail.tail.tail.tail.tail.tail.head (Mem.cons (it := .row w2.heap.size w3.heap.size (.slice AS1 l1.length cS1) l1) HM16.out.tail.tail.tail.tail.tail.tail.tail.head (Mem.cons (it := .row w1.heap.size w2.heap.size (.slice AS0 l0.length cS0) l0) HM16.out.tail.tail.tail.tail.tail.tail.tail.tail.head (Mem.cons (it := .box w.heap.size 24 #[I n0, .slice A0 l0.length c0]) HM16.out.tail.tail.tail.tail.tail.tail.tail.tail.tail.head (Mem.nil _)))))))))) hK17 (by intro it hit k hk; simp only [List.mem_cons, List.not_mem_nil, or_false] at hit; rcases hit with rfl | rfl | rfl | rfl | rfl | rfl | rfl | rfl | rfl <;> (simp only [Item.at_] at hk; omega))⟩
  have HG17 := Aside0.mk hB17
  have hs17 := hK17.1
  clear hX17 hB17 hK17
  have hneg : ¬ (((1 + (l0.length : Int)) + (l1.length : Int)) < 0) := by omega
  have bg0_0 : w17.cell? ⟨w9.heap.size, 0, none⟩ = some (I rn0) := blk_cell HM17.out.tail.head 0
  have bg0_1 : w17.cell? ⟨w9.heap.size, 1, none⟩ = some (.slice Ag0 r0.length cg0) := blk_cell HM17.out.tail.head 1
  have bw0_0 : w17.cell? ⟨w4.heap.size, 0, none⟩ = some (I rn0) := blk_cell HM17.out.tail.tail.tail.tail.head 0
  have bw0_1 : w17.cell? ⟨w4.heap.size, 1, none⟩ = some (.slice Aw0 r0.length cw0) := blk_cell HM17.out.tail.tail.tail.tail.head 1
  go_wp2_with fail
  clear bg0_0 bg0_1 bw0_0 bw0_1
  refine (eqC_calls rn0 r0 Ag0 Aw0 cg0 cw0 _ _ _ _ _ _ w17 HM17.out.tail.tail.head HM17.out.tail.tail.tail.tail.tail.head).mono ?_
  rintro e w18 ⟨rfl, hG18⟩
  have HM18 := Aside0.mk (HM17.out.grew hG18)
  have HG18 := Aside0.mk (Grew.trans HG17.out hG18)
  have hs18 := hG18.size
  clear hG18
  clear hneg
  have bg0_0 : w18.cell? ⟨w9.heap.size, 0, none⟩ = some (I rn0) := blk_cell HM18.out.tail.head 0
  have bg0_1 : w18.cell? ⟨w9.heap.size, 1, none⟩ = some (.slice Ag0 r0.length cg0) := blk_cell HM18.out.tail.head 1
  go_wp2_with fail
  clear bg0_0 bg0_1
  refine (markC_calls rn0 Ag0 r0.length cg0 r0 1 (by omega) (by omega) _ _ w w18 HG18.out (by omega) HM18.out.tail.tail.head).mono ?_
  rintro e w19 ⟨rfl, hX19, hB19, hK19⟩
  have HM19 : Aside0 (Mem w19 [.row w8.heap.size w9.heap.size (.slice Ag0 r0.length cg0) (marks 1 r0.length), .row w13.heap.size w14.heap.size (.slice Ay1 l1.length cy1) l1, .box w9.heap.size 26 #[I rn0, .slice Ag0 r0.length cg0], .box w6.heap.size 26 #[I n0, .slice Ax0 l0.length cx0], .box w4.heap.size 26 #[I rn0, .slice Aw0 r0.length cw0], .row w3.heap.size w4.heap.size (.slice Aw0 r0.length cw0) r0, .row w2.heap.size w3.heap.size (.slice AS1 l1.length cS1) l1, .row w1.heap.size w2.heap.size (.slice AS0 l0.length cS0) l0, .box w.heap.size 24 #[I n0, .slice A0 l0.length c0]]) := ⟨Mem.cons (it := .row w8.heap.size w9.heap.size (.slice Ag0 r0.length cg0) (marks 1 r0.length)) hX19 (Mem.kept (Mem.cons (it := .row w13.heap.size w14.heap.size (.slice Ay1 l1.length cy1) l1) HM18.out.head (Mem.cons (it := .box w9.heap.size 26 #[I rn0, .slice Ag0 r0.length cg0]) HM18.out.tail.head (Mem.cons (it := .box w6.heap.size 26 #[I n0, .slice Ax0 l0.length cx0]) HM18.out.tail.tail.tail.head (Mem.cons (it := .box w4.heap.size 26 #[I rn0, .slice Aw0 r0.length cw0]) HM18.out.tail.tail.tail.tail.head (Mem.cons (it := .row w3.heap.size w4.heap.size (.slice Aw0 r0.length cw0) r0) HM18.out.tail.tail.tail.tail.tail.head (Mem.cons (it := .row w2.heap.size w3.heap.size (.slice AS1 l1.length cS1) l1) HM18.out.tail.tail.tail.tail.tail.tail.head (Mem.cons (it := .row w1.heap.size w2.heap.size (.slice AS0 l0.length cS0) l0) HM18.out.tail.tail.tail.tail.tail.tail.tail.head (Mem.cons (it := .box w.heap.size 24 #[I n0, .slice A0 l0.length c0]) HM18.out.tail.tail.tail.tail.tail.tail.tail.tail.head (Mem.nil _))))))))) hK19 (by intro it hit k hk; simp only [List.mem_cons, List.not_mem_nil, or_false] at hit; rcases hit with rfl | rfl | rfl | rfl | rfl | rfl | rfl | rfl <;> (simp only [Item.at_] at hk; omega)))⟩
  have HG19 := Aside0.mk hB19
  have hs19 := hK19.1
  clear hX19 hB19 hK19
  have hneg0 : ¬ ((1 + (r0.length : Int)) < 0) := by omega
  have bg0_0 : w19.cell? ⟨w9.heap.size, 0, none⟩ = some (I rn0) := blk_cell HM19.out.tail.tail.head 0
  have bg0_1 : w19.cell? ⟨w9.heap.size, 1, none⟩ = some (.slice Ag0 r0.length cg0) := blk_cell HM19.out.tail.tail.head 1
  go_wp2_with fail
  clear bg0_0 bg0_1
  refine (heldC_calls rn0 Ag0 r0.length r0.length cg0 _ _ 1 (by omega) (by omega) w19 HM19.out.head).mono ?_
  rintro e w20 ⟨rfl, hG20⟩
  have HM20 := Aside0.mk (HM19.out.grew hG20)
  have HG20 := Aside0.mk (Grew.trans HG19.out hG20)
  have hs20 := hG20.size
  clear hG20
  have p0_0 : w20.cell? ⟨w.heap.size, 0, none⟩ = some (I n0) := blk_cell HM20.out.tail.tail.tail.tail.tail.tail.tail.tail.head 0
  have p0_1 : w20.cell? ⟨w.heap.size, 1, none⟩ = some (.slice A0 l0.length c0) := blk_cell HM20.out.tail.tail.tail.tail.tail.tail.tail.tail.head 1
  go_wp2_with fail
  clear p0_0 p0_1
  refine (toC_calls n0 A0 c0 l0 w20 (Kd.C_below HR0.out HG20.out) HC0.out (by omega)).mono ?_
  rintro e w21 ⟨Az0, cz0, rfl, hR21, hG21⟩
  have HM21 : Aside0 (Mem w21 [.row w20.heap.size w21.heap.size (.slice Az0 l0.length cz0) l0, .row w8.heap.size w9.heap.size (.slice Ag0 r0.length cg0) (marks 1 r0.length), .row w13.heap.size w14.heap.size (.slice Ay1 l1.length cy1) l1, .box w9.heap.size 26 #[I rn0, .slice Ag0 r0.length cg0], .box w6.heap.size 26 #[I n0, .slice Ax0 l0.length cx0], .box w4.heap.size 26 #[I rn0, .slice Aw0 r0.length cw0], .row w3.heap.size w4.heap.size (.slice Aw0 r0.length cw0) r0, .row w2.heap.size w3.heap.size (.slice AS1 l1.length cS1) l1, .row w1.heap.size w2.heap.size (.slice AS0 l0.length cS0) l0, .box w.heap.size 24 #[I n0, .slice A0 l0.length c0]]) := ⟨Mem.cons (it := .row w20.heap.size w21.heap.size (.slice Az0 l0.length cz0) l0) (hR21) (HM20.out.grew hG21)⟩
  have HG21 := Aside0.mk (Grew.trans HG20.out hG21)
  have hs21 := hG21.size
  clear hG21 
  go_wp2_with fail
  refine (toI_calls A1 c1 l1 w21 (Kd.C_below HR1.out HG21.out) HC1.out (by omega)).mono ?_
  rintro e w22 ⟨Az1, cz1, rfl, hR22, hG22⟩
  have HM22 : Aside0 (Mem w22 [.row w21.heap.size w22.heap.size (.slice Az1 l1.length cz1) l1, .row w20.heap.size w21.heap.size (.slice Az0 l0.length cz0) l0, .row w8.heap.size w9.heap.size (.slice Ag0 r0.length cg0) (marks 1 r0.length), .row w13.heap.size w14.heap.size (.slice Ay1 l1.length cy1) l1, .box w9.heap.size 26 #[I rn0, .slice Ag0 r0.length cg0], .box w6.heap.size 26 #[I n0, .slice Ax0 l0.length cx0], .box w4.heap.size 26 #[I rn0, .slice Aw0 r0.length cw0], .row w3.heap.size w4.heap.size (.slice Aw0 r0.length cw0) r0, .row w2.heap.size w3.heap.size (.slice AS1 l1.length cS1) l1, .row w1.heap.size w2.heap.size (.slice AS0 l0.length cS0) l0, .box w.heap.size 24 #[I n0, .slice A0 l0.length c0]]) := ⟨Mem.cons (it := .row w21.heap.size w22.heap.size (.slice Az1 l1.length cz1) l1) (hR22) (HM21.out.grew hG22)⟩
  have HG22 := Aside0.mk (Grew.trans HG21.out hG22)
  have hs22 := hG22.size
  clear hG22 
  go_wp2_with fail
  refine (HI.out w22 Az0 cz0 Az1 cz1 (Row.slice HM22.out.tail.head).2.2 (Row.slice HM22.out.tail.head).2.1 (Row.slice HM22.out.head).2.2 (Row.slice HM22.out.head).2.1).mono ?_
  rintro e w23 ⟨vh0, rfl, hRh0, hG23⟩
  obtain ⟨Ah0, ch0, rfl⟩ := Kd.R_slice hRh0
  have HM23 : Aside0 (Mem w23 [.row w22.heap.size w23.heap.size (.slice Ah0 r0.length ch0) r0, .row w21.heap.size w22.heap.size (.slice Az1 l1.length cz1) l1, .row w20.heap.size w21.heap.size (.slice Az0 l0.length cz0) l0, .row w8.heap.size w9.heap.size (.slice Ag0 r0.length cg0) (marks 1 r0.length), .row w13.heap.size w14.heap.size (.slice Ay1 l1.length cy1) l1, .box w9.heap.size 26 #[I rn0, .slice Ag0 r0.length cg0], .box w6.heap.size 26 #[I n0, .slice Ax0 l0.length cx0], .box w4.heap.size 26 #[I rn0, .slice Aw0 r0.length cw0], .row w3.heap.size w4.heap.size (.slice Aw0 r0.length cw0) r0, .row w2.heap.size w3.heap.size (.slice AS1 l1.length cS1) l1, .row w1.heap.size w2.heap.size (.slice AS0 l0.length cS0) l0, .box w.heap.size 24 #[I n0, .slice A0 l0.length c0]]) := ⟨Mem.cons (it := .row w22.heap.size w23.heap.size (.slice Ah0 r0.length ch0) r0) (Row.of_R hRh0) (HM22.out.grew hG23)⟩
  have HG23 := Aside0.mk (Grew.trans HG22.out hG23)
  have hs23 := hG23.size
  clear hG23 
  have HM24 : Aside0 (Mem (w23.alloc (.cells #[I rn0, .slice Ah0 r0.length ch0] 26)) [.box w23.heap.size 26 #[I rn0, .slice Ah0 r0.length ch0], .row w22.heap.size w23.heap.size (.slice Ah0 r0.length ch0) r0, .row w21.heap.size w22.heap.size (.slice Az1 l1.length cz1) l1, .row w20.heap.size w21.heap.size (.slice Az0 l0.length cz0) l0, .row w8.heap.size w9.heap.size (.slice Ag0 r0.length cg0) (marks 1 r0.length), .row w13.heap.size w14.heap.size (.slice Ay1 l1.length cy1) l1, .box w9.heap.size 26 #[I rn0, .slice Ag0 r0.length cg0], .box w6.heap.size 26 #[I n0, .slice Ax0 l0.length cx0], .box w4.heap.size 26 #[I rn0, .slice Aw0 r0.length cw0], .row w3.heap.size w4.heap.size (.slice Aw0 r0.length cw0) r0, .row w2.heap.size w3.heap.size (.slice AS1 l1.length cS1) l1, .row w1.heap.size w2.heap.size (.slice AS0 l0.length cS0) l0, .box w.heap.size 24 #[I n0, .slice A0 l0.length c0]]) := ⟨Mem.cons (blk_new w23 _) (HM23.out.grew (below_alloc (Grew.refl w23) _))⟩
  have HG24 : Aside0 (Grew w (w23.alloc (.cells #[I rn0, .slice Ah0 r0.length ch0] 26))) := ⟨Grew.trans HG23.out (below_alloc (Grew.refl w23) _)⟩
  have hS24 : (w23.alloc (.cells #[I rn0, .slice Ah0 r0.length ch0] 26)).heap.size = w23.heap.size + 1 := by simp
  have bh0_0 : (w23.alloc (.cells #[I rn0, .slice Ah0 r0.length ch0] 26)).cell? ⟨w23.heap.size, 0, none⟩ = some (I rn0) := blk_cell HM24.out.head 0
  have bh0_1 : (w23.alloc (.cells #[I rn0, .slice Ah0 r0.length ch0] 26)).cell? ⟨w23.heap.size, 1, none⟩ = some (.slice Ah0 r0.length ch0) := blk_cell HM24.out.head 1
  have bw0_0 : (w23.alloc (.cells #[I rn0, .slice Ah0 r0.length ch0] 26)).cell? ⟨w4.heap.size, 0, none⟩ = some (I rn0) := blk_cell HM24.out.tail.tail.tail.tail.tail.tail.tail.tail.head 0
  have bw0_1 : (w23.alloc (.cells #[I rn0, .slice Ah0 r0.length ch0] 26)).cell? ⟨w4.heap.size, 1, none⟩ = some (.slice Aw0 r0.length cw0) := blk_cell HM24.out.tail.tail.tail.tail.tail.tail.tail.tail.head 1
  go_wp2_with fail
  generalize (w23.alloc (.cells #[I rn0, .slice Ah0 r0.length ch0] 26)) = W24 at HM24 HG24 hS24 bh0_0 bh0_1 bw0_0 bw0_1 ⊢
  clear bh0_0 bh0_1 bw0_0 bw0_1
  refine (eqC_calls rn0 r0 Ah0 Aw0 ch0 cw0 _ _ _ _ _ _ W24 HM24.out.tail.head HM24.out.tail.tail.tail.tail.tail.tail.tail.tail.tail.head).mono ?_
  rintro e w25 ⟨rfl, hG25⟩
  have HM25 := Aside0.mk (HM24.out.grew hG25)
  have HG25 := Aside0.mk (Grew.trans HG24.out hG25)
  have hs25 := hG25.size
  clear hG25
  clear hneg0
  have hneg0 : ¬ ((1 + (r0.length : Int)) < 0) := by omega
  have bg0_0 : w25.cell? ⟨w9.heap.size, 0, none⟩ = some (I rn0) := blk_cell HM25.out.tail.tail.tail.tail.tail.tail.head 0
  have bg0_1 : w25.cell? ⟨w9.heap.size, 1, none⟩ = some (.slice Ag0 r0.length cg0) := blk_cell HM25.out.tail.tail.tail.tail.tail.tail.head 1
  go_wp2_with fail
  clear bg0_0 bg0_1
  refine (heldC_calls rn0 Ag0 r0.length r0.length cg0 _ _ 1 (by omega) (by omega) w25 HM25.out.tail.tail.tail.tail.head).mono ?_
  rintro e w26 ⟨rfl, hG26⟩
  have HM26 := Aside0.mk (HM25.out.grew hG26)
  have HG26 := Aside0.mk (Grew.trans HG25.out hG26)
  have hs26 := hG26.size
  clear hG26
  go_wp2_with fail
  go_ret
  exact ⟨rfl, HG26.out⟩

theorem LRenumberComplex_calls (n0 : Int) (A0 : Option Addr) (c0 : Nat) (l0 : List Int) (A1 : Option Addr) (c1 : Nat) (l1 : List Int) (w : World) (hr0 : Ki.C w A0 l0.length l0) (hc0 : l0.length ≤ c0) (hr1 : Ki.C w A1 l1.length l1) (hc1 : l1.length ≤ c1) :
  Calls Try.prog 3 #[.agg #[I n0, .slice A0 l0.length c0], .slice A1 l1.length c1] w fun e w' => e = .returned (.bool true) ∧ Grew w w' := by
 by_cases hn1 : (1048576 : Int) < (l1.length : Int)
 ·exact LRenumberComplex_i0 n0 A0 c0 l0 A1 c1 l1 w hr0 hc0 hr1 hc1  hn1
 by_cases hl0 : (1048576 : Int) < (l0.length : Int)
 ·exact LRenumberComplex_b0 n0 A0 c0 l0 A1 c1 l1 w hr0 hc0 hr1 hc1 hn1  hl0
 exact LRenumberComplex_main n0 A0 c0 l0 A1 c1 l1 w hr0 hc0 hr1 hc1 hn1 hl0

end Go.Proofs.Ytjoggjgmpoaaiaa.K
end

section

namespace Go.Proofs.Ytjoggjgmpoaaiaa.fnExactRenumberComplex
open Go.ChangeShapes Go.WideShapes Go.ChangeAt Go.RowKit Go.Joins Go.Proofs.Ytjoggjgmpoaaiaa.K Go.Proofs.YtjoggjgmpoaaiaaW.PrintWords
open Go.ChangeMaps (open_string shut_string)
set_option linter.unusedVariables false
set_option maxRecDepth 100000 in
theorem lifted (os : Os) (started : os.Started) (H : Type) (enc : TypeId × Value → H) :
  ReturnsInHanded {} Try.checked os 3 .any (Rows.fnExactRenumberComplexSpec.pre6 enc Try.prog Try.f3 Rows.fnExactRenumberComplexRow.domain false) (Rows.fnExactRenumberComplexSpec.post enc Try.prog Try.f3 false true false false) := by
 refine returnsInHanded_of_change_sized (C := Try.checked) ownKnob_none started (by kernel_rfl) Try.func3
  (ChangeSpec.witness6 (enc := enc) (C := Try.checked) false ⟨#[], #[.agg #[.int .i64 0, .slice none 0 0], .slice none 0 0], []⟩ 8 (by kernel_rfl) (by kernel_rfl) (by kernel_rfl) (by kernel_rfl)) ?_
 intro W base args ds gs before hval0 hW hcnd hsz0 _
 have hsz : (DataW.weightsEach Try.prog (Try.f3.params.toList ++ Rows.fnExactRenumberComplexSpec.plain.varTypes Try.prog) (ds ++ gs)).all (· ≤ reachBytes) = true := hsz0
 have hval : ∀ (j : Nat) t v, Try.f3.params[j]? = some t → args[j]? = some v → Value.okWide Try.prog W .any base t v := hval0
 have hW' := hW
 obtain ⟨p, q, hA0, hV, rfl, hfz, hnd⟩ := hW
 have hA : DataW.TrodAll enc Try.prog W 0 (fun _ => true) true Try.f3.params.toList args.toList ds p := hA0
 rw [Try.params3] at hA hval hsz
 obtain ⟨v0, vs0, d0, ds0, p0, q0, hargs, rfl, rfl, h0, r0⟩ := trodAll_cons hA
 obtain ⟨v1, vs1, d1, ds1, p1, q1, rfl, rfl, rfl, h1, r1⟩ := trodAll_cons r0
 obtain ⟨rfl, rfl, rfl⟩ := trodAll_nil r1
 obtain rfl : args = #[v0, v1] := by cases args; simp_all
 obtain ⟨rfl, rfl⟩ := trodVars_none hV
 have k0 := h0
 have lt0 : ∀ x ∈ p0, x.block < W.heap.size := by obtain ⟨m, hm⟩ := k0; exact DataW.trod_lt m _ _ _ hm
 obtain ⟨x0, z0, y0_0, y1_0, m0, hv0, hd0, hp0, hy0_0, hy1_0⟩ := open_agg2 Try.underlying24 (by kernel_rfl) (show Try.prog.cellsOf 24 = 2 by kernel_rfl) (hval 0 24 v0 rfl rfl) h0
 obtain ⟨n0, e0_0, _, w0⟩ := DataW.trod_int Try.underlying2 hy0_0
 obtain ⟨A0, c0, l0, e1_0, hc0, hr0, _⟩ := ints_open hy1_0
 simp only [List.cons.injEq, and_true] at e0_0
 subst e0_0 e1_0
 subst hv0
 have k1 := h1
 have lt1 : ∀ x ∈ p1, x.block < W.heap.size := by obtain ⟨m, hm⟩ := k1; exact DataW.trod_lt m _ _ _ hm
 obtain ⟨a1, len1, cap1, hv1⟩ := okWide_slice Try.underlying22 (hval 1 22 v1 rfl rfl)
 obtain ⟨A1, c1, l1, e1, hc1, hr1, _⟩ : ∃ A c l, v1 = .slice A l.length c ∧ l.length ≤ c ∧ Ki.C W A l.length l ∧ ∀ n ∈ l, (Lit.int .i64 n).wf = true := by
  obtain ⟨fuel, hf⟩ := h1
  subst hv1
  exact ints_open hf
 subst e1
 clear hA0 hval0 hsz0 hsz
 refine (K.LRenumberComplex_calls n0 A0 c0 l0 A1 c1 l1 W hr0 hc0 hr1 hc1).mono fun e W' ⟨he, bel0⟩ => ?_
 have bel : Below W.heap.size W W' := bel0
 subst he
 exact ⟨_, rfl, _, _, _, [], _, [], hW', trodAll_mk1 (shut_bool Try.underlying4 _), (trodAll_cons_mk (Below.trod laidOut (by kernel_rfl) (of_decide_eq_true (by kernel_rfl)) k0 bel lt0) (trodAll_cons_mk (Below.trod laidOut (by kernel_rfl) (of_decide_eq_true (by kernel_rfl)) k1 bel lt1) trodAll_mk0)), rfl, bel.frame _, fun h => by cases h⟩
set_option maxRecDepth 100000 in
theorem starts : ∃ r, behindMainWord (wordsSigns Try.prog.initOrder.toList) = "cut".toList :: r := by
 have h : Try.prog.initOrder = String.ofList _ := rfl
 rw [h, String.toList_ofList, signs_take 7 _ rfl rfl, signs_take 64 _ rfl rfl, signs_take 3 _ rfl rfl]
 generalize wordsSigns _ = r
 exact ⟨r, by kernel_rfl⟩
set_option maxRecDepth 100000 in
theorem closed : joinedFacts Try.prog 3 Try.f3 Rows.fnExactRenumberComplexSpec Rows.fnExactRenumberComplexRow = true := by
 obtain ⟨r, h⟩ := starts
 unfold joinedFacts
 rw [cut_enter _ r h (by kernel_rfl) (by kernel_rfl) (by kernel_rfl), cut_make _ r h, cut_lifts _ r h]
 exact of_decide_eq_true (by kernel_rfl)
theorem over : Rows.fnExactRenumberComplexRow.holds Try.pinned (OpenSpec.ofChange Rows.fnExactRenumberComplexSpec) :=
 OpenClaim.holds_of_wide 3 Try.f3 rfl rfl rfl rfl rfl rfl rfl ⟨rfl, rfl, rfl, rfl, rfl⟩ rfl rfl rfl rfl rfl (by kernel_rfl) Try.func3 closed
  (of_decide_eq_true (by kernel_rfl)) (by unfold Func.isWrapper; first | (rw [if_pos (by decide +kernel)]; kernel_rfl) | (rw [if_neg (by decide +kernel)]; exact ⟨rfl, rfl⟩))
  (fun os started H enc _ => lifted os started H enc)
theorem proved : Rows.FnExactRenumberComplexSaid := over
#print axioms proved
end Go.Proofs.Ytjoggjgmpoaaiaa.fnExactRenumberComplex
namespace Go.Proofs.Ytjoggjgmpoaaiaa
theorem fnExactRenumberComplex_holds : Rows.FnExactRenumberComplexSaid := fnExactRenumberComplex.proved
end Go.Proofs.Ytjoggjgmpoaaiaa
end
