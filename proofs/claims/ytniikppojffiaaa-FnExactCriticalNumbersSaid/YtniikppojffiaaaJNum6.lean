/- The row of the law FnExactCriticalNumbers: for every input the law answers true, and the arguments read as before. No conditions. -/
import Derived.Test.YtniikppojffiaaaJNum5
import Derived.Below
import Derived.Deep.Draws
import Derived.Deep.AppendLies
import Derived.Maps.AppendAt
import Derived.OwnWalk
import Derived.Laws.BytesArg
import Derived.Laws.MakeOwn
import Derived.Laws.OwnMore
import Derived.Deep.OwnRows
import Derived.Tactics
import Derived.Lib.ConvBytes
import Derived.Laws.Slices
import Derived.WalkKit
import Derived.KernelRfl
import Derived.RowKit3
import Derived.Deep.LoopGhost
import Derived.Deep.QuietTactic
import Derived.BigQuiet
import Derived.WideLaws
import Derived.Deep.DeepCutAuto
import Derived.Deep.CutBlock
import Derived.Deep.RegionHeld3
import Derived.Laws.Rows
import Derived.Lib.AppendStr
import Derived.ArgAppend
import Derived.Laws.IdiomCopy
import Derived.RowKit
import Derived.OrdersHeld
import Derived.Laws.BitsLemmas
import Derived.Test.YtniikppojffiaaaProg
import Derived.Shelf.Abstract
import Derived.Laws.StructEq
import Derived.LoopN
import Derived.RangeFuncBox
import Derived.RangeFuncLeaves
import Derived.OwnWalkIn
import Derived.TacticsInMore
import Derived.LoopNIn
import Derived.LoopIn
import Derived.Maps.OwnSet
import Derived.Lib.SliceRun
import Derived.JoinedOf
import Derived.Test.YtniikppojffiaaaRows
import Derived.ProofKit
import Derived.OpenShut
import Derived.ShutString
import Derived.ChangeOld
import Derived.SizedLaws
import Derived.Lib.SmallJoins
import Derived.Deep.Slices
section
/- isPairing. -/
namespace Go.Proofs.Ytniikppojffiaaa.K
open Go.RowKit Go.Shelf Go.Proofs.Ytniikppojffiaaa.Q Go.Proofs.YtniikppojffiaaaW.PrintWords Go.Proofs.YtniikppojffiaaaW.PrintLast Go.Proofs.YtniikppojffiaaaW.PrintMore
open Go.Maps (Keyed IsMap)
set_option linter.unusedVariables false
set_option linter.unusedSimpArgs false

theorem upd_seen (S : Int → Bool) (a b x : Int) : upd (upd S a true) b true x = (S x || (a == x || b == x)) := by
 unfold upd
 by_cases h1 : x = b
 ·subst h1; simp
 ·by_cases h2 : x = a
  ·subst h2; simp [h1]
  ·have e1 : (a == x) = false := by simpa using fun h => h2 h.symm
   have e2 : (b == x) = false := by simpa using fun h => h1 h.symm
   simp [h1, h2, e1, e2]
theorem isPair_is {n : Int} {l : List Int} (hi : isC n l = true) (x y : Int) : impl_Complex_isPair.f (l.length + 1) n l x y = some (pairK l ⟨x, y⟩) := by
 obtain ⟨hn, hs, hr, h63⟩ := isC_faces hi
 have hh : ∀ f, impl_Complex_has.f (l.length + 1) n l f = some (hasB l f) := fun f => by unfold impl_Complex_has.f; rw [bs_is l f (by omega)]; rfl
 have hI : impl_isIn.f x y = some (inB x y) := rfl
 unfold impl_Complex_isPair.f pairK
 rw [hh x]
 simp only [Option.bind_some]
 cases h1 : hasB l x with
 | false => simp
 | true =>
  rw [if_pos rfl, hh y]
  simp only [Option.bind_some]
  cases h2 : hasB l y with
  | false => simp
  | true =>
   rw [if_pos rfl, hI]
   simp only [Option.bind_some]
   cases h3 : inB x y with
   | false => simp
   | true =>
    have hx := has_mem hi h1
    have hy := has_mem hi h2
    rw [if_pos rfl, size_is y (by omega) (by omega), size_is x (by omega) (by omega)]
    simp only [Option.bind_some]
    have := ones_le x
    have hw : wrap64 (onesI x + 1) = onesI x + 1 := by unfold wrap64; omega
    rw [hw]
    simp only [Bool.true_and]
    rfl
theorem isPair_calls {n : Int} (A : Option Addr) (c : Nat) {l : List Int} (hi : isC n l = true) (p : PairT) (w : World) (hk : Kx w A c l) :
  Calls Try.prog 88 #[.agg #[I n, .slice A l.length c], .agg #[I p.f0, I p.f1]] w fun e w' => e = .returned (.bool (pairK l p)) ∧ Grew w w' :=
 impl_Complex_isPair.calls (l.length + 1) n A c l p.f0 p.f1 (pairK l p) w hk.r hk.c (isPair_is hi p.f0 p.f1)

set_option maxRecDepth 100000 in
set_option maxHeartbeats 16000000 in
theorem isPairing_calls {n : Int} (A : Option Addr) (c : Nat) {l : List Int} (hi : isC n l = true) (A2 : Option Addr) (c2 : Nat) (q : List PairT) (w : World) (hk : Kx w A c l) (hq : Kq.C w A2 q.length q) (hc2 : q.length ≤ c2) (hq2 : q.length ≤ 2097152) :
  Calls Try.prog 64 #[.agg #[I n, .slice A l.length c], .slice A2 q.length c2] w fun e w' => e = .returned (.bool (pingB l q)) ∧ Grew w w' := by
 obtain ⟨W0, hW0⟩ : ∃ W0, W0 = (w.alloc (.cells #[I n, .slice A l.length c] 30)).alloc (.map #[] 0) := ⟨_, rfl⟩
 have hB : CB W0 w.heap.size n (.slice A l.length c) := by rw [hW0]; exact blk_alloc (blk_new w _) _
 have hS : SetM W0 (w.heap.size + 1) 0 (fun _ => false) := by
  rw [hW0]
  have := SetM_made (w.alloc (.cells #[I n, .slice A l.length c] 30))
  rwa [World.size_alloc] at this
 have hg : Grew w W0 := by rw [hW0]; exact below_alloc (below_alloc (Grew.refl w) _) _
 have HK := Aside0.mk hk
 have HQ := Aside0.mk hq
 have HC2 := Aside0.mk hc2
 have HI := Aside0.mk hi
 have HB := Aside0.mk hB
 have HS := Aside0.mk hS
 have HG := Aside0.mk hg
 have hmm := @run_makeMap Try.prog
 clear hk hq hc2 hi hB hS hg
 subst hW0
 go_enter Try.func64, Try.ntmps64
 go_wp2_with fail
 go_loopg [6, 7, 11] q.length (fun gg _ _ s11 wr => ∃ i : Nat, i ≤ q.length ∧ q.length - i ≤ gg ∧ s11 = .int .i64 i ∧ Aside0 (CB wr w.heap.size n (.slice A l.length c)) ∧ Aside0 (SetM wr (w.heap.size + 1) (2 * i) (seenB q i)) ∧ Aside0 (Grew w wr) ∧ Aside0 (∀ j, j < i → okAt l q j = true))
 case atStart => exact ⟨0, Nat.zero_le _, by omega, rfl, HB, ⟨HS.out.cong (fun x _ => by simp [seenB])⟩, HG, ⟨fun j hj => absurd hj (Nat.not_lt_zero _)⟩⟩
 case round =>
  obtain ⟨i, hi1, hgg, rfl, HBr, HSr, HGr, HO⟩ := hrel
  by_cases hlt : i < q.length
  ·have hltz : (i : Int) < (q.length : Int) := by omega
   obtain ⟨ad, e0, hx0, hx1⟩ := Kq_read (Kd.C_below HQ.out HGr.out) i hlt rfl
   cases e0
   have hlw : w.heap.size < wr.heap.size := blk_lt HBr.out
   have HOK := Aside0.mk (okAt_eq l q i hlt)
   have HSS := Aside0.mk (seen_succ q i hlt)
   have HPB : Aside0 (okAt l q i = false → pingB l q = false) := ⟨fun h => ping_false hlt h⟩
   have HPS : Aside0 (okAt l q i = true → ∀ j, j < i + 1 → okAt l q j = true) := ⟨fun h j hj => by
    rcases Nat.lt_or_ge j i with h1 | h1
    ·exact HO.out j h1
    ·rw [show j = i by omega]; exact h⟩
   -- the pair before
   have HPV : Aside0 (0 < i → wr.cell? (ad.add ((i - 1) * 2)) = some (I (q.getD (i - 1) z53).f0) ∧ wr.cell? ⟨(ad.add ((i - 1) * 2)).block, (ad.add ((i - 1) * 2)).off + 1, none⟩ = some (I (q.getD (i - 1) z53).f1)) := ⟨fun h0 => by
    obtain ⟨ad2, e2, hy0, hy1⟩ := Kq_read (Kd.C_below HQ.out HGr.out) (i - 1) (by omega) rfl
    cases e2
    have hz : q.getD (i - 1) z53 = q[i - 1] := by simp [show i - 1 < q.length by omega]
    rw [hz]
    exact ⟨hy0, hy1⟩⟩
   generalize q.getD (i - 1) z53 = r at HOK HPV
   generalize q[i] = p at hx0 hx1 HOK HSS
   have HLB := Aside0.mk (World.block_lt_of_cell? wr _ hx0)
   -- the world with the pair's box
   obtain ⟨W1, hW1⟩ : ∃ W1, W1 = wr.alloc (.cells #[I p.f0, I p.f1] 53) := ⟨_, rfl⟩
   have hp : W1.heap[wr.heap.size]? = some (.cells #[I p.f0, I p.f1] 53 (0, 0)) := by rw [hW1]; exact blk_new wr _
   have hG1 : Grew wr W1 := by rw [hW1]; exact below_alloc (Grew.refl wr) _
   have HS1 := Aside0.mk (HSr.out.later hG1)
   have HB1 : Aside0 (CB W1 w.heap.size n (.slice A l.length c)) := ⟨blk_below HBr.out hG1⟩
   have HP1 := Aside0.mk hp
   have HG1 := Aside0.mk hG1
   have HGw1 := Aside0.mk (Grew.trans HGr.out hG1)
   have HIP := Aside0.mk (fun (W : World) (h : Grew W1 W) => isPair_calls A c HI.out p W (HK.out.later (Grew.trans HGw1.out h)))
   have HCP := Aside0.mk (fun (W : World) => comparePairs_calls r.f0 r.f1 p.f0 p.f1 W)
   have k0 := HB1.out.c0
   have k1 := HB1.out.c1
   have hp0 : W1.cell? ⟨wr.heap.size, 0, none⟩ = some (I p.f0) := blk_cell hp 0
   have hp1 : W1.cell? ⟨wr.heap.size, 1, none⟩ = some (I p.f1) := blk_cell hp 1
   have hl0 := World.block_lt_of_cell? W1 _ k0
   have hl1 := World.block_lt_of_cell? W1 _ hp0
   have HE1 := Aside0.mk hW1
   clear hp hG1 hW1
   generalize hb1 : pairK l p = b1 at HOK HIP
   have HPK := Aside0.mk hb1
   clear hb1
   cases b1 with
   | false =>
    have HPF := Aside0.mk (HPB.out (by rw [HOK.out]; rfl))
    clear HPB HPS HOK
    go_wp2_with fail
    rw [← HE1.out]
    refine start_ (n := 30) (S := fun w' => w'.cell? ⟨w.heap.size, 0, none⟩ = some (I n) ∧ w'.cell? ⟨w.heap.size, 1, none⟩ = some (.slice A l.length c) ∧ w'.cell? ⟨wr.heap.size, 0, none⟩ = some (I p.f0) ∧ w'.cell? ⟨wr.heap.size, 1, none⟩ = some (I p.f1)) (ds := []) #[false,false,false,false,false,false,false,false,false,false,false,false,false,false,false,false,false,false,false,false,false,false,false,false,false,false,false,false,false,false] (by kernel_rfl) rfl rfl ⟨(Below.cell (w := W1) (below_drew (Grew.refl W1)) (p := ⟨w.heap.size, 0, none⟩) hl0).trans k0, (Below.cell (w := W1) (below_drew (Grew.refl W1)) (p := ⟨w.heap.size, 1, none⟩) hl0).trans k1, (Below.cell (w := W1) (below_drew (Grew.refl W1)) (p := ⟨wr.heap.size, 0, none⟩) hl1).trans hp0, (Below.cell (w := W1) (below_drew (Grew.refl W1)) (p := ⟨wr.heap.size, 1, none⟩) hl1).trans hp1⟩ (fun hHeld => ?_)
    refine take_ (i := 0) (N := some 16) (v := ?_) (a' := ?_) #[true,false,false,false,false,false,false,false,false,false,false,false,false,false,false,false,false,false,false,false,false,false,false,false,false,false,false,false,false,false] rfl rfl (by kernel_rfl) (fun _ _ _ h => h) (Or.inl ⟨by rfl, ?_⟩) hHeld ?_ ?_
    rotate_left; · rintro w' ⟨s0, s1, s2, s3⟩; go_simp; with_reducible rfl
    rotate_left; · simp only [Act.put, List.setIfInBounds_toArray, List.set_cons_zero, List.set_cons_succ, i64_w, i32_w]; rfl
    refine take_ (i := 1) (N := some 17) (v := ?_) (a' := ?_) #[true,true,false,false,false,false,false,false,false,false,false,false,false,false,false,false,false,false,false,false,false,false,false,false,false,false,false,false,false,false] rfl rfl (by kernel_rfl) (fun _ _ _ h => h) (Or.inl ⟨by rfl, ?_⟩) hHeld ?_ ?_
    rotate_left; · rintro w' ⟨s0, s1, s2, s3⟩; go_simp; with_reducible rfl
    rotate_left; · simp only [Act.put, List.setIfInBounds_toArray, List.set_cons_zero, List.set_cons_succ, i64_w, i32_w]; rfl
    refine one_ (i := 2) (N := some 18) #[true,true,true,false,false,false,false,false,false,false,false,false,false,false,false,false,false,false,false,false,false,false,false,false,false,false,false,false,false,false] rfl rfl (by kernel_rfl) (by decide) (fun K hK => ?_)
    refine goes_ Try.func88 (by kernel_rfl) rfl #[.agg #[I n, .slice A l.length c], .agg #[I p.f0, I p.f1]] (by rfl) rfl rfl (by simp only [List.map_toArray, List.map_cons, List.map_nil]; rfl) ?_
    with_reducible refine (HIP.out _ (below_drew (Grew.refl W1))).mono ?_
    rintro e w3 ⟨rfl, hGa⟩
    refine ⟨_, rfl, ?_⟩
    have HL := Aside0.mk (Grew.trans (below_drew (Grew.refl W1)) hGa)
    clear hGa
    refine hK.out _ _ ⟨(Below.cell (w := W1) HL.out (p := ⟨w.heap.size, 0, none⟩) hl0).trans k0, (Below.cell (w := W1) HL.out (p := ⟨w.heap.size, 1, none⟩) hl0).trans k1, (Below.cell (w := W1) HL.out (p := ⟨wr.heap.size, 0, none⟩) hl1).trans hp0, (Below.cell (w := W1) HL.out (p := ⟨wr.heap.size, 1, none⟩) hl1).trans hp1⟩ (fun hHeld => ?_)
    clear hK K
    refine norm_ (a' := ?_) ?_ ?_
    rotate_left
    ·show Act.put _ (some 18) _ = _
     simp only [Act.put, List.setIfInBounds_toArray, List.set_cons_zero, List.set_cons_succ, i64_w, i32_w]
     rfl
    refine pure_ (i := 3) (N := some 19) (v := ?_) (a' := ?_) #[true,true,true,true,false,false,false,false,false,false,false,false,false,false,false,false,false,false,false,false,false,false,false,false,false,false,false,false,false,false] rfl rfl (by kernel_rfl) (fun _ _ _ h => h) (Or.inl ⟨by rfl, ?_⟩) ?_ ?_
    rotate_left; · intro w'; go_simp; with_reducible rfl
    rotate_left; · simp only [Act.put, List.setIfInBounds_toArray, List.set_cons_zero, List.set_cons_succ, i64_w, i32_w]; rfl
    refine pure_ (i := 4) (N := some 20) (v := ?_) (a' := ?_) #[true,true,true,true,true,false,false,false,false,false,false,false,false,false,false,false,false,false,false,false,false,false,false,false,false,false,false,false,false,false] rfl rfl (by kernel_rfl) (fun _ _ _ h => h) (Or.inl ⟨by rfl, ?_⟩) ?_ ?_
    rotate_left; · intro w'; go_simp; with_reducible rfl
    rotate_left; · simp only [Act.put, List.setIfInBounds_toArray, List.set_cons_zero, List.set_cons_succ, i64_w, i32_w]; rfl
    refine pure_ (i := 5) (N := some 21) (v := undef) (a' := ?_) #[true,true,true,true,true,true,false,false,false,false,false,false,false,false,false,false,false,false,false,false,false,false,false,false,false,false,false,false,false,false] rfl rfl (by kernel_rfl) (fun _ _ _ h => h) (Or.inr ⟨by rfl, rfl⟩) ?_ ?_
    rotate_left; · simp only [Act.put, List.setIfInBounds_toArray, List.set_cons_zero, List.set_cons_succ, i64_w, i32_w]; rfl
    refine pure_ (i := 6) (N := some 22) (v := undef) (a' := ?_) #[true,true,true,true,true,true,true,false,false,false,false,false,false,false,false,false,false,false,false,false,false,false,false,false,false,false,false,false,false,false] rfl rfl (by kernel_rfl) (fun _ _ _ h => h) (Or.inr ⟨by rfl, rfl⟩) ?_ ?_
    rotate_left; · simp only [Act.put, List.setIfInBounds_toArray, List.set_cons_zero, List.set_cons_succ, i64_w, i32_w]; rfl
    refine pure_ (i := 7) (N := some 23) (v := undef) (a' := ?_) #[true,true,true,true,true,true,true,true,false,false,false,false,false,false,false,false,false,false,false,false,false,false,false,false,false,false,false,false,false,false] rfl rfl (by kernel_rfl) (fun _ _ _ h => h) (Or.inr ⟨by rfl, rfl⟩) ?_ ?_
    rotate_left; · simp only [Act.put, List.setIfInBounds_toArray, List.set_cons_zero, List.set_cons_succ, i64_w, i32_w]; rfl
    refine pure_ (i := 8) (N := some 24) (v := undef) (a' := ?_) #[true,true,true,true,true,true,true,true,true,false,false,false,false,false,false,false,false,false,false,false,false,false,false,false,false,false,false,false,false,false] rfl rfl (by kernel_rfl) (fun _ _ _ h => h) (Or.inr ⟨by rfl, rfl⟩) ?_ ?_
    rotate_left; · simp only [Act.put, List.setIfInBounds_toArray, List.set_cons_zero, List.set_cons_succ, i64_w, i32_w]; rfl
    refine pure_ (i := 9) (N := some 25) (v := ?_) (a' := ?_) #[true,true,true,true,true,true,true,true,true,true,false,false,false,false,false,false,false,false,false,false,false,false,false,false,false,false,false,false,false,false] rfl rfl (by kernel_rfl) (fun _ _ _ h => h) (Or.inl ⟨by rfl, ?_⟩) ?_ ?_
    rotate_left; · intro w'; go_simp; with_reducible rfl
    rotate_left; · simp only [Act.put, List.setIfInBounds_toArray, List.set_cons_zero, List.set_cons_succ, i64_w, i32_w]; rfl
    refine pure_ (i := 10) (N := some 26) (v := ?_) (a' := ?_) #[true,true,true,true,true,true,true,true,true,true,true,false,false,false,false,false,false,false,false,false,false,false,false,false,false,false,false,false,false,false] rfl rfl (by kernel_rfl) (fun _ _ _ h => h) (Or.inl ⟨by rfl, ?_⟩) ?_ ?_
    rotate_left; · intro w'; go_simp; with_reducible rfl
    rotate_left; · simp only [Act.put, List.setIfInBounds_toArray, List.set_cons_zero, List.set_cons_succ, i64_w, i32_w]; rfl
    refine pure_ (i := 11) (N := some 27) (v := undef) (a' := ?_) #[true,true,true,true,true,true,true,true,true,true,true,true,false,false,false,false,false,false,false,false,false,false,false,false,false,false,false,false,false,false] rfl rfl (by kernel_rfl) (fun _ _ _ h => h) (Or.inr ⟨by rfl, rfl⟩) ?_ ?_
    rotate_left; · simp only [Act.put, List.setIfInBounds_toArray, List.set_cons_zero, List.set_cons_succ, i64_w, i32_w]; rfl
    refine pure_ (i := 12) (N := some 28) (v := undef) (a' := ?_) #[true,true,true,true,true,true,true,true,true,true,true,true,true,false,false,false,false,false,false,false,false,false,false,false,false,false,false,false,false,false] rfl rfl (by kernel_rfl) (fun _ _ _ h => h) (Or.inr ⟨by rfl, rfl⟩) ?_ ?_
    rotate_left; · simp only [Act.put, List.setIfInBounds_toArray, List.set_cons_zero, List.set_cons_succ, i64_w, i32_w]; rfl
    refine pure_ (i := 13) (N := some 29) (v := undef) (a' := ?_) #[true,true,true,true,true,true,true,true,true,true,true,true,true,true,false,false,false,false,false,false,false,false,false,false,false,false,false,false,false,false] rfl rfl (by kernel_rfl) (fun _ _ _ h => h) (Or.inr ⟨by rfl, rfl⟩) ?_ ?_
    rotate_left; · simp only [Act.put, List.setIfInBounds_toArray, List.set_cons_zero, List.set_cons_succ, i64_w, i32_w]; rfl
    refine pure_ (i := 14) (N := some 30) (v := undef) (a' := ?_) #[true,true,true,true,true,true,true,true,true,true,true,true,true,true,true,false,false,false,false,false,false,false,false,false,false,false,false,false,false,false] rfl rfl (by kernel_rfl) (fun _ _ _ h => h) (Or.inr ⟨by rfl, rfl⟩) ?_ ?_
    rotate_left; · simp only [Act.put, List.setIfInBounds_toArray, List.set_cons_zero, List.set_cons_succ, i64_w, i32_w]; rfl
    refine pure_ (i := 15) (N := some 31) (v := ?_) (a' := ?_) #[true,true,true,true,true,true,true,true,true,true,true,true,true,true,true,true,false,false,false,false,false,false,false,false,false,false,false,false,false,false] rfl rfl (by kernel_rfl) (fun _ _ _ h => h) (Or.inl ⟨by rfl, ?_⟩) ?_ ?_
    rotate_left; · intro w'; go_simp; with_reducible rfl
    rotate_left; · simp only [Act.put, List.setIfInBounds_toArray, List.set_cons_zero, List.set_cons_succ, i64_w, i32_w]; rfl
    refine pure_ (i := 16) (N := some 32) (v := ?_) (a' := ?_) #[true,true,true,true,true,true,true,true,true,true,true,true,true,true,true,true,true,false,false,false,false,false,false,false,false,false,false,false,false,false] rfl rfl (by kernel_rfl) (fun _ _ _ h => h) (Or.inl ⟨by rfl, ?_⟩) ?_ ?_
    rotate_left; · intro w'; go_simp; with_reducible rfl
    rotate_left; · simp only [Act.put, List.setIfInBounds_toArray, List.set_cons_zero, List.set_cons_succ, i64_w, i32_w]; rfl
    refine pure_ (i := 17) (N := some 33) (v := undef) (a' := ?_) #[true,true,true,true,true,true,true,true,true,true,true,true,true,true,true,true,true,true,false,false,false,false,false,false,false,false,false,false,false,false] rfl rfl (by kernel_rfl) (fun _ _ _ h => h) (Or.inr ⟨by rfl, rfl⟩) ?_ ?_
    rotate_left; · simp only [Act.put, List.setIfInBounds_toArray, List.set_cons_zero, List.set_cons_succ, i64_w, i32_w]; rfl
    refine pure_ (i := 18) (N := some 34) (v := undef) (a' := ?_) #[true,true,true,true,true,true,true,true,true,true,true,true,true,true,true,true,true,true,true,false,false,false,false,false,false,false,false,false,false,false] rfl rfl (by kernel_rfl) (fun _ _ _ h => h) (Or.inr ⟨by rfl, rfl⟩) ?_ ?_
    rotate_left; · simp only [Act.put, List.setIfInBounds_toArray, List.set_cons_zero, List.set_cons_succ, i64_w, i32_w]; rfl
    refine pure_ (i := 19) (N := some 35) (v := undef) (a' := ?_) #[true,true,true,true,true,true,true,true,true,true,true,true,true,true,true,true,true,true,true,true,false,false,false,false,false,false,false,false,false,false] rfl rfl (by kernel_rfl) (fun _ _ _ h => h) (Or.inr ⟨by rfl, rfl⟩) ?_ ?_
    rotate_left; · simp only [Act.put, List.setIfInBounds_toArray, List.set_cons_zero, List.set_cons_succ, i64_w, i32_w]; rfl
    refine pure_ (i := 20) (N := some 36) (v := undef) (a' := ?_) #[true,true,true,true,true,true,true,true,true,true,true,true,true,true,true,true,true,true,true,true,true,false,false,false,false,false,false,false,false,false] rfl rfl (by kernel_rfl) (fun _ _ _ h => h) (Or.inr ⟨by rfl, rfl⟩) ?_ ?_
    rotate_left; · simp only [Act.put, List.setIfInBounds_toArray, List.set_cons_zero, List.set_cons_succ, i64_w, i32_w]; rfl
    refine pure_ (i := 21) (N := some 37) (v := undef) (a' := ?_) #[true,true,true,true,true,true,true,true,true,true,true,true,true,true,true,true,true,true,true,true,true,true,false,false,false,false,false,false,false,false] rfl rfl (by kernel_rfl) (fun _ _ _ h => h) (Or.inr ⟨by rfl, rfl⟩) ?_ ?_
    rotate_left; · simp only [Act.put, List.setIfInBounds_toArray, List.set_cons_zero, List.set_cons_succ, i64_w, i32_w]; rfl
    refine pure_ (i := 22) (N := some 38) (v := undef) (a' := ?_) #[true,true,true,true,true,true,true,true,true,true,true,true,true,true,true,true,true,true,true,true,true,true,true,false,false,false,false,false,false,false] rfl rfl (by kernel_rfl) (fun _ _ _ h => h) (Or.inr ⟨by rfl, rfl⟩) ?_ ?_
    rotate_left; · simp only [Act.put, List.setIfInBounds_toArray, List.set_cons_zero, List.set_cons_succ, i64_w, i32_w]; rfl
    refine pure_ (i := 23) (N := some 39) (v := undef) (a' := ?_) #[true,true,true,true,true,true,true,true,true,true,true,true,true,true,true,true,true,true,true,true,true,true,true,true,false,false,false,false,false,false] rfl rfl (by kernel_rfl) (fun _ _ _ h => h) (Or.inr ⟨by rfl, rfl⟩) ?_ ?_
    rotate_left; · simp only [Act.put, List.setIfInBounds_toArray, List.set_cons_zero, List.set_cons_succ, i64_w, i32_w]; rfl
    refine pure_ (i := 24) (N := some 40) (v := undef) (a' := ?_) #[true,true,true,true,true,true,true,true,true,true,true,true,true,true,true,true,true,true,true,true,true,true,true,true,true,false,false,false,false,false] rfl rfl (by kernel_rfl) (fun _ _ _ h => h) (Or.inr ⟨by rfl, rfl⟩) ?_ ?_
    rotate_left; · simp only [Act.put, List.setIfInBounds_toArray, List.set_cons_zero, List.set_cons_succ, i64_w, i32_w]; rfl
    refine pure_ (i := 25) (N := some 41) (v := undef) (a' := ?_) #[true,true,true,true,true,true,true,true,true,true,true,true,true,true,true,true,true,true,true,true,true,true,true,true,true,true,false,false,false,false] rfl rfl (by kernel_rfl) (fun _ _ _ h => h) (Or.inr ⟨by rfl, rfl⟩) ?_ ?_
    rotate_left; · simp only [Act.put, List.setIfInBounds_toArray, List.set_cons_zero, List.set_cons_succ, i64_w, i32_w]; rfl
    refine pure_ (i := 26) (N := some 42) (v := undef) (a' := ?_) #[true,true,true,true,true,true,true,true,true,true,true,true,true,true,true,true,true,true,true,true,true,true,true,true,true,true,true,false,false,false] rfl rfl (by kernel_rfl) (fun _ _ _ h => h) (Or.inr ⟨by rfl, rfl⟩) ?_ ?_
    rotate_left; · simp only [Act.put, List.setIfInBounds_toArray, List.set_cons_zero, List.set_cons_succ, i64_w, i32_w]; rfl
    refine pure_ (i := 27) (N := some 43) (v := undef) (a' := ?_) #[true,true,true,true,true,true,true,true,true,true,true,true,true,true,true,true,true,true,true,true,true,true,true,true,true,true,true,true,false,false] rfl rfl (by kernel_rfl) (fun _ _ _ h => h) (Or.inr ⟨by rfl, rfl⟩) ?_ ?_
    rotate_left; · simp only [Act.put, List.setIfInBounds_toArray, List.set_cons_zero, List.set_cons_succ, i64_w, i32_w]; rfl
    refine pure_ (i := 28) (N := some 44) (v := undef) (a' := ?_) #[true,true,true,true,true,true,true,true,true,true,true,true,true,true,true,true,true,true,true,true,true,true,true,true,true,true,true,true,true,false] rfl rfl (by kernel_rfl) (fun _ _ _ h => h) (Or.inr ⟨by rfl, rfl⟩) ?_ ?_
    rotate_left; · simp only [Act.put, List.setIfInBounds_toArray, List.set_cons_zero, List.set_cons_succ, i64_w, i32_w]; rfl
    refine pure_ (i := 29) (N := some 45) (v := ?_) (a' := ?_) #[true,true,true,true,true,true,true,true,true,true,true,true,true,true,true,true,true,true,true,true,true,true,true,true,true,true,true,true,true,true] rfl rfl (by kernel_rfl) (fun _ _ _ h => h) (Or.inl ⟨by rfl, ?_⟩) ?_ ?_
    rotate_left; · intro w'; go_simp; with_reducible rfl
    rotate_left; · simp only [Act.put, List.setIfInBounds_toArray, List.set_cons_zero, List.set_cons_succ, i64_w, i32_w]; rfl
    refine done_ (by kernel_rfl) ?_
    go_wp2_with fail
    go_ret
    exact ⟨by rw [HPF.out]; rfl, Grew.trans HGw1.out HL.out⟩
   | true =>
    have HM := Aside0.mk (pairK_mem HI.out HPK.out)
    have HW0 := Aside0.mk (wf_face HM.out.1.2.1 HM.out.1.2.2)
    have HW1 := Aside0.mk (wf_face HM.out.2.1.2.1 HM.out.2.1.2.2)
    cases hb2 : seenB q i p.f0 with
    | true =>
     have HL0 := Aside0.mk hb2
     clear hb2
     have HPF := Aside0.mk (HPB.out (by rw [HOK.out]; rw [HL0.out]; rfl))
     clear HPB HPS HOK
     go_wp2_with fail
     rw [← HE1.out]
     have HLK0 : Aside0 (∀ W, Grew W1 W → (Instr.lookup TMap (.map (some (w.heap.size + 1))) (I p.f0) false).run Try.prog W = .ok (.bool true) W) := ⟨fun W h => by have h2 := (HS1.out.later h).look p.f0 HW0.out; rw [HL0.out] at h2; exact h2⟩
     refine start_ (n := 30) (S := fun w' => w'.cell? ⟨w.heap.size, 0, none⟩ = some (I n) ∧ w'.cell? ⟨w.heap.size, 1, none⟩ = some (.slice A l.length c) ∧ w'.cell? ⟨wr.heap.size, 0, none⟩ = some (I p.f0) ∧ w'.cell? ⟨wr.heap.size, 1, none⟩ = some (I p.f1) ∧ (Instr.lookup TMap (.map (some (w.heap.size + 1))) (I p.f0) false).run Try.prog w' = .ok (.bool true) w') (ds := []) #[false,false,false,false,false,false,false,false,false,false,false,false,false,false,false,false,false,false,false,false,false,false,false,false,false,false,false,false,false,false] (by kernel_rfl) rfl rfl ⟨(Below.cell (w := W1) (below_drew (Grew.refl W1)) (p := ⟨w.heap.size, 0, none⟩) hl0).trans k0, (Below.cell (w := W1) (below_drew (Grew.refl W1)) (p := ⟨w.heap.size, 1, none⟩) hl0).trans k1, (Below.cell (w := W1) (below_drew (Grew.refl W1)) (p := ⟨wr.heap.size, 0, none⟩) hl1).trans hp0, (Below.cell (w := W1) (below_drew (Grew.refl W1)) (p := ⟨wr.heap.size, 1, none⟩) hl1).trans hp1, HLK0.out _ (below_drew (Grew.refl W1))⟩ (fun hHeld => ?_)
     refine take_ (i := 0) (N := some 16) (v := ?_) (a' := ?_) #[true,false,false,false,false,false,false,false,false,false,false,false,false,false,false,false,false,false,false,false,false,false,false,false,false,false,false,false,false,false] rfl rfl (by kernel_rfl) (fun _ _ _ h => h) (Or.inl ⟨by rfl, ?_⟩) hHeld ?_ ?_
     rotate_left; · rintro w' ⟨s0, s1, s2, s3, s4⟩; go_simp; with_reducible rfl
     rotate_left; · simp only [Act.put, List.setIfInBounds_toArray, List.set_cons_zero, List.set_cons_succ, i64_w, i32_w]; rfl
     refine take_ (i := 1) (N := some 17) (v := ?_) (a' := ?_) #[true,true,false,false,false,false,false,false,false,false,false,false,false,false,false,false,false,false,false,false,false,false,false,false,false,false,false,false,false,false] rfl rfl (by kernel_rfl) (fun _ _ _ h => h) (Or.inl ⟨by rfl, ?_⟩) hHeld ?_ ?_
     rotate_left; · rintro w' ⟨s0, s1, s2, s3, s4⟩; go_simp; with_reducible rfl
     rotate_left; · simp only [Act.put, List.setIfInBounds_toArray, List.set_cons_zero, List.set_cons_succ, i64_w, i32_w]; rfl
     refine one_ (i := 2) (N := some 18) #[true,true,true,false,false,false,false,false,false,false,false,false,false,false,false,false,false,false,false,false,false,false,false,false,false,false,false,false,false,false] rfl rfl (by kernel_rfl) (by decide) (fun K hK => ?_)
     refine goes_ Try.func88 (by kernel_rfl) rfl #[.agg #[I n, .slice A l.length c], .agg #[I p.f0, I p.f1]] (by rfl) rfl rfl (by simp only [List.map_toArray, List.map_cons, List.map_nil]; rfl) ?_
     with_reducible refine (HIP.out _ (below_drew (Grew.refl W1))).mono ?_
     rintro e w3 ⟨rfl, hGa⟩
     refine ⟨_, rfl, ?_⟩
     have HL := Aside0.mk (Grew.trans (below_drew (Grew.refl W1)) hGa)
     clear hGa
     refine hK.out _ _ ⟨(Below.cell (w := W1) HL.out (p := ⟨w.heap.size, 0, none⟩) hl0).trans k0, (Below.cell (w := W1) HL.out (p := ⟨w.heap.size, 1, none⟩) hl0).trans k1, (Below.cell (w := W1) HL.out (p := ⟨wr.heap.size, 0, none⟩) hl1).trans hp0, (Below.cell (w := W1) HL.out (p := ⟨wr.heap.size, 1, none⟩) hl1).trans hp1, HLK0.out _ HL.out⟩ (fun hHeld => ?_)
     clear hK K
     refine norm_ (a' := ?_) ?_ ?_
     rotate_left
     ·show Act.put _ (some 18) _ = _
      simp only [Act.put, List.setIfInBounds_toArray, List.set_cons_zero, List.set_cons_succ, i64_w, i32_w]
      rfl
     refine pure_ (i := 3) (N := some 19) (v := ?_) (a' := ?_) #[true,true,true,true,false,false,false,false,false,false,false,false,false,false,false,false,false,false,false,false,false,false,false,false,false,false,false,false,false,false] rfl rfl (by kernel_rfl) (fun _ _ _ h => h) (Or.inl ⟨by rfl, ?_⟩) ?_ ?_
     rotate_left; · intro w'; go_simp; with_reducible rfl
     rotate_left; · simp only [Act.put, List.setIfInBounds_toArray, List.set_cons_zero, List.set_cons_succ, i64_w, i32_w]; rfl
     refine pure_ (i := 4) (N := some 20) (v := ?_) (a' := ?_) #[true,true,true,true,true,false,false,false,false,false,false,false,false,false,false,false,false,false,false,false,false,false,false,false,false,false,false,false,false,false] rfl rfl (by kernel_rfl) (fun _ _ _ h => h) (Or.inl ⟨by rfl, ?_⟩) ?_ ?_
     rotate_left; · intro w'; go_simp; with_reducible rfl
     rotate_left; · simp only [Act.put, List.setIfInBounds_toArray, List.set_cons_zero, List.set_cons_succ, i64_w, i32_w]; rfl
     refine pure_ (i := 5) (N := some 21) (v := ?_) (a' := ?_) #[true,true,true,true,true,true,false,false,false,false,false,false,false,false,false,false,false,false,false,false,false,false,false,false,false,false,false,false,false,false] rfl rfl (by kernel_rfl) (fun _ _ _ h => h) (Or.inl ⟨by rfl, ?_⟩) ?_ ?_
     rotate_left; · intro w'; go_simp; with_reducible rfl
     rotate_left; · simp only [Act.put, List.setIfInBounds_toArray, List.set_cons_zero, List.set_cons_succ, i64_w, i32_w]; rfl
     refine pure_ (i := 6) (N := some 22) (v := ?_) (a' := ?_) #[true,true,true,true,true,true,true,false,false,false,false,false,false,false,false,false,false,false,false,false,false,false,false,false,false,false,false,false,false,false] rfl rfl (by kernel_rfl) (fun _ _ _ h => h) (Or.inl ⟨by rfl, ?_⟩) ?_ ?_
     rotate_left; · intro w'; go_simp; with_reducible rfl
     rotate_left; · simp only [Act.put, List.setIfInBounds_toArray, List.set_cons_zero, List.set_cons_succ, i64_w, i32_w]; rfl
     refine take_ (i := 7) (N := some 23) (v := ?_) (a' := ?_) #[true,true,true,true,true,true,true,true,false,false,false,false,false,false,false,false,false,false,false,false,false,false,false,false,false,false,false,false,false,false] rfl rfl (by kernel_rfl) (fun _ _ _ h => h) (Or.inl ⟨by rfl, ?_⟩) hHeld ?_ ?_
     rotate_left; · rintro w' ⟨s0, s1, s2, s3, s4⟩; go_simp; with_reducible rfl
     rotate_left; · simp only [Act.put, List.setIfInBounds_toArray, List.set_cons_zero, List.set_cons_succ, i64_w, i32_w]; rfl
     refine take_ (i := 8) (N := some 24) (v := ?_) (a' := ?_) #[true,true,true,true,true,true,true,true,true,false,false,false,false,false,false,false,false,false,false,false,false,false,false,false,false,false,false,false,false,false] rfl rfl (by kernel_rfl) (fun _ _ _ h => h) (Or.inl ⟨by rfl, ?_⟩) hHeld ?_ ?_
     rotate_left; · rintro w' ⟨s0, s1, s2, s3, s4⟩; go_simp; with_reducible rfl
     rotate_left; · simp only [Act.put, List.setIfInBounds_toArray, List.set_cons_zero, List.set_cons_succ, i64_w, i32_w]; rfl
     refine pure_ (i := 9) (N := some 25) (v := ?_) (a' := ?_) #[true,true,true,true,true,true,true,true,true,true,false,false,false,false,false,false,false,false,false,false,false,false,false,false,false,false,false,false,false,false] rfl rfl (by kernel_rfl) (fun _ _ _ h => h) (Or.inl ⟨by rfl, ?_⟩) ?_ ?_
     rotate_left; · intro w'; go_simp; with_reducible rfl
     rotate_left; · simp only [Act.put, List.setIfInBounds_toArray, List.set_cons_zero, List.set_cons_succ, i64_w, i32_w]; rfl
     refine pure_ (i := 10) (N := some 26) (v := ?_) (a' := ?_) #[true,true,true,true,true,true,true,true,true,true,true,false,false,false,false,false,false,false,false,false,false,false,false,false,false,false,false,false,false,false] rfl rfl (by kernel_rfl) (fun _ _ _ h => h) (Or.inl ⟨by rfl, ?_⟩) ?_ ?_
     rotate_left; · intro w'; go_simp; with_reducible rfl
     rotate_left; · simp only [Act.put, List.setIfInBounds_toArray, List.set_cons_zero, List.set_cons_succ, i64_w, i32_w]; rfl
     refine pure_ (i := 11) (N := some 27) (v := undef) (a' := ?_) #[true,true,true,true,true,true,true,true,true,true,true,true,false,false,false,false,false,false,false,false,false,false,false,false,false,false,false,false,false,false] rfl rfl (by kernel_rfl) (fun _ _ _ h => h) (Or.inr ⟨by rfl, rfl⟩) ?_ ?_
     rotate_left; · simp only [Act.put, List.setIfInBounds_toArray, List.set_cons_zero, List.set_cons_succ, i64_w, i32_w]; rfl
     refine pure_ (i := 12) (N := some 28) (v := undef) (a' := ?_) #[true,true,true,true,true,true,true,true,true,true,true,true,true,false,false,false,false,false,false,false,false,false,false,false,false,false,false,false,false,false] rfl rfl (by kernel_rfl) (fun _ _ _ h => h) (Or.inr ⟨by rfl, rfl⟩) ?_ ?_
     rotate_left; · simp only [Act.put, List.setIfInBounds_toArray, List.set_cons_zero, List.set_cons_succ, i64_w, i32_w]; rfl
     refine pure_ (i := 13) (N := some 29) (v := undef) (a' := ?_) #[true,true,true,true,true,true,true,true,true,true,true,true,true,true,false,false,false,false,false,false,false,false,false,false,false,false,false,false,false,false] rfl rfl (by kernel_rfl) (fun _ _ _ h => h) (Or.inr ⟨by rfl, rfl⟩) ?_ ?_
     rotate_left; · simp only [Act.put, List.setIfInBounds_toArray, List.set_cons_zero, List.set_cons_succ, i64_w, i32_w]; rfl
     refine pure_ (i := 14) (N := some 30) (v := undef) (a' := ?_) #[true,true,true,true,true,true,true,true,true,true,true,true,true,true,true,false,false,false,false,false,false,false,false,false,false,false,false,false,false,false] rfl rfl (by kernel_rfl) (fun _ _ _ h => h) (Or.inr ⟨by rfl, rfl⟩) ?_ ?_
     rotate_left; · simp only [Act.put, List.setIfInBounds_toArray, List.set_cons_zero, List.set_cons_succ, i64_w, i32_w]; rfl
     refine pure_ (i := 15) (N := some 31) (v := ?_) (a' := ?_) #[true,true,true,true,true,true,true,true,true,true,true,true,true,true,true,true,false,false,false,false,false,false,false,false,false,false,false,false,false,false] rfl rfl (by kernel_rfl) (fun _ _ _ h => h) (Or.inl ⟨by rfl, ?_⟩) ?_ ?_
     rotate_left; · intro w'; go_simp; with_reducible rfl
     rotate_left; · simp only [Act.put, List.setIfInBounds_toArray, List.set_cons_zero, List.set_cons_succ, i64_w, i32_w]; rfl
     refine pure_ (i := 16) (N := some 32) (v := ?_) (a' := ?_) #[true,true,true,true,true,true,true,true,true,true,true,true,true,true,true,true,true,false,false,false,false,false,false,false,false,false,false,false,false,false] rfl rfl (by kernel_rfl) (fun _ _ _ h => h) (Or.inl ⟨by rfl, ?_⟩) ?_ ?_
     rotate_left; · intro w'; go_simp; with_reducible rfl
     rotate_left; · simp only [Act.put, List.setIfInBounds_toArray, List.set_cons_zero, List.set_cons_succ, i64_w, i32_w]; rfl
     refine pure_ (i := 17) (N := some 33) (v := undef) (a' := ?_) #[true,true,true,true,true,true,true,true,true,true,true,true,true,true,true,true,true,true,false,false,false,false,false,false,false,false,false,false,false,false] rfl rfl (by kernel_rfl) (fun _ _ _ h => h) (Or.inr ⟨by rfl, rfl⟩) ?_ ?_
     rotate_left; · simp only [Act.put, List.setIfInBounds_toArray, List.set_cons_zero, List.set_cons_succ, i64_w, i32_w]; rfl
     refine pure_ (i := 18) (N := some 34) (v := undef) (a' := ?_) #[true,true,true,true,true,true,true,true,true,true,true,true,true,true,true,true,true,true,true,false,false,false,false,false,false,false,false,false,false,false] rfl rfl (by kernel_rfl) (fun _ _ _ h => h) (Or.inr ⟨by rfl, rfl⟩) ?_ ?_
     rotate_left; · simp only [Act.put, List.setIfInBounds_toArray, List.set_cons_zero, List.set_cons_succ, i64_w, i32_w]; rfl
     refine pure_ (i := 19) (N := some 35) (v := undef) (a' := ?_) #[true,true,true,true,true,true,true,true,true,true,true,true,true,true,true,true,true,true,true,true,false,false,false,false,false,false,false,false,false,false] rfl rfl (by kernel_rfl) (fun _ _ _ h => h) (Or.inr ⟨by rfl, rfl⟩) ?_ ?_
     rotate_left; · simp only [Act.put, List.setIfInBounds_toArray, List.set_cons_zero, List.set_cons_succ, i64_w, i32_w]; rfl
     refine pure_ (i := 20) (N := some 36) (v := undef) (a' := ?_) #[true,true,true,true,true,true,true,true,true,true,true,true,true,true,true,true,true,true,true,true,true,false,false,false,false,false,false,false,false,false] rfl rfl (by kernel_rfl) (fun _ _ _ h => h) (Or.inr ⟨by rfl, rfl⟩) ?_ ?_
     rotate_left; · simp only [Act.put, List.setIfInBounds_toArray, List.set_cons_zero, List.set_cons_succ, i64_w, i32_w]; rfl
     refine pure_ (i := 21) (N := some 37) (v := undef) (a' := ?_) #[true,true,true,true,true,true,true,true,true,true,true,true,true,true,true,true,true,true,true,true,true,true,false,false,false,false,false,false,false,false] rfl rfl (by kernel_rfl) (fun _ _ _ h => h) (Or.inr ⟨by rfl, rfl⟩) ?_ ?_
     rotate_left; · simp only [Act.put, List.setIfInBounds_toArray, List.set_cons_zero, List.set_cons_succ, i64_w, i32_w]; rfl
     refine pure_ (i := 22) (N := some 38) (v := undef) (a' := ?_) #[true,true,true,true,true,true,true,true,true,true,true,true,true,true,true,true,true,true,true,true,true,true,true,false,false,false,false,false,false,false] rfl rfl (by kernel_rfl) (fun _ _ _ h => h) (Or.inr ⟨by rfl, rfl⟩) ?_ ?_
     rotate_left; · simp only [Act.put, List.setIfInBounds_toArray, List.set_cons_zero, List.set_cons_succ, i64_w, i32_w]; rfl
     refine pure_ (i := 23) (N := some 39) (v := undef) (a' := ?_) #[true,true,true,true,true,true,true,true,true,true,true,true,true,true,true,true,true,true,true,true,true,true,true,true,false,false,false,false,false,false] rfl rfl (by kernel_rfl) (fun _ _ _ h => h) (Or.inr ⟨by rfl, rfl⟩) ?_ ?_
     rotate_left; · simp only [Act.put, List.setIfInBounds_toArray, List.set_cons_zero, List.set_cons_succ, i64_w, i32_w]; rfl
     refine pure_ (i := 24) (N := some 40) (v := undef) (a' := ?_) #[true,true,true,true,true,true,true,true,true,true,true,true,true,true,true,true,true,true,true,true,true,true,true,true,true,false,false,false,false,false] rfl rfl (by kernel_rfl) (fun _ _ _ h => h) (Or.inr ⟨by rfl, rfl⟩) ?_ ?_
     rotate_left; · simp only [Act.put, List.setIfInBounds_toArray, List.set_cons_zero, List.set_cons_succ, i64_w, i32_w]; rfl
     refine pure_ (i := 25) (N := some 41) (v := undef) (a' := ?_) #[true,true,true,true,true,true,true,true,true,true,true,true,true,true,true,true,true,true,true,true,true,true,true,true,true,true,false,false,false,false] rfl rfl (by kernel_rfl) (fun _ _ _ h => h) (Or.inr ⟨by rfl, rfl⟩) ?_ ?_
     rotate_left; · simp only [Act.put, List.setIfInBounds_toArray, List.set_cons_zero, List.set_cons_succ, i64_w, i32_w]; rfl
     refine pure_ (i := 26) (N := some 42) (v := undef) (a' := ?_) #[true,true,true,true,true,true,true,true,true,true,true,true,true,true,true,true,true,true,true,true,true,true,true,true,true,true,true,false,false,false] rfl rfl (by kernel_rfl) (fun _ _ _ h => h) (Or.inr ⟨by rfl, rfl⟩) ?_ ?_
     rotate_left; · simp only [Act.put, List.setIfInBounds_toArray, List.set_cons_zero, List.set_cons_succ, i64_w, i32_w]; rfl
     refine pure_ (i := 27) (N := some 43) (v := undef) (a' := ?_) #[true,true,true,true,true,true,true,true,true,true,true,true,true,true,true,true,true,true,true,true,true,true,true,true,true,true,true,true,false,false] rfl rfl (by kernel_rfl) (fun _ _ _ h => h) (Or.inr ⟨by rfl, rfl⟩) ?_ ?_
     rotate_left; · simp only [Act.put, List.setIfInBounds_toArray, List.set_cons_zero, List.set_cons_succ, i64_w, i32_w]; rfl
     refine pure_ (i := 28) (N := some 44) (v := undef) (a' := ?_) #[true,true,true,true,true,true,true,true,true,true,true,true,true,true,true,true,true,true,true,true,true,true,true,true,true,true,true,true,true,false] rfl rfl (by kernel_rfl) (fun _ _ _ h => h) (Or.inr ⟨by rfl, rfl⟩) ?_ ?_
     rotate_left; · simp only [Act.put, List.setIfInBounds_toArray, List.set_cons_zero, List.set_cons_succ, i64_w, i32_w]; rfl
     refine pure_ (i := 29) (N := some 45) (v := ?_) (a' := ?_) #[true,true,true,true,true,true,true,true,true,true,true,true,true,true,true,true,true,true,true,true,true,true,true,true,true,true,true,true,true,true] rfl rfl (by kernel_rfl) (fun _ _ _ h => h) (Or.inl ⟨by rfl, ?_⟩) ?_ ?_
     rotate_left; · intro w'; go_simp; with_reducible rfl
     rotate_left; · simp only [Act.put, List.setIfInBounds_toArray, List.set_cons_zero, List.set_cons_succ, i64_w, i32_w]; rfl
     refine done_ (by kernel_rfl) ?_
     go_wp2_with fail
     go_ret
     exact ⟨by rw [HPF.out]; rfl, Grew.trans HGw1.out HL.out⟩
    | false =>
     have HL0 := Aside0.mk hb2
     clear hb2
     cases hb3 : seenB q i p.f1 with
     | true =>
      have HL1 := Aside0.mk hb3
      clear hb3
      have HPF := Aside0.mk (HPB.out (by rw [HOK.out]; rw [HL0.out, HL1.out]; rfl))
      clear HPB HPS HOK
      go_wp2_with fail
      rw [← HE1.out]
      have HLK0 : Aside0 (∀ W, Grew W1 W → (Instr.lookup TMap (.map (some (w.heap.size + 1))) (I p.f0) false).run Try.prog W = .ok (.bool false) W) := ⟨fun W h => by have h2 := (HS1.out.later h).look p.f0 HW0.out; rw [HL0.out] at h2; exact h2⟩
      have HLK1 : Aside0 (∀ W, Grew W1 W → (Instr.lookup TMap (.map (some (w.heap.size + 1))) (I p.f1) false).run Try.prog W = .ok (.bool true) W) := ⟨fun W h => by have h2 := (HS1.out.later h).look p.f1 HW1.out; rw [HL1.out] at h2; exact h2⟩
      refine start_ (n := 30) (S := fun w' => w'.cell? ⟨w.heap.size, 0, none⟩ = some (I n) ∧ w'.cell? ⟨w.heap.size, 1, none⟩ = some (.slice A l.length c) ∧ w'.cell? ⟨wr.heap.size, 0, none⟩ = some (I p.f0) ∧ w'.cell? ⟨wr.heap.size, 1, none⟩ = some (I p.f1) ∧ (Instr.lookup TMap (.map (some (w.heap.size + 1))) (I p.f0) false).run Try.prog w' = .ok (.bool false) w' ∧ (Instr.lookup TMap (.map (some (w.heap.size + 1))) (I p.f1) false).run Try.prog w' = .ok (.bool true) w') (ds := []) #[false,false,false,false,false,false,false,false,false,false,false,false,false,false,false,false,false,false,false,false,false,false,false,false,false,false,false,false,false,false] (by kernel_rfl) rfl rfl ⟨(Below.cell (w := W1) (below_drew (Grew.refl W1)) (p := ⟨w.heap.size, 0, none⟩) hl0).trans k0, (Below.cell (w := W1) (below_drew (Grew.refl W1)) (p := ⟨w.heap.size, 1, none⟩) hl0).trans k1, (Below.cell (w := W1) (below_drew (Grew.refl W1)) (p := ⟨wr.heap.size, 0, none⟩) hl1).trans hp0, (Below.cell (w := W1) (below_drew (Grew.refl W1)) (p := ⟨wr.heap.size, 1, none⟩) hl1).trans hp1, HLK0.out _ (below_drew (Grew.refl W1)), HLK1.out _ (below_drew (Grew.refl W1))⟩ (fun hHeld => ?_)
      refine take_ (i := 0) (N := some 16) (v := ?_) (a' := ?_) #[true,false,false,false,false,false,false,false,false,false,false,false,false,false,false,false,false,false,false,false,false,false,false,false,false,false,false,false,false,false] rfl rfl (by kernel_rfl) (fun _ _ _ h => h) (Or.inl ⟨by rfl, ?_⟩) hHeld ?_ ?_
      rotate_left; · rintro w' ⟨s0, s1, s2, s3, s4, s5⟩; go_simp; with_reducible rfl
      rotate_left; · simp only [Act.put, List.setIfInBounds_toArray, List.set_cons_zero, List.set_cons_succ, i64_w, i32_w]; rfl
      refine take_ (i := 1) (N := some 17) (v := ?_) (a' := ?_) #[true,true,false,false,false,false,false,false,false,false,false,false,false,false,false,false,false,false,false,false,false,false,false,false,false,false,false,false,false,false] rfl rfl (by kernel_rfl) (fun _ _ _ h => h) (Or.inl ⟨by rfl, ?_⟩) hHeld ?_ ?_
      rotate_left; · rintro w' ⟨s0, s1, s2, s3, s4, s5⟩; go_simp; with_reducible rfl
      rotate_left; · simp only [Act.put, List.setIfInBounds_toArray, List.set_cons_zero, List.set_cons_succ, i64_w, i32_w]; rfl
      refine one_ (i := 2) (N := some 18) #[true,true,true,false,false,false,false,false,false,false,false,false,false,false,false,false,false,false,false,false,false,false,false,false,false,false,false,false,false,false] rfl rfl (by kernel_rfl) (by decide) (fun K hK => ?_)
      refine goes_ Try.func88 (by kernel_rfl) rfl #[.agg #[I n, .slice A l.length c], .agg #[I p.f0, I p.f1]] (by rfl) rfl rfl (by simp only [List.map_toArray, List.map_cons, List.map_nil]; rfl) ?_
      with_reducible refine (HIP.out _ (below_drew (Grew.refl W1))).mono ?_
      rintro e w3 ⟨rfl, hGa⟩
      refine ⟨_, rfl, ?_⟩
      have HL := Aside0.mk (Grew.trans (below_drew (Grew.refl W1)) hGa)
      clear hGa
      refine hK.out _ _ ⟨(Below.cell (w := W1) HL.out (p := ⟨w.heap.size, 0, none⟩) hl0).trans k0, (Below.cell (w := W1) HL.out (p := ⟨w.heap.size, 1, none⟩) hl0).trans k1, (Below.cell (w := W1) HL.out (p := ⟨wr.heap.size, 0, none⟩) hl1).trans hp0, (Below.cell (w := W1) HL.out (p := ⟨wr.heap.size, 1, none⟩) hl1).trans hp1, HLK0.out _ HL.out, HLK1.out _ HL.out⟩ (fun hHeld => ?_)
      clear hK K
      refine norm_ (a' := ?_) ?_ ?_
      rotate_left
      ·show Act.put _ (some 18) _ = _
       simp only [Act.put, List.setIfInBounds_toArray, List.set_cons_zero, List.set_cons_succ, i64_w, i32_w]
       rfl
      refine pure_ (i := 3) (N := some 19) (v := ?_) (a' := ?_) #[true,true,true,true,false,false,false,false,false,false,false,false,false,false,false,false,false,false,false,false,false,false,false,false,false,false,false,false,false,false] rfl rfl (by kernel_rfl) (fun _ _ _ h => h) (Or.inl ⟨by rfl, ?_⟩) ?_ ?_
      rotate_left; · intro w'; go_simp; with_reducible rfl
      rotate_left; · simp only [Act.put, List.setIfInBounds_toArray, List.set_cons_zero, List.set_cons_succ, i64_w, i32_w]; rfl
      refine pure_ (i := 4) (N := some 20) (v := ?_) (a' := ?_) #[true,true,true,true,true,false,false,false,false,false,false,false,false,false,false,false,false,false,false,false,false,false,false,false,false,false,false,false,false,false] rfl rfl (by kernel_rfl) (fun _ _ _ h => h) (Or.inl ⟨by rfl, ?_⟩) ?_ ?_
      rotate_left; · intro w'; go_simp; with_reducible rfl
      rotate_left; · simp only [Act.put, List.setIfInBounds_toArray, List.set_cons_zero, List.set_cons_succ, i64_w, i32_w]; rfl
      refine pure_ (i := 5) (N := some 21) (v := ?_) (a' := ?_) #[true,true,true,true,true,true,false,false,false,false,false,false,false,false,false,false,false,false,false,false,false,false,false,false,false,false,false,false,false,false] rfl rfl (by kernel_rfl) (fun _ _ _ h => h) (Or.inl ⟨by rfl, ?_⟩) ?_ ?_
      rotate_left; · intro w'; go_simp; with_reducible rfl
      rotate_left; · simp only [Act.put, List.setIfInBounds_toArray, List.set_cons_zero, List.set_cons_succ, i64_w, i32_w]; rfl
      refine pure_ (i := 6) (N := some 22) (v := ?_) (a' := ?_) #[true,true,true,true,true,true,true,false,false,false,false,false,false,false,false,false,false,false,false,false,false,false,false,false,false,false,false,false,false,false] rfl rfl (by kernel_rfl) (fun _ _ _ h => h) (Or.inl ⟨by rfl, ?_⟩) ?_ ?_
      rotate_left; · intro w'; go_simp; with_reducible rfl
      rotate_left; · simp only [Act.put, List.setIfInBounds_toArray, List.set_cons_zero, List.set_cons_succ, i64_w, i32_w]; rfl
      refine take_ (i := 7) (N := some 23) (v := ?_) (a' := ?_) #[true,true,true,true,true,true,true,true,false,false,false,false,false,false,false,false,false,false,false,false,false,false,false,false,false,false,false,false,false,false] rfl rfl (by kernel_rfl) (fun _ _ _ h => h) (Or.inl ⟨by rfl, ?_⟩) hHeld ?_ ?_
      rotate_left; · rintro w' ⟨s0, s1, s2, s3, s4, s5⟩; go_simp; with_reducible rfl
      rotate_left; · simp only [Act.put, List.setIfInBounds_toArray, List.set_cons_zero, List.set_cons_succ, i64_w, i32_w]; rfl
      refine take_ (i := 8) (N := some 24) (v := ?_) (a' := ?_) #[true,true,true,true,true,true,true,true,true,false,false,false,false,false,false,false,false,false,false,false,false,false,false,false,false,false,false,false,false,false] rfl rfl (by kernel_rfl) (fun _ _ _ h => h) (Or.inl ⟨by rfl, ?_⟩) hHeld ?_ ?_
      rotate_left; · rintro w' ⟨s0, s1, s2, s3, s4, s5⟩; go_simp; with_reducible rfl
      rotate_left; · simp only [Act.put, List.setIfInBounds_toArray, List.set_cons_zero, List.set_cons_succ, i64_w, i32_w]; rfl
      refine pure_ (i := 9) (N := some 25) (v := ?_) (a' := ?_) #[true,true,true,true,true,true,true,true,true,true,false,false,false,false,false,false,false,false,false,false,false,false,false,false,false,false,false,false,false,false] rfl rfl (by kernel_rfl) (fun _ _ _ h => h) (Or.inl ⟨by rfl, ?_⟩) ?_ ?_
      rotate_left; · intro w'; go_simp; with_reducible rfl
      rotate_left; · simp only [Act.put, List.setIfInBounds_toArray, List.set_cons_zero, List.set_cons_succ, i64_w, i32_w]; rfl
      refine pure_ (i := 10) (N := some 26) (v := ?_) (a' := ?_) #[true,true,true,true,true,true,true,true,true,true,true,false,false,false,false,false,false,false,false,false,false,false,false,false,false,false,false,false,false,false] rfl rfl (by kernel_rfl) (fun _ _ _ h => h) (Or.inl ⟨by rfl, ?_⟩) ?_ ?_
      rotate_left; · intro w'; go_simp; with_reducible rfl
      rotate_left; · simp only [Act.put, List.setIfInBounds_toArray, List.set_cons_zero, List.set_cons_succ, i64_w, i32_w]; rfl
      refine pure_ (i := 11) (N := some 27) (v := ?_) (a' := ?_) #[true,true,true,true,true,true,true,true,true,true,true,true,false,false,false,false,false,false,false,false,false,false,false,false,false,false,false,false,false,false] rfl rfl (by kernel_rfl) (fun _ _ _ h => h) (Or.inl ⟨by rfl, ?_⟩) ?_ ?_
      rotate_left; · intro w'; go_simp; with_reducible rfl
      rotate_left; · simp only [Act.put, List.setIfInBounds_toArray, List.set_cons_zero, List.set_cons_succ, i64_w, i32_w]; rfl
      refine pure_ (i := 12) (N := some 28) (v := ?_) (a' := ?_) #[true,true,true,true,true,true,true,true,true,true,true,true,true,false,false,false,false,false,false,false,false,false,false,false,false,false,false,false,false,false] rfl rfl (by kernel_rfl) (fun _ _ _ h => h) (Or.inl ⟨by rfl, ?_⟩) ?_ ?_
      rotate_left; · intro w'; go_simp; with_reducible rfl
      rotate_left; · simp only [Act.put, List.setIfInBounds_toArray, List.set_cons_zero, List.set_cons_succ, i64_w, i32_w]; rfl
      refine take_ (i := 13) (N := some 29) (v := ?_) (a' := ?_) #[true,true,true,true,true,true,true,true,true,true,true,true,true,true,false,false,false,false,false,false,false,false,false,false,false,false,false,false,false,false] rfl rfl (by kernel_rfl) (fun _ _ _ h => h) (Or.inl ⟨by rfl, ?_⟩) hHeld ?_ ?_
      rotate_left; · rintro w' ⟨s0, s1, s2, s3, s4, s5⟩; go_simp; with_reducible rfl
      rotate_left; · simp only [Act.put, List.setIfInBounds_toArray, List.set_cons_zero, List.set_cons_succ, i64_w, i32_w]; rfl
      refine take_ (i := 14) (N := some 30) (v := ?_) (a' := ?_) #[true,true,true,true,true,true,true,true,true,true,true,true,true,true,true,false,false,false,false,false,false,false,false,false,false,false,false,false,false,false] rfl rfl (by kernel_rfl) (fun _ _ _ h => h) (Or.inl ⟨by rfl, ?_⟩) hHeld ?_ ?_
      rotate_left; · rintro w' ⟨s0, s1, s2, s3, s4, s5⟩; go_simp; with_reducible rfl
      rotate_left; · simp only [Act.put, List.setIfInBounds_toArray, List.set_cons_zero, List.set_cons_succ, i64_w, i32_w]; rfl
      refine pure_ (i := 15) (N := some 31) (v := ?_) (a' := ?_) #[true,true,true,true,true,true,true,true,true,true,true,true,true,true,true,true,false,false,false,false,false,false,false,false,false,false,false,false,false,false] rfl rfl (by kernel_rfl) (fun _ _ _ h => h) (Or.inl ⟨by rfl, ?_⟩) ?_ ?_
      rotate_left; · intro w'; go_simp; with_reducible rfl
      rotate_left; · simp only [Act.put, List.setIfInBounds_toArray, List.set_cons_zero, List.set_cons_succ, i64_w, i32_w]; rfl
      refine pure_ (i := 16) (N := some 32) (v := ?_) (a' := ?_) #[true,true,true,true,true,true,true,true,true,true,true,true,true,true,true,true,true,false,false,false,false,false,false,false,false,false,false,false,false,false] rfl rfl (by kernel_rfl) (fun _ _ _ h => h) (Or.inl ⟨by rfl, ?_⟩) ?_ ?_
      rotate_left; · intro w'; go_simp; with_reducible rfl
      rotate_left; · simp only [Act.put, List.setIfInBounds_toArray, List.set_cons_zero, List.set_cons_succ, i64_w, i32_w]; rfl
      refine pure_ (i := 17) (N := some 33) (v := undef) (a' := ?_) #[true,true,true,true,true,true,true,true,true,true,true,true,true,true,true,true,true,true,false,false,false,false,false,false,false,false,false,false,false,false] rfl rfl (by kernel_rfl) (fun _ _ _ h => h) (Or.inr ⟨by rfl, rfl⟩) ?_ ?_
      rotate_left; · simp only [Act.put, List.setIfInBounds_toArray, List.set_cons_zero, List.set_cons_succ, i64_w, i32_w]; rfl
      refine pure_ (i := 18) (N := some 34) (v := undef) (a' := ?_) #[true,true,true,true,true,true,true,true,true,true,true,true,true,true,true,true,true,true,true,false,false,false,false,false,false,false,false,false,false,false] rfl rfl (by kernel_rfl) (fun _ _ _ h => h) (Or.inr ⟨by rfl, rfl⟩) ?_ ?_
      rotate_left; · simp only [Act.put, List.setIfInBounds_toArray, List.set_cons_zero, List.set_cons_succ, i64_w, i32_w]; rfl
      refine pure_ (i := 19) (N := some 35) (v := undef) (a' := ?_) #[true,true,true,true,true,true,true,true,true,true,true,true,true,true,true,true,true,true,true,true,false,false,false,false,false,false,false,false,false,false] rfl rfl (by kernel_rfl) (fun _ _ _ h => h) (Or.inr ⟨by rfl, rfl⟩) ?_ ?_
      rotate_left; · simp only [Act.put, List.setIfInBounds_toArray, List.set_cons_zero, List.set_cons_succ, i64_w, i32_w]; rfl
      refine pure_ (i := 20) (N := some 36) (v := undef) (a' := ?_) #[true,true,true,true,true,true,true,true,true,true,true,true,true,true,true,true,true,true,true,true,true,false,false,false,false,false,false,false,false,false] rfl rfl (by kernel_rfl) (fun _ _ _ h => h) (Or.inr ⟨by rfl, rfl⟩) ?_ ?_
      rotate_left; · simp only [Act.put, List.setIfInBounds_toArray, List.set_cons_zero, List.set_cons_succ, i64_w, i32_w]; rfl
      refine pure_ (i := 21) (N := some 37) (v := undef) (a' := ?_) #[true,true,true,true,true,true,true,true,true,true,true,true,true,true,true,true,true,true,true,true,true,true,false,false,false,false,false,false,false,false] rfl rfl (by kernel_rfl) (fun _ _ _ h => h) (Or.inr ⟨by rfl, rfl⟩) ?_ ?_
      rotate_left; · simp only [Act.put, List.setIfInBounds_toArray, List.set_cons_zero, List.set_cons_succ, i64_w, i32_w]; rfl
      refine pure_ (i := 22) (N := some 38) (v := undef) (a' := ?_) #[true,true,true,true,true,true,true,true,true,true,true,true,true,true,true,true,true,true,true,true,true,true,true,false,false,false,false,false,false,false] rfl rfl (by kernel_rfl) (fun _ _ _ h => h) (Or.inr ⟨by rfl, rfl⟩) ?_ ?_
      rotate_left; · simp only [Act.put, List.setIfInBounds_toArray, List.set_cons_zero, List.set_cons_succ, i64_w, i32_w]; rfl
      refine pure_ (i := 23) (N := some 39) (v := undef) (a' := ?_) #[true,true,true,true,true,true,true,true,true,true,true,true,true,true,true,true,true,true,true,true,true,true,true,true,false,false,false,false,false,false] rfl rfl (by kernel_rfl) (fun _ _ _ h => h) (Or.inr ⟨by rfl, rfl⟩) ?_ ?_
      rotate_left; · simp only [Act.put, List.setIfInBounds_toArray, List.set_cons_zero, List.set_cons_succ, i64_w, i32_w]; rfl
      refine pure_ (i := 24) (N := some 40) (v := undef) (a' := ?_) #[true,true,true,true,true,true,true,true,true,true,true,true,true,true,true,true,true,true,true,true,true,true,true,true,true,false,false,false,false,false] rfl rfl (by kernel_rfl) (fun _ _ _ h => h) (Or.inr ⟨by rfl, rfl⟩) ?_ ?_
      rotate_left; · simp only [Act.put, List.setIfInBounds_toArray, List.set_cons_zero, List.set_cons_succ, i64_w, i32_w]; rfl
      refine pure_ (i := 25) (N := some 41) (v := undef) (a' := ?_) #[true,true,true,true,true,true,true,true,true,true,true,true,true,true,true,true,true,true,true,true,true,true,true,true,true,true,false,false,false,false] rfl rfl (by kernel_rfl) (fun _ _ _ h => h) (Or.inr ⟨by rfl, rfl⟩) ?_ ?_
      rotate_left; · simp only [Act.put, List.setIfInBounds_toArray, List.set_cons_zero, List.set_cons_succ, i64_w, i32_w]; rfl
      refine pure_ (i := 26) (N := some 42) (v := undef) (a' := ?_) #[true,true,true,true,true,true,true,true,true,true,true,true,true,true,true,true,true,true,true,true,true,true,true,true,true,true,true,false,false,false] rfl rfl (by kernel_rfl) (fun _ _ _ h => h) (Or.inr ⟨by rfl, rfl⟩) ?_ ?_
      rotate_left; · simp only [Act.put, List.setIfInBounds_toArray, List.set_cons_zero, List.set_cons_succ, i64_w, i32_w]; rfl
      refine pure_ (i := 27) (N := some 43) (v := undef) (a' := ?_) #[true,true,true,true,true,true,true,true,true,true,true,true,true,true,true,true,true,true,true,true,true,true,true,true,true,true,true,true,false,false] rfl rfl (by kernel_rfl) (fun _ _ _ h => h) (Or.inr ⟨by rfl, rfl⟩) ?_ ?_
      rotate_left; · simp only [Act.put, List.setIfInBounds_toArray, List.set_cons_zero, List.set_cons_succ, i64_w, i32_w]; rfl
      refine pure_ (i := 28) (N := some 44) (v := undef) (a' := ?_) #[true,true,true,true,true,true,true,true,true,true,true,true,true,true,true,true,true,true,true,true,true,true,true,true,true,true,true,true,true,false] rfl rfl (by kernel_rfl) (fun _ _ _ h => h) (Or.inr ⟨by rfl, rfl⟩) ?_ ?_
      rotate_left; · simp only [Act.put, List.setIfInBounds_toArray, List.set_cons_zero, List.set_cons_succ, i64_w, i32_w]; rfl
      refine pure_ (i := 29) (N := some 45) (v := ?_) (a' := ?_) #[true,true,true,true,true,true,true,true,true,true,true,true,true,true,true,true,true,true,true,true,true,true,true,true,true,true,true,true,true,true] rfl rfl (by kernel_rfl) (fun _ _ _ h => h) (Or.inl ⟨by rfl, ?_⟩) ?_ ?_
      rotate_left; · intro w'; go_simp; with_reducible rfl
      rotate_left; · simp only [Act.put, List.setIfInBounds_toArray, List.set_cons_zero, List.set_cons_succ, i64_w, i32_w]; rfl
      refine done_ (by kernel_rfl) ?_
      go_wp2_with fail
      go_ret
      exact ⟨by rw [HPF.out]; rfl, Grew.trans HGw1.out HL.out⟩
     | false =>
      have HL1 := Aside0.mk hb3
      clear hb3
      by_cases hi0 : i = 0
      ·have hi0z : decide (0 < i) = false := decide_eq_false (by omega)
       have HI0 := Aside0.mk hi0
       clear hi0
       have HOK2 := Aside0.mk (HPS.out (by rw [HOK.out, HL0.out, HL1.out]; simp [HI0.out]))
       clear HPB HPS HOK
       go_wp2_with fail
       rw [← HE1.out]
       have HLK0 : Aside0 (∀ W, Grew W1 W → (Instr.lookup TMap (.map (some (w.heap.size + 1))) (I p.f0) false).run Try.prog W = .ok (.bool false) W) := ⟨fun W h => by have h2 := (HS1.out.later h).look p.f0 HW0.out; rw [HL0.out] at h2; exact h2⟩
       have HLK1 : Aside0 (∀ W, Grew W1 W → (Instr.lookup TMap (.map (some (w.heap.size + 1))) (I p.f1) false).run Try.prog W = .ok (.bool false) W) := ⟨fun W h => by have h2 := (HS1.out.later h).look p.f1 HW1.out; rw [HL1.out] at h2; exact h2⟩
       refine start_ (n := 30) (S := fun w' => w'.cell? ⟨w.heap.size, 0, none⟩ = some (I n) ∧ w'.cell? ⟨w.heap.size, 1, none⟩ = some (.slice A l.length c) ∧ w'.cell? ⟨wr.heap.size, 0, none⟩ = some (I p.f0) ∧ w'.cell? ⟨wr.heap.size, 1, none⟩ = some (I p.f1) ∧ (Instr.lookup TMap (.map (some (w.heap.size + 1))) (I p.f0) false).run Try.prog w' = .ok (.bool false) w' ∧ (Instr.lookup TMap (.map (some (w.heap.size + 1))) (I p.f1) false).run Try.prog w' = .ok (.bool false) w') (ds := []) #[false,false,false,false,false,false,false,false,false,false,false,false,false,false,false,false,false,false,false,false,false,false,false,false,false,false,false,false,false,false] (by kernel_rfl) rfl rfl ⟨(Below.cell (w := W1) (below_drew (Grew.refl W1)) (p := ⟨w.heap.size, 0, none⟩) hl0).trans k0, (Below.cell (w := W1) (below_drew (Grew.refl W1)) (p := ⟨w.heap.size, 1, none⟩) hl0).trans k1, (Below.cell (w := W1) (below_drew (Grew.refl W1)) (p := ⟨wr.heap.size, 0, none⟩) hl1).trans hp0, (Below.cell (w := W1) (below_drew (Grew.refl W1)) (p := ⟨wr.heap.size, 1, none⟩) hl1).trans hp1, HLK0.out _ (below_drew (Grew.refl W1)), HLK1.out _ (below_drew (Grew.refl W1))⟩ (fun hHeld => ?_)
       refine take_ (i := 0) (N := some 16) (v := ?_) (a' := ?_) #[true,false,false,false,false,false,false,false,false,false,false,false,false,false,false,false,false,false,false,false,false,false,false,false,false,false,false,false,false,false] rfl rfl (by kernel_rfl) (fun _ _ _ h => h) (Or.inl ⟨by rfl, ?_⟩) hHeld ?_ ?_
       rotate_left; · rintro w' ⟨s0, s1, s2, s3, s4, s5⟩; go_simp; with_reducible rfl
       rotate_left; · simp only [Act.put, List.setIfInBounds_toArray, List.set_cons_zero, List.set_cons_succ, i64_w, i32_w]; rfl
       refine take_ (i := 1) (N := some 17) (v := ?_) (a' := ?_) #[true,true,false,false,false,false,false,false,false,false,false,false,false,false,false,false,false,false,false,false,false,false,false,false,false,false,false,false,false,false] rfl rfl (by kernel_rfl) (fun _ _ _ h => h) (Or.inl ⟨by rfl, ?_⟩) hHeld ?_ ?_
       rotate_left; · rintro w' ⟨s0, s1, s2, s3, s4, s5⟩; go_simp; with_reducible rfl
       rotate_left; · simp only [Act.put, List.setIfInBounds_toArray, List.set_cons_zero, List.set_cons_succ, i64_w, i32_w]; rfl
       refine one_ (i := 2) (N := some 18) #[true,true,true,false,false,false,false,false,false,false,false,false,false,false,false,false,false,false,false,false,false,false,false,false,false,false,false,false,false,false] rfl rfl (by kernel_rfl) (by decide) (fun K hK => ?_)
       refine goes_ Try.func88 (by kernel_rfl) rfl #[.agg #[I n, .slice A l.length c], .agg #[I p.f0, I p.f1]] (by rfl) rfl rfl (by simp only [List.map_toArray, List.map_cons, List.map_nil]; rfl) ?_
       with_reducible refine (HIP.out _ (below_drew (Grew.refl W1))).mono ?_
       rintro e w3 ⟨rfl, hGa⟩
       refine ⟨_, rfl, ?_⟩
       have HL := Aside0.mk (Grew.trans (below_drew (Grew.refl W1)) hGa)
       clear hGa
       refine hK.out _ _ ⟨(Below.cell (w := W1) HL.out (p := ⟨w.heap.size, 0, none⟩) hl0).trans k0, (Below.cell (w := W1) HL.out (p := ⟨w.heap.size, 1, none⟩) hl0).trans k1, (Below.cell (w := W1) HL.out (p := ⟨wr.heap.size, 0, none⟩) hl1).trans hp0, (Below.cell (w := W1) HL.out (p := ⟨wr.heap.size, 1, none⟩) hl1).trans hp1, HLK0.out _ HL.out, HLK1.out _ HL.out⟩ (fun hHeld => ?_)
       clear hK K
       refine norm_ (a' := ?_) ?_ ?_
       rotate_left
       ·show Act.put _ (some 18) _ = _
        simp only [Act.put, List.setIfInBounds_toArray, List.set_cons_zero, List.set_cons_succ, i64_w, i32_w]
        rfl
       refine pure_ (i := 3) (N := some 19) (v := ?_) (a' := ?_) #[true,true,true,true,false,false,false,false,false,false,false,false,false,false,false,false,false,false,false,false,false,false,false,false,false,false,false,false,false,false] rfl rfl (by kernel_rfl) (fun _ _ _ h => h) (Or.inl ⟨by rfl, ?_⟩) ?_ ?_
       rotate_left; · intro w'; go_simp; with_reducible rfl
       rotate_left; · simp only [Act.put, List.setIfInBounds_toArray, List.set_cons_zero, List.set_cons_succ, i64_w, i32_w]; rfl
       refine pure_ (i := 4) (N := some 20) (v := ?_) (a' := ?_) #[true,true,true,true,true,false,false,false,false,false,false,false,false,false,false,false,false,false,false,false,false,false,false,false,false,false,false,false,false,false] rfl rfl (by kernel_rfl) (fun _ _ _ h => h) (Or.inl ⟨by rfl, ?_⟩) ?_ ?_
       rotate_left; · intro w'; go_simp; with_reducible rfl
       rotate_left; · simp only [Act.put, List.setIfInBounds_toArray, List.set_cons_zero, List.set_cons_succ, i64_w, i32_w]; rfl
       refine pure_ (i := 5) (N := some 21) (v := ?_) (a' := ?_) #[true,true,true,true,true,true,false,false,false,false,false,false,false,false,false,false,false,false,false,false,false,false,false,false,false,false,false,false,false,false] rfl rfl (by kernel_rfl) (fun _ _ _ h => h) (Or.inl ⟨by rfl, ?_⟩) ?_ ?_
       rotate_left; · intro w'; go_simp; with_reducible rfl
       rotate_left; · simp only [Act.put, List.setIfInBounds_toArray, List.set_cons_zero, List.set_cons_succ, i64_w, i32_w]; rfl
       refine pure_ (i := 6) (N := some 22) (v := ?_) (a' := ?_) #[true,true,true,true,true,true,true,false,false,false,false,false,false,false,false,false,false,false,false,false,false,false,false,false,false,false,false,false,false,false] rfl rfl (by kernel_rfl) (fun _ _ _ h => h) (Or.inl ⟨by rfl, ?_⟩) ?_ ?_
       rotate_left; · intro w'; go_simp; with_reducible rfl
       rotate_left; · simp only [Act.put, List.setIfInBounds_toArray, List.set_cons_zero, List.set_cons_succ, i64_w, i32_w]; rfl
       refine take_ (i := 7) (N := some 23) (v := ?_) (a' := ?_) #[true,true,true,true,true,true,true,true,false,false,false,false,false,false,false,false,false,false,false,false,false,false,false,false,false,false,false,false,false,false] rfl rfl (by kernel_rfl) (fun _ _ _ h => h) (Or.inl ⟨by rfl, ?_⟩) hHeld ?_ ?_
       rotate_left; · rintro w' ⟨s0, s1, s2, s3, s4, s5⟩; go_simp; with_reducible rfl
       rotate_left; · simp only [Act.put, List.setIfInBounds_toArray, List.set_cons_zero, List.set_cons_succ, i64_w, i32_w]; rfl
       refine take_ (i := 8) (N := some 24) (v := ?_) (a' := ?_) #[true,true,true,true,true,true,true,true,true,false,false,false,false,false,false,false,false,false,false,false,false,false,false,false,false,false,false,false,false,false] rfl rfl (by kernel_rfl) (fun _ _ _ h => h) (Or.inl ⟨by rfl, ?_⟩) hHeld ?_ ?_
       rotate_left; · rintro w' ⟨s0, s1, s2, s3, s4, s5⟩; go_simp; with_reducible rfl
       rotate_left; · simp only [Act.put, List.setIfInBounds_toArray, List.set_cons_zero, List.set_cons_succ, i64_w, i32_w]; rfl
       refine pure_ (i := 9) (N := some 25) (v := ?_) (a' := ?_) #[true,true,true,true,true,true,true,true,true,true,false,false,false,false,false,false,false,false,false,false,false,false,false,false,false,false,false,false,false,false] rfl rfl (by kernel_rfl) (fun _ _ _ h => h) (Or.inl ⟨by rfl, ?_⟩) ?_ ?_
       rotate_left; · intro w'; go_simp; with_reducible rfl
       rotate_left; · simp only [Act.put, List.setIfInBounds_toArray, List.set_cons_zero, List.set_cons_succ, i64_w, i32_w]; rfl
       refine pure_ (i := 10) (N := some 26) (v := ?_) (a' := ?_) #[true,true,true,true,true,true,true,true,true,true,true,false,false,false,false,false,false,false,false,false,false,false,false,false,false,false,false,false,false,false] rfl rfl (by kernel_rfl) (fun _ _ _ h => h) (Or.inl ⟨by rfl, ?_⟩) ?_ ?_
       rotate_left; · intro w'; go_simp; with_reducible rfl
       rotate_left; · simp only [Act.put, List.setIfInBounds_toArray, List.set_cons_zero, List.set_cons_succ, i64_w, i32_w]; rfl
       refine pure_ (i := 11) (N := some 27) (v := ?_) (a' := ?_) #[true,true,true,true,true,true,true,true,true,true,true,true,false,false,false,false,false,false,false,false,false,false,false,false,false,false,false,false,false,false] rfl rfl (by kernel_rfl) (fun _ _ _ h => h) (Or.inl ⟨by rfl, ?_⟩) ?_ ?_
       rotate_left; · intro w'; go_simp; with_reducible rfl
       rotate_left; · simp only [Act.put, List.setIfInBounds_toArray, List.set_cons_zero, List.set_cons_succ, i64_w, i32_w]; rfl
       refine pure_ (i := 12) (N := some 28) (v := ?_) (a' := ?_) #[true,true,true,true,true,true,true,true,true,true,true,true,true,false,false,false,false,false,false,false,false,false,false,false,false,false,false,false,false,false] rfl rfl (by kernel_rfl) (fun _ _ _ h => h) (Or.inl ⟨by rfl, ?_⟩) ?_ ?_
       rotate_left; · intro w'; go_simp; with_reducible rfl
       rotate_left; · simp only [Act.put, List.setIfInBounds_toArray, List.set_cons_zero, List.set_cons_succ, i64_w, i32_w]; rfl
       refine take_ (i := 13) (N := some 29) (v := ?_) (a' := ?_) #[true,true,true,true,true,true,true,true,true,true,true,true,true,true,false,false,false,false,false,false,false,false,false,false,false,false,false,false,false,false] rfl rfl (by kernel_rfl) (fun _ _ _ h => h) (Or.inl ⟨by rfl, ?_⟩) hHeld ?_ ?_
       rotate_left; · rintro w' ⟨s0, s1, s2, s3, s4, s5⟩; go_simp; with_reducible rfl
       rotate_left; · simp only [Act.put, List.setIfInBounds_toArray, List.set_cons_zero, List.set_cons_succ, i64_w, i32_w]; rfl
       refine take_ (i := 14) (N := some 30) (v := ?_) (a' := ?_) #[true,true,true,true,true,true,true,true,true,true,true,true,true,true,true,false,false,false,false,false,false,false,false,false,false,false,false,false,false,false] rfl rfl (by kernel_rfl) (fun _ _ _ h => h) (Or.inl ⟨by rfl, ?_⟩) hHeld ?_ ?_
       rotate_left; · rintro w' ⟨s0, s1, s2, s3, s4, s5⟩; go_simp; with_reducible rfl
       rotate_left; · simp only [Act.put, List.setIfInBounds_toArray, List.set_cons_zero, List.set_cons_succ, i64_w, i32_w]; rfl
       refine pure_ (i := 15) (N := some 31) (v := ?_) (a' := ?_) #[true,true,true,true,true,true,true,true,true,true,true,true,true,true,true,true,false,false,false,false,false,false,false,false,false,false,false,false,false,false] rfl rfl (by kernel_rfl) (fun _ _ _ h => h) (Or.inl ⟨by rfl, ?_⟩) ?_ ?_
       rotate_left; · intro w'; go_simp; with_reducible rfl
       rotate_left; · simp only [Act.put, List.setIfInBounds_toArray, List.set_cons_zero, List.set_cons_succ, i64_w, i32_w]; rfl
       refine pure_ (i := 16) (N := some 32) (v := ?_) (a' := ?_) #[true,true,true,true,true,true,true,true,true,true,true,true,true,true,true,true,true,false,false,false,false,false,false,false,false,false,false,false,false,false] rfl rfl (by kernel_rfl) (fun _ _ _ h => h) (Or.inl ⟨by rfl, ?_⟩) ?_ ?_
       rotate_left; · intro w'; go_simp; with_reducible rfl
       rotate_left; · simp only [Act.put, List.setIfInBounds_toArray, List.set_cons_zero, List.set_cons_succ, i64_w, i32_w]; rfl
       refine pure_ (i := 17) (N := some 33) (v := ?_) (a' := ?_) #[true,true,true,true,true,true,true,true,true,true,true,true,true,true,true,true,true,true,false,false,false,false,false,false,false,false,false,false,false,false] rfl rfl (by kernel_rfl) (fun _ _ _ h => h) (Or.inl ⟨by rfl, ?_⟩) ?_ ?_
       rotate_left; · intro w'; go_simp; with_reducible rfl
       rotate_left; · simp only [Act.put, List.setIfInBounds_toArray, List.set_cons_zero, List.set_cons_succ, i64_w, i32_w]; rfl
       refine pure_ (i := 18) (N := some 34) (v := ?_) (a' := ?_) #[true,true,true,true,true,true,true,true,true,true,true,true,true,true,true,true,true,true,true,false,false,false,false,false,false,false,false,false,false,false] rfl rfl (by kernel_rfl) (fun _ _ _ h => h) (Or.inl ⟨by rfl, ?_⟩) ?_ ?_
       rotate_left; · intro w'; go_simp; with_reducible rfl
       rotate_left; · simp only [Act.put, List.setIfInBounds_toArray, List.set_cons_zero, List.set_cons_succ, i64_w, i32_w]; rfl
       refine pure_ (i := 19) (N := some 35) (v := ?_) (a' := ?_) #[true,true,true,true,true,true,true,true,true,true,true,true,true,true,true,true,true,true,true,true,false,false,false,false,false,false,false,false,false,false] rfl rfl (by kernel_rfl) (fun _ _ _ h => h) (Or.inl ⟨by rfl, ?_⟩) ?_ ?_
       rotate_left; · intro w'; go_simp; with_reducible rfl
       rotate_left; · simp only [Act.put, List.setIfInBounds_toArray, List.set_cons_zero, List.set_cons_succ, i64_w, i32_w]; rfl
       refine pure_ (i := 20) (N := some 36) (v := undef) (a' := ?_) #[true,true,true,true,true,true,true,true,true,true,true,true,true,true,true,true,true,true,true,true,true,false,false,false,false,false,false,false,false,false] rfl rfl (by kernel_rfl) (fun _ _ _ h => h) (Or.inr ⟨by rfl, rfl⟩) ?_ ?_
       rotate_left; · simp only [Act.put, List.setIfInBounds_toArray, List.set_cons_zero, List.set_cons_succ, i64_w, i32_w]; rfl
       refine pure_ (i := 21) (N := some 37) (v := undef) (a' := ?_) #[true,true,true,true,true,true,true,true,true,true,true,true,true,true,true,true,true,true,true,true,true,true,false,false,false,false,false,false,false,false] rfl rfl (by kernel_rfl) (fun _ _ _ h => h) (Or.inr ⟨by rfl, rfl⟩) ?_ ?_
       rotate_left; · simp only [Act.put, List.setIfInBounds_toArray, List.set_cons_zero, List.set_cons_succ, i64_w, i32_w]; rfl
       refine pure_ (i := 22) (N := some 38) (v := undef) (a' := ?_) #[true,true,true,true,true,true,true,true,true,true,true,true,true,true,true,true,true,true,true,true,true,true,true,false,false,false,false,false,false,false] rfl rfl (by kernel_rfl) (fun _ _ _ h => h) (Or.inr ⟨by rfl, rfl⟩) ?_ ?_
       rotate_left; · simp only [Act.put, List.setIfInBounds_toArray, List.set_cons_zero, List.set_cons_succ, i64_w, i32_w]; rfl
       refine pure_ (i := 23) (N := some 39) (v := undef) (a' := ?_) #[true,true,true,true,true,true,true,true,true,true,true,true,true,true,true,true,true,true,true,true,true,true,true,true,false,false,false,false,false,false] rfl rfl (by kernel_rfl) (fun _ _ _ h => h) (Or.inr ⟨by rfl, rfl⟩) ?_ ?_
       rotate_left; · simp only [Act.put, List.setIfInBounds_toArray, List.set_cons_zero, List.set_cons_succ, i64_w, i32_w]; rfl
       refine pure_ (i := 24) (N := some 40) (v := undef) (a' := ?_) #[true,true,true,true,true,true,true,true,true,true,true,true,true,true,true,true,true,true,true,true,true,true,true,true,true,false,false,false,false,false] rfl rfl (by kernel_rfl) (fun _ _ _ h => h) (Or.inr ⟨by rfl, rfl⟩) ?_ ?_
       rotate_left; · simp only [Act.put, List.setIfInBounds_toArray, List.set_cons_zero, List.set_cons_succ, i64_w, i32_w]; rfl
       refine pure_ (i := 25) (N := some 41) (v := undef) (a' := ?_) #[true,true,true,true,true,true,true,true,true,true,true,true,true,true,true,true,true,true,true,true,true,true,true,true,true,true,false,false,false,false] rfl rfl (by kernel_rfl) (fun _ _ _ h => h) (Or.inr ⟨by rfl, rfl⟩) ?_ ?_
       rotate_left; · simp only [Act.put, List.setIfInBounds_toArray, List.set_cons_zero, List.set_cons_succ, i64_w, i32_w]; rfl
       refine pure_ (i := 26) (N := some 42) (v := undef) (a' := ?_) #[true,true,true,true,true,true,true,true,true,true,true,true,true,true,true,true,true,true,true,true,true,true,true,true,true,true,true,false,false,false] rfl rfl (by kernel_rfl) (fun _ _ _ h => h) (Or.inr ⟨by rfl, rfl⟩) ?_ ?_
       rotate_left; · simp only [Act.put, List.setIfInBounds_toArray, List.set_cons_zero, List.set_cons_succ, i64_w, i32_w]; rfl
       refine pure_ (i := 27) (N := some 43) (v := undef) (a' := ?_) #[true,true,true,true,true,true,true,true,true,true,true,true,true,true,true,true,true,true,true,true,true,true,true,true,true,true,true,true,false,false] rfl rfl (by kernel_rfl) (fun _ _ _ h => h) (Or.inr ⟨by rfl, rfl⟩) ?_ ?_
       rotate_left; · simp only [Act.put, List.setIfInBounds_toArray, List.set_cons_zero, List.set_cons_succ, i64_w, i32_w]; rfl
       refine pure_ (i := 28) (N := some 44) (v := ?_) (a' := ?_) #[true,true,true,true,true,true,true,true,true,true,true,true,true,true,true,true,true,true,true,true,true,true,true,true,true,true,true,true,true,false] rfl rfl (by kernel_rfl) (fun _ _ _ h => h) (Or.inl ⟨by rfl, ?_⟩) ?_ ?_
       rotate_left; · intro w'; go_simp; with_reducible rfl
       rotate_left; · simp only [Act.put, List.setIfInBounds_toArray, List.set_cons_zero, List.set_cons_succ, i64_w, i32_w]; rfl
       refine pure_ (i := 29) (N := some 45) (v := ?_) (a' := ?_) #[true,true,true,true,true,true,true,true,true,true,true,true,true,true,true,true,true,true,true,true,true,true,true,true,true,true,true,true,true,true] rfl rfl (by kernel_rfl) (fun _ _ _ h => h) (Or.inl ⟨by rfl, ?_⟩) ?_ ?_
       rotate_left; · intro w'; go_simp; with_reducible rfl
       rotate_left; · simp only [Act.put, List.setIfInBounds_toArray, List.set_cons_zero, List.set_cons_succ, i64_w, i32_w]; rfl
       refine done_ (by kernel_rfl) ?_
       have hbB := HSr.out.lt
       have HS4 := Aside0.mk (HS1.out.later HL.out)
       have HP4 := Aside0.mk (blk_below HP1.out HL.out)
       obtain ⟨w5, hr5, hS5, hg5⟩ := SetM.store (w := w3.drew) (HS4.out.same rfl) (by omega) p.f0 HW0.out true
       have HP5 := Aside0.mk (blk_grown (blk_drew HP4.out) hg5 (by simp; omega))
       obtain ⟨w6, hr6, hS6, hg6⟩ := SetM.store hS5 (by omega) p.f1 HW1.out true
       have HP6 := Aside0.mk (blk_grown HP5.out hg6 (by simp; omega))
       have HB6 := Aside0.mk (blk_grown (blk_grown (blk_drew (blk_below HB1.out HL.out)) hg5 (by simp)) hg6 (by simp))
       have HS6 := Aside0.mk hS6
       have HGL := Aside0.mk (Grew.trans HGw1.out HL.out)
       have hzl := HGL.out.size
       have HG6 := Aside0.mk (pw_below_grown (pw_below_grown (below_drew HGL.out) _ (by simp; omega) hg5 (fun k hk => by cases hk; omega)) _ (by have := hg5.size; simp at this; omega) hg6 (fun k hk => by cases hk; omega))
       clear hS5 hS6 hg5 hg6 hzl
       go_wp2_with fail
       refine start_ (n := 8) (S := fun w' => w'.cell? ⟨wr.heap.size, 0, none⟩ = some (I p.f0) ∧ w'.cell? ⟨wr.heap.size, 1, none⟩ = some (I p.f1)) (ds := []) #[false,false,false,false,false,false,false,false] (by kernel_rfl) rfl rfl ⟨blk_cell (blk_drew HP4.out) 0, blk_cell (blk_drew HP4.out) 1⟩ (fun hHeld => ?_)
       refine pure_ (i := 0) (N := some 46) (v := ?_) (a' := ?_) #[true,false,false,false,false,false,false,false] rfl rfl (by kernel_rfl) (fun _ _ _ h => h) (Or.inl ⟨by rfl, ?_⟩) ?_ ?_
       rotate_left; · intro w'; go_simp; with_reducible rfl
       rotate_left; · simp only [Act.put, List.setIfInBounds_toArray, List.set_cons_zero, List.set_cons_succ, i64_w, i32_w]; rfl
       refine pure_ (i := 1) (N := some 47) (v := ?_) (a' := ?_) #[true,true,false,false,false,false,false,false] rfl rfl (by kernel_rfl) (fun _ _ _ h => h) (Or.inl ⟨by rfl, ?_⟩) ?_ ?_
       rotate_left; · intro w'; go_simp; with_reducible rfl
       rotate_left; · simp only [Act.put, List.setIfInBounds_toArray, List.set_cons_zero, List.set_cons_succ, i64_w, i32_w]; rfl
       refine pure_ (i := 3) (N := some 49) (v := ?_) (a' := ?_) #[true,true,false,true,false,false,false,false] rfl rfl (by kernel_rfl) (fun _ _ _ h => h) (Or.inl ⟨by rfl, ?_⟩) ?_ ?_
       rotate_left; · intro w'; go_simp; with_reducible rfl
       rotate_left; · simp only [Act.put, List.setIfInBounds_toArray, List.set_cons_zero, List.set_cons_succ, i64_w, i32_w]; rfl
       refine pure_ (i := 4) (N := some 50) (v := ?_) (a' := ?_) #[true,true,false,true,true,false,false,false] rfl rfl (by kernel_rfl) (fun _ _ _ h => h) (Or.inl ⟨by rfl, ?_⟩) ?_ ?_
       rotate_left; · intro w'; go_simp; with_reducible rfl
       rotate_left; · simp only [Act.put, List.setIfInBounds_toArray, List.set_cons_zero, List.set_cons_succ, i64_w, i32_w]; rfl
       refine take_ (i := 2) (N := some 48) (v := ?_) (a' := ?_) #[true,true,true,true,true,false,false,false] rfl rfl (by kernel_rfl) (fun _ _ _ h => h) (Or.inl ⟨by rfl, ?_⟩) hHeld ?_ ?_
       rotate_left; · rintro w' ⟨s0, s1⟩; go_simp; with_reducible rfl
       rotate_left; · simp only [Act.put, List.setIfInBounds_toArray, List.set_cons_zero, List.set_cons_succ, i64_w, i32_w]; rfl
       refine take_ (i := 5) (N := some 51) (v := ?_) (a' := ?_) #[true,true,true,true,true,true,false,false] rfl rfl (by kernel_rfl) (fun _ _ _ h => h) (Or.inl ⟨by rfl, ?_⟩) hHeld ?_ ?_
       rotate_left; · rintro w' ⟨s0, s1⟩; go_simp; with_reducible rfl
       rotate_left; · simp only [Act.put, List.setIfInBounds_toArray, List.set_cons_zero, List.set_cons_succ, i64_w, i32_w]; rfl
       refine one_ (i := 6) (N := none) #[true,true,true,true,true,true,true,false] rfl rfl (by kernel_rfl) (by decide) (fun K hK => ?_)
       refine skip_ (w1 := w5) (by rfl) rfl ?_ ?_
       ·simp only [execOp]
        go_simp
       refine hK.out _ _ ⟨blk_cell HP5.out 0, blk_cell HP5.out 1⟩ (fun hHeld => ?_)
       clear hK K
       refine one_ (i := 7) (N := none) #[true,true,true,true,true,true,true,true] rfl rfl (by kernel_rfl) (by decide) (fun K hK => ?_)
       refine skip_ (w1 := w6) (by rfl) rfl ?_ ?_
       ·simp only [execOp]
        go_simp
       refine hK.out _ _ ⟨blk_cell HP6.out 0, blk_cell HP6.out 1⟩ (fun hHeld => ?_)
       clear hK K
       refine done_ (by kernel_rfl) ?_
       go_wp2_with fail
       go_roundg (q.length - (i + 1))
       case measure => omega
       case rel => exact ⟨i + 1, by omega, by omega, by go_num, HB6, ⟨(HS6.out.mono (by omega)).cong (fun x _ => by rw [HSS.out x]; exact upd_seen _ _ _ x)⟩, HG6, HOK2⟩
      ·obtain ⟨j, rfl⟩ : ∃ j, i = j + 1 := ⟨i - 1, by omega⟩
       have HWJ : Aside0 (wrap64 (j : Int) = (j : Int)) := ⟨by unfold wrap64; omega⟩
       have hj0 : 0 ≤ (j : Int) := by omega
       have hj0d : decide (0 < j + 1) = true := decide_eq_true (by omega)
       have hv := HPV.out (Nat.succ_pos j)
       rw [Nat.add_sub_cancel] at hv
       obtain ⟨hv0, hv1⟩ := hv
       have hl2 := World.block_lt_of_cell? wr _ hv0
       replace hv0 : W1.cell? (ad.add (j * 2)) = some (I r.f0) := (Below.cell HG1.out (p := ad.add (j * 2)) hl2).trans hv0
       replace hv1 : W1.cell? ⟨(ad.add (j * 2)).block, (ad.add (j * 2)).off + 1, none⟩ = some (I r.f1) := (Below.cell HG1.out (p := ⟨(ad.add (j * 2)).block, (ad.add (j * 2)).off + 1, none⟩) hl2).trans hv1
       replace hl2 := World.block_lt_of_cell? W1 _ hv0
       clear HPV
       have hj1 : ((j + 1 : Nat) : Int) - 1 = (j : Int) := by omega
       have hjp : (0 : Int) < ((j + 1 : Nat) : Int) := by omega
       have hjl : (j : Int) < (q.length : Int) := by omega
       by_cases hcv : cmp2 r.f0 r.f1 p.f0 p.f1 < 0
       ·have HCV := Aside0.mk hcv
        have hge : ¬ (0 ≤ cmp2 r.f0 r.f1 p.f0 p.f1) := by omega
        clear hcv
        have HOK2 := Aside0.mk (HPS.out (by rw [HOK.out, HL0.out, HL1.out]; simp [HCV.out]))
        clear HPB HPS HOK
        go_wp2_with fail
        rw [← HE1.out]
        have HLK0 : Aside0 (∀ W, Grew W1 W → (Instr.lookup TMap (.map (some (w.heap.size + 1))) (I p.f0) false).run Try.prog W = .ok (.bool false) W) := ⟨fun W h => by have h2 := (HS1.out.later h).look p.f0 HW0.out; rw [HL0.out] at h2; exact h2⟩
        have HLK1 : Aside0 (∀ W, Grew W1 W → (Instr.lookup TMap (.map (some (w.heap.size + 1))) (I p.f1) false).run Try.prog W = .ok (.bool false) W) := ⟨fun W h => by have h2 := (HS1.out.later h).look p.f1 HW1.out; rw [HL1.out] at h2; exact h2⟩
        have hwj := HWJ.out
        refine start_ (n := 30) (S := fun w' => w'.cell? ⟨w.heap.size, 0, none⟩ = some (I n) ∧ w'.cell? ⟨w.heap.size, 1, none⟩ = some (.slice A l.length c) ∧ w'.cell? ⟨wr.heap.size, 0, none⟩ = some (I p.f0) ∧ w'.cell? ⟨wr.heap.size, 1, none⟩ = some (I p.f1) ∧ w'.cell? (ad.add (j * 2)) = some (I r.f0) ∧ w'.cell? ⟨(ad.add (j * 2)).block, (ad.add (j * 2)).off + 1, none⟩ = some (I r.f1) ∧ (Instr.lookup TMap (.map (some (w.heap.size + 1))) (I p.f0) false).run Try.prog w' = .ok (.bool false) w' ∧ (Instr.lookup TMap (.map (some (w.heap.size + 1))) (I p.f1) false).run Try.prog w' = .ok (.bool false) w') (ds := []) #[false,false,false,false,false,false,false,false,false,false,false,false,false,false,false,false,false,false,false,false,false,false,false,false,false,false,false,false,false,false] (by kernel_rfl) rfl rfl ⟨(Below.cell (w := W1) (below_drew (Grew.refl W1)) (p := ⟨w.heap.size, 0, none⟩) hl0).trans k0, (Below.cell (w := W1) (below_drew (Grew.refl W1)) (p := ⟨w.heap.size, 1, none⟩) hl0).trans k1, (Below.cell (w := W1) (below_drew (Grew.refl W1)) (p := ⟨wr.heap.size, 0, none⟩) hl1).trans hp0, (Below.cell (w := W1) (below_drew (Grew.refl W1)) (p := ⟨wr.heap.size, 1, none⟩) hl1).trans hp1, (Below.cell (w := W1) (below_drew (Grew.refl W1)) (p := ad.add (j * 2)) hl2).trans hv0, (Below.cell (w := W1) (below_drew (Grew.refl W1)) (p := ⟨(ad.add (j * 2)).block, (ad.add (j * 2)).off + 1, none⟩) hl2).trans hv1, HLK0.out _ (below_drew (Grew.refl W1)), HLK1.out _ (below_drew (Grew.refl W1))⟩ (fun hHeld => ?_)
        refine take_ (i := 0) (N := some 16) (v := ?_) (a' := ?_) #[true,false,false,false,false,false,false,false,false,false,false,false,false,false,false,false,false,false,false,false,false,false,false,false,false,false,false,false,false,false] rfl rfl (by kernel_rfl) (fun _ _ _ h => h) (Or.inl ⟨by rfl, ?_⟩) hHeld ?_ ?_
        rotate_left; · rintro w' ⟨s0, s1, s2, s3, s4, s5, s6, s7⟩; go_simp; with_reducible rfl
        rotate_left; · simp only [Act.put, List.setIfInBounds_toArray, List.set_cons_zero, List.set_cons_succ, i64_w, i32_w]; rfl
        refine take_ (i := 1) (N := some 17) (v := ?_) (a' := ?_) #[true,true,false,false,false,false,false,false,false,false,false,false,false,false,false,false,false,false,false,false,false,false,false,false,false,false,false,false,false,false] rfl rfl (by kernel_rfl) (fun _ _ _ h => h) (Or.inl ⟨by rfl, ?_⟩) hHeld ?_ ?_
        rotate_left; · rintro w' ⟨s0, s1, s2, s3, s4, s5, s6, s7⟩; go_simp; with_reducible rfl
        rotate_left; · simp only [Act.put, List.setIfInBounds_toArray, List.set_cons_zero, List.set_cons_succ, i64_w, i32_w]; rfl
        refine one_ (i := 2) (N := some 18) #[true,true,true,false,false,false,false,false,false,false,false,false,false,false,false,false,false,false,false,false,false,false,false,false,false,false,false,false,false,false] rfl rfl (by kernel_rfl) (by decide) (fun K hK => ?_)
        refine goes_ Try.func88 (by kernel_rfl) rfl #[.agg #[I n, .slice A l.length c], .agg #[I p.f0, I p.f1]] (by rfl) rfl rfl (by simp only [List.map_toArray, List.map_cons, List.map_nil]; rfl) ?_
        with_reducible refine (HIP.out _ (below_drew (Grew.refl W1))).mono ?_
        rintro e w3 ⟨rfl, hGa⟩
        refine ⟨_, rfl, ?_⟩
        have HL := Aside0.mk (Grew.trans (below_drew (Grew.refl W1)) hGa)
        clear hGa
        refine hK.out _ _ ⟨(Below.cell (w := W1) HL.out (p := ⟨w.heap.size, 0, none⟩) hl0).trans k0, (Below.cell (w := W1) HL.out (p := ⟨w.heap.size, 1, none⟩) hl0).trans k1, (Below.cell (w := W1) HL.out (p := ⟨wr.heap.size, 0, none⟩) hl1).trans hp0, (Below.cell (w := W1) HL.out (p := ⟨wr.heap.size, 1, none⟩) hl1).trans hp1, (Below.cell (w := W1) HL.out (p := ad.add (j * 2)) hl2).trans hv0, (Below.cell (w := W1) HL.out (p := ⟨(ad.add (j * 2)).block, (ad.add (j * 2)).off + 1, none⟩) hl2).trans hv1, HLK0.out _ HL.out, HLK1.out _ HL.out⟩ (fun hHeld => ?_)
        clear hK K
        refine norm_ (a' := ?_) ?_ ?_
        rotate_left
        ·show Act.put _ (some 18) _ = _
         simp only [Act.put, List.setIfInBounds_toArray, List.set_cons_zero, List.set_cons_succ, i64_w, i32_w]
         rfl
        refine pure_ (i := 3) (N := some 19) (v := ?_) (a' := ?_) #[true,true,true,true,false,false,false,false,false,false,false,false,false,false,false,false,false,false,false,false,false,false,false,false,false,false,false,false,false,false] rfl rfl (by kernel_rfl) (fun _ _ _ h => h) (Or.inl ⟨by rfl, ?_⟩) ?_ ?_
        rotate_left; · intro w'; go_simp; with_reducible rfl
        rotate_left; · simp only [Act.put, List.setIfInBounds_toArray, List.set_cons_zero, List.set_cons_succ, i64_w, i32_w]; rfl
        refine pure_ (i := 4) (N := some 20) (v := ?_) (a' := ?_) #[true,true,true,true,true,false,false,false,false,false,false,false,false,false,false,false,false,false,false,false,false,false,false,false,false,false,false,false,false,false] rfl rfl (by kernel_rfl) (fun _ _ _ h => h) (Or.inl ⟨by rfl, ?_⟩) ?_ ?_
        rotate_left; · intro w'; go_simp; with_reducible rfl
        rotate_left; · simp only [Act.put, List.setIfInBounds_toArray, List.set_cons_zero, List.set_cons_succ, i64_w, i32_w]; rfl
        refine pure_ (i := 5) (N := some 21) (v := ?_) (a' := ?_) #[true,true,true,true,true,true,false,false,false,false,false,false,false,false,false,false,false,false,false,false,false,false,false,false,false,false,false,false,false,false] rfl rfl (by kernel_rfl) (fun _ _ _ h => h) (Or.inl ⟨by rfl, ?_⟩) ?_ ?_
        rotate_left; · intro w'; go_simp; with_reducible rfl
        rotate_left; · simp only [Act.put, List.setIfInBounds_toArray, List.set_cons_zero, List.set_cons_succ, i64_w, i32_w]; rfl
        refine pure_ (i := 6) (N := some 22) (v := ?_) (a' := ?_) #[true,true,true,true,true,true,true,false,false,false,false,false,false,false,false,false,false,false,false,false,false,false,false,false,false,false,false,false,false,false] rfl rfl (by kernel_rfl) (fun _ _ _ h => h) (Or.inl ⟨by rfl, ?_⟩) ?_ ?_
        rotate_left; · intro w'; go_simp; with_reducible rfl
        rotate_left; · simp only [Act.put, List.setIfInBounds_toArray, List.set_cons_zero, List.set_cons_succ, i64_w, i32_w]; rfl
        refine take_ (i := 7) (N := some 23) (v := ?_) (a' := ?_) #[true,true,true,true,true,true,true,true,false,false,false,false,false,false,false,false,false,false,false,false,false,false,false,false,false,false,false,false,false,false] rfl rfl (by kernel_rfl) (fun _ _ _ h => h) (Or.inl ⟨by rfl, ?_⟩) hHeld ?_ ?_
        rotate_left; · rintro w' ⟨s0, s1, s2, s3, s4, s5, s6, s7⟩; go_simp; with_reducible rfl
        rotate_left; · simp only [Act.put, List.setIfInBounds_toArray, List.set_cons_zero, List.set_cons_succ, i64_w, i32_w]; rfl
        refine take_ (i := 8) (N := some 24) (v := ?_) (a' := ?_) #[true,true,true,true,true,true,true,true,true,false,false,false,false,false,false,false,false,false,false,false,false,false,false,false,false,false,false,false,false,false] rfl rfl (by kernel_rfl) (fun _ _ _ h => h) (Or.inl ⟨by rfl, ?_⟩) hHeld ?_ ?_
        rotate_left; · rintro w' ⟨s0, s1, s2, s3, s4, s5, s6, s7⟩; go_simp; with_reducible rfl
        rotate_left; · simp only [Act.put, List.setIfInBounds_toArray, List.set_cons_zero, List.set_cons_succ, i64_w, i32_w]; rfl
        refine pure_ (i := 9) (N := some 25) (v := ?_) (a' := ?_) #[true,true,true,true,true,true,true,true,true,true,false,false,false,false,false,false,false,false,false,false,false,false,false,false,false,false,false,false,false,false] rfl rfl (by kernel_rfl) (fun _ _ _ h => h) (Or.inl ⟨by rfl, ?_⟩) ?_ ?_
        rotate_left; · intro w'; go_simp; with_reducible rfl
        rotate_left; · simp only [Act.put, List.setIfInBounds_toArray, List.set_cons_zero, List.set_cons_succ, i64_w, i32_w]; rfl
        refine pure_ (i := 10) (N := some 26) (v := ?_) (a' := ?_) #[true,true,true,true,true,true,true,true,true,true,true,false,false,false,false,false,false,false,false,false,false,false,false,false,false,false,false,false,false,false] rfl rfl (by kernel_rfl) (fun _ _ _ h => h) (Or.inl ⟨by rfl, ?_⟩) ?_ ?_
        rotate_left; · intro w'; go_simp; with_reducible rfl
        rotate_left; · simp only [Act.put, List.setIfInBounds_toArray, List.set_cons_zero, List.set_cons_succ, i64_w, i32_w]; rfl
        refine pure_ (i := 11) (N := some 27) (v := ?_) (a' := ?_) #[true,true,true,true,true,true,true,true,true,true,true,true,false,false,false,false,false,false,false,false,false,false,false,false,false,false,false,false,false,false] rfl rfl (by kernel_rfl) (fun _ _ _ h => h) (Or.inl ⟨by rfl, ?_⟩) ?_ ?_
        rotate_left; · intro w'; go_simp; with_reducible rfl
        rotate_left; · simp only [Act.put, List.setIfInBounds_toArray, List.set_cons_zero, List.set_cons_succ, i64_w, i32_w]; rfl
        refine pure_ (i := 12) (N := some 28) (v := ?_) (a' := ?_) #[true,true,true,true,true,true,true,true,true,true,true,true,true,false,false,false,false,false,false,false,false,false,false,false,false,false,false,false,false,false] rfl rfl (by kernel_rfl) (fun _ _ _ h => h) (Or.inl ⟨by rfl, ?_⟩) ?_ ?_
        rotate_left; · intro w'; go_simp; with_reducible rfl
        rotate_left; · simp only [Act.put, List.setIfInBounds_toArray, List.set_cons_zero, List.set_cons_succ, i64_w, i32_w]; rfl
        refine take_ (i := 13) (N := some 29) (v := ?_) (a' := ?_) #[true,true,true,true,true,true,true,true,true,true,true,true,true,true,false,false,false,false,false,false,false,false,false,false,false,false,false,false,false,false] rfl rfl (by kernel_rfl) (fun _ _ _ h => h) (Or.inl ⟨by rfl, ?_⟩) hHeld ?_ ?_
        rotate_left; · rintro w' ⟨s0, s1, s2, s3, s4, s5, s6, s7⟩; go_simp; with_reducible rfl
        rotate_left; · simp only [Act.put, List.setIfInBounds_toArray, List.set_cons_zero, List.set_cons_succ, i64_w, i32_w]; rfl
        refine take_ (i := 14) (N := some 30) (v := ?_) (a' := ?_) #[true,true,true,true,true,true,true,true,true,true,true,true,true,true,true,false,false,false,false,false,false,false,false,false,false,false,false,false,false,false] rfl rfl (by kernel_rfl) (fun _ _ _ h => h) (Or.inl ⟨by rfl, ?_⟩) hHeld ?_ ?_
        rotate_left; · rintro w' ⟨s0, s1, s2, s3, s4, s5, s6, s7⟩; go_simp; with_reducible rfl
        rotate_left; · simp only [Act.put, List.setIfInBounds_toArray, List.set_cons_zero, List.set_cons_succ, i64_w, i32_w]; rfl
        refine pure_ (i := 15) (N := some 31) (v := ?_) (a' := ?_) #[true,true,true,true,true,true,true,true,true,true,true,true,true,true,true,true,false,false,false,false,false,false,false,false,false,false,false,false,false,false] rfl rfl (by kernel_rfl) (fun _ _ _ h => h) (Or.inl ⟨by rfl, ?_⟩) ?_ ?_
        rotate_left; · intro w'; go_simp; with_reducible rfl
        rotate_left; · simp only [Act.put, List.setIfInBounds_toArray, List.set_cons_zero, List.set_cons_succ, i64_w, i32_w]; rfl
        refine pure_ (i := 16) (N := some 32) (v := ?_) (a' := ?_) #[true,true,true,true,true,true,true,true,true,true,true,true,true,true,true,true,true,false,false,false,false,false,false,false,false,false,false,false,false,false] rfl rfl (by kernel_rfl) (fun _ _ _ h => h) (Or.inl ⟨by rfl, ?_⟩) ?_ ?_
        rotate_left; · intro w'; go_simp; with_reducible rfl
        rotate_left; · simp only [Act.put, List.setIfInBounds_toArray, List.set_cons_zero, List.set_cons_succ, i64_w, i32_w]; rfl
        refine pure_ (i := 17) (N := some 33) (v := ?_) (a' := ?_) #[true,true,true,true,true,true,true,true,true,true,true,true,true,true,true,true,true,true,false,false,false,false,false,false,false,false,false,false,false,false] rfl rfl (by kernel_rfl) (fun _ _ _ h => h) (Or.inl ⟨by rfl, ?_⟩) ?_ ?_
        rotate_left; · intro w'; go_simp; with_reducible rfl
        rotate_left; · simp only [Act.put, List.setIfInBounds_toArray, List.set_cons_zero, List.set_cons_succ, i64_w, i32_w]; rfl
        refine pure_ (i := 18) (N := some 34) (v := ?_) (a' := ?_) #[true,true,true,true,true,true,true,true,true,true,true,true,true,true,true,true,true,true,true,false,false,false,false,false,false,false,false,false,false,false] rfl rfl (by kernel_rfl) (fun _ _ _ h => h) (Or.inl ⟨by rfl, ?_⟩) ?_ ?_
        rotate_left; · intro w'; go_simp; with_reducible rfl
        rotate_left; · simp only [Act.put, List.setIfInBounds_toArray, List.set_cons_zero, List.set_cons_succ, i64_w, i32_w]; rfl
        refine pure_ (i := 19) (N := some 35) (v := ?_) (a' := ?_) #[true,true,true,true,true,true,true,true,true,true,true,true,true,true,true,true,true,true,true,true,false,false,false,false,false,false,false,false,false,false] rfl rfl (by kernel_rfl) (fun _ _ _ h => h) (Or.inl ⟨by rfl, ?_⟩) ?_ ?_
        rotate_left; · intro w'; go_simp; with_reducible rfl
        rotate_left; · simp only [Act.put, List.setIfInBounds_toArray, List.set_cons_zero, List.set_cons_succ, i64_w, i32_w]; rfl
        refine pure_ (i := 20) (N := some 36) (v := ?_) (a' := ?_) #[true,true,true,true,true,true,true,true,true,true,true,true,true,true,true,true,true,true,true,true,true,false,false,false,false,false,false,false,false,false] rfl rfl (by kernel_rfl) (fun _ _ _ h => h) (Or.inl ⟨by rfl, ?_⟩) ?_ ?_
        rotate_left; · intro w'; go_simp; with_reducible rfl
        rotate_left; · simp only [Act.put, List.setIfInBounds_toArray, List.set_cons_zero, List.set_cons_succ, i64_w, i32_w]; rfl
        refine pure_ (i := 21) (N := some 37) (v := ?_) (a' := ?_) #[true,true,true,true,true,true,true,true,true,true,true,true,true,true,true,true,true,true,true,true,true,true,false,false,false,false,false,false,false,false] rfl rfl (by kernel_rfl) (fun _ _ _ h => h) (Or.inl ⟨by rfl, ?_⟩) ?_ ?_
        rotate_left; · intro w'; go_simp; with_reducible rfl
        rotate_left; · simp only [Act.put, List.setIfInBounds_toArray, List.set_cons_zero, List.set_cons_succ, i64_w, i32_w]; rfl
        refine pure_ (i := 22) (N := some 38) (v := ?_) (a' := ?_) #[true,true,true,true,true,true,true,true,true,true,true,true,true,true,true,true,true,true,true,true,true,true,true,false,false,false,false,false,false,false] rfl rfl (by kernel_rfl) (fun _ _ _ h => h) (Or.inl ⟨by rfl, ?_⟩) ?_ ?_
        rotate_left; · intro w'; go_simp; with_reducible rfl
        rotate_left; · simp only [Act.put, List.setIfInBounds_toArray, List.set_cons_zero, List.set_cons_succ, i64_w, i32_w]; rfl
        refine pure_ (i := 23) (N := some 39) (v := ?_) (a' := ?_) #[true,true,true,true,true,true,true,true,true,true,true,true,true,true,true,true,true,true,true,true,true,true,true,true,false,false,false,false,false,false] rfl rfl (by kernel_rfl) (fun _ _ _ h => h) (Or.inl ⟨by rfl, ?_⟩) ?_ ?_
        rotate_left; · intro w'; go_simp; with_reducible rfl
        rotate_left; · simp only [Act.put, List.setIfInBounds_toArray, List.set_cons_zero, List.set_cons_succ, i64_w, i32_w]; rfl
        refine take_ (i := 24) (N := some 40) (v := ?_) (a' := ?_) #[true,true,true,true,true,true,true,true,true,true,true,true,true,true,true,true,true,true,true,true,true,true,true,true,true,false,false,false,false,false] rfl rfl (by kernel_rfl) (fun _ _ _ h => h) (Or.inl ⟨by rfl, ?_⟩) hHeld ?_ ?_
        rotate_left; · rintro w' ⟨s0, s1, s2, s3, s4, s5, s6, s7⟩; go_simp; with_reducible rfl
        rotate_left; · simp only [Act.put, List.setIfInBounds_toArray, List.set_cons_zero, List.set_cons_succ, i64_w, i32_w]; rfl
        refine take_ (i := 25) (N := some 41) (v := ?_) (a' := ?_) #[true,true,true,true,true,true,true,true,true,true,true,true,true,true,true,true,true,true,true,true,true,true,true,true,true,true,false,false,false,false] rfl rfl (by kernel_rfl) (fun _ _ _ h => h) (Or.inl ⟨by rfl, ?_⟩) hHeld ?_ ?_
        rotate_left; · rintro w' ⟨s0, s1, s2, s3, s4, s5, s6, s7⟩; go_simp; with_reducible rfl
        rotate_left; · simp only [Act.put, List.setIfInBounds_toArray, List.set_cons_zero, List.set_cons_succ, i64_w, i32_w]; rfl
        refine one_ (i := 26) (N := some 42) #[true,true,true,true,true,true,true,true,true,true,true,true,true,true,true,true,true,true,true,true,true,true,true,true,true,true,true,false,false,false] rfl rfl (by kernel_rfl) (by decide) (fun K hK => ?_)
        refine goes_ Try.func110 (by kernel_rfl) rfl #[.agg #[I r.f0, I r.f1], .agg #[I p.f0, I p.f1]] (by rfl) rfl rfl (by simp only [List.map_toArray, List.map_cons, List.map_nil]; rfl) ?_
        with_reducible refine (HCP.out _).mono ?_
        rintro e w4 ⟨rfl, hGb⟩
        refine ⟨_, rfl, ?_⟩
        replace HL := Aside0.mk (Grew.trans HL.out hGb)
        clear hGb
        refine hK.out _ _ ⟨(Below.cell (w := W1) HL.out (p := ⟨w.heap.size, 0, none⟩) hl0).trans k0, (Below.cell (w := W1) HL.out (p := ⟨w.heap.size, 1, none⟩) hl0).trans k1, (Below.cell (w := W1) HL.out (p := ⟨wr.heap.size, 0, none⟩) hl1).trans hp0, (Below.cell (w := W1) HL.out (p := ⟨wr.heap.size, 1, none⟩) hl1).trans hp1, (Below.cell (w := W1) HL.out (p := ad.add (j * 2)) hl2).trans hv0, (Below.cell (w := W1) HL.out (p := ⟨(ad.add (j * 2)).block, (ad.add (j * 2)).off + 1, none⟩) hl2).trans hv1, HLK0.out _ HL.out, HLK1.out _ HL.out⟩ (fun hHeld => ?_)
        clear hK K
        refine norm_ (a' := ?_) ?_ ?_
        rotate_left
        ·show Act.put _ (some 42) _ = _
         simp only [Act.put, List.setIfInBounds_toArray, List.set_cons_zero, List.set_cons_succ, i64_w, i32_w]
         rfl
        refine pure_ (i := 27) (N := some 43) (v := ?_) (a' := ?_) #[true,true,true,true,true,true,true,true,true,true,true,true,true,true,true,true,true,true,true,true,true,true,true,true,true,true,true,true,false,false] rfl rfl (by kernel_rfl) (fun _ _ _ h => h) (Or.inl ⟨by rfl, ?_⟩) ?_ ?_
        rotate_left; · intro w'; go_simp; with_reducible rfl
        rotate_left; · simp only [Act.put, List.setIfInBounds_toArray, List.set_cons_zero, List.set_cons_succ, i64_w, i32_w]; rfl
        refine pure_ (i := 28) (N := some 44) (v := ?_) (a' := ?_) #[true,true,true,true,true,true,true,true,true,true,true,true,true,true,true,true,true,true,true,true,true,true,true,true,true,true,true,true,true,false] rfl rfl (by kernel_rfl) (fun _ _ _ h => h) (Or.inl ⟨by rfl, ?_⟩) ?_ ?_
        rotate_left; · intro w'; go_simp; with_reducible rfl
        rotate_left; · simp only [Act.put, List.setIfInBounds_toArray, List.set_cons_zero, List.set_cons_succ, i64_w, i32_w]; rfl
        refine pure_ (i := 29) (N := some 45) (v := ?_) (a' := ?_) #[true,true,true,true,true,true,true,true,true,true,true,true,true,true,true,true,true,true,true,true,true,true,true,true,true,true,true,true,true,true] rfl rfl (by kernel_rfl) (fun _ _ _ h => h) (Or.inl ⟨by rfl, ?_⟩) ?_ ?_
        rotate_left; · intro w'; go_simp; with_reducible rfl
        rotate_left; · simp only [Act.put, List.setIfInBounds_toArray, List.set_cons_zero, List.set_cons_succ, i64_w, i32_w]; rfl
        refine done_ (by kernel_rfl) ?_
        clear hwj
        have hbB := HSr.out.lt
        have HS4 := Aside0.mk (HS1.out.later HL.out)
        have HP4 := Aside0.mk (blk_below HP1.out HL.out)
        obtain ⟨w5, hr5, hS5, hg5⟩ := SetM.store (w := w4.drew) (HS4.out.same rfl) (by omega) p.f0 HW0.out true
        have HP5 := Aside0.mk (blk_grown (blk_drew HP4.out) hg5 (by simp; omega))
        obtain ⟨w6, hr6, hS6, hg6⟩ := SetM.store hS5 (by omega) p.f1 HW1.out true
        have HP6 := Aside0.mk (blk_grown HP5.out hg6 (by simp; omega))
        have HB6 := Aside0.mk (blk_grown (blk_grown (blk_drew (blk_below HB1.out HL.out)) hg5 (by simp)) hg6 (by simp))
        have HS6 := Aside0.mk hS6
        have HGL := Aside0.mk (Grew.trans HGw1.out HL.out)
        have hzl := HGL.out.size
        have HG6 := Aside0.mk (pw_below_grown (pw_below_grown (below_drew HGL.out) _ (by simp; omega) hg5 (fun k hk => by cases hk; omega)) _ (by have := hg5.size; simp at this; omega) hg6 (fun k hk => by cases hk; omega))
        clear hS5 hS6 hg5 hg6 hzl
        go_wp2_with fail
        refine start_ (n := 8) (S := fun w' => w'.cell? ⟨wr.heap.size, 0, none⟩ = some (I p.f0) ∧ w'.cell? ⟨wr.heap.size, 1, none⟩ = some (I p.f1)) (ds := []) #[false,false,false,false,false,false,false,false] (by kernel_rfl) rfl rfl ⟨blk_cell (blk_drew HP4.out) 0, blk_cell (blk_drew HP4.out) 1⟩ (fun hHeld => ?_)
        refine pure_ (i := 0) (N := some 46) (v := ?_) (a' := ?_) #[true,false,false,false,false,false,false,false] rfl rfl (by kernel_rfl) (fun _ _ _ h => h) (Or.inl ⟨by rfl, ?_⟩) ?_ ?_
        rotate_left; · intro w'; go_simp; with_reducible rfl
        rotate_left; · simp only [Act.put, List.setIfInBounds_toArray, List.set_cons_zero, List.set_cons_succ, i64_w, i32_w]; rfl
        refine pure_ (i := 1) (N := some 47) (v := ?_) (a' := ?_) #[true,true,false,false,false,false,false,false] rfl rfl (by kernel_rfl) (fun _ _ _ h => h) (Or.inl ⟨by rfl, ?_⟩) ?_ ?_
        rotate_left; · intro w'; go_simp; with_reducible rfl
        rotate_left; · simp only [Act.put, List.setIfInBounds_toArray, List.set_cons_zero, List.set_cons_succ, i64_w, i32_w]; rfl
        refine pure_ (i := 3) (N := some 49) (v := ?_) (a' := ?_) #[true,true,false,true,false,false,false,false] rfl rfl (by kernel_rfl) (fun _ _ _ h => h) (Or.inl ⟨by rfl, ?_⟩) ?_ ?_
        rotate_left; · intro w'; go_simp; with_reducible rfl
        rotate_left; · simp only [Act.put, List.setIfInBounds_toArray, List.set_cons_zero, List.set_cons_succ, i64_w, i32_w]; rfl
        refine pure_ (i := 4) (N := some 50) (v := ?_) (a' := ?_) #[true,true,false,true,true,false,false,false] rfl rfl (by kernel_rfl) (fun _ _ _ h => h) (Or.inl ⟨by rfl, ?_⟩) ?_ ?_
        rotate_left; · intro w'; go_simp; with_reducible rfl
        rotate_left; · simp only [Act.put, List.setIfInBounds_toArray, List.set_cons_zero, List.set_cons_succ, i64_w, i32_w]; rfl
        refine take_ (i := 2) (N := some 48) (v := ?_) (a' := ?_) #[true,true,true,true,true,false,false,false] rfl rfl (by kernel_rfl) (fun _ _ _ h => h) (Or.inl ⟨by rfl, ?_⟩) hHeld ?_ ?_
        rotate_left; · rintro w' ⟨s0, s1⟩; go_simp; with_reducible rfl
        rotate_left; · simp only [Act.put, List.setIfInBounds_toArray, List.set_cons_zero, List.set_cons_succ, i64_w, i32_w]; rfl
        refine take_ (i := 5) (N := some 51) (v := ?_) (a' := ?_) #[true,true,true,true,true,true,false,false] rfl rfl (by kernel_rfl) (fun _ _ _ h => h) (Or.inl ⟨by rfl, ?_⟩) hHeld ?_ ?_
        rotate_left; · rintro w' ⟨s0, s1⟩; go_simp; with_reducible rfl
        rotate_left; · simp only [Act.put, List.setIfInBounds_toArray, List.set_cons_zero, List.set_cons_succ, i64_w, i32_w]; rfl
        refine one_ (i := 6) (N := none) #[true,true,true,true,true,true,true,false] rfl rfl (by kernel_rfl) (by decide) (fun K hK => ?_)
        refine skip_ (w1 := w5) (by rfl) rfl ?_ ?_
        ·simp only [execOp]
         go_simp
        refine hK.out _ _ ⟨blk_cell HP5.out 0, blk_cell HP5.out 1⟩ (fun hHeld => ?_)
        clear hK K
        refine one_ (i := 7) (N := none) #[true,true,true,true,true,true,true,true] rfl rfl (by kernel_rfl) (by decide) (fun K hK => ?_)
        refine skip_ (w1 := w6) (by rfl) rfl ?_ ?_
        ·simp only [execOp]
         go_simp
        refine hK.out _ _ ⟨blk_cell HP6.out 0, blk_cell HP6.out 1⟩ (fun hHeld => ?_)
        clear hK K
        refine done_ (by kernel_rfl) ?_
        go_wp2_with fail
        go_roundg (q.length - ((j + 1) + 1))
        case measure => omega
        case rel => exact ⟨(j + 1) + 1, by omega, by omega, by go_num, HB6, ⟨(HS6.out.mono (by omega)).cong (fun x _ => by rw [HSS.out x]; exact upd_seen _ _ _ x)⟩, HG6, HOK2⟩
       ·have HCV := Aside0.mk hcv
        have hge : 0 ≤ cmp2 r.f0 r.f1 p.f0 p.f1 := by omega
        clear hcv
        have HPF := Aside0.mk (HPB.out (by rw [HOK.out]; rw [HL0.out, HL1.out]; simp [HCV.out]))
        clear HPB HPS HOK
        go_wp2_with fail
        rw [← HE1.out]
        have HLK0 : Aside0 (∀ W, Grew W1 W → (Instr.lookup TMap (.map (some (w.heap.size + 1))) (I p.f0) false).run Try.prog W = .ok (.bool false) W) := ⟨fun W h => by have h2 := (HS1.out.later h).look p.f0 HW0.out; rw [HL0.out] at h2; exact h2⟩
        have HLK1 : Aside0 (∀ W, Grew W1 W → (Instr.lookup TMap (.map (some (w.heap.size + 1))) (I p.f1) false).run Try.prog W = .ok (.bool false) W) := ⟨fun W h => by have h2 := (HS1.out.later h).look p.f1 HW1.out; rw [HL1.out] at h2; exact h2⟩
        have hwj := HWJ.out
        refine start_ (n := 30) (S := fun w' => w'.cell? ⟨w.heap.size, 0, none⟩ = some (I n) ∧ w'.cell? ⟨w.heap.size, 1, none⟩ = some (.slice A l.length c) ∧ w'.cell? ⟨wr.heap.size, 0, none⟩ = some (I p.f0) ∧ w'.cell? ⟨wr.heap.size, 1, none⟩ = some (I p.f1) ∧ w'.cell? (ad.add (j * 2)) = some (I r.f0) ∧ w'.cell? ⟨(ad.add (j * 2)).block, (ad.add (j * 2)).off + 1, none⟩ = some (I r.f1) ∧ (Instr.lookup TMap (.map (some (w.heap.size + 1))) (I p.f0) false).run Try.prog w' = .ok (.bool false) w' ∧ (Instr.lookup TMap (.map (some (w.heap.size + 1))) (I p.f1) false).run Try.prog w' = .ok (.bool false) w') (ds := []) #[false,false,false,false,false,false,false,false,false,false,false,false,false,false,false,false,false,false,false,false,false,false,false,false,false,false,false,false,false,false] (by kernel_rfl) rfl rfl ⟨(Below.cell (w := W1) (below_drew (Grew.refl W1)) (p := ⟨w.heap.size, 0, none⟩) hl0).trans k0, (Below.cell (w := W1) (below_drew (Grew.refl W1)) (p := ⟨w.heap.size, 1, none⟩) hl0).trans k1, (Below.cell (w := W1) (below_drew (Grew.refl W1)) (p := ⟨wr.heap.size, 0, none⟩) hl1).trans hp0, (Below.cell (w := W1) (below_drew (Grew.refl W1)) (p := ⟨wr.heap.size, 1, none⟩) hl1).trans hp1, (Below.cell (w := W1) (below_drew (Grew.refl W1)) (p := ad.add (j * 2)) hl2).trans hv0, (Below.cell (w := W1) (below_drew (Grew.refl W1)) (p := ⟨(ad.add (j * 2)).block, (ad.add (j * 2)).off + 1, none⟩) hl2).trans hv1, HLK0.out _ (below_drew (Grew.refl W1)), HLK1.out _ (below_drew (Grew.refl W1))⟩ (fun hHeld => ?_)
        refine take_ (i := 0) (N := some 16) (v := ?_) (a' := ?_) #[true,false,false,false,false,false,false,false,false,false,false,false,false,false,false,false,false,false,false,false,false,false,false,false,false,false,false,false,false,false] rfl rfl (by kernel_rfl) (fun _ _ _ h => h) (Or.inl ⟨by rfl, ?_⟩) hHeld ?_ ?_
        rotate_left; · rintro w' ⟨s0, s1, s2, s3, s4, s5, s6, s7⟩; go_simp; with_reducible rfl
        rotate_left; · simp only [Act.put, List.setIfInBounds_toArray, List.set_cons_zero, List.set_cons_succ, i64_w, i32_w]; rfl
        refine take_ (i := 1) (N := some 17) (v := ?_) (a' := ?_) #[true,true,false,false,false,false,false,false,false,false,false,false,false,false,false,false,false,false,false,false,false,false,false,false,false,false,false,false,false,false] rfl rfl (by kernel_rfl) (fun _ _ _ h => h) (Or.inl ⟨by rfl, ?_⟩) hHeld ?_ ?_
        rotate_left; · rintro w' ⟨s0, s1, s2, s3, s4, s5, s6, s7⟩; go_simp; with_reducible rfl
        rotate_left; · simp only [Act.put, List.setIfInBounds_toArray, List.set_cons_zero, List.set_cons_succ, i64_w, i32_w]; rfl
        refine one_ (i := 2) (N := some 18) #[true,true,true,false,false,false,false,false,false,false,false,false,false,false,false,false,false,false,false,false,false,false,false,false,false,false,false,false,false,false] rfl rfl (by kernel_rfl) (by decide) (fun K hK => ?_)
        refine goes_ Try.func88 (by kernel_rfl) rfl #[.agg #[I n, .slice A l.length c], .agg #[I p.f0, I p.f1]] (by rfl) rfl rfl (by simp only [List.map_toArray, List.map_cons, List.map_nil]; rfl) ?_
        with_reducible refine (HIP.out _ (below_drew (Grew.refl W1))).mono ?_
        rintro e w3 ⟨rfl, hGa⟩
        refine ⟨_, rfl, ?_⟩
        have HL := Aside0.mk (Grew.trans (below_drew (Grew.refl W1)) hGa)
        clear hGa
        refine hK.out _ _ ⟨(Below.cell (w := W1) HL.out (p := ⟨w.heap.size, 0, none⟩) hl0).trans k0, (Below.cell (w := W1) HL.out (p := ⟨w.heap.size, 1, none⟩) hl0).trans k1, (Below.cell (w := W1) HL.out (p := ⟨wr.heap.size, 0, none⟩) hl1).trans hp0, (Below.cell (w := W1) HL.out (p := ⟨wr.heap.size, 1, none⟩) hl1).trans hp1, (Below.cell (w := W1) HL.out (p := ad.add (j * 2)) hl2).trans hv0, (Below.cell (w := W1) HL.out (p := ⟨(ad.add (j * 2)).block, (ad.add (j * 2)).off + 1, none⟩) hl2).trans hv1, HLK0.out _ HL.out, HLK1.out _ HL.out⟩ (fun hHeld => ?_)
        clear hK K
        refine norm_ (a' := ?_) ?_ ?_
        rotate_left
        ·show Act.put _ (some 18) _ = _
         simp only [Act.put, List.setIfInBounds_toArray, List.set_cons_zero, List.set_cons_succ, i64_w, i32_w]
         rfl
        refine pure_ (i := 3) (N := some 19) (v := ?_) (a' := ?_) #[true,true,true,true,false,false,false,false,false,false,false,false,false,false,false,false,false,false,false,false,false,false,false,false,false,false,false,false,false,false] rfl rfl (by kernel_rfl) (fun _ _ _ h => h) (Or.inl ⟨by rfl, ?_⟩) ?_ ?_
        rotate_left; · intro w'; go_simp; with_reducible rfl
        rotate_left; · simp only [Act.put, List.setIfInBounds_toArray, List.set_cons_zero, List.set_cons_succ, i64_w, i32_w]; rfl
        refine pure_ (i := 4) (N := some 20) (v := ?_) (a' := ?_) #[true,true,true,true,true,false,false,false,false,false,false,false,false,false,false,false,false,false,false,false,false,false,false,false,false,false,false,false,false,false] rfl rfl (by kernel_rfl) (fun _ _ _ h => h) (Or.inl ⟨by rfl, ?_⟩) ?_ ?_
        rotate_left; · intro w'; go_simp; with_reducible rfl
        rotate_left; · simp only [Act.put, List.setIfInBounds_toArray, List.set_cons_zero, List.set_cons_succ, i64_w, i32_w]; rfl
        refine pure_ (i := 5) (N := some 21) (v := ?_) (a' := ?_) #[true,true,true,true,true,true,false,false,false,false,false,false,false,false,false,false,false,false,false,false,false,false,false,false,false,false,false,false,false,false] rfl rfl (by kernel_rfl) (fun _ _ _ h => h) (Or.inl ⟨by rfl, ?_⟩) ?_ ?_
        rotate_left; · intro w'; go_simp; with_reducible rfl
        rotate_left; · simp only [Act.put, List.setIfInBounds_toArray, List.set_cons_zero, List.set_cons_succ, i64_w, i32_w]; rfl
        refine pure_ (i := 6) (N := some 22) (v := ?_) (a' := ?_) #[true,true,true,true,true,true,true,false,false,false,false,false,false,false,false,false,false,false,false,false,false,false,false,false,false,false,false,false,false,false] rfl rfl (by kernel_rfl) (fun _ _ _ h => h) (Or.inl ⟨by rfl, ?_⟩) ?_ ?_
        rotate_left; · intro w'; go_simp; with_reducible rfl
        rotate_left; · simp only [Act.put, List.setIfInBounds_toArray, List.set_cons_zero, List.set_cons_succ, i64_w, i32_w]; rfl
        refine take_ (i := 7) (N := some 23) (v := ?_) (a' := ?_) #[true,true,true,true,true,true,true,true,false,false,false,false,false,false,false,false,false,false,false,false,false,false,false,false,false,false,false,false,false,false] rfl rfl (by kernel_rfl) (fun _ _ _ h => h) (Or.inl ⟨by rfl, ?_⟩) hHeld ?_ ?_
        rotate_left; · rintro w' ⟨s0, s1, s2, s3, s4, s5, s6, s7⟩; go_simp; with_reducible rfl
        rotate_left; · simp only [Act.put, List.setIfInBounds_toArray, List.set_cons_zero, List.set_cons_succ, i64_w, i32_w]; rfl
        refine take_ (i := 8) (N := some 24) (v := ?_) (a' := ?_) #[true,true,true,true,true,true,true,true,true,false,false,false,false,false,false,false,false,false,false,false,false,false,false,false,false,false,false,false,false,false] rfl rfl (by kernel_rfl) (fun _ _ _ h => h) (Or.inl ⟨by rfl, ?_⟩) hHeld ?_ ?_
        rotate_left; · rintro w' ⟨s0, s1, s2, s3, s4, s5, s6, s7⟩; go_simp; with_reducible rfl
        rotate_left; · simp only [Act.put, List.setIfInBounds_toArray, List.set_cons_zero, List.set_cons_succ, i64_w, i32_w]; rfl
        refine pure_ (i := 9) (N := some 25) (v := ?_) (a' := ?_) #[true,true,true,true,true,true,true,true,true,true,false,false,false,false,false,false,false,false,false,false,false,false,false,false,false,false,false,false,false,false] rfl rfl (by kernel_rfl) (fun _ _ _ h => h) (Or.inl ⟨by rfl, ?_⟩) ?_ ?_
        rotate_left; · intro w'; go_simp; with_reducible rfl
        rotate_left; · simp only [Act.put, List.setIfInBounds_toArray, List.set_cons_zero, List.set_cons_succ, i64_w, i32_w]; rfl
        refine pure_ (i := 10) (N := some 26) (v := ?_) (a' := ?_) #[true,true,true,true,true,true,true,true,true,true,true,false,false,false,false,false,false,false,false,false,false,false,false,false,false,false,false,false,false,false] rfl rfl (by kernel_rfl) (fun _ _ _ h => h) (Or.inl ⟨by rfl, ?_⟩) ?_ ?_
        rotate_left; · intro w'; go_simp; with_reducible rfl
        rotate_left; · simp only [Act.put, List.setIfInBounds_toArray, List.set_cons_zero, List.set_cons_succ, i64_w, i32_w]; rfl
        refine pure_ (i := 11) (N := some 27) (v := ?_) (a' := ?_) #[true,true,true,true,true,true,true,true,true,true,true,true,false,false,false,false,false,false,false,false,false,false,false,false,false,false,false,false,false,false] rfl rfl (by kernel_rfl) (fun _ _ _ h => h) (Or.inl ⟨by rfl, ?_⟩) ?_ ?_
        rotate_left; · intro w'; go_simp; with_reducible rfl
        rotate_left; · simp only [Act.put, List.setIfInBounds_toArray, List.set_cons_zero, List.set_cons_succ, i64_w, i32_w]; rfl
        refine pure_ (i := 12) (N := some 28) (v := ?_) (a' := ?_) #[true,true,true,true,true,true,true,true,true,true,true,true,true,false,false,false,false,false,false,false,false,false,false,false,false,false,false,false,false,false] rfl rfl (by kernel_rfl) (fun _ _ _ h => h) (Or.inl ⟨by rfl, ?_⟩) ?_ ?_
        rotate_left; · intro w'; go_simp; with_reducible rfl
        rotate_left; · simp only [Act.put, List.setIfInBounds_toArray, List.set_cons_zero, List.set_cons_succ, i64_w, i32_w]; rfl
        refine take_ (i := 13) (N := some 29) (v := ?_) (a' := ?_) #[true,true,true,true,true,true,true,true,true,true,true,true,true,true,false,false,false,false,false,false,false,false,false,false,false,false,false,false,false,false] rfl rfl (by kernel_rfl) (fun _ _ _ h => h) (Or.inl ⟨by rfl, ?_⟩) hHeld ?_ ?_
        rotate_left; · rintro w' ⟨s0, s1, s2, s3, s4, s5, s6, s7⟩; go_simp; with_reducible rfl
        rotate_left; · simp only [Act.put, List.setIfInBounds_toArray, List.set_cons_zero, List.set_cons_succ, i64_w, i32_w]; rfl
        refine take_ (i := 14) (N := some 30) (v := ?_) (a' := ?_) #[true,true,true,true,true,true,true,true,true,true,true,true,true,true,true,false,false,false,false,false,false,false,false,false,false,false,false,false,false,false] rfl rfl (by kernel_rfl) (fun _ _ _ h => h) (Or.inl ⟨by rfl, ?_⟩) hHeld ?_ ?_
        rotate_left; · rintro w' ⟨s0, s1, s2, s3, s4, s5, s6, s7⟩; go_simp; with_reducible rfl
        rotate_left; · simp only [Act.put, List.setIfInBounds_toArray, List.set_cons_zero, List.set_cons_succ, i64_w, i32_w]; rfl
        refine pure_ (i := 15) (N := some 31) (v := ?_) (a' := ?_) #[true,true,true,true,true,true,true,true,true,true,true,true,true,true,true,true,false,false,false,false,false,false,false,false,false,false,false,false,false,false] rfl rfl (by kernel_rfl) (fun _ _ _ h => h) (Or.inl ⟨by rfl, ?_⟩) ?_ ?_
        rotate_left; · intro w'; go_simp; with_reducible rfl
        rotate_left; · simp only [Act.put, List.setIfInBounds_toArray, List.set_cons_zero, List.set_cons_succ, i64_w, i32_w]; rfl
        refine pure_ (i := 16) (N := some 32) (v := ?_) (a' := ?_) #[true,true,true,true,true,true,true,true,true,true,true,true,true,true,true,true,true,false,false,false,false,false,false,false,false,false,false,false,false,false] rfl rfl (by kernel_rfl) (fun _ _ _ h => h) (Or.inl ⟨by rfl, ?_⟩) ?_ ?_
        rotate_left; · intro w'; go_simp; with_reducible rfl
        rotate_left; · simp only [Act.put, List.setIfInBounds_toArray, List.set_cons_zero, List.set_cons_succ, i64_w, i32_w]; rfl
        refine pure_ (i := 17) (N := some 33) (v := ?_) (a' := ?_) #[true,true,true,true,true,true,true,true,true,true,true,true,true,true,true,true,true,true,false,false,false,false,false,false,false,false,false,false,false,false] rfl rfl (by kernel_rfl) (fun _ _ _ h => h) (Or.inl ⟨by rfl, ?_⟩) ?_ ?_
        rotate_left; · intro w'; go_simp; with_reducible rfl
        rotate_left; · simp only [Act.put, List.setIfInBounds_toArray, List.set_cons_zero, List.set_cons_succ, i64_w, i32_w]; rfl
        refine pure_ (i := 18) (N := some 34) (v := ?_) (a' := ?_) #[true,true,true,true,true,true,true,true,true,true,true,true,true,true,true,true,true,true,true,false,false,false,false,false,false,false,false,false,false,false] rfl rfl (by kernel_rfl) (fun _ _ _ h => h) (Or.inl ⟨by rfl, ?_⟩) ?_ ?_
        rotate_left; · intro w'; go_simp; with_reducible rfl
        rotate_left; · simp only [Act.put, List.setIfInBounds_toArray, List.set_cons_zero, List.set_cons_succ, i64_w, i32_w]; rfl
        refine pure_ (i := 19) (N := some 35) (v := ?_) (a' := ?_) #[true,true,true,true,true,true,true,true,true,true,true,true,true,true,true,true,true,true,true,true,false,false,false,false,false,false,false,false,false,false] rfl rfl (by kernel_rfl) (fun _ _ _ h => h) (Or.inl ⟨by rfl, ?_⟩) ?_ ?_
        rotate_left; · intro w'; go_simp; with_reducible rfl
        rotate_left; · simp only [Act.put, List.setIfInBounds_toArray, List.set_cons_zero, List.set_cons_succ, i64_w, i32_w]; rfl
        refine pure_ (i := 20) (N := some 36) (v := ?_) (a' := ?_) #[true,true,true,true,true,true,true,true,true,true,true,true,true,true,true,true,true,true,true,true,true,false,false,false,false,false,false,false,false,false] rfl rfl (by kernel_rfl) (fun _ _ _ h => h) (Or.inl ⟨by rfl, ?_⟩) ?_ ?_
        rotate_left; · intro w'; go_simp; with_reducible rfl
        rotate_left; · simp only [Act.put, List.setIfInBounds_toArray, List.set_cons_zero, List.set_cons_succ, i64_w, i32_w]; rfl
        refine pure_ (i := 21) (N := some 37) (v := ?_) (a' := ?_) #[true,true,true,true,true,true,true,true,true,true,true,true,true,true,true,true,true,true,true,true,true,true,false,false,false,false,false,false,false,false] rfl rfl (by kernel_rfl) (fun _ _ _ h => h) (Or.inl ⟨by rfl, ?_⟩) ?_ ?_
        rotate_left; · intro w'; go_simp; with_reducible rfl
        rotate_left; · simp only [Act.put, List.setIfInBounds_toArray, List.set_cons_zero, List.set_cons_succ, i64_w, i32_w]; rfl
        refine pure_ (i := 22) (N := some 38) (v := ?_) (a' := ?_) #[true,true,true,true,true,true,true,true,true,true,true,true,true,true,true,true,true,true,true,true,true,true,true,false,false,false,false,false,false,false] rfl rfl (by kernel_rfl) (fun _ _ _ h => h) (Or.inl ⟨by rfl, ?_⟩) ?_ ?_
        rotate_left; · intro w'; go_simp; with_reducible rfl
        rotate_left; · simp only [Act.put, List.setIfInBounds_toArray, List.set_cons_zero, List.set_cons_succ, i64_w, i32_w]; rfl
        refine pure_ (i := 23) (N := some 39) (v := ?_) (a' := ?_) #[true,true,true,true,true,true,true,true,true,true,true,true,true,true,true,true,true,true,true,true,true,true,true,true,false,false,false,false,false,false] rfl rfl (by kernel_rfl) (fun _ _ _ h => h) (Or.inl ⟨by rfl, ?_⟩) ?_ ?_
        rotate_left; · intro w'; go_simp; with_reducible rfl
        rotate_left; · simp only [Act.put, List.setIfInBounds_toArray, List.set_cons_zero, List.set_cons_succ, i64_w, i32_w]; rfl
        refine take_ (i := 24) (N := some 40) (v := ?_) (a' := ?_) #[true,true,true,true,true,true,true,true,true,true,true,true,true,true,true,true,true,true,true,true,true,true,true,true,true,false,false,false,false,false] rfl rfl (by kernel_rfl) (fun _ _ _ h => h) (Or.inl ⟨by rfl, ?_⟩) hHeld ?_ ?_
        rotate_left; · rintro w' ⟨s0, s1, s2, s3, s4, s5, s6, s7⟩; go_simp; with_reducible rfl
        rotate_left; · simp only [Act.put, List.setIfInBounds_toArray, List.set_cons_zero, List.set_cons_succ, i64_w, i32_w]; rfl
        refine take_ (i := 25) (N := some 41) (v := ?_) (a' := ?_) #[true,true,true,true,true,true,true,true,true,true,true,true,true,true,true,true,true,true,true,true,true,true,true,true,true,true,false,false,false,false] rfl rfl (by kernel_rfl) (fun _ _ _ h => h) (Or.inl ⟨by rfl, ?_⟩) hHeld ?_ ?_
        rotate_left; · rintro w' ⟨s0, s1, s2, s3, s4, s5, s6, s7⟩; go_simp; with_reducible rfl
        rotate_left; · simp only [Act.put, List.setIfInBounds_toArray, List.set_cons_zero, List.set_cons_succ, i64_w, i32_w]; rfl
        refine one_ (i := 26) (N := some 42) #[true,true,true,true,true,true,true,true,true,true,true,true,true,true,true,true,true,true,true,true,true,true,true,true,true,true,true,false,false,false] rfl rfl (by kernel_rfl) (by decide) (fun K hK => ?_)
        refine goes_ Try.func110 (by kernel_rfl) rfl #[.agg #[I r.f0, I r.f1], .agg #[I p.f0, I p.f1]] (by rfl) rfl rfl (by simp only [List.map_toArray, List.map_cons, List.map_nil]; rfl) ?_
        with_reducible refine (HCP.out _).mono ?_
        rintro e w4 ⟨rfl, hGb⟩
        refine ⟨_, rfl, ?_⟩
        replace HL := Aside0.mk (Grew.trans HL.out hGb)
        clear hGb
        refine hK.out _ _ ⟨(Below.cell (w := W1) HL.out (p := ⟨w.heap.size, 0, none⟩) hl0).trans k0, (Below.cell (w := W1) HL.out (p := ⟨w.heap.size, 1, none⟩) hl0).trans k1, (Below.cell (w := W1) HL.out (p := ⟨wr.heap.size, 0, none⟩) hl1).trans hp0, (Below.cell (w := W1) HL.out (p := ⟨wr.heap.size, 1, none⟩) hl1).trans hp1, (Below.cell (w := W1) HL.out (p := ad.add (j * 2)) hl2).trans hv0, (Below.cell (w := W1) HL.out (p := ⟨(ad.add (j * 2)).block, (ad.add (j * 2)).off + 1, none⟩) hl2).trans hv1, HLK0.out _ HL.out, HLK1.out _ HL.out⟩ (fun hHeld => ?_)
        clear hK K
        refine norm_ (a' := ?_) ?_ ?_
        rotate_left
        ·show Act.put _ (some 42) _ = _
         simp only [Act.put, List.setIfInBounds_toArray, List.set_cons_zero, List.set_cons_succ, i64_w, i32_w]
         rfl
        refine pure_ (i := 27) (N := some 43) (v := ?_) (a' := ?_) #[true,true,true,true,true,true,true,true,true,true,true,true,true,true,true,true,true,true,true,true,true,true,true,true,true,true,true,true,false,false] rfl rfl (by kernel_rfl) (fun _ _ _ h => h) (Or.inl ⟨by rfl, ?_⟩) ?_ ?_
        rotate_left; · intro w'; go_simp; with_reducible rfl
        rotate_left; · simp only [Act.put, List.setIfInBounds_toArray, List.set_cons_zero, List.set_cons_succ, i64_w, i32_w]; rfl
        refine pure_ (i := 28) (N := some 44) (v := ?_) (a' := ?_) #[true,true,true,true,true,true,true,true,true,true,true,true,true,true,true,true,true,true,true,true,true,true,true,true,true,true,true,true,true,false] rfl rfl (by kernel_rfl) (fun _ _ _ h => h) (Or.inl ⟨by rfl, ?_⟩) ?_ ?_
        rotate_left; · intro w'; go_simp; with_reducible rfl
        rotate_left; · simp only [Act.put, List.setIfInBounds_toArray, List.set_cons_zero, List.set_cons_succ, i64_w, i32_w]; rfl
        refine pure_ (i := 29) (N := some 45) (v := ?_) (a' := ?_) #[true,true,true,true,true,true,true,true,true,true,true,true,true,true,true,true,true,true,true,true,true,true,true,true,true,true,true,true,true,true] rfl rfl (by kernel_rfl) (fun _ _ _ h => h) (Or.inl ⟨by rfl, ?_⟩) ?_ ?_
        rotate_left; · intro w'; go_simp; with_reducible rfl
        rotate_left; · simp only [Act.put, List.setIfInBounds_toArray, List.set_cons_zero, List.set_cons_succ, i64_w, i32_w]; rfl
        refine done_ (by kernel_rfl) ?_
        clear hwj
        go_wp2_with fail
        go_ret
        exact ⟨by rw [HPF.out]; rfl, Grew.trans HGw1.out HL.out⟩
  ·have hltz : ¬ (i : Int) < (q.length : Int) := by omega
   have HE : Aside0 (i = q.length) := ⟨by omega⟩
   have HPT := Aside0.mk (ping_true (l := l) (q := q) (fun j hj => HO.out j (by have := HE.out; omega)))
   go_wp2_with fail
   go_ret
   exact ⟨by rw [HPT.out]; rfl, HGr.out⟩

end Go.Proofs.Ytniikppojffiaaa.K
end

section
/- The code of a pairing. -/
namespace Go.Proofs.Ytniikppojffiaaa.K
open Go.RowKit Go.Shelf Go.Proofs.Ytniikppojffiaaa.Q Go.Proofs.YtniikppojffiaaaW.PrintWords Go.Proofs.YtniikppojffiaaaW.PrintLast Go.Proofs.YtniikppojffiaaaW.PrintMore
set_option linter.unusedVariables false
set_option linter.unusedSimpArgs false

set_option maxHeartbeats 2000000 in
theorem pairingCode1_calls (b : Bool) {n : Int} (A : Option Addr) (c : Nat) {l : List Int} (A2 : Option Addr) (c2 : Nat) (q : List PairT) {Bk Bq Bb : Nat} (w : World) (hi : isC n l = true) (h0 : CB w Bk n (.slice A l.length c)) (h1 : w.cell? ⟨Bq, 0, none⟩ = some (.slice A2 q.length c2)) (h2 : w.cell? ⟨Bb, 0, none⟩ = some (.bool b)) (hk : Kx w A c l) (hq : Kq.C w A2 q.length q) (hc2 : q.length ≤ c2) (hq2 : q.length ≤ 2097152) :
    Calls Try.prog 111 #[.pointer (some ⟨Bb, 0, none⟩), .pointer (some ⟨Bk, 0, none⟩), .pointer (some ⟨Bq, 0, none⟩)] w fun e w' => e = .returned (.bool (b && pingB l q)) ∧ Grew w w' := by
  have k0 := h0.c0
  have k1 := h0.c1
  cases b with
  | false =>
    go_enter Try.func111, Try.ntmps111
    go_wp2_with fail
    go_ret
    exact ⟨rfl, Grew.refl w⟩
  | true =>
    have H := Aside0.mk (isPairing_calls A c hi A2 c2 q w hk hq hc2 hq2)
    clear hk hq hc2
    rw [Bool.true_and]
    generalize pingB l q = r at H ⊢
    go_enter Try.func111, Try.ntmps111
    go_wp2_with fail
    refine H.out.mono ?_
    rintro e w1 ⟨rfl, hG1⟩
    go_wp2_with fail
    go_ret
    exact ⟨rfl, hG1⟩
set_option maxHeartbeats 2000000 in
theorem pairingCode_calls (b : Bool) (n : Int) (A : Option Addr) (c : Nat) (l : List Int) (A2 : Option Addr) (c2 : Nat) (q : List PairT) (w : World) (hk : Kx w A c l) (hq : Kq.C w A2 q.length q) (hc2 : q.length ≤ c2) (hq2 : q.length ≤ 2097152) :
    Calls Try.prog 68 #[.agg #[I n, .slice A l.length c], .slice A2 q.length c2, .bool b] w fun e w' => e = .returned (I (codeOf n l (b && pingB l q))) ∧ Grew w w' := by
  obtain ⟨W, hW⟩ : ∃ W, W = ((w.alloc (.cells #[I n, .slice A l.length c] 30)).alloc (.cells #[.slice A2 q.length c2] 32)).alloc (.cells #[.bool b] 4) := ⟨_, rfl⟩
  have hB : CB W w.heap.size n (.slice A l.length c) := by rw [hW]; exact blk_alloc (blk_alloc (blk_new w _) _) _
  have hL : W.heap[w.heap.size + 1]? = some (.cells #[.slice A2 q.length c2] 32 (0, 0)) := by
    rw [hW]
    refine blk_alloc ?_ _
    have := blk_new (w.alloc (.cells #[I n, .slice A l.length c] 30)) (.cells #[.slice A2 q.length c2] 32)
    rwa [World.size_alloc] at this
  have hb : W.heap[w.heap.size + 2]? = some (.cells #[.bool b] 4 (0, 0)) := by
    rw [hW]
    have := blk_new ((w.alloc (.cells #[I n, .slice A l.length c] 30)).alloc (.cells #[.slice A2 q.length c2] 32)) (.cells #[.bool b] 4)
    rwa [World.size_alloc, World.size_alloc] at this
  have hg : Grew w W := by rw [hW]; exact below_alloc (below_alloc (below_alloc (Grew.refl w) _) _) _
  have H := Aside0.mk (complexCode_calls (b && pingB l q) n A c l 111 #[] #[.pointer (some ⟨w.heap.size + 2, 0, none⟩), .pointer (some ⟨w.heap.size, 0, none⟩), .pointer (some ⟨w.heap.size + 1, 0, none⟩)] W (hk.later hg) (enters_of Try.func111 (by kernel_rfl) rfl)
    (fun hi W2 hW2 => by
      have := pairingCode1_calls b A c A2 c2 q W2 hi (blk_below hB hW2) (blk_cell (blk_below hL hW2) 0) (blk_cell (blk_below hb hW2) 0) (hk.later (Grew.trans hg hW2)) (Kd.C_below hq (Grew.trans hg hW2)) hc2 hq2
      rw [Array.empty_append]
      exact this))
  have k0 := hB.c0
  have k1 := hB.c1
  have HG := Aside0.mk hg
  clear hk hq hc2 hB hL hb hg
  generalize codeOf n l (b && pingB l q) = cc at H ⊢
  subst hW
  go_enter Try.func68, Try.ntmps68
  go_wp2_with fail
  refine H.out.mono ?_
  rintro e w1 ⟨rfl, hG1⟩
  go_wp2_with fail
  go_ret
  exact ⟨rfl, Grew.trans HG.out hG1⟩

end Go.Proofs.Ytniikppojffiaaa.K
end

section
/- IsPairing, CriticalFaces, CriticalNumbers. -/
namespace Go.Proofs.Ytniikppojffiaaa.K
open Go.RowKit Go.Shelf Go.Proofs.Ytniikppojffiaaa.Q Go.Proofs.YtniikppojffiaaaW.PrintWords Go.Proofs.YtniikppojffiaaaW.PrintLast Go.Proofs.YtniikppojffiaaaW.PrintMore
set_option linter.unusedVariables false
set_option linter.unusedSimpArgs false

set_option maxRecDepth 100000 in
set_option maxHeartbeats 8000000 in
theorem CriticalNumbers_calls (n : Int) (A : Option Addr) (c : Nat) (l : List Int) (A2 : Option Addr) (c2 : Nat) (q : List PairT) (w : World) (hk : Kx w A c l) (hq : Kq.C w A2 q.length q) (hc2 : q.length ≤ c2) (hq2 : q.length ≤ 2097152) :
    Calls Try.prog 33 #[.agg #[I n, .slice A l.length c], .slice A2 q.length c2] w fun e w' => ∃ v0, e = .returned (.tuple #[v0, I (codeOf n l (true && pingB l q))]) ∧ Ki.R 2 w' w.heap.size (fun _ => True) v0 (if codeOf n l (true && pingB l q) = 0 then (countL (topI l + 1).toNat (critL l q)) else []) ∧ Grew w w' := by
  obtain ⟨W3, hW3⟩ : ∃ W3, W3 = (w.alloc (.cells #[I n, .slice A l.length c] 30)) := ⟨_, rfl⟩
  have hB_k : W3.heap[w.heap.size]? = some (.cells #[I n, .slice A l.length c] 30 (0, 0)) := by
    rw [hW3]
    have := blk_new w (.cells #[I n, .slice A l.length c] 30)
    exact this
  have hg : Grew w W3 := by rw [hW3]; exact below_alloc (Grew.refl w) _
  have HK := Aside0.mk hk
  have HQ := Aside0.mk hq
  have HC2 := Aside0.mk hc2
  have HQ2 := Aside0.mk hq2
  have HG := Aside0.mk hg
  have H := Aside0.mk (pairingCode_calls true n A c l A2 c2 q W3 (HK.out.later HG.out) (Kd.C_below HQ.out HG.out) HC2.out HQ2.out)
  have k_0 : W3.cell? ⟨w.heap.size, 0, none⟩ = some (I n) := blk_cell hB_k 0
  have k_1 : W3.cell? ⟨w.heap.size, 1, none⟩ = some (.slice A l.length c) := blk_cell hB_k 1
  have HB_k := Aside0.mk hB_k
  clear hg hk hq hc2 hq2 hB_k
  obtain ⟨cc, hcc⟩ : ∃ cc, cc = codeOf n l (true && pingB l q) := ⟨_, rfl⟩
  rw [← hcc] at H ⊢
  by_cases hz : cc = 0
  · subst hz
    have HZ := Aside0.mk hcc.symm
    have hx0 : ∀ {α : Type} (a b : α), (if (0 : Int) = 0 then a else b) = a := fun a b => if_pos rfl
    simp only [hx0]
    clear hcc hx0
    subst hW3
    go_enter Try.func33, Try.ntmps33
    go_wp2_with fail
    refine H.out.mono ?_
    rintro e w1 ⟨rfl, hG1⟩
    have HB1_k := Aside0.mk (blk_below HB_k.out hG1)
    have HG1 := Aside0.mk (Grew.trans HG.out hG1)
    clear hG1 k_0 k_1
    have k_0 : w1.cell? ⟨w.heap.size, 0, none⟩ = some (I n) := blk_cell HB1_k.out 0
    have k_1 : w1.cell? ⟨w.heap.size, 1, none⟩ = some (.slice A l.length c) := blk_cell HB1_k.out 1
    have HI := Aside0.mk (codeOf_zero HZ.out).1
    have hb := isC_faces HI.out
    have hl0 := World.block_lt_of_cell? w1 _ k_0
    have HC3 : Aside0 (∀ W, Grew w1 W → Calls Try.prog 69 #[.agg #[I n, .slice A l.length c], .slice A2 q.length c2] W fun e w' => ∃ v, e = .returned v ∧ Ki.R 2 w' W.heap.size (fun _ => True) v (critL l q) ∧ Grew W w') := ⟨fun W h => critical_calls n A c l A2 c2 q W (HK.out.later (Grew.trans HG1.out h)) (by omega) (Kd.C_below HQ.out (Grew.trans HG1.out h)) HC2.out⟩
    have HC4 : Aside0 (∀ W (A3 : Option Addr) (c3 : Nat), Grew w1 W → (∃ A c, (.slice A3 (critL l q).length c3 : Value) = .slice A (critL l q).length c ∧ (critL l q).length ≤ c ∧ Ki.C W A (critL l q).length (critL l q)) → Calls Try.prog 71 #[.agg #[I n, .slice A l.length c], .slice A3 (critL l q).length c3] W fun e w' => ∃ v, e = .returned v ∧ Ki.R 2 w' w.heap.size (fun _ => True) v (countL (topI l + 1).toNat (critL l q)) ∧ Grew W w') := ⟨fun W A3 c3 h hr => by
      obtain ⟨A, c', e, h1, h2⟩ := hr
      injection e with e1 _ e2
      subst e1 e2
      have hcl := List.length_filter_le (fun f => !inPair q f) l
      have hzz := Grew.trans HG1.out h
      refine (count_calls n _ c l A3 c3 (critL l q) W (HK.out.later hzz) (by omega) (fun x hx => by have := hb.2.2.1 x hx; omega) h2 h1 (fun x hx => (List.mem_filter.1 hx).1) (by unfold critL; omega)).mono ?_
      rintro e w' ⟨v, rfl, hR, hG⟩
      exact ⟨v, rfl, Kd.R_lower hR hzz.size, hG⟩⟩
    clear hb
    go_wp2_with fail
    refine start_ (n := 7) (S := fun w' => w'.cell? ⟨w.heap.size, 0, none⟩ = some (I n) ∧ w'.cell? ⟨w.heap.size, 1, none⟩ = some (.slice A l.length c)) (ds := []) #[false, false, false, false, false, false, false] (by kernel_rfl) rfl rfl ⟨(Below.cell (w := w1) (below_drew (Grew.refl w1)) (p := ⟨w.heap.size, 0, none⟩) hl0).trans k_0, (Below.cell (w := w1) (below_drew (Grew.refl w1)) (p := ⟨w.heap.size, 1, none⟩) hl0).trans k_1⟩ (fun hHeld => ?_)
    refine pure_ (i := 2) (N := some 15) (v := ?_) (a' := ?_) #[false, false, true, false, false, false, false] rfl rfl (by kernel_rfl) (fun _ _ _ h => h) (Or.inl ⟨by rfl, ?_⟩) ?_ ?_
    rotate_left
    · intro w'
      go_simp
      with_reducible rfl
    rotate_left
    · simp only [Act.put, List.setIfInBounds_toArray, List.set_cons_zero, List.set_cons_succ, i64_w, i32_w]
      rfl
    refine take_ (i := 0) (N := some 13) (v := ?_) (a' := ?_) #[true, false, true, false, false, false, false] rfl rfl (by kernel_rfl) (fun _ _ _ h => h) (Or.inl ⟨by rfl, ?_⟩) hHeld ?_ ?_
    rotate_left
    · rintro w' ⟨s0, s1⟩
      go_simp
      with_reducible rfl
    rotate_left
    · simp only [Act.put, List.setIfInBounds_toArray, List.set_cons_zero, List.set_cons_succ, i64_w, i32_w]
      rfl
    refine take_ (i := 1) (N := some 14) (v := ?_) (a' := ?_) #[true, true, true, false, false, false, false] rfl rfl (by kernel_rfl) (fun _ _ _ h => h) (Or.inl ⟨by rfl, ?_⟩) hHeld ?_ ?_
    rotate_left
    · rintro w' ⟨s0, s1⟩
      go_simp
      with_reducible rfl
    rotate_left
    · simp only [Act.put, List.setIfInBounds_toArray, List.set_cons_zero, List.set_cons_succ, i64_w, i32_w]
      rfl
    refine one_ (i := 3) (N := some 16) #[true, true, true, true, false, false, false] rfl rfl (by kernel_rfl) (by decide) (fun K hK => ?_)
    refine goes_ Try.func69 (by kernel_rfl) rfl #[.agg #[I n, .slice A l.length c], .slice A2 q.length c2] (by rfl) rfl rfl (by simp only [List.map_toArray, List.map_cons, List.map_nil]; rfl) ?_
    with_reducible refine (HC3.out _ (below_drew (Grew.refl w1))).mono ?_
    rintro e w3 ⟨v3, rfl, hR3, hG3⟩
    obtain ⟨A3, c3, rfl⟩ := Kd.R_slice hR3
    have HL := Aside0.mk (Grew.trans (below_drew (Grew.refl w1)) hG3)
    have HR3 := Aside0.mk (Kd.R_reads hR3)
    clear hR3 hG3
    refine ⟨_, rfl, ?_⟩
    refine hK.out _ _ ⟨(Below.cell (w := w1) HL.out (p := ⟨w.heap.size, 0, none⟩) hl0).trans k_0, (Below.cell (w := w1) HL.out (p := ⟨w.heap.size, 1, none⟩) hl0).trans k_1⟩ (fun hHeld => ?_)
    clear hK K
    refine norm_ (a' := ?_) ?_ ?_
    rotate_left
    · show Act.put _ (some 16) _ = _
      simp only [Act.put, List.setIfInBounds_toArray, List.set_cons_zero, List.set_cons_succ, i64_w, i32_w]
      rfl
    refine one_ (i := 4) (N := some 17) #[true, true, true, true, true, false, false] rfl rfl (by kernel_rfl) (by decide) (fun K hK => ?_)
    refine goes_ Try.func71 (by kernel_rfl) rfl #[.agg #[I n, .slice A l.length c], .slice A3 (critL l q).length c3] (by rfl) rfl rfl (by simp only [List.map_toArray, List.map_cons, List.map_nil]; rfl) ?_
    with_reducible refine (HC4.out _ A3 c3 HL.out HR3.out).mono ?_
    rintro e w4 ⟨v4, rfl, hR4, hG4⟩
    replace HL := Aside0.mk (Grew.trans HL.out hG4)
    have HR4 := Aside0.mk hR4
    clear hR4 hG4
    refine ⟨_, rfl, ?_⟩
    refine hK.out _ _ ⟨(Below.cell (w := w1) HL.out (p := ⟨w.heap.size, 0, none⟩) hl0).trans k_0, (Below.cell (w := w1) HL.out (p := ⟨w.heap.size, 1, none⟩) hl0).trans k_1⟩ (fun hHeld => ?_)
    clear hK K
    refine norm_ (a' := ?_) ?_ ?_
    rotate_left
    · show Act.put _ (some 17) _ = _
      simp only [Act.put, List.setIfInBounds_toArray, List.set_cons_zero, List.set_cons_succ, i64_w, i32_w]
      rfl
    refine pure_ (i := 5) (N := some 4) (v := ?_) (a' := ?_) #[true, true, true, true, true, true, false] rfl rfl (by kernel_rfl) (fun _ _ _ h => h) (Or.inl ⟨by rfl, ?_⟩) ?_ ?_
    rotate_left
    · intro w'
      go_simp
      with_reducible rfl
    rotate_left
    · simp only [Act.put, List.setIfInBounds_toArray, List.set_cons_zero, List.set_cons_succ, i64_w, i32_w]
      rfl
    refine pure_ (i := 6) (N := some 5) (v := ?_) (a' := ?_) #[true, true, true, true, true, true, true] rfl rfl (by kernel_rfl) (fun _ _ _ h => h) (Or.inl ⟨by rfl, ?_⟩) ?_ ?_
    rotate_left
    · intro w'
      go_simp
      with_reducible rfl
    rotate_left
    · simp only [Act.put, List.setIfInBounds_toArray, List.set_cons_zero, List.set_cons_succ, i64_w, i32_w]
      rfl
    refine done_ (by kernel_rfl) ?_
    go_wp2_with fail
    go_ret2
    exact ⟨_, rfl, HR4.out, Grew.trans HG1.out HL.out⟩
  · have HV : Aside0 (∀ {α : Type} (a b : α), (if cc = 0 then a else b) = b) := ⟨fun a b => if_neg hz⟩
    simp only [HV.out]
    clear hcc
    subst hW3
    go_enter Try.func33, Try.ntmps33
    go_wp2_with fail
    refine H.out.mono ?_
    rintro e w1 ⟨rfl, hG1⟩
    have HG1 := Aside0.mk (Grew.trans HG.out hG1)
    clear hG1 k_0 k_1
    go_wp2_with fail
    go_ret2
    exact ⟨_, rfl, Kd.R_nil _ _ _ _ _, HG1.out⟩

end Go.Proofs.Ytniikppojffiaaa.K
end

section
/- The walk through the law FnExactCriticalNumbers. -/
namespace Go.Proofs.Ytniikppojffiaaa.K
open Go.RowKit Go.Shelf Go.Proofs.Ytniikppojffiaaa.Q Go.Proofs.YtniikppojffiaaaW.PrintWords Go.Proofs.YtniikppojffiaaaW.PrintLast Go.Proofs.YtniikppojffiaaaW.PrintMore
set_option linter.unusedVariables false
set_option linter.unusedSimpArgs false

set_option maxRecDepth 100000 in
set_option maxHeartbeats 8000000 in
theorem LCriticalNumbers_b0 (n0 : Int) (A0 : Option Addr) (c0 : Nat) (l0 : List Int) (A1 : Option Addr) (c1 : Nat) (l1 : List S53) (w : World) (hr0 : Ki.C w A0 l0.length l0) (hc0 : l0.length ≤ c0) (hr1 : Kq.C w A1 l1.length l1) (hc1 : l1.length ≤ c1)  (hz : (1048576 : Int) < (l0.length : Int)) :
  Calls Try.prog 5 #[.agg #[I n0, .slice A0 l0.length c0], .slice A1 l1.length c1] w fun e w' => e = .returned (.bool true) ∧ Grew w w' := by
 have hbig0 := hr0.2.1
 have HR0 := Aside0.mk hr0
 have HC0 := Aside0.mk hc0
 clear hr0 hc0
 have hbig1 := hr1.2.1
 have HR1 := Aside0.mk hr1
 have HC1 := Aside0.mk hc1
 clear hr1 hc1
 obtain ⟨W0, hW0⟩ : ∃ W0, W0 = (w.alloc (.cells #[I n0, .slice A0 l0.length c0] 24)) := ⟨_, rfl⟩
 have hb_p0 : (Item.box w.heap.size 24 #[I n0, .slice A0 l0.length c0]).ok W0 := by
  rw [hW0]
  have := blk_new w (.cells #[I n0, .slice A0 l0.length c0] 24)
  exact this
 have HM0 : Aside0 (Mem W0 [.box w.heap.size 24 #[I n0, .slice A0 l0.length c0]]) := ⟨Mem.cons (it := .box w.heap.size 24 #[I n0, .slice A0 l0.length c0]) hb_p0 (Mem.nil _)⟩
 have HG0 : Aside0 (Grew w W0) := ⟨by rw [hW0]; exact below_alloc (Grew.refl w) _⟩
 have hs0 : W0.heap.size = w.heap.size + 1 := by rw [hW0]; simp
 clear hb_p0
 have H0 := Aside0.mk (szC_calls n0 A0 c0 l0 (1048576 : Int) (by omega) W0 (Kd.C_below HR0.out HG0.out) HC0.out)
 rw [if_pos (by omega)] at H0
 have p0_0 : W0.cell? ⟨w.heap.size, 0, none⟩ = some (I n0) := blk_cell HM0.out.head 0
 have p0_1 : W0.cell? ⟨w.heap.size, 1, none⟩ = some (.slice A0 l0.length c0) := blk_cell HM0.out.head 1
 subst hW0
 go_enter Try.func5, Try.ntmps5
 go_wp2_with fail
 refine H0.out.mono ?_
 rintro e w1 ⟨rfl, hG1⟩
 clear p0_0 p0_1
 have HM1 := Aside0.mk (HM0.out.grew hG1)
 have HG1 := Aside0.mk (Grew.trans HG0.out hG1)
 have hs1 := hG1.size
 try simp at hs1
 clear hG1 H0
 go_wp2_with fail
 go_ret
 exact ⟨rfl, HG1.out⟩

set_option maxRecDepth 100000 in
set_option maxHeartbeats 8000000 in
theorem LCriticalNumbers_b1 (n0 : Int) (A0 : Option Addr) (c0 : Nat) (l0 : List Int) (A1 : Option Addr) (c1 : Nat) (l1 : List S53) (w : World) (hr0 : Ki.C w A0 l0.length l0) (hc0 : l0.length ≤ c0) (hr1 : Kq.C w A1 l1.length l1) (hc1 : l1.length ≤ c1) (hl0 : ¬ (1048576 : Int) < (l0.length : Int)) (hz : ((1048576 : Int) - (l0.length : Int)) < (l1.length : Int)) :
  Calls Try.prog 5 #[.agg #[I n0, .slice A0 l0.length c0], .slice A1 l1.length c1] w fun e w' => e = .returned (.bool true) ∧ Grew w w' := by
 have hbig0 := hr0.2.1
 have HR0 := Aside0.mk hr0
 have HC0 := Aside0.mk hc0
 clear hr0 hc0
 have hbig1 := hr1.2.1
 have HR1 := Aside0.mk hr1
 have HC1 := Aside0.mk hc1
 clear hr1 hc1
 obtain ⟨W0, hW0⟩ : ∃ W0, W0 = (w.alloc (.cells #[I n0, .slice A0 l0.length c0] 24)) := ⟨_, rfl⟩
 have hb_p0 : (Item.box w.heap.size 24 #[I n0, .slice A0 l0.length c0]).ok W0 := by
  rw [hW0]
  have := blk_new w (.cells #[I n0, .slice A0 l0.length c0] 24)
  exact this
 have HM0 : Aside0 (Mem W0 [.box w.heap.size 24 #[I n0, .slice A0 l0.length c0]]) := ⟨Mem.cons (it := .box w.heap.size 24 #[I n0, .slice A0 l0.length c0]) hb_p0 (Mem.nil _)⟩
 have HG0 : Aside0 (Grew w W0) := ⟨by rw [hW0]; exact below_alloc (Grew.refl w) _⟩
 have hs0 : W0.heap.size = w.heap.size + 1 := by rw [hW0]; simp
 clear hb_p0
 have H0 := Aside0.mk (szC_calls n0 A0 c0 l0 (1048576 : Int) (by omega) W0 (Kd.C_below HR0.out HG0.out) HC0.out)
 rw [if_neg (by omega)] at H0
 have p0_0 : W0.cell? ⟨w.heap.size, 0, none⟩ = some (I n0) := blk_cell HM0.out.head 0
 have p0_1 : W0.cell? ⟨w.heap.size, 1, none⟩ = some (.slice A0 l0.length c0) := blk_cell HM0.out.head 1
 subst hW0
 go_enter Try.func5, Try.ntmps5
 have hneg0 : ¬ (((1048576 : Int) - (l0.length : Int)) < 0) := by omega
 go_wp2_with fail
 refine H0.out.mono ?_
 rintro e w1 ⟨rfl, hG1⟩
 clear p0_0 p0_1
 have HM1 := Aside0.mk (HM0.out.grew hG1)
 have HG1 := Aside0.mk (Grew.trans HG0.out hG1)
 have hs1 := hG1.size
 try simp at hs1
 clear hG1 H0
 have H1 := Aside0.mk (szP_calls A1 c1 l1 ((1048576 : Int) - (l0.length : Int)) (by omega) w1 (Kd.C_below HR1.out HG1.out) HC1.out)
 rw [if_pos (by omega)] at H1
 go_wp2_with fail
 refine H1.out.mono ?_
 rintro e w2 ⟨rfl, hG2⟩
 have HM2 := Aside0.mk (HM1.out.grew hG2)
 have HG2 := Aside0.mk (Grew.trans HG1.out hG2)
 have hs2 := hG2.size
 clear hG2 H1
 go_wp2_with fail
 go_ret
 exact ⟨rfl, HG2.out⟩

set_option maxRecDepth 100000 in
set_option maxHeartbeats 8000000 in
theorem LCriticalNumbers_main (n0 : Int) (A0 : Option Addr) (c0 : Nat) (l0 : List Int) (A1 : Option Addr) (c1 : Nat) (l1 : List S53) (w : World) (hr0 : Ki.C w A0 l0.length l0) (hc0 : l0.length ≤ c0) (hr1 : Kq.C w A1 l1.length l1) (hc1 : l1.length ≤ c1) (hl0 : ¬ (1048576 : Int) < (l0.length : Int)) (hl1 : ¬ ((1048576 : Int) - (l0.length : Int)) < (l1.length : Int)) :
  Calls Try.prog 5 #[.agg #[I n0, .slice A0 l0.length c0], .slice A1 l1.length c1] w fun e w' => e = .returned (.bool true) ∧ Grew w w' := by
  obtain ⟨r0, r1, HS, HI, hlen0⟩ : ∃ (r0 : List Int) (r1 : Int), Aside0 (∀ W A0 c0 A1 c1, Ki.C W A0 l0.length l0 → l0.length ≤ c0 → Kq.C W A1 l1.length l1 → l1.length ≤ c1 → Calls Try.prog 32 #[.agg #[I n0, .slice A0 l0.length c0], .slice A1 l1.length c1] W fun e w' => ∃ v0, e = .returned (.tuple #[v0, I r1]) ∧ Ki.R 2 w' W.heap.size (fun _ => True) v0 r0 ∧ Grew W w') ∧ Aside0 (∀ W A0 c0 A1 c1, Ki.C W A0 l0.length l0 → l0.length ≤ c0 → Kq.C W A1 l1.length l1 → l1.length ≤ c1 → Calls Try.prog 33 #[.agg #[I n0, .slice A0 l0.length c0], .slice A1 l1.length c1] W fun e w' => ∃ v0, e = .returned (.tuple #[v0, I r1]) ∧ Ki.R 2 w' W.heap.size (fun _ => True) v0 r0 ∧ Grew W w') ∧ r0.length ≤ 1000000 := by
   have hbig0 := hr0.2.1
   have hbig1 := hr1.2.1
   have hS := fun (W : World) (A0 : Option Addr) (c0 : Nat) (A1 : Option Addr) (c1 : Nat) (hr0 : Ki.C W A0 l0.length l0) (hc0 : l0.length ≤ c0) (hr1 : Kq.C W A1 l1.length l1) (hc1 : l1.length ≤ c1) => spec_CriticalNumbers.calls (isK l0 + pgK l0 l1 + 63 * (l1.length + 3) + 300) n0 A0 c0 l0 A1 c1 l1 _ _ W hr0 hc0 hr1 hc1 (specCriticalNumbers_is n0 l0 l1 (by omega) (by omega) _ (Nat.le_refl _))
   have hI := fun (W : World) (A0 : Option Addr) (c0 : Nat) (A1 : Option Addr) (c1 : Nat) (hr0 : Ki.C W A0 l0.length l0) (hc0 : l0.length ≤ c0) (hr1 : Kq.C W A1 l1.length l1) (hc1 : l1.length ≤ c1) => CriticalNumbers_calls n0 A0 c0 l0 A1 c1 l1 W ⟨hr0, hc0, by omega⟩ hr1 hc1 (by omega)
   have hlen0 := critn_len (n := n0) (l := l0) (cs := critL l0 l1) (b := (true && pingB l0 l1))
   exact ⟨(if codeOf n0 l0 (true && pingB l0 l1) = 0 then countL (topI l0 + 1).toNat (critL l0 l1) else []), (codeOf n0 l0 (true && pingB l0 l1)), ⟨hS⟩, ⟨hI⟩, Nat.le_trans hlen0 (by decide)⟩
  have hbig0 := hr0.2.1
  have HR0 := Aside0.mk hr0
  have HC0 := Aside0.mk hc0
  clear hr0 hc0
  have hbig1 := hr1.2.1
  have HR1 := Aside0.mk hr1
  have HC1 := Aside0.mk hc1
  clear hr1 hc1
  obtain ⟨W0, hW0⟩ : ∃ W0, W0 = (w.alloc (.cells #[I n0, .slice A0 l0.length c0] 24)) := ⟨_, rfl⟩
  have hb_p0 : (Item.box w.heap.size 24 #[I n0, .slice A0 l0.length c0]).ok W0 := by
   rw [hW0]
   have := blk_new w (.cells #[I n0, .slice A0 l0.length c0] 24)
   exact this
  have HM0 : Aside0 (Mem W0 [.box w.heap.size 24 #[I n0, .slice A0 l0.length c0]]) := ⟨Mem.cons (it := .box w.heap.size 24 #[I n0, .slice A0 l0.length c0]) hb_p0 (Mem.nil _)⟩
  have HG0 : Aside0 (Grew w W0) := ⟨by rw [hW0]; exact below_alloc (Grew.refl w) _⟩
  have hs0 : W0.heap.size = w.heap.size + 1 := by rw [hW0]; simp
  clear hb_p0
  have H0 := Aside0.mk (szC_calls n0 A0 c0 l0 (1048576 : Int) (by omega) W0 (Kd.C_below HR0.out HG0.out) HC0.out)
  rw [if_neg (by omega)] at H0
  have p0_0 : W0.cell? ⟨w.heap.size, 0, none⟩ = some (I n0) := blk_cell HM0.out.head 0
  have p0_1 : W0.cell? ⟨w.heap.size, 1, none⟩ = some (.slice A0 l0.length c0) := blk_cell HM0.out.head 1
  subst hW0
  go_enter Try.func5, Try.ntmps5
  have hneg0 : ¬ (((1048576 : Int) - (l0.length : Int)) < 0) := by omega
  go_wp2_with fail
  refine H0.out.mono ?_
  rintro e w1 ⟨rfl, hG1⟩
  clear p0_0 p0_1
  have HM1 := Aside0.mk (HM0.out.grew hG1)
  have HG1 := Aside0.mk (Grew.trans HG0.out hG1)
  have hs1 := hG1.size
  try simp at hs1
  clear hG1 H0
  have H1 := Aside0.mk (szP_calls A1 c1 l1 ((1048576 : Int) - (l0.length : Int)) (by omega) w1 (Kd.C_below HR1.out HG1.out) HC1.out)
  rw [if_neg (by omega)] at H1
  have hneg1 : ¬ ((((1048576 : Int) - (l0.length : Int)) - (l1.length : Int)) < 0) := by omega
  go_wp2_with fail
  refine H1.out.mono ?_
  rintro e w2 ⟨rfl, hG2⟩
  have HM2 := Aside0.mk (HM1.out.grew hG2)
  have HG2 := Aside0.mk (Grew.trans HG1.out hG2)
  have hs2 := hG2.size
  clear hG2 H1
  have p0_0 : w2.cell? ⟨w.heap.size, 0, none⟩ = some (I n0) := blk_cell HM2.out.head 0
  have p0_1 : w2.cell? ⟨w.heap.size, 1, none⟩ = some (.slice A0 l0.length c0) := blk_cell HM2.out.head 1
  go_wp2_with fail
  clear p0_0 p0_1
  refine (toC_calls n0 A0 c0 l0 w2 (Kd.C_below HR0.out HG2.out) HC0.out (by omega)).mono ?_
  rintro e w3 ⟨AS0, cS0, rfl, hR3, hG3⟩
  have HM3 : Aside0 (Mem w3 [.row w2.heap.size w3.heap.size (.slice AS0 l0.length cS0) l0, .box w.heap.size 24 #[I n0, .slice A0 l0.length c0]]) := ⟨Mem.cons (it := .row w2.heap.size w3.heap.size (.slice AS0 l0.length cS0) l0) (hR3) (HM2.out.grew hG3)⟩
  have HG3 := Aside0.mk (Grew.trans HG2.out hG3)
  have hs3 := hG3.size
  clear hG3 
  go_wp2_with fail
  refine (toP_calls A1 c1 l1 w3 (Kd.C_below HR1.out HG3.out) HC1.out (by omega)).mono ?_
  rintro e w4 ⟨AS1, cS1, rfl, hR4, hG4⟩
  have HM4 : Aside0 (Mem w4 [.prow w3.heap.size w4.heap.size (.slice AS1 l1.length cS1) l1, .row w2.heap.size w3.heap.size (.slice AS0 l0.length cS0) l0, .box w.heap.size 24 #[I n0, .slice A0 l0.length c0]]) := ⟨Mem.cons (it := .prow w3.heap.size w4.heap.size (.slice AS1 l1.length cS1) l1) (hR4) (HM3.out.grew hG4)⟩
  have HG4 := Aside0.mk (Grew.trans HG3.out hG4)
  have hs4 := hG4.size
  clear hG4 
  go_wp2_with fail
  refine (HS.out w4 AS0 cS0 AS1 cS1 (Row.slice HM4.out.tail.head).2.2 (Row.slice HM4.out.tail.head).2.1 (PRow.slice HM4.out.head).2.2 (PRow.slice HM4.out.head).2.1).mono ?_
  rintro e w5 ⟨vw0, rfl, hRw0, hG5⟩
  obtain ⟨Aw0, cw0, rfl⟩ := Kd.R_slice hRw0
  have HM5 : Aside0 (Mem w5 [.row w4.heap.size w5.heap.size (.slice Aw0 r0.length cw0) r0, .prow w3.heap.size w4.heap.size (.slice AS1 l1.length cS1) l1, .row w2.heap.size w3.heap.size (.slice AS0 l0.length cS0) l0, .box w.heap.size 24 #[I n0, .slice A0 l0.length c0]]) := ⟨Mem.cons (it := .row w4.heap.size w5.heap.size (.slice Aw0 r0.length cw0) r0) (Row.of_R hRw0) (HM4.out.grew hG5)⟩
  have HG5 := Aside0.mk (Grew.trans HG4.out hG5)
  have hs5 := hG5.size
  clear hG5 
  have p0_0 : w5.cell? ⟨w.heap.size, 0, none⟩ = some (I n0) := blk_cell HM5.out.tail.tail.tail.head 0
  have p0_1 : w5.cell? ⟨w.heap.size, 1, none⟩ = some (.slice A0 l0.length c0) := blk_cell HM5.out.tail.tail.tail.head 1
  go_wp2_with fail
  clear p0_0 p0_1
  refine (toC_calls n0 A0 c0 l0 w5 (Kd.C_below HR0.out HG5.out) HC0.out (by omega)).mono ?_
  rintro e w6 ⟨Ax0, cx0, rfl, hR6, hG6⟩
  have HM6 : Aside0 (Mem w6 [.row w5.heap.size w6.heap.size (.slice Ax0 l0.length cx0) l0, .row w4.heap.size w5.heap.size (.slice Aw0 r0.length cw0) r0, .prow w3.heap.size w4.heap.size (.slice AS1 l1.length cS1) l1, .row w2.heap.size w3.heap.size (.slice AS0 l0.length cS0) l0, .box w.heap.size 24 #[I n0, .slice A0 l0.length c0]]) := ⟨Mem.cons (it := .row w5.heap.size w6.heap.size (.slice Ax0 l0.length cx0) l0) (hR6) (HM5.out.grew hG6)⟩
  have HG6 := Aside0.mk (Grew.trans HG5.out hG6)
  have hs6 := hG6.size
  clear hG6 
  have HM7 : Aside0 (Mem (w6.alloc (.cells #[I n0, .slice Ax0 l0.length cx0] 30)) [.box w6.heap.size 30 #[I n0, .slice Ax0 l0.length cx0], .row w5.heap.size w6.heap.size (.slice Ax0 l0.length cx0) l0, .row w4.heap.size w5.heap.size (.slice Aw0 r0.length cw0) r0, .prow w3.heap.size w4.heap.size (.slice AS1 l1.length cS1) l1, .row w2.heap.size w3.heap.size (.slice AS0 l0.length cS0) l0, .box w.heap.size 24 #[I n0, .slice A0 l0.length c0]]) := ⟨Mem.cons (blk_new w6 _) (HM6.out.grew (below_alloc (Grew.refl w6) _))⟩
  have HG7 : Aside0 (Grew w (w6.alloc (.cells #[I n0, .slice Ax0 l0.length cx0] 30))) := ⟨Grew.trans HG6.out (below_alloc (Grew.refl w6) _)⟩
  have hS7 : (w6.alloc (.cells #[I n0, .slice Ax0 l0.length cx0] 30)).heap.size = w6.heap.size + 1 := by simp
  go_wp2_with fail
  generalize (w6.alloc (.cells #[I n0, .slice Ax0 l0.length cx0] 30)) = W7 at HM7 HG7 hS7  ⊢
  refine (toP_calls A1 c1 l1 W7 (Kd.C_below HR1.out HG7.out) HC1.out (by omega)).mono ?_
  rintro e w8 ⟨Ax1, cx1, rfl, hR8, hG8⟩
  have HM8 : Aside0 (Mem w8 [.prow W7.heap.size w8.heap.size (.slice Ax1 l1.length cx1) l1, .box w6.heap.size 30 #[I n0, .slice Ax0 l0.length cx0], .row w5.heap.size w6.heap.size (.slice Ax0 l0.length cx0) l0, .row w4.heap.size w5.heap.size (.slice Aw0 r0.length cw0) r0, .prow w3.heap.size w4.heap.size (.slice AS1 l1.length cS1) l1, .row w2.heap.size w3.heap.size (.slice AS0 l0.length cS0) l0, .box w.heap.size 24 #[I n0, .slice A0 l0.length c0]]) := ⟨Mem.cons (it := .prow W7.heap.size w8.heap.size (.slice Ax1 l1.length cx1) l1) (hR8) (HM7.out.grew hG8)⟩
  have HG8 := Aside0.mk (Grew.trans HG7.out hG8)
  have hs8 := hG8.size
  clear hG8 
  have bx0_0 : w8.cell? ⟨w6.heap.size, 0, none⟩ = some (I n0) := blk_cell HM8.out.tail.head 0
  have bx0_1 : w8.cell? ⟨w6.heap.size, 1, none⟩ = some (.slice Ax0 l0.length cx0) := blk_cell HM8.out.tail.head 1
  go_wp2_with fail
  clear bx0_0 bx0_1
  refine (HI.out w8 Ax0 cx0 Ax1 cx1 (Row.slice HM8.out.tail.tail.head).2.2 (Row.slice HM8.out.tail.tail.head).2.1 (PRow.slice HM8.out.head).2.2 (PRow.slice HM8.out.head).2.1).mono ?_
  rintro e w9 ⟨vg0, rfl, hRg0, hG9⟩
  obtain ⟨Ag0, cg0, rfl⟩ := Kd.R_slice hRg0
  have HM9 : Aside0 (Mem w9 [.row w8.heap.size w9.heap.size (.slice Ag0 r0.length cg0) r0, .prow W7.heap.size w8.heap.size (.slice Ax1 l1.length cx1) l1, .box w6.heap.size 30 #[I n0, .slice Ax0 l0.length cx0], .row w5.heap.size w6.heap.size (.slice Ax0 l0.length cx0) l0, .row w4.heap.size w5.heap.size (.slice Aw0 r0.length cw0) r0, .prow w3.heap.size w4.heap.size (.slice AS1 l1.length cS1) l1, .row w2.heap.size w3.heap.size (.slice AS0 l0.length cS0) l0, .box w.heap.size 24 #[I n0, .slice A0 l0.length c0]]) := ⟨Mem.cons (it := .row w8.heap.size w9.heap.size (.slice Ag0 r0.length cg0) r0) (Row.of_R hRg0) (HM8.out.grew hG9)⟩
  have HG9 := Aside0.mk (Grew.trans HG8.out hG9)
  have hs9 := hG9.size
  clear hG9 
  go_wp2_with fail
  refine (eqI_calls r0 Ag0 Aw0 cg0 cw0 _ _ _ _ _ _ w9 HM9.out.head HM9.out.tail.tail.tail.tail.head).mono ?_
  rintro e w10 ⟨rfl, hG10⟩
  have HM10 := Aside0.mk (HM9.out.grew hG10)
  have HG10 := Aside0.mk (Grew.trans HG9.out hG10)
  have hs10 := hG10.size
  clear hG10
  go_wp2_with fail
  have bx0_0 : w10.cell? ⟨w6.heap.size, 0, none⟩ = some (I n0) := blk_cell HM10.out.tail.tail.head 0
  have bx0_1 : w10.cell? ⟨w6.heap.size, 1, none⟩ = some (.slice Ax0 l0.length cx0) := blk_cell HM10.out.tail.tail.head 1
  have p0_0 : w10.cell? ⟨w.heap.size, 0, none⟩ = some (I n0) := blk_cell HM10.out.tail.tail.tail.tail.tail.tail.tail.head 0
  have p0_1 : w10.cell? ⟨w.heap.size, 1, none⟩ = some (.slice A0 l0.length c0) := blk_cell HM10.out.tail.tail.tail.tail.tail.tail.tail.head 1
  have hlx : w6.heap.size < w10.heap.size := World.block_lt_of_cell? w10 _ bx0_0
  have hlp : w.heap.size < w10.heap.size := World.block_lt_of_cell? w10 _ p0_0
  go_region_held3 (fun w' => w'.cell? ⟨w6.heap.size, 0, none⟩ = some (I n0) ∧ w'.cell? ⟨w6.heap.size, 1, none⟩ = some (.slice Ax0 l0.length cx0) ∧ w'.cell? ⟨w.heap.size, 0, none⟩ = some (I n0) ∧ w'.cell? ⟨w.heap.size, 1, none⟩ = some (.slice A0 l0.length c0))
   (first | exact ⟨(HDb.out.cell (p := ⟨w6.heap.size, 0, none⟩) hlx).trans bx0_0, (HDb.out.cell (p := ⟨w6.heap.size, 1, none⟩) hlx).trans bx0_1, (HDb.out.cell (p := ⟨w.heap.size, 0, none⟩) hlp).trans p0_0, (HDb.out.cell (p := ⟨w.heap.size, 1, none⟩) hlp).trans p0_1⟩ | exact ⟨(HDa.out.cell (p := ⟨w6.heap.size, 0, none⟩) hlx).trans bx0_0, (HDa.out.cell (p := ⟨w6.heap.size, 1, none⟩) hlx).trans bx0_1, (HDa.out.cell (p := ⟨w.heap.size, 0, none⟩) hlp).trans p0_0, (HDa.out.cell (p := ⟨w.heap.size, 1, none⟩) hlp).trans p0_1⟩ | go_keep)
   (first
    | (go_at_call 20; refine (toC_calls n0 A0 c0 l0 _ (Kd.C_below HR0.out (Below.trans HG10.out ((Below.refl _ w10).drew))) HC0.out (by omega)).mono ?_; rintro e w11 ⟨Aq0, cq0, rfl, hRa, hGa⟩; have HDa : Aside0 (Grew w10 w11) := ⟨Below.trans ((Below.refl _ w10).drew) hGa⟩; have HRa := Aside0.mk hRa; clear hRa hGa)
    | (go_at_call 23; refine (eqC_calls n0 l0 Ax0 Aq0 cx0 cq0 _ _ _ _ _ _ w11 (HM10.out.grew HDa.out).tail.tail.tail.head HRa.out).mono ?_; rintro e w12 ⟨rfl, hGb⟩; have HDb : Aside0 (Grew w10 w12) := ⟨Grew.trans HDa.out hGb⟩; clear hGb))
  clear bx0_0 bx0_1 p0_0 p0_1
  have hG12 := HDb.out
  clear hlx hlp HDa HDb HRa
  have HM12 := Aside0.mk (HM10.out.grew hG12)
  have HG12 := Aside0.mk (Grew.trans HG10.out hG12)
  have hs12 := hG12.size
  clear hG12
  go_wp2_with fail
  refine (toP_calls A1 c1 l1 w12 (Kd.C_below HR1.out HG12.out) HC1.out (by omega)).mono ?_
  rintro e w13 ⟨Ay1, cy1, rfl, hR13, hG13⟩
  have HM13 : Aside0 (Mem w13 [.prow w12.heap.size w13.heap.size (.slice Ay1 l1.length cy1) l1, .row w8.heap.size w9.heap.size (.slice Ag0 r0.length cg0) r0, .prow W7.heap.size w8.heap.size (.slice Ax1 l1.length cx1) l1, .box w6.heap.size 30 #[I n0, .slice Ax0 l0.length cx0], .row w5.heap.size w6.heap.size (.slice Ax0 l0.length cx0) l0, .row w4.heap.size w5.heap.size (.slice Aw0 r0.length cw0) r0, .prow w3.heap.size w4.heap.size (.slice AS1 l1.length cS1) l1, .row w2.heap.size w3.heap.size (.slice AS0 l0.length cS0) l0, .box w.heap.size 24 #[I n0, .slice A0 l0.length c0]]) := ⟨Mem.cons (it := .prow w12.heap.size w13.heap.size (.slice Ay1 l1.length cy1) l1) (hR13) (HM12.out.grew hG13)⟩
  have HG13 := Aside0.mk (Grew.trans HG12.out hG13)
  have hs13 := hG13.size
  clear hG13 
  go_wp2_with fail
  refine (eqP_calls l1 Ax1 Ay1 cx1 cy1 _ _ _ _ _ _ w13 HM13.out.tail.tail.head HM13.out.head).mono ?_
  rintro e w14 ⟨rfl, hG14⟩
  have HM14 := Aside0.mk (HM13.out.grew hG14)
  have HG14 := Aside0.mk (Grew.trans HG13.out hG14)
  have hs14 := hG14.size
  clear hG14
  have bx0_0 : w14.cell? ⟨w6.heap.size, 0, none⟩ = some (I n0) := blk_cell HM14.out.tail.tail.tail.head 0
  have bx0_1 : w14.cell? ⟨w6.heap.size, 1, none⟩ = some (.slice Ax0 l0.length cx0) := blk_cell HM14.out.tail.tail.tail.head 1
  go_wp2_with fail
  clear bx0_0 bx0_1
  refine (markC_calls n0 Ax0 l0.length cx0 l0 1 (by omega) (by omega) _ _ w w14 HG14.out (by omega) HM14.out.tail.tail.tail.tail.head).mono ?_
  rintro e w15 ⟨rfl, hX15, hB15, hK15⟩
  have HM15 : Aside0 (Mem w15 [.prow w12.heap.size w13.heap.size (.slice Ay1 l1.length cy1) l1, .row w8.heap.size w9.heap.size (.slice Ag0 r0.length cg0) r0, .prow W7.heap.size w8.heap.size (.slice Ax1 l1.length cx1) l1, .box w6.heap.size 30 #[I n0, .slice Ax0 l0.length cx0], .row w4.heap.size w5.heap.size (.slice Aw0 r0.length cw0) r0, .prow w3.heap.size w4.heap.size (.slice AS1 l1.length cS1) l1, .row w2.heap.size w3.heap.size (.slice AS0 l0.length cS0) l0, .box w.heap.size 24 #[I n0, .slice A0 l0.length c0]]) := ⟨Mem.kept (Mem.cons (it := .prow w12.heap.size w13.heap.size (.slice Ay1 l1.length cy1) l1) HM14.out.head (Mem.cons (it := .row w8.heap.size w9.heap.size (.slice Ag0 r0.length cg0) r0) HM14.out.tail.head (Mem.cons (it := .prow W7.heap.size w8.heap.size (.slice Ax1 l1.length cx1) l1) HM14.out.tail.tail.head (Mem.cons (it := .box w6.heap.size 30 #[I n0, .slice Ax0 l0.length cx0]) HM14.out.tail.tail.tail.head (Mem.cons (it := .row w4.heap.size w5.heap.size (.slice Aw0 r0.length cw0) r0) HM14.out.tail.tail.tail.tail.tail.head (Mem.cons (it := .prow w3.heap.size w4.heap.size (.slice AS1 l1.length cS1) l1) HM14.out.tail.tail.tail.tail.tail.tail.head (Mem.cons (it := .row w2.heap.size w3.heap.size (.slice AS0 l0.length cS0) l0) HM14.out.tail.tail.tail.tail.tail.tail.tail.head (Mem.cons (it := .box w.heap.size 24 #[I n0, .slice A0 l0.length c0]) HM14.out.tail.tail.tail.tail.tail.tail.tail.tail.head (Mem.nil _))))))))) hK15 (by intro it hit k hk; simp only [List.mem_cons, List.not_mem_nil, or_false] at hit; rcases hit with rfl | rfl | rfl | rfl | rfl | rfl | rfl | rfl <;> (simp only [Item.at_] at hk; omega))⟩
  have HG15 := Aside0.mk hB15
  have hs15 := hK15.1
  clear hX15 hB15 hK15
  go_wp2_with fail
  refine (markP_calls Ax1 l1.length cx1 l1 (1 + (l0.length : Int)) (by omega) (by omega) _ _ w w15 HG15.out (by omega) HM15.out.tail.tail.head).mono ?_
  rintro e w16 ⟨rfl, hX16, hB16, hK16⟩
  have HM16 : Aside0 (Mem w16 [.prow w12.heap.size w13.heap.size (.slice Ay1 l1.length cy1) l1, .row w8.heap.size w9.heap.size (.slice Ag0 r0.length cg0) r0, .box w6.heap.size 30 #[I n0, .slice Ax0 l0.length cx0], .row w4.heap.size w5.heap.size (.slice Aw0 r0.length cw0) r0, .prow w3.heap.size w4.heap.size (.slice AS1 l1.length cS1) l1, .row w2.heap.size w3.heap.size (.slice AS0 l0.length cS0) l0, .box w.heap.size 24 #[I n0, .slice A0 l0.length c0]]) := ⟨Mem.kept (Mem.cons (it := .prow w12.heap.size w13.heap.size (.slice Ay1 l1.length cy1) l1) HM15.out.head (Mem.cons (it := .row w8.heap.size w9.heap.size (.slice Ag0 r0.length cg0) r0) HM15.out.tail.head (Mem.cons (it := .box w6.heap.size 30 #[I n0, .slice Ax0 l0.length cx0]) HM15.out.tail.tail.tail.head (Mem.cons (it := .row w4.heap.size w5.heap.size (.slice Aw0 r0.length cw0) r0) HM15.out.tail.tail.tail.tail.head (Mem.cons (it := .prow w3.heap.size w4.heap.size (.slice AS1 l1.length cS1) l1) HM15.out.tail.tail.tail.tail.tail.head (Mem.cons (it := .row w2.heap.size w3.heap.size (.slice AS0 l0.length cS0) l0) HM15.out.tail.tail.tail.tail.tail.tail.head (Mem.cons (it := .box w.heap.size 24 #[I n0, .slice A0 l0.length c0]) HM15.out.tail.tail.tail.tail.tail.tail.tail.head (Mem.nil _)))))))) hK16 (by intro it hit k hk; simp only [List.mem_cons, List.not_mem_nil, or_false] at hit; rcases hit with rfl | rfl | rfl | rfl | rfl | rfl | rfl <;> (simp only [Item.at_] at hk; omega))⟩
  have HG16 := Aside0.mk hB16
  have hs16 := hK16.1
  clear hX16 hB16 hK16
  have hneg : ¬ (((1 + (l0.length : Int)) + 2 * (l1.length : Int)) < 0) := by omega
  go_wp2_with fail
  refine (eqI_calls r0 Ag0 Aw0 cg0 cw0 _ _ _ _ _ _ w16 HM16.out.tail.head HM16.out.tail.tail.tail.head).mono ?_
  rintro e w17 ⟨rfl, hG17⟩
  have HM17 := Aside0.mk (HM16.out.grew hG17)
  have HG17 := Aside0.mk (Grew.trans HG16.out hG17)
  have hs17 := hG17.size
  clear hG17
  clear hneg
  go_wp2_with fail
  refine (markI_calls Ag0 r0.length cg0 r0 1 (by omega) (by omega) _ _ w w17 HG17.out (by omega) HM17.out.tail.head).mono ?_
  rintro e w18 ⟨rfl, hX18, hB18, hK18⟩
  have HM18 : Aside0 (Mem w18 [.row w8.heap.size w9.heap.size (.slice Ag0 r0.length cg0) (marks 1 r0.length), .prow w12.heap.size w13.heap.size (.slice Ay1 l1.length cy1) l1, .box w6.heap.size 30 #[I n0, .slice Ax0 l0.length cx0], .row w4.heap.size w5.heap.size (.slice Aw0 r0.length cw0) r0, .prow w3.heap.size w4.heap.size (.slice AS1 l1.length cS1) l1, .row w2.heap.size w3.heap.size (.slice AS0 l0.length cS0) l0, .box w.heap.size 24 #[I n0, .slice A0 l0.length c0]]) := ⟨Mem.cons (it := .row w8.heap.size w9.heap.size (.slice Ag0 r0.length cg0) (marks 1 r0.length)) hX18 (Mem.kept (Mem.cons (it := .prow w12.heap.size w13.heap.size (.slice Ay1 l1.length cy1) l1) HM17.out.head (Mem.cons (it := .box w6.heap.size 30 #[I n0, .slice Ax0 l0.length cx0]) HM17.out.tail.tail.head (Mem.cons (it := .row w4.heap.size w5.heap.size (.slice Aw0 r0.length cw0) r0) HM17.out.tail.tail.tail.head (Mem.cons (it := .prow w3.heap.size w4.heap.size (.slice AS1 l1.length cS1) l1) HM17.out.tail.tail.tail.tail.head (Mem.cons (it := .row w2.heap.size w3.heap.size (.slice AS0 l0.length cS0) l0) HM17.out.tail.tail.tail.tail.tail.head (Mem.cons (it := .box w.heap.size 24 #[I n0, .slice A0 l0.length c0]) HM17.out.tail.tail.tail.tail.tail.tail.head (Mem.nil _))))))) hK18 (by intro it hit k hk; simp only [List.mem_cons, List.not_mem_nil, or_false] at hit; rcases hit with rfl | rfl | rfl | rfl | rfl | rfl <;> (simp only [Item.at_] at hk; omega)))⟩
  have HG18 := Aside0.mk hB18
  have hs18 := hK18.1
  clear hX18 hB18 hK18
  have hneg0 : ¬ ((1 + (r0.length : Int)) < 0) := by omega
  go_wp2_with fail
  refine (heldI_calls Ag0 r0.length r0.length cg0 _ _ 1 (by omega) (by omega) w18 HM18.out.head).mono ?_
  rintro e w19 ⟨rfl, hG19⟩
  have HM19 := Aside0.mk (HM18.out.grew hG19)
  have HG19 := Aside0.mk (Grew.trans HG18.out hG19)
  have hs19 := hG19.size
  clear hG19
  have p0_0 : w19.cell? ⟨w.heap.size, 0, none⟩ = some (I n0) := blk_cell HM19.out.tail.tail.tail.tail.tail.tail.head 0
  have p0_1 : w19.cell? ⟨w.heap.size, 1, none⟩ = some (.slice A0 l0.length c0) := blk_cell HM19.out.tail.tail.tail.tail.tail.tail.head 1
  go_wp2_with fail
  clear p0_0 p0_1
  refine (toC_calls n0 A0 c0 l0 w19 (Kd.C_below HR0.out HG19.out) HC0.out (by omega)).mono ?_
  rintro e w20 ⟨Az0, cz0, rfl, hR20, hG20⟩
  have HM20 : Aside0 (Mem w20 [.row w19.heap.size w20.heap.size (.slice Az0 l0.length cz0) l0, .row w8.heap.size w9.heap.size (.slice Ag0 r0.length cg0) (marks 1 r0.length), .prow w12.heap.size w13.heap.size (.slice Ay1 l1.length cy1) l1, .box w6.heap.size 30 #[I n0, .slice Ax0 l0.length cx0], .row w4.heap.size w5.heap.size (.slice Aw0 r0.length cw0) r0, .prow w3.heap.size w4.heap.size (.slice AS1 l1.length cS1) l1, .row w2.heap.size w3.heap.size (.slice AS0 l0.length cS0) l0, .box w.heap.size 24 #[I n0, .slice A0 l0.length c0]]) := ⟨Mem.cons (it := .row w19.heap.size w20.heap.size (.slice Az0 l0.length cz0) l0) (hR20) (HM19.out.grew hG20)⟩
  have HG20 := Aside0.mk (Grew.trans HG19.out hG20)
  have hs20 := hG20.size
  clear hG20 
  go_wp2_with fail
  refine (toP_calls A1 c1 l1 w20 (Kd.C_below HR1.out HG20.out) HC1.out (by omega)).mono ?_
  rintro e w21 ⟨Az1, cz1, rfl, hR21, hG21⟩
  have HM21 : Aside0 (Mem w21 [.prow w20.heap.size w21.heap.size (.slice Az1 l1.length cz1) l1, .row w19.heap.size w20.heap.size (.slice Az0 l0.length cz0) l0, .row w8.heap.size w9.heap.size (.slice Ag0 r0.length cg0) (marks 1 r0.length), .prow w12.heap.size w13.heap.size (.slice Ay1 l1.length cy1) l1, .box w6.heap.size 30 #[I n0, .slice Ax0 l0.length cx0], .row w4.heap.size w5.heap.size (.slice Aw0 r0.length cw0) r0, .prow w3.heap.size w4.heap.size (.slice AS1 l1.length cS1) l1, .row w2.heap.size w3.heap.size (.slice AS0 l0.length cS0) l0, .box w.heap.size 24 #[I n0, .slice A0 l0.length c0]]) := ⟨Mem.cons (it := .prow w20.heap.size w21.heap.size (.slice Az1 l1.length cz1) l1) (hR21) (HM20.out.grew hG21)⟩
  have HG21 := Aside0.mk (Grew.trans HG20.out hG21)
  have hs21 := hG21.size
  clear hG21 
  go_wp2_with fail
  refine (HI.out w21 Az0 cz0 Az1 cz1 (Row.slice HM21.out.tail.head).2.2 (Row.slice HM21.out.tail.head).2.1 (PRow.slice HM21.out.head).2.2 (PRow.slice HM21.out.head).2.1).mono ?_
  rintro e w22 ⟨vh0, rfl, hRh0, hG22⟩
  obtain ⟨Ah0, ch0, rfl⟩ := Kd.R_slice hRh0
  have HM22 : Aside0 (Mem w22 [.row w21.heap.size w22.heap.size (.slice Ah0 r0.length ch0) r0, .prow w20.heap.size w21.heap.size (.slice Az1 l1.length cz1) l1, .row w19.heap.size w20.heap.size (.slice Az0 l0.length cz0) l0, .row w8.heap.size w9.heap.size (.slice Ag0 r0.length cg0) (marks 1 r0.length), .prow w12.heap.size w13.heap.size (.slice Ay1 l1.length cy1) l1, .box w6.heap.size 30 #[I n0, .slice Ax0 l0.length cx0], .row w4.heap.size w5.heap.size (.slice Aw0 r0.length cw0) r0, .prow w3.heap.size w4.heap.size (.slice AS1 l1.length cS1) l1, .row w2.heap.size w3.heap.size (.slice AS0 l0.length cS0) l0, .box w.heap.size 24 #[I n0, .slice A0 l0.length c0]]) := ⟨Mem.cons (it := .row w21.heap.size w22.heap.size (.slice Ah0 r0.length ch0) r0) (Row.of_R hRh0) (HM21.out.grew hG22)⟩
  have HG22 := Aside0.mk (Grew.trans HG21.out hG22)
  have hs22 := hG22.size
  clear hG22 
  go_wp2_with fail
  refine (eqI_calls r0 Ah0 Aw0 ch0 cw0 _ _ _ _ _ _ w22 HM22.out.head HM22.out.tail.tail.tail.tail.tail.tail.head).mono ?_
  rintro e w23 ⟨rfl, hG23⟩
  have HM23 := Aside0.mk (HM22.out.grew hG23)
  have HG23 := Aside0.mk (Grew.trans HG22.out hG23)
  have hs23 := hG23.size
  clear hG23
  clear hneg0
  have hneg0 : ¬ ((1 + (r0.length : Int)) < 0) := by omega
  go_wp2_with fail
  refine (heldI_calls Ag0 r0.length r0.length cg0 _ _ 1 (by omega) (by omega) w23 HM23.out.tail.tail.tail.head).mono ?_
  rintro e w24 ⟨rfl, hG24⟩
  have HM24 := Aside0.mk (HM23.out.grew hG24)
  have HG24 := Aside0.mk (Grew.trans HG23.out hG24)
  have hs24 := hG24.size
  clear hG24
  go_wp2_with fail
  go_ret
  exact ⟨rfl, HG24.out⟩

theorem LCriticalNumbers_calls (n0 : Int) (A0 : Option Addr) (c0 : Nat) (l0 : List Int) (A1 : Option Addr) (c1 : Nat) (l1 : List S53) (w : World) (hr0 : Ki.C w A0 l0.length l0) (hc0 : l0.length ≤ c0) (hr1 : Kq.C w A1 l1.length l1) (hc1 : l1.length ≤ c1) :
  Calls Try.prog 5 #[.agg #[I n0, .slice A0 l0.length c0], .slice A1 l1.length c1] w fun e w' => e = .returned (.bool true) ∧ Grew w w' := by
 by_cases hl0 : (1048576 : Int) < (l0.length : Int)
 ·exact LCriticalNumbers_b0 n0 A0 c0 l0 A1 c1 l1 w hr0 hc0 hr1 hc1  hl0
 by_cases hl1 : ((1048576 : Int) - (l0.length : Int)) < (l1.length : Int)
 ·exact LCriticalNumbers_b1 n0 A0 c0 l0 A1 c1 l1 w hr0 hc0 hr1 hc1 hl0 hl1
 exact LCriticalNumbers_main n0 A0 c0 l0 A1 c1 l1 w hr0 hc0 hr1 hc1 hl0 hl1

end Go.Proofs.Ytniikppojffiaaa.K
end

section

namespace Go.Proofs.Ytniikppojffiaaa.fnExactCriticalNumbers
open Go.ChangeShapes Go.WideShapes Go.ChangeAt Go.RowKit Go.Joins Go.Proofs.Ytniikppojffiaaa.K Go.Proofs.YtniikppojffiaaaW.PrintWords
open Go.ChangeMaps (open_string shut_string)
set_option linter.unusedVariables false
set_option maxRecDepth 100000 in
theorem lifted (os : Os) (started : os.Started) (H : Type) (enc : TypeId × Value → H) :
    ReturnsInHanded {} Try.checked os 5 .any (Rows.fnExactCriticalNumbersSpec.pre6 enc Try.prog Try.f5 Rows.fnExactCriticalNumbersRow.domain false) (Rows.fnExactCriticalNumbersSpec.post enc Try.prog Try.f5 false true false false) := by
  refine returnsInHanded_of_change_sized (C := Try.checked) ownKnob_none started (by kernel_rfl) Try.func5
    (ChangeSpec.witness6 (enc := enc) (C := Try.checked) false ⟨#[], #[.agg #[.int .i64 0, .slice none 0 0], .slice none 0 0], []⟩ 8 (by kernel_rfl) (by kernel_rfl) (by kernel_rfl) (by kernel_rfl)) ?_
  intro W base args ds gs before hval0 hW hcnd hsz0 _
  have hsz : (DataW.weightsEach Try.prog (Try.f5.params.toList ++ Rows.fnExactCriticalNumbersSpec.plain.varTypes Try.prog) (ds ++ gs)).all (· ≤ reachBytes) = true := hsz0
  have hval : ∀ (j : Nat) t v, Try.f5.params[j]? = some t → args[j]? = some v → Value.okWide Try.prog W .any base t v := hval0
  have hW' := hW
  obtain ⟨p, q, hA0, hV, rfl, hfz, hnd⟩ := hW
  have hA : DataW.TrodAll enc Try.prog W 0 (fun _ => true) true Try.f5.params.toList args.toList ds p := hA0
  rw [Try.params5] at hA hval hsz
  obtain ⟨v0, vs0, d0, ds0, p0, q0, hargs, rfl, rfl, h0, r0⟩ := trodAll_cons hA
  obtain ⟨v1, vs1, d1, ds1, p1, q1, rfl, rfl, rfl, h1, r1⟩ := trodAll_cons r0
  obtain ⟨rfl, rfl, rfl⟩ := trodAll_nil r1
  obtain rfl : args = #[v0, v1] := by cases args; simp_all
  obtain ⟨rfl, rfl⟩ := trodVars_none hV
  have k0 := h0
  have lt0 : ∀ x ∈ p0, x.block < W.heap.size := by obtain ⟨m, hm⟩ := k0; exact DataW.trod_lt m _ _ _ hm
  obtain ⟨x0, z0, y0_0, y1_0, m0, hv0, hd0, hp0, hy0_0, hy1_0⟩ := open_agg2 Try.underlying24 (by kernel_rfl) (show Try.prog.cellsOf 24 = 2 by kernel_rfl) (hval 0 24 v0 rfl rfl) h0
  obtain ⟨n0, e0_0, _, w0⟩ := DataW.trod_int Try.underlying2 hy0_0
  obtain ⟨A0, c0, l0, e1_0, hc0, hr0, _⟩ := ints_open hy1_0
  simp only [List.cons.injEq, and_true] at e0_0
  subst e0_0 e1_0
  subst hv0
  have k1 := h1
  have lt1 : ∀ x ∈ p1, x.block < W.heap.size := by obtain ⟨m, hm⟩ := k1; exact DataW.trod_lt m _ _ _ hm
  obtain ⟨a1, len1, cap1, hv1⟩ := okWide_slice Try.underlying25 (hval 1 25 v1 rfl rfl)
  obtain ⟨A1, c1, l1, e1, hc1, hr1⟩ : ∃ A c l, v1 = .slice A l.length c ∧ l.length ≤ c ∧ Kq.C W A l.length l := by
    obtain ⟨fuel, hf⟩ := h1
    subst hv1
    exact pairs_open hf
  subst e1
  clear hA0 hval0 hsz0 hsz
  refine (K.LCriticalNumbers_calls n0 A0 c0 l0 A1 c1 l1 W hr0 hc0 hr1 hc1).mono fun e W' ⟨he, bel0⟩ => ?_
  have bel : Below W.heap.size W W' := bel0
  subst he
  exact ⟨_, rfl, _, _, _, [], _, [], hW', trodAll_mk1 (shut_bool Try.underlying4 _), (trodAll_cons_mk (Below.trod laidOut (by kernel_rfl) (of_decide_eq_true (by kernel_rfl)) k0 bel lt0) (trodAll_cons_mk (Below.trod laidOut (by kernel_rfl) (of_decide_eq_true (by kernel_rfl)) k1 bel lt1) trodAll_mk0)), rfl, bel.frame _, fun h => by cases h⟩
set_option maxRecDepth 100000 in
theorem starts : ∃ r, behindMainWord (wordsSigns Try.prog.initOrder.toList) = "cut".toList :: r := by
  have h : Try.prog.initOrder = String.ofList _ := rfl
  rw [h, String.toList_ofList, signs_take 7 _ rfl rfl, signs_take 64 _ rfl rfl, signs_take 3 _ rfl rfl]
  generalize wordsSigns _ = r
  exact ⟨r, by kernel_rfl⟩
set_option maxRecDepth 100000 in
theorem closed : joinedFacts Try.prog 5 Try.f5 Rows.fnExactCriticalNumbersSpec Rows.fnExactCriticalNumbersRow = true := by
  obtain ⟨r, h⟩ := starts
  unfold joinedFacts
  rw [cut_enter _ r h (by kernel_rfl) (by kernel_rfl) (by kernel_rfl), cut_make _ r h, cut_lifts _ r h]
  exact of_decide_eq_true (by kernel_rfl)
theorem over : Rows.fnExactCriticalNumbersRow.holds Try.pinned (OpenSpec.ofChange Rows.fnExactCriticalNumbersSpec) :=
  OpenClaim.holds_of_wide 5 Try.f5 rfl rfl rfl rfl rfl rfl rfl ⟨rfl, rfl, rfl, rfl, rfl⟩ rfl rfl rfl rfl rfl (by kernel_rfl) Try.func5 closed
    (of_decide_eq_true (by kernel_rfl)) (by unfold Func.isWrapper; first | (rw [if_pos (by decide +kernel)]; kernel_rfl) | (rw [if_neg (by decide +kernel)]; exact ⟨rfl, rfl⟩))
    (fun os started H enc _ => lifted os started H enc)
theorem proved : Rows.FnExactCriticalNumbersSaid := over
#print axioms proved
end Go.Proofs.Ytniikppojffiaaa.fnExactCriticalNumbers
namespace Go.Proofs.Ytniikppojffiaaa
theorem fnExactCriticalNumbers_holds : Rows.FnExactCriticalNumbersSaid := fnExactCriticalNumbers.proved
end Go.Proofs.Ytniikppojffiaaa
end
