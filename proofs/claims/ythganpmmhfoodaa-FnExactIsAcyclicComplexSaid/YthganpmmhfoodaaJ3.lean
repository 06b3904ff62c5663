/- Texts of this work, put together by its pack.py. No conditions. -/
import Derived.Test.YthganpmmhfoodaaJ2
import Derived.Below
import Derived.Deep.Draws
import Derived.Deep.AppendLies
import Derived.Maps.AppendAt
import Derived.OwnWalk
import Derived.Laws.BytesArg
import Derived.Laws.MakeOwn
import Derived.Laws.OwnMore
import Derived.Deep.OwnRows
import Derived.Tactics
import Derived.Lib.ConvBytes
import Derived.Laws.Slices
import Derived.WalkKit
import Derived.KernelRfl
import Derived.RowKit3
import Derived.Deep.LoopGhost
import Derived.Deep.QuietTactic
import Derived.BigQuiet
import Derived.WideLaws
import Derived.Deep.DeepCutAuto
import Derived.Deep.CutBlock
import Derived.Deep.RegionHeld3
import Derived.Laws.Rows
import Derived.Lib.AppendStr
import Derived.ArgAppend
import Derived.Laws.IdiomCopy
import Derived.RowKit
import Derived.OrdersHeld
import Derived.Laws.BitsLemmas
import Derived.Test.YthganpmmhfoodaaProg
import Derived.Shelf.Abstract
import Derived.Laws.StructEq
import Derived.Lib.SliceRun
import Derived.RangeFuncBox
import Derived.RangeFuncLeaves
import Derived.OwnWalkIn
import Derived.TacticsInMore
import Derived.LoopNIn
import Derived.LoopIn
section
/- count, CountFaces. -/
namespace Go.Proofs.Ythganpmmhfoodaa.K
open Go.RowKit Go.Shelf Go.Proofs.Ythganpmmhfoodaa.Q Go.Proofs.YthganpmmhfoodaaW.PrintWords Go.Proofs.YthganpmmhfoodaaW.PrintLast Go.Proofs.YthganpmmhfoodaaW.PrintMore
set_option linter.unusedVariables false
set_option linter.unusedSimpArgs false

/-- The greatest dimension, and the numbers of faces by dimension. -/
def topI (l : List Int) : Int := l.foldl (fun d f => mx d (dimI f)) (-1)
theorem mx_is (a b : Int) : mx a b = if a < b then b else a := by
  unfold mx
  repeat' split
  all_goals omega
theorem top_loop (l : List Int) (hl : l.length ≤ 1000000000) (hf : ∀ x ∈ l, 0 ≤ x ∧ x ≤ 63) : ∀ (d i k : Nat) (s : Int), l.length - i = d → i ≤ l.length → d < k →
    impl_Complex_dimension.l0 k s l (l.length : Int) (i : Int) = some ((l.drop i).foldl (fun d f => mx d (dimI f)) s) := by
  intro d
  induction d with
  | zero =>
    intro i k s hd hi hk
    obtain ⟨k, rfl⟩ : ∃ m, k = m + 1 := ⟨k - 1, by omega⟩
    obtain rfl : i = l.length := by omega
    simp only [impl_Complex_dimension.l0]
    rw [if_neg (by omega)]
    simp
  | succ d ih =>
    intro i k s hd hi hk
    obtain ⟨k, rfl⟩ : ∃ m, k = m + 1 := ⟨k - 1, by omega⟩
    simp only [impl_Complex_dimension.l0]
    have hil : i < l.length := by omega
    have hx := hf _ (List.getElem_mem hil)
    have hrd : rd l (i : Int) = l[i] := by simp [rd, hil]
    have hw : wrap64 ((i : Int) + 1) = ((i + 1 : Nat) : Int) := by unfold wrap64; omega
    rw [if_pos (by omega), if_pos (by omega), if_pos (by omega), hrd, dim_is l[i] (by omega) hx.2]
    simp only [Option.bind_some]
    rw [hw, ih (i + 1) k _ (by omega) (by omega) (by omega), List.drop_eq_getElem_cons hil, List.foldl_cons]
theorem top_is (n : Int) (l : List Int) (hl : l.length ≤ 1000000000) (hf : ∀ x ∈ l, 0 ≤ x ∧ x ≤ 63) : impl_Complex_dimension.f (l.length + 1) n l = some (topI l) := by
  unfold impl_Complex_dimension.f
  have := top_loop l hl hf l.length 0 (l.length + 1) (-1) (by omega) (by omega) (by omega)
  simpa [topI] using this
theorem top_calls (n : Int) (A : Option Addr) (c : Nat) (l : List Int) (w : World) (hk : Kx w A c l) (hl : l.length ≤ 1000000000) (hf : ∀ x ∈ l, 0 ≤ x ∧ x ≤ 63) :
    Calls Try.prog 96 #[.agg #[I n, .slice A l.length c]] w fun e w' => e = .returned (I (topI l)) ∧ Grew w w' :=
  impl_Complex_dimension.calls (l.length + 1) n A c l (topI l) w hk.r hk.c (top_is n l hl hf)
theorem top_ge (l : List Int) : ∀ (s : Int), s ≤ l.foldl (fun d f => mx d (dimI f)) s ∧ ∀ x ∈ l, dimI x ≤ l.foldl (fun d f => mx d (dimI f)) s := by
  induction l with
  | nil => intro s; simp
  | cons y l ih =>
    intro s
    obtain ⟨h1, h2⟩ := ih (mx s (dimI y))
    have h3 : s ≤ mx s (dimI y) ∧ dimI y ≤ mx s (dimI y) := by rw [mx_is]; split <;> omega
    rw [List.foldl_cons]
    refine ⟨by omega, fun x hx => ?_⟩
    rcases List.mem_cons.1 hx with rfl | hx
    · omega
    · exact h2 x hx
theorem top_le (l : List Int) : ∀ (s : Int), s ≤ 5 → l.foldl (fun d f => mx d (dimI f)) s ≤ 5 := by
  induction l with
  | nil => intro s hs; exact hs
  | cons y l ih =>
    intro s hs
    rw [List.foldl_cons]
    refine ih _ ?_
    have := dim_range y
    rw [mx_is]; split <;> omega
theorem top_range (l : List Int) : -1 ≤ topI l ∧ topI l ≤ 5 := ⟨(top_ge l (-1)).1, top_le l (-1) (by omega)⟩
theorem top_mem (l : List Int) (x : Int) (hx : x ∈ l) : dimI x ≤ topI l := (top_ge l (-1)).2 x hx

/-- One face more is counted. -/
def tick (xs : List Int) (f : Int) : List Int := xs.set (dimI f).toNat (rdOf 0 xs (dimI f) + 1)
def countL (m : Nat) (q : List Int) : List Int := q.foldl tick (List.replicate m 0)
theorem tick_length (xs : List Int) (f : Int) : (tick xs f).length = xs.length := by simp [tick]
theorem ticks_length (q : List Int) : ∀ xs : List Int, (q.foldl tick xs).length = xs.length := by
  induction q with
  | nil => intro xs; rfl
  | cons f q ih => intro xs; rw [List.foldl_cons, ih, tick_length]
theorem countL_length (m : Nat) (q : List Int) : (countL m q).length = m := by rw [countL, ticks_length, List.length_replicate]
theorem ticks_get (q : List Int) (hq : ∀ x ∈ q, 0 ≤ dimI x) : ∀ (xs : List Int) (i : Nat) (h : i < xs.length), (q.foldl tick xs)[i]'(by rw [ticks_length]; exact h) = xs[i] + ((q.filter fun x => dimI x == (i : Int)).length : Int) := by
  induction q with
  | nil => intro xs i h; simp
  | cons f q ih =>
    intro xs i h
    have h2 := ih (fun x hx => hq x (List.mem_cons_of_mem _ hx)) (tick xs f) i (by rw [tick_length]; exact h)
    simp only [List.foldl_cons]
    rw [h2]
    have hd := hq f List.mem_cons_self
    by_cases e : dimI f = (i : Int)
    · have e2 : (dimI f).toNat = i := by omega
      have h3 : (tick xs f)[i]'(by rw [tick_length]; exact h) = xs[i] + 1 := by
        simp [tick, e, rdOf, h]
      rw [h3, List.filter_cons, if_pos (by simp [e]), List.length_cons]
      omega
    · have e2 : (dimI f).toNat ≠ i := by omega
      have h3 : (tick xs f)[i]'(by rw [tick_length]; exact h) = xs[i] := by
        simp [tick, List.getElem_set, e2]
      rw [h3, List.filter_cons, if_neg (by simp [e])]
theorem countL_get (m : Nat) (q : List Int) (hq : ∀ x ∈ q, 0 ≤ dimI x) (i : Nat) (h : i < m) : (countL m q)[i]'(by rw [countL_length]; exact h) = ((q.filter fun x => dimI x == (i : Int)).length : Int) := by
  have := ticks_get q hq (List.replicate m 0) i (by rw [List.length_replicate]; exact h)
  rw [List.getElem_replicate, Int.zero_add] at this
  exact this
theorem ticks_range (q : List Int) (hq : ∀ x ∈ q, 0 ≤ dimI x) (m : Nat) (i : Int) (h0 : 0 ≤ i) (h : i < m) : 0 ≤ rdOf 0 (countL m q) i ∧ rdOf 0 (countL m q) i ≤ q.length := by
  obtain ⟨j, rfl⟩ := Int.eq_ofNat_of_zero_le h0
  have hj : j < m := by omega
  have h1 := countL_get m q hq j hj
  have h2 : rdOf 0 (countL m q) (j : Int) = (countL m q)[j]'(by rw [countL_length]; exact hj) := by simp [rdOf, countL_length, hj]
  have h3 := List.length_filter_le (fun x => dimI x == (j : Int)) q
  rw [h2, h1]
  omega
theorem dim_pos_64 : ∀ m : Fin 64, m.val ≠ 0 → 0 ≤ dimI (m.val : Int) := by decide +kernel
theorem dim_pos (f : Int) (h0 : 1 ≤ f) (h1 : f ≤ 63) : 0 ≤ dimI f := by
  obtain ⟨m, rfl⟩ := Int.eq_ofNat_of_zero_le (show 0 ≤ f by omega)
  exact dim_pos_64 ⟨m, by omega⟩ (by show m ≠ 0; omega)

set_option maxRecDepth 100000 in
set_option maxHeartbeats 4000000 in
theorem count_calls (n : Int) (A : Option Addr) (c : Nat) (l : List Int) (A2 : Option Addr) (c2 : Nat) (q : List Int) (w : World) (hk : Kx w A c l) (hl : l.length ≤ 1000000000) (hf : ∀ x ∈ l, 1 ≤ x ∧ x ≤ 63) (hr : Ki.C w A2 q.length q) (hc : q.length ≤ c2) (hq : ∀ x ∈ q, x ∈ l) (hql : q.length ≤ 1000000000) :
    Calls Try.prog 63 #[.agg #[I n, .slice A l.length c], .slice A2 q.length c2] w fun e w' => ∃ v, e = .returned v ∧ Ki.R 2 w' w.heap.size (fun _ => True) v (countL (topI l + 1).toNat q) ∧ Grew w w' := by
  have hg : Grew w (w.alloc (.cells #[I n, .slice A l.length c] 28)) := below_alloc (Grew.refl w) _
  have hB : CB (w.alloc (.cells #[I n, .slice A l.length c] 28)) w.heap.size n (.slice A l.length c) := blk_new w _
  have H := Aside0.mk (top_calls n A c l _ (hk.later hg) hl (fun x hx => by have := hf x hx; omega))
  have hT := top_range l
  have HT := Aside0.mk (fun x (hx : x ∈ q) => And.intro (dim_pos x (hf x (hq x hx)).1 (hf x (hq x hx)).2) (top_mem l x (hq x hx)))
  have HF := Aside0.mk (fun x (hx : x ∈ q) => hf x (hq x hx))
  have HR := Aside0.mk hr
  have HC := Aside0.mk hc
  have HG := Aside0.mk hg
  have k0 := hB.c0
  have k1 := hB.c1
  obtain ⟨t, ht⟩ : ∃ t, t = topI l := ⟨_, rfl⟩
  rw [← ht] at H hT HT ⊢
  clear hk hg hB hf hq hr hc ht
  obtain ⟨m, hm⟩ : ∃ m : Nat, t + 1 = (m : Int) := ⟨(t + 1).toNat, by omega⟩
  have hm6 : m ≤ 6 := by omega
  rw [show (t + 1).toNat = m by omega]
  have HM := Aside0.mk hm
  clear hm
  have h0m : 0 ≤ (m : Int) := by omega
  go_enter Try.func63, Try.ntmps63
  go_wp2_with fail
  refine H.out.mono ?_
  rintro e w1 ⟨rfl, hG1⟩
  have HG1 := Aside0.mk (Grew.trans HG.out hG1)
  clear hG1 k0 k1
  have hm := HM.out
  go_wp2_with (first | ((with_reducible refine gate_dst (N := 11) rfl ?_); refine Kd.R_make (Kd.int .i64) _ 2 rfl (N := 11) rfl 22 _ _ rfl (m : Int) (by go_num) (by go_num) Try.underlying22 (.int .i64 0) 8 infoI rfl (by decide) (by omega) 0 (ok := fun _ => True) (okp := fun _ => True) rfl (fun _ hk => hk) trivial h0m (by omega) (Below.refl _ _) (Nat.le_refl _) ?_; intro v w2 ho hb hg_ hnew_; clear hg_ hnew_; have HO2 := Aside0.mk (Kd.R_lower ho HG1.out.size); have HG2 := Aside0.mk (Grew.trans HG1.out hb); clear ho hb))
  rw [Int.toNat_natCast] at HO2
  obtain ⟨A5, c5, e5⟩ := Kd.R_slice HO2.out
  rw [List.length_replicate] at e5
  subst e5
  go_wp2_with fail
  go_loopg [14] q.length (fun gg s14 wr => ∃ kk : Nat, kk ≤ q.length ∧ q.length - kk ≤ gg ∧ s14 = .int .i64 kk ∧ Aside0 (Ki.R 2 wr w.heap.size (fun _ => True) (.slice A5 m c5) (countL m (q.take kk))) ∧ Aside0 (Grew w wr))
  case atStart => exact ⟨0, Nat.zero_le _, by omega, rfl, HO2, HG2⟩
  case round =>
    obtain ⟨kk, hkk, hg, rfl, HRr, HGr⟩ := hrel
    by_cases hlt : kk < q.length
    · have hltz : (kk : Int) < (q.length : Int) := by omega
      obtain ⟨ad, e0, hx⟩ := Kd.at_int (Kd.C_below HR.out HGr.out) (kk : Int) (by omega) (by omega)
      cases e0
      have hrd : rd q (kk : Int) = q[kk] := by simp [rd, hlt]
      rw [hrd, Int.toNat_natCast] at hx
      have hy1 := HF.out _ (List.getElem_mem hlt)
      have hy2 := HT.out _ (List.getElem_mem hlt)
      have HN : Aside0 (countL m (q.take (kk + 1)) = tick (countL m (q.take kk)) q[kk]) := ⟨by rw [List.take_succ_eq_append_getElem hlt, countL, List.foldl_append]; rfl⟩
      have hb2 := ticks_range (q.take kk) (fun x hx => (HT.out x (List.mem_of_mem_take hx)).1) m (dimI q[kk]) hy2.1 (by omega)
      have hLl := countL_length m (q.take kk)
      have htk : (q.take kk).length = kk := by rw [List.length_take]; omega
      rw [htk] at hb2
      generalize countL m (q.take kk) = L at HRr HN hb2 hLl
      generalize q[kk] = y at hx hy1 hy2 HN hb2
      clear hrd htk
      have H3 := Aside0.mk (dimension_calls y (by omega) (by omega) wr)
      unfold tick at HN
      generalize dimI y = e at hy2 HN hb2 H3
      go_wp2_with fail
      refine H3.out.mono ?_
      rintro e' w3 ⟨rfl, hG3⟩
      have HR3 := Aside0.mk (Kd.R_below HRr.out hG3)
      have HG3 := Aside0.mk (Grew.trans HGr.out hG3)
      clear HRr hx hG3
      obtain ⟨G, cc, eo, gb, gl, _⟩ := Kd.R_form HR3.out (by omega)
      injection eo with ea en ec
      subst ea ec
      clear en
      obtain ⟨hx, hf⟩ := Kd.R_celln 0 HR3.out e (by omega) (by omega)
      generalize rdOf 0 L e = z at hx HN hb2
      have HW := Aside0.mk (Kd.R_putn HR3.out e (z + 1))
      have e0 := hy2.1
      have e1 : e < m := by omega
      go_wp2_with fail
      go_roundg (q.length - (kk + 1))
      case measure => omega
      case rel => exact ⟨kk + 1, by omega, by omega, by go_num, ⟨by rw [HN.out]; exact HW.out⟩, ⟨Below.setCell HG3.out gb _⟩⟩
    · obtain rfl : kk = q.length := by omega
      rw [List.take_length] at HRr
      go_wp2_with fail
      go_ret
      exact ⟨_, rfl, HRr.out, HGr.out⟩

set_option maxRecDepth 100000 in
set_option maxHeartbeats 4000000 in
theorem CountFaces_calls (n : Int) (A : Option Addr) (c : Nat) (l : List Int) (w : World) (hk : Kx w A c l) :
    Calls Try.prog 27 #[.agg #[I n, .slice A l.length c]] w fun e w' => ∃ v0, e = .returned (.tuple #[v0, I (codeOf n l (true))]) ∧ Ki.R 2 w' w.heap.size (fun _ => True) v0 (if (codeOf n l (true)) = 0 then (countL (topI l + 1).toNat l) else []) ∧ Grew w w' := by
  obtain ⟨W3, hW3⟩ : ∃ W3, W3 = (w.alloc (.cells #[I n, .slice A l.length c] 28)) := ⟨_, rfl⟩
  have hB : CB W3 w.heap.size n (.slice A l.length c) := by rw [hW3]; exact blk_new w _
  have hg : Grew w W3 := by rw [hW3]; exact below_alloc (Grew.refl w) _
  have H := Aside0.mk (complexCode_calls true n A c l 62 #[] #[] W3 (hk.later hg) (enters_of Try.func62 (by kernel_rfl) rfl) (fun _ => always_answers _))
  have k_0 := hB.c0
  have k_1 := hB.c1
  have HK := Aside0.mk hk
  have HB := Aside0.mk hB
  have HG := Aside0.mk hg
  clear hk hB hg 
  obtain ⟨cc, hcc⟩ : ∃ cc, cc = codeOf n l (true) := ⟨_, rfl⟩
  rw [← hcc] at H ⊢
  by_cases hz : cc = 0
  · subst hz
    have hb := codeOf_zero hcc.symm
    have HI := Aside0.mk hb.1
    have HBt : Aside0 ((true) = true) := ⟨hb.2⟩
    have HZ := Aside0.mk hcc
    have hx0 : ∀ {α : Type} (a b : α), (if (0 : Int) = 0 then a else b) = a := fun a b => if_pos rfl
    simp only [hx0]
    clear hcc hb hx0
    subst hW3
    go_enter Try.func27, Try.ntmps27
    go_wp2_with fail
    refine H.out.mono ?_
    rintro e w1 ⟨rfl, hG1⟩
    have HB1 : Aside0 (CB w1 w.heap.size n (.slice A l.length c)) := ⟨blk_below HB.out hG1⟩
    have HG1 := Aside0.mk (Grew.trans HG.out hG1)
    clear hG1 k_0 k_1
    have k_0 := HB1.out.c0
    have k_1 := HB1.out.c1
    have hb := isC_faces HI.out
    have H2 := Aside0.mk (count_calls n A c l A c l w1 (HK.out.later HG1.out) (by omega) (fun x hx => by have := hb.2.2.1 x hx; omega) (HK.out.later HG1.out).r HK.out.c (fun x hx => hx) (by omega))
    clear hb
    go_wp2_with fail
    refine H2.out.mono ?_
    rintro e w2 ⟨v, rfl, hR2, hG2⟩
    go_wp2_with fail
    go_ret2
    exact ⟨_, rfl, Kd.R_lower hR2 HG1.out.size, Grew.trans HG1.out hG2⟩
  · have HV : Aside0 (∀ {α : Type} (a b : α), (if cc = 0 then a else b) = b) := ⟨fun a b => if_neg hz⟩
    simp only [HV.out]
    clear hcc
    subst hW3
    go_enter Try.func27, Try.ntmps27
    go_wp2_with fail
    refine H.out.mono ?_
    rintro e w1 ⟨rfl, hG1⟩
    have HG1 := Aside0.mk (Grew.trans HG.out hG1)
    clear hG1 k_0 k_1
    go_wp2_with fail
    go_ret2
    exact ⟨_, rfl, Kd.R_nil _ _ _ _ _, HG1.out⟩

end Go.Proofs.Ythganpmmhfoodaa.K
end

section
/- Written by a program of this session (myprint.py over the kit's print). -/
namespace Go.Proofs.Ythganpmmhfoodaa.Q
open Go.RowKit Go.Proofs.YthganpmmhfoodaaW.PrintWords Go.Proofs.YthganpmmhfoodaaW.PrintLast Go.Proofs.YthganpmmhfoodaaW.PrintMore
attribute [local go_sem] max2_int min2_int max_two min_two max_three min_three max_four min_four   -- for this text's walks alone
set_option linter.unusedVariables false
set_option linter.unusedSimpArgs false

/-! ### spec_l01Dim: function 60 -/
def spec_l01Dim.l0 : Nat → Int → Int → Int → List Int → Option (Int)
  | 0, _, _, _, _ => none
  | k + 1, x3, x4, x152000, x152001 => if x4 < (x152001.length : Int) then (if 0 ≤ x4 then ((spec_l01Ones.f k (rd x152001 x4)).bind fun t153 => (spec_l01Dim.l0 k (mx x3 (wrap64 (t153 - 1))) (wrap64 (x4 + 1)) x152000 x152001)) else (none)) else (some x3)
def spec_l01Dim.f (k : Nat) (a0_0 : Int) (l0_1 : List Int) : Option (Int) := spec_l01Dim.l0 k (-1) 0 a0_0 l0_1
theorem spec_l01Dim.mono_l : ∀ k, (∀ y0 y1 y2 y3, LeO (spec_l01Dim.l0 k y0 y1 y2 y3) (spec_l01Dim.l0 (k + 1) y0 y1 y2 y3))
  | 0 => fun _ _ _ _ r h => by simp [spec_l01Dim.l0] at h
  | k + 1 => by
    have ih0 := spec_l01Dim.mono_l k
    · intro y0 y1 y2 y3
      unfold spec_l01Dim.l0
      repeat' first
      | (with_reducible exact ih0 _ _ _ _)
      | (with_reducible exact spec_l01Ones.mono _ _)
      | (with_reducible exact LeO.refl _)
      | (with_reducible exact LeO.none _)
      | (with_reducible refine LeO.ite ?_ ?_)
      | (with_reducible refine LeO.bind ?_ (fun _ => ?_))
      | exact ih0 _ _ _ _
      | exact spec_l01Ones.mono _ _
      | exact LeO.none _
      | refine LeO.ite ?_ ?_
      | refine LeO.bind ?_ (fun _ => ?_)
theorem spec_l01Dim.mono : ∀ a0 a1 k, LeO (spec_l01Dim.f k a0 a1) (spec_l01Dim.f (k + 1) a0 a1) := by
  intro a0 a1 k
  have ih0 := spec_l01Dim.mono_l k
  unfold spec_l01Dim.f
  repeat' first
      | (with_reducible exact ih0 _ _ _ _)
      | (with_reducible exact spec_l01Ones.mono _ _)
      | (with_reducible exact LeO.refl _)
      | (with_reducible exact LeO.none _)
      | (with_reducible refine LeO.ite ?_ ?_)
      | (with_reducible refine LeO.bind ?_ (fun _ => ?_))
      | exact ih0 _ _ _ _
      | exact spec_l01Ones.mono _ _
      | exact LeO.none _
      | refine LeO.ite ?_ ?_
      | refine LeO.bind ?_ (fun _ => ?_)
set_option maxHeartbeats 8000000 in
set_option maxRecDepth 100000 in
theorem spec_l01Dim.calls (k : Nat) (a0_0 : Int) (A0_1 : Option Addr) (c0_1 : Nat) (l0_1 : List Int) (r : Int) (w : World) (hr0_1 : Kd.C (Kd.int .i64) w A0_1 l0_1.length l0_1) (hc0_1 : l0_1.length ≤ c0_1) (h : spec_l01Dim.f k a0_0 l0_1 = some r) :
    Calls Try.prog 60 #[.agg #[.int .i64 a0_0, .slice A0_1 l0_1.length c0_1]] w fun e w' => e = .returned (.int .i64 r) ∧ Below w.heap.size w w' := by
  have hu28 := Try.underlying28
  have HR0_1 := Aside0.mk hr0_1
  have HC0_1 := Aside0.mk hc0_1
  clear hr0_1 hc0_1
  have HB := Aside0.mk (Below.refl w.heap.size w)
  have H : (spec_l01Dim.l0 k (-1) 0 a0_0 l0_1) = some r := h
  clear h
  have H' := Aside0.mk H
  clear H
  go_enter Try.func60, Try.ntmps60
  go_wp2_with (first | ((with_reducible refine gate_dst (N := 1) rfl ?_); refine box_event ?hg (N := 1) ?hd (cs := #[.int .i64 a0_0, .slice A0_1 l0_1.length c0_1]) (t := 28) ?hr ?_; (case hd => rfl); (case hg => rfl); (case hr => first | (go_simp; done) | (go_simp; rfl)); intro gb151 hg w2 hbox hb; have n0_ := Aside0.mk (below_step (by repeat (first | (with_reducible first | exact HB.out | apply below_alloc | apply pw_below_drewN | apply below_drew1) | exact HB.out)) hb); have n1_ := Aside0.mk (hbox); have n2_ := Aside0.mk ((by rw [hg]; exact (below_size (by repeat (first | (with_reducible first | exact HB.out | apply below_alloc | apply pw_below_drewN | apply below_drew1) | exact HB.out))) : w.heap.size ≤ gb151)); have n3_ := Aside0.mk ((by rw [hg]; exact (below_size (by repeat (first | (with_reducible first | exact HB.out | apply below_alloc | apply pw_below_drewN | apply below_drew1) | exact HB.out))) : w.heap.size ≤ gb151)); clear HB; have HB := n0_; have BK151 := n1_; have GW151 := n2_; have GE151 := n3_; clear n0_ n1_ n2_ n3_; clear hb hbox hg))
  go_loopg [3, 4] k (fun kq v3 v4 w' => ∃ (x3_1 : Int) (x4_1 : Int), v3 = .int .i64 x3_1 ∧ v4 = .int .i64 x4_1 ∧ Aside0 (spec_l01Dim.l0 kq x3_1 x4_1 a0_0 l0_1 = some r) ∧ Aside0 (kq ≤ k) ∧ Aside0 (w'.heap[gb151]? = some (.cells #[.int .i64 a0_0, (.slice A0_1 l0_1.length c0_1)] 28 (0, 0))) ∧ Aside0 (Below w.heap.size w w'))
  case atStart => exact ⟨((-1)), (0), (by first | rfl | (simp; done) | (simp [*]; done)), (by first | rfl | (simp; done) | (simp [*]; done)), H', ⟨Nat.le_refl _⟩, ⟨by (with_reducible repeat (first | refine blk_drewN ?_ _ | refine blk_drew ?_ | refine blk_alloc ?_ _)); exact BK151.out⟩, ⟨by repeat (first | (with_reducible first | exact HB.out | apply below_alloc | apply pw_below_drewN | apply below_drew1 | refine below_set ?_ GE151.out) | exact HB.out)⟩⟩
  case round =>
    clear H'
    try clear p2
    obtain ⟨x3_1, x4_1, rfl, rfl, HA, HK1, BK151, HB⟩ := hrel
    cases gk with
    | zero => exact absurd HA.out (by simp [spec_l01Dim.l0])
    | succ k1 =>
      have H := HA.out
      clear HA
      simp only [spec_l01Dim.l0] at H
      by_cases c3 : x4_1 < (l0_1.length : Int)
      · rw [if_pos c3] at H
        have c3b0 : decide (x4_1 < (l0_1.length : Int)) = true := decide_eq_true c3
        clear c3
        by_cases c4 : 0 ≤ x4_1
        · rw [if_pos c4] at H
          have c4b0 : decide (0 ≤ x4_1) = true := decide_eq_true c4
          clear c4
          replace H := Option.bind_eq_some_iff.mp H
          obtain ⟨t153, A50, H⟩ := H
          replace H : (spec_l01Dim.l0 k1 (mx x3_1 (wrap64 (t153 - 1))) (wrap64 (x4_1 + 1)) a0_0 l0_1) = some r := H
          have A5 := Aside0.mk A50
          clear A50
          obtain ⟨ji6, hji6⟩ : ∃ j_ : Int, (mx x3_1 (wrap64 (t153 - 1))) = j_ := ⟨_, rfl⟩
          replace H : (spec_l01Dim.l0 k1 ji6 (wrap64 (x4_1 + 1)) a0_0 l0_1) = some r := by first | (rw [hji6] at H; exact H) | (simp only [hji6] at H ⊢; exact H)
          (try rw [hji6] at A5)
          have hji6_ : (if x3_1 < (wrap64 (t153 - 1)) then (wrap64 (t153 - 1)) else x3_1) = ji6 := hji6
          have H' := Aside0.mk H
          clear H
          have hcz7_0 : wr.cell? ⟨gb151, 0, none⟩ = some (.int .i64 a0_0) := (blk_cell BK151.out 0).trans rfl
          have hcz7_1 : wr.cell? ⟨gb151, 1, none⟩ = some (.slice A0_1 l0_1.length c0_1) := (blk_cell BK151.out 1).trans rfl
          have hfz7_0 := blk_frozen BK151.out 0
          have hfz7_1 := blk_frozen BK151.out 1
          have p152 : 0 ≤ (x4_1 : Int) := of_decide_eq_true (by first | (with_reducible assumption) | assumption)
          have q152 : x4_1 < (l0_1.length : Int) := of_decide_eq_true (by first | (with_reducible assumption) | assumption)
          obtain ⟨ad152, e152, hx152_0⟩ := Kd.at_int HR0_1.out x4_1 p152 q152
          cases e152
          replace hx152_0 := (HB.out.cell (World.block_lt_of_cell? w _ hx152_0)).trans hx152_0
          replace p152 := eq_true p152
          replace q152 := eq_true q152
          go_wp2_with (first | ((with_reducible refine gate_callee (f := 54) rfl ?_); refine goesL_ (some 18) rfl rfl Try.func54 (by kernel_rfl) rfl #[.int .i64 (rd l0_1 x4_1)] rfl (by (try simp only [List.map_toArray, List.map_cons, List.map_nil]); first | done | rfl | (simp only [List.length_drop, List.length_take]; rfl)) ?_; (with_reducible refine (spec_l01Ones.calls k1 (rd l0_1 x4_1) t153 _ A5.out).mono ?_); rintro e w' ⟨rfl, ⟨nd, rfl⟩⟩; refine ⟨_, rfl, ?_⟩))
          go_roundg k1
          case measure => have := HK1.out; omega
          case rel => exact ⟨(ji6), (wrap64 (x4_1 + 1)), (by first | rfl | (simp; done) | (simp only [← hji6] <;> (first | rfl | simp)) | (simp [*]; done)), (by first | rfl | (simp; done) | (simp [*]; done)), H', ⟨by have := HK1.out; omega⟩, ⟨by (with_reducible repeat (first | refine blk_drewN ?_ _ | refine blk_drew ?_ | refine blk_alloc ?_ _)); exact BK151.out⟩, ⟨by repeat (first | (with_reducible first | exact HB.out | apply below_alloc | apply pw_below_drewN | apply below_drew1 | refine below_set ?_ GE151.out) | exact HB.out)⟩⟩
        · rw [if_neg c4] at H
          exact absurd H (by simp)
      · rw [if_neg c3] at H
        have c3b0 : decide (x4_1 < (l0_1.length : Int)) = false := decide_eq_false c3
        clear c3
        obtain rfl := Option.some.inj H
        have hcz8_0 : wr.cell? ⟨gb151, 0, none⟩ = some (.int .i64 a0_0) := (blk_cell BK151.out 0).trans rfl
        have hcz8_1 : wr.cell? ⟨gb151, 1, none⟩ = some (.slice A0_1 l0_1.length c0_1) := (blk_cell BK151.out 1).trans rfl
        have hfz8_0 := blk_frozen BK151.out 0
        have hfz8_1 := blk_frozen BK151.out 1
        go_wp2
        go_ret
        exact ⟨by first | rfl | (simp [errW_none, errW_some] <;> rfl) | (simp [*, errW_none, errW_some] <;> rfl), by repeat (first | (with_reducible first | exact HB.out | apply below_alloc | apply pw_below_drewN | apply below_drew1 | refine below_set ?_ GE151.out) | exact HB.out)⟩

/-! ### spec_l01Of: function 61 -/
def spec_l01Of.l0 : Nat → Int → List Int → Int → Int → List Int → Option (List Int)
  | 0, _, _, _, _, _ => none
  | k + 1, x1, x5, x6, x155000, x155001 => if x6 < (x155001.length : Int) then (if 0 ≤ x6 then ((spec_l01Ones.f k (rd x155001 x6)).bind fun t159 => (if t159 = (wrap64 (x1 + 1)) then (if x5.length < 17592186044416 then (spec_l01Of.l0 k x1 (x5 ++ [rd x155001 x6]) (wrap64 (x6 + 1)) x155000 x155001) else (none)) else (spec_l01Of.l0 k x1 x5 (wrap64 (x6 + 1)) x155000 x155001))) else (none)) else (some x5)
def spec_l01Of.f (k : Nat) (a0_0 : Int) (l0_1 : List Int) (a1 : Int) : Option (List Int) := spec_l01Of.l0 k a1 (([] : List Int)) 0 a0_0 l0_1
theorem spec_l01Of.mono_l : ∀ k, (∀ y0 y1 y2 y3 y4, LeO (spec_l01Of.l0 k y0 y1 y2 y3 y4) (spec_l01Of.l0 (k + 1) y0 y1 y2 y3 y4))
  | 0 => fun _ _ _ _ _ r h => by simp [spec_l01Of.l0] at h
  | k + 1 => by
    have ih0 := spec_l01Of.mono_l k
    · intro y0 y1 y2 y3 y4
      unfold spec_l01Of.l0
      repeat' first
      | (with_reducible exact ih0 _ _ _ _ _)
      | (with_reducible exact spec_l01Ones.mono _ _)
      | (with_reducible exact LeO.refl _)
      | (with_reducible exact LeO.none _)
      | (with_reducible refine LeO.ite ?_ ?_)
      | (with_reducible refine LeO.bind ?_ (fun _ => ?_))
      | exact ih0 _ _ _ _ _
      | exact spec_l01Ones.mono _ _
      | exact LeO.none _
      | refine LeO.ite ?_ ?_
      | refine LeO.bind ?_ (fun _ => ?_)
theorem spec_l01Of.mono : ∀ a0 a1 a2 k, LeO (spec_l01Of.f k a0 a1 a2) (spec_l01Of.f (k + 1) a0 a1 a2) := by
  intro a0 a1 a2 k
  have ih0 := spec_l01Of.mono_l k
  unfold spec_l01Of.f
  repeat' first
      | (with_reducible exact ih0 _ _ _ _ _)
      | (with_reducible exact spec_l01Ones.mono _ _)
      | (with_reducible exact LeO.refl _)
      | (with_reducible exact LeO.none _)
      | (with_reducible refine LeO.ite ?_ ?_)
      | (with_reducible refine LeO.bind ?_ (fun _ => ?_))
      | exact ih0 _ _ _ _ _
      | exact spec_l01Ones.mono _ _
      | exact LeO.none _
      | refine LeO.ite ?_ ?_
      | refine LeO.bind ?_ (fun _ => ?_)
set_option maxHeartbeats 8000000 in
set_option maxRecDepth 100000 in
theorem spec_l01Of.calls (k : Nat) (a0_0 : Int) (A0_1 : Option Addr) (c0_1 : Nat) (l0_1 : List Int) (a1 : Int) (r : List Int) (w : World) (hr0_1 : Kd.C (Kd.int .i64) w A0_1 l0_1.length l0_1) (hc0_1 : l0_1.length ≤ c0_1) (h : spec_l01Of.f k a0_0 l0_1 a1 = some r) :
    Calls Try.prog 61 #[.agg #[.int .i64 a0_0, .slice A0_1 l0_1.length c0_1], .int .i64 a1] w fun e w' => ∃ v0_ : Value, e = .returned (v0_) ∧ Kd.R (Kd.int .i64) 2 w' w.heap.size (fun _ => True) v0_ r ∧ Below w.heap.size w w' := by
  have hu28 := Try.underlying28
  have HR0_1 := Aside0.mk hr0_1
  have HC0_1 := Aside0.mk hc0_1
  clear hr0_1 hc0_1
  have HB := Aside0.mk (Below.refl w.heap.size w)
  have H : (spec_l01Of.l0 k a1 (([] : List Int)) 0 a0_0 l0_1) = some r := h
  clear h
  obtain ⟨y155, hy155⟩ : ∃ y_ : List Int, y_ = (([] : List Int)) := ⟨_, rfl⟩
  replace H : (spec_l01Of.l0 k a1 y155 0 a0_0 l0_1) = some r := by first | (rw [hy155]; with_reducible exact H) | (have H2_ := (Option.bind_some _ _).symm.trans H; rw [hy155]; with_reducible exact H2_) | (have H2_ := (Option.bind_some _ _).symm.trans H; with_reducible exact H2_) | with_reducible exact H | (rw [hy155]; exact H) | exact H
  have Ny155 := Aside0.mk hy155
  clear hy155
  have H' := Aside0.mk H
  clear H
  go_enter Try.func61, Try.ntmps61
  go_wp2_with (first | ((with_reducible refine gate_dst (N := 2) rfl ?_); refine box_event ?hg (N := 2) ?hd (cs := #[.int .i64 a0_0, .slice A0_1 l0_1.length c0_1]) (t := 28) ?hr ?_; (case hd => rfl); (case hg => rfl); (case hr => first | (go_simp; done) | (go_simp; rfl)); intro gb154 hg w3 hbox hb; have n0_ := Aside0.mk (below_step (by repeat (first | (with_reducible first | exact HB.out | apply below_alloc | apply pw_below_drewN | apply below_drew1) | exact HB.out)) hb); have n1_ := Aside0.mk (hbox); have n2_ := Aside0.mk ((by rw [hg]; exact (below_size (by repeat (first | (with_reducible first | exact HB.out | apply below_alloc | apply pw_below_drewN | apply below_drew1) | exact HB.out))) : w.heap.size ≤ gb154)); have n3_ := Aside0.mk ((by rw [hg]; exact (below_size (by repeat (first | (with_reducible first | exact HB.out | apply below_alloc | apply pw_below_drewN | apply below_drew1) | exact HB.out))) : w.heap.size ≤ gb154)); clear HB; have HB := n0_; have BK154 := n1_; have GW154 := n2_; have GE154 := n3_; clear n0_ n1_ n2_ n3_; clear hb hbox hg) | ((with_reducible refine gate_dst (N := 7) rfl ?_); refine Kd.R_lit (Kd.int .i64) _ 2 ?hg (N := 7) ?hd (xs := ([] : List Int)) (inner := []) (ok := fun _ => True) (okp := fun _ => True) ?hr ?hp (fun _ hk => hk) trivial (Below.refl _ _) (Nat.le_refl _) (by simp) ?_; (case hd => rfl); (case hg => rfl); (case hr => first | (go_simp; done) | (go_simp; rfl)); (case hp => exact (Reps.none _ _)); intro v156 w4 ho5 hb hg_ hnew_; clear hg_ hnew_; (first | rw [← Ny155.out] at ho5 | (simp only [Int.reduceToNat] at ho5; rw [← Ny155.out] at ho5)); have n0_ := Aside0.mk (Kd.R_lower ho5 (below_size (by repeat (first | (with_reducible first | exact HB.out | apply below_alloc | apply pw_below_drewN | apply below_drew1 | refine below_set ?_ GE154.out) | exact HB.out)))); have n1_ := Aside0.mk (blk_below (g := gb154) (o := .cells #[.int .i64 a0_0, .slice A0_1 l0_1.length c0_1] 28 (0, 0)) (by (with_reducible repeat (first | refine blk_drewN ?_ _ | refine blk_drew ?_ | refine blk_alloc ?_ _)); exact BK154.out) hb); have n2_ := Aside0.mk (below_step (by repeat (first | (with_reducible first | exact HB.out | apply below_alloc | apply pw_below_drewN | apply below_drew1 | refine below_set ?_ GE154.out) | exact HB.out)) hb); clear BK154; clear HB; have HO157 := n0_; have BK154 := n1_; have HB := n2_; clear n0_ n1_ n2_; clear hb ho5))
  go_loopg [5, 6] k (fun kq v5 v6 w' => ∃ (x5_1 : List Int) (x6_1 : Int), v6 = .int .i64 x6_1 ∧ Aside0 (spec_l01Of.l0 kq a1 x5_1 x6_1 a0_0 l0_1 = some r) ∧ Aside0 (kq ≤ k) ∧ Aside0 (Kd.R (Kd.int .i64) 2 w' w.heap.size (fun _ => True) v5 x5_1) ∧ Aside0 (w'.heap[gb154]? = some (.cells #[.int .i64 a0_0, (.slice A0_1 l0_1.length c0_1)] 28 (0, 0))) ∧ Aside0 (Below w.heap.size w w'))
  case atStart => exact ⟨(y155), (0), (by first | rfl | (simp; done) | (simp [*]; done)), H', ⟨Nat.le_refl _⟩, ⟨by (with_reducible repeat (first | apply Kd.R_alloc | apply Kd.R_drewN | apply Kd.R_drew)); exact HO157.out⟩, ⟨by (with_reducible repeat (first | refine blk_drewN ?_ _ | refine blk_drew ?_ | refine blk_alloc ?_ _)); exact BK154.out⟩, ⟨by repeat (first | (with_reducible first | exact HB.out | apply below_alloc | apply pw_below_drewN | apply below_drew1 | refine below_set ?_ GE154.out) | exact HB.out)⟩⟩
  case round =>
    clear H'
    try clear p2
    obtain ⟨x5_1, x6_1, rfl, HA, HK1, HO_5, BK154, HB⟩ := hrel
    cases gk with
    | zero => exact absurd HA.out (by simp [spec_l01Of.l0])
    | succ k1 =>
      have H := HA.out
      clear HA
      simp only [spec_l01Of.l0] at H
      by_cases c6 : x6_1 < (l0_1.length : Int)
      · rw [if_pos c6] at H
        have c6b0 : decide (x6_1 < (l0_1.length : Int)) = true := decide_eq_true c6
        clear c6
        by_cases c7 : 0 ≤ x6_1
        · rw [if_pos c7] at H
          have c7b0 : decide (0 ≤ x6_1) = true := decide_eq_true c7
          clear c7
          replace H := Option.bind_eq_some_iff.mp H
          obtain ⟨t159, A80, H⟩ := H
          replace H : (if t159 = (wrap64 (a1 + 1)) then (if x5_1.length < 17592186044416 then (spec_l01Of.l0 k1 a1 (x5_1 ++ [rd l0_1 x6_1]) (wrap64 (x6_1 + 1)) a0_0 l0_1) else (none)) else (spec_l01Of.l0 k1 a1 x5_1 (wrap64 (x6_1 + 1)) a0_0 l0_1)) = some r := H
          have A8 := Aside0.mk A80
          clear A80
          by_cases c9 : t159 = (wrap64 (a1 + 1))
          · rw [if_pos c9] at H
            have c9b0 : (t159 == (wrap64 (a1 + 1))) = true := beq_iff_eq.mpr c9
            have c9b1 : (t159 != (wrap64 (a1 + 1))) = false := bne_eq_false_iff_eq.mpr c9
            clear c9
            by_cases c10 : x5_1.length < 17592186044416
            · rw [if_pos c10] at H
              have LMc10 := Aside0.mk c10
              clear c10
              obtain ⟨y161, hy161⟩ : ∃ y_ : List Int, y_ = (x5_1 ++ [rd l0_1 x6_1]) := ⟨_, rfl⟩
              replace H : (spec_l01Of.l0 k1 a1 y161 (wrap64 (x6_1 + 1)) a0_0 l0_1) = some r := by first | (rw [hy161]; with_reducible exact H) | (have H2_ := (Option.bind_some _ _).symm.trans H; rw [hy161]; with_reducible exact H2_) | (have H2_ := (Option.bind_some _ _).symm.trans H; with_reducible exact H2_) | with_reducible exact H | (rw [hy161]; exact H) | exact H
              have Ny161 := Aside0.mk hy161
              clear hy161
              have H' := Aside0.mk H
              clear H
              have hcz11_0 : wr.cell? ⟨gb154, 0, none⟩ = some (.int .i64 a0_0) := (blk_cell BK154.out 0).trans rfl
              have hcz11_1 : wr.cell? ⟨gb154, 1, none⟩ = some (.slice A0_1 l0_1.length c0_1) := (blk_cell BK154.out 1).trans rfl
              have hfz11_0 := blk_frozen BK154.out 0
              have hfz11_1 := blk_frozen BK154.out 1
              have p158 : 0 ≤ (x6_1 : Int) := of_decide_eq_true (by first | (with_reducible assumption) | assumption)
              have q158 : x6_1 < (l0_1.length : Int) := of_decide_eq_true (by first | (with_reducible assumption) | assumption)
              obtain ⟨ad158, e158, hx158_0⟩ := Kd.at_int HR0_1.out x6_1 p158 q158
              cases e158
              replace hx158_0 := (HB.out.cell (World.block_lt_of_cell? w _ hx158_0)).trans hx158_0
              replace p158 := eq_true p158
              replace q158 := eq_true q158
              go_wp2_with (first | ((with_reducible refine gate_callee (f := 54) rfl ?_); refine goesL_ (some 20) rfl rfl Try.func54 (by kernel_rfl) rfl #[.int .i64 (rd l0_1 x6_1)] rfl (by (try simp only [List.map_toArray, List.map_cons, List.map_nil]); first | done | rfl | (simp only [List.length_drop, List.length_take]; rfl)) ?_; (with_reducible refine (spec_l01Ones.calls k1 (rd l0_1 x6_1) t159 _ A8.out).mono ?_); rintro e w' ⟨rfl, ⟨nd, rfl⟩⟩; refine ⟨_, rfl, ?_⟩; have p160 : 0 ≤ (x6_1 : Int) := of_decide_eq_true (by first | (with_reducible assumption) | assumption); have q160 : x6_1 < (l0_1.length : Int) := of_decide_eq_true (by first | (with_reducible assumption) | assumption); obtain ⟨ad160, e160, hx160_0⟩ := Kd.at_int HR0_1.out x6_1 p160 q160; obtain rfl : ad158 = ad160 := (by injection e160); replace hx160_0 := (HB.out.cell (World.block_lt_of_cell? w _ hx160_0)).trans hx160_0; replace p160 := eq_true p160; replace q160 := eq_true q160) | ((with_reducible refine gate_builtin (b := .append) (xs := #[.tmp 24, .tmp 30]) rfl ?_); at_builtin; refine Kd.R_append (Kd.int .i64) (w0 := w) w.heap.size rfl (.tmp 24) (.tmp 30) 22 2 (.int .i64 0) 8 rfl Try.underlying22 info2 rfl (by decide) (by omega) u5 x5_1 (rd l0_1 x6_1) [.int .i64 (rd l0_1 x6_1)] (fun _ => True) (fun _ => False) rfl rfl ?aP (fun _ hk => hk.elim) ?aF ?aO ?aB ?aS ?aL ?_; (case aP => exact rfl); (case aB => exact (by repeat (first | (with_reducible first | exact HB.out | apply below_alloc | apply pw_below_drewN | apply below_drew1 | refine below_set ?_ GE154.out) | exact HB.out))); (case aF => exact (fun _ _ => trivial)); (case aO => exact (by (with_reducible repeat (first | apply Kd.R_alloc | apply Kd.R_drewN | apply Kd.R_drew)); exact HO_5.out)); (case aS => exact (below_size (by repeat (first | (with_reducible first | exact HB.out | apply below_alloc | apply pw_below_drewN | apply below_drew1 | refine below_set ?_ GE154.out) | exact HB.out)))); (case aL => have := LMc10.out; omega); intro v162 w12 ho hb hg hat; rw [← Ny161.out] at ho; have n0_ := Aside0.mk (blk_grown (g := gb154) (o := .cells #[.int .i64 a0_0, .slice (some ad158) l0_1.length c0_1] 28 (0, 0)) (by (with_reducible repeat (first | refine blk_drewN ?_ _ | refine blk_drew ?_ | refine blk_alloc ?_ _)); exact BK154.out) hg (Kd.R_ne HO_5.out BK154.out (by decide))); have n1_ := Aside0.mk (hb); have n2_ := Aside0.mk (ho); clear BK154; clear HB; clear HO_5; have BK154 := n0_; have HB := n1_; have HO163 := n2_; clear n0_ n1_ n2_; clear ho hb hg hat))
              go_roundg k1
              case measure => have := HK1.out; omega
              case rel => exact ⟨(y161), (wrap64 (x6_1 + 1)), (by first | rfl | (simp; done) | (simp [*]; done)), H', ⟨by have := HK1.out; omega⟩, ⟨by (with_reducible repeat (first | apply Kd.R_alloc | apply Kd.R_drewN | apply Kd.R_drew)); exact HO163.out⟩, ⟨by (with_reducible repeat (first | refine blk_drewN ?_ _ | refine blk_drew ?_ | refine blk_alloc ?_ _)); exact BK154.out⟩, ⟨by repeat (first | (with_reducible first | exact HB.out | apply below_alloc | apply pw_below_drewN | apply below_drew1 | refine below_set ?_ GE154.out) | exact HB.out)⟩⟩
            · rw [if_neg c10] at H
              exact absurd H (by simp)
          · rw [if_neg c9] at H
            have c9b0 : (t159 == (wrap64 (a1 + 1))) = false := beq_eq_false_iff_ne.mpr c9
            have c9b1 : (t159 != (wrap64 (a1 + 1))) = true := bne_iff_ne.mpr c9
            have H' := Aside0.mk H
            clear H
            have hcz13_0 : wr.cell? ⟨gb154, 0, none⟩ = some (.int .i64 a0_0) := (blk_cell BK154.out 0).trans rfl
            have hcz13_1 : wr.cell? ⟨gb154, 1, none⟩ = some (.slice A0_1 l0_1.length c0_1) := (blk_cell BK154.out 1).trans rfl
            have hfz13_0 := blk_frozen BK154.out 0
            have hfz13_1 := blk_frozen BK154.out 1
            have p158 : 0 ≤ (x6_1 : Int) := of_decide_eq_true (by first | (with_reducible assumption) | assumption)
            have q158 : x6_1 < (l0_1.length : Int) := of_decide_eq_true (by first | (with_reducible assumption) | assumption)
            obtain ⟨ad158, e158, hx158_0⟩ := Kd.at_int HR0_1.out x6_1 p158 q158
            cases e158
            replace hx158_0 := (HB.out.cell (World.block_lt_of_cell? w _ hx158_0)).trans hx158_0
            replace p158 := eq_true p158
            replace q158 := eq_true q158
            go_wp2_with (first | ((with_reducible refine gate_callee (f := 54) rfl ?_); refine goesL_ (some 20) rfl rfl Try.func54 (by kernel_rfl) rfl #[.int .i64 (rd l0_1 x6_1)] rfl (by (try simp only [List.map_toArray, List.map_cons, List.map_nil]); first | done | rfl | (simp only [List.length_drop, List.length_take]; rfl)) ?_; (with_reducible refine (spec_l01Ones.calls k1 (rd l0_1 x6_1) t159 _ A8.out).mono ?_); rintro e w' ⟨rfl, ⟨nd, rfl⟩⟩; refine ⟨_, rfl, ?_⟩))
            go_roundg k1
            case measure => have := HK1.out; omega
            case rel => exact ⟨(x5_1), (wrap64 (x6_1 + 1)), (by first | rfl | (simp; done) | (simp [*]; done)), H', ⟨by have := HK1.out; omega⟩, ⟨by (with_reducible repeat (first | apply Kd.R_alloc | apply Kd.R_drewN | apply Kd.R_drew)); exact HO_5.out⟩, ⟨by (with_reducible repeat (first | refine blk_drewN ?_ _ | refine blk_drew ?_ | refine blk_alloc ?_ _)); exact BK154.out⟩, ⟨by repeat (first | (with_reducible first | exact HB.out | apply below_alloc | apply pw_below_drewN | apply below_drew1 | refine below_set ?_ GE154.out) | exact HB.out)⟩⟩
        · rw [if_neg c7] at H
          exact absurd H (by simp)
      · rw [if_neg c6] at H
        have c6b0 : decide (x6_1 < (l0_1.length : Int)) = false := decide_eq_false c6
        clear c6
        obtain rfl := Option.some.inj H
        have hcz14_0 : wr.cell? ⟨gb154, 0, none⟩ = some (.int .i64 a0_0) := (blk_cell BK154.out 0).trans rfl
        have hcz14_1 : wr.cell? ⟨gb154, 1, none⟩ = some (.slice A0_1 l0_1.length c0_1) := (blk_cell BK154.out 1).trans rfl
        have hfz14_0 := blk_frozen BK154.out 0
        have hfz14_1 := blk_frozen BK154.out 1
        go_wp2
        go_ret
        exact ⟨_, by first | rfl | (simp [errW_none, errW_some] <;> rfl) | (simp [*, errW_none, errW_some] <;> rfl), by (with_reducible repeat (first | apply Kd.R_alloc | apply Kd.R_drewN | apply Kd.R_drew)); exact HO_5.out, by repeat (first | (with_reducible first | exact HB.out | apply below_alloc | apply pw_below_drewN | apply below_drew1 | refine below_set ?_ GE154.out) | exact HB.out)⟩

end Go.Proofs.Ythganpmmhfoodaa.Q
end

section
/- The reference's FacesOf and CountFaces come to what the program's come to. -/
namespace Go.Proofs.Ythganpmmhfoodaa.K
open Go.RowKit Go.Shelf Go.Proofs.Ythganpmmhfoodaa.Q Go.Proofs.YthganpmmhfoodaaW.PrintWords Go.Proofs.YthganpmmhfoodaaW.PrintLast Go.Proofs.YthganpmmhfoodaaW.PrintMore
set_option linter.unusedVariables false
set_option linter.unusedSimpArgs false

theorem ofL_cons (x : Int) (l : List Int) (d : Int) : ofL (x :: l) d = if dimI x = d then x :: ofL l d else ofL l d := by
  unfold ofL
  rw [List.filter_cons]
  by_cases h : dimI x = d <;> simp [h]
theorem specOf_loop (n d : Int) (hd : -5 ≤ d ∧ d ≤ 20) (l : List Int) (hl : l.length ≤ 63) (hr : ∀ x ∈ l, 0 ≤ x ∧ x ≤ 63) : ∀ (e i k : Nat) (acc : List Int), l.length - i = e → i ≤ l.length → e + 8 < k → acc.length ≤ i →
    spec_l01Of.l0 k d acc (i : Int) n l = some (acc ++ ofL (l.drop i) d) := by
  intro e
  induction e with
  | zero =>
    intro i k acc he hi hk ha
    obtain ⟨k, rfl⟩ : ∃ m, k = m + 1 := ⟨k - 1, by omega⟩
    obtain rfl : i = l.length := by omega
    simp only [spec_l01Of.l0]
    rw [if_neg (by omega)]
    simp [ofL]
  | succ e ih =>
    intro i k acc he hi hk ha
    obtain ⟨k, rfl⟩ : ∃ m, k = m + 1 := ⟨k - 1, by omega⟩
    simp only [spec_l01Of.l0]
    have hil : i < l.length := by omega
    have hx := hr _ (List.getElem_mem hil)
    rw [if_pos (by omega), if_pos (by omega), rd_nat l i hil, specOnes_is l[i] (by omega) (by omega) k (by omega)]
    simp only [Option.bind_some]
    rw [w64 (d + 1) (by omega) (by omega), w64 ((i : Int) + 1) (by omega) (by omega), nat_succ, List.drop_eq_getElem_cons hil, ofL_cons]
    by_cases h : onesI l[i] = d + 1
    · have h2 : dimI l[i] = d := by unfold dimI; omega
      rw [if_pos h, if_pos (by omega), ih (i + 1) k _ (by omega) (by omega) (by omega) (by simp; omega), if_pos h2, List.append_assoc]
      rfl
    · have h2 : ¬ dimI l[i] = d := by unfold dimI; omega
      rw [if_neg h, ih (i + 1) k _ (by omega) (by omega) (by omega) (by omega), if_neg h2]
theorem specOf_is (n d : Int) (hd : -5 ≤ d ∧ d ≤ 20) (l : List Int) (hl : l.length ≤ 63) (hr : ∀ x ∈ l, 0 ≤ x ∧ x ≤ 63) (k : Nat) (hk : 80 ≤ k) : spec_l01Of.f k n l d = some (ofL l d) := by
  unfold spec_l01Of.f
  have := specOf_loop n d hd l hl hr l.length 0 k [] (by omega) (by omega) (by omega) (by simp)
  rw [show ((0 : Nat) : Int) = 0 from rfl, List.nil_append, List.drop_zero] at this
  exact this
theorem specTop_loop (n : Int) (l : List Int) (hl : l.length ≤ 63) (hr : ∀ x ∈ l, 0 ≤ x ∧ x ≤ 63) : ∀ (e i k : Nat) (s : Int), l.length - i = e → i ≤ l.length → e + 8 < k →
    spec_l01Dim.l0 k s (i : Int) n l = some ((l.drop i).foldl (fun d f => mx d (dimI f)) s) := by
  intro e
  induction e with
  | zero =>
    intro i k s he hi hk
    obtain ⟨k, rfl⟩ : ∃ m, k = m + 1 := ⟨k - 1, by omega⟩
    obtain rfl : i = l.length := by omega
    simp only [spec_l01Dim.l0]
    rw [if_neg (by omega)]
    simp
  | succ e ih =>
    intro i k s he hi hk
    obtain ⟨k, rfl⟩ : ∃ m, k = m + 1 := ⟨k - 1, by omega⟩
    simp only [spec_l01Dim.l0]
    have hil : i < l.length := by omega
    have hx := hr _ (List.getElem_mem hil)
    have h1 := dim_range l[i]
    have h2 : onesI l[i] - 1 = dimI l[i] := rfl
    rw [if_pos (by omega), if_pos (by omega), rd_nat l i hil, specOnes_is l[i] (by omega) (by omega) k (by omega)]
    simp only [Option.bind_some]
    rw [h2, w64 (dimI l[i]) (by omega) (by omega), w64 ((i : Int) + 1) (by omega) (by omega), nat_succ, ih (i + 1) k _ (by omega) (by omega) (by omega), List.drop_eq_getElem_cons hil, List.foldl_cons]
theorem specTop_is (n : Int) (l : List Int) (hl : l.length ≤ 63) (hr : ∀ x ∈ l, 0 ≤ x ∧ x ≤ 63) (k : Nat) (hk : 80 ≤ k) : spec_l01Dim.f k n l = some (topI l) := by
  unfold spec_l01Dim.f
  have := specTop_loop n l hl hr l.length 0 k (-1) (by omega) (by omega) (by omega)
  rw [show ((0 : Nat) : Int) = 0 from rfl, List.drop_zero] at this
  exact this
/-- The numbers of faces by dimension, as the reference makes them. -/
def countsL (l : List Int) (m : Nat) : List Int := (List.range m).map fun (d : Nat) => ((ofL l (d : Int)).length : Int)
theorem countL_is (l : List Int) (hq : ∀ x ∈ l, 0 ≤ dimI x) (m : Nat) : countL m l = countsL l m := by
  apply List.ext_getElem
  · simp [countL_length, countsL]
  · intro i h1 h2
    rw [countL_length] at h1
    rw [countL_get m l hq i h1]
    simp only [countsL, List.getElem_map, List.getElem_range, ofL]
    congr 2
    apply List.filter_congr
    intro x _
    simp [bne]
end Go.Proofs.Ythganpmmhfoodaa.K
end

section
/- Sets of vertices as bits; a set in a face is a face. -/
namespace Go.Proofs.Ythganpmmhfoodaa.K
open Go.RowKit Go.Shelf Go.Proofs.Ythganpmmhfoodaa.Q Go.Proofs.YthganpmmhfoodaaW.PrintWords Go.Proofs.YthganpmmhfoodaaW.PrintLast Go.Proofs.YthganpmmhfoodaaW.PrintMore
set_option linter.unusedVariables false
set_option linter.unusedSimpArgs false

theorem closed_mem {n : Int} {l : List Int} (hi : isC n l = true) (g : Int) (hg : g ∈ l) (h : Int) (hh : h ∈ bords g) : h ∈ l := by
  obtain ⟨hn, hs, hr, h63⟩ := isC_faces hi
  have h1 := ((isC_iff n l).1 hi).2.2 g hg
  unfold closedAt at h1
  rw [List.all_eq_true] at h1
  have h2 := h1 h hh
  rw [has_asc l h (by omega) hs] at h2
  exact of_decide_eq_true h2
end Go.Proofs.Ythganpmmhfoodaa.K
end

section
/- Written by a program of this session (myprint.py over the kit's print). -/
namespace Go.Proofs.Ythganpmmhfoodaa.Q
open Go.RowKit Go.Proofs.YthganpmmhfoodaaW.PrintWords Go.Proofs.YthganpmmhfoodaaW.PrintLast Go.Proofs.YthganpmmhfoodaaW.PrintMore
attribute [local go_sem] max2_int min2_int max_two min_two max_three min_three max_four min_four   -- for this text's walks alone
set_option linter.unusedVariables false
set_option linter.unusedSimpArgs false

/-! ### spec_l01Components: function 67 -/
mutual
def spec_l01Components.l0 : Nat → List Int → Int → Int → Int → List Int → Option (List Int)
  | 0, _, _, _, _, _ => none
  | k + 1, x3, x4, x5, x183000, x183001 => if x5 < x183000 then (if 0 ≤ (IntKind.u64.wrap (x5)) then ((spec_l01Has.f k x183000 x183001 (shl .i64 1 (IntKind.u64.wrap (x5)))).bind fun t186 => (if t186 = true then (spec_l01Components.l0 k x3 (Go.bits .or .i64 x4 (shl .i64 1 (IntKind.u64.wrap (x5)))) (wrap64 (x5 + 1)) x183000 x183001) else (spec_l01Components.l0 k x3 x4 (wrap64 (x5 + 1)) x183000 x183001))) else (none)) else (spec_l01Components.l1 k x3 x4 x183000 x183001)
def spec_l01Components.l1 : Nat → List Int → Int → Int → List Int → Option (List Int)
  | 0, _, _, _, _ => none
  | k + 1, x3, x4, x183000, x183001 => if x4 > 0 then (spec_l01Components.l2 k x3 x4 (wrap64 (x4 - (Go.bits .and .i64 x4 (wrap64 (x4 - 1))))) true x183000 x183001) else (some x3)
def spec_l01Components.l2 : Nat → List Int → Int → Int → Bool → Int → List Int → Option (List Int)
  | 0, _, _, _, _, _, _ => none
  | k + 1, x3, x4, x6, x7, x183000, x183001 => if x7 = true then (spec_l01Components.l3 k x3 x4 x6 false 0 x183000 x183001) else (if x3.length < 17592186044416 then (spec_l01Components.l1 k (x3 ++ [x6]) (wrap64 (x4 - (Go.bits .and .i64 x4 x6))) x183000 x183001) else (none))
def spec_l01Components.l3 : Nat → List Int → Int → Int → Bool → Int → Int → List Int → Option (List Int)
  | 0, _, _, _, _, _, _, _ => none
  | k + 1, x3, x4, x6, x7, x8, x183000, x183001 => if x8 < (x183001.length : Int) then (if 0 ≤ x8 then (if (Go.bits .and .i64 (rd x183001 x8) x6) = 0 then (spec_l01Components.l3 k x3 x4 x6 x7 (wrap64 (x8 + 1)) x183000 x183001) else (if (Go.bits .and .i64 (rd x183001 x8) x6) = (rd x183001 x8) then (spec_l01Components.l3 k x3 x4 x6 x7 (wrap64 (x8 + 1)) x183000 x183001) else (spec_l01Components.l3 k x3 x4 (Go.bits .or .i64 x6 (rd x183001 x8)) true (wrap64 (x8 + 1)) x183000 x183001))) else (none)) else (spec_l01Components.l2 k x3 x4 x6 x7 x183000 x183001)
end
def spec_l01Components.f (k : Nat) (a0_0 : Int) (l0_1 : List Int) : Option (List Int) := spec_l01Components.l0 k (([] : List Int)) 0 0 a0_0 l0_1
theorem spec_l01Components.mono_l : ∀ k, (∀ y0 y1 y2 y3 y4, LeO (spec_l01Components.l0 k y0 y1 y2 y3 y4) (spec_l01Components.l0 (k + 1) y0 y1 y2 y3 y4)) ∧ (∀ y0 y1 y2 y3, LeO (spec_l01Components.l1 k y0 y1 y2 y3) (spec_l01Components.l1 (k + 1) y0 y1 y2 y3)) ∧ (∀ y0 y1 y2 y3 y4 y5, LeO (spec_l01Components.l2 k y0 y1 y2 y3 y4 y5) (spec_l01Components.l2 (k + 1) y0 y1 y2 y3 y4 y5)) ∧ (∀ y0 y1 y2 y3 y4 y5 y6, LeO (spec_l01Components.l3 k y0 y1 y2 y3 y4 y5 y6) (spec_l01Components.l3 (k + 1) y0 y1 y2 y3 y4 y5 y6))
  | 0 => ⟨fun _ _ _ _ _ r h => by simp [spec_l01Components.l0] at h, fun _ _ _ _ r h => by simp [spec_l01Components.l1] at h, fun _ _ _ _ _ _ r h => by simp [spec_l01Components.l2] at h, fun _ _ _ _ _ _ _ r h => by simp [spec_l01Components.l3] at h⟩
  | k + 1 => by
    obtain ⟨ih0, ih1, ih2, ih3⟩ := spec_l01Components.mono_l k
    refine ⟨?_, ?_, ?_, ?_⟩
    · intro y0 y1 y2 y3 y4
      unfold spec_l01Components.l0
      repeat' first
      | (with_reducible exact ih0 _ _ _ _ _)
      | (with_reducible exact ih1 _ _ _ _)
      | (with_reducible exact ih2 _ _ _ _ _ _)
      | (with_reducible exact ih3 _ _ _ _ _ _ _)
      | (with_reducible exact spec_l01Has.mono _ _ _ _)
      | (with_reducible exact LeO.refl _)
      | (with_reducible exact LeO.none _)
      | (with_reducible refine LeO.ite ?_ ?_)
      | (with_reducible refine LeO.bind ?_ (fun _ => ?_))
      | exact ih0 _ _ _ _ _
      | exact ih1 _ _ _ _
      | exact ih2 _ _ _ _ _ _
      | exact ih3 _ _ _ _ _ _ _
      | exact spec_l01Has.mono _ _ _ _
      | exact LeO.none _
      | refine LeO.ite ?_ ?_
      | refine LeO.bind ?_ (fun _ => ?_)
    · intro y0 y1 y2 y3
      unfold spec_l01Components.l1
      repeat' first
      | (with_reducible exact ih0 _ _ _ _ _)
      | (with_reducible exact ih1 _ _ _ _)
      | (with_reducible exact ih2 _ _ _ _ _ _)
      | (with_reducible exact ih3 _ _ _ _ _ _ _)
      | (with_reducible exact spec_l01Has.mono _ _ _ _)
      | (with_reducible exact LeO.refl _)
      | (with_reducible exact LeO.none _)
      | (with_reducible refine LeO.ite ?_ ?_)
      | (with_reducible refine LeO.bind ?_ (fun _ => ?_))
      | exact ih0 _ _ _ _ _
      | exact ih1 _ _ _ _
      | exact ih2 _ _ _ _ _ _
      | exact ih3 _ _ _ _ _ _ _
      | exact spec_l01Has.mono _ _ _ _
      | exact LeO.none _
      | refine LeO.ite ?_ ?_
      | refine LeO.bind ?_ (fun _ => ?_)
    · intro y0 y1 y2 y3 y4 y5
      unfold spec_l01Components.l2
      repeat' first
      | (with_reducible exact ih0 _ _ _ _ _)
      | (with_reducible exact ih1 _ _ _ _)
      | (with_reducible exact ih2 _ _ _ _ _ _)
      | (with_reducible exact ih3 _ _ _ _ _ _ _)
      | (with_reducible exact spec_l01Has.mono _ _ _ _)
      | (with_reducible exact LeO.refl _)
      | (with_reducible exact LeO.none _)
      | (with_reducible refine LeO.ite ?_ ?_)
      | (with_reducible refine LeO.bind ?_ (fun _ => ?_))
      | exact ih0 _ _ _ _ _
      | exact ih1 _ _ _ _
      | exact ih2 _ _ _ _ _ _
      | exact ih3 _ _ _ _ _ _ _
      | exact spec_l01Has.mono _ _ _ _
      | exact LeO.none _
      | refine LeO.ite ?_ ?_
      | refine LeO.bind ?_ (fun _ => ?_)
    · intro y0 y1 y2 y3 y4 y5 y6
      unfold spec_l01Components.l3
      repeat' first
      | (with_reducible exact ih0 _ _ _ _ _)
      | (with_reducible exact ih1 _ _ _ _)
      | (with_reducible exact ih2 _ _ _ _ _ _)
      | (with_reducible exact ih3 _ _ _ _ _ _ _)
      | (with_reducible exact spec_l01Has.mono _ _ _ _)
      | (with_reducible exact LeO.refl _)
      | (with_reducible exact LeO.none _)
      | (with_reducible refine LeO.ite ?_ ?_)
      | (with_reducible refine LeO.bind ?_ (fun _ => ?_))
      | exact ih0 _ _ _ _ _
      | exact ih1 _ _ _ _
      | exact ih2 _ _ _ _ _ _
      | exact ih3 _ _ _ _ _ _ _
      | exact spec_l01Has.mono _ _ _ _
      | exact LeO.none _
      | refine LeO.ite ?_ ?_
      | refine LeO.bind ?_ (fun _ => ?_)
theorem spec_l01Components.mono : ∀ a0 a1 k, LeO (spec_l01Components.f k a0 a1) (spec_l01Components.f (k + 1) a0 a1) := by
  intro a0 a1 k
  obtain ⟨ih0, ih1, ih2, ih3⟩ := spec_l01Components.mono_l k
  unfold spec_l01Components.f
  repeat' first
      | (with_reducible exact ih0 _ _ _ _ _)
      | (with_reducible exact ih1 _ _ _ _)
      | (with_reducible exact ih2 _ _ _ _ _ _)
      | (with_reducible exact ih3 _ _ _ _ _ _ _)
      | (with_reducible exact spec_l01Has.mono _ _ _ _)
      | (with_reducible exact LeO.refl _)
      | (with_reducible exact LeO.none _)
      | (with_reducible refine LeO.ite ?_ ?_)
      | (with_reducible refine LeO.bind ?_ (fun _ => ?_))
      | exact ih0 _ _ _ _ _
      | exact ih1 _ _ _ _
      | exact ih2 _ _ _ _ _ _
      | exact ih3 _ _ _ _ _ _ _
      | exact spec_l01Has.mono _ _ _ _
      | exact LeO.none _
      | refine LeO.ite ?_ ?_
      | refine LeO.bind ?_ (fun _ => ?_)
set_option maxHeartbeats 8000000 in
set_option maxRecDepth 100000 in
theorem spec_l01Components.calls (k : Nat) (a0_0 : Int) (A0_1 : Option Addr) (c0_1 : Nat) (l0_1 : List Int) (r : List Int) (w : World) (hr0_1 : Kd.C (Kd.int .i64) w A0_1 l0_1.length l0_1) (hc0_1 : l0_1.length ≤ c0_1) (h : spec_l01Components.f k a0_0 l0_1 = some r) :
    Calls Try.prog 67 #[.agg #[.int .i64 a0_0, .slice A0_1 l0_1.length c0_1]] w fun e w' => ∃ v0_ : Value, e = .returned (v0_) ∧ Kd.R (Kd.int .i64) 2 w' w.heap.size (fun _ => True) v0_ r ∧ Below w.heap.size w w' := by
  have hu28 := Try.underlying28
  have HR0_1 := Aside0.mk hr0_1
  have HC0_1 := Aside0.mk hc0_1
  clear hr0_1 hc0_1
  have HB := Aside0.mk (Below.refl w.heap.size w)
  have H : (spec_l01Components.l0 k (([] : List Int)) 0 0 a0_0 l0_1) = some r := h
  clear h
  obtain ⟨y183, hy183⟩ : ∃ y_ : List Int, y_ = (([] : List Int)) := ⟨_, rfl⟩
  replace H : (spec_l01Components.l0 k y183 0 0 a0_0 l0_1) = some r := by first | (rw [hy183]; with_reducible exact H) | (have H2_ := (Option.bind_some _ _).symm.trans H; rw [hy183]; with_reducible exact H2_) | (have H2_ := (Option.bind_some _ _).symm.trans H; with_reducible exact H2_) | with_reducible exact H | (rw [hy183]; exact H) | exact H
  have Ny183 := Aside0.mk hy183
  clear hy183
  have H' := Aside0.mk H
  clear H
  go_enter Try.func67, Try.ntmps67
  go_wp2_with (first | ((with_reducible refine gate_dst (N := 1) rfl ?_); refine box_event ?hg (N := 1) ?hd (cs := #[.int .i64 a0_0, .slice A0_1 l0_1.length c0_1]) (t := 28) ?hr ?_; (case hd => rfl); (case hg => rfl); (case hr => first | (go_simp; done) | (go_simp; rfl)); intro gb182 hg w2 hbox hb; have n0_ := Aside0.mk (below_step (by repeat (first | (with_reducible first | exact HB.out | apply below_alloc | apply pw_below_drewN | apply below_drew1) | exact HB.out)) hb); have n1_ := Aside0.mk (hbox); have n2_ := Aside0.mk ((by rw [hg]; exact (below_size (by repeat (first | (with_reducible first | exact HB.out | apply below_alloc | apply pw_below_drewN | apply below_drew1) | exact HB.out))) : w.heap.size ≤ gb182)); have n3_ := Aside0.mk ((by rw [hg]; exact (below_size (by repeat (first | (with_reducible first | exact HB.out | apply below_alloc | apply pw_below_drewN | apply below_drew1) | exact HB.out))) : w.heap.size ≤ gb182)); clear HB; have HB := n0_; have BK182 := n1_; have GW182 := n2_; have GE182 := n3_; clear n0_ n1_ n2_ n3_; clear hb hbox hg) | ((with_reducible refine gate_dst (N := 9) rfl ?_); refine Kd.R_lit (Kd.int .i64) _ 2 ?hg (N := 9) ?hd (xs := ([] : List Int)) (inner := []) (ok := fun _ => True) (okp := fun _ => True) ?hr ?hp (fun _ hk => hk) trivial (Below.refl _ _) (Nat.le_refl _) (by simp) ?_; (case hd => rfl); (case hg => rfl); (case hr => first | (go_simp; done) | (go_simp; rfl)); (case hp => exact (Reps.none _ _)); intro v184 w3 ho4 hb hg_ hnew_; clear hg_ hnew_; (first | rw [← Ny183.out] at ho4 | (simp only [Int.reduceToNat] at ho4; rw [← Ny183.out] at ho4)); have n0_ := Aside0.mk (Kd.R_lower ho4 (below_size (by repeat (first | (with_reducible first | exact HB.out | apply below_alloc | apply pw_below_drewN | apply below_drew1 | refine below_set ?_ GE182.out) | exact HB.out)))); have n1_ := Aside0.mk (blk_below (g := gb182) (o := .cells #[.int .i64 a0_0, .slice A0_1 l0_1.length c0_1] 28 (0, 0)) (by (with_reducible repeat (first | refine blk_drewN ?_ _ | refine blk_drew ?_ | refine blk_alloc ?_ _)); exact BK182.out) hb); have n2_ := Aside0.mk (below_step (by repeat (first | (with_reducible first | exact HB.out | apply below_alloc | apply pw_below_drewN | apply below_drew1 | refine below_set ?_ GE182.out) | exact HB.out)) hb); clear BK182; clear HB; have HO185 := n0_; have BK182 := n1_; have HB := n2_; clear n0_ n1_ n2_; clear hb ho4))
  repeat (go_quiet (first | ((with_reducible refine gate_dst (N := 1) rfl ?_); refine box_event ?hg (N := 1) ?hd (cs := #[.int .i64 a0_0, .slice A0_1 l0_1.length c0_1]) (t := 28) ?hr ?_; (case hd => rfl); (case hg => rfl); (case hr => first | (go_simp; done) | (go_simp; rfl)); intro gb182 hg w2 hbox hb; have n0_ := Aside0.mk (below_step (by repeat (first | (with_reducible first | exact HB.out | apply below_alloc | apply pw_below_drewN | apply below_drew1) | exact HB.out)) hb); have n1_ := Aside0.mk (hbox); have n2_ := Aside0.mk ((by rw [hg]; exact (below_size (by repeat (first | (with_reducible first | exact HB.out | apply below_alloc | apply pw_below_drewN | apply below_drew1) | exact HB.out))) : w.heap.size ≤ gb182)); have n3_ := Aside0.mk ((by rw [hg]; exact (below_size (by repeat (first | (with_reducible first | exact HB.out | apply below_alloc | apply pw_below_drewN | apply below_drew1) | exact HB.out))) : w.heap.size ≤ gb182)); clear HB; have HB := n0_; have BK182 := n1_; have GW182 := n2_; have GE182 := n3_; clear n0_ n1_ n2_ n3_; clear hb hbox hg) | ((with_reducible refine gate_dst (N := 9) rfl ?_); refine Kd.R_lit (Kd.int .i64) _ 2 ?hg (N := 9) ?hd (xs := ([] : List Int)) (inner := []) (ok := fun _ => True) (okp := fun _ => True) ?hr ?hp (fun _ hk => hk) trivial (Below.refl _ _) (Nat.le_refl _) (by simp) ?_; (case hd => rfl); (case hg => rfl); (case hr => first | (go_simp; done) | (go_simp; rfl)); (case hp => exact (Reps.none _ _)); intro v184 w3 ho4 hb hg_ hnew_; clear hg_ hnew_; (first | rw [← Ny183.out] at ho4 | (simp only [Int.reduceToNat] at ho4; rw [← Ny183.out] at ho4)); have n0_ := Aside0.mk (Kd.R_lower ho4 (below_size (by repeat (first | (with_reducible first | exact HB.out | apply below_alloc | apply pw_below_drewN | apply below_drew1 | refine below_set ?_ GE182.out) | exact HB.out)))); have n1_ := Aside0.mk (blk_below (g := gb182) (o := .cells #[.int .i64 a0_0, .slice A0_1 l0_1.length c0_1] 28 (0, 0)) (by (with_reducible repeat (first | refine blk_drewN ?_ _ | refine blk_drew ?_ | refine blk_alloc ?_ _)); exact BK182.out) hb); have n2_ := Aside0.mk (below_step (by repeat (first | (with_reducible first | exact HB.out | apply below_alloc | apply pw_below_drewN | apply below_drew1 | refine below_set ?_ GE182.out) | exact HB.out)) hb); clear BK182; clear HB; have HO185 := n0_; have BK182 := n1_; have HB := n2_; clear n0_ n1_ n2_; clear hb ho4)); try go_wp2_with (first | ((with_reducible refine gate_dst (N := 1) rfl ?_); refine box_event ?hg (N := 1) ?hd (cs := #[.int .i64 a0_0, .slice A0_1 l0_1.length c0_1]) (t := 28) ?hr ?_; (case hd => rfl); (case hg => rfl); (case hr => first | (go_simp; done) | (go_simp; rfl)); intro gb182 hg w2 hbox hb; have n0_ := Aside0.mk (below_step (by repeat (first | (with_reducible first | exact HB.out | apply below_alloc | apply pw_below_drewN | apply below_drew1) | exact HB.out)) hb); have n1_ := Aside0.mk (hbox); have n2_ := Aside0.mk ((by rw [hg]; exact (below_size (by repeat (first | (with_reducible first | exact HB.out | apply below_alloc | apply pw_below_drewN | apply below_drew1) | exact HB.out))) : w.heap.size ≤ gb182)); have n3_ := Aside0.mk ((by rw [hg]; exact (below_size (by repeat (first | (with_reducible first | exact HB.out | apply below_alloc | apply pw_below_drewN | apply below_drew1) | exact HB.out))) : w.heap.size ≤ gb182)); clear HB; have HB := n0_; have BK182 := n1_; have GW182 := n2_; have GE182 := n3_; clear n0_ n1_ n2_ n3_; clear hb hbox hg) | ((with_reducible refine gate_dst (N := 9) rfl ?_); refine Kd.R_lit (Kd.int .i64) _ 2 ?hg (N := 9) ?hd (xs := ([] : List Int)) (inner := []) (ok := fun _ => True) (okp := fun _ => True) ?hr ?hp (fun _ hk => hk) trivial (Below.refl _ _) (Nat.le_refl _) (by simp) ?_; (case hd => rfl); (case hg => rfl); (case hr => first | (go_simp; done) | (go_simp; rfl)); (case hp => exact (Reps.none _ _)); intro v184 w3 ho4 hb hg_ hnew_; clear hg_ hnew_; (first | rw [← Ny183.out] at ho4 | (simp only [Int.reduceToNat] at ho4; rw [← Ny183.out] at ho4)); have n0_ := Aside0.mk (Kd.R_lower ho4 (below_size (by repeat (first | (with_reducible first | exact HB.out | apply below_alloc | apply pw_below_drewN | apply below_drew1 | refine below_set ?_ GE182.out) | exact HB.out)))); have n1_ := Aside0.mk (blk_below (g := gb182) (o := .cells #[.int .i64 a0_0, .slice A0_1 l0_1.length c0_1] 28 (0, 0)) (by (with_reducible repeat (first | refine blk_drewN ?_ _ | refine blk_drew ?_ | refine blk_alloc ?_ _)); exact BK182.out) hb); have n2_ := Aside0.mk (below_step (by repeat (first | (with_reducible first | exact HB.out | apply below_alloc | apply pw_below_drewN | apply below_drew1 | refine below_set ?_ GE182.out) | exact HB.out)) hb); clear BK182; clear HB; have HO185 := n0_; have BK182 := n1_; have HB := n2_; clear n0_ n1_ n2_; clear hb ho4)))
  go_loopg [4, 5] k (fun kq v4 v5 w' => ∃ (x4_1 : Int) (x5_1 : Int), v4 = .int .i64 x4_1 ∧ v5 = .int .i64 x5_1 ∧ Aside0 (spec_l01Components.l0 kq y183 x4_1 x5_1 a0_0 l0_1 = some r) ∧ Aside0 (kq ≤ k) ∧ Aside0 (Kd.R (Kd.int .i64) 2 w' w.heap.size (fun _ => True) v184 y183) ∧ Aside0 (w'.heap[gb182]? = some (.cells #[.int .i64 a0_0, (.slice A0_1 l0_1.length c0_1)] 28 (0, 0))) ∧ Aside0 (Below w.heap.size w w'))
  case atStart => exact ⟨(0), (0), (by first | rfl | (simp; done) | (simp [*]; done)), (by first | rfl | (simp; done) | (simp [*]; done)), H', ⟨Nat.le_refl _⟩, ⟨by (with_reducible repeat (first | apply Kd.R_alloc | apply Kd.R_drewN | apply Kd.R_drew)); exact HO185.out⟩, ⟨by (with_reducible repeat (first | refine blk_drewN ?_ _ | refine blk_drew ?_ | refine blk_alloc ?_ _)); exact BK182.out⟩, ⟨by repeat (first | (with_reducible first | exact HB.out | apply below_alloc | apply pw_below_drewN | apply below_drew1 | refine below_set ?_ GE182.out) | exact HB.out)⟩⟩
  case round =>
    clear H'
    try clear p2
    obtain ⟨x4_1, x5_1, rfl, rfl, HA, HK1, HO_3, BK182, HB⟩ := hrel
    cases gk with
    | zero => exact absurd HA.out (by simp [spec_l01Components.l0])
    | succ k1 =>
      have H := HA.out
      clear HA
      simp only [spec_l01Components.l0] at H
      by_cases c5 : x5_1 < a0_0
      · rw [if_pos c5] at H
        have c5b0 : decide (x5_1 < a0_0) = true := decide_eq_true c5
        clear c5
        obtain ⟨ji6, hji6⟩ : ∃ j_ : Int, (IntKind.u64.wrap (x5_1)) = j_ := ⟨_, rfl⟩
        replace H : (if 0 ≤ (ji6) then ((spec_l01Has.f k1 a0_0 l0_1 (shl .i64 1 (ji6))).bind fun t186 => (if t186 = true then (spec_l01Components.l0 k1 y183 (Go.bits .or .i64 x4_1 (shl .i64 1 (ji6))) (wrap64 (x5_1 + 1)) a0_0 l0_1) else (spec_l01Components.l0 k1 y183 x4_1 (wrap64 (x5_1 + 1)) a0_0 l0_1))) else (none)) = some r := by first | (rw [hji6] at H; exact H) | (simp only [hji6] at H ⊢; exact H)
        by_cases c7 : 0 ≤ (ji6)
        · rw [if_pos c7] at H
          have c7b0 := eq_true c7
          have c7b1 : decide (0 ≤ (ji6)) = true := decide_eq_true c7
          clear c7
          obtain ⟨ji8, hji8⟩ : ∃ j_ : Int, (shl .i64 1 (ji6)) = j_ := ⟨_, rfl⟩
          replace H : ((spec_l01Has.f k1 a0_0 l0_1 (ji8)).bind fun t186 => (if t186 = true then (spec_l01Components.l0 k1 y183 (Go.bits .or .i64 x4_1 (ji8)) (wrap64 (x5_1 + 1)) a0_0 l0_1) else (spec_l01Components.l0 k1 y183 x4_1 (wrap64 (x5_1 + 1)) a0_0 l0_1))) = some r := by first | (rw [hji8] at H; exact H) | (simp only [hji8] at H ⊢; exact H)
          have hji8_ : (IntKind.i64.wrap (1 * 2 ^ min (ji6).toNat 64)) = ji8 := hji8
          have hji8z : (ji6) ≤ 64 → (IntKind.i64.wrap (1 * 2 ^ (ji6).toNat)) = ji8 := shl_small hji8
          have hji8u : (IntKind.i64.wrap (2 ^ min (ji6).toNat 64)) = ji8 := by have h_ := hji8_; rw [Int.one_mul] at h_; exact h_
          have hji8v : (ji6) ≤ 64 → (IntKind.i64.wrap (2 ^ (ji6).toNat)) = ji8 := fun hle_ => by have h_ := hji8z hle_; rw [Int.one_mul] at h_; exact h_
          have hji8y : (wrap64 (1 * 2 ^ min (ji6).toNat 64)) = ji8 := (i64_w _).symm.trans hji8_
          have hji8x : (ji6) ≤ 64 → (wrap64 (1 * 2 ^ (ji6).toNat)) = ji8 := fun h_ => (i64_w _).symm.trans (hji8z h_)
          replace H := Option.bind_eq_some_iff.mp H
          obtain ⟨t186, A90, H⟩ := H
          replace H : (if t186 = true then (spec_l01Components.l0 k1 y183 (Go.bits .or .i64 x4_1 (ji8)) (wrap64 (x5_1 + 1)) a0_0 l0_1) else (spec_l01Components.l0 k1 y183 x4_1 (wrap64 (x5_1 + 1)) a0_0 l0_1)) = some r := H
          have A9 := Aside0.mk A90
          clear A90
          by_cases c10 : t186 = true
          · subst c10
            have H1 : (spec_l01Components.l0 k1 y183 (Go.bits .or .i64 x4_1 (ji8)) (wrap64 (x5_1 + 1)) a0_0 l0_1) = some r := by rw [if_pos rfl] at H; exact H
            clear H
            have H := H1
            clear H1
            have c11b0 := eq_true (of_decide_eq_true (by first | (with_reducible assumption) | assumption) : 0 ≤ (ji6))
            have H' := Aside0.mk H
            clear H
            have hcz12_0 : wr.cell? ⟨gb182, 0, none⟩ = some (.int .i64 a0_0) := (blk_cell BK182.out 0).trans rfl
            have hcz12_1 : wr.cell? ⟨gb182, 1, none⟩ = some (.slice A0_1 l0_1.length c0_1) := (blk_cell BK182.out 1).trans rfl
            have hfz12_0 := blk_frozen BK182.out 0
            have hfz12_1 := blk_frozen BK182.out 1
            go_wp2_with (first | (go_at_call 88; (with_reducible refine (spec_l01Has.calls k1 a0_0 _ _ l0_1 ji8 true _ ?side1 ?side2 A9.out).mono ?_); (case side1 => repeat (first | exact (Kd.C_below HR0_1.out HB.out) | (with_reducible refine Kd.C_alloc ?_ _) | (with_reducible refine Kd.C_drewN ?_ _) | (with_reducible refine Kd.C_drew ?_))); (case side2 => exact HC0_1.out); rintro e w13 ⟨rfl, hb⟩; have n0_ := Aside0.mk (Kd.R_below (by (with_reducible repeat (first | apply Kd.R_alloc | apply Kd.R_drewN | apply Kd.R_drew)); exact HO_3.out) hb); have n1_ := Aside0.mk (blk_below (g := gb182) (o := .cells #[.int .i64 a0_0, .slice A0_1 l0_1.length c0_1] 28 (0, 0)) (by (with_reducible repeat (first | refine blk_drewN ?_ _ | refine blk_drew ?_ | refine blk_alloc ?_ _)); exact BK182.out) hb); have n2_ := Aside0.mk (below_step (by repeat (first | (with_reducible first | exact HB.out | apply below_alloc | apply pw_below_drewN | apply below_drew1 | refine below_set ?_ GE182.out) | exact HB.out)) hb); clear HO_3; clear BK182; clear HB; have HO_3 := n0_; have BK182 := n1_; have HB := n2_; clear n0_ n1_ n2_; (try clear hb); (try clear hb2); (try clear hk); (try clear hi)))
            repeat (go_quiet (first | (go_at_call 88; (with_reducible refine (spec_l01Has.calls k1 a0_0 _ _ l0_1 ji8 true _ ?side1 ?side2 A9.out).mono ?_); (case side1 => repeat (first | exact (Kd.C_below HR0_1.out HB.out) | (with_reducible refine Kd.C_alloc ?_ _) | (with_reducible refine Kd.C_drewN ?_ _) | (with_reducible refine Kd.C_drew ?_))); (case side2 => exact HC0_1.out); rintro e w13 ⟨rfl, hb⟩; have n0_ := Aside0.mk (Kd.R_below (by (with_reducible repeat (first | apply Kd.R_alloc | apply Kd.R_drewN | apply Kd.R_drew)); exact HO_3.out) hb); have n1_ := Aside0.mk (blk_below (g := gb182) (o := .cells #[.int .i64 a0_0, .slice A0_1 l0_1.length c0_1] 28 (0, 0)) (by (with_reducible repeat (first | refine blk_drewN ?_ _ | refine blk_drew ?_ | refine blk_alloc ?_ _)); exact BK182.out) hb); have n2_ := Aside0.mk (below_step (by repeat (first | (with_reducible first | exact HB.out | apply below_alloc | apply pw_below_drewN | apply below_drew1 | refine below_set ?_ GE182.out) | exact HB.out)) hb); clear HO_3; clear BK182; clear HB; have HO_3 := n0_; have BK182 := n1_; have HB := n2_; clear n0_ n1_ n2_; (try clear hb); (try clear hb2); (try clear hk); (try clear hi))); try go_wp2_with (first | (go_at_call 88; (with_reducible refine (spec_l01Has.calls k1 a0_0 _ _ l0_1 ji8 true _ ?side1 ?side2 A9.out).mono ?_); (case side1 => repeat (first | exact (Kd.C_below HR0_1.out HB.out) | (with_reducible refine Kd.C_alloc ?_ _) | (with_reducible refine Kd.C_drewN ?_ _) | (with_reducible refine Kd.C_drew ?_))); (case side2 => exact HC0_1.out); rintro e w13 ⟨rfl, hb⟩; have n0_ := Aside0.mk (Kd.R_below (by (with_reducible repeat (first | apply Kd.R_alloc | apply Kd.R_drewN | apply Kd.R_drew)); exact HO_3.out) hb); have n1_ := Aside0.mk (blk_below (g := gb182) (o := .cells #[.int .i64 a0_0, .slice A0_1 l0_1.length c0_1] 28 (0, 0)) (by (with_reducible repeat (first | refine blk_drewN ?_ _ | refine blk_drew ?_ | refine blk_alloc ?_ _)); exact BK182.out) hb); have n2_ := Aside0.mk (below_step (by repeat (first | (with_reducible first | exact HB.out | apply below_alloc | apply pw_below_drewN | apply below_drew1 | refine below_set ?_ GE182.out) | exact HB.out)) hb); clear HO_3; clear BK182; clear HB; have HO_3 := n0_; have BK182 := n1_; have HB := n2_; clear n0_ n1_ n2_; (try clear hb); (try clear hb2); (try clear hk); (try clear hi))))
            go_roundg k1
            case measure => have := HK1.out; omega
            case rel => exact ⟨(Go.bits .or .i64 x4_1 (ji8)), (wrap64 (x5_1 + 1)), (by first | rfl | (simp; done) | (simp only [← hji8] <;> (first | rfl | simp)) | (simp [*]; done)), (by first | rfl | (simp; done) | (simp [*]; done)), H', ⟨by have := HK1.out; omega⟩, ⟨by (with_reducible repeat (first | apply Kd.R_alloc | apply Kd.R_drewN | apply Kd.R_drew)); exact HO_3.out⟩, ⟨by (with_reducible repeat (first | refine blk_drewN ?_ _ | refine blk_drew ?_ | refine blk_alloc ?_ _)); exact BK182.out⟩, ⟨by repeat (first | (with_reducible first | exact HB.out | apply below_alloc | apply pw_below_drewN | apply below_drew1 | refine below_set ?_ GE182.out) | exact HB.out)⟩⟩
          · replace c10 := Bool.eq_false_iff.mpr c10
            subst c10
            have H1 : (spec_l01Components.l0 k1 y183 x4_1 (wrap64 (x5_1 + 1)) a0_0 l0_1) = some r := by rw [if_neg (show ¬ (false = true) by decide)] at H; exact H
            clear H
            have H := H1
            clear H1
            have H' := Aside0.mk H
            clear H
            have hcz14_0 : wr.cell? ⟨gb182, 0, none⟩ = some (.int .i64 a0_0) := (blk_cell BK182.out 0).trans rfl
            have hcz14_1 : wr.cell? ⟨gb182, 1, none⟩ = some (.slice A0_1 l0_1.length c0_1) := (blk_cell BK182.out 1).trans rfl
            have hfz14_0 := blk_frozen BK182.out 0
            have hfz14_1 := blk_frozen BK182.out 1
            go_wp2_with (first | (go_at_call 88; (with_reducible refine (spec_l01Has.calls k1 a0_0 _ _ l0_1 ji8 false _ ?side1 ?side2 A9.out).mono ?_); (case side1 => repeat (first | exact (Kd.C_below HR0_1.out HB.out) | (with_reducible refine Kd.C_alloc ?_ _) | (with_reducible refine Kd.C_drewN ?_ _) | (with_reducible refine Kd.C_drew ?_))); (case side2 => exact HC0_1.out); rintro e w15 ⟨rfl, hb⟩; have n0_ := Aside0.mk (Kd.R_below (by (with_reducible repeat (first | apply Kd.R_alloc | apply Kd.R_drewN | apply Kd.R_drew)); exact HO_3.out) hb); have n1_ := Aside0.mk (blk_below (g := gb182) (o := .cells #[.int .i64 a0_0, .slice A0_1 l0_1.length c0_1] 28 (0, 0)) (by (with_reducible repeat (first | refine blk_drewN ?_ _ | refine blk_drew ?_ | refine blk_alloc ?_ _)); exact BK182.out) hb); have n2_ := Aside0.mk (below_step (by repeat (first | (with_reducible first | exact HB.out | apply below_alloc | apply pw_below_drewN | apply below_drew1 | refine below_set ?_ GE182.out) | exact HB.out)) hb); clear HO_3; clear BK182; clear HB; have HO_3 := n0_; have BK182 := n1_; have HB := n2_; clear n0_ n1_ n2_; (try clear hb); (try clear hb2); (try clear hk); (try clear hi)))
            repeat (go_quiet (first | (go_at_call 88; (with_reducible refine (spec_l01Has.calls k1 a0_0 _ _ l0_1 ji8 false _ ?side1 ?side2 A9.out).mono ?_); (case side1 => repeat (first | exact (Kd.C_below HR0_1.out HB.out) | (with_reducible refine Kd.C_alloc ?_ _) | (with_reducible refine Kd.C_drewN ?_ _) | (with_reducible refine Kd.C_drew ?_))); (case side2 => exact HC0_1.out); rintro e w15 ⟨rfl, hb⟩; have n0_ := Aside0.mk (Kd.R_below (by (with_reducible repeat (first | apply Kd.R_alloc | apply Kd.R_drewN | apply Kd.R_drew)); exact HO_3.out) hb); have n1_ := Aside0.mk (blk_below (g := gb182) (o := .cells #[.int .i64 a0_0, .slice A0_1 l0_1.length c0_1] 28 (0, 0)) (by (with_reducible repeat (first | refine blk_drewN ?_ _ | refine blk_drew ?_ | refine blk_alloc ?_ _)); exact BK182.out) hb); have n2_ := Aside0.mk (below_step (by repeat (first | (with_reducible first | exact HB.out | apply below_alloc | apply pw_below_drewN | apply below_drew1 | refine below_set ?_ GE182.out) | exact HB.out)) hb); clear HO_3; clear BK182; clear HB; have HO_3 := n0_; have BK182 := n1_; have HB := n2_; clear n0_ n1_ n2_; (try clear hb); (try clear hb2); (try clear hk); (try clear hi))); try go_wp2_with (first | (go_at_call 88; (with_reducible refine (spec_l01Has.calls k1 a0_0 _ _ l0_1 ji8 false _ ?side1 ?side2 A9.out).mono ?_); (case side1 => repeat (first | exact (Kd.C_below HR0_1.out HB.out) | (with_reducible refine Kd.C_alloc ?_ _) | (with_reducible refine Kd.C_drewN ?_ _) | (with_reducible refine Kd.C_drew ?_))); (case side2 => exact HC0_1.out); rintro e w15 ⟨rfl, hb⟩; have n0_ := Aside0.mk (Kd.R_below (by (with_reducible repeat (first | apply Kd.R_alloc | apply Kd.R_drewN | apply Kd.R_drew)); exact HO_3.out) hb); have n1_ := Aside0.mk (blk_below (g := gb182) (o := .cells #[.int .i64 a0_0, .slice A0_1 l0_1.length c0_1] 28 (0, 0)) (by (with_reducible repeat (first | refine blk_drewN ?_ _ | refine blk_drew ?_ | refine blk_alloc ?_ _)); exact BK182.out) hb); have n2_ := Aside0.mk (below_step (by repeat (first | (with_reducible first | exact HB.out | apply below_alloc | apply pw_below_drewN | apply below_drew1 | refine below_set ?_ GE182.out) | exact HB.out)) hb); clear HO_3; clear BK182; clear HB; have HO_3 := n0_; have BK182 := n1_; have HB := n2_; clear n0_ n1_ n2_; (try clear hb); (try clear hb2); (try clear hk); (try clear hi))))
            go_roundg k1
            case measure => have := HK1.out; omega
            case rel => exact ⟨(x4_1), (wrap64 (x5_1 + 1)), (by first | rfl | (simp; done) | (simp [*]; done)), (by first | rfl | (simp; done) | (simp [*]; done)), H', ⟨by have := HK1.out; omega⟩, ⟨by (with_reducible repeat (first | apply Kd.R_alloc | apply Kd.R_drewN | apply Kd.R_drew)); exact HO_3.out⟩, ⟨by (with_reducible repeat (first | refine blk_drewN ?_ _ | refine blk_drew ?_ | refine blk_alloc ?_ _)); exact BK182.out⟩, ⟨by repeat (first | (with_reducible first | exact HB.out | apply below_alloc | apply pw_below_drewN | apply below_drew1 | refine below_set ?_ GE182.out) | exact HB.out)⟩⟩
        · rw [if_neg c7] at H
          exact absurd H (by simp)
      · rw [if_neg c5] at H
        have c5b0 : decide (x5_1 < a0_0) = false := decide_eq_false c5
        clear c5
        have H' := Aside0.mk H
        clear H
        have hcz16_0 : wr.cell? ⟨gb182, 0, none⟩ = some (.int .i64 a0_0) := (blk_cell BK182.out 0).trans rfl
        have hcz16_1 : wr.cell? ⟨gb182, 1, none⟩ = some (.slice A0_1 l0_1.length c0_1) := (blk_cell BK182.out 1).trans rfl
        have hfz16_0 := blk_frozen BK182.out 0
        have hfz16_1 := blk_frozen BK182.out 1
        go_wp2
        repeat (go_quiet (fail); try go_wp2)
        go_loopg [3, 4] k1 (fun kq v3 v4 w' => ∃ (x3_2 : List Int) (x4_2 : Int), v4 = .int .i64 x4_2 ∧ Aside0 (spec_l01Components.l1 kq x3_2 x4_2 a0_0 l0_1 = some r) ∧ Aside0 (kq ≤ k1) ∧ Aside0 (Kd.R (Kd.int .i64) 2 w' w.heap.size (fun _ => True) v3 x3_2) ∧ Aside0 (w'.heap[gb182]? = some (.cells #[.int .i64 a0_0, (.slice A0_1 l0_1.length c0_1)] 28 (0, 0))) ∧ Aside0 (Below w.heap.size w w'))
        case atStart => exact ⟨(y183), (x4_1), (by first | rfl | (simp; done) | (simp [*]; done)), H', ⟨Nat.le_refl _⟩, ⟨by (with_reducible repeat (first | apply Kd.R_alloc | apply Kd.R_drewN | apply Kd.R_drew)); exact HO_3.out⟩, ⟨by (with_reducible repeat (first | refine blk_drewN ?_ _ | refine blk_drew ?_ | refine blk_alloc ?_ _)); exact BK182.out⟩, ⟨by repeat (first | (with_reducible first | exact HB.out | apply below_alloc | apply pw_below_drewN | apply below_drew1 | refine below_set ?_ GE182.out) | exact HB.out)⟩⟩
        case round =>
          clear H'
          try clear c1
          try clear p2
          try clear c5
          try clear c5b0
          try clear c6
          try clear p6
          try clear c7
          try clear c7b0
          try clear c7b1
          try clear c10
          try clear c11
          try clear c11b0
          try clear hcz12_0
          try clear hcz12_1
          try clear hcz14_0
          try clear hcz14_1
          try clear hcz16_0
          try clear hcz16_1
          try clear hfz12_0
          try clear hfz12_1
          try clear hfz14_0
          try clear hfz14_1
          try clear hfz16_0
          try clear hfz16_1
          try clear p2
          obtain ⟨x3_2, x4_2, rfl, HA, HK2, HO_3, BK182, HB⟩ := hrel
          cases gk with
          | zero => exact absurd HA.out (by simp [spec_l01Components.l1])
          | succ k2 =>
            have H := HA.out
            clear HA
            simp only [spec_l01Components.l1] at H
            by_cases c17 : x4_2 > 0
            · rw [if_pos c17] at H
              have c17b0 : decide (0 < x4_2) = true := decide_eq_true c17
              clear c17
              have H' := Aside0.mk H
              clear H
              go_wp2
              repeat (go_quiet (fail); try go_wp2)
              go_loopg [6, 7] k2 (fun kq v6 v7 w' => ∃ (x6_3 : Int) (x7_3 : Bool), v6 = .int .i64 x6_3 ∧ v7 = .bool x7_3 ∧ Aside0 (spec_l01Components.l2 kq x3_2 x4_2 x6_3 x7_3 a0_0 l0_1 = some r) ∧ Aside0 (kq ≤ k2) ∧ Aside0 (Kd.R (Kd.int .i64) 2 w' w.heap.size (fun _ => True) u3 x3_2) ∧ Aside0 (w'.heap[gb182]? = some (.cells #[.int .i64 a0_0, (.slice A0_1 l0_1.length c0_1)] 28 (0, 0))) ∧ Aside0 (Below w.heap.size w w'))
              case atStart => exact ⟨(wrap64 (x4_2 - (Go.bits .and .i64 x4_2 (wrap64 (x4_2 - 1))))), (true), (by first | rfl | (simp; done) | (simp [*]; done)), (by first | rfl | (simp; done) | (simp [*]; done)), H', ⟨Nat.le_refl _⟩, ⟨by (with_reducible repeat (first | apply Kd.R_alloc | apply Kd.R_drewN | apply Kd.R_drew)); exact HO_3.out⟩, ⟨by (with_reducible repeat (first | refine blk_drewN ?_ _ | refine blk_drew ?_ | refine blk_alloc ?_ _)); exact BK182.out⟩, ⟨by repeat (first | (with_reducible first | exact HB.out | apply below_alloc | apply pw_below_drewN | apply below_drew1 | refine below_set ?_ GE182.out) | exact HB.out)⟩⟩
              case round =>
                clear H'
                try clear c1
                try clear p2
                try clear c5
                try clear c5b0
                try clear c6
                try clear p6
                try clear c7
                try clear c7b0
                try clear c7b1
                try clear c10
                try clear c11
                try clear c11b0
                try clear c17
                try clear c17b0
                try clear hcz12_0
                try clear hcz12_1
                try clear hcz14_0
                try clear hcz14_1
                try clear hcz16_0
                try clear hcz16_1
                try clear hfz12_0
                try clear hfz12_1
                try clear hfz14_0
                try clear hfz14_1
                try clear hfz16_0
                try clear hfz16_1
                try clear p2
                try clear p6
                obtain ⟨x6_3, x7_3, rfl, rfl, HA, HK3, HO_3, BK182, HB⟩ := hrel
                cases gk with
                | zero => exact absurd HA.out (by simp [spec_l01Components.l2])
                | succ k3 =>
                  have H := HA.out
                  clear HA
                  simp only [spec_l01Components.l2] at H
                  by_cases c18 : x7_3 = true
                  · subst c18
                    have H1 : (spec_l01Components.l3 k3 x3_2 x4_2 x6_3 false 0 a0_0 l0_1) = some r := by rw [if_pos rfl] at H; exact H
                    clear H
                    have H := H1
                    clear H1
                    have H' := Aside0.mk H
                    clear H
                    go_wp2
                    repeat (go_quiet (fail); try go_wp2)
                    go_loopg [6, 7, 8] k3 (fun kq v6 v7 v8 w' => ∃ (x6_4 : Int) (x7_4 : Bool) (x8_4 : Int), v6 = .int .i64 x6_4 ∧ v7 = .bool x7_4 ∧ v8 = .int .i64 x8_4 ∧ Aside0 (spec_l01Components.l3 kq x3_2 x4_2 x6_4 x7_4 x8_4 a0_0 l0_1 = some r) ∧ Aside0 (kq ≤ k3) ∧ Aside0 (Kd.R (Kd.int .i64) 2 w' w.heap.size (fun _ => True) u3 x3_2) ∧ Aside0 (w'.heap[gb182]? = some (.cells #[.int .i64 a0_0, (.slice A0_1 l0_1.length c0_1)] 28 (0, 0))) ∧ Aside0 (Below w.heap.size w w'))
                    case atStart => exact ⟨(x6_3), (false), (0), (by first | rfl | (simp; done) | (simp [*]; done)), (by first | rfl | (simp; done) | (simp [*]; done)), (by first | rfl | (simp; done) | (simp [*]; done)), H', ⟨Nat.le_refl _⟩, ⟨by (with_reducible repeat (first | apply Kd.R_alloc | apply Kd.R_drewN | apply Kd.R_drew)); exact HO_3.out⟩, ⟨by (with_reducible repeat (first | refine blk_drewN ?_ _ | refine blk_drew ?_ | refine blk_alloc ?_ _)); exact BK182.out⟩, ⟨by repeat (first | (with_reducible first | exact HB.out | apply below_alloc | apply pw_below_drewN | apply below_drew1 | refine below_set ?_ GE182.out) | exact HB.out)⟩⟩
                    case round =>
                      clear H'
                      try clear c1
                      try clear p2
                      try clear c5
                      try clear c5b0
                      try clear c6
                      try clear p6
                      try clear c7
                      try clear c7b0
                      try clear c7b1
                      try clear c10
                      try clear c11
                      try clear c11b0
                      try clear c17
                      try clear c17b0
                      try clear c18
                      try clear hcz12_0
                      try clear hcz12_1
                      try clear hcz14_0
                      try clear hcz14_1
                      try clear hcz16_0
                      try clear hcz16_1
                      try clear hfz12_0
                      try clear hfz12_1
                      try clear hfz14_0
                      try clear hfz14_1
                      try clear hfz16_0
                      try clear hfz16_1
                      try clear p2
                      try clear p6
                      obtain ⟨x6_4, x7_4, x8_4, rfl, rfl, rfl, HA, HK4, HO_3, BK182, HB⟩ := hrel
                      cases gk with
                      | zero => exact absurd HA.out (by simp [spec_l01Components.l3])
                      | succ k4 =>
                        have H := HA.out
                        clear HA
                        simp only [spec_l01Components.l3] at H
                        by_cases c19 : x8_4 < (l0_1.length : Int)
                        · rw [if_pos c19] at H
                          have c19b0 : decide (x8_4 < (l0_1.length : Int)) = true := decide_eq_true c19
                          clear c19
                          by_cases c20 : 0 ≤ x8_4
                          · rw [if_pos c20] at H
                            have c20b0 : decide (0 ≤ x8_4) = true := decide_eq_true c20
                            clear c20
                            by_cases c21 : (Go.bits .and .i64 (rd l0_1 x8_4) x6_4) = 0
                            · rw [if_pos c21] at H
                              have c21b0 : ((Go.bits .and .i64 (rd l0_1 x8_4) x6_4) == 0) = true := beq_iff_eq.mpr c21
                              have c21b1 : ((Go.bits .and .i64 (rd l0_1 x8_4) x6_4) != 0) = false := bne_eq_false_iff_eq.mpr c21
                              clear c21
                              have H' := Aside0.mk H
                              clear H
                              have hcz22_0 : wr.cell? ⟨gb182, 0, none⟩ = some (.int .i64 a0_0) := (blk_cell BK182.out 0).trans rfl
                              have hcz22_1 : wr.cell? ⟨gb182, 1, none⟩ = some (.slice A0_1 l0_1.length c0_1) := (blk_cell BK182.out 1).trans rfl
                              have hfz22_0 := blk_frozen BK182.out 0
                              have hfz22_1 := blk_frozen BK182.out 1
                              have p190 : 0 ≤ (x8_4 : Int) := of_decide_eq_true (by first | (with_reducible assumption) | assumption)
                              have q190 : x8_4 < (l0_1.length : Int) := of_decide_eq_true (by first | (with_reducible assumption) | assumption)
                              obtain ⟨ad190, e190, hx190_0⟩ := Kd.at_int HR0_1.out x8_4 p190 q190
                              cases e190
                              replace hx190_0 := (HB.out.cell (World.block_lt_of_cell? w _ hx190_0)).trans hx190_0
                              replace p190 := eq_true p190
                              replace q190 := eq_true q190
                              go_wp2
                              repeat (go_quiet (fail); try go_wp2)
                              go_roundg k4
                              case measure => have := HK1.out; have := HK2.out; have := HK3.out; have := HK4.out; omega
                              case rel => exact ⟨(x6_4), (x7_4), (wrap64 (x8_4 + 1)), (by first | rfl | (simp; done) | (simp [*]; done)), (by first | rfl | (simp; done) | (simp [*]; done)), (by first | rfl | (simp; done) | (simp [*]; done)), H', ⟨by have := HK1.out; have := HK2.out; have := HK3.out; have := HK4.out; omega⟩, ⟨by (with_reducible repeat (first | apply Kd.R_alloc | apply Kd.R_drewN | apply Kd.R_drew)); exact HO_3.out⟩, ⟨by (with_reducible repeat (first | refine blk_drewN ?_ _ | refine blk_drew ?_ | refine blk_alloc ?_ _)); exact BK182.out⟩, ⟨by repeat (first | (with_reducible first | exact HB.out | apply below_alloc | apply pw_below_drewN | apply below_drew1 | refine below_set ?_ GE182.out) | exact HB.out)⟩⟩
                            · rw [if_neg c21] at H
                              have c21b0 : ((Go.bits .and .i64 (rd l0_1 x8_4) x6_4) == 0) = false := beq_eq_false_iff_ne.mpr c21
                              have c21b1 : ((Go.bits .and .i64 (rd l0_1 x8_4) x6_4) != 0) = true := bne_iff_ne.mpr c21
                              by_cases c23 : (Go.bits .and .i64 (rd l0_1 x8_4) x6_4) = (rd l0_1 x8_4)
                              · rw [if_pos c23] at H
                                have c23b0 : ((Go.bits .and .i64 (rd l0_1 x8_4) x6_4) == (rd l0_1 x8_4)) = true := beq_iff_eq.mpr c23
                                have c23b1 : ((Go.bits .and .i64 (rd l0_1 x8_4) x6_4) != (rd l0_1 x8_4)) = false := bne_eq_false_iff_eq.mpr c23
                                clear c23
                                have H' := Aside0.mk H
                                clear H
                                have hcz24_0 : wr.cell? ⟨gb182, 0, none⟩ = some (.int .i64 a0_0) := (blk_cell BK182.out 0).trans rfl
                                have hcz24_1 : wr.cell? ⟨gb182, 1, none⟩ = some (.slice A0_1 l0_1.length c0_1) := (blk_cell BK182.out 1).trans rfl
                                have hfz24_0 := blk_frozen BK182.out 0
                                have hfz24_1 := blk_frozen BK182.out 1
                                have p190 : 0 ≤ (x8_4 : Int) := of_decide_eq_true (by first | (with_reducible assumption) | assumption)
                                have q190 : x8_4 < (l0_1.length : Int) := of_decide_eq_true (by first | (with_reducible assumption) | assumption)
                                obtain ⟨ad190, e190, hx190_0⟩ := Kd.at_int HR0_1.out x8_4 p190 q190
                                cases e190
                                replace hx190_0 := (HB.out.cell (World.block_lt_of_cell? w _ hx190_0)).trans hx190_0
                                replace p190 := eq_true p190
                                replace q190 := eq_true q190
                                have p191 : 0 ≤ (x8_4 : Int) := of_decide_eq_true (by first | (with_reducible assumption) | assumption)
                                have q191 : x8_4 < (l0_1.length : Int) := of_decide_eq_true (by first | (with_reducible assumption) | assumption)
                                obtain ⟨ad191, e191, hx191_0⟩ := Kd.at_int HR0_1.out x8_4 p191 q191
                                obtain rfl : ad190 = ad191 := (by injection e191)
                                replace hx191_0 := (HB.out.cell (World.block_lt_of_cell? w _ hx191_0)).trans hx191_0
                                replace p191 := eq_true p191
                                replace q191 := eq_true q191
                                have p192 : 0 ≤ (x8_4 : Int) := of_decide_eq_true (by first | (with_reducible assumption) | assumption)
                                have q192 : x8_4 < (l0_1.length : Int) := of_decide_eq_true (by first | (with_reducible assumption) | assumption)
                                obtain ⟨ad192, e192, hx192_0⟩ := Kd.at_int HR0_1.out x8_4 p192 q192
                                obtain rfl : ad190 = ad192 := (by injection e192)
                                replace hx192_0 := (HB.out.cell (World.block_lt_of_cell? w _ hx192_0)).trans hx192_0
                                replace p192 := eq_true p192
                                replace q192 := eq_true q192
                                go_wp2
                                repeat (go_quiet (fail); try go_wp2)
                                go_roundg k4
                                case measure => have := HK1.out; have := HK2.out; have := HK3.out; have := HK4.out; omega
                                case rel => exact ⟨(x6_4), (x7_4), (wrap64 (x8_4 + 1)), (by first | rfl | (simp; done) | (simp [*]; done)), (by first | rfl | (simp; done) | (simp [*]; done)), (by first | rfl | (simp; done) | (simp [*]; done)), H', ⟨by have := HK1.out; have := HK2.out; have := HK3.out; have := HK4.out; omega⟩, ⟨by (with_reducible repeat (first | apply Kd.R_alloc | apply Kd.R_drewN | apply Kd.R_drew)); exact HO_3.out⟩, ⟨by (with_reducible repeat (first | refine blk_drewN ?_ _ | refine blk_drew ?_ | refine blk_alloc ?_ _)); exact BK182.out⟩, ⟨by repeat (first | (with_reducible first | exact HB.out | apply below_alloc | apply pw_below_drewN | apply below_drew1 | refine below_set ?_ GE182.out) | exact HB.out)⟩⟩
                              · rw [if_neg c23] at H
                                have c23b0 : ((Go.bits .and .i64 (rd l0_1 x8_4) x6_4) == (rd l0_1 x8_4)) = false := beq_eq_false_iff_ne.mpr c23
                                have c23b1 : ((Go.bits .and .i64 (rd l0_1 x8_4) x6_4) != (rd l0_1 x8_4)) = true := bne_iff_ne.mpr c23
                                have H' := Aside0.mk H
                                clear H
                                have hcz25_0 : wr.cell? ⟨gb182, 0, none⟩ = some (.int .i64 a0_0) := (blk_cell BK182.out 0).trans rfl
                                have hcz25_1 : wr.cell? ⟨gb182, 1, none⟩ = some (.slice A0_1 l0_1.length c0_1) := (blk_cell BK182.out 1).trans rfl
                                have hfz25_0 := blk_frozen BK182.out 0
                                have hfz25_1 := blk_frozen BK182.out 1
                                have p190 : 0 ≤ (x8_4 : Int) := of_decide_eq_true (by first | (with_reducible assumption) | assumption)
                                have q190 : x8_4 < (l0_1.length : Int) := of_decide_eq_true (by first | (with_reducible assumption) | assumption)
                                obtain ⟨ad190, e190, hx190_0⟩ := Kd.at_int HR0_1.out x8_4 p190 q190
                                cases e190
                                replace hx190_0 := (HB.out.cell (World.block_lt_of_cell? w _ hx190_0)).trans hx190_0
                                replace p190 := eq_true p190
                                replace q190 := eq_true q190
                                have p191 : 0 ≤ (x8_4 : Int) := of_decide_eq_true (by first | (with_reducible assumption) | assumption)
                                have q191 : x8_4 < (l0_1.length : Int) := of_decide_eq_true (by first | (with_reducible assumption) | assumption)
                                obtain ⟨ad191, e191, hx191_0⟩ := Kd.at_int HR0_1.out x8_4 p191 q191
                                obtain rfl : ad190 = ad191 := (by injection e191)
                                replace hx191_0 := (HB.out.cell (World.block_lt_of_cell? w _ hx191_0)).trans hx191_0
                                replace p191 := eq_true p191
                                replace q191 := eq_true q191
                                have p192 : 0 ≤ (x8_4 : Int) := of_decide_eq_true (by first | (with_reducible assumption) | assumption)
                                have q192 : x8_4 < (l0_1.length : Int) := of_decide_eq_true (by first | (with_reducible assumption) | assumption)
                                obtain ⟨ad192, e192, hx192_0⟩ := Kd.at_int HR0_1.out x8_4 p192 q192
                                obtain rfl : ad190 = ad192 := (by injection e192)
                                replace hx192_0 := (HB.out.cell (World.block_lt_of_cell? w _ hx192_0)).trans hx192_0
                                replace p192 := eq_true p192
                                replace q192 := eq_true q192
                                have p193 : 0 ≤ (x8_4 : Int) := of_decide_eq_true (by first | (with_reducible assumption) | assumption)
                                have q193 : x8_4 < (l0_1.length : Int) := of_decide_eq_true (by first | (with_reducible assumption) | assumption)
                                obtain ⟨ad193, e193, hx193_0⟩ := Kd.at_int HR0_1.out x8_4 p193 q193
                                obtain rfl : ad190 = ad193 := (by injection e193)
                                replace hx193_0 := (HB.out.cell (World.block_lt_of_cell? w _ hx193_0)).trans hx193_0
                                replace p193 := eq_true p193
                                replace q193 := eq_true q193
                                go_wp2
                                repeat (go_quiet (fail); try go_wp2)
                                go_roundg k4
                                case measure => have := HK1.out; have := HK2.out; have := HK3.out; have := HK4.out; omega
                                case rel => exact ⟨(Go.bits .or .i64 x6_4 (rd l0_1 x8_4)), (true), (wrap64 (x8_4 + 1)), (by first | rfl | (simp; done) | (simp [*]; done)), (by first | rfl | (simp; done) | (simp [*]; done)), (by first | rfl | (simp; done) | (simp [*]; done)), H', ⟨by have := HK1.out; have := HK2.out; have := HK3.out; have := HK4.out; omega⟩, ⟨by (with_reducible repeat (first | apply Kd.R_alloc | apply Kd.R_drewN | apply Kd.R_drew)); exact HO_3.out⟩, ⟨by (with_reducible repeat (first | refine blk_drewN ?_ _ | refine blk_drew ?_ | refine blk_alloc ?_ _)); exact BK182.out⟩, ⟨by repeat (first | (with_reducible first | exact HB.out | apply below_alloc | apply pw_below_drewN | apply below_drew1 | refine below_set ?_ GE182.out) | exact HB.out)⟩⟩
                          · rw [if_neg c20] at H
                            exact absurd H (by simp)
                        · rw [if_neg c19] at H
                          have c19b0 : decide (x8_4 < (l0_1.length : Int)) = false := decide_eq_false c19
                          clear c19
                          have H' := Aside0.mk H
                          clear H
                          have hcz26_0 : wr.cell? ⟨gb182, 0, none⟩ = some (.int .i64 a0_0) := (blk_cell BK182.out 0).trans rfl
                          have hcz26_1 : wr.cell? ⟨gb182, 1, none⟩ = some (.slice A0_1 l0_1.length c0_1) := (blk_cell BK182.out 1).trans rfl
                          have hfz26_0 := blk_frozen BK182.out 0
                          have hfz26_1 := blk_frozen BK182.out 1
                          go_wp2
                          repeat (go_quiet (fail); try go_wp2)
                          go_roundg k4
                          case measure => have := HK1.out; have := HK2.out; have := HK3.out; have := HK4.out; omega
                          case rel => exact ⟨(x6_4), (x7_4), (by first | rfl | (simp; done) | (simp [*]; done)), (by first | rfl | (simp; done) | (simp [*]; done)), H', ⟨by have := HK1.out; have := HK2.out; have := HK3.out; have := HK4.out; omega⟩, ⟨by (with_reducible repeat (first | apply Kd.R_alloc | apply Kd.R_drewN | apply Kd.R_drew)); exact HO_3.out⟩, ⟨by (with_reducible repeat (first | refine blk_drewN ?_ _ | refine blk_drew ?_ | refine blk_alloc ?_ _)); exact BK182.out⟩, ⟨by repeat (first | (with_reducible first | exact HB.out | apply below_alloc | apply pw_below_drewN | apply below_drew1 | refine below_set ?_ GE182.out) | exact HB.out)⟩⟩
                  · replace c18 := Bool.eq_false_iff.mpr c18
                    subst c18
                    have H1 : (if x3_2.length < 17592186044416 then (spec_l01Components.l1 k3 (x3_2 ++ [x6_3]) (wrap64 (x4_2 - (Go.bits .and .i64 x4_2 x6_3))) a0_0 l0_1) else (none)) = some r := by rw [if_neg (show ¬ (false = true) by decide)] at H; exact H
                    clear H
                    have H := H1
                    clear H1
                    by_cases c27 : x3_2.length < 17592186044416
                    · rw [if_pos c27] at H
                      have LMc27 := Aside0.mk c27
                      clear c27
                      obtain ⟨y187, hy187⟩ : ∃ y_ : List Int, y_ = (x3_2 ++ [x6_3]) := ⟨_, rfl⟩
                      replace H : (spec_l01Components.l1 k3 y187 (wrap64 (x4_2 - (Go.bits .and .i64 x4_2 x6_3))) a0_0 l0_1) = some r := by first | (rw [hy187]; with_reducible exact H) | (have H2_ := (Option.bind_some _ _).symm.trans H; rw [hy187]; with_reducible exact H2_) | (have H2_ := (Option.bind_some _ _).symm.trans H; with_reducible exact H2_) | with_reducible exact H | (rw [hy187]; exact H) | exact H
                      have Ny187 := Aside0.mk hy187
                      clear hy187
                      have H' := Aside0.mk H
                      clear H
                      go_wp2_with (first | ((with_reducible refine gate_builtin (b := .append) (xs := #[.tmp 72, .tmp 74]) rfl ?_); at_builtin; refine Kd.R_append (Kd.int .i64) (w0 := w) w.heap.size rfl (.tmp 72) (.tmp 74) 22 2 (.int .i64 0) 8 rfl Try.underlying22 info2 rfl (by decide) (by omega) u3 x3_2 x6_3 [.int .i64 x6_3] (fun _ => True) (fun _ => False) rfl rfl ?aP (fun _ hk => hk.elim) ?aF ?aO ?aB ?aS ?aL ?_; (case aP => exact rfl); (case aB => exact (by repeat (first | (with_reducible first | exact HB.out | apply below_alloc | apply pw_below_drewN | apply below_drew1 | refine below_set ?_ GE182.out) | exact HB.out))); (case aF => exact (fun _ _ => trivial)); (case aO => exact (by (with_reducible repeat (first | apply Kd.R_alloc | apply Kd.R_drewN | apply Kd.R_drew)); exact HO_3.out)); (case aS => exact (below_size (by repeat (first | (with_reducible first | exact HB.out | apply below_alloc | apply pw_below_drewN | apply below_drew1 | refine below_set ?_ GE182.out) | exact HB.out)))); (case aL => have := LMc27.out; omega); intro v188 w28 ho hb hg hat; rw [← Ny187.out] at ho; have n0_ := Aside0.mk (blk_grown (g := gb182) (o := .cells #[.int .i64 a0_0, .slice A0_1 l0_1.length c0_1] 28 (0, 0)) (by (with_reducible repeat (first | refine blk_drewN ?_ _ | refine blk_drew ?_ | refine blk_alloc ?_ _)); exact BK182.out) hg (Kd.R_ne HO_3.out BK182.out (by decide))); have n1_ := Aside0.mk (hb); have n2_ := Aside0.mk (ho); clear BK182; clear HB; clear HO_3; have BK182 := n0_; have HB := n1_; have HO189 := n2_; clear n0_ n1_ n2_; clear ho hb hg hat))
                      repeat (go_quiet (first | ((with_reducible refine gate_builtin (b := .append) (xs := #[.tmp 72, .tmp 74]) rfl ?_); at_builtin; refine Kd.R_append (Kd.int .i64) (w0 := w) w.heap.size rfl (.tmp 72) (.tmp 74) 22 2 (.int .i64 0) 8 rfl Try.underlying22 info2 rfl (by decide) (by omega) u3 x3_2 x6_3 [.int .i64 x6_3] (fun _ => True) (fun _ => False) rfl rfl ?aP (fun _ hk => hk.elim) ?aF ?aO ?aB ?aS ?aL ?_; (case aP => exact rfl); (case aB => exact (by repeat (first | (with_reducible first | exact HB.out | apply below_alloc | apply pw_below_drewN | apply below_drew1 | refine below_set ?_ GE182.out) | exact HB.out))); (case aF => exact (fun _ _ => trivial)); (case aO => exact (by (with_reducible repeat (first | apply Kd.R_alloc | apply Kd.R_drewN | apply Kd.R_drew)); exact HO_3.out)); (case aS => exact (below_size (by repeat (first | (with_reducible first | exact HB.out | apply below_alloc | apply pw_below_drewN | apply below_drew1 | refine below_set ?_ GE182.out) | exact HB.out)))); (case aL => have := LMc27.out; omega); intro v188 w28 ho hb hg hat; rw [← Ny187.out] at ho; have n0_ := Aside0.mk (blk_grown (g := gb182) (o := .cells #[.int .i64 a0_0, .slice A0_1 l0_1.length c0_1] 28 (0, 0)) (by (with_reducible repeat (first | refine blk_drewN ?_ _ | refine blk_drew ?_ | refine blk_alloc ?_ _)); exact BK182.out) hg (Kd.R_ne HO_3.out BK182.out (by decide))); have n1_ := Aside0.mk (hb); have n2_ := Aside0.mk (ho); clear BK182; clear HB; clear HO_3; have BK182 := n0_; have HB := n1_; have HO189 := n2_; clear n0_ n1_ n2_; clear ho hb hg hat)); try go_wp2_with (first | ((with_reducible refine gate_builtin (b := .append) (xs := #[.tmp 72, .tmp 74]) rfl ?_); at_builtin; refine Kd.R_append (Kd.int .i64) (w0 := w) w.heap.size rfl (.tmp 72) (.tmp 74) 22 2 (.int .i64 0) 8 rfl Try.underlying22 info2 rfl (by decide) (by omega) u3 x3_2 x6_3 [.int .i64 x6_3] (fun _ => True) (fun _ => False) rfl rfl ?aP (fun _ hk => hk.elim) ?aF ?aO ?aB ?aS ?aL ?_; (case aP => exact rfl); (case aB => exact (by repeat (first | (with_reducible first | exact HB.out | apply below_alloc | apply pw_below_drewN | apply below_drew1 | refine below_set ?_ GE182.out) | exact HB.out))); (case aF => exact (fun _ _ => trivial)); (case aO => exact (by (with_reducible repeat (first | apply Kd.R_alloc | apply Kd.R_drewN | apply Kd.R_drew)); exact HO_3.out)); (case aS => exact (below_size (by repeat (first | (with_reducible first | exact HB.out | apply below_alloc | apply pw_below_drewN | apply below_drew1 | refine below_set ?_ GE182.out) | exact HB.out)))); (case aL => have := LMc27.out; omega); intro v188 w28 ho hb hg hat; rw [← Ny187.out] at ho; have n0_ := Aside0.mk (blk_grown (g := gb182) (o := .cells #[.int .i64 a0_0, .slice A0_1 l0_1.length c0_1] 28 (0, 0)) (by (with_reducible repeat (first | refine blk_drewN ?_ _ | refine blk_drew ?_ | refine blk_alloc ?_ _)); exact BK182.out) hg (Kd.R_ne HO_3.out BK182.out (by decide))); have n1_ := Aside0.mk (hb); have n2_ := Aside0.mk (ho); clear BK182; clear HB; clear HO_3; have BK182 := n0_; have HB := n1_; have HO189 := n2_; clear n0_ n1_ n2_; clear ho hb hg hat)))
                      go_roundg k3
                      case measure => have := HK1.out; have := HK2.out; have := HK3.out; omega
                      case rel => exact ⟨(y187), (wrap64 (x4_2 - (Go.bits .and .i64 x4_2 x6_3))), (by first | rfl | (simp; done) | (simp [*]; done)), H', ⟨by have := HK1.out; have := HK2.out; have := HK3.out; omega⟩, ⟨by (with_reducible repeat (first | apply Kd.R_alloc | apply Kd.R_drewN | apply Kd.R_drew)); exact HO189.out⟩, ⟨by (with_reducible repeat (first | refine blk_drewN ?_ _ | refine blk_drew ?_ | refine blk_alloc ?_ _)); exact BK182.out⟩, ⟨by repeat (first | (with_reducible first | exact HB.out | apply below_alloc | apply pw_below_drewN | apply below_drew1 | refine below_set ?_ GE182.out) | exact HB.out)⟩⟩
                    · rw [if_neg c27] at H
                      exact absurd H (by simp)
            · rw [if_neg c17] at H
              have c17b0 : decide (0 < x4_2) = false := decide_eq_false c17
              clear c17
              obtain rfl := Option.some.inj H
              go_wp2
              repeat (go_quiet (fail); try go_wp2)
              go_ret
              exact ⟨_, by first | rfl | (simp [errW_none, errW_some] <;> rfl) | (simp [*, errW_none, errW_some] <;> rfl), by (with_reducible repeat (first | apply Kd.R_alloc | apply Kd.R_drewN | apply Kd.R_drew)); exact HO_3.out, by repeat (first | (with_reducible first | exact HB.out | apply below_alloc | apply pw_below_drewN | apply below_drew1 | refine below_set ?_ GE182.out) | exact HB.out)⟩

end Go.Proofs.Ythganpmmhfoodaa.Q
end

section
/- Written by a program of this session (myprint.py over the kit's print). -/
namespace Go.Proofs.Ythganpmmhfoodaa.Q
open Go.RowKit Go.Proofs.YthganpmmhfoodaaW.PrintWords Go.Proofs.YthganpmmhfoodaaW.PrintLast Go.Proofs.YthganpmmhfoodaaW.PrintMore
attribute [local go_sem] max2_int min2_int max_two min_two max_three min_three max_four min_four   -- for this text's walks alone
set_option linter.unusedVariables false
set_option linter.unusedSimpArgs false

/-! ### spec_ComponentsOf: function 30 -/
def spec_ComponentsOf.f (k : Nat) (a0_0 : Int) (l0_1 : List Int) : Option (List Int × Int) := (spec_l01Is.f k a0_0 l0_1).bind fun t195 => (if t195 = true then ((spec_l01Components.f k a0_0 l0_1).bind fun t196 => (some (t196, 0))) else (some (([] : List Int), 1)))
theorem spec_ComponentsOf.mono : ∀ a0 a1 k, LeO (spec_ComponentsOf.f k a0 a1) (spec_ComponentsOf.f (k + 1) a0 a1) := by
  intro a0 a1 k
  unfold spec_ComponentsOf.f
  repeat' first
      | (with_reducible exact spec_l01Components.mono _ _ _)
      | (with_reducible exact spec_l01Is.mono _ _ _)
      | (with_reducible exact LeO.refl _)
      | (with_reducible exact LeO.none _)
      | (with_reducible refine LeO.ite ?_ ?_)
      | (with_reducible refine LeO.bind ?_ (fun _ => ?_))
      | exact spec_l01Components.mono _ _ _
      | exact spec_l01Is.mono _ _ _
      | exact LeO.none _
      | refine LeO.ite ?_ ?_
      | refine LeO.bind ?_ (fun _ => ?_)
set_option maxHeartbeats 8000000 in
set_option maxRecDepth 100000 in
theorem spec_ComponentsOf.calls (k : Nat) (a0_0 : Int) (A0_1 : Option Addr) (c0_1 : Nat) (l0_1 : List Int) (r1 : List Int) (r2 : Int) (w : World) (hr0_1 : Kd.C (Kd.int .i64) w A0_1 l0_1.length l0_1) (hc0_1 : l0_1.length ≤ c0_1) (h : spec_ComponentsOf.f k a0_0 l0_1 = some (r1, r2)) :
    Calls Try.prog 30 #[.agg #[.int .i64 a0_0, .slice A0_1 l0_1.length c0_1]] w fun e w' => ∃ v0_ : Value, e = .returned (.tuple #[v0_, .int .i64 r2]) ∧ Kd.R (Kd.int .i64) 2 w' w.heap.size (fun _ => True) v0_ r1 ∧ Below w.heap.size w w' := by
  have hu28 := Try.underlying28
  have HR0_1 := Aside0.mk hr0_1
  have HC0_1 := Aside0.mk hc0_1
  clear hr0_1 hc0_1
  have HB := Aside0.mk (Below.refl w.heap.size w)
  have H : ((spec_l01Is.f k a0_0 l0_1).bind fun t195 => (if t195 = true then ((spec_l01Components.f k a0_0 l0_1).bind fun t196 => (some (t196, 0))) else (some (([] : List Int), 1)))) = some (r1, r2) := h
  clear h
  replace H := Option.bind_eq_some_iff.mp H
  obtain ⟨t195, A20, H⟩ := H
  replace H : (if t195 = true then ((spec_l01Components.f k a0_0 l0_1).bind fun t196 => (some (t196, 0))) else (some (([] : List Int), 1))) = some (r1, r2) := H
  have A2 := Aside0.mk A20
  clear A20
  by_cases c3 : t195 = true
  · subst c3
    have H1 : ((spec_l01Components.f k a0_0 l0_1).bind fun t196 => (some (t196, 0))) = some (r1, r2) := by rw [if_pos rfl] at H; exact H
    clear H
    have H := H1
    clear H1
    replace H := Option.bind_eq_some_iff.mp H
    obtain ⟨t196, A40, H⟩ := H
    replace H : (some (t196, 0)) = some (r1, r2) := H
    have A4 := Aside0.mk A40
    clear A40
    simp only [Option.some.injEq, Prod.mk.injEq] at H
    obtain ⟨rfl, rfl⟩ := H
    go_enter Try.func30, Try.ntmps30
    go_wp2_with (first | ((with_reducible refine gate_dst (N := 1) rfl ?_); refine box_event ?hg (N := 1) ?hd (cs := #[.int .i64 a0_0, .slice A0_1 l0_1.length c0_1]) (t := 28) ?hr ?_; (case hd => rfl); (case hg => rfl); (case hr => first | (go_simp; done) | (go_simp; rfl)); intro gb194 hg w5 hbox hb; have n0_ := Aside0.mk (below_step (by repeat (first | (with_reducible first | exact HB.out | apply below_alloc | apply pw_below_drewN | apply below_drew1) | exact HB.out)) hb); have n1_ := Aside0.mk (hbox); have n2_ := Aside0.mk ((by rw [hg]; exact (below_size (by repeat (first | (with_reducible first | exact HB.out | apply below_alloc | apply pw_below_drewN | apply below_drew1) | exact HB.out))) : w.heap.size ≤ gb194)); have n3_ := Aside0.mk ((by rw [hg]; exact (below_size (by repeat (first | (with_reducible first | exact HB.out | apply below_alloc | apply pw_below_drewN | apply below_drew1) | exact HB.out))) : w.heap.size ≤ gb194)); clear HB; have HB := n0_; have BK194 := n1_; have GW194 := n2_; have GE194 := n3_; clear n0_ n1_ n2_ n3_; clear hb hbox hg; have hcz6_0 : w5.cell? ⟨gb194, 0, none⟩ = some (.int .i64 a0_0) := (blk_cell BK194.out 0).trans rfl; have hcz6_1 : w5.cell? ⟨gb194, 1, none⟩ = some (.slice A0_1 l0_1.length c0_1) := (blk_cell BK194.out 1).trans rfl; have hfz6_0 := blk_frozen BK194.out 0; have hfz6_1 := blk_frozen BK194.out 1) | ((with_reducible refine gate_callee (f := 52) rfl ?_); refine goesL_ (some 5) rfl rfl Try.func52 (by kernel_rfl) rfl #[.agg #[.int .i64 a0_0, .slice A0_1 l0_1.length c0_1]] rfl (by (try simp only [List.map_toArray, List.map_cons, List.map_nil]); first | done | rfl | (simp only [List.length_drop, List.length_take]; rfl)) ?_; (with_reducible refine (spec_l01Is.calls k a0_0 _ _ l0_1 true _ ?side1 ?side2 A2.out).mono ?_); (case side1 => repeat (first | exact (Kd.C_below HR0_1.out HB.out) | (with_reducible refine Kd.C_alloc ?_ _) | (with_reducible refine Kd.C_drewN ?_ _) | (with_reducible refine Kd.C_drew ?_))); (case side2 => exact HC0_1.out); rintro e w7 ⟨rfl, hb⟩; refine ⟨_, rfl, ?_⟩; have n0_ := Aside0.mk (blk_below (g := gb194) (o := .cells #[.int .i64 a0_0, .slice A0_1 l0_1.length c0_1] 28 (0, 0)) (by (with_reducible repeat (first | refine blk_drewN ?_ _ | refine blk_drew ?_ | refine blk_alloc ?_ _)); exact BK194.out) hb); have n1_ := Aside0.mk (below_step (by repeat (first | (with_reducible first | exact HB.out | apply below_alloc | apply pw_below_drewN | apply below_drew1 | refine below_set ?_ GE194.out) | exact HB.out)) hb); clear BK194; clear HB; have BK194 := n0_; have HB := n1_; clear n0_ n1_; (try clear hb); (try clear hb2); (try clear hk); (try clear hi); have hcz8_0 : w7.cell? ⟨gb194, 0, none⟩ = some (.int .i64 a0_0) := (blk_cell BK194.out 0).trans rfl; have hcz8_1 : w7.cell? ⟨gb194, 1, none⟩ = some (.slice A0_1 l0_1.length c0_1) := (blk_cell BK194.out 1).trans rfl; have hfz8_0 := blk_frozen BK194.out 0; have hfz8_1 := blk_frozen BK194.out 1) | ((with_reducible refine gate_callee (f := 67) rfl ?_); refine goesL_ (some 8) rfl rfl Try.func67 (by kernel_rfl) rfl #[.agg #[.int .i64 a0_0, .slice A0_1 l0_1.length c0_1]] rfl (by (try simp only [List.map_toArray, List.map_cons, List.map_nil]); first | done | rfl | (simp only [List.length_drop, List.length_take]; rfl)) ?_; (with_reducible refine (spec_l01Components.calls k a0_0 _ _ l0_1 t196 _ ?side1 ?side2 A4.out).mono ?_); (case side1 => repeat (first | exact (Kd.C_below HR0_1.out HB.out) | (with_reducible refine Kd.C_alloc ?_ _) | (with_reducible refine Kd.C_drewN ?_ _) | (with_reducible refine Kd.C_drew ?_))); (case side2 => exact HC0_1.out); rintro e w9 ⟨v197, rfl, ho0, hb⟩; refine ⟨_, rfl, ?_⟩; have n0_ := Aside0.mk (Kd.R_lower ho0 (below_size (by repeat (first | (with_reducible first | exact HB.out | apply below_alloc | apply pw_below_drewN | apply below_drew1 | refine below_set ?_ GE194.out) | exact HB.out)))); have n1_ := Aside0.mk (blk_below (g := gb194) (o := .cells #[.int .i64 a0_0, .slice A0_1 l0_1.length c0_1] 28 (0, 0)) (by (with_reducible repeat (first | refine blk_drewN ?_ _ | refine blk_drew ?_ | refine blk_alloc ?_ _)); exact BK194.out) hb); have n2_ := Aside0.mk (below_step (by repeat (first | (with_reducible first | exact HB.out | apply below_alloc | apply pw_below_drewN | apply below_drew1 | refine below_set ?_ GE194.out) | exact HB.out)) hb); clear BK194; clear HB; have HO198 := n0_; have BK194 := n1_; have HB := n2_; clear n0_ n1_ n2_; (try clear hb); (try clear hb2); (try clear hk); (try clear hi); (try clear ho0)))
    go_ret2
    exact ⟨_, by first | rfl | (simp [errW_none, errW_some] <;> rfl) | (simp [*, errW_none, errW_some] <;> rfl), by (with_reducible repeat (first | apply Kd.R_alloc | apply Kd.R_drewN | apply Kd.R_drew)); exact HO198.out, by repeat (first | (with_reducible first | exact HB.out | apply below_alloc | apply pw_below_drewN | apply below_drew1 | refine below_set ?_ GE194.out) | exact HB.out)⟩
  · replace c3 := Bool.eq_false_iff.mpr c3
    subst c3
    have H1 : (some (([] : List Int), 1)) = some (r1, r2) := by rw [if_neg (show ¬ (false = true) by decide)] at H; exact H
    clear H
    have H := H1
    clear H1
    simp only [Option.some.injEq, Prod.mk.injEq] at H
    obtain ⟨rfl, rfl⟩ := H
    go_enter Try.func30, Try.ntmps30
    go_wp2_with (first | ((with_reducible refine gate_dst (N := 1) rfl ?_); refine box_event ?hg (N := 1) ?hd (cs := #[.int .i64 a0_0, .slice A0_1 l0_1.length c0_1]) (t := 28) ?hr ?_; (case hd => rfl); (case hg => rfl); (case hr => first | (go_simp; done) | (go_simp; rfl)); intro gb194 hg w10 hbox hb; have n0_ := Aside0.mk (below_step (by repeat (first | (with_reducible first | exact HB.out | apply below_alloc | apply pw_below_drewN | apply below_drew1) | exact HB.out)) hb); have n1_ := Aside0.mk (hbox); have n2_ := Aside0.mk ((by rw [hg]; exact (below_size (by repeat (first | (with_reducible first | exact HB.out | apply below_alloc | apply pw_below_drewN | apply below_drew1) | exact HB.out))) : w.heap.size ≤ gb194)); have n3_ := Aside0.mk ((by rw [hg]; exact (below_size (by repeat (first | (with_reducible first | exact HB.out | apply below_alloc | apply pw_below_drewN | apply below_drew1) | exact HB.out))) : w.heap.size ≤ gb194)); clear HB; have HB := n0_; have BK194 := n1_; have GW194 := n2_; have GE194 := n3_; clear n0_ n1_ n2_ n3_; clear hb hbox hg; have hcz11_0 : w10.cell? ⟨gb194, 0, none⟩ = some (.int .i64 a0_0) := (blk_cell BK194.out 0).trans rfl; have hcz11_1 : w10.cell? ⟨gb194, 1, none⟩ = some (.slice A0_1 l0_1.length c0_1) := (blk_cell BK194.out 1).trans rfl; have hfz11_0 := blk_frozen BK194.out 0; have hfz11_1 := blk_frozen BK194.out 1) | ((with_reducible refine gate_callee (f := 52) rfl ?_); refine goesL_ (some 5) rfl rfl Try.func52 (by kernel_rfl) rfl #[.agg #[.int .i64 a0_0, .slice A0_1 l0_1.length c0_1]] rfl (by (try simp only [List.map_toArray, List.map_cons, List.map_nil]); first | done | rfl | (simp only [List.length_drop, List.length_take]; rfl)) ?_; (with_reducible refine (spec_l01Is.calls k a0_0 _ _ l0_1 false _ ?side1 ?side2 A2.out).mono ?_); (case side1 => repeat (first | exact (Kd.C_below HR0_1.out HB.out) | (with_reducible refine Kd.C_alloc ?_ _) | (with_reducible refine Kd.C_drewN ?_ _) | (with_reducible refine Kd.C_drew ?_))); (case side2 => exact HC0_1.out); rintro e w12 ⟨rfl, hb⟩; refine ⟨_, rfl, ?_⟩; have n0_ := Aside0.mk (blk_below (g := gb194) (o := .cells #[.int .i64 a0_0, .slice A0_1 l0_1.length c0_1] 28 (0, 0)) (by (with_reducible repeat (first | refine blk_drewN ?_ _ | refine blk_drew ?_ | refine blk_alloc ?_ _)); exact BK194.out) hb); have n1_ := Aside0.mk (below_step (by repeat (first | (with_reducible first | exact HB.out | apply below_alloc | apply pw_below_drewN | apply below_drew1 | refine below_set ?_ GE194.out) | exact HB.out)) hb); clear BK194; clear HB; have BK194 := n0_; have HB := n1_; clear n0_ n1_; (try clear hb); (try clear hb2); (try clear hk); (try clear hi)))
    go_ret2
    exact ⟨_, by first | rfl | (simp [errW_none, errW_some] <;> rfl) | (simp [*, errW_none, errW_some] <;> rfl), by first | exact Kd.R_nil _ _ _ _ _ | exact Kd.N_nil _ _ _ _ _ | exact Kd.V_nil _ _ _ _ _ | exact Kd.Q_nil _ _ _ _ _ | exact Kd.S_nil _ _ _ _ _, by repeat (first | (with_reducible first | exact HB.out | apply below_alloc | apply pw_below_drewN | apply below_drew1 | refine below_set ?_ GE194.out) | exact HB.out)⟩

/-! ### spec_l03Code: function 69 -/
def spec_l03Code.f (k : Nat) (a0_0 : Int) (l0_1 : List Int) (a1 : Int) : Option (Int) := (spec_l01Is.f k a0_0 l0_1).bind fun t200 => (if t200 = true then (if a1 = 2 then (some 0) else (if a1 = 3 then (some 0) else (some 2))) else (some 1))
theorem spec_l03Code.mono : ∀ a0 a1 a2 k, LeO (spec_l03Code.f k a0 a1 a2) (spec_l03Code.f (k + 1) a0 a1 a2) := by
  intro a0 a1 a2 k
  unfold spec_l03Code.f
  repeat' first
      | (with_reducible exact spec_l01Is.mono _ _ _)
      | (with_reducible exact LeO.refl _)
      | (with_reducible exact LeO.none _)
      | (with_reducible refine LeO.ite ?_ ?_)
      | (with_reducible refine LeO.bind ?_ (fun _ => ?_))
      | exact spec_l01Is.mono _ _ _
      | exact LeO.none _
      | refine LeO.ite ?_ ?_
      | refine LeO.bind ?_ (fun _ => ?_)
set_option maxHeartbeats 8000000 in
set_option maxRecDepth 100000 in
theorem spec_l03Code.calls (k : Nat) (a0_0 : Int) (A0_1 : Option Addr) (c0_1 : Nat) (l0_1 : List Int) (a1 : Int) (r : Int) (w : World) (hr0_1 : Kd.C (Kd.int .i64) w A0_1 l0_1.length l0_1) (hc0_1 : l0_1.length ≤ c0_1) (h : spec_l03Code.f k a0_0 l0_1 a1 = some r) :
    Calls Try.prog 69 #[.agg #[.int .i64 a0_0, .slice A0_1 l0_1.length c0_1], .int .i64 a1] w fun e w' => e = .returned (.int .i64 r) ∧ Below w.heap.size w w' := by
  have hu28 := Try.underlying28
  have HR0_1 := Aside0.mk hr0_1
  have HC0_1 := Aside0.mk hc0_1
  clear hr0_1 hc0_1
  have HB := Aside0.mk (Below.refl w.heap.size w)
  have H : ((spec_l01Is.f k a0_0 l0_1).bind fun t200 => (if t200 = true then (if a1 = 2 then (some 0) else (if a1 = 3 then (some 0) else (some 2))) else (some 1))) = some r := h
  clear h
  replace H := Option.bind_eq_some_iff.mp H
  obtain ⟨t200, A30, H⟩ := H
  replace H : (if t200 = true then (if a1 = 2 then (some 0) else (if a1 = 3 then (some 0) else (some 2))) else (some 1)) = some r := H
  have A3 := Aside0.mk A30
  clear A30
  by_cases c4 : t200 = true
  · subst c4
    have H1 : (if a1 = 2 then (some 0) else (if a1 = 3 then (some 0) else (some 2))) = some r := by rw [if_pos rfl] at H; exact H
    clear H
    have H := H1
    clear H1
    by_cases c5 : a1 = 2
    · rw [if_pos c5] at H
      have c5b0 : (a1 == 2) = true := beq_iff_eq.mpr c5
      have c5b1 : (a1 != 2) = false := bne_eq_false_iff_eq.mpr c5
      clear c5
      obtain rfl := Option.some.inj H
      go_enter Try.func69, Try.ntmps69
      go_wp2_with (first | ((with_reducible refine gate_dst (N := 2) rfl ?_); refine box_event ?hg (N := 2) ?hd (cs := #[.int .i64 a0_0, .slice A0_1 l0_1.length c0_1]) (t := 28) ?hr ?_; (case hd => rfl); (case hg => rfl); (case hr => first | (go_simp; done) | (go_simp; rfl)); intro gb199 hg w6 hbox hb; have n0_ := Aside0.mk (below_step (by repeat (first | (with_reducible first | exact HB.out | apply below_alloc | apply pw_below_drewN | apply below_drew1) | exact HB.out)) hb); have n1_ := Aside0.mk (hbox); have n2_ := Aside0.mk ((by rw [hg]; exact (below_size (by repeat (first | (with_reducible first | exact HB.out | apply below_alloc | apply pw_below_drewN | apply below_drew1) | exact HB.out))) : w.heap.size ≤ gb199)); have n3_ := Aside0.mk ((by rw [hg]; exact (below_size (by repeat (first | (with_reducible first | exact HB.out | apply below_alloc | apply pw_below_drewN | apply below_drew1) | exact HB.out))) : w.heap.size ≤ gb199)); clear HB; have HB := n0_; have BK199 := n1_; have GW199 := n2_; have GE199 := n3_; clear n0_ n1_ n2_ n3_; clear hb hbox hg; have hcz7_0 : w6.cell? ⟨gb199, 0, none⟩ = some (.int .i64 a0_0) := (blk_cell BK199.out 0).trans rfl; have hcz7_1 : w6.cell? ⟨gb199, 1, none⟩ = some (.slice A0_1 l0_1.length c0_1) := (blk_cell BK199.out 1).trans rfl; have hfz7_0 := blk_frozen BK199.out 0; have hfz7_1 := blk_frozen BK199.out 1) | ((with_reducible refine gate_callee (f := 52) rfl ?_); refine goesL_ (some 7) rfl rfl Try.func52 (by kernel_rfl) rfl #[.agg #[.int .i64 a0_0, .slice A0_1 l0_1.length c0_1]] rfl (by (try simp only [List.map_toArray, List.map_cons, List.map_nil]); first | done | rfl | (simp only [List.length_drop, List.length_take]; rfl)) ?_; (with_reducible refine (spec_l01Is.calls k a0_0 _ _ l0_1 true _ ?side1 ?side2 A3.out).mono ?_); (case side1 => repeat (first | exact (Kd.C_below HR0_1.out HB.out) | (with_reducible refine Kd.C_alloc ?_ _) | (with_reducible refine Kd.C_drewN ?_ _) | (with_reducible refine Kd.C_drew ?_))); (case side2 => exact HC0_1.out); rintro e w8 ⟨rfl, hb⟩; refine ⟨_, rfl, ?_⟩; have n0_ := Aside0.mk (blk_below (g := gb199) (o := .cells #[.int .i64 a0_0, .slice A0_1 l0_1.length c0_1] 28 (0, 0)) (by (with_reducible repeat (first | refine blk_drewN ?_ _ | refine blk_drew ?_ | refine blk_alloc ?_ _)); exact BK199.out) hb); have n1_ := Aside0.mk (below_step (by repeat (first | (with_reducible first | exact HB.out | apply below_alloc | apply pw_below_drewN | apply below_drew1 | refine below_set ?_ GE199.out) | exact HB.out)) hb); clear BK199; clear HB; have BK199 := n0_; have HB := n1_; clear n0_ n1_; (try clear hb); (try clear hb2); (try clear hk); (try clear hi)))
      go_ret
      exact ⟨by first | rfl | (simp [errW_none, errW_some] <;> rfl) | (simp [*, errW_none, errW_some] <;> rfl), by repeat (first | (with_reducible first | exact HB.out | apply below_alloc | apply pw_below_drewN | apply below_drew1 | refine below_set ?_ GE199.out) | exact HB.out)⟩
    · rw [if_neg c5] at H
      have c5b0 : (a1 == 2) = false := beq_eq_false_iff_ne.mpr c5
      have c5b1 : (a1 != 2) = true := bne_iff_ne.mpr c5
      by_cases c9 : a1 = 3
      · rw [if_pos c9] at H
        have c9b0 : (a1 == 3) = true := beq_iff_eq.mpr c9
        have c9b1 : (a1 != 3) = false := bne_eq_false_iff_eq.mpr c9
        clear c9
        obtain rfl := Option.some.inj H
        go_enter Try.func69, Try.ntmps69
        go_wp2_with (first | ((with_reducible refine gate_dst (N := 2) rfl ?_); refine box_event ?hg (N := 2) ?hd (cs := #[.int .i64 a0_0, .slice A0_1 l0_1.length c0_1]) (t := 28) ?hr ?_; (case hd => rfl); (case hg => rfl); (case hr => first | (go_simp; done) | (go_simp; rfl)); intro gb199 hg w10 hbox hb; have n0_ := Aside0.mk (below_step (by repeat (first | (with_reducible first | exact HB.out | apply below_alloc | apply pw_below_drewN | apply below_drew1) | exact HB.out)) hb); have n1_ := Aside0.mk (hbox); have n2_ := Aside0.mk ((by rw [hg]; exact (below_size (by repeat (first | (with_reducible first | exact HB.out | apply below_alloc | apply pw_below_drewN | apply below_drew1) | exact HB.out))) : w.heap.size ≤ gb199)); have n3_ := Aside0.mk ((by rw [hg]; exact (below_size (by repeat (first | (with_reducible first | exact HB.out | apply below_alloc | apply pw_below_drewN | apply below_drew1) | exact HB.out))) : w.heap.size ≤ gb199)); clear HB; have HB := n0_; have BK199 := n1_; have GW199 := n2_; have GE199 := n3_; clear n0_ n1_ n2_ n3_; clear hb hbox hg; have hcz11_0 : w10.cell? ⟨gb199, 0, none⟩ = some (.int .i64 a0_0) := (blk_cell BK199.out 0).trans rfl; have hcz11_1 : w10.cell? ⟨gb199, 1, none⟩ = some (.slice A0_1 l0_1.length c0_1) := (blk_cell BK199.out 1).trans rfl; have hfz11_0 := blk_frozen BK199.out 0; have hfz11_1 := blk_frozen BK199.out 1) | ((with_reducible refine gate_callee (f := 52) rfl ?_); refine goesL_ (some 7) rfl rfl Try.func52 (by kernel_rfl) rfl #[.agg #[.int .i64 a0_0, .slice A0_1 l0_1.length c0_1]] rfl (by (try simp only [List.map_toArray, List.map_cons, List.map_nil]); first | done | rfl | (simp only [List.length_drop, List.length_take]; rfl)) ?_; (with_reducible refine (spec_l01Is.calls k a0_0 _ _ l0_1 true _ ?side1 ?side2 A3.out).mono ?_); (case side1 => repeat (first | exact (Kd.C_below HR0_1.out HB.out) | (with_reducible refine Kd.C_alloc ?_ _) | (with_reducible refine Kd.C_drewN ?_ _) | (with_reducible refine Kd.C_drew ?_))); (case side2 => exact HC0_1.out); rintro e w12 ⟨rfl, hb⟩; refine ⟨_, rfl, ?_⟩; have n0_ := Aside0.mk (blk_below (g := gb199) (o := .cells #[.int .i64 a0_0, .slice A0_1 l0_1.length c0_1] 28 (0, 0)) (by (with_reducible repeat (first | refine blk_drewN ?_ _ | refine blk_drew ?_ | refine blk_alloc ?_ _)); exact BK199.out) hb); have n1_ := Aside0.mk (below_step (by repeat (first | (with_reducible first | exact HB.out | apply below_alloc | apply pw_below_drewN | apply below_drew1 | refine below_set ?_ GE199.out) | exact HB.out)) hb); clear BK199; clear HB; have BK199 := n0_; have HB := n1_; clear n0_ n1_; (try clear hb); (try clear hb2); (try clear hk); (try clear hi)))
        go_ret
        exact ⟨by first | rfl | (simp [errW_none, errW_some] <;> rfl) | (simp [*, errW_none, errW_some] <;> rfl), by repeat (first | (with_reducible first | exact HB.out | apply below_alloc | apply pw_below_drewN | apply below_drew1 | refine below_set ?_ GE199.out) | exact HB.out)⟩
      · rw [if_neg c9] at H
        have c9b0 : (a1 == 3) = false := beq_eq_false_iff_ne.mpr c9
        have c9b1 : (a1 != 3) = true := bne_iff_ne.mpr c9
        obtain rfl := Option.some.inj H
        go_enter Try.func69, Try.ntmps69
        go_wp2_with (first | ((with_reducible refine gate_dst (N := 2) rfl ?_); refine box_event ?hg (N := 2) ?hd (cs := #[.int .i64 a0_0, .slice A0_1 l0_1.length c0_1]) (t := 28) ?hr ?_; (case hd => rfl); (case hg => rfl); (case hr => first | (go_simp; done) | (go_simp; rfl)); intro gb199 hg w13 hbox hb; have n0_ := Aside0.mk (below_step (by repeat (first | (with_reducible first | exact HB.out | apply below_alloc | apply pw_below_drewN | apply below_drew1) | exact HB.out)) hb); have n1_ := Aside0.mk (hbox); have n2_ := Aside0.mk ((by rw [hg]; exact (below_size (by repeat (first | (with_reducible first | exact HB.out | apply below_alloc | apply pw_below_drewN | apply below_drew1) | exact HB.out))) : w.heap.size ≤ gb199)); have n3_ := Aside0.mk ((by rw [hg]; exact (below_size (by repeat (first | (with_reducible first | exact HB.out | apply below_alloc | apply pw_below_drewN | apply below_drew1) | exact HB.out))) : w.heap.size ≤ gb199)); clear HB; have HB := n0_; have BK199 := n1_; have GW199 := n2_; have GE199 := n3_; clear n0_ n1_ n2_ n3_; clear hb hbox hg; have hcz14_0 : w13.cell? ⟨gb199, 0, none⟩ = some (.int .i64 a0_0) := (blk_cell BK199.out 0).trans rfl; have hcz14_1 : w13.cell? ⟨gb199, 1, none⟩ = some (.slice A0_1 l0_1.length c0_1) := (blk_cell BK199.out 1).trans rfl; have hfz14_0 := blk_frozen BK199.out 0; have hfz14_1 := blk_frozen BK199.out 1) | ((with_reducible refine gate_callee (f := 52) rfl ?_); refine goesL_ (some 7) rfl rfl Try.func52 (by kernel_rfl) rfl #[.agg #[.int .i64 a0_0, .slice A0_1 l0_1.length c0_1]] rfl (by (try simp only [List.map_toArray, List.map_cons, List.map_nil]); first | done | rfl | (simp only [List.length_drop, List.length_take]; rfl)) ?_; (with_reducible refine (spec_l01Is.calls k a0_0 _ _ l0_1 true _ ?side1 ?side2 A3.out).mono ?_); (case side1 => repeat (first | exact (Kd.C_below HR0_1.out HB.out) | (with_reducible refine Kd.C_alloc ?_ _) | (with_reducible refine Kd.C_drewN ?_ _) | (with_reducible refine Kd.C_drew ?_))); (case side2 => exact HC0_1.out); rintro e w15 ⟨rfl, hb⟩; refine ⟨_, rfl, ?_⟩; have n0_ := Aside0.mk (blk_below (g := gb199) (o := .cells #[.int .i64 a0_0, .slice A0_1 l0_1.length c0_1] 28 (0, 0)) (by (with_reducible repeat (first | refine blk_drewN ?_ _ | refine blk_drew ?_ | refine blk_alloc ?_ _)); exact BK199.out) hb); have n1_ := Aside0.mk (below_step (by repeat (first | (with_reducible first | exact HB.out | apply below_alloc | apply pw_below_drewN | apply below_drew1 | refine below_set ?_ GE199.out) | exact HB.out)) hb); clear BK199; clear HB; have BK199 := n0_; have HB := n1_; clear n0_ n1_; (try clear hb); (try clear hb2); (try clear hk); (try clear hi)))
        go_ret
        exact ⟨by first | rfl | (simp [errW_none, errW_some] <;> rfl) | (simp [*, errW_none, errW_some] <;> rfl), by repeat (first | (with_reducible first | exact HB.out | apply below_alloc | apply pw_below_drewN | apply below_drew1 | refine below_set ?_ GE199.out) | exact HB.out)⟩
  · replace c4 := Bool.eq_false_iff.mpr c4
    subst c4
    have H1 : (some 1) = some r := by rw [if_neg (show ¬ (false = true) by decide)] at H; exact H
    clear H
    have H := H1
    clear H1
    obtain rfl := Option.some.inj H
    go_enter Try.func69, Try.ntmps69
    go_wp2_with (first | ((with_reducible refine gate_dst (N := 2) rfl ?_); refine box_event ?hg (N := 2) ?hd (cs := #[.int .i64 a0_0, .slice A0_1 l0_1.length c0_1]) (t := 28) ?hr ?_; (case hd => rfl); (case hg => rfl); (case hr => first | (go_simp; done) | (go_simp; rfl)); intro gb199 hg w16 hbox hb; have n0_ := Aside0.mk (below_step (by repeat (first | (with_reducible first | exact HB.out | apply below_alloc | apply pw_below_drewN | apply below_drew1) | exact HB.out)) hb); have n1_ := Aside0.mk (hbox); have n2_ := Aside0.mk ((by rw [hg]; exact (below_size (by repeat (first | (with_reducible first | exact HB.out | apply below_alloc | apply pw_below_drewN | apply below_drew1) | exact HB.out))) : w.heap.size ≤ gb199)); have n3_ := Aside0.mk ((by rw [hg]; exact (below_size (by repeat (first | (with_reducible first | exact HB.out | apply below_alloc | apply pw_below_drewN | apply below_drew1) | exact HB.out))) : w.heap.size ≤ gb199)); clear HB; have HB := n0_; have BK199 := n1_; have GW199 := n2_; have GE199 := n3_; clear n0_ n1_ n2_ n3_; clear hb hbox hg; have hcz17_0 : w16.cell? ⟨gb199, 0, none⟩ = some (.int .i64 a0_0) := (blk_cell BK199.out 0).trans rfl; have hcz17_1 : w16.cell? ⟨gb199, 1, none⟩ = some (.slice A0_1 l0_1.length c0_1) := (blk_cell BK199.out 1).trans rfl; have hfz17_0 := blk_frozen BK199.out 0; have hfz17_1 := blk_frozen BK199.out 1) | ((with_reducible refine gate_callee (f := 52) rfl ?_); refine goesL_ (some 7) rfl rfl Try.func52 (by kernel_rfl) rfl #[.agg #[.int .i64 a0_0, .slice A0_1 l0_1.length c0_1]] rfl (by (try simp only [List.map_toArray, List.map_cons, List.map_nil]); first | done | rfl | (simp only [List.length_drop, List.length_take]; rfl)) ?_; (with_reducible refine (spec_l01Is.calls k a0_0 _ _ l0_1 false _ ?side1 ?side2 A3.out).mono ?_); (case side1 => repeat (first | exact (Kd.C_below HR0_1.out HB.out) | (with_reducible refine Kd.C_alloc ?_ _) | (with_reducible refine Kd.C_drewN ?_ _) | (with_reducible refine Kd.C_drew ?_))); (case side2 => exact HC0_1.out); rintro e w18 ⟨rfl, hb⟩; refine ⟨_, rfl, ?_⟩; have n0_ := Aside0.mk (blk_below (g := gb199) (o := .cells #[.int .i64 a0_0, .slice A0_1 l0_1.length c0_1] 28 (0, 0)) (by (with_reducible repeat (first | refine blk_drewN ?_ _ | refine blk_drew ?_ | refine blk_alloc ?_ _)); exact BK199.out) hb); have n1_ := Aside0.mk (below_step (by repeat (first | (with_reducible first | exact HB.out | apply below_alloc | apply pw_below_drewN | apply below_drew1 | refine below_set ?_ GE199.out) | exact HB.out)) hb); clear BK199; clear HB; have BK199 := n0_; have HB := n1_; clear n0_ n1_; (try clear hb); (try clear hb2); (try clear hk); (try clear hi)))
    go_ret
    exact ⟨by first | rfl | (simp [errW_none, errW_some] <;> rfl) | (simp [*, errW_none, errW_some] <;> rfl), by repeat (first | (with_reducible first | exact HB.out | apply below_alloc | apply pw_below_drewN | apply below_drew1 | refine below_set ?_ GE199.out) | exact HB.out)⟩

-- NOT PRINTED: function 101 (spec_l03Rank)

/-! ### spec_l03Place: function 107 -/
def spec_l03Place.l0 : Nat → List Int → Int → Int → Option (Int)
  | 0, _, _, _ => none
  | k + 1, x0, x1, x5 => if x5 < (x0.length : Int) then (if 0 ≤ x5 then (if (rd x0 x5) = x1 then (some x5) else (spec_l03Place.l0 k x0 x1 (wrap64 (x5 + 1)))) else (none)) else (some (-1))
def spec_l03Place.f (k : Nat) (l0 : List Int) (a1 : Int) : Option (Int) := spec_l03Place.l0 k l0 a1 0
theorem spec_l03Place.mono_l : ∀ k, (∀ y0 y1 y2, LeO (spec_l03Place.l0 k y0 y1 y2) (spec_l03Place.l0 (k + 1) y0 y1 y2))
  | 0 => fun _ _ _ r h => by simp [spec_l03Place.l0] at h
  | k + 1 => by
    have ih0 := spec_l03Place.mono_l k
    · intro y0 y1 y2
      unfold spec_l03Place.l0
      repeat' first
      | (with_reducible exact ih0 _ _ _)
      | (with_reducible exact LeO.refl _)
      | (with_reducible exact LeO.none _)
      | (with_reducible refine LeO.ite ?_ ?_)
      | (with_reducible refine LeO.bind ?_ (fun _ => ?_))
      | exact ih0 _ _ _
      | exact LeO.none _
      | refine LeO.ite ?_ ?_
      | refine LeO.bind ?_ (fun _ => ?_)
theorem spec_l03Place.mono : ∀ a0 a1 k, LeO (spec_l03Place.f k a0 a1) (spec_l03Place.f (k + 1) a0 a1) := by
  intro a0 a1 k
  have ih0 := spec_l03Place.mono_l k
  unfold spec_l03Place.f
  repeat' first
      | (with_reducible exact ih0 _ _ _)
      | (with_reducible exact LeO.refl _)
      | (with_reducible exact LeO.none _)
      | (with_reducible refine LeO.ite ?_ ?_)
      | (with_reducible refine LeO.bind ?_ (fun _ => ?_))
      | exact ih0 _ _ _
      | exact LeO.none _
      | refine LeO.ite ?_ ?_
      | refine LeO.bind ?_ (fun _ => ?_)
set_option maxHeartbeats 8000000 in
set_option maxRecDepth 100000 in
theorem spec_l03Place.calls (k : Nat) (A0 : Option Addr) (c0 : Nat) (l0 : List Int) (a1 : Int) (r : Int) (w : World) (hr0 : Kd.C (Kd.int .i64) w A0 l0.length l0) (hc0 : l0.length ≤ c0) (h : spec_l03Place.f k l0 a1 = some r) :
    Calls Try.prog 107 #[.slice A0 l0.length c0, .int .i64 a1] w fun e w' => e = .returned (.int .i64 r) ∧ Drawn0 w w' := by
  have HR0 := Aside0.mk hr0
  have HC0 := Aside0.mk hc0
  clear hr0 hc0
  have H : (spec_l03Place.l0 k l0 a1 0) = some r := h
  clear h
  have H' := Aside0.mk H
  clear H
  go_enter Try.func107, Try.ntmps107
  go_wp2
  go_loopg [5] k (fun kq v5 w' => ∃ (x5_1 : Int), v5 = .int .i64 x5_1 ∧ Aside0 (spec_l03Place.l0 kq l0 a1 x5_1 = some r) ∧ Aside0 (kq ≤ k) ∧ Drawn0 w w')
  case atStart => exact ⟨(0), (by first | rfl | (simp; done) | (simp [*]; done)), H', ⟨Nat.le_refl _⟩, by repeat (first | exact Drawn0.refl _ | apply Drawn0.step)⟩
  case round =>
    clear H'
    try clear c1
    try clear p2
    obtain ⟨x5_1, rfl, HA, HK1, ⟨m1, rfl⟩⟩ := hrel
    cases gk with
    | zero => exact absurd HA.out (by simp [spec_l03Place.l0])
    | succ k1 =>
      have H := HA.out
      clear HA
      simp only [spec_l03Place.l0] at H
      by_cases c3 : x5_1 < (l0.length : Int)
      · rw [if_pos c3] at H
        have c3b0 : decide (x5_1 < (l0.length : Int)) = true := decide_eq_true c3
        clear c3
        by_cases c4 : 0 ≤ x5_1
        · rw [if_pos c4] at H
          have c4b0 : decide (0 ≤ x5_1) = true := decide_eq_true c4
          clear c4
          by_cases c5 : (rd l0 x5_1) = a1
          · rw [if_pos c5] at H
            have c5b0 : ((rd l0 x5_1) == a1) = true := beq_iff_eq.mpr c5
            have c5b1 : ((rd l0 x5_1) != a1) = false := bne_eq_false_iff_eq.mpr c5
            clear c5
            obtain rfl := Option.some.inj H
            have p206 : 0 ≤ (x5_1 : Int) := of_decide_eq_true (by first | (with_reducible assumption) | assumption)
            have q206 : x5_1 < (l0.length : Int) := of_decide_eq_true (by first | (with_reducible assumption) | assumption)
            obtain ⟨ad206, e206, hx206_0⟩ := Kd.at_int HR0.out x5_1 p206 q206
            cases e206
            replace p206 := eq_true p206
            replace q206 := eq_true q206
            go_wp2
            go_ret
            exact ⟨by first | rfl | (simp; done) | (simp [*]; done), by repeat (first | exact Drawn0.refl _ | apply Drawn0.step)⟩
          · rw [if_neg c5] at H
            have c5b0 : ((rd l0 x5_1) == a1) = false := beq_eq_false_iff_ne.mpr c5
            have c5b1 : ((rd l0 x5_1) != a1) = true := bne_iff_ne.mpr c5
            have H' := Aside0.mk H
            clear H
            have p206 : 0 ≤ (x5_1 : Int) := of_decide_eq_true (by first | (with_reducible assumption) | assumption)
            have q206 : x5_1 < (l0.length : Int) := of_decide_eq_true (by first | (with_reducible assumption) | assumption)
            obtain ⟨ad206, e206, hx206_0⟩ := Kd.at_int HR0.out x5_1 p206 q206
            cases e206
            replace p206 := eq_true p206
            replace q206 := eq_true q206
            go_wp2
            go_roundg k1
            case measure => have := HK1.out; omega
            case rel => exact ⟨(wrap64 (x5_1 + 1)), (by first | rfl | (simp; done) | (simp [*]; done)), H', ⟨by have := HK1.out; omega⟩, by repeat (first | exact Drawn0.refl _ | apply Drawn0.step)⟩
        · rw [if_neg c4] at H
          exact absurd H (by simp)
      · rw [if_neg c3] at H
        have c3b0 : decide (x5_1 < (l0.length : Int)) = false := decide_eq_false c3
        clear c3
        obtain rfl := Option.some.inj H
        go_wp2
        go_ret
        exact ⟨by first | rfl | (simp; done) | (simp [*]; done), by repeat (first | exact Drawn0.refl _ | apply Drawn0.step)⟩

end Go.Proofs.Ythganpmmhfoodaa.Q
end

section
/- Written by a program of this session (myprint.py over the kit's print). -/
namespace Go.Proofs.Ythganpmmhfoodaa.Q
open Go.RowKit Go.Proofs.YthganpmmhfoodaaW.PrintWords Go.Proofs.YthganpmmhfoodaaW.PrintLast Go.Proofs.YthganpmmhfoodaaW.PrintMore
attribute [local go_sem] max2_int min2_int max_two min_two max_three min_three max_four min_four   -- for this text's walks alone
set_option linter.unusedVariables false
set_option linter.unusedSimpArgs false

/-! ### spec_l03Rows: function 102 -/
mutual
def spec_l03Rows.l0 : Nat → Int → List Int → List Int → List (List Int) → Int → Option ((List (List Int)))
  | 0, _, _, _, _, _ => none
  | k + 1, x2, x7, x8, x9, x10 => if x10 < (x7.length : Int) then (if 0 ≤ (x8.length : Int) then (if ((x8.length : Int) : Int).toNat ≤ 35184372088832 then (if 0 ≤ x10 then ((spec_l01Below.f k (rd x7 x10)).bind fun t221 => ((spec_l03Signs.f k (rd x7 x10)).bind fun t225 => (spec_l03Rows.l1 k x2 x7 x8 x9 x10 (List.replicate ((x8.length : Int) : Int).toNat 0) t221 t225 0))) else (none)) else (none)) else (none)) else (some x9)
def spec_l03Rows.l1 : Nat → Int → List Int → List Int → List (List Int) → Int → List Int → List Int → List Int → Int → Option ((List (List Int)))
  | 0, _, _, _, _, _, _, _, _, _ => none
  | k + 1, x2, x7, x8, x9, x10, x11, x12, x13, x14 => if x14 < (x12.length : Int) then (if 0 ≤ x14 then ((spec_l03Place.f k x8 (rd x12 x14)).bind fun t229 => (if x14 < (x13.length : Int) then (if x2 = 0 then (none) else (if 0 ≤ t229 then (if t229 < (x11.length : Int) then (spec_l03Rows.l1 k x2 x7 x8 x9 x10 (x11.set (t229 : Int).toNat (Int.tmod (wrap64 ((rd x13 x14) + x2)) x2)) x12 x13 (wrap64 (x14 + 1))) else (none)) else (none))) else (none))) else (none)) else (if x9.length < 5864062014805 then (spec_l03Rows.l0 k x2 x7 x8 (x9 ++ [x11]) (wrap64 (x10 + 1))) else (none))
end
def spec_l03Rows.f (k : Nat) (a0_0 : Int) (l0_1 : List Int) (a1 : Int) (a2 : Int) : Option ((List (List Int))) := (spec_l01Of.f k a0_0 l0_1 a1).bind fun t208 => ((spec_l01Of.f k a0_0 l0_1 (wrap64 (a1 - 1))).bind fun t211 => (spec_l03Rows.l0 k a2 t208 t211 (([] : List (List Int))) 0))
theorem spec_l03Rows.mono_l : ∀ k, (∀ y0 y1 y2 y3 y4, LeO (spec_l03Rows.l0 k y0 y1 y2 y3 y4) (spec_l03Rows.l0 (k + 1) y0 y1 y2 y3 y4)) ∧ (∀ y0 y1 y2 y3 y4 y5 y6 y7 y8, LeO (spec_l03Rows.l1 k y0 y1 y2 y3 y4 y5 y6 y7 y8) (spec_l03Rows.l1 (k + 1) y0 y1 y2 y3 y4 y5 y6 y7 y8))
  | 0 => ⟨fun _ _ _ _ _ r h => by simp [spec_l03Rows.l0] at h, fun _ _ _ _ _ _ _ _ _ r h => by simp [spec_l03Rows.l1] at h⟩
  | k + 1 => by
    obtain ⟨ih0, ih1⟩ := spec_l03Rows.mono_l k
    refine ⟨?_, ?_⟩
    · intro y0 y1 y2 y3 y4
      unfold spec_l03Rows.l0
      repeat' first
      | (with_reducible exact ih0 _ _ _ _ _)
      | (with_reducible exact ih1 _ _ _ _ _ _ _ _ _)
      | (with_reducible exact spec_l01Below.mono _ _)
      | (with_reducible exact spec_l01Of.mono _ _ _ _)
      | (with_reducible exact spec_l03Place.mono _ _ _)
      | (with_reducible exact spec_l03Signs.mono _ _)
      | (with_reducible exact LeO.refl _)
      | (with_reducible exact LeO.none _)
      | (with_reducible refine LeO.ite ?_ ?_)
      | (with_reducible refine LeO.bind ?_ (fun _ => ?_))
      | exact ih0 _ _ _ _ _
      | exact ih1 _ _ _ _ _ _ _ _ _
      | exact spec_l01Below.mono _ _
      | exact spec_l01Of.mono _ _ _ _
      | exact spec_l03Place.mono _ _ _
      | exact spec_l03Signs.mono _ _
      | exact LeO.none _
      | refine LeO.ite ?_ ?_
      | refine LeO.bind ?_ (fun _ => ?_)
    · intro y0 y1 y2 y3 y4 y5 y6 y7 y8
      unfold spec_l03Rows.l1
      repeat' first
      | (with_reducible exact ih0 _ _ _ _ _)
      | (with_reducible exact ih1 _ _ _ _ _ _ _ _ _)
      | (with_reducible exact spec_l01Below.mono _ _)
      | (with_reducible exact spec_l01Of.mono _ _ _ _)
      | (with_reducible exact spec_l03Place.mono _ _ _)
      | (with_reducible exact spec_l03Signs.mono _ _)
      | (with_reducible exact LeO.refl _)
      | (with_reducible exact LeO.none _)
      | (with_reducible refine LeO.ite ?_ ?_)
      | (with_reducible refine LeO.bind ?_ (fun _ => ?_))
      | exact ih0 _ _ _ _ _
      | exact ih1 _ _ _ _ _ _ _ _ _
      | exact spec_l01Below.mono _ _
      | exact spec_l01Of.mono _ _ _ _
      | exact spec_l03Place.mono _ _ _
      | exact spec_l03Signs.mono _ _
      | exact LeO.none _
      | refine LeO.ite ?_ ?_
      | refine LeO.bind ?_ (fun _ => ?_)
theorem spec_l03Rows.mono : ∀ a0 a1 a2 a3 k, LeO (spec_l03Rows.f k a0 a1 a2 a3) (spec_l03Rows.f (k + 1) a0 a1 a2 a3) := by
  intro a0 a1 a2 a3 k
  obtain ⟨ih0, ih1⟩ := spec_l03Rows.mono_l k
  unfold spec_l03Rows.f
  repeat' first
      | (with_reducible exact ih0 _ _ _ _ _)
      | (with_reducible exact ih1 _ _ _ _ _ _ _ _ _)
      | (with_reducible exact spec_l01Below.mono _ _)
      | (with_reducible exact spec_l01Of.mono _ _ _ _)
      | (with_reducible exact spec_l03Place.mono _ _ _)
      | (with_reducible exact spec_l03Signs.mono _ _)
      | (with_reducible exact LeO.refl _)
      | (with_reducible exact LeO.none _)
      | (with_reducible refine LeO.ite ?_ ?_)
      | (with_reducible refine LeO.bind ?_ (fun _ => ?_))
      | exact ih0 _ _ _ _ _
      | exact ih1 _ _ _ _ _ _ _ _ _
      | exact spec_l01Below.mono _ _
      | exact spec_l01Of.mono _ _ _ _
      | exact spec_l03Place.mono _ _ _
      | exact spec_l03Signs.mono _ _
      | exact LeO.none _
      | refine LeO.ite ?_ ?_
      | refine LeO.bind ?_ (fun _ => ?_)
def spec_l03Rows.T1 : Bool × List (List Nat × List Nat) := (true, [([], []), ([], []), ([0, 1], [0, 1]), ([], []), ([], []), ([4], [4]), ([3, 5, 2], [3, 5]), ([], []), ([2, 6, 0, 1, 2], [2]), ([6, 8, 0, 1, 2, 3, 4, 5, 6, 8], [6]), ([7, 9, 0, 1, 2, 3, 4, 5, 6, 7, 8, 9], [7])])
def spec_l03Rows.B1 : List Nat := [0, 0, 3, 0, 0, 16, 63, 0, 127, 383, 1023]
theorem spec_l03Rows.tab1 : rtab .any (opsOf Try.f102 1) = spec_l03Rows.T1 := by kernel_rfl
theorem spec_l03Rows.bits1 : waitsOk spec_l03Rows.T1.2 spec_l03Rows.B1 = true := by kernel_rfl
def spec_l03Rows.T6 : Bool × List (List Nat × List Nat) := (true, [([], []), ([], []), ([0, 1], [0, 1]), ([2], [2]), ([3], [3]), ([], []), ([], []), ([5, 6], [5, 6]), ([7], [7]), ([8, 4], [8]), ([4, 9, 0, 1, 2, 3, 4], [4]), ([9, 10, 0, 1, 2, 3, 4, 5, 6, 7, 8, 9, 10], [9])])
def spec_l03Rows.B6 : List Nat := [0, 0, 3, 7, 15, 0, 0, 96, 224, 511, 1023, 2047]
theorem spec_l03Rows.tab6 : rtab .any (opsOf Try.f102 6) = spec_l03Rows.T6 := by kernel_rfl
theorem spec_l03Rows.bits6 : waitsOk spec_l03Rows.T6.2 spec_l03Rows.B6 = true := by kernel_rfl
def spec_l03Rows.T10 : Bool × List (List Nat × List Nat) := (true, [([], []), ([], []), ([], []), ([], []), ([2, 3], [2, 3]), ([4], [4]), ([1, 5], [1, 5]), ([], []), ([], []), ([7, 8], [7, 8]), ([9], [9]), ([], []), ([10, 11], [10, 11]), ([], []), ([12, 13], [12, 13]), ([0, 6, 0, 1, 2, 3, 4, 5, 6, 7, 8, 9, 10, 11, 12, 13, 14], [0, 6]), ([15, 14, 6, 0, 1, 2, 3, 4, 5, 6, 7, 8, 9, 10, 11, 12, 13, 14], [14, 15])])
def spec_l03Rows.B10 : List Nat := [0, 0, 0, 0, 12, 28, 62, 0, 0, 384, 896, 0, 3968, 0, 16256, 32767, 65535]
theorem spec_l03Rows.tab10 : rtab .any (opsOf Try.f102 10) = spec_l03Rows.T10 := by kernel_rfl
theorem spec_l03Rows.bits10 : waitsOk spec_l03Rows.T10.2 spec_l03Rows.B10 = true := by kernel_rfl
theorem S_empty_apart {e e2 : Nat} {w : World} {base : Nat} {v v1 v2 : Value} {ok1 ok2 : Nat → Prop} {x1 x2 : List Int} {xs : List (List Int)} (hx : xs = []) (h : Kd.S (Kd.slice e2 (Kd.int .i64)) e w base (fun _ => True) v xs) (he : e ≠ e2)
    (h1 : Kd.R (Kd.int .i64) e2 w base ok1 v1 x1) (h2 : Kd.R (Kd.int .i64) e2 w base ok2 v2 x2) : Kd.S (Kd.slice e2 (Kd.int .i64)) e w base (fun k_ => some k_ ≠ v1.ownBlock ∧ some k_ ≠ v2.ownBlock) v xs := by
  subst hx
  have ht := Kd.S_typed h
  obtain ⟨f, h0, inner, ho, hr⟩ := h
  refine ⟨f, fun k hk => ?_, inner, ho, hr.1, fun j p hj => by simp at hj⟩
  obtain ⟨c, hc⟩ := ht k hk
  constructor
  · intro e1
    obtain ⟨c1, hc1⟩ := Kd.R_typed h1 k e1.symm
    rw [hc] at hc1
    injection hc1 with hc1
    injection hc1 with _ e3
    exact he e3
  · intro e1
    obtain ⟨c1, hc1⟩ := Kd.R_typed h2 k e1.symm
    rw [hc] at hc1
    injection hc1 with hc1
    injection hc1 with _ e3
    exact he e3
set_option maxHeartbeats 8000000 in
set_option maxRecDepth 100000 in
theorem spec_l03Rows.calls (k : Nat) (a0_0 : Int) (A0_1 : Option Addr) (c0_1 : Nat) (l0_1 : List Int) (a1 : Int) (a2 : Int) (r : List (List Int)) (w : World) (hr0_1 : Kd.C (Kd.int .i64) w A0_1 l0_1.length l0_1) (hc0_1 : l0_1.length ≤ c0_1) (h : spec_l03Rows.f k a0_0 l0_1 a1 a2 = some r) :
    Calls Try.prog 102 #[.agg #[.int .i64 a0_0, .slice A0_1 l0_1.length c0_1], .int .i64 a1, .int .i64 a2] w fun e w' => ∃ v0_ : Value, e = .returned (v0_) ∧ Kd.S (Kd.slice 2 (Kd.int .i64)) 22 w' w.heap.size (fun _ => True) v0_ r ∧ Below w.heap.size w w' := by
  have hu28 := Try.underlying28
  have HR0_1 := Aside0.mk hr0_1
  have HC0_1 := Aside0.mk hc0_1
  clear hr0_1 hc0_1
  have HB := Aside0.mk (Below.refl w.heap.size w)
  have H : ((spec_l01Of.f k a0_0 l0_1 a1).bind fun t208 => ((spec_l01Of.f k a0_0 l0_1 (wrap64 (a1 - 1))).bind fun t211 => (spec_l03Rows.l0 k a2 t208 t211 (([] : List (List Int))) 0))) = some r := h
  clear h
  replace H := Option.bind_eq_some_iff.mp H
  obtain ⟨t208, A40, H⟩ := H
  replace H : ((spec_l01Of.f k a0_0 l0_1 (wrap64 (a1 - 1))).bind fun t211 => (spec_l03Rows.l0 k a2 t208 t211 (([] : List (List Int))) 0)) = some r := H
  have A4 := Aside0.mk A40
  clear A40
  replace H := Option.bind_eq_some_iff.mp H
  obtain ⟨t211, A50, H⟩ := H
  replace H : (spec_l03Rows.l0 k a2 t208 t211 (([] : List (List Int))) 0) = some r := H
  have A5 := Aside0.mk A50
  clear A50
  obtain ⟨y214, hy214⟩ : ∃ y_ : List (List Int), y_ = (([] : List (List Int))) := ⟨_, rfl⟩
  replace H : (spec_l03Rows.l0 k a2 t208 t211 y214 0) = some r := by first | (rw [hy214]; with_reducible exact H) | (have H2_ := (Option.bind_some _ _).symm.trans H; rw [hy214]; with_reducible exact H2_) | (have H2_ := (Option.bind_some _ _).symm.trans H; with_reducible exact H2_) | with_reducible exact H | (rw [hy214]; exact H) | exact H
  have Ny214 := Aside0.mk hy214
  clear hy214
  have H' := Aside0.mk H
  clear H
  go_enter Try.func102, Try.ntmps102
  try go_wp2_with (first | ((with_reducible refine gate_dst (N := 3) rfl ?_); refine box_event ?hg (N := 3) ?hd (cs := #[.int .i64 a0_0, .slice A0_1 l0_1.length c0_1]) (t := 28) ?hr ?_; (case hd => rfl); (case hg => rfl); (case hr => first | (go_simp; done) | (go_simp; rfl)); intro gb207 hg w6 hbox hb; have n0_ := Aside0.mk (below_step (by repeat (first | (with_reducible first | exact HB.out | apply below_alloc | apply pw_below_drewN | apply below_drew1) | exact HB.out)) hb); have n1_ := Aside0.mk (hbox); have n2_ := Aside0.mk ((by rw [hg]; exact (below_size (by repeat (first | (with_reducible first | exact HB.out | apply below_alloc | apply pw_below_drewN | apply below_drew1) | exact HB.out))) : w.heap.size ≤ gb207)); have n3_ := Aside0.mk ((by rw [hg]; exact (below_size (by repeat (first | (with_reducible first | exact HB.out | apply below_alloc | apply pw_below_drewN | apply below_drew1) | exact HB.out))) : w.heap.size ≤ gb207)); clear HB; have HB := n0_; have BK207 := n1_; have GW207 := n2_; have GE207 := n3_; clear n0_ n1_ n2_ n3_; clear hb hbox hg))
  have n0_ := Aside0.mk (blk_drew BK207.out)
  have n1_ := Aside0.mk (below_drew1 HB.out)
  clear BK207
  clear HB
  have BK207 := n0_
  have HB := n1_
  clear n0_ n1_
  refine start_ (n := 11) (S := fun w' => True) (ds := []) #[false, false, false, false, false, false, false, false, false, false, false] (by kernel_rfl) rfl rfl trivial (fun hHeld => ?_); refine with_tabW spec_l03Rows.tab1 spec_l03Rows.bits1 (fun HT_ HW_ => ?_)
  generalize w6.drew = w7 at BK207 HB hHeld ⊢
  refine pure_ (i := 1) (N := some 16) (v := ?_) (a' := ?_) #[false, true, false, false, false, false, false, false, false, false, false] rfl rfl (any_of HT_.out (by kernel_rfl)) (fun _ _ _ h => h) (Or.inl ⟨by rfl, ?_⟩) ?_ ?_
  rotate_left
  · intro w'
    go_simp
    with_reducible rfl
  rotate_left
  · simp only [Act.put, List.setIfInBounds_toArray, List.set_cons_zero, List.set_cons_succ, i64_w, i32_w]
    rfl
  refine pure_ (i := 4) (N := some 19) (v := ?_) (a' := ?_) #[false, true, false, false, true, false, false, false, false, false, false] rfl rfl (any_of HT_.out (by kernel_rfl)) (fun _ _ _ h => h) (Or.inl ⟨by rfl, ?_⟩) ?_ ?_
  rotate_left
  · intro w'
    go_simp
    with_reducible rfl
  rotate_left
  · simp only [Act.put, List.setIfInBounds_toArray, List.set_cons_zero, List.set_cons_succ, i64_w, i32_w]
    rfl
  refine inv_at [0, 2, 3, 5, 6, 7, 8, 9, 10] (fun a0_ b a w' => ∃ (v209 : Value) (v212 : Value) (v215 : Value) (m8_ : Value) (m9_ : Value) (m10_ : Value), a = putSel a0_ b [(0, 15, .agg #[.int .i64 a0_0, .slice A0_1 l0_1.length c0_1]), (2, 17, v209), (3, 18, .agg #[.int .i64 a0_0, .slice A0_1 l0_1.length c0_1]), (5, 20, .int .i64 (wrap64 (a1 - 1))), (6, 21, v212), (7, 22, v215), (8, 7, m8_), (9, 8, m9_), (10, 9, m10_)] ∧ (w'.heap[gb207]? = some (.cells #[.int .i64 a0_0, .slice A0_1 l0_1.length c0_1] 28 (0, 0))) ∧ (Below w.heap.size w w') ∧ (b 2 = true → Kd.R (Kd.int .i64) 2 w' w.heap.size (fun k_ => b 6 = true → some k_ ≠ (v212 : Value).ownBlock) v209 t208) ∧ (b 6 = true → Kd.R (Kd.int .i64) 2 w' w.heap.size (fun k_ => some k_ ≠ (v209 : Value).ownBlock) v212 t211) ∧ (b 7 = true → Kd.S (Kd.slice 2 (Kd.int .i64)) 22 w' w.heap.size (fun _ => True) v215 y214) ∧ (b 8 = true → (m8_ : Value) = v209) ∧ (b 9 = true → (m9_ : Value) = v212) ∧ (b 10 = true → (m10_ : Value) = v215)) HT_.out HW_.out (by kernel_rfl) (by kernel_rfl) ?_ ?_ ?_
  · exact ⟨.bool false, .bool false, .bool false, .bool false, .bool false, .bool false, by simp only [putSel, Bool.false_eq_true, if_false], BK207.out, HB.out, fun h_ => absurd h_ (by decide), fun h_ => absurd h_ (by decide), fun h_ => absurd h_ (by decide), fun h_ => absurd h_ (by decide), fun h_ => absurd h_ (by decide), fun h_ => absurd h_ (by decide)⟩
  · skip
    clear BK207 HB
    refine steps_cons ?_ ?_
    · rintro b a w' ⟨v209, v212, v215, m8_, m9_, m10_, ha, Q_BK207, Q_HB, Q_HO210, Q_HO213, Q_HO216, Q_X8_, Q_X9_, Q_X10_⟩ hb_ hon hoff
      refine ⟨_, rfl, fun K hK => ?_⟩
      have e3 : a.tmps[3]? = some (.pointer (some ⟨gb207, 0, none⟩)) := by rw [ha]; exact (putSel_off rfl).trans rfl
      replace ha := Aside0.mk ha
      have BK207 := Aside0.mk Q_BK207
      have HB := Aside0.mk Q_HB
      have hc0_ : w'.cell? ⟨gb207, 0, none⟩ = some (.int .i64 a0_0) := (blk_cell BK207.out 0).trans rfl
      have hc1_ : w'.cell? ⟨gb207, 1, none⟩ = some (.slice A0_1 l0_1.length c0_1) := (blk_cell BK207.out 1).trans rfl
      refine value_ (w1 := w') (v := .agg #[.int .i64 a0_0, .slice A0_1 l0_1.length c0_1]) (by rfl) rfl ?_ ?_
      · go_simp
        (try simp only [i64_w])
        try rfl
      refine hK.out _ _ ⟨v209, v212, v215, m8_, m9_, m10_, (by rw [ha.out]; exact putSel_upk 0 hb_ rfl rfl rfl), Q_BK207, Q_HB, fun h0_ => absurd ((hoff 2 (by kernel_rfl)).symm.trans h0_) (by decide), fun h0_ => absurd ((hoff 6 (by kernel_rfl)).symm.trans h0_) (by decide), Q_HO216, fun h0_ => absurd ((hoff 8 (by kernel_rfl)).symm.trans h0_) (by decide), fun h0_ => absurd ((hoff 9 (by kernel_rfl)).symm.trans h0_) (by decide), fun h0_ => absurd ((hoff 10 (by kernel_rfl)).symm.trans h0_) (by decide)⟩
    refine steps_cons ?_ ?_
    · rintro b a w' ⟨v209, v212, v215, m8_, m9_, m10_, ha, Q_BK207, Q_HB, Q_HO210, Q_HO213, Q_HO216, Q_X8_, Q_X9_, Q_X10_⟩ hb_ hon hoff
      refine ⟨_, rfl, fun K hK => ?_⟩
      have e15 : a.tmps[15]? = some (.agg #[.int .i64 a0_0, .slice A0_1 l0_1.length c0_1]) := by rw [ha]; exact putSel_on (e := (0, 15, .agg #[.int .i64 a0_0, .slice A0_1 l0_1.length c0_1])) 0 rfl rfl (hon 0 (by kernel_rfl)) rfl
      have e16 : a.tmps[16]? = some (.int .i64 a1) := by rw [ha]; exact (putSel_off rfl).trans rfl
      replace ha := Aside0.mk ha
      have BK207 := Aside0.mk Q_BK207
      have HB := Aside0.mk Q_HB
      refine goes_ Try.func61 (by kernel_rfl) rfl #[.agg #[.int .i64 a0_0, .slice A0_1 l0_1.length c0_1], .int .i64 a1] (by rfl) rfl rfl (by first | (simp only [List.map_toArray, List.map_cons, List.map_nil, Act.eval, Array.getD_eq_getD_getElem?, Option.getD_some, e15, e16]; done) | (simp only [List.map_toArray, List.map_cons, List.map_nil, Act.eval, Array.getD_eq_getD_getElem?, Option.getD_some, e15, e16]; rfl)) ?_
      with_reducible refine (spec_l01Of.calls k a0_0 _ _ l0_1 a1 t208 _ ?side1 ?side2 A4.out).mono ?_
      (case side1 => repeat (first | exact (Kd.C_below HR0_1.out HB.out) | (with_reducible refine Kd.C_alloc ?_ _) | (with_reducible refine Kd.C_drewN ?_ _) | (with_reducible refine Kd.C_drew ?_)))
      (case side2 => exact HC0_1.out)
      rintro e w8 ⟨v209, rfl, ho0, hb⟩
      refine ⟨_, rfl, ?_⟩
      have n0_ := Aside0.mk (Kd.R_lower ho0 (below_size (by repeat (first | (with_reducible first | exact HB.out | apply below_alloc | apply pw_below_drewN | apply below_drew1 | refine below_set ?_ GE207.out) | exact HB.out))))
      have n1_ := Aside0.mk (blk_below (g := gb207) (o := .cells #[.int .i64 a0_0, .slice A0_1 l0_1.length c0_1] 28 (0, 0)) (by (with_reducible repeat (first | refine blk_drewN ?_ _ | refine blk_drew ?_ | refine blk_alloc ?_ _)); exact BK207.out) hb)
      have n2_ := Aside0.mk (below_step (by repeat (first | (with_reducible first | exact HB.out | apply below_alloc | apply pw_below_drewN | apply below_drew1 | refine below_set ?_ GE207.out) | exact HB.out)) hb)
      have z_HO216 := fun (h0_ : b 7 = true) => (show Kd.S (Kd.slice 2 (Kd.int .i64)) 22 w8 w.heap.size (fun _ => True) v215 y214 from by first | exact (Kd.S_elder' (by (with_reducible repeat (first | apply Kd.S_alloc | apply Kd.S_drewN | apply Kd.S_drew)); exact (Q_HO216 h0_)) (Kd.R_base ho0) hb) | exact Kd.S_mono (Kd.S_elder' (by (with_reducible repeat (first | apply Kd.S_alloc | apply Kd.S_drewN | apply Kd.S_drew)); exact (Q_HO216 h0_)) (Kd.R_base ho0) hb) (fun _ h_ => by first | trivial | exact h_ | exact h_.1))
      clear BK207
      clear HB
      have HO210 := n0_
      have BK207 := n1_
      have HB := n2_
      clear n0_ n1_ n2_
      (try clear hb)
      (try clear hb2)
      (try clear hk)
      (try clear hi)
      (try clear ho0)
      refine hK.out _ _ ⟨v209, v212, v215, m8_, m9_, m10_, (by rw [ha.out]; exact putSel_upk 1 hb_ rfl rfl rfl), (by (with_reducible repeat (first | refine blk_drewN ?_ _ | refine blk_drew ?_ | refine blk_alloc ?_ _)); exact BK207.out), (by repeat (first | (with_reducible first | exact HB.out | apply below_alloc | apply pw_below_drewN | apply below_drew1 | refine below_set ?_ GE207.out) | exact HB.out)), fun _ => (by (with_reducible repeat (first | apply Kd.R_alloc | apply Kd.R_drewN | apply Kd.R_drew)); exact Kd.R_mono HO210.out (fun _ _ h0_ => absurd ((hoff 6 (by kernel_rfl)).symm.trans h0_) (by decide))), fun h0_ => absurd ((hoff 6 (by kernel_rfl)).symm.trans h0_) (by decide), z_HO216, fun h0_ => absurd ((hoff 8 (by kernel_rfl)).symm.trans h0_) (by decide), fun h0_ => absurd ((hoff 9 (by kernel_rfl)).symm.trans h0_) (by decide), fun h0_ => absurd ((hoff 10 (by kernel_rfl)).symm.trans h0_) (by decide)⟩
    refine steps_cons ?_ ?_
    · rintro b a w' ⟨v209, v212, v215, m8_, m9_, m10_, ha, Q_BK207, Q_HB, Q_HO210, Q_HO213, Q_HO216, Q_X8_, Q_X9_, Q_X10_⟩ hb_ hon hoff
      refine ⟨_, rfl, fun K hK => ?_⟩
      have e3 : a.tmps[3]? = some (.pointer (some ⟨gb207, 0, none⟩)) := by rw [ha]; exact (putSel_off rfl).trans rfl
      replace ha := Aside0.mk ha
      have BK207 := Aside0.mk Q_BK207
      have HB := Aside0.mk Q_HB
      have hc0_ : w'.cell? ⟨gb207, 0, none⟩ = some (.int .i64 a0_0) := (blk_cell BK207.out 0).trans rfl
      have hc1_ : w'.cell? ⟨gb207, 1, none⟩ = some (.slice A0_1 l0_1.length c0_1) := (blk_cell BK207.out 1).trans rfl
      refine value_ (w1 := w') (v := .agg #[.int .i64 a0_0, .slice A0_1 l0_1.length c0_1]) (by rfl) rfl ?_ ?_
      · go_simp
        (try simp only [i64_w])
        try rfl
      refine hK.out _ _ ⟨v209, v212, v215, m8_, m9_, m10_, (by rw [ha.out]; exact putSel_upk 2 hb_ rfl rfl rfl), Q_BK207, Q_HB, Q_HO210, fun h0_ => absurd ((hoff 6 (by kernel_rfl)).symm.trans h0_) (by decide), Q_HO216, fun h0_ => absurd ((hoff 8 (by kernel_rfl)).symm.trans h0_) (by decide), fun h0_ => absurd ((hoff 9 (by kernel_rfl)).symm.trans h0_) (by decide), fun h0_ => absurd ((hoff 10 (by kernel_rfl)).symm.trans h0_) (by decide)⟩
    refine steps_cons ?_ ?_
    · rintro b a w' ⟨v209, v212, v215, m8_, m9_, m10_, ha, Q_BK207, Q_HB, Q_HO210, Q_HO213, Q_HO216, Q_X8_, Q_X9_, Q_X10_⟩ hb_ hon hoff
      refine ⟨_, rfl, fun K hK => ?_⟩
      have e19 : a.tmps[19]? = some (.int .i64 a1) := by rw [ha]; exact (putSel_off rfl).trans rfl
      replace ha := Aside0.mk ha
      have BK207 := Aside0.mk Q_BK207
      have HB := Aside0.mk Q_HB
      refine value_ (w1 := w') (v := .int .i64 (wrap64 (a1 - 1))) (by rfl) rfl ?_ ?_
      · go_simp
        (try simp only [i64_w])
        try rfl
      refine hK.out _ _ ⟨v209, v212, v215, m8_, m9_, m10_, (by rw [ha.out]; exact putSel_upk 3 hb_ rfl rfl rfl), Q_BK207, Q_HB, Q_HO210, fun h0_ => absurd ((hoff 6 (by kernel_rfl)).symm.trans h0_) (by decide), Q_HO216, fun h0_ => absurd ((hoff 8 (by kernel_rfl)).symm.trans h0_) (by decide), fun h0_ => absurd ((hoff 9 (by kernel_rfl)).symm.trans h0_) (by decide), fun h0_ => absurd ((hoff 10 (by kernel_rfl)).symm.trans h0_) (by decide)⟩
    refine steps_cons ?_ ?_
    · rintro b a w' ⟨v209, v212, v215, m8_, m9_, m10_, ha, Q_BK207, Q_HB, Q_HO210, Q_HO213, Q_HO216, Q_X8_, Q_X9_, Q_X10_⟩ hb_ hon hoff
      refine ⟨_, rfl, fun K hK => ?_⟩
      have e18 : a.tmps[18]? = some (.agg #[.int .i64 a0_0, .slice A0_1 l0_1.length c0_1]) := by rw [ha]; exact putSel_on (e := (3, 18, .agg #[.int .i64 a0_0, .slice A0_1 l0_1.length c0_1])) 2 rfl rfl (hon 3 (by kernel_rfl)) rfl
      have e20 : a.tmps[20]? = some (.int .i64 (wrap64 (a1 - 1))) := by rw [ha]; exact putSel_on (e := (5, 20, .int .i64 (wrap64 (a1 - 1)))) 3 rfl rfl (hon 5 (by kernel_rfl)) rfl
      replace ha := Aside0.mk ha
      have BK207 := Aside0.mk Q_BK207
      have HB := Aside0.mk Q_HB
      have HO210 := Aside0.mk (Q_HO210 (hon 2 (by kernel_rfl)))
      refine goes_ Try.func61 (by kernel_rfl) rfl #[.agg #[.int .i64 a0_0, .slice A0_1 l0_1.length c0_1], .int .i64 (wrap64 (a1 - 1))] (by rfl) rfl rfl (by first | (simp only [List.map_toArray, List.map_cons, List.map_nil, Act.eval, Array.getD_eq_getD_getElem?, Option.getD_some, e18, e20]; done) | (simp only [List.map_toArray, List.map_cons, List.map_nil, Act.eval, Array.getD_eq_getD_getElem?, Option.getD_some, e18, e20]; rfl)) ?_
      with_reducible refine (spec_l01Of.calls k a0_0 _ _ l0_1 (wrap64 (a1 - 1)) t211 _ ?side1 ?side2 A5.out).mono ?_
      (case side1 => repeat (first | exact (Kd.C_below HR0_1.out HB.out) | (with_reducible refine Kd.C_alloc ?_ _) | (with_reducible refine Kd.C_drewN ?_ _) | (with_reducible refine Kd.C_drew ?_)))
      (case side2 => exact HC0_1.out)
      rintro e w10 ⟨v212, rfl, ho0, hb⟩
      refine ⟨_, rfl, ?_⟩
      have n0_ := Aside0.mk (Kd.R_elder' (by (with_reducible repeat (first | apply Kd.R_alloc | apply Kd.R_drewN | apply Kd.R_drew)); exact HO210.out) (Kd.R_base ho0) hb)
      have n1_ := Aside0.mk (Kd.R_lower (Kd.R_new' ho0 (Kd.R_lt (by (with_reducible repeat (first | apply Kd.R_alloc | apply Kd.R_drewN | apply Kd.R_drew)); exact HO210.out))) (below_size (by repeat (first | (with_reducible first | exact HB.out | apply below_alloc | apply pw_below_drewN | apply below_drew1 | refine below_set ?_ GE207.out) | exact HB.out))))
      have n2_ := Aside0.mk (blk_below (g := gb207) (o := .cells #[.int .i64 a0_0, .slice A0_1 l0_1.length c0_1] 28 (0, 0)) (by (with_reducible repeat (first | refine blk_drewN ?_ _ | refine blk_drew ?_ | refine blk_alloc ?_ _)); exact BK207.out) hb)
      have n3_ := Aside0.mk (below_step (by repeat (first | (with_reducible first | exact HB.out | apply below_alloc | apply pw_below_drewN | apply below_drew1 | refine below_set ?_ GE207.out) | exact HB.out)) hb)
      have z_HO216 := fun (h0_ : b 7 = true) => (show Kd.S (Kd.slice 2 (Kd.int .i64)) 22 w10 w.heap.size (fun _ => True) v215 y214 from by first | exact (Kd.S_elder' (by (with_reducible repeat (first | apply Kd.S_alloc | apply Kd.S_drewN | apply Kd.S_drew)); exact (Q_HO216 h0_)) (Kd.R_base ho0) hb) | exact Kd.S_mono (Kd.S_elder' (by (with_reducible repeat (first | apply Kd.S_alloc | apply Kd.S_drewN | apply Kd.S_drew)); exact (Q_HO216 h0_)) (Kd.R_base ho0) hb) (fun _ h_ => by first | trivial | exact h_ | exact h_.1))
      clear HO210
      clear BK207
      clear HB
      have HO210 := n0_
      have HO213 := n1_
      have BK207 := n2_
      have HB := n3_
      clear n0_ n1_ n2_ n3_
      (try clear hb)
      (try clear hb2)
      (try clear hk)
      (try clear hi)
      (try clear ho0)
      refine hK.out _ _ ⟨v209, v212, v215, m8_, m9_, m10_, (by rw [ha.out]; exact putSel_upk 4 hb_ rfl rfl rfl), (by (with_reducible repeat (first | refine blk_drewN ?_ _ | refine blk_drew ?_ | refine blk_alloc ?_ _)); exact BK207.out), (by repeat (first | (with_reducible first | exact HB.out | apply below_alloc | apply pw_below_drewN | apply below_drew1 | refine below_set ?_ GE207.out) | exact HB.out)), fun _ => (by (with_reducible repeat (first | apply Kd.R_alloc | apply Kd.R_drewN | apply Kd.R_drew)); exact Kd.R_mono HO210.out (fun _ hk _ => hk.2)), fun _ => (by (with_reducible repeat (first | apply Kd.R_alloc | apply Kd.R_drewN | apply Kd.R_drew)); exact Kd.R_mono HO213.out (fun _ hk => hk.2)), z_HO216, fun h0_ => absurd ((hoff 8 (by kernel_rfl)).symm.trans h0_) (by decide), fun h0_ => absurd ((hoff 9 (by kernel_rfl)).symm.trans h0_) (by decide), fun h0_ => absurd ((hoff 10 (by kernel_rfl)).symm.trans h0_) (by decide)⟩
    refine steps_cons ?_ ?_
    · rintro b a w' ⟨v209, v212, v215, m8_, m9_, m10_, ha, Q_BK207, Q_HB, Q_HO210, Q_HO213, Q_HO216, Q_X8_, Q_X9_, Q_X10_⟩ hb_ hon hoff
      refine ⟨_, rfl, fun K hK => ?_⟩
      replace ha := Aside0.mk ha
      have BK207 := Aside0.mk Q_BK207
      have HB := Aside0.mk Q_HB
      refine Kd.S_lit_step (Kd.slice 2 (Kd.int .i64)) _ 22 ?hg (N := 22) ?hd (xs := ([] : List (List Int))) (inner := []) (ok := fun _ => True) (okp := fun _ => True) ?hr ?hp (fun _ hk => hk) trivial (Below.refl _ _) (Nat.le_refl _) (by simp) ?_; (case hd => rfl); (case hg => rfl); (case hr => first | (go_simp; done) | (go_simp; rfl)); (case hp => exact (Reps.none _ _))
      intro v215 w8 ho9 hb hg_ hnew_
      clear hg_ hnew_
      (first | rw [← Ny214.out] at ho9 | (simp only [Int.reduceToNat] at ho9; rw [← Ny214.out] at ho9))
      have n0_ := Aside0.mk (Kd.S_lower ho9 (below_size (by repeat (first | (with_reducible first | exact HB.out | apply below_alloc | apply pw_below_drewN | apply below_drew1 | refine below_set ?_ GE207.out) | exact HB.out))))
      have n1_ := Aside0.mk (blk_below (g := gb207) (o := .cells #[.int .i64 a0_0, .slice A0_1 l0_1.length c0_1] 28 (0, 0)) (by (with_reducible repeat (first | refine blk_drewN ?_ _ | refine blk_drew ?_ | refine blk_alloc ?_ _)); exact BK207.out) hb)
      have n2_ := Aside0.mk (below_step (by repeat (first | (with_reducible first | exact HB.out | apply below_alloc | apply pw_below_drewN | apply below_drew1 | refine below_set ?_ GE207.out) | exact HB.out)) hb)
      have z_HO210 := fun (h0_ : b 2 = true) => (show Kd.R (Kd.int .i64) 2 w8 w.heap.size (fun k_ => b 6 = true → some k_ ≠ (v212 : Value).ownBlock) v209 t208 from by first | exact (Kd.R_below (by (with_reducible repeat (first | apply Kd.R_alloc | apply Kd.R_drewN | apply Kd.R_drew)); exact (Q_HO210 h0_)) hb) | exact Kd.R_mono (Kd.R_below (by (with_reducible repeat (first | apply Kd.R_alloc | apply Kd.R_drewN | apply Kd.R_drew)); exact (Q_HO210 h0_)) hb) (fun _ h_ => by first | trivial | exact h_ | exact h_.1))
      have z_HO213 := fun (h0_ : b 6 = true) => (show Kd.R (Kd.int .i64) 2 w8 w.heap.size (fun k_ => some k_ ≠ (v209 : Value).ownBlock) v212 t211 from by first | exact (Kd.R_below (by (with_reducible repeat (first | apply Kd.R_alloc | apply Kd.R_drewN | apply Kd.R_drew)); exact (Q_HO213 h0_)) hb) | exact Kd.R_mono (Kd.R_below (by (with_reducible repeat (first | apply Kd.R_alloc | apply Kd.R_drewN | apply Kd.R_drew)); exact (Q_HO213 h0_)) hb) (fun _ h_ => by first | trivial | exact h_ | exact h_.1))
      clear BK207
      clear HB
      have HO216 := n0_
      have BK207 := n1_
      have HB := n2_
      clear n0_ n1_ n2_
      clear hb ho9
      refine hK.out _ _ ⟨v209, v212, v215, m8_, m9_, m10_, (by rw [ha.out]; exact putSel_upk 5 hb_ rfl rfl rfl), (by (with_reducible repeat (first | refine blk_drewN ?_ _ | refine blk_drew ?_ | refine blk_alloc ?_ _)); exact BK207.out), (by repeat (first | (with_reducible first | exact HB.out | apply below_alloc | apply pw_below_drewN | apply below_drew1 | refine below_set ?_ GE207.out) | exact HB.out)), z_HO210, z_HO213, fun _ => (by (with_reducible repeat (first | apply Kd.S_alloc | apply Kd.S_drewN | apply Kd.S_drew)); exact HO216.out), Q_X8_, Q_X9_, fun h0_ => absurd ((hoff 10 (by kernel_rfl)).symm.trans h0_) (by decide)⟩
    refine steps_cons ?_ ?_
    · rintro b a w' ⟨v209, v212, v215, m8_, m9_, m10_, ha, Q_BK207, Q_HB, Q_HO210, Q_HO213, Q_HO216, Q_X8_, Q_X9_, Q_X10_⟩ hb_ hon hoff
      refine ⟨_, rfl, fun K hK => ?_⟩
      have e17 : a.tmps[17]? = some (v209) := by rw [ha]; exact putSel_on (e := (2, 17, v209)) 1 rfl rfl (hon 2 (by kernel_rfl)) rfl
      replace ha := Aside0.mk ha
      have BK207 := Aside0.mk Q_BK207
      have HB := Aside0.mk Q_HB
      have HO210 := Aside0.mk (Q_HO210 (hon 2 (by kernel_rfl)))
      have HO213 := Aside0.mk (Q_HO213 (hon 6 (by kernel_rfl)))
      refine value_ (w1 := w') (v := v209) (by rfl) rfl ?_ ?_
      · go_simp
        (try simp only [i64_w])
        try rfl
      refine hK.out _ _ ⟨v209, v212, v215, (v209), m9_, m10_, (by rw [ha.out]; exact putSel_upk 6 hb_ rfl rfl rfl), Q_BK207, Q_HB, Q_HO210, Q_HO213, Q_HO216, fun _ => rfl, fun h0_ => absurd ((hoff 9 (by kernel_rfl)).symm.trans h0_) (by decide), fun h0_ => absurd ((hoff 10 (by kernel_rfl)).symm.trans h0_) (by decide)⟩
    refine steps_cons ?_ ?_
    · rintro b a w' ⟨v209, v212, v215, m8_, m9_, m10_, ha, Q_BK207, Q_HB, Q_HO210, Q_HO213, Q_HO216, Q_X8_, Q_X9_, Q_X10_⟩ hb_ hon hoff
      refine ⟨_, rfl, fun K hK => ?_⟩
      have e21 : a.tmps[21]? = some (v212) := by rw [ha]; exact putSel_on (e := (6, 21, v212)) 4 rfl rfl (hon 6 (by kernel_rfl)) rfl
      replace ha := Aside0.mk ha
      have BK207 := Aside0.mk Q_BK207
      have HB := Aside0.mk Q_HB
      have HO210 := Aside0.mk (Q_HO210 (hon 2 (by kernel_rfl)))
      have HO213 := Aside0.mk (Q_HO213 (hon 6 (by kernel_rfl)))
      refine value_ (w1 := w') (v := v212) (by rfl) rfl ?_ ?_
      · go_simp
        (try simp only [i64_w])
        try rfl
      refine hK.out _ _ ⟨v209, v212, v215, m8_, (v212), m10_, (by rw [ha.out]; exact putSel_upk 7 hb_ rfl rfl rfl), Q_BK207, Q_HB, Q_HO210, Q_HO213, Q_HO216, Q_X8_, fun _ => rfl, fun h0_ => absurd ((hoff 10 (by kernel_rfl)).symm.trans h0_) (by decide)⟩
    refine steps_cons ?_ ?_
    · rintro b a w' ⟨v209, v212, v215, m8_, m9_, m10_, ha, Q_BK207, Q_HB, Q_HO210, Q_HO213, Q_HO216, Q_X8_, Q_X9_, Q_X10_⟩ hb_ hon hoff
      refine ⟨_, rfl, fun K hK => ?_⟩
      have e22 : a.tmps[22]? = some (v215) := by rw [ha]; exact putSel_on (e := (7, 22, v215)) 5 rfl rfl (hon 7 (by kernel_rfl)) rfl
      replace ha := Aside0.mk ha
      have BK207 := Aside0.mk Q_BK207
      have HB := Aside0.mk Q_HB
      have HO210 := Aside0.mk (Q_HO210 (hon 2 (by kernel_rfl)))
      have HO213 := Aside0.mk (Q_HO213 (hon 6 (by kernel_rfl)))
      have HO216 := Aside0.mk (Q_HO216 (hon 7 (by kernel_rfl)))
      refine value_ (w1 := w') (v := v215) (by rfl) rfl ?_ ?_
      · go_simp
        (try simp only [i64_w])
        try rfl
      refine hK.out _ _ ⟨v209, v212, v215, m8_, m9_, (v215), (by rw [ha.out]; exact putSel_upk 8 hb_ rfl rfl rfl), Q_BK207, Q_HB, Q_HO210, Q_HO213, Q_HO216, Q_X8_, Q_X9_, fun _ => rfl⟩
    exact steps_nil
  rintro b a w12 hall ⟨v209, v212, v215, m8_, m9_, m10_, ha, Q_BK207, Q_HB, Q_HO210, Q_HO213, Q_HO216, Q_X8_, Q_X9_, Q_X10_⟩
  clear BK207 HB
  have hb0_ := hall 0 (by kernel_rfl)
  have hb2_ := hall 2 (by kernel_rfl)
  have hb3_ := hall 3 (by kernel_rfl)
  have hb5_ := hall 5 (by kernel_rfl)
  have hb6_ := hall 6 (by kernel_rfl)
  have hb7_ := hall 7 (by kernel_rfl)
  have hb8_ := hall 8 (by kernel_rfl)
  have hb9_ := hall 9 (by kernel_rfl)
  have hb10_ := hall 10 (by kernel_rfl)
  subst ha
  obtain rfl := (Q_X8_ hb8_).symm
  obtain rfl := (Q_X9_ hb9_).symm
  obtain rfl := (Q_X10_ hb10_).symm
  simp only [putSel, hb0_, hb2_, hb3_, hb5_, hb6_, hb7_, hb8_, hb9_, hb10_, if_true, Act.put, List.setIfInBounds_toArray, List.set_cons_zero, List.set_cons_succ]
  have BK207 := Aside0.mk Q_BK207
  clear Q_BK207
  have HB := Aside0.mk Q_HB
  clear Q_HB
  have HO210 := Aside0.mk (Kd.R_mono (Q_HO210 hb2_) (fun _ hk => hk hb6_))
  clear Q_HO210
  have HO213 := Aside0.mk (Q_HO213 hb6_)
  clear Q_HO213
  have HO216 := Aside0.mk (S_empty_apart Ny214.out (Q_HO216 hb7_) (by decide) HO210.out HO213.out)
  clear Q_HO216
  clear hall hb0_ hb2_ hb3_ hb5_ hb6_ hb7_ hb8_ hb9_ hb10_
  try go_wp2
  go_loopg [9, 10] k (fun kq v9 v10 w' => ∃ (x7_1 : List Int) (x8_1 : List Int) (x9_1 : List (List Int)) (x10_1 : Int), v10 = .int .i64 x10_1 ∧ Aside0 (spec_l03Rows.l0 kq a2 x7_1 x8_1 x9_1 x10_1 = some r) ∧ Aside0 (kq ≤ k) ∧ Aside0 (Kd.R (Kd.int .i64) 2 w' w.heap.size (fun k_ => some k_ ≠ (v212 : Value).ownBlock) v209 x7_1) ∧ Aside0 (Kd.R (Kd.int .i64) 2 w' w.heap.size (fun k_ => some k_ ≠ (v209 : Value).ownBlock) v212 x8_1) ∧ Aside0 (Kd.S (Kd.slice 2 (Kd.int .i64)) 22 w' w.heap.size (fun k_ => some k_ ≠ (v209 : Value).ownBlock ∧ some k_ ≠ (v212 : Value).ownBlock) v9 x9_1) ∧ Aside0 (w'.heap[gb207]? = some (.cells #[.int .i64 a0_0, (.slice A0_1 l0_1.length c0_1)] 28 (0, 0))) ∧ Aside0 (Below w.heap.size w w'))
  case atStart => exact ⟨(t208), (t211), (y214), (0), (by first | rfl | (simp; done) | (simp [*]; done)), H', ⟨Nat.le_refl _⟩, ⟨by (with_reducible repeat (first | apply Kd.R_alloc | apply Kd.R_drewN | apply Kd.R_drew)); exact HO210.out⟩, ⟨by (with_reducible repeat (first | apply Kd.R_alloc | apply Kd.R_drewN | apply Kd.R_drew)); exact HO213.out⟩, ⟨by (with_reducible repeat (first | apply Kd.S_alloc | apply Kd.S_drewN | apply Kd.S_drew)); exact HO216.out⟩, ⟨by (with_reducible repeat (first | refine blk_drewN ?_ _ | refine blk_drew ?_ | refine blk_alloc ?_ _)); exact BK207.out⟩, ⟨by repeat (first | (with_reducible first | exact HB.out | apply below_alloc | apply pw_below_drewN | apply below_drew1 | refine below_set ?_ GE207.out) | exact HB.out)⟩⟩
  case round =>
    clear H'
    try clear c1
    try clear p2
    try clear c6
    try clear p6
    try clear c10
    obtain ⟨x7_1, x8_1, x9_1, x10_1, rfl, HA, HK1, HO_7, HO_8, HO_9, BK207, HB⟩ := hrel
    cases gk with
    | zero => exact absurd HA.out (by simp [spec_l03Rows.l0])
    | succ k1 =>
      have H := HA.out
      clear HA
      simp only [spec_l03Rows.l0] at H
      by_cases c13 : x10_1 < (x7_1.length : Int)
      · rw [if_pos c13] at H
        have c13b0 : decide (x10_1 < (x7_1.length : Int)) = true := decide_eq_true c13
        clear c13
        by_cases c14 : 0 ≤ (x8_1.length : Int)
        · rw [if_pos c14] at H
          have c14b0 := eq_true c14
          have c14b1 : decide (0 ≤ (x8_1.length : Int)) = true := decide_eq_true c14
          clear c14
          by_cases c15 : ((x8_1.length : Int) : Int).toNat ≤ 35184372088832
          · rw [if_pos c15] at H
            have c15b0 := eq_true c15
            have c15b1 : decide (((x8_1.length : Int) : Int).toNat ≤ 35184372088832) = true := decide_eq_true c15
            clear c15
            obtain ⟨y217, hy217⟩ : ∃ y_ : List Int, y_ = (List.replicate ((x8_1.length : Int) : Int).toNat 0) := ⟨_, rfl⟩
            replace H : (if 0 ≤ x10_1 then ((spec_l01Below.f k1 (rd x7_1 x10_1)).bind fun t221 => ((spec_l03Signs.f k1 (rd x7_1 x10_1)).bind fun t225 => (spec_l03Rows.l1 k1 a2 x7_1 x8_1 x9_1 x10_1 y217 t221 t225 0))) else (none)) = some r := by first | (rw [hy217]; with_reducible exact H) | (have H2_ := (Option.bind_some _ _).symm.trans H; rw [hy217]; with_reducible exact H2_) | (have H2_ := (Option.bind_some _ _).symm.trans H; with_reducible exact H2_) | with_reducible exact H | (rw [hy217]; exact H) | exact H
            have Ny217 := Aside0.mk hy217
            clear hy217
            by_cases c16 : 0 ≤ x10_1
            · rw [if_pos c16] at H
              have c16b0 : decide (0 ≤ x10_1) = true := decide_eq_true c16
              clear c16
              replace H := Option.bind_eq_some_iff.mp H
              obtain ⟨t221, A170, H⟩ := H
              replace H : ((spec_l03Signs.f k1 (rd x7_1 x10_1)).bind fun t225 => (spec_l03Rows.l1 k1 a2 x7_1 x8_1 x9_1 x10_1 y217 t221 t225 0)) = some r := H
              have A17 := Aside0.mk A170
              clear A170
              replace H := Option.bind_eq_some_iff.mp H
              obtain ⟨t225, A180, H⟩ := H
              replace H : (spec_l03Rows.l1 k1 a2 x7_1 x8_1 x9_1 x10_1 y217 t221 t225 0) = some r := H
              have A18 := Aside0.mk A180
              clear A180
              have H' := Aside0.mk H
              clear H
              obtain ⟨Ao19, co19, eo19⟩ := Kd.R_slice HO_7.out
              subst eo19
              obtain ⟨Ao20, co20, eo20⟩ := Kd.R_slice HO_8.out
              subst eo20
              try go_wp2_with (first | ((with_reducible refine gate_dst (N := 31) rfl ?_); refine Kd.R_make (Kd.int .i64) _ 2 rfl (N := 31) rfl 22 _ _ rfl (x8_1.length : Int) rfl rfl Try.underlying22 (.int .i64 0) 8 info2 rfl (by decide) (by omega) 0 (ok := fun _ => True) (okp := fun _ => True) rfl (fun _ hk => hk) trivial (of_decide_eq_true (by first | (with_reducible assumption) | assumption)) (Nat.le_trans (Nat.mul_le_mul_right _ (of_decide_eq_true (by first | (with_reducible assumption) | assumption) : (x8_1.length : Int).toNat ≤ 35184372088832)) (by omega)) (Below.refl _ _) (Nat.le_refl _) ?_; intro v218 w21 ho22 hb hg_ hnew_; clear hg_ hnew_; (first | rw [← Ny217.out] at ho22 | (simp only [Int.reduceToNat] at ho22; rw [← Ny217.out] at ho22)); have n0_ := Aside0.mk (Kd.R_elder' (by (with_reducible repeat (first | apply Kd.R_alloc | apply Kd.R_drewN | apply Kd.R_drew)); exact HO_7.out) (Kd.R_base ho22) hb); have n1_ := Aside0.mk (Kd.R_elder' (by (with_reducible repeat (first | apply Kd.R_alloc | apply Kd.R_drewN | apply Kd.R_drew)); exact HO_8.out) (Kd.R_base ho22) hb); have n2_ := Aside0.mk (Kd.S_elder' (by (with_reducible repeat (first | apply Kd.S_alloc | apply Kd.S_drewN | apply Kd.S_drew)); exact HO_9.out) (Kd.R_base ho22) hb); have n3_ := Aside0.mk (Kd.R_lower (Kd.R_new' (Kd.R_new' ho22 (Kd.R_lt (by (with_reducible repeat (first | apply Kd.R_alloc | apply Kd.R_drewN | apply Kd.R_drew)); exact HO_7.out))) (Kd.R_lt (by (with_reducible repeat (first | apply Kd.R_alloc | apply Kd.R_drewN | apply Kd.R_drew)); exact HO_8.out))) (below_size (by repeat (first | (with_reducible first | exact HB.out | apply below_alloc | apply pw_below_drewN | apply below_drew1 | refine below_set ?_ GE207.out) | exact HB.out)))); have n4_ := Aside0.mk (blk_below (g := gb207) (o := .cells #[.int .i64 a0_0, .slice A0_1 l0_1.length c0_1] 28 (0, 0)) (by (with_reducible repeat (first | refine blk_drewN ?_ _ | refine blk_drew ?_ | refine blk_alloc ?_ _)); exact BK207.out) hb); have n5_ := Aside0.mk (below_step (by repeat (first | (with_reducible first | exact HB.out | apply below_alloc | apply pw_below_drewN | apply below_drew1 | refine below_set ?_ GE207.out) | exact HB.out)) hb); clear HO_7; clear HO_8; clear HO_9; clear BK207; clear HB; have HO_7 := n0_; have HO_8 := n1_; have HO_9 := n2_; have HO219 := n3_; have BK207 := n4_; have HB := n5_; clear n0_ n1_ n2_ n3_ n4_ n5_; clear hb ho22))
              have n0_ := Aside0.mk (Kd.R_drew HO_7.out)
              have n1_ := Aside0.mk (Kd.R_drew HO_8.out)
              have n2_ := Aside0.mk (Kd.S_drew HO_9.out)
              have n3_ := Aside0.mk (Kd.R_drew HO219.out)
              have n4_ := Aside0.mk (blk_drew BK207.out)
              have n5_ := Aside0.mk (below_drew1 HB.out)
              clear HO_7
              clear HO_8
              clear HO_9
              clear HO219
              clear BK207
              clear HB
              have HO_7 := n0_
              have HO_8 := n1_
              have HO_9 := n2_
              have HO219 := n3_
              have BK207 := n4_
              have HB := n5_
              clear n0_ n1_ n2_ n3_ n4_ n5_
              have p220 : 0 ≤ (x10_1 : Int) := of_decide_eq_true (by first | (with_reducible assumption) | assumption)
              have q220 : x10_1 < (x7_1.length : Int) := of_decide_eq_true (by first | (with_reducible assumption) | assumption)
              obtain ⟨ad220, e220, hx220_0⟩ := Kd.at_int (Kd.R_reads' HO_7.out).2.2 x10_1 p220 q220
              cases e220
              replace p220 := eq_true p220
              replace q220 := eq_true q220
              have p224 : 0 ≤ (x10_1 : Int) := of_decide_eq_true (by first | (with_reducible assumption) | assumption)
              have q224 : x10_1 < (x7_1.length : Int) := of_decide_eq_true (by first | (with_reducible assumption) | assumption)
              obtain ⟨ad224, e224, hx224_0⟩ := Kd.at_int (Kd.R_reads' HO_7.out).2.2 x10_1 p224 q224
              obtain rfl : ad220 = ad224 := (by injection e224)
              replace p224 := eq_true p224
              replace q224 := eq_true q224
              refine start_ (n := 12) (S := fun w' => w'.cell? (ad220.add (x10_1).toNat) = some (.int .i64 (rd x7_1 x10_1)) ∧ w'.cell? (ad220.add (x10_1).toNat) = some (.int .i64 (rd x7_1 x10_1))) (ds := []) #[false, false, false, false, false, false, false, false, false, false, false, false] (by kernel_rfl) rfl rfl ⟨hx220_0, hx224_0⟩ (fun hHeld => ?_); refine with_tabW spec_l03Rows.tab6 spec_l03Rows.bits6 (fun HT_ HW_ => ?_)
              generalize w21.drew = w23 at HO_7 HO_8 HO_9 HO219 BK207 HB hx220_0 hx224_0 hHeld ⊢
              refine pure_ (i := 0) (N := some 32) (v := ?_) (a' := ?_) #[true, false, false, false, false, false, false, false, false, false, false, false] rfl rfl (any_of HT_.out (by kernel_rfl)) (fun _ _ _ h => h) (Or.inl ⟨by rfl, ?_⟩) ?_ ?_
              rotate_left
              · intro w'
                go_simp
                with_reducible rfl
              rotate_left
              · simp only [Act.put, List.setIfInBounds_toArray, List.set_cons_zero, List.set_cons_succ, i64_w, i32_w]
                rfl
              refine pure_ (i := 1) (N := some 33) (v := ?_) (a' := ?_) #[true, true, false, false, false, false, false, false, false, false, false, false] rfl rfl (any_of HT_.out (by kernel_rfl)) (fun _ _ _ h => h) (Or.inl ⟨by rfl, ?_⟩) ?_ ?_
              rotate_left
              · intro w'
                go_simp
                with_reducible rfl
              rotate_left
              · simp only [Act.put, List.setIfInBounds_toArray, List.set_cons_zero, List.set_cons_succ, i64_w, i32_w]
                rfl
              refine pure_ (i := 2) (N := some 34) (v := ?_) (a' := ?_) #[true, true, true, false, false, false, false, false, false, false, false, false] rfl rfl (any_of HT_.out (by kernel_rfl)) (fun _ _ _ h => h) (Or.inl ⟨by rfl, ?_⟩) ?_ ?_
              rotate_left
              · intro w'
                go_simp
                with_reducible rfl
              rotate_left
              · simp only [Act.put, List.setIfInBounds_toArray, List.set_cons_zero, List.set_cons_succ, i64_w, i32_w]
                rfl
              refine pure_ (i := 5) (N := some 37) (v := ?_) (a' := ?_) #[true, true, true, false, false, true, false, false, false, false, false, false] rfl rfl (any_of HT_.out (by kernel_rfl)) (fun _ _ _ h => h) (Or.inl ⟨by rfl, ?_⟩) ?_ ?_
              rotate_left
              · intro w'
                go_simp
                with_reducible rfl
              rotate_left
              · simp only [Act.put, List.setIfInBounds_toArray, List.set_cons_zero, List.set_cons_succ, i64_w, i32_w]
                rfl
              refine pure_ (i := 6) (N := some 38) (v := ?_) (a' := ?_) #[true, true, true, false, false, true, true, false, false, false, false, false] rfl rfl (any_of HT_.out (by kernel_rfl)) (fun _ _ _ h => h) (Or.inl ⟨by rfl, ?_⟩) ?_ ?_
              rotate_left
              · intro w'
                go_simp
                with_reducible rfl
              rotate_left
              · simp only [Act.put, List.setIfInBounds_toArray, List.set_cons_zero, List.set_cons_succ, i64_w, i32_w]
                rfl
              refine pure_ (i := 7) (N := some 39) (v := ?_) (a' := ?_) #[true, true, true, false, false, true, true, true, false, false, false, false] rfl rfl (any_of HT_.out (by kernel_rfl)) (fun _ _ _ h => h) (Or.inl ⟨by rfl, ?_⟩) ?_ ?_
              rotate_left
              · intro w'
                go_simp
                with_reducible rfl
              rotate_left
              · simp only [Act.put, List.setIfInBounds_toArray, List.set_cons_zero, List.set_cons_succ, i64_w, i32_w]
                rfl
              refine take_ (i := 3) (N := some 35) (v := ?_) (a' := ?_) #[true, true, true, true, false, true, true, true, false, false, false, false] rfl rfl (take_ofW HT_.out HW_.out (by kernel_rfl)) (fun _ _ _ h => h) (Or.inl ⟨by rfl, ?_⟩) hHeld ?_ ?_
              rotate_left
              · rintro w' ⟨s0, s1⟩
                go_simp
                with_reducible rfl
              rotate_left
              · simp only [Act.put, List.setIfInBounds_toArray, List.set_cons_zero, List.set_cons_succ, i64_w, i32_w]
                rfl
              refine take_ (i := 8) (N := some 40) (v := ?_) (a' := ?_) #[true, true, true, true, false, true, true, true, true, false, false, false] rfl rfl (take_ofW HT_.out HW_.out (by kernel_rfl)) (fun _ _ _ h => h) (Or.inl ⟨by rfl, ?_⟩) hHeld ?_ ?_
              rotate_left
              · rintro w' ⟨s0, s1⟩
                go_simp
                with_reducible rfl
              rotate_left
              · simp only [Act.put, List.setIfInBounds_toArray, List.set_cons_zero, List.set_cons_succ, i64_w, i32_w]
                rfl
              refine one_ (i := 4) (N := some 36) #[true, true, true, true, true, true, true, true, true, false, false, false] rfl rfl (one_of HT_.out (by kernel_rfl)) (by decide) (fun K hK => ?_)
              refine goes_ Try.func93 (by kernel_rfl) rfl #[.int .i64 (rd x7_1 x10_1)] (by rfl) rfl rfl (by (try simp only [List.map_toArray, List.map_cons, List.map_nil]); first | done | rfl | (simp only [List.length_drop, List.length_take]; rfl)) ?_
              with_reducible refine (spec_l01Below.calls k1 (rd x7_1 x10_1) t221 _ A17.out).mono ?_
              rintro e w24 ⟨v222, rfl, ho0, hb⟩
              have HS0_ := (hb.cell (World.block_lt_of_cell? _ _ (hHeld.1))).trans (hHeld.1)
              have HS1_ := (hb.cell (World.block_lt_of_cell? _ _ (hHeld.2))).trans (hHeld.2)
              refine ⟨_, rfl, ?_⟩
              have n0_ := Aside0.mk (Kd.R_elder' (by (with_reducible repeat (first | apply Kd.R_alloc | apply Kd.R_drewN | apply Kd.R_drew)); exact HO_7.out) (Kd.R_base ho0) hb)
              have n1_ := Aside0.mk (Kd.R_elder' (by (with_reducible repeat (first | apply Kd.R_alloc | apply Kd.R_drewN | apply Kd.R_drew)); exact HO_8.out) (Kd.R_base ho0) hb)
              have n2_ := Aside0.mk (Kd.S_elder' (by (with_reducible repeat (first | apply Kd.S_alloc | apply Kd.S_drewN | apply Kd.S_drew)); exact HO_9.out) (Kd.R_base ho0) hb)
              have n3_ := Aside0.mk (Kd.R_elder' (by (with_reducible repeat (first | apply Kd.R_alloc | apply Kd.R_drewN | apply Kd.R_drew)); exact HO219.out) (Kd.R_base ho0) hb)
              have n4_ := Aside0.mk (Kd.R_lower (Kd.R_new' (Kd.R_new' (Kd.R_new' ho0 (Kd.R_lt (by (with_reducible repeat (first | apply Kd.R_alloc | apply Kd.R_drewN | apply Kd.R_drew)); exact HO_7.out))) (Kd.R_lt (by (with_reducible repeat (first | apply Kd.R_alloc | apply Kd.R_drewN | apply Kd.R_drew)); exact HO_8.out))) (Kd.R_lt (by (with_reducible repeat (first | apply Kd.R_alloc | apply Kd.R_drewN | apply Kd.R_drew)); exact HO219.out))) (below_size (by repeat (first | (with_reducible first | exact HB.out | apply below_alloc | apply pw_below_drewN | apply below_drew1 | refine below_set ?_ GE207.out) | exact HB.out))))
              have n5_ := Aside0.mk (blk_below (g := gb207) (o := .cells #[.int .i64 a0_0, .slice A0_1 l0_1.length c0_1] 28 (0, 0)) (by (with_reducible repeat (first | refine blk_drewN ?_ _ | refine blk_drew ?_ | refine blk_alloc ?_ _)); exact BK207.out) hb)
              have n6_ := Aside0.mk (below_step (by repeat (first | (with_reducible first | exact HB.out | apply below_alloc | apply pw_below_drewN | apply below_drew1 | refine below_set ?_ GE207.out) | exact HB.out)) hb)
              clear HO_7
              clear HO_8
              clear HO_9
              clear HO219
              clear BK207
              clear HB
              have HO_7 := n0_
              have HO_8 := n1_
              have HO_9 := n2_
              have HO219 := n3_
              have HO223 := n4_
              have BK207 := n5_
              have HB := n6_
              clear n0_ n1_ n2_ n3_ n4_ n5_ n6_
              (try clear hb)
              (try clear hb2)
              (try clear hk)
              (try clear hi)
              (try clear ho0)
              refine hK.out _ _ ⟨HS0_, HS1_⟩ (fun hHeld => ?_)
              clear hK K
              refine norm_ (a' := ?_) ?_ ?_
              rotate_left
              · show Act.put _ (some 36) _ = _
                simp only [Act.put, List.setIfInBounds_toArray, List.set_cons_zero, List.set_cons_succ, i64_w, i32_w]
                rfl
              refine one_ (i := 9) (N := some 41) #[true, true, true, true, true, true, true, true, true, true, false, false] rfl rfl (one_of HT_.out (by kernel_rfl)) (by decide) (fun K hK => ?_)
              refine goes_ Try.func47 (by kernel_rfl) rfl #[.int .i64 (rd x7_1 x10_1)] (by rfl) rfl rfl (by (try simp only [List.map_toArray, List.map_cons, List.map_nil]); first | done | rfl | (simp only [List.length_drop, List.length_take]; rfl)) ?_
              with_reducible refine (spec_l03Signs.calls k1 (rd x7_1 x10_1) t225 _ A18.out).mono ?_
              rintro e w25 ⟨v226, rfl, ho0, hb⟩
              have HS0_ := (hb.cell (World.block_lt_of_cell? _ _ (hHeld.1))).trans (hHeld.1)
              have HS1_ := (hb.cell (World.block_lt_of_cell? _ _ (hHeld.2))).trans (hHeld.2)
              refine ⟨_, rfl, ?_⟩
              have n0_ := Aside0.mk (Kd.R_elder' (by (with_reducible repeat (first | apply Kd.R_alloc | apply Kd.R_drewN | apply Kd.R_drew)); exact HO_7.out) (Kd.R_base ho0) hb)
              have n1_ := Aside0.mk (Kd.R_elder' (by (with_reducible repeat (first | apply Kd.R_alloc | apply Kd.R_drewN | apply Kd.R_drew)); exact HO_8.out) (Kd.R_base ho0) hb)
              have n2_ := Aside0.mk (Kd.S_elder' (by (with_reducible repeat (first | apply Kd.S_alloc | apply Kd.S_drewN | apply Kd.S_drew)); exact HO_9.out) (Kd.R_base ho0) hb)
              have n3_ := Aside0.mk (Kd.R_elder' (by (with_reducible repeat (first | apply Kd.R_alloc | apply Kd.R_drewN | apply Kd.R_drew)); exact HO219.out) (Kd.R_base ho0) hb)
              have n4_ := Aside0.mk (Kd.R_elder' (by (with_reducible repeat (first | apply Kd.R_alloc | apply Kd.R_drewN | apply Kd.R_drew)); exact HO223.out) (Kd.R_base ho0) hb)
              have n5_ := Aside0.mk (Kd.R_lower (Kd.R_new' (Kd.R_new' (Kd.R_new' (Kd.R_new' ho0 (Kd.R_lt (by (with_reducible repeat (first | apply Kd.R_alloc | apply Kd.R_drewN | apply Kd.R_drew)); exact HO_7.out))) (Kd.R_lt (by (with_reducible repeat (first | apply Kd.R_alloc | apply Kd.R_drewN | apply Kd.R_drew)); exact HO_8.out))) (Kd.R_lt (by (with_reducible repeat (first | apply Kd.R_alloc | apply Kd.R_drewN | apply Kd.R_drew)); exact HO219.out))) (Kd.R_lt (by (with_reducible repeat (first | apply Kd.R_alloc | apply Kd.R_drewN | apply Kd.R_drew)); exact HO223.out))) (below_size (by repeat (first | (with_reducible first | exact HB.out | apply below_alloc | apply pw_below_drewN | apply below_drew1 | refine below_set ?_ GE207.out) | exact HB.out))))
              have n6_ := Aside0.mk (blk_below (g := gb207) (o := .cells #[.int .i64 a0_0, .slice A0_1 l0_1.length c0_1] 28 (0, 0)) (by (with_reducible repeat (first | refine blk_drewN ?_ _ | refine blk_drew ?_ | refine blk_alloc ?_ _)); exact BK207.out) hb)
              have n7_ := Aside0.mk (below_step (by repeat (first | (with_reducible first | exact HB.out | apply below_alloc | apply pw_below_drewN | apply below_drew1 | refine below_set ?_ GE207.out) | exact HB.out)) hb)
              clear HO_7
              clear HO_8
              clear HO_9
              clear HO219
              clear HO223
              clear BK207
              clear HB
              have HO_7 := n0_
              have HO_8 := n1_
              have HO_9 := n2_
              have HO219 := n3_
              have HO223 := n4_
              have HO227 := n5_
              have BK207 := n6_
              have HB := n7_
              clear n0_ n1_ n2_ n3_ n4_ n5_ n6_ n7_
              (try clear hb)
              (try clear hb2)
              (try clear hk)
              (try clear hi)
              (try clear ho0)
              refine hK.out _ _ ⟨HS0_, HS1_⟩ (fun hHeld => ?_)
              clear hK K
              refine norm_ (a' := ?_) ?_ ?_
              rotate_left
              · show Act.put _ (some 41) _ = _
                simp only [Act.put, List.setIfInBounds_toArray, List.set_cons_zero, List.set_cons_succ, i64_w, i32_w]
                rfl
              refine pure_ (i := 10) (N := some 12) (v := ?_) (a' := ?_) #[true, true, true, true, true, true, true, true, true, true, true, false] rfl rfl (any_of HT_.out (by kernel_rfl)) (fun _ _ _ h => h) (Or.inl ⟨by rfl, ?_⟩) ?_ ?_
              rotate_left
              · intro w'
                go_simp
                with_reducible rfl
              rotate_left
              · simp only [Act.put, List.setIfInBounds_toArray, List.set_cons_zero, List.set_cons_succ, i64_w, i32_w]
                rfl
              refine pure_ (i := 11) (N := some 13) (v := ?_) (a' := ?_) #[true, true, true, true, true, true, true, true, true, true, true, true] rfl rfl (any_of HT_.out (by kernel_rfl)) (fun _ _ _ h => h) (Or.inl ⟨by rfl, ?_⟩) ?_ ?_
              rotate_left
              · intro w'
                go_simp
                with_reducible rfl
              rotate_left
              · simp only [Act.put, List.setIfInBounds_toArray, List.set_cons_zero, List.set_cons_succ, i64_w, i32_w]
                rfl
              refine done_ (done_of HT_.out (by kernel_rfl)) ?_
              try go_wp2
              go_loopg [14] k1 (fun kq v14 w' => ∃ (x11_2 : List Int) (x14_2 : Int), v14 = .int .i64 x14_2 ∧ Aside0 (spec_l03Rows.l1 kq a2 x7_1 x8_1 x9_1 x10_1 x11_2 t221 t225 x14_2 = some r) ∧ Aside0 (kq ≤ k1) ∧ Aside0 (Kd.R (Kd.int .i64) 2 w' w.heap.size (fun k_ => some k_ ≠ ((.slice Ao20 x8_1.length co20) : Value).ownBlock ∧ some k_ ≠ (v218 : Value).ownBlock ∧ some k_ ≠ (v222 : Value).ownBlock ∧ some k_ ≠ (v226 : Value).ownBlock) (.slice (some ad220) x7_1.length co19) x7_1) ∧ Aside0 (Kd.R (Kd.int .i64) 2 w' w.heap.size (fun k_ => some k_ ≠ ((.slice (some ad220) x7_1.length co19) : Value).ownBlock ∧ some k_ ≠ (v218 : Value).ownBlock ∧ some k_ ≠ (v222 : Value).ownBlock ∧ some k_ ≠ (v226 : Value).ownBlock) (.slice Ao20 x8_1.length co20) x8_1) ∧ Aside0 (Kd.S (Kd.slice 2 (Kd.int .i64)) 22 w' w.heap.size (fun k_ => some k_ ≠ ((.slice (some ad220) x7_1.length co19) : Value).ownBlock ∧ some k_ ≠ ((.slice Ao20 x8_1.length co20) : Value).ownBlock ∧ some k_ ≠ (v218 : Value).ownBlock ∧ some k_ ≠ (v222 : Value).ownBlock ∧ some k_ ≠ (v226 : Value).ownBlock) u9 x9_1) ∧ Aside0 (Kd.R (Kd.int .i64) 2 w' w.heap.size (fun k_ => some k_ ≠ ((.slice (some ad220) x7_1.length co19) : Value).ownBlock ∧ some k_ ≠ ((.slice Ao20 x8_1.length co20) : Value).ownBlock ∧ some k_ ≠ (v222 : Value).ownBlock ∧ some k_ ≠ (v226 : Value).ownBlock) v218 x11_2) ∧ Aside0 (Kd.R (Kd.int .i64) 2 w' w.heap.size (fun k_ => some k_ ≠ ((.slice (some ad220) x7_1.length co19) : Value).ownBlock ∧ some k_ ≠ ((.slice Ao20 x8_1.length co20) : Value).ownBlock ∧ some k_ ≠ (v218 : Value).ownBlock ∧ some k_ ≠ (v226 : Value).ownBlock) v222 t221) ∧ Aside0 (Kd.R (Kd.int .i64) 2 w' w.heap.size (fun k_ => some k_ ≠ ((.slice (some ad220) x7_1.length co19) : Value).ownBlock ∧ some k_ ≠ ((.slice Ao20 x8_1.length co20) : Value).ownBlock ∧ some k_ ≠ (v218 : Value).ownBlock ∧ some k_ ≠ (v222 : Value).ownBlock) v226 t225) ∧ Aside0 (w'.heap[gb207]? = some (.cells #[.int .i64 a0_0, (.slice A0_1 l0_1.length c0_1)] 28 (0, 0))) ∧ Aside0 (Below w.heap.size w w'))
              case atStart => exact ⟨(y217), (0), (by first | rfl | (simp; done) | (simp [*]; done)), H', ⟨Nat.le_refl _⟩, ⟨by (with_reducible repeat (first | apply Kd.R_alloc | apply Kd.R_drewN | apply Kd.R_drew)); exact Kd.R_mono HO_7.out (fun _ hk => ⟨hk.1.1.1, ⟨hk.1.1.2, ⟨hk.1.2, hk.2⟩⟩⟩)⟩, ⟨by (with_reducible repeat (first | apply Kd.R_alloc | apply Kd.R_drewN | apply Kd.R_drew)); exact Kd.R_mono HO_8.out (fun _ hk => ⟨hk.1.1.1, ⟨hk.1.1.2, ⟨hk.1.2, hk.2⟩⟩⟩)⟩, ⟨by (with_reducible repeat (first | apply Kd.S_alloc | apply Kd.S_drewN | apply Kd.S_drew)); exact Kd.S_mono HO_9.out (fun _ hk => ⟨hk.1.1.1.1, ⟨hk.1.1.1.2, ⟨hk.1.1.2, ⟨hk.1.2, hk.2⟩⟩⟩⟩)⟩, ⟨by (with_reducible repeat (first | apply Kd.R_alloc | apply Kd.R_drewN | apply Kd.R_drew)); exact Kd.R_mono HO219.out (fun _ hk => ⟨hk.1.1.1.2, ⟨hk.1.1.2, ⟨hk.1.2, hk.2⟩⟩⟩)⟩, ⟨by (with_reducible repeat (first | apply Kd.R_alloc | apply Kd.R_drewN | apply Kd.R_drew)); exact Kd.R_mono HO223.out (fun _ hk => ⟨hk.1.1.1.2, ⟨hk.1.1.2, ⟨hk.1.2, hk.2⟩⟩⟩)⟩, ⟨by (with_reducible repeat (first | apply Kd.R_alloc | apply Kd.R_drewN | apply Kd.R_drew)); exact Kd.R_mono HO227.out (fun _ hk => ⟨hk.1.1.1.2, ⟨hk.1.1.2, ⟨hk.1.2, hk.2⟩⟩⟩)⟩, ⟨by (with_reducible repeat (first | refine blk_drewN ?_ _ | refine blk_drew ?_ | refine blk_alloc ?_ _)); exact BK207.out⟩, ⟨by repeat (first | (with_reducible first | exact HB.out | apply below_alloc | apply pw_below_drewN | apply below_drew1 | refine below_set ?_ GE207.out) | exact HB.out)⟩⟩
              case round =>
                clear H'
                try clear c1
                try clear p2
                try clear q2
                try clear hx2
                try clear c4
                try clear c6
                try clear p6
                try clear c9
                try clear c10
                try clear c13
                try clear c13b0
                try clear c14
                try clear c14b0
                try clear c14b1
                try clear c15
                try clear c15b0
                try clear c15b1
                try clear c16
                try clear c16b0
                try clear p22
                try clear q22
                try clear hx22
                try clear hx220_0
                try clear hx224_0
                try clear p2
                try clear p220
                try clear p224
                try clear p6
                try clear q220
                try clear q224
                obtain ⟨x11_2, x14_2, rfl, HA, HK2, HO_7, HO_8, HO_9, HO_11, HO_12, HO_13, BK207, HB⟩ := hrel
                cases gk with
                | zero => exact absurd HA.out (by simp [spec_l03Rows.l1])
                | succ k2 =>
                  have H := HA.out
                  clear HA
                  simp only [spec_l03Rows.l1] at H
                  by_cases c26 : x14_2 < (t221.length : Int)
                  · rw [if_pos c26] at H
                    have c26b0 : decide (x14_2 < (t221.length : Int)) = true := decide_eq_true c26
                    clear c26
                    by_cases c27 : 0 ≤ x14_2
                    · rw [if_pos c27] at H
                      have c27b0 : decide (0 ≤ x14_2) = true := decide_eq_true c27
                      clear c27
                      replace H := Option.bind_eq_some_iff.mp H
                      obtain ⟨t229, A280, H⟩ := H
                      replace H : (if x14_2 < (t225.length : Int) then (if a2 = 0 then (none) else (if 0 ≤ t229 then (if t229 < (x11_2.length : Int) then (spec_l03Rows.l1 k2 a2 x7_1 x8_1 x9_1 x10_1 (x11_2.set (t229 : Int).toNat (Int.tmod (wrap64 ((rd t225 x14_2) + a2)) a2)) t221 t225 (wrap64 (x14_2 + 1))) else (none)) else (none))) else (none)) = some r := H
                      have A28 := Aside0.mk A280
                      clear A280
                      by_cases c29 : x14_2 < (t225.length : Int)
                      · rw [if_pos c29] at H
                        have c29b0 : decide (x14_2 < (t225.length : Int)) = true := decide_eq_true c29
                        clear c29
                        by_cases c30 : a2 = 0
                        · rw [if_pos c30] at H
                          exact absurd H (by simp)
                        · rw [if_neg c30] at H
                          have c30b0 : (a2 == 0) = false := beq_eq_false_iff_ne.mpr c30
                          have c30b1 : (a2 != 0) = true := bne_iff_ne.mpr c30
                          by_cases c31 : 0 ≤ t229
                          · rw [if_pos c31] at H
                            have c31b0 : decide (0 ≤ t229) = true := decide_eq_true c31
                            clear c31
                            by_cases c32 : t229 < (x11_2.length : Int)
                            · rw [if_pos c32] at H
                              have c32b0 : decide (t229 < (x11_2.length : Int)) = true := decide_eq_true c32
                              clear c32
                              obtain ⟨y231, hy231⟩ : ∃ y_ : List Int, y_ = (x11_2.set (t229 : Int).toNat (Int.tmod (wrap64 ((rd t225 x14_2) + a2)) a2)) := ⟨_, rfl⟩
                              replace H : (spec_l03Rows.l1 k2 a2 x7_1 x8_1 x9_1 x10_1 y231 t221 t225 (wrap64 (x14_2 + 1))) = some r := by first | (rw [hy231]; with_reducible exact H) | (have H2_ := (Option.bind_some _ _).symm.trans H; rw [hy231]; with_reducible exact H2_) | (have H2_ := (Option.bind_some _ _).symm.trans H; with_reducible exact H2_) | with_reducible exact H | (rw [hy231]; exact H) | exact H
                              have Ny231 := Aside0.mk hy231
                              clear hy231
                              have H' := Aside0.mk H
                              clear H
                              obtain ⟨Ao34, co34, eo34⟩ := Kd.R_slice HO_12.out
                              subst eo34
                              try go_wp2
                              have n0_ := Aside0.mk (Kd.R_drew HO_7.out)
                              have n1_ := Aside0.mk (Kd.R_drew HO_8.out)
                              have n2_ := Aside0.mk (Kd.S_drew HO_9.out)
                              have n3_ := Aside0.mk (Kd.R_drew HO_11.out)
                              have n4_ := Aside0.mk (Kd.R_drew HO_12.out)
                              have n5_ := Aside0.mk (Kd.R_drew HO_13.out)
                              have n6_ := Aside0.mk (blk_drew BK207.out)
                              have n7_ := Aside0.mk (below_drew1 HB.out)
                              clear HO_7
                              clear HO_8
                              clear HO_9
                              clear HO_11
                              clear HO_12
                              clear HO_13
                              clear BK207
                              clear HB
                              have HO_7 := n0_
                              have HO_8 := n1_
                              have HO_9 := n2_
                              have HO_11 := n3_
                              have HO_12 := n4_
                              have HO_13 := n5_
                              have BK207 := n6_
                              have HB := n7_
                              clear n0_ n1_ n2_ n3_ n4_ n5_ n6_ n7_
                              have p228 : 0 ≤ (x14_2 : Int) := of_decide_eq_true (by first | (with_reducible assumption) | assumption)
                              have q228 : x14_2 < (t221.length : Int) := of_decide_eq_true (by first | (with_reducible assumption) | assumption)
                              obtain ⟨ad228, e228, hx228_0⟩ := Kd.at_int (Kd.R_reads' HO_12.out).2.2 x14_2 p228 q228
                              cases e228
                              replace p228 := eq_true p228
                              replace q228 := eq_true q228
                              obtain ⟨Ao36, co36, eo36⟩ := Kd.R_slice HO_13.out
                              (first | subst eo36 | (injection eo36 with f1_ f2_ f3_; have f4_ := f1_.symm; have f5_ := f3_.symm; clear f1_ f2_ f3_; subst f4_; subst f5_))
                              have p230 : 0 ≤ (x14_2 : Int) := of_decide_eq_true (by first | (with_reducible assumption) | assumption)
                              have q230 : x14_2 < (t225.length : Int) := of_decide_eq_true (by first | (with_reducible assumption) | assumption)
                              obtain ⟨ad230, e230, hx230_0⟩ := Kd.at_int (Kd.R_reads' HO_13.out).2.2 x14_2 p230 q230
                              cases e230
                              replace p230 := eq_true p230
                              replace q230 := eq_true q230
                              refine start_ (n := 17) (S := fun w' => w'.cell? (ad228.add (x14_2).toNat) = some (.int .i64 (rd t221 x14_2)) ∧ w'.cell? (ad230.add (x14_2).toNat) = some (.int .i64 (rd t225 x14_2))) (ds := [16]) #[false, false, false, false, false, false, false, false, false, false, false, false, false, false, false, false, false] (by kernel_rfl) rfl rfl ⟨hx228_0, hx230_0⟩ (fun hHeld => ?_); refine with_tabW spec_l03Rows.tab10 spec_l03Rows.bits10 (fun HT_ HW_ => ?_)
                              generalize wr.drew = w35 at HO_7 HO_8 HO_9 HO_11 HO_12 HO_13 BK207 HB hx228_0 hx230_0 hHeld ⊢
                              refine pure_ (i := 0) (N := some 48) (v := ?_) (a' := ?_) #[true, false, false, false, false, false, false, false, false, false, false, false, false, false, false, false, false] rfl rfl (any_of HT_.out (by kernel_rfl)) (fun _ _ _ h => h) (Or.inl ⟨by rfl, ?_⟩) ?_ ?_
                              rotate_left
                              · intro w'
                                go_simp
                                with_reducible rfl
                              rotate_left
                              · simp only [Act.put, List.setIfInBounds_toArray, List.set_cons_zero, List.set_cons_succ, i64_w, i32_w]
                                rfl
                              refine pure_ (i := 1) (N := some 49) (v := ?_) (a' := ?_) #[true, true, false, false, false, false, false, false, false, false, false, false, false, false, false, false, false] rfl rfl (any_of HT_.out (by kernel_rfl)) (fun _ _ _ h => h) (Or.inl ⟨by rfl, ?_⟩) ?_ ?_
                              rotate_left
                              · intro w'
                                go_simp
                                with_reducible rfl
                              rotate_left
                              · simp only [Act.put, List.setIfInBounds_toArray, List.set_cons_zero, List.set_cons_succ, i64_w, i32_w]
                                rfl
                              refine pure_ (i := 2) (N := some 50) (v := ?_) (a' := ?_) #[true, true, true, false, false, false, false, false, false, false, false, false, false, false, false, false, false] rfl rfl (any_of HT_.out (by kernel_rfl)) (fun _ _ _ h => h) (Or.inl ⟨by rfl, ?_⟩) ?_ ?_
                              rotate_left
                              · intro w'
                                go_simp
                                with_reducible rfl
                              rotate_left
                              · simp only [Act.put, List.setIfInBounds_toArray, List.set_cons_zero, List.set_cons_succ, i64_w, i32_w]
                                rfl
                              refine pure_ (i := 3) (N := some 51) (v := ?_) (a' := ?_) #[true, true, true, true, false, false, false, false, false, false, false, false, false, false, false, false, false] rfl rfl (any_of HT_.out (by kernel_rfl)) (fun _ _ _ h => h) (Or.inl ⟨by rfl, ?_⟩) ?_ ?_
                              rotate_left
                              · intro w'
                                go_simp
                                with_reducible rfl
                              rotate_left
                              · simp only [Act.put, List.setIfInBounds_toArray, List.set_cons_zero, List.set_cons_succ, i64_w, i32_w]
                                rfl
                              refine pure_ (i := 4) (N := some 52) (v := ?_) (a' := ?_) #[true, true, true, true, true, false, false, false, false, false, false, false, false, false, false, false, false] rfl rfl (any_of HT_.out (by kernel_rfl)) (fun _ _ _ h => h) (Or.inl ⟨by rfl, ?_⟩) ?_ ?_
                              rotate_left
                              · intro w'
                                go_simp
                                with_reducible rfl
                              rotate_left
                              · simp only [Act.put, List.setIfInBounds_toArray, List.set_cons_zero, List.set_cons_succ, i64_w, i32_w]
                                rfl
                              refine pure_ (i := 7) (N := some 55) (v := ?_) (a' := ?_) #[true, true, true, true, true, false, false, true, false, false, false, false, false, false, false, false, false] rfl rfl (any_of HT_.out (by kernel_rfl)) (fun _ _ _ h => h) (Or.inl ⟨by rfl, ?_⟩) ?_ ?_
                              rotate_left
                              · intro w'
                                go_simp
                                with_reducible rfl
                              rotate_left
                              · simp only [Act.put, List.setIfInBounds_toArray, List.set_cons_zero, List.set_cons_succ, i64_w, i32_w]
                                rfl
                              refine pure_ (i := 8) (N := some 56) (v := ?_) (a' := ?_) #[true, true, true, true, true, false, false, true, true, false, false, false, false, false, false, false, false] rfl rfl (any_of HT_.out (by kernel_rfl)) (fun _ _ _ h => h) (Or.inl ⟨by rfl, ?_⟩) ?_ ?_
                              rotate_left
                              · intro w'
                                go_simp
                                with_reducible rfl
                              rotate_left
                              · simp only [Act.put, List.setIfInBounds_toArray, List.set_cons_zero, List.set_cons_succ, i64_w, i32_w]
                                rfl
                              refine pure_ (i := 9) (N := some 57) (v := ?_) (a' := ?_) #[true, true, true, true, true, false, false, true, true, true, false, false, false, false, false, false, false] rfl rfl (any_of HT_.out (by kernel_rfl)) (fun _ _ _ h => h) (Or.inl ⟨by rfl, ?_⟩) ?_ ?_
                              rotate_left
                              · intro w'
                                go_simp
                                with_reducible rfl
                              rotate_left
                              · simp only [Act.put, List.setIfInBounds_toArray, List.set_cons_zero, List.set_cons_succ, i64_w, i32_w]
                                rfl
                              refine pure_ (i := 11) (N := some 59) (v := ?_) (a' := ?_) #[true, true, true, true, true, false, false, true, true, true, false, true, false, false, false, false, false] rfl rfl (any_of HT_.out (by kernel_rfl)) (fun _ _ _ h => h) (Or.inl ⟨by rfl, ?_⟩) ?_ ?_
                              rotate_left
                              · intro w'
                                go_simp
                                with_reducible rfl
                              rotate_left
                              · simp only [Act.put, List.setIfInBounds_toArray, List.set_cons_zero, List.set_cons_succ, i64_w, i32_w]
                                rfl
                              refine pure_ (i := 13) (N := some 61) (v := ?_) (a' := ?_) #[true, true, true, true, true, false, false, true, true, true, false, true, false, true, false, false, false] rfl rfl (any_of HT_.out (by kernel_rfl)) (fun _ _ _ h => h) (Or.inl ⟨by rfl, ?_⟩) ?_ ?_
                              rotate_left
                              · intro w'
                                go_simp
                                with_reducible rfl
                              rotate_left
                              · simp only [Act.put, List.setIfInBounds_toArray, List.set_cons_zero, List.set_cons_succ, i64_w, i32_w]
                                rfl
                              refine take_ (i := 5) (N := some 53) (v := ?_) (a' := ?_) #[true, true, true, true, true, true, false, true, true, true, false, true, false, true, false, false, false] rfl rfl (take_ofW HT_.out HW_.out (by kernel_rfl)) (fun _ _ _ h => h) (Or.inl ⟨by rfl, ?_⟩) hHeld ?_ ?_
                              rotate_left
                              · rintro w' ⟨s0, s1⟩
                                go_simp
                                with_reducible rfl
                              rotate_left
                              · simp only [Act.put, List.setIfInBounds_toArray, List.set_cons_zero, List.set_cons_succ, i64_w, i32_w]
                                rfl
                              refine take_ (i := 10) (N := some 58) (v := ?_) (a' := ?_) #[true, true, true, true, true, true, false, true, true, true, true, true, false, true, false, false, false] rfl rfl (take_ofW HT_.out HW_.out (by kernel_rfl)) (fun _ _ _ h => h) (Or.inl ⟨by rfl, ?_⟩) hHeld ?_ ?_
                              rotate_left
                              · rintro w' ⟨s0, s1⟩
                                go_simp
                                with_reducible rfl
                              rotate_left
                              · simp only [Act.put, List.setIfInBounds_toArray, List.set_cons_zero, List.set_cons_succ, i64_w, i32_w]
                                rfl
                              refine pure_ (i := 12) (N := some 60) (v := ?_) (a' := ?_) #[true, true, true, true, true, true, false, true, true, true, true, true, true, true, false, false, false] rfl rfl (any_of HT_.out (by kernel_rfl)) (fun _ _ _ h => h) (Or.inl ⟨by rfl, ?_⟩) ?_ ?_
                              rotate_left
                              · intro w'
                                go_simp
                                with_reducible rfl
                              rotate_left
                              · simp only [Act.put, List.setIfInBounds_toArray, List.set_cons_zero, List.set_cons_succ, i64_w, i32_w]
                                rfl
                              refine pure_ (i := 14) (N := some 62) (v := ?_) (a' := ?_) #[true, true, true, true, true, true, false, true, true, true, true, true, true, true, true, false, false] rfl rfl (any_of HT_.out (by kernel_rfl)) (fun _ _ _ h => h) (Or.inl ⟨by rfl, ?_⟩) ?_ ?_
                              rotate_left
                              · intro w'
                                go_simp
                                with_reducible rfl
                              rotate_left
                              · simp only [Act.put, List.setIfInBounds_toArray, List.set_cons_zero, List.set_cons_succ, i64_w, i32_w]
                                rfl
                              refine one_ (i := 6) (N := some 54) #[true, true, true, true, true, true, true, true, true, true, true, true, true, true, true, false, false] rfl rfl (one_of HT_.out (by kernel_rfl)) (by decide) (fun K hK => ?_)
                              refine goes_ Try.func107 (by kernel_rfl) rfl #[.slice Ao20 x8_1.length co20, .int .i64 (rd t221 x14_2)] (by rfl) rfl rfl (by (try simp only [List.map_toArray, List.map_cons, List.map_nil]); first | done | rfl | (simp only [List.length_drop, List.length_take]; rfl)) ?_
                              with_reducible refine (spec_l03Place.calls k2 _ _ x8_1 (rd t221 x14_2) t229 _ ?side1 ?side2 A28.out).mono ?_
                              (case side1 => repeat (first | exact (Kd.R_reads' HO_8.out).2.2 | (with_reducible refine Kd.C_alloc ?_ _) | (with_reducible refine Kd.C_drewN ?_ _) | (with_reducible refine Kd.C_drew ?_)))
                              (case side2 => exact (Kd.R_reads' HO_8.out).2.1)
                              rintro e w' ⟨rfl, ⟨nd, rfl⟩⟩
                              refine ⟨_, rfl, ?_⟩
                              have p33 : 0 ≤ (t229 : Int) := of_decide_eq_true (by first | (with_reducible assumption) | assumption)
                              have q33 : (t229 : Int) < ((x11_2.length : Int) : Int) := of_decide_eq_true (by first | (with_reducible assumption) | assumption)
                              obtain ⟨go33, co33, eo33, gb33, gl33, cl33, HG33⟩ := Kd.R_form HO_11.out (by omega)
                              (first | cases eo33 | (injection eo33 with ea_ en_ ec_; (first | subst ea_ | (injection ea_ with ea_; subst ea_)); subst ec_; clear en_))
                              have GB33 := Aside0.mk gb33
                              have GG33 := Aside0.mk HG33
                              clear gb33 gl33 HG33
                              obtain ⟨hx33_0, hf33_0⟩ := Kd.R_celln 0 HO_11.out (t229 : Int) p33 q33
                              replace p33 := eq_true p33
                              replace q33 := eq_true q33
                              have HP37 := Kd.R_putn HO_11.out (t229 : Int) (Int.tmod (wrap64 ((rd t225 x14_2) + a2)) a2)
                              rw [← Ny231.out] at HP37
                              have HQ37 := Aside0.mk HP37
                              clear HP37
                              refine hK.out _ _ ⟨hHeld.1, hHeld.2⟩ (fun hHeld => ?_)
                              clear hK K
                              refine norm_ (a' := ?_) ?_ ?_
                              rotate_left
                              · show Act.put _ (some 54) _ = _
                                simp only [Act.put, List.setIfInBounds_toArray, List.set_cons_zero, List.set_cons_succ, i64_w, i32_w]
                                rfl
                              refine pure_ (i := 15) (N := some 63) (v := ?_) (a' := ?_) #[true, true, true, true, true, true, true, true, true, true, true, true, true, true, true, true, false] rfl rfl (any_of HT_.out (by kernel_rfl)) (fun _ _ _ h => h) (Or.inl ⟨by rfl, ?_⟩) ?_ ?_
                              rotate_left
                              · intro w'
                                go_simp
                                with_reducible rfl
                              rotate_left
                              · simp only [Act.put, List.setIfInBounds_toArray, List.set_cons_zero, List.set_cons_succ, i64_w, i32_w]
                                rfl
                              refine last_ (i := 16) (N := none) #[true, true, true, true, true, true, true, true, true, true, true, true, true, true, true, true, true] rfl rfl (one_of HT_.out (by kernel_rfl)) (by decide) (fun K hK => ?_)
                              refine skip_ (w1 := ?_) (by rfl) rfl ?_ ?_
                              rotate_left
                              · go_simp
                                rfl
                              refine hK.out _ _ ?_
                              clear hK K
                              refine done_ (done_of HT_.out (by kernel_rfl)) ?_
                              try go_wp2
                              go_roundg k2
                              case measure => have := HK1.out; have := HK2.out; omega
                              case rel => exact ⟨(y231), (wrap64 (x14_2 + 1)), (by first | rfl | (simp; done) | (simp [*]; done)), H', ⟨by have := HK1.out; have := HK2.out; omega⟩, ⟨by (with_reducible repeat (first | apply Kd.R_alloc | apply Kd.R_drewN | apply Kd.R_drew)); exact Kd.R_mono (Kd.R_far (p := ⟨go33, (t229 : Int).toNat, none⟩) (Kd.R_mono HO_7.out (fun k_ hk => (⟨hk, fun e_ => hk.2.1 (by rw [e_]; rfl)⟩ : _ ∧ k_ ≠ go33))) (fun _ hk => hk.2) (.int .i64 (Int.tmod (wrap64 ((rd t225 x14_2) + a2)) a2))) (fun _ hk => ⟨hk.1.1, ⟨hk.1.2.1, ⟨hk.1.2.2.1, hk.1.2.2.2⟩⟩⟩)⟩, ⟨by (with_reducible repeat (first | apply Kd.R_alloc | apply Kd.R_drewN | apply Kd.R_drew)); exact Kd.R_mono (Kd.R_far (p := ⟨go33, (t229 : Int).toNat, none⟩) (Kd.R_mono HO_8.out (fun k_ hk => (⟨hk, fun e_ => hk.2.1 (by rw [e_]; rfl)⟩ : _ ∧ k_ ≠ go33))) (fun _ hk => hk.2) (.int .i64 (Int.tmod (wrap64 ((rd t225 x14_2) + a2)) a2))) (fun _ hk => ⟨hk.1.1, ⟨hk.1.2.1, ⟨hk.1.2.2.1, hk.1.2.2.2⟩⟩⟩)⟩, ⟨by (with_reducible repeat (first | apply Kd.S_alloc | apply Kd.S_drewN | apply Kd.S_drew)); exact Kd.S_mono (Kd.S_far (p := ⟨go33, (t229 : Int).toNat, none⟩) (Kd.S_mono HO_9.out (fun k_ hk => (⟨hk, fun e_ => hk.2.2.1 (by rw [e_]; rfl)⟩ : _ ∧ k_ ≠ go33))) (fun _ hk => hk.2) (.int .i64 (Int.tmod (wrap64 ((rd t225 x14_2) + a2)) a2))) (fun _ hk => ⟨hk.1.1, ⟨hk.1.2.1, ⟨hk.1.2.2.1, ⟨hk.1.2.2.2.1, hk.1.2.2.2.2⟩⟩⟩⟩)⟩, ⟨by (with_reducible repeat (first | apply Kd.R_alloc | apply Kd.R_drewN | apply Kd.R_drew)); exact HQ37.out⟩, ⟨by (with_reducible repeat (first | apply Kd.R_alloc | apply Kd.R_drewN | apply Kd.R_drew)); exact Kd.R_mono (Kd.R_far (p := ⟨go33, (t229 : Int).toNat, none⟩) (Kd.R_mono HO_12.out (fun k_ hk => (⟨hk, fun e_ => hk.2.2.1 (by rw [e_]; rfl)⟩ : _ ∧ k_ ≠ go33))) (fun _ hk => hk.2) (.int .i64 (Int.tmod (wrap64 ((rd t225 x14_2) + a2)) a2))) (fun _ hk => ⟨hk.1.1, ⟨hk.1.2.1, ⟨hk.1.2.2.1, hk.1.2.2.2⟩⟩⟩)⟩, ⟨by (with_reducible repeat (first | apply Kd.R_alloc | apply Kd.R_drewN | apply Kd.R_drew)); exact Kd.R_mono (Kd.R_far (p := ⟨go33, (t229 : Int).toNat, none⟩) (Kd.R_mono HO_13.out (fun k_ hk => (⟨hk, fun e_ => hk.2.2.1 (by rw [e_]; rfl)⟩ : _ ∧ k_ ≠ go33))) (fun _ hk => hk.2) (.int .i64 (Int.tmod (wrap64 ((rd t225 x14_2) + a2)) a2))) (fun _ hk => ⟨hk.1.1, ⟨hk.1.2.1, ⟨hk.1.2.2.1, hk.1.2.2.2⟩⟩⟩)⟩, ⟨by (with_reducible repeat (first | refine blk_drewN ?_ _ | refine blk_drew ?_ | refine blk_alloc ?_ _)); refine blk_far ?_ (by have h_ := Kd.R_ne HO_11.out BK207.out (by decide); intro e_; exact h_ (by rw [e_]; rfl)) _; (with_reducible repeat (first | refine blk_drewN ?_ _ | refine blk_drew ?_ | refine blk_alloc ?_ _)); exact BK207.out⟩, ⟨by repeat (first | (with_reducible first | exact HB.out | apply below_alloc | apply pw_below_drewN | apply below_drew1 | refine below_set ?_ GB33.out | refine below_set ?_ GE207.out) | exact HB.out)⟩⟩
                            · rw [if_neg c32] at H
                              exact absurd H (by simp)
                          · rw [if_neg c31] at H
                            exact absurd H (by simp)
                      · rw [if_neg c29] at H
                        exact absurd H (by simp)
                    · rw [if_neg c27] at H
                      exact absurd H (by simp)
                  · rw [if_neg c26] at H
                    have c26b0 : decide (x14_2 < (t221.length : Int)) = false := decide_eq_false c26
                    clear c26
                    by_cases c38 : x9_1.length < 5864062014805
                    · rw [if_pos c38] at H
                      have LMc38 := Aside0.mk c38
                      clear c38
                      obtain ⟨y232, hy232⟩ : ∃ y_ : List (List Int), y_ = (x9_1 ++ [x11_2]) := ⟨_, rfl⟩
                      replace H : (spec_l03Rows.l0 k2 a2 x7_1 x8_1 y232 (wrap64 (x10_1 + 1))) = some r := by first | (rw [hy232]; with_reducible exact H) | (have H2_ := (Option.bind_some _ _).symm.trans H; rw [hy232]; with_reducible exact H2_) | (have H2_ := (Option.bind_some _ _).symm.trans H; with_reducible exact H2_) | with_reducible exact H | (rw [hy232]; exact H) | exact H
                      have Ny232 := Aside0.mk hy232
                      clear hy232
                      have H' := Aside0.mk H
                      clear H
                      obtain ⟨Ao39, co39, eo39⟩ := Kd.R_slice HO_12.out
                      subst eo39
                      obtain ⟨Ao41, co41, eo41⟩ := Kd.R_slice HO_11.out
                      subst eo41
                      go_wp2_with (first | ((with_reducible refine gate_builtin (b := .append) (xs := #[.tmp 64, .tmp 66]) rfl ?_); at_builtin; refine Kd.S_append (Kd.slice 2 (Kd.int .i64)) (w0 := w) w.heap.size rfl (.tmp 64) (.tmp 66) 85 22 (.slice none 0 0) 24 rfl Try.underlying85 info22 rfl (by decide) (by omega) u9 x9_1 x11_2 [.slice Ao41 x11_2.length co41] (fun k_ => some k_ ≠ (.slice (some ad220) x7_1.length co19 : Value).ownBlock ∧ some k_ ≠ (.slice Ao20 x8_1.length co20 : Value).ownBlock ∧ some k_ ≠ (.slice Ao39 t221.length co39 : Value).ownBlock ∧ some k_ ≠ (v226 : Value).ownBlock) (fun k_ => some k_ = (.slice Ao41 x11_2.length co41 : Value).ownBlock) rfl rfl ?aP (fun k_ hk_ => ((Kd.R_mono (ok' := fun k_ => ((fun k_ => some k_ ≠ (.slice (some ad220) x7_1.length co19 : Value).ownBlock ∧ some k_ ≠ (.slice Ao20 x8_1.length co20 : Value).ownBlock ∧ some k_ ≠ (.slice Ao39 t221.length co39 : Value).ownBlock ∧ some k_ ≠ (v226 : Value).ownBlock)) k_ ∧ some k_ ≠ (u9 : Value).ownBlock) (Kd.R_apart' (HO_11.out) (Kd.S_typed HO_9.out) (by decide)) (fun k_ hk => ⟨⟨hk.1.1, ⟨hk.1.2.1, ⟨hk.1.2.2.1, hk.1.2.2.2⟩⟩⟩, hk.2⟩))).1 k_ hk_.symm) ?aF ?aO ?aB ?aS ?aL ?_; (case aP => exact Kd.M_row (Kd.R_mono (Kd.R_tight rfl (Kd.R_mono (ok' := fun k_ => ((fun k_ => some k_ ≠ (.slice (some ad220) x7_1.length co19 : Value).ownBlock ∧ some k_ ≠ (.slice Ao20 x8_1.length co20 : Value).ownBlock ∧ some k_ ≠ (.slice Ao39 t221.length co39 : Value).ownBlock ∧ some k_ ≠ (v226 : Value).ownBlock)) k_ ∧ some k_ ≠ (u9 : Value).ownBlock) (Kd.R_apart' (HO_11.out) (Kd.S_typed HO_9.out) (by decide)) (fun k_ hk => ⟨⟨hk.1.1, ⟨hk.1.2.1, ⟨hk.1.2.2.1, hk.1.2.2.2⟩⟩⟩, hk.2⟩))) (fun _ h_ => h_))); (case aB => exact (by repeat (first | (with_reducible first | exact HB.out | apply below_alloc | apply pw_below_drewN | apply below_drew1 | refine below_set ?_ GE207.out) | exact HB.out))); (case aF => exact (fun k_ hk => ⟨Kd.fresh' (Kd.R_lt (by (with_reducible repeat (first | apply Kd.R_alloc | apply Kd.R_drewN | apply Kd.R_drew)); exact HO_7.out)) k_ hk, Kd.fresh' (Kd.R_lt (by (with_reducible repeat (first | apply Kd.R_alloc | apply Kd.R_drewN | apply Kd.R_drew)); exact HO_8.out)) k_ hk, Kd.fresh' (Kd.R_lt (by (with_reducible repeat (first | apply Kd.R_alloc | apply Kd.R_drewN | apply Kd.R_drew)); exact HO_12.out)) k_ hk, Kd.fresh' (Kd.R_lt (by (with_reducible repeat (first | apply Kd.R_alloc | apply Kd.R_drewN | apply Kd.R_drew)); exact HO_13.out)) k_ hk⟩)); (case aO => exact (by (with_reducible repeat (first | apply Kd.S_alloc | apply Kd.S_drewN | apply Kd.S_drew)); exact Kd.S_mono HO_9.out (fun k_ hk => ⟨⟨hk.1, ⟨hk.2.1, ⟨hk.2.2.2.1, hk.2.2.2.2⟩⟩⟩, fun e_ => hk.2.2.1 e_⟩))); (case aS => exact (below_size (by repeat (first | (with_reducible first | exact HB.out | apply below_alloc | apply pw_below_drewN | apply below_drew1 | refine below_set ?_ GE207.out) | exact HB.out)))); (case aL => have := LMc38.out; omega); intro v233 w40 ho hb hg hat; rw [← Ny232.out] at ho; have n0_ := Aside0.mk (Kd.R_over' (by (with_reducible repeat (first | apply Kd.R_alloc | apply Kd.R_drewN | apply Kd.R_drew)); exact HO_7.out) (Kd.S_typed (by (with_reducible repeat (first | apply Kd.S_alloc | apply Kd.S_drewN | apply Kd.S_drew)); exact HO_9.out)) (by decide) hg); have n1_ := Aside0.mk (Kd.R_over' (by (with_reducible repeat (first | apply Kd.R_alloc | apply Kd.R_drewN | apply Kd.R_drew)); exact HO_8.out) (Kd.S_typed (by (with_reducible repeat (first | apply Kd.S_alloc | apply Kd.S_drewN | apply Kd.S_drew)); exact HO_9.out)) (by decide) hg); have n2_ := Aside0.mk (Kd.R_over' (by (with_reducible repeat (first | apply Kd.R_alloc | apply Kd.R_drewN | apply Kd.R_drew)); exact HO_12.out) (Kd.S_typed (by (with_reducible repeat (first | apply Kd.S_alloc | apply Kd.S_drewN | apply Kd.S_drew)); exact HO_9.out)) (by decide) hg); have n3_ := Aside0.mk (Kd.R_over' (by (with_reducible repeat (first | apply Kd.R_alloc | apply Kd.R_drewN | apply Kd.R_drew)); exact HO_13.out) (Kd.S_typed (by (with_reducible repeat (first | apply Kd.S_alloc | apply Kd.S_drewN | apply Kd.S_drew)); exact HO_9.out)) (by decide) hg); have n4_ := Aside0.mk (blk_grown (g := gb207) (o := .cells #[.int .i64 a0_0, .slice A0_1 l0_1.length c0_1] 28 (0, 0)) (by (with_reducible repeat (first | refine blk_drewN ?_ _ | refine blk_drew ?_ | refine blk_alloc ?_ _)); exact BK207.out) hg (Kd.S_ne HO_9.out BK207.out (by decide))); have n5_ := Aside0.mk (hb); have n6_ := Aside0.mk (ho); clear HO_7; clear HO_8; clear HO_12; clear HO_13; clear BK207; clear HB; clear HO_9; clear HO_11; have HO_7 := n0_; have HO_8 := n1_; have HO_12 := n2_; have HO_13 := n3_; have BK207 := n4_; have HB := n5_; have HO234 := n6_; clear n0_ n1_ n2_ n3_ n4_ n5_ n6_; clear ho hb hg hat))
                      go_roundg k2
                      case measure => have := HK1.out; have := HK2.out; omega
                      case rel => exact ⟨(x7_1), (x8_1), (y232), (wrap64 (x10_1 + 1)), (by first | rfl | (simp; done) | (simp [*]; done)), H', ⟨by have := HK1.out; have := HK2.out; omega⟩, ⟨by (with_reducible repeat (first | apply Kd.R_alloc | apply Kd.R_drewN | apply Kd.R_drew)); exact Kd.R_mono HO_7.out (fun _ hk => hk.1)⟩, ⟨by (with_reducible repeat (first | apply Kd.R_alloc | apply Kd.R_drewN | apply Kd.R_drew)); exact Kd.R_mono HO_8.out (fun _ hk => hk.1)⟩, ⟨by (with_reducible repeat (first | apply Kd.S_alloc | apply Kd.S_drewN | apply Kd.S_drew)); exact Kd.S_mono HO234.out (fun _ hk => ⟨hk.1, hk.2.1⟩)⟩, ⟨by (with_reducible repeat (first | refine blk_drewN ?_ _ | refine blk_drew ?_ | refine blk_alloc ?_ _)); exact BK207.out⟩, ⟨by repeat (first | (with_reducible first | exact HB.out | apply below_alloc | apply pw_below_drewN | apply below_drew1 | refine below_set ?_ GE207.out) | exact HB.out)⟩⟩
                    · rw [if_neg c38] at H
                      exact absurd H (by simp)
            · rw [if_neg c16] at H
              exact absurd H (by simp)
          · rw [if_neg c15] at H
            exact absurd H (by simp)
        · rw [if_neg c14] at H
          exact absurd H (by simp)
      · rw [if_neg c13] at H
        have c13b0 : decide (x10_1 < (x7_1.length : Int)) = false := decide_eq_false c13
        clear c13
        obtain rfl := Option.some.inj H
        obtain ⟨Ao42, co42, eo42⟩ := Kd.R_slice HO_7.out
        subst eo42
        go_wp2
        go_ret
        exact ⟨_, by first | rfl | (simp [errW_none, errW_some] <;> rfl) | (simp [*, errW_none, errW_some] <;> rfl), by (with_reducible repeat (first | apply Kd.S_alloc | apply Kd.S_drewN | apply Kd.S_drew)); exact Kd.S_mono HO_9.out (fun _ hk => trivial), by repeat (first | (with_reducible first | exact HB.out | apply below_alloc | apply pw_below_drewN | apply below_drew1 | refine below_set ?_ GE207.out) | exact HB.out)⟩

end Go.Proofs.Ythganpmmhfoodaa.Q
end

section
/- The reference's rows of a boundary's matrix. -/
namespace Go.Proofs.Ythganpmmhfoodaa.K
open Go.RowKit Go.Shelf Go.Proofs.Ythganpmmhfoodaa.Q Go.Proofs.YthganpmmhfoodaaW.PrintWords Go.Proofs.YthganpmmhfoodaaW.PrintLast Go.Proofs.YthganpmmhfoodaaW.PrintMore
set_option linter.unusedVariables false
set_option linter.unusedSimpArgs false

theorem place_is (cs : List Int) (g : Int) (hl : cs.length ≤ 63) (hs : Asc cs) (hg : g ∈ cs) : ∃ h : place cs g < cs.length, cs[place cs g] = g ∧ (∀ q (hq : q < cs.length), q < place cs g → cs[q] < g) ∧ (bsOf cs g).1 = (place cs g : Int) := by
  obtain ⟨m, h1, h2, h3, h4, h5⟩ := bs_asc cs g (by omega) hs
  obtain ⟨j, hj, hjg⟩ := List.mem_iff_getElem.1 hg
  have hp : place cs g = m := by unfold place; rw [h1]; simp
  have hmj : m ≤ j := by
    rcases Nat.lt_or_ge j m with h | h
    · have := h3 j hj h
      omega
    · exact h
  have hmj2 : m = j := by
    rcases Nat.lt_or_eq_of_le hmj with h | h
    · have h6 := List.pairwise_iff_getElem.1 hs m j (by omega) hj h
      have h7 := h4 m (by omega) (Nat.le_refl _)
      omega
    · exact h
  subst hmj2
  exact ⟨by rw [hp]; exact hj, by simp only [hp]; exact hjg, fun q hq hlt => h3 q hq (by omega), by rw [hp]; exact h1⟩
theorem specPlace_loop (cs : List Int) (g : Int) (hl : cs.length ≤ 63) (P : Nat) (hP : P < cs.length) (h1 : cs[P] = g) (h2 : ∀ q (hq : q < cs.length), q < P → cs[q] < g) : ∀ (d i k : Nat), P - i = d → i ≤ P → d < k →
    spec_l03Place.l0 k cs g (i : Int) = some (P : Int) := by
  intro d
  induction d with
  | zero =>
    intro i k hd hi hk
    obtain ⟨k, rfl⟩ : ∃ m, k = m + 1 := ⟨k - 1, by omega⟩
    obtain rfl : i = P := by omega
    simp only [spec_l03Place.l0]
    rw [if_pos (by omega), if_pos (by omega), rd_nat cs i hP, if_pos h1]
  | succ d ih =>
    intro i k hd hi hk
    obtain ⟨k, rfl⟩ : ∃ m, k = m + 1 := ⟨k - 1, by omega⟩
    have hil : i < cs.length := by omega
    have h3 := h2 i hil (by omega)
    simp only [spec_l03Place.l0]
    rw [if_pos (by omega), if_pos (by omega), rd_nat cs i hil, if_neg (by omega), w64 _ (by omega) (by omega), nat_succ]
    exact ih (i + 1) k (by omega) (by omega) (by omega)
theorem specPlace_is (cs : List Int) (g : Int) (hl : cs.length ≤ 63) (hs : Asc cs) (hg : g ∈ cs) (k : Nat) (hk : 64 ≤ k) : spec_l03Place.f k cs g = some (place cs g : Int) := by
  obtain ⟨h, h1, h2, _⟩ := place_is cs g hl hs hg
  unfold spec_l03Place.f
  have := specPlace_loop cs g hl _ h h1 h2 (place cs g) 0 k (by omega) (by omega) (by omega)
  exact this
theorem bords_dim_64 : ∀ m : Fin 64, (bords (m.val : Int)).all (fun g => decide (dimI g = dimI (m.val : Int) - 1 ∧ 1 ≤ g ∧ g ≤ 63)) = true := by decide +kernel
theorem bords_dim (f : Int) (h0 : 0 ≤ f) (h1 : f ≤ 63) (g : Int) (hg : g ∈ bords f) : dimI g = dimI f - 1 ∧ 1 ≤ g ∧ g ≤ 63 := by
  obtain ⟨m, rfl⟩ := Int.eq_ofNat_of_zero_le h0
  exact of_decide_eq_true (List.all_eq_true.1 (bords_dim_64 ⟨m, by omega⟩) g hg)
/-- The faces of a boundary are faces of one dimension less. -/
theorem bords_of {n : Int} {l : List Int} (hi : isC n l = true) (d f : Int) (hf : f ∈ ofL l d) (g : Int) (hg : g ∈ bords f) : g ∈ ofL l (d - 1) := by
  obtain ⟨hf1, hf2⟩ := List.mem_filter.1 hf
  have hr := isC_of hi f hf1
  have h1 := bords_dim f hr.1 hr.2 g hg
  unfold ofL
  rw [List.mem_filter]
  have h2 : dimI f = d := by simpa [bne] using hf2
  exact ⟨closed_mem hi f hf1 g hg, by simp only [h1.1, h2]; simp⟩
theorem of_asc {n : Int} {l : List Int} (hi : isC n l = true) (d : Int) : Asc (ofL l d) := (isC_faces hi).2.1.filter _
theorem sign_64 : ∀ m : Fin 64, (signsL (m.val : Int)).all (fun s => decide (s = 1 ∨ s = -1)) = true := by decide +kernel
theorem sign_is (f : Int) (h0 : 0 ≤ f) (h1 : f ≤ 63) (s : Int) (hs : s ∈ signsL f) : s = 1 ∨ s = -1 := by
  obtain ⟨m, rfl⟩ := Int.eq_ofNat_of_zero_le h0
  exact of_decide_eq_true (List.all_eq_true.1 (sign_64 ⟨m, by omega⟩) s hs)
theorem specRows_l1 (p : Int) (hp : 2 ≤ p ∧ p ≤ 3) (F cs : List Int) (out : List (List Int)) (i : Int) (bs sg : List Int) (hcs : cs.length ≤ 63) (hs : Asc cs) (hb : bs.length ≤ 6) (hbs : ∀ g ∈ bs, g ∈ cs) (hsl : sg.length = bs.length) (hsg : ∀ s ∈ sg, s = 1 ∨ s = -1) (ho : out.length ≤ 63)
    (R : Nat) (r : List (List Int)) (hnext : ∀ k, R ≤ k → spec_l03Rows.l0 k p F cs (out ++ [fillR cs p bs sg bs.length]) (wrap64 (i + 1)) = some r) : ∀ (d j k : Nat), bs.length - j = d → j ≤ bs.length → R + d + 65 ≤ k →
    spec_l03Rows.l1 k p F cs out i (fillR cs p bs sg j) bs sg (j : Int) = some r := by
  intro d
  induction d with
  | zero =>
    intro j k hd hj hk
    obtain ⟨k, rfl⟩ : ∃ m, k = m + 1 := ⟨k - 1, by omega⟩
    obtain rfl : j = bs.length := by omega
    simp only [spec_l03Rows.l1]
    rw [if_neg (by omega), if_pos (by omega)]
    exact hnext k (by omega)
  | succ d ih =>
    intro j k hd hj hk
    obtain ⟨k, rfl⟩ : ∃ m, k = m + 1 := ⟨k - 1, by omega⟩
    have hjl : j < bs.length := by omega
    have hjs : j < sg.length := by omega
    have hgm := hbs _ (List.getElem_mem hjl)
    obtain ⟨hP, _, _, _⟩ := place_is cs bs[j] hcs hs hgm
    have hfl := (fillR_good cs p hp.1 bs sg j).1
    have hsj := hsg _ (List.getElem_mem hjs)
    simp only [spec_l03Rows.l1]
    rw [if_pos (by omega), if_pos (by omega), rd_nat bs j hjl, specPlace_is cs _ hcs hs hgm k (by omega)]
    simp only [Option.bind_some]
    rw [if_pos (by omega), if_neg (by omega), if_pos (by omega), if_pos (by omega), rd_nat sg j hjs, w64 (sg[j] + p) (by omega) (by omega), w64 ((j : Int) + 1) (by omega) (by omega), nat_succ, Int.toNat_natCast,
      Int.tmod_eq_emod_of_nonneg (by omega)]
    have hE : (fillR cs p bs sg j).set (place cs bs[j]) ((sg[j] + p) % p) = fillR cs p bs sg (j + 1) := by
      rw [fillR_succ, getD_get bs j 0 hjl, getD_get sg j 0 hjs]
    rw [hE]
    exact ih (j + 1) k (by omega) (by omega) (by omega)
theorem specRows_l0 {n : Int} {l : List Int} (hi : isC n l = true) (d p : Int) (hp : 2 ≤ p ∧ p ≤ 3) : ∀ (e i k : Nat) (out : List (List Int)), (ofL l d).length - i = e → i ≤ (ofL l d).length → e * 80 + 100 ≤ k → out.length = i →
    spec_l03Rows.l0 k p (ofL l d) (ofL l (d - 1)) out (i : Int) = some (out ++ ((ofL l d).drop i).map (rowR (ofL l (d - 1)) p)) := by
  obtain ⟨hn, hs, hr, h63⟩ := isC_faces hi
  have h1 := of_length l d
  have h2 := of_length l (d - 1)
  intro e
  induction e with
  | zero =>
    intro i k out he hil hk ho
    obtain ⟨k, rfl⟩ : ∃ m, k = m + 1 := ⟨k - 1, by omega⟩
    obtain rfl : i = (ofL l d).length := by omega
    simp only [spec_l03Rows.l0]
    rw [if_neg (by omega), List.drop_length]
    simp
  | succ e ih =>
    intro i k out he hil hk ho
    obtain ⟨k, rfl⟩ : ∃ m, k = m + 1 := ⟨k - 1, by omega⟩
    have hlt : i < (ofL l d).length := by omega
    have hfm := List.getElem_mem hlt
    have hfl := (List.mem_filter.1 hfm).1
    have hfr := hr _ hfl
    simp only [spec_l03Rows.l0]
    rw [if_pos (by omega), if_pos (by omega), if_pos (by omega), if_pos (by omega), rd_nat _ i hlt, specBelow_is _ (by omega) (by omega) k (by omega), specSigns_is _ (by omega) (by omega) k (by omega)]
    simp only [Option.bind_some]
    rw [Int.toNat_natCast]
    have hsl : (signsL (ofL l d)[i]).length = (bords (ofL l d)[i]).length := by simp [signsL]
    have hbl := bords_length (ofL l d)[i]
    refine specRows_l1 p hp (ofL l d) (ofL l (d - 1)) out (i : Int) (bords (ofL l d)[i]) (signsL (ofL l d)[i]) (by omega) (of_asc hi _) hbl (fun g hg => bords_of hi d _ hfm g hg) hsl (fun s h => sign_is _ (by omega) (by omega) s h) (by omega) (e * 80 + 100) _ (fun k hk => ?_) (bords (ofL l d)[i]).length 0 k (by omega) (by omega) (by omega)
    rw [w64 _ (by omega) (by omega), nat_succ, ih (i + 1) k _ (by omega) (by omega) hk (by rw [List.length_append]; simp; omega), List.append_assoc, List.drop_eq_getElem_cons hlt, List.map_cons]
    rfl
theorem specRows_is {n : Int} {l : List Int} (hi : isC n l = true) (d p : Int) (hd : 0 ≤ d ∧ d ≤ 7) (hp : 2 ≤ p ∧ p ≤ 3) (k : Nat) (hk : 5200 ≤ k) : spec_l03Rows.f k n l d p = some (rowsL l d p) := by
  obtain ⟨hn, hs, hr, h63⟩ := isC_faces hi
  have h1 := of_length l d
  unfold spec_l03Rows.f
  rw [specOf_is n d (by omega) l h63 (isC_of hi) k (by omega), w64 (d - 1) (by omega) (by omega), specOf_is n (d - 1) (by omega) l h63 (isC_of hi) k (by omega)]
  simp only [Option.bind_some]
  have := specRows_l0 hi d p hp (ofL l d).length 0 k [] (by omega) (by omega) (by omega) rfl
  rw [show ((0 : Nat) : Int) = 0 from rfl, List.nil_append, List.drop_zero] at this
  exact this
theorem rankL_out {n : Int} {l : List Int} (hi : isC n l = true) (d p : Int) (h : d < 1 ∨ topI l < d) : rankL l d p = 0 := by
  obtain ⟨hn, hs, hr, h63⟩ := isC_faces hi
  unfold rankL rankM
  rcases h with h | h
  · have : ofL l (d - 1) = [] := by
      unfold ofL
      rw [List.filter_eq_nil_iff]
      intro x hx
      have h1 := dim_pos x (hr x hx).1 (hr x hx).2.2
      simp [bne]
      omega
    rw [this]
    rfl
  · have h2 : ofL l d = [] := by
      unfold ofL
      rw [List.filter_eq_nil_iff]
      intro x hx
      have h1 := top_mem l x hx
      simp [bne]
      omega
    have h3 : rowsL l d p = [] := by unfold rowsL; rw [h2]; rfl
    rw [h3, rankM_nil]
    rfl

end Go.Proofs.Ythganpmmhfoodaa.K
end

section
/- The reference's elimination: l03Rank. -/
namespace Go.Proofs.Ythganpmmhfoodaa.K
open Go.RowKit Go.Shelf Go.Proofs.YthganpmmhfoodaaW.PrintWords Go.Proofs.YthganpmmhfoodaaW.PrintLast Go.Proofs.YthganpmmhfoodaaW.PrintMore
set_option linter.unusedVariables false
set_option linter.unusedSimpArgs false

theorem prod_range (p a b : Int) (hp : 2 ≤ p ∧ p ≤ 3) (ha : 0 ≤ a ∧ a < p) (hb : 0 ≤ b ∧ b ≤ p) : 0 ≤ a * b ∧ a * b ≤ 9 := by
  have h1 : a ≤ 3 := by omega
  have h2 : b ≤ 3 := by omega
  refine ⟨Int.mul_nonneg ha.1 hb.1, ?_⟩
  calc a * b ≤ 3 * 3 := Int.mul_le_mul h1 h2 hb.1 (by omega)
    _ = 9 := rfl
theorem good_num {p : Int} {m : Nat} {M : List (List Int)} (h : Good p m M) (i : Nat) (hi : i < M.length) (j : Nat) (hj : j < m) : 0 ≤ (M.getD i []).getD j 0 ∧ (M.getD i []).getD j 0 < p := by
  have hg := h _ (getD_mem M i hi)
  rw [getD_get _ j 0 (by rw [hg.1]; exact hj)]
  exact hg.2 _ (List.getElem_mem _)

set_option maxRecDepth 100000 in
set_option maxHeartbeats 8000000 in
theorem sRank_calls (p : Int) (hp : 2 ≤ p ∧ p ≤ 3) (m : Nat) (hm : m ≤ 63) (M0 : List (List Int)) (hg : Good p m M0) (hlen : M0.length ≤ 63) (base : Nat) (v : Value) (vs0 : List OneV) (f0 : Nat → Nat) (w : World) (hbase : base ≤ w.heap.size) (hM : Mat w base v vs0 f0 M0) :
    Calls Try.prog 101 #[v, I p] w fun e w' => e = .returned (I (rankM p m M0)) ∧ Below base w w' := by
  rcases Nat.eq_zero_or_pos M0.length with h0 | hpos
  · obtain ⟨A, c, hv, _⟩ := hM.slice
    rw [h0] at hv
    subst hv
    have HV : Aside0 (rankM p m M0 = 0) := ⟨by rw [List.length_eq_zero_iff.1 h0]; unfold rankM; rw [rankM_nil]; rfl⟩
    rw [HV.out]
    clear hM hg h0 hlen
    go_enter Try.func101, Try.ntmps101
    go_wp2_with fail
    go_loopg [5, 6] 0 (fun gg s5 s6 wr => s5 = .int .i64 0 ∧ s6 = .int .i64 0 ∧ Aside0 (Below base w wr))
    case atStart => exact ⟨rfl, rfl, ⟨Below.refl _ _⟩⟩
    case round =>
      obtain ⟨rfl, rfl, HGr⟩ := hrel
      go_wp2_with fail
      go_ret
      exact ⟨rfl, HGr.out⟩
  · obtain ⟨G, cc, hv, hcc⟩ := hM.head hpos
    subst hv
    have HM0 := Aside0.mk hM
    have HGD := Aside0.mk hg
    have HP := Aside0.mk hp
    have hp0 : p ≠ 0 := by omega
    clear hM hg
    obtain ⟨n, hn⟩ : ∃ n, n = M0.length := ⟨_, rfl⟩
    rw [← hn] at HM0 hpos hlen hcc ⊢
    have HN := Aside0.mk hn
    clear hn
    go_enter Try.func101, Try.ntmps101
    go_wp2_with fail
    go_loopg [5, 6] m (fun gg s5 s6 wr => ∃ (c r : Nat) (M : List (List Int)), c ≤ m ∧ m - c ≤ gg ∧ s5 = .int .i64 r ∧ s6 = .int .i64 c ∧ Aside0 (rankTo p M0 c = (r, M)) ∧ (∃ vs f, Aside0 (Mat wr base (.slice (some ⟨G, 0, none⟩) n cc) vs f M)) ∧ Aside0 (Below base w wr))
    case atStart => exact ⟨0, 0, M0, Nat.zero_le _, by omega, rfl, rfl, ⟨rfl⟩, ⟨vs0, f0, HM0⟩, ⟨Below.refl _ _⟩⟩
    case round =>
      obtain ⟨c, r, M, hc, hgg, rfl, rfl, HS, ⟨vs, f, HM⟩, HGr⟩ := hrel
      obtain ⟨hr1, hr2, hr3, hr4, hr5⟩ := rank_good HP.out HGD.out c hc
      rw [HS.out] at hr1 hr2 hr3 hr4 hr5
      simp only at hr1 hr2 hr3 hr4 hr5
      rw [← HN.out] at hr1 hr3
      have HGM := Aside0.mk hr4
      have HCM := Aside0.mk hr5
      have HL := Aside0.mk hr3
      clear hr4 hr5 hr3
      by_cases hlt : c < m
      · have hltz : (c : Int) < (m : Int) := by omega
        obtain ⟨g0, c0, _, _, _, _, hG, _, hx0, _, _⟩ := HM.out.at 0 m (by rw [HL.out]; omega) (HGM.out _ (getD_mem M 0 (by rw [HL.out]; omega))).1 (by omega)
        have hnz : (0 : Int) < (n : Int) := by omega
        go_wp2_with fail
        go_loopg [7, 8] n (fun gg s7 s8 wr1 => ∃ (b : Int) (i : Nat), s7 = .int .i64 b ∧ s8 = .int .i64 i ∧ i ≤ n ∧ n - i ≤ gg ∧ ((b = -1 ∧ r ≤ i ∧ Aside0 (∀ j, r ≤ j → j < i → (M.getD j []).getD c 0 = 0)) ∨ (∃ j : Nat, b = j ∧ i = j + 1 ∧ r ≤ j ∧ Aside0 ((M.getD j []).getD c 0 ≠ 0 ∧ ∀ q, r ≤ q → q < j → (M.getD q []).getD c 0 = 0))) ∧ Aside0 (Grew wr wr1))
        case atStart => exact ⟨-1, r, rfl, rfl, hr1, by omega, .inl ⟨rfl, Nat.le_refl _, ⟨fun j h1 h2 => by omega⟩⟩, ⟨Grew.refl _⟩⟩
        case round =>
          clear hx0 hG
          obtain ⟨b, i, rfl, rfl, hin, hgi, hb, HG1⟩ := hrel
          rcases hb with ⟨rfl, hri, HZ⟩ | ⟨j, rfl, rfl, hrj, HJ⟩
          · by_cases hlti : i < n
            · have hltz2 : (i : Int) < (n : Int) := by omega
              obtain ⟨gi, ci, _, _, _, _, _, _, hx1, _, hx2⟩ := (HM.out.below HG1.out).at i m (by rw [HL.out]; omega) (HGM.out _ (getD_mem M i (by rw [HL.out]; omega))).1 (by omega)
              obtain ⟨hx3, _⟩ := hx2 c hlt
              clear hx2
              have HX := Aside0.mk (show (M.getD i []).getD c 0 = (M.getD i []).getD c 0 from rfl)
              by_cases hx0 : (M.getD i []).getD c 0 = 0
              · rw [hx0] at hx3
                have HZ2 : Aside0 (∀ j, r ≤ j → j < i + 1 → (M.getD j []).getD c 0 = 0) := ⟨fun j h1 h2 => by
                  rcases Nat.lt_or_ge j i with h3 | h3
                  · exact HZ.out j h1 h3
                  · obtain rfl : j = i := by omega
                    exact hx0⟩
                clear HX hx0
                go_wp2_with fail
                go_roundg (n - (i + 1))
                case measure => omega
                case rel => exact ⟨-1, i + 1, rfl, by go_num, by omega, by omega, .inl ⟨rfl, by omega, HZ2⟩, HG1⟩
              · have HJ2 : Aside0 ((M.getD i []).getD c 0 ≠ 0 ∧ ∀ q, r ≤ q → q < i → (M.getD q []).getD c 0 = 0) := ⟨hx0, HZ.out⟩
                generalize (M.getD i []).getD c 0 = x at hx3 hx0
                clear HX
                go_wp2_with fail
                go_roundg (n - (i + 1))
                case measure => omega
                case rel => exact ⟨i, i + 1, rfl, by go_num, by omega, by omega, .inr ⟨i, rfl, rfl, hri, HJ2⟩, HG1⟩
            · have hltz2 : ¬ (i : Int) < (n : Int) := by omega
              have HS2 : Aside0 (rankTo p M0 (c + 1) = (r, M)) := ⟨by
                have hpv : pivI M r c = -1 := pivI_miss fun q h1 h2 => HZ.out q h1 (by rw [HL.out] at h2; omega)
                rw [rankTo_succ, HS.out]
                unfold rstep
                simp only [hpv]
                rfl⟩
              go_wp2_with fail
              go_roundg (m - (c + 1))
              case measure => omega
              case rel => exact ⟨c + 1, r, M, by omega, by omega, rfl, by go_num, HS2, ⟨vs, f, ⟨HM.out.below HG1.out⟩⟩, ⟨Below.trans HGr.out (HG1.out.mono (Nat.le_trans hbase HGr.out.size))⟩⟩
          · -- the pivot is row j
            have hjn : j < n := by omega
            have hrn : r < n := by omega
            have HM1 := Aside0.mk (HM.out.below HG1.out)
            have HG2 : Aside0 (Below base w wr) := ⟨Below.trans HGr.out (HG1.out.mono (Nat.le_trans hbase HGr.out.size))⟩
            have hjl : j < M.length := by rw [HL.out]; omega
            have hrl : r < M.length := by rw [HL.out]; omega
            obtain ⟨gj, cj, ej, hcj, _, _, hbG, _, hxj, hfj, _⟩ := HM1.out.at j m hjl (HGM.out _ (getD_mem M j hjl)).1 (by omega)
            obtain ⟨gr, cr, er, hcr, _, _, _, _, hxr, hfr, _⟩ := HM1.out.at r m hrl (HGM.out _ (getD_mem M r hrl)).1 (by omega)
            obtain ⟨hmid, hfmid⟩ := HM1.out.mid j r hjl hrl
            rw [er] at hmid hfmid
            have hsw := HM1.out.swap j r hjl hrl
            rw [ej, er, swapM_is M j r hjl hrl, swapM_comm M j r hjl hrl] at hsw
            have HSW := Aside0.mk hsw
            clear hsw
            have hvl := HM1.out.len
            have HVR : Aside0 ((((vs.set j (vs[r]'(by omega))).set r (vs[j]'(by omega))).getD r nilV).1 = .slice (some ⟨gj, 0, none⟩) m cj) := ⟨by rw [getD_get _ r nilV (by simp; omega), List.getElem_set_self]; exact ej⟩
            have HS2 : Aside0 (rankTo p M0 (c + 1) = (r + 1, elimM p c r (swapM M r j) n)) := ⟨by
              have hpv : pivI M r c = ((j - r : Nat) : Int) := pivI_hit hrj (by omega) HJ.out.1 HJ.out.2
              rw [rankTo_succ, HS.out]
              unfold rstep
              simp only [hpv]
              rw [if_neg (by omega), Int.toNat_natCast, HL.out, show r + (j - r) = j by omega]⟩
            have HGS := Aside0.mk (swapM_good HGM.out r j hrl hjl)
            have HCS : Aside0 (∀ q, q < c → ((swapM M r j).getD r []).getD q 0 = 0) := ⟨fun q hq => by
              rw [swapM_get M r j r hrl hjl]
              split
              · exact HCM.out r (Nat.le_refl _) hrl q hq
              · rw [if_pos rfl]; exact HCM.out j hrj hjl q hq⟩
            have HLS : Aside0 ((swapM M r j).length = n) := ⟨by rw [swapM_length, HL.out]⟩
            generalize (vs.set j (vs[r]'(by omega))).set r (vs[j]'(by omega)) = vS at HSW HVR
            generalize (fun k => swapT j r (f k)) = fS at HSW
            generalize swapM M r j = S at HSW HS2 HGS HCS HLS
            clear HM1 HJ er ej
            have hjz : ¬ (j : Int) < 0 := by omega
            have hi1 : (0 : Int) ≤ (j : Int) := by omega
            have HB2 : Aside0 (Below base w ((wr.setCell ⟨G, j, none⟩ (.slice (some ⟨gr, 0, none⟩) m cr)).setCell ⟨G, r, none⟩ (.slice (some ⟨gj, 0, none⟩) m cj))) := ⟨Below.setCell (Below.setCell HG2.out hbG _) hbG _⟩
            by_cases hlast : ((j + 1 : Nat) : Int) < (n : Int)
            -- both ways alike
            · go_wp2_with fail
              go_loopg [10] n (fun gg s10 wr3 => ∃ i2 : Nat, r < i2 ∧ i2 ≤ n ∧ n - i2 ≤ gg ∧ s10 = .int .i64 i2 ∧ Aside0 (Mat wr3 base (.slice (some ⟨G, 0, none⟩) n cc) vS fS (elimM p c r S i2)) ∧ Aside0 (Below base w wr3))
              case atStart => exact ⟨r + 1, by omega, by omega, by omega, by go_num, ⟨by rw [elimM_start]; exact HSW.out⟩, HB2⟩
              case round =>
                clear hxj hfj hxr hfr hltz hgi hmid hfmid
                obtain ⟨i2, hi2, hi2n, hg2, rfl, HM2, HB3⟩ := hrel
                have hrS : r < S.length := by rw [HLS.out]; omega
                by_cases hlt2 : i2 < n
                · have hltz3 : (i2 : Int) < (n : Int) := by omega
                  have hiS : i2 < S.length := by rw [HLS.out]; omega
                  have HRW := Aside0.mk (elimM_get p c r i2 S r hrS)
                  rw [if_neg (by omega)] at HRW
                  have HIW := Aside0.mk (elimM_get p c r i2 S i2 hiS)
                  rw [if_neg (by omega)] at HIW
                  have hli := (HGS.out _ (getD_mem S i2 hiS)).1
                  have hlr := (HGS.out _ (getD_mem S r hrS)).1
                  obtain ⟨gi, ci, ei, hci, hfi, hbi, _, _, hxi, hfzi, hni⟩ := HM2.out.at i2 m (by rw [elimM_length]; exact hiS) (by rw [HIW.out]; exact hli) (by omega)
                  obtain ⟨gq, cq, eq, hcq, hfq, _, _, _, _, _, hnr⟩ := HM2.out.at r m (by rw [elimM_length]; exact hrS) (by rw [HRW.out]; exact hlr) (by omega)
                  have e1 := HVR.out
                  rw [getD_get vS r nilV (by have := HM2.out.len; rw [elimM_length] at this; omega), eq] at e1
                  injection e1 with e1 _ e2
                  injection e1 with e1
                  injection e1 with e1
                  subst e1 e2
                  rw [HIW.out] at hni
                  rw [HRW.out] at hnr
                  obtain ⟨hxa, _⟩ := hni c hlt
                  obtain ⟨hxb, _⟩ := hnr c hlt
                  have ha := good_num HGS.out i2 hiS c hlt
                  have hb := good_num HGS.out r hrS c hlt
                  clear hni hnr
                  obtain ⟨a, hA⟩ : ∃ a, a = (S.getD i2 []).getD c 0 := ⟨_, rfl⟩
                  obtain ⟨b, hB⟩ : ∃ b, b = (S.getD r []).getD c 0 := ⟨_, rfl⟩
                  rw [← hA] at hxa ha
                  rw [← hB] at hxb hb
                  have HA := Aside0.mk hA
                  have HB := Aside0.mk hB
                  have hab := prod_range p a b hp ha ⟨hb.1, by omega⟩
                  clear hA hB hli hlr
                  go_wp2_with fail
                  repeat (go_quiet (fail))
                  try go_wp2_with fail
                  have htm : 0 ≤ a * b % p ∧ a * b % p < p := ⟨Int.emod_nonneg _ hp0, Int.emod_lt_of_pos _ (by omega)⟩
                  clear hxa hxb hxi hfzi
                  go_loopg [13] m (fun gg s13 wr4 => ∃ j2 : Nat, c ≤ j2 ∧ j2 ≤ m ∧ m - j2 ≤ gg ∧ s13 = .int .i64 j2 ∧ Aside0 (Mat wr4 base (.slice (some ⟨G, 0, none⟩) n cc) vS fS ((elimM p c r S i2).set i2 (elimP p c (S.getD r []) (S.getD i2 []) j2))) ∧ Aside0 (Below base w wr4))
                  case atStart => exact ⟨c, Nat.le_refl _, hc, by omega, rfl, ⟨by rw [elimP_start p c _ _ (HGS.out _ (getD_mem S i2 hiS)).2 HCS.out, set_same _ i2 _ (by rw [elimM_length]; exact hiS) HIW.out]; exact HM2.out.below (pw_below_drewN (Below.refl _ _) _)⟩, ⟨pw_below_drewN HB3.out _⟩⟩
                  case round =>
                    obtain ⟨j2, hcj, hjm, hg4, rfl, HM4, HB4⟩ := hrel
                    by_cases hlt4 : j2 < m
                    · have hltz4 : (j2 : Int) < (m : Int) := by omega
                      have HR4 : Aside0 ((((elimM p c r S i2).set i2 (elimP p c (S.getD r []) (S.getD i2 []) j2)).getD i2 []) = elimP p c (S.getD r []) (S.getD i2 []) j2) := ⟨set_getD _ _ _ (by rw [elimM_length]; exact hiS)⟩
                      have HQ4 : Aside0 ((((elimM p c r S i2).set i2 (elimP p c (S.getD r []) (S.getD i2 []) j2)).getD r []) = S.getD r []) := ⟨by rw [set_getD_ne _ _ _ _ (by omega)]; exact HRW.out⟩
                      have hlen4 : ((elimM p c r S i2).set i2 (elimP p c (S.getD r []) (S.getD i2 []) j2)).length = S.length := by rw [List.length_set, elimM_length]
                      obtain ⟨g1, c1, e1, _, _, hb1, _, _, _, _, hn1⟩ := HM4.out.at i2 m (by rw [hlen4]; exact hiS) (by rw [HR4.out, elimP_length]; exact (HGS.out _ (getD_mem S i2 hiS)).1) (by omega)
                      obtain ⟨g2, c2, e2, _, _, _, _, _, _, _, hn2⟩ := HM4.out.at r m (by rw [hlen4]; exact hrS) (by rw [HQ4.out]; exact (HGS.out _ (getD_mem S r hrS)).1) (by omega)
                      rw [ei] at e1
                      injection e1 with e1 _ e3
                      injection e1 with e1
                      injection e1 with e1
                      subst e1 e3
                      rw [eq] at e2
                      injection e2 with e2 _ e3
                      injection e2 with e2
                      injection e2 with e2
                      subst e2 e3
                      obtain ⟨hx1, hf1⟩ := hn1 j2 hlt4
                      obtain ⟨hy1, _⟩ := hn2 j2 hlt4
                      rw [HR4.out, elimP_get _ _ _ _ _ _ (by rw [(HGS.out _ (getD_mem S i2 hiS)).1]; exact hlt4), if_neg (Nat.lt_irrefl _)] at hx1
                      rw [HQ4.out] at hy1
                      have hx := good_num HGS.out i2 hiS j2 hlt4
                      have hy := good_num HGS.out r hrS j2 hlt4
                      have HW := HM4.out.put i2 (by rw [hlen4]; exact hiS) gi m ci ei (j2 : Int) (elimAt p c (S.getD r []) (S.getD i2 []) j2)
                      have HE : Aside0 (elimAt p c (S.getD r []) (S.getD i2 []) j2 = ((S.getD i2 []).getD j2 0 + (p - a * b % p) * (S.getD r []).getD j2 0) % p) := ⟨by
                        rw [HA.out, HB.out]
                        exact (spec_val p _ _ _ _ hp hx (good_num HGS.out i2 hiS c hlt) (good_num HGS.out r hrS c hlt) hy).symm⟩
                      obtain ⟨x, hX⟩ : ∃ x, x = (S.getD i2 []).getD j2 0 := ⟨_, rfl⟩
                      obtain ⟨y, hY⟩ : ∃ y, y = (S.getD r []).getD j2 0 := ⟨_, rfl⟩
                      rw [← hX] at hx1 hx HE
                      rw [← hY] at hy1 hy HE
                      have hpr := prod_range p y (p - a * b % p) hp hy ⟨by omega, by omega⟩
                      rw [Int.mul_comm] at hpr
                      have HW2 : Aside0 (Mat (wr.setCell ⟨gi, j2, none⟩ (I ((x + (p - a * b % p) * y) % p))) base (.slice (some ⟨G, 0, none⟩) n cc) vS fS ((elimM p c r S i2).set i2 (elimP p c (S.getD r []) (S.getD i2 []) (j2 + 1)))) := ⟨by
                        rw [← HE.out]
                        have h := HW
                        rw [Int.toNat_natCast, List.getElem_set_self, List.set_set, ← elimP_succ] at h
                        exact h⟩
                      have HB5 : Aside0 (Below base w (wr.setCell ⟨gi, j2, none⟩ (I ((x + (p - a * b % p) * y) % p)))) := ⟨Below.setCell HB4.out hb1 _⟩
                      clear hn1 hn2 hX hY HR4 HQ4 HW
                      go_wp2_with fail
                      go_region_with (fail)
                      all_goals (
                        go_wp2_with fail
                        go_roundg (m - (j2 + 1))
                        (case measure => omega)
                        (case rel => exact ⟨j2 + 1, by omega, by omega, by omega, by go_num, ⟨HW2.out.below (below_drew (Below.refl _ _))⟩, ⟨below_drew HB5.out⟩⟩))
                    · obtain rfl : j2 = m := by omega
                      have hltz4 : ¬ (j2 : Int) < (j2 : Int) := by omega
                      have HE2 : Aside0 (elimM p c r S (i2 + 1) = (elimM p c r S i2).set i2 (elimP p c (S.getD r []) (S.getD i2 []) j2)) := ⟨by
                        rw [elimM_succ p c r S i2 hi2, ← elimP_end, (HGS.out _ (getD_mem S i2 hiS)).1]⟩
                      go_wp2_with fail
                      go_roundg (n - (i2 + 1))
                      case measure => omega
                      case rel => exact ⟨i2 + 1, by omega, by omega, by omega, by go_num, ⟨by rw [HE2.out]; exact HM4.out⟩, HB4⟩
                · obtain rfl : i2 = n := by omega
                  have hltz3 : ¬ (i2 : Int) < (i2 : Int) := by omega
                  go_wp2_with fail
                  go_roundg (m - (c + 1))
                  case measure => omega
                  case rel => exact ⟨c + 1, r + 1, elimM p c r S i2, by omega, by omega, by go_num, by go_num, HS2, ⟨vS, fS, HM2⟩, HB3⟩
            · go_wp2_with fail
              go_loopg [10] n (fun gg s10 wr3 => ∃ i2 : Nat, r < i2 ∧ i2 ≤ n ∧ n - i2 ≤ gg ∧ s10 = .int .i64 i2 ∧ Aside0 (Mat wr3 base (.slice (some ⟨G, 0, none⟩) n cc) vS fS (elimM p c r S i2)) ∧ Aside0 (Below base w wr3))
              case atStart => exact ⟨r + 1, by omega, by omega, by omega, by go_num, ⟨by rw [elimM_start]; exact HSW.out⟩, HB2⟩
              case round =>
                clear hxj hfj hxr hfr hltz hgi hmid hfmid
                obtain ⟨i2, hi2, hi2n, hg2, rfl, HM2, HB3⟩ := hrel
                have hrS : r < S.length := by rw [HLS.out]; omega
                by_cases hlt2 : i2 < n
                · have hltz3 : (i2 : Int) < (n : Int) := by omega
                  have hiS : i2 < S.length := by rw [HLS.out]; omega
                  have HRW := Aside0.mk (elimM_get p c r i2 S r hrS)
                  rw [if_neg (by omega)] at HRW
                  have HIW := Aside0.mk (elimM_get p c r i2 S i2 hiS)
                  rw [if_neg (by omega)] at HIW
                  have hli := (HGS.out _ (getD_mem S i2 hiS)).1
                  have hlr := (HGS.out _ (getD_mem S r hrS)).1
                  obtain ⟨gi, ci, ei, hci, hfi, hbi, _, _, hxi, hfzi, hni⟩ := HM2.out.at i2 m (by rw [elimM_length]; exact hiS) (by rw [HIW.out]; exact hli) (by omega)
                  obtain ⟨gq, cq, eq, hcq, hfq, _, _, _, _, _, hnr⟩ := HM2.out.at r m (by rw [elimM_length]; exact hrS) (by rw [HRW.out]; exact hlr) (by omega)
                  have e1 := HVR.out
                  rw [getD_get vS r nilV (by have := HM2.out.len; rw [elimM_length] at this; omega), eq] at e1
                  injection e1 with e1 _ e2
                  injection e1 with e1
                  injection e1 with e1
                  subst e1 e2
                  rw [HIW.out] at hni
                  rw [HRW.out] at hnr
                  obtain ⟨hxa, _⟩ := hni c hlt
                  obtain ⟨hxb, _⟩ := hnr c hlt
                  have ha := good_num HGS.out i2 hiS c hlt
                  have hb := good_num HGS.out r hrS c hlt
                  clear hni hnr
                  obtain ⟨a, hA⟩ : ∃ a, a = (S.getD i2 []).getD c 0 := ⟨_, rfl⟩
                  obtain ⟨b, hB⟩ : ∃ b, b = (S.getD r []).getD c 0 := ⟨_, rfl⟩
                  rw [← hA] at hxa ha
                  rw [← hB] at hxb hb
                  have HA := Aside0.mk hA
                  have HB := Aside0.mk hB
                  have hab := prod_range p a b hp ha ⟨hb.1, by omega⟩
                  clear hA hB hli hlr
                  go_wp2_with fail
                  repeat (go_quiet (fail))
                  try go_wp2_with fail
                  have htm : 0 ≤ a * b % p ∧ a * b % p < p := ⟨Int.emod_nonneg _ hp0, Int.emod_lt_of_pos _ (by omega)⟩
                  clear hxa hxb hxi hfzi
                  go_loopg [13] m (fun gg s13 wr4 => ∃ j2 : Nat, c ≤ j2 ∧ j2 ≤ m ∧ m - j2 ≤ gg ∧ s13 = .int .i64 j2 ∧ Aside0 (Mat wr4 base (.slice (some ⟨G, 0, none⟩) n cc) vS fS ((elimM p c r S i2).set i2 (elimP p c (S.getD r []) (S.getD i2 []) j2))) ∧ Aside0 (Below base w wr4))
                  case atStart => exact ⟨c, Nat.le_refl _, hc, by omega, rfl, ⟨by rw [elimP_start p c _ _ (HGS.out _ (getD_mem S i2 hiS)).2 HCS.out, set_same _ i2 _ (by rw [elimM_length]; exact hiS) HIW.out]; exact HM2.out.below (pw_below_drewN (Below.refl _ _) _)⟩, ⟨pw_below_drewN HB3.out _⟩⟩
                  case round =>
                    obtain ⟨j2, hcj, hjm, hg4, rfl, HM4, HB4⟩ := hrel
                    by_cases hlt4 : j2 < m
                    · have hltz4 : (j2 : Int) < (m : Int) := by omega
                      have HR4 : Aside0 ((((elimM p c r S i2).set i2 (elimP p c (S.getD r []) (S.getD i2 []) j2)).getD i2 []) = elimP p c (S.getD r []) (S.getD i2 []) j2) := ⟨set_getD _ _ _ (by rw [elimM_length]; exact hiS)⟩
                      have HQ4 : Aside0 ((((elimM p c r S i2).set i2 (elimP p c (S.getD r []) (S.getD i2 []) j2)).getD r []) = S.getD r []) := ⟨by rw [set_getD_ne _ _ _ _ (by omega)]; exact HRW.out⟩
                      have hlen4 : ((elimM p c r S i2).set i2 (elimP p c (S.getD r []) (S.getD i2 []) j2)).length = S.length := by rw [List.length_set, elimM_length]
                      obtain ⟨g1, c1, e1, _, _, hb1, _, _, _, _, hn1⟩ := HM4.out.at i2 m (by rw [hlen4]; exact hiS) (by rw [HR4.out, elimP_length]; exact (HGS.out _ (getD_mem S i2 hiS)).1) (by omega)
                      obtain ⟨g2, c2, e2, _, _, _, _, _, _, _, hn2⟩ := HM4.out.at r m (by rw [hlen4]; exact hrS) (by rw [HQ4.out]; exact (HGS.out _ (getD_mem S r hrS)).1) (by omega)
                      rw [ei] at e1
                      injection e1 with e1 _ e3
                      injection e1 with e1
                      injection e1 with e1
                      subst e1 e3
                      rw [eq] at e2
                      injection e2 with e2 _ e3
                      injection e2 with e2
                      injection e2 with e2
                      subst e2 e3
                      obtain ⟨hx1, hf1⟩ := hn1 j2 hlt4
                      obtain ⟨hy1, _⟩ := hn2 j2 hlt4
                      rw [HR4.out, elimP_get _ _ _ _ _ _ (by rw [(HGS.out _ (getD_mem S i2 hiS)).1]; exact hlt4), if_neg (Nat.lt_irrefl _)] at hx1
                      rw [HQ4.out] at hy1
                      have hx := good_num HGS.out i2 hiS j2 hlt4
                      have hy := good_num HGS.out r hrS j2 hlt4
                      have HW := HM4.out.put i2 (by rw [hlen4]; exact hiS) gi m ci ei (j2 : Int) (elimAt p c (S.getD r []) (S.getD i2 []) j2)
                      have HE : Aside0 (elimAt p c (S.getD r []) (S.getD i2 []) j2 = ((S.getD i2 []).getD j2 0 + (p - a * b % p) * (S.getD r []).getD j2 0) % p) := ⟨by
                        rw [HA.out, HB.out]
                        exact (spec_val p _ _ _ _ hp hx (good_num HGS.out i2 hiS c hlt) (good_num HGS.out r hrS c hlt) hy).symm⟩
                      obtain ⟨x, hX⟩ : ∃ x, x = (S.getD i2 []).getD j2 0 := ⟨_, rfl⟩
                      obtain ⟨y, hY⟩ : ∃ y, y = (S.getD r []).getD j2 0 := ⟨_, rfl⟩
                      rw [← hX] at hx1 hx HE
                      rw [← hY] at hy1 hy HE
                      have hpr := prod_range p y (p - a * b % p) hp hy ⟨by omega, by omega⟩
                      rw [Int.mul_comm] at hpr
                      have HW2 : Aside0 (Mat (wr.setCell ⟨gi, j2, none⟩ (I ((x + (p - a * b % p) * y) % p))) base (.slice (some ⟨G, 0, none⟩) n cc) vS fS ((elimM p c r S i2).set i2 (elimP p c (S.getD r []) (S.getD i2 []) (j2 + 1)))) := ⟨by
                        rw [← HE.out]
                        have h := HW
                        rw [Int.toNat_natCast, List.getElem_set_self, List.set_set, ← elimP_succ] at h
                        exact h⟩
                      have HB5 : Aside0 (Below base w (wr.setCell ⟨gi, j2, none⟩ (I ((x + (p - a * b % p) * y) % p)))) := ⟨Below.setCell HB4.out hb1 _⟩
                      clear hn1 hn2 hX hY HR4 HQ4 HW
                      go_wp2_with fail
                      go_region_with (fail)
                      all_goals (
                        go_wp2_with fail
                        go_roundg (m - (j2 + 1))
                        (case measure => omega)
                        (case rel => exact ⟨j2 + 1, by omega, by omega, by omega, by go_num, ⟨HW2.out.below (below_drew (Below.refl _ _))⟩, ⟨below_drew HB5.out⟩⟩))
                    · obtain rfl : j2 = m := by omega
                      have hltz4 : ¬ (j2 : Int) < (j2 : Int) := by omega
                      have HE2 : Aside0 (elimM p c r S (i2 + 1) = (elimM p c r S i2).set i2 (elimP p c (S.getD r []) (S.getD i2 []) j2)) := ⟨by
                        rw [elimM_succ p c r S i2 hi2, ← elimP_end, (HGS.out _ (getD_mem S i2 hiS)).1]⟩
                      go_wp2_with fail
                      go_roundg (n - (i2 + 1))
                      case measure => omega
                      case rel => exact ⟨i2 + 1, by omega, by omega, by omega, by go_num, ⟨by rw [HE2.out]; exact HM4.out⟩, HB4⟩
                · obtain rfl : i2 = n := by omega
                  have hltz3 : ¬ (i2 : Int) < (i2 : Int) := by omega
                  go_wp2_with fail
                  go_roundg (m - (c + 1))
                  case measure => omega
                  case rel => exact ⟨c + 1, r + 1, elimM p c r S i2, by omega, by omega, by go_num, by go_num, HS2, ⟨vS, fS, HM2⟩, HB3⟩
      · obtain rfl : c = m := by omega
        have HV : Aside0 (rankM p c M0 = (r : Int)) := ⟨by unfold rankM; rw [HS.out]⟩
        have hnz : (0 : Int) < (n : Int) := by omega
        have hcell : ∃ A0 c0, wr.cell? ⟨G, 0, none⟩ = some (.slice A0 c c0) := by
          have hl := HM.out.len
          obtain ⟨h6, _⟩ := Kd.R_celln nilV HM.out.outer (0 : Int) (by omega) (by omega)
          have h7 := HM.out.row 0 (by rw [HL.out]; omega)
          obtain ⟨A0, c0, h8, _⟩ := Kd.R_reads h7
          have h9 : rdOf nilV vs (0 : Int) = vs[0]'(by rw [hl, HL.out]; omega) := by simp [rdOf, show 0 < vs.length by rw [hl, HL.out]; omega]
          rw [h9] at h6
          have h10 : wr.cell? ⟨G, 0, none⟩ = some (vs[0]'(by rw [hl, HL.out]; omega)).1 := h6
          rw [h8] at h10
          have h11 := (HGM.out _ (getD_mem M 0 (by rw [HL.out]; omega))).1
          rw [getD_get M 0 [] (by rw [HL.out]; omega)] at h11
          rw [h11] at h10
          exact ⟨A0, c0, h10⟩
        obtain ⟨A0, c0, hx0⟩ := hcell
        have hcc2 : ¬ (c : Int) < (c : Int) := by omega
        go_wp2_with fail
        go_ret
        exact ⟨by rw [HV.out]; rfl, HGr.out⟩

end Go.Proofs.Ythganpmmhfoodaa.K
end
