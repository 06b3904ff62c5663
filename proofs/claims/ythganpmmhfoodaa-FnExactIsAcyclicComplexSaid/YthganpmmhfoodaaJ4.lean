/- Texts of this work, put together by its pack.py. No conditions. -/
import Derived.Test.YthganpmmhfoodaaJ3
import Derived.Below
import Derived.Deep.Draws
import Derived.Deep.AppendLies
import Derived.Maps.AppendAt
import Derived.OwnWalk
import Derived.Laws.BytesArg
import Derived.Laws.MakeOwn
import Derived.Laws.OwnMore
import Derived.Deep.OwnRows
import Derived.Tactics
import Derived.Lib.ConvBytes
import Derived.Laws.Slices
import Derived.WalkKit
import Derived.KernelRfl
import Derived.RowKit3
import Derived.Deep.LoopGhost
import Derived.Deep.QuietTactic
import Derived.BigQuiet
import Derived.WideLaws
import Derived.Deep.DeepCutAuto
import Derived.Deep.CutBlock
import Derived.Deep.RegionHeld3
import Derived.Laws.Rows
import Derived.Lib.AppendStr
import Derived.ArgAppend
import Derived.Laws.IdiomCopy
import Derived.RowKit
import Derived.OrdersHeld
import Derived.Laws.BitsLemmas
import Derived.Test.YthganpmmhfoodaaProg
import Derived.Shelf.Abstract
import Derived.Laws.StructEq
import Derived.Lib.SliceRun
import Derived.RangeFuncBox
import Derived.RangeFuncLeaves
import Derived.OwnWalkIn
import Derived.TacticsInMore
import Derived.LoopNIn
import Derived.LoopIn
section
/- The program's rank. -/
namespace Go.Proofs.Ythganpmmhfoodaa.K
open Go.RowKit Go.Shelf Go.Proofs.Ythganpmmhfoodaa.Q Go.Proofs.YthganpmmhfoodaaW.PrintWords Go.Proofs.YthganpmmhfoodaaW.PrintLast Go.Proofs.YthganpmmhfoodaaW.PrintMore
set_option linter.unusedVariables false
set_option linter.unusedSimpArgs false

theorem bs_calls (A : Option Addr) (c : Nat) (l : List Int) (t : Int) (w : World) (hr : Ki.C w A l.length l) (hc : l.length ≤ c) (hl : l.length ≤ 63) :
    Calls Try.prog 90 #[.slice A l.length c, I t] w fun e w' => e = .returned (.tuple #[I (bsOf l t).1, .bool (bsOf l t).2]) ∧ Grew w w' :=
  (slices_BinarySearch_int64_int64.calls (l.length + 1) A c l t _ _ w hr hc (bs_is l t (by omega))).mono fun e w' ⟨he, hd⟩ => ⟨he, hd.below⟩

set_option maxHeartbeats 1000000 in
theorem rank1_calls (row : List Int) (A : Option Addr) (cp : Nat) (B c : Nat) (w : World) (hb : w.cell? ⟨B, 0, none⟩ = some (I c)) (hr : Ki.C w A row.length row) (hc : c < row.length) :
    Calls Try.prog 104 (#[.slice A row.length cp] ++ #[.pointer (some ⟨B, 0, none⟩)]) w fun e w' => e = .returned (.bool (row.getD c 0 != 0)) ∧ Grew w w' := by
  obtain ⟨ad, e0, hx⟩ := Kd.at_int hr (c : Int) (by omega) (by omega)
  cases e0
  have hrd : rd row (c : Int) = row.getD c 0 := by simp [rd]
  rw [hrd, Int.toNat_natCast] at hx
  have hcz : (c : Int) < (row.length : Int) := by omega
  clear hr hrd
  generalize row.getD c 0 = x at hx ⊢
  generalize row.length = m at hcz hc ⊢
  go_enter Try.func104, Try.ntmps104
  go_wp2_with fail
  go_ret
  exact ⟨by first | rfl | (simp [bne]; done), Grew.refl w⟩

theorem prod3 (p a b y : Int) (hp : 2 ≤ p ∧ p ≤ 3) (ha : 0 ≤ a ∧ a < p) (hb : 0 ≤ b ∧ b < p) (hy : 0 ≤ y ∧ y < p) : 0 ≤ a * b * y ∧ a * b * y ≤ 27 := by
  have h1 := prod_range p a b hp ha ⟨hb.1, by omega⟩
  have h2 : y ≤ 3 := by omega
  refine ⟨Int.mul_nonneg h1.1 hy.1, ?_⟩
  calc a * b * y ≤ 9 * 3 := Int.mul_le_mul h1.2 h2 hy.1 (by omega)
    _ = 27 := rfl
theorem rdOf_nat {α : Type} (d : α) (l : List α) (i : Nat) (h : i < l.length) : rdOf d l (i : Int) = l[i] := by simp [rdOf, h]
theorem add_at2 (G r i : Nat) : Addr.add ⟨G, r, none⟩ i = ⟨G, r + i, none⟩ := by
  unfold Addr.add
  split
  · rename_i h; rw [h]; rfl
  · rfl
/-- slices.IndexFunc over the rows behind r: where the pivot is. -/
theorem piv_calls {w : World} {base : Nat} {vs : List OneV} {f : Nat → Nat} {M : List (List Int)} {G n cc m col r B : Nat} (h : Mat w base (.slice (some ⟨G, 0, none⟩) n cc) vs f M) (hn : M.length = n) (hn63 : n ≤ 63) (hr : r ≤ n) (hm : ∀ row ∈ M, row.length = m) (hcol : col < m)
    (hB : w.heap[B]? = some (.cells #[I col] 3 (0, 0))) (A : Option Addr) (c' : Nat) (hA : n - r = 0 ∨ A = some ⟨G, r, none⟩) :
    Calls Try.prog 103 #[.slice A (n - r) c', .func (.func 104) #[] #[.pointer (some ⟨B, 0, none⟩)]] w fun e w' => e = .returned (I (pivI M r col)) ∧ Grew w w' := by
  have hl := h.len
  have hdl : (vs.drop r).length = n - r := by rw [List.length_drop]; omega
  have hM : idx (fun i => ((M.drop r).getD i []).getD col 0 != 0) (List.range (n - r)) = pivI M r col := by
    have := idx_range (fun row : List Int => row.getD col 0 != 0) (M.drop r) []
    rw [List.length_drop, hn] at this
    exact this
  have hG : n - r = 0 ∨ G < w.heap.size := by
    rcases Nat.eq_zero_or_pos (n - r) with h0 | h0
    · exact .inl h0
    · obtain ⟨G', _, e, _, hlt, _⟩ := Kd.R_form h.outer (by omega)
      injection e with e1
      injection e1 with e1
      injection e1 with e1
      exact .inr (by rw [e1]; exact hlt)
  have H := IndexFunc_rows (fun i => ((M.drop r).getD i []).getD col 0 != 0) A c' (vs.drop r) 104 #[] #[.pointer (some ⟨B, 0, none⟩)] w
    (fun i hi => by
      rw [hdl] at hi
      rcases hA with h0 | rfl
      · omega
      · refine ⟨_, rfl, ?_⟩
        rw [add_at2]
        obtain ⟨h6, _⟩ := Kd.R_celln nilV h.outer ((r + i : Nat) : Int) (by omega) (by omega)
        rw [Int.toNat_natCast] at h6
        have h8 : rdOf nilV vs ((r + i : Nat) : Int) = vs[r + i]'(by omega) := rdOf_nat nilV vs (r + i) (by omega)
        rw [h8] at h6
        rw [List.getElem_drop]
        exact h6)
    (fun ad e => by
      rcases hA with h0 | h0
      · exact .inr (by omega)
      · rw [h0] at e
        injection e with e
        subst e
        rcases hG with h1 | h1
        · exact .inr (by omega)
        · exact .inl h1)
    (by omega) (enters_of Try.func104 (by kernel_rfl) rfl)
    (fun i hi W hW => by
      rw [hdl] at hi
      have hri : r + i < M.length := by omega
      have hrow := (h.below hW).row (r + i) hri
      obtain ⟨A', c2, e, h1, h2⟩ := Kd.R_reads hrow
      have e2 : ((vs.drop r)[i]'(by omega)).1 = .slice A' M[r + i].length c2 := by rw [List.getElem_drop]; exact e
      have e3 : ((M.drop r).getD i []) = M[r + i] := by rw [getD_get _ i [] (by rw [List.length_drop]; omega), List.getElem_drop]
      rw [e2, e3]
      exact rank1_calls M[r + i] A' c2 B col W (blk_cell (blk_below hB hW) 0) h2 (by rw [hm _ (List.getElem_mem hri)]; exact hcol))
  rw [hdl, hM] at H
  exact H

set_option maxRecDepth 100000 in
set_option maxHeartbeats 16000000 in
theorem rank_calls (n : Int) (A : Option Addr) (c : Nat) (l : List Int) (d p : Int) (w : World) (hk : Kx w A c l) (hi : isC n l = true) (hd : -5 ≤ d ∧ d ≤ 15) (hp : 2 ≤ p ∧ p ≤ 3) :
    Calls Try.prog 73 #[.agg #[I n, .slice A l.length c], I d, I p] w fun e w' => e = .returned (I (rankL l d p)) ∧ Grew w w' := by
  have hg : Grew w (w.alloc (.cells #[I n, .slice A l.length c] 28)) := below_alloc (Grew.refl w) _
  have hB : CB (w.alloc (.cells #[I n, .slice A l.length c] 28)) w.heap.size n (.slice A l.length c) := blk_new w _
  have hf := isC_faces hi
  have hl := hf.2.2.2
  have HF := Aside0.mk (isC_of hi)
  have H1 := Aside0.mk (of_calls n A c l (d - 1) _ (hk.later hg) (by omega) HF.out)
  have hF63 := of_length l d
  have hC63 := of_length l (d - 1)
  have HFr := Aside0.mk (fun x (hx : x ∈ ofL l d) => hf.2.2.1 x (List.mem_filter.1 hx).1)
  have HBD := Aside0.mk (fun x (hx : x ∈ ofL l d) => bords_of hi d x hx)
  have HAS := Aside0.mk (of_asc hi (d - 1))
  have HV := Aside0.mk (show rankL l d p = rankM p (ofL l (d - 1)).length ((ofL l d).map (rowR (ofL l (d - 1)) p)) from rfl)
  have HGD := Aside0.mk (rowsL_good l d p hp.1)
  have HRW := Aside0.mk (show rowsL l d p = (ofL l d).map (rowR (ofL l (d - 1)) p) from rfl)
  rw [HRW.out] at HGD
  rw [HV.out]
  have k0 := hB.c0
  have k1 := hB.c1
  have HK := Aside0.mk hk
  have HB := Aside0.mk hB
  have HG := Aside0.mk hg
  have hp0 : p ≠ 0 := by omega
  have HOF := Aside0.mk (fun (w1 : World) (h : Kx w1 A c l) => of_calls n A c l d w1 h (by omega) HF.out)
  obtain ⟨F, hF⟩ : ∃ F, F = ofL l d := ⟨_, rfl⟩
  obtain ⟨cs, hcs⟩ : ∃ cs, cs = ofL l (d - 1) := ⟨_, rfl⟩
  rw [← hF] at hF63 HFr HBD HOF HGD ⊢
  rw [← hcs] at H1 hC63 HBD HAS HGD ⊢
  clear hk hi hf hg hB hF hcs HV HRW
  go_enter Try.func73, Try.ntmps73
  go_wp2_with fail
  refine H1.out.mono ?_
  rintro e w1 ⟨v7, rfl, hR7, hG7⟩
  obtain ⟨A7, c7, rfl, hc7, hr7⟩ := Kd.R_reads hR7
  have HG1 := Aside0.mk (Grew.trans HG.out hG7)
  have HB1 := Aside0.mk (CB.later HB.out hG7)
  clear k0 k1 H1 hR7 hG7
  have k0 := HB1.out.c0
  have k1 := HB1.out.c1
  go_wp2_with fail
  refine (HOF.out w1 (HK.out.later HG1.out)).mono ?_
  rintro e w2 ⟨v31, rfl, hR31, hG31⟩
  obtain ⟨A31, c31, rfl, hc31, hr31⟩ := Kd.R_reads hR31
  have HG2 := Aside0.mk (Grew.trans HG1.out hG31)
  have HR7 := Aside0.mk (Kd.C_below hr7 hG31)
  have HR31 := Aside0.mk hr31
  clear hR31 hr31 hr7 hG31 k0 k1
  go_wp2_with fail
  go_loopg [8, 33] F.length (fun gg s8 s33 wr => ∃ kk, kk ≤ F.length ∧ F.length - kk ≤ gg ∧ s33 = .int .i64 (kk : Nat) ∧ (kk = 0 → s8 = .slice none 0 0) ∧ (∃ vs f, Aside0 (Mat wr w2.heap.size s8 vs f ((F.take kk).map (rowR cs p)))) ∧ Aside0 (Grew w2 wr))
  case atStart => exact ⟨0, Nat.zero_le _, by omega, rfl, fun _ => rfl, ⟨[], fun _ => 0, ⟨Mat.nil _ _⟩⟩, ⟨Grew.refl _⟩⟩
  case round =>
    obtain ⟨kk, hkk, hgg, rfl, hnil, ⟨vs, f, HM⟩, HGr⟩ := hrel
    obtain ⟨A8, c8, e8, hc8⟩ := HM.out.slice
    have HML : Aside0 (((F.take kk).map (rowR cs p)).length = kk) := ⟨by simp; omega⟩
    rw [HML.out] at e8 hc8
    subst e8
    by_cases hlt : kk < F.length
    · have hltz : (kk : Int) < (F.length : Int) := by omega
      obtain ⟨ad, e0, hx⟩ := Kd.at_int (Kd.C_below HR31.out HGr.out) (kk : Int) (by omega) (by omega)
      cases e0
      have hrd : rd F (kk : Int) = F[kk] := by simp [rd, hlt]
      rw [hrd, Int.toNat_natCast] at hx
      have hyr := HFr.out _ (List.getElem_mem hlt)
      have HBy := Aside0.mk (HBD.out _ (List.getElem_mem hlt))
      obtain ⟨y, hy⟩ : ∃ y, y = F[kk] := ⟨_, rfl⟩
      rw [← hy] at hx hyr HBy
      have HN : Aside0 ((F.take (kk + 1)).map (rowR cs p) = (F.take kk).map (rowR cs p) ++ [rowR cs p y]) := ⟨by rw [List.take_succ_eq_append_getElem hlt, List.map_append, hy]; rfl⟩
      clear hrd hy
      have h0m : 0 ≤ (cs.length : Int) := by omega
      generalize hMM : (F.take kk).map (rowR cs p) = M at HM HML HN
      clear hMM
      go_wp2_with (first | ((with_reducible refine gate_dst (N := 39) rfl ?_); refine Kd.R_make (Kd.int .i64) _ 2 rfl (N := 39) rfl 22 _ _ rfl (cs.length : Int) (by go_num) (by go_num) Try.underlying22 (.int .i64 0) 8 infoI rfl (by decide) (by omega) 0 (ok := fun _ => True) (okp := fun _ => True) rfl (fun _ hk => hk) trivial h0m (by omega) (Below.refl _ _) (Nat.le_refl _) ?_; intro v w4 ho hb hg_ hnew_; have HO := Aside0.mk ho; have HG4 := Aside0.mk hb; have HNW := Aside0.mk hnew_; clear ho hb hg_ hnew_))
      rw [Int.toNat_natCast] at HO
      obtain ⟨b, hbv, hbs⟩ := HNW.out
      obtain ⟨A11, c11, e11⟩ := Kd.R_slice HO.out
      rw [List.length_replicate] at e11
      subst e11
      obtain ⟨h1, h2⟩ := HM.out.split b hbs
      have hb4 : b < w4.heap.size := Kd.R_lt HO.out b hbv
      have hs4 := HGr.out.size
      have hs5 := HG4.out.size
      have HFR := Aside0.mk HM.out.fresh
      have HO1 : Aside0 (Ki.R 2 w4 w2.heap.size (fun k => k = b) (.slice A11 cs.length c11) (List.replicate cs.length 0)) := ⟨Kd.R_lower (Kd.R_of_own (Kd.own_of_R HO.out) (fun k hk => by rw [hbv] at hk; injection hk with hk; exact hk.symm)) hs4⟩
      have HW4 : Aside0 (Grew w2 w4) := ⟨Grew.trans HGr.out HG4.out⟩
      have HS4 := Aside0.mk (h1.below HG4.out)
      have HU4 := Aside0.mk (Kd.R_below h2 HG4.out)
      clear h1 h2 HO hx HNW
      go_wp2_with fail
      refine (borders_calls y _).mono ?_
      rintro e w5 ⟨v41, rfl, hR41, hG5⟩
      obtain ⟨A41, c41, rfl, hc41, _⟩ := Kd.R_reads hR41
      have HB5 : Aside0 (Ki.R 2 w5 w2.heap.size (fun k => k ≠ b) (.slice A41 (bords y).length c41) (bords y)) := ⟨Kd.R_lower (Kd.R_mono (Kd.R_bound hR41) (fun k hk => by have := hk.2.1; omega)) (by omega)⟩
      have HO5 := Aside0.mk (Kd.R_below HO1.out hG5)
      have HS5 := Aside0.mk (HS4.out.below hG5)
      have HU5 := Aside0.mk (Kd.R_below HU4.out hG5)
      have HW5 : Aside0 (Grew w2 w5) := ⟨Grew.trans HW4.out hG5⟩
      have hb5 : b < w5.heap.size := Nat.lt_of_lt_of_le hb4 hG5.size
      have hs6 := hG5.size
      have HRR := Aside0.mk (show rowR cs p y = fillR cs p (bords y) (signsL y) (bords y).length from rfl)
      have hsl : (signsL y).length = (bords y).length := by simp [signsL]
      have hbl := bords_length y
      have HSG := Aside0.mk (fun s h => sign_is y (by omega) (by omega) s h)
      have HSC := Aside0.mk (signs_calls y (by omega) (by omega))
      clear hR41 hG5 HO1 HS4 HU4 HW4
      rw [HRR.out] at HN
      clear HRR
      generalize bords y = bs at HB5 HN hsl hbl HBy ⊢
      generalize signsL y = sg at HN hsl HSG HSC
      have HO5' : Aside0 (Ki.R 2 w5 w2.heap.size (fun k => k = b) (.slice A11 cs.length c11) (fillR cs p bs sg 0)) := ⟨HO5.out⟩
      go_wp2_with fail
      go_loopg [43] bs.length (fun gg s43 wr5 => ∃ q : Nat, q ≤ bs.length ∧ bs.length - q ≤ gg ∧ s43 = .int .i64 q ∧ b < wr5.heap.size ∧ wr.heap.size ≤ wr5.heap.size ∧ Aside0 (Ki.R 2 wr5 w2.heap.size (fun k => k = b) (.slice A11 cs.length c11) (fillR cs p bs sg q)) ∧ Aside0 (Ki.R 2 wr5 w2.heap.size (fun k => k ≠ b) (.slice A41 bs.length c41) bs) ∧
        Aside0 (Rws wr5 w2.heap.size vs (fun k => if k = b then M.length else f k) M) ∧ Aside0 (Kv.R 22 wr5 w2.heap.size (fun k => M.length ≤ f k ∧ k ≠ b) (.slice A8 kk c8) vs) ∧ Aside0 (Grew w2 wr5))
      case atStart => exact ⟨0, Nat.zero_le _, by omega, rfl, hb5, by omega, HO5', HB5, HS5, HU5, HW5⟩
      case round =>
        obtain ⟨q, hq, hgq, rfl, hbr, hsr, HOr, HBr, HSr, HUr, HWr⟩ := hrel
        by_cases hlq : q < bs.length
        · have hlqz : (q : Int) < (bs.length : Int) := by omega
          obtain ⟨_, _, hr41⟩ := Kd.R_reads' HBr.out
          obtain ⟨ad, e0, hx⟩ := Kd.at_int hr41 (q : Int) (by omega) (by omega)
          cases e0
          have hrd : rd bs (q : Int) = bs[q] := by simp [rd, hlq]
          rw [hrd, Int.toNat_natCast] at hx
          have hgc := HBy.out _ (List.getElem_mem hlq)
          obtain ⟨hpl, hpc1, hpc2, hpb⟩ := place_is cs bs[q] (by omega) HAS.out hgc
          clear hpc1 hpc2
          have HFS : Aside0 (fillR cs p bs sg (q + 1) = (fillR cs p bs sg q).set (place cs bs[q]) ((sg[q]'(by omega) + p) % p)) := ⟨by rw [fillR_succ, getD_get bs q 0 hlq, getD_get sg q 0 (by omega)]⟩
          have H6 := Aside0.mk (bs_calls A7 c7 cs bs[q] _ (Kd.C_below HR7.out HWr.out) hc7 (by omega))
          rw [hpb] at H6
          generalize place cs bs[q] = P at hpl H6 HFS
          generalize bs[q] = g at hx H6
          clear hrd hpb hr41 hgc
          go_wp2_with fail
          refine H6.out.mono ?_
          rintro e w6 ⟨rfl, hG6⟩
          clear hx H6
          go_wp2_with fail
          refine (HSC.out w6).mono ?_
          rintro e w7 ⟨v57, rfl, hR57, hG7⟩
          obtain ⟨A57, c57, rfl, hc57, hr57⟩ := Kd.R_reads hR57
          obtain ⟨ad, e0, hx⟩ := Kd.at_int hr57 (q : Int) (by omega) (by omega)
          cases e0
          have hrd : rd sg (q : Int) = sg[q]'(by omega) := by simp [rd, show q < sg.length by omega]
          rw [hrd, Int.toNat_natCast] at hx
          have hs := HSG.out _ (List.getElem_mem (show q < sg.length by omega))
          have hqs : (q : Int) < (sg.length : Int) := by omega
          generalize sg[q]'(by omega) = s at hx hs HFS
          have hG67 : Grew wr w7 := Grew.trans hG6 hG7
          have HO7 := Aside0.mk (Kd.R_below HOr.out hG67)
          have HB7 := Aside0.mk (Kd.R_below HBr.out hG67)
          have HS7 := Aside0.mk (HSr.out.below hG67)
          have HU7 := Aside0.mk (Kd.R_below HUr.out hG67)
          have HW7 : Aside0 (Grew w2 w7) := ⟨Grew.trans HWr.out hG67⟩
          have hs7 := hG67.size
          clear hrd hr57 hR57 hG6 hG7 hG67 HOr HBr HSr HUr HWr
          have hfl := (fillR_good cs p hp.1 bs sg q).1
          obtain ⟨g11, cc, eo, gb, gl, _⟩ := Kd.R_form HO7.out (by omega)
          rw [hfl] at eo
          injection eo with ea en ec
          subst ea ec
          clear en
          obtain rfl : g11 = b := HO7.out.1 g11 (by simp [Value.ownBlock])
          obtain ⟨hy1, hf1⟩ := Kd.R_celln 0 HO7.out (P : Int) (by omega) (by omega)
          rw [Int.toNat_natCast] at hy1 hf1
          have hP2 : (P : Int) < (cs.length : Int) := by omega
          have hsp : 0 ≤ s + p := by omega
          rw [show (s + p) % p = s % p by simp] at HFS
          have HOW := Aside0.mk (Kd.R_putn HO7.out (P : Int) (s % p))
          rw [Int.toNat_natCast, ← HFS.out] at HOW
          have hfar : ∀ k, k ≠ g11 → (w7.setCell ⟨g11, P, none⟩ (I (s % p))).heap[k]? = w7.heap[k]? := fun k hk => Below.heap_setCell w7 _ _ k hk
          have HBW := Aside0.mk (Kd.R_step HB7.out (fun k ho _ => hfar k ho))
          have HUW := Aside0.mk (Kd.R_step HU7.out (fun k ho _ => hfar k ho.2))
          have HSW : Aside0 (Rws (w7.setCell ⟨g11, P, none⟩ (I (s % p))) w2.heap.size vs (fun k => if k = g11 then M.length else f k) M) := ⟨HS7.out.step (fun k hk _ => hfar k (fun e => by
            have h3 : (if k = g11 then M.length else f k) < M.length := hk
            rw [if_pos e] at h3
            omega))⟩
          have HWW : Aside0 (Grew w2 (w7.setCell ⟨g11, P, none⟩ (I (s % p)))) := ⟨Below.setCell HW7.out gb _⟩
          have hsz : (w7.setCell ⟨g11, P, none⟩ (I (s % p))).heap.size = w7.heap.size := World.size_setCell _ _ _
          clear HO7 HB7 HS7 HU7 hfar
          go_wp2_with fail
          go_roundg (bs.length - (q + 1))
          case measure => omega
          case rel => exact ⟨q + 1, by omega, by omega, by go_num, by rw [World.size_setCell]; exact gl, by rw [World.size_setCell]; omega, HOW, HBW, HSW, HUW, HWW⟩
        · obtain rfl : q = bs.length := by omega
          have hlqz : ¬ (bs.length : Int) < (bs.length : Int) := by omega
          have hvl := HSr.out.len
          rw [HML.out] at hvl
          have hsw := HWr.out.size
          have hfr : ∀ k, wr.heap.size ≤ k → M.length ≤ f k ∧ k ≠ b := fun k hk => ⟨HFR.out k (by omega), by omega⟩
          have HPS := Aside0.mk (fun (A9 : Option Addr) (c9 : Nat) (w9 : World) hR9 hg9 => Mat.push (v := .slice A8 kk c8) (v1 := .slice A9 (kk + 1) c9) (w1 := w9) (r := (⟨.slice A11 cs.length c11, rfl⟩ : OneV)) HSr.out HOr.out hR9 hg9 (fun k hk => HUr.out.1 k hk) hbr (fun k hk => (hfr k hk).1))
          subst hvl
          go_wp2_with (at_builtin; refine append_val w2.heap.size rfl (.tmp 67) (.tmp 69) rfl (fun k => M.length ≤ f k ∧ k ≠ b) hfr _ vs ⟨.slice A11 cs.length c11, rfl⟩ rfl rfl HUr.out hsw (by omega) ?_; intro A9 c9 w9 hR9 hB9 hg9; have HM9 := Aside0.mk (HPS.out A9 c9 w9 hR9 hg9); have HW9 : Aside0 (Grew w2 w9) := ⟨Below.trans HWr.out hB9⟩; clear hR9 hB9 hg9)
          go_roundg (F.length - (vs.length + 1))
          case measure => omega
          case rel => exact ⟨vs.length + 1, by omega, by omega, by go_num, fun h => absurd h (Nat.succ_ne_zero _), ⟨_, _, ⟨by rw [HN.out]; exact HM9.out⟩⟩, HW9⟩
    · obtain rfl : kk = F.length := by omega
      rw [List.take_length] at HM HML
      obtain ⟨M0, hM0⟩ : ∃ M0, M0 = F.map (rowR cs p) := ⟨_, rfl⟩
      rw [← hM0] at HM HML HGD
      have HE0 := Aside0.mk hM0
      have HP := Aside0.mk hp
      have hbase : w2.heap.size ≤ wr.heap.size := HGr.out.size
      clear hM0
      rcases Nat.eq_zero_or_pos F.length with h0 | hpos
      · have e8 := hnil h0
        injection e8 with e1 e2 e3
        subst e1
        obtain rfl : c8 = 0 := e3
        have HV0 : Aside0 (rankM p cs.length (F.map (rowR cs p)) = 0) := ⟨by rw [List.length_eq_zero_iff.1 h0]; unfold rankM; rw [List.map_nil, rankM_nil]; rfl⟩
        rw [h0]
        have hltz0 : ¬ ((0 : Nat) : Int) < ((0 : Nat) : Int) := by omega
        clear e2 hnil hgg HM HML HGD HBD HFr HAS HR31 hc31 HOF
        go_wp2_with fail
        go_loopg [16, 74] cs.length (fun gg s16 s74 wr2 => ∃ col : Nat, col ≤ cs.length ∧ cs.length - col ≤ gg ∧ s16 = .int .i64 0 ∧ s74 = .int .i64 col ∧ Aside0 (Grew w2 wr2))
        case atStart => exact ⟨0, Nat.zero_le _, by omega, rfl, rfl, HGr⟩
        case round =>
          obtain ⟨col, hc, hgg, rfl, rfl, HG3⟩ := hrel
          by_cases hlt2 : col < cs.length
          · have hltz2 : (col : Int) < (cs.length : Int) := by omega
            have H := Aside0.mk (IndexFunc_rows (fun _ => false) none 0 [] 104 #[] #[.pointer (some ⟨wr.heap.size, 0, none⟩)] (wr.alloc (.cells #[I col] 3)) (fun i hi => absurd hi (Nat.not_lt_zero i)) (fun ad e => by cases e) (Nat.zero_le _) (enters_of Try.func104 (by kernel_rfl) rfl) (fun i hi => absurd hi (Nat.not_lt_zero i)))
            have HGA : Aside0 (Grew wr (wr.alloc (.cells #[I col] 3))) := ⟨below_alloc (Grew.refl wr) _⟩
            go_wp2_with fail
            refine H.out.mono ?_
            rintro e w3 ⟨rfl, hG3⟩
            have HG4 := Aside0.mk (Grew.trans HG3.out (Grew.trans HGA.out hG3))
            clear hG3 H
            have hm1 : idx (fun _ : Nat => false) (List.range ([] : List OneV).length) = -1 := rfl
            rw [hm1]
            go_wp2_with fail
            go_roundg (cs.length - (col + 1))
            case measure => omega
            case rel => exact ⟨col + 1, by omega, by omega, rfl, by go_num, HG4⟩
          · obtain rfl : col = cs.length := by omega
            go_wp2_with fail
            go_ret
            exact ⟨by rw [HV0.out]; rfl, Below.trans HG2.out (HG3.out.mono HG2.out.size)⟩
      · obtain ⟨G, cc, e, hcc⟩ := HM.out.head (by rw [HML.out]; exact hpos)
        rw [HML.out] at e hcc
        injection e with e1 e2 e3
        subst e1
        have e3 := e3.symm
        subst e3
        clear hnil hgg e2
        obtain ⟨N, hN⟩ : ∃ N, N = F.length := ⟨_, rfl⟩
        have hltz : ¬ ((N : Nat) : Int) < ((N : Nat) : Int) := by omega
        rw [← hN] at HM HML hpos hcc hF63 ⊢
        obtain ⟨m, hm⟩ : ∃ m, m = cs.length := ⟨_, rfl⟩
        have HMm := Aside0.mk hm
        rw [← hm] at HGD hC63 HR7 hc7 ⊢
        clear hN hm HBD HFr HAS HR31 hc31 HOF
        go_wp2_with fail
        go_loopg [16, 74] m (fun gg s16 s74 wr2 => ∃ (col r : Nat) (M : List (List Int)), col ≤ m ∧ m - col ≤ gg ∧ s16 = .int .i64 r ∧ s74 = .int .i64 col ∧ Aside0 (rankTo p M0 col = (r, M)) ∧ (∃ vs f, Aside0 (Mat wr2 w2.heap.size (.slice (some ⟨G, 0, none⟩) N cc) vs f M)) ∧ Aside0 (Grew w2 wr2))
        case atStart => exact ⟨0, 0, M0, Nat.zero_le _, by omega, rfl, rfl, ⟨rfl⟩, ⟨vs, f, HM⟩, HGr⟩
        case round =>
          obtain ⟨col, r, M, hc, hgg, rfl, rfl, HS, ⟨vs2, f2, HM2⟩, HG3⟩ := hrel
          obtain ⟨hr1, hr2, hr3, hr4, hr5⟩ := rank_good HP.out HGD.out col hc
          rw [HS.out] at hr1 hr2 hr3 hr4 hr5
          simp only at hr1 hr2 hr3 hr4 hr5
          rw [HML.out] at hr1 hr3
          have HGM := Aside0.mk hr4
          have HCM := Aside0.mk hr5
          have HL := Aside0.mk hr3
          clear hr4 hr5 hr3
          by_cases hlt2 : col < m
          · have hltz2 : (col : Int) < (m : Int) := by omega
            have hBx : (wr.alloc (.cells #[I col] 3)).heap[wr.heap.size]? = some (.cells #[I col] 3 (0, 0)) := blk_new wr _
            have hgA : Grew wr (wr.alloc (.cells #[I col] 3)) := below_alloc (Grew.refl wr) _
            have H := Aside0.mk (fun A c' hA => piv_calls (HM2.out.below hgA) HL.out (by omega) hr1 (fun row hrow => (HGM.out row hrow).1) hlt2 hBx A c' hA)
            have HBX := Aside0.mk hBx
            have HGA := Aside0.mk hgA
            have hrr : ((r : Nat) : Int) ≤ (N : Int) := by omega
            clear hBx hgA
            by_cases hrc : r < cc
            · go_wp2_with fail
              refine (H.out _ _ (.inr rfl)).mono ?_
              rintro e w3 ⟨rfl, hG3⟩
              have HG4 := Aside0.mk (Grew.trans HGA.out hG3)
              have HBX3 := Aside0.mk (blk_below HBX.out hG3)
              have HMx := Aside0.mk (HM2.out.below HG4.out)
              have HW3 := Aside0.mk (Grew.trans HG3.out HG4.out)
              clear hG3 H
              rcases pivI_cases M r col with hm1 | ⟨i, hpi, hri, hne⟩
              · rw [hm1]
                have HS2 : Aside0 (rankTo p M0 (col + 1) = (r, M)) := ⟨by
                  rw [rankTo_succ, HS.out]
                  unfold rstep
                  simp only [hm1]
                  rfl⟩
                go_wp2_with fail
                go_roundg (m - (col + 1))
                case measure => omega
                case rel => exact ⟨col + 1, r, M, by omega, by omega, rfl, by go_num, HS2, ⟨vs2, f2, HMx⟩, HW3⟩
              · rw [hpi]
                rw [HL.out] at hri
                have hrn : r < N := by omega
                have hrl : r < M.length := by rw [HL.out]; omega
                have hjl : r + i < M.length := by rw [HL.out]; omega
                obtain ⟨gj, cj, ej, hcj, _, _, hbG, _, hxj, hfj, _⟩ := HMx.out.at (r + i) m hjl (HGM.out _ (getD_mem M (r + i) hjl)).1 (by omega)
                obtain ⟨gr, cr, er, hcr, _, _, _, _, hxr, hfr, _⟩ := HMx.out.at r m hrl (HGM.out _ (getD_mem M r hrl)).1 (by omega)
                obtain ⟨hmid, hfmid⟩ := HMx.out.mid r (r + i) hrl hjl
                rw [ej] at hmid hfmid
                have hsw := HMx.out.swap r (r + i) hrl hjl
                rw [ej, er, swapM_is M r (r + i) hrl hjl] at hsw
                have HSW := Aside0.mk hsw
                clear hsw
                have hvl := HMx.out.len
                have HVR : Aside0 ((((vs2.set r (vs2[r + i]'(by omega))).set (r + i) (vs2[r]'(by omega))).getD r nilV).1 = .slice (some ⟨gj, 0, none⟩) m cj) := ⟨by
                  have e1 : swapT r (r + i) r = r + i := by
                    unfold swapT
                    split
                    · assumption
                    · rw [if_pos rfl]
                  rw [getD_get _ r nilV (by simp; omega), swap_get vs2 r (r + i) (by omega) (by omega) r (by omega)]
                  simp only [e1]
                  exact ej⟩
                have HS2 : Aside0 (rankTo p M0 (col + 1) = (r + 1, elimM p col r (swapM M r (r + i)) N)) := ⟨by
                  rw [rankTo_succ, HS.out]
                  unfold rstep
                  simp only [hpi]
                  rw [if_neg (by omega), Int.toNat_natCast, HL.out]⟩
                have HGS := Aside0.mk (swapM_good HGM.out r (r + i) hrl hjl)
                have HCS : Aside0 (∀ q, q < col → ((swapM M r (r + i)).getD r []).getD q 0 = 0) := ⟨fun q hq => by
                  rw [swapM_get M r (r + i) r hrl hjl]
                  split
                  · exact HCM.out r (Nat.le_refl _) hrl q hq
                  · rw [if_pos rfl]; exact HCM.out (r + i) (by omega) hjl q hq⟩
                have HLS : Aside0 ((swapM M r (r + i)).length = N) := ⟨by rw [swapM_length, HL.out]⟩
                generalize (vs2.set r (vs2[r + i]'(by omega))).set (r + i) (vs2[r]'(by omega)) = vS at HSW HVR
                generalize (fun k => swapT r (r + i) (f2 k)) = fS at HSW
                generalize swapM M r (r + i) = S at HSW HS2 HGS HCS HLS
                have hGB : G ≠ wr.heap.size := by
                  obtain ⟨G', _, e, _, hlt, _⟩ := Kd.R_form HM2.out.outer (by rw [HM2.out.len, HL.out]; exact hpos)
                  injection e with e1
                  injection e1 with e1
                  injection e1 with e1
                  omega
                have HB2 : Aside0 (Grew w2 ((w3.setCell ⟨G, r, none⟩ (.slice (some ⟨gj, 0, none⟩) m cj)).setCell ⟨G, r + i, none⟩ (.slice (some ⟨gr, 0, none⟩) m cr))) := ⟨Below.setCell (Below.setCell HW3.out hbG _) hbG _⟩
                have HBX5 : Aside0 (((w3.setCell ⟨G, r, none⟩ (.slice (some ⟨gj, 0, none⟩) m cj)).setCell ⟨G, r + i, none⟩ (.slice (some ⟨gr, 0, none⟩) m cr)).heap[wr.heap.size]? = some (.cells #[I col] 3 (0, 0))) := ⟨blk_far (blk_far HBX3.out (fun e => hGB e.symm) _) (fun e => hGB e.symm) _⟩
                have hiz : ¬ ((i : Nat) : Int) < 0 := by omega
                have hri2 : ((r : Nat) : Int) + (i : Int) < (N : Int) := by omega
                have HSW5 := Aside0.mk (HSW.out.below (below_drew (Below.refl _ _)))
                have HB25 := Aside0.mk (below_drew HB2.out)
                have HBX55 := Aside0.mk (blk_below HBX5.out (below_drew (Below.refl _ _)))
                clear HSW HB2 HBX5
                have HRN : Aside0 (((N - (r + 1) : Nat) : Int) = (N : Int) - ((r : Int) + 1)) := ⟨by omega⟩
                clear ej er
                by_cases hr1c : r + 1 < cc
                · go_wp2_with fail
                  go_region
                  generalize ((w3.setCell ⟨G, r, none⟩ (.slice (some ⟨gj, 0, none⟩) m cj)).setCell ⟨G, r + i, none⟩ (.slice (some ⟨gr, 0, none⟩) m cr)).drew = W5 at HSW5 HB25 HBX55 ⊢
                  generalize wr.heap.size = B at HBX55 hGB ⊢
                  obtain ⟨gp, cp', ep, _, _, _, _, _, hxp, _, _⟩ := HSW5.out.at r m (by rw [HLS.out]; exact hrn) (HGS.out _ (getD_mem S r (by rw [HLS.out]; exact hrn))).1 (by omega)
                  have e1 := HVR.out
                  rw [getD_get vS r nilV (by have := HSW5.out.len; rw [HLS.out] at this; omega), ep] at e1
                  injection e1 with e1 _ e2
                  injection e1 with e1
                  injection e1 with e1
                  subst e1 e2
                  have hr1n : ((r : Nat) : Int) + 1 ≤ (N : Int) := by omega
                  go_wp2_with fail
                  go_loopg [110] N (fun gg s110 wr4 => ∃ q : Nat, q ≤ N - (r + 1) ∧ N - (r + 1) - q ≤ gg ∧ s110 = .int .i64 q ∧ Aside0 (wr4.heap[B]? = some (.cells #[I col] 3 (0, 0))) ∧ Aside0 (Mat wr4 w2.heap.size (.slice (some ⟨G, 0, none⟩) N cc) vS fS (elimM p col r S (r + 1 + q))) ∧ Aside0 (Grew w2 wr4))
                  case atStart => exact ⟨0, Nat.zero_le _, by omega, by go_num, HBX55, ⟨by rw [Nat.add_zero, elimM_start]; exact HSW5.out⟩, HB25⟩
                  case round =>
                    clear hxp hxj hfj hxr hfr hmid hfmid ep
                    obtain ⟨q, hqn, hg2, rfl, HBX6, HM6, HB6⟩ := hrel
                    have hrS : r < S.length := by rw [HLS.out]; omega
                    by_cases hlq : q < N - (r + 1)
                    · have hi2n : r + 1 + q < N := by omega
                      have hlqz : (q : Int) < ((N - (r + 1) : Nat) : Int) := by omega
                      have hiS : r + 1 + q < S.length := by rw [HLS.out]; omega
                      have HRW := Aside0.mk (elimM_get p col r (r + 1 + q) S r hrS)
                      rw [if_neg (by omega)] at HRW
                      have HIW := Aside0.mk (elimM_get p col r (r + 1 + q) S (r + 1 + q) hiS)
                      rw [if_neg (by omega)] at HIW
                      have hli := (HGS.out _ (getD_mem S (r + 1 + q) hiS)).1
                      have hlr := (HGS.out _ (getD_mem S r hrS)).1
                      obtain ⟨gi, ci, ei, hci, hfi, hbi, _, _, hxi, hfzi, hni⟩ := HM6.out.at (r + 1 + q) m (by rw [elimM_length]; exact hiS) (by rw [HIW.out]; exact hli) (by omega)
                      obtain ⟨gq, cq, eq, hcq, hfq, _, _, _, _, _, hnr⟩ := HM6.out.at r m (by rw [elimM_length]; exact hrS) (by rw [HRW.out]; exact hlr) (by omega)
                      have hGi : gi ≠ B := by
                        intro e
                        obtain ⟨cells, hcells⟩ := HM6.out.typed (r + 1 + q) (by rw [elimM_length]; exact hiS) ei
                        have hbb := HBX6.out
                        rw [← e, hcells] at hbb
                        injection hbb with hbb
                        injection hbb with _ hbb
                        exact absurd hbb (by decide)
                      have e1 := HVR.out
                      rw [getD_get vS r nilV (by have := HM6.out.len; rw [elimM_length] at this; omega), eq] at e1
                      injection e1 with e1 _ e2
                      injection e1 with e1
                      injection e1 with e1
                      subst e1 e2
                      rw [HIW.out] at hni
                      rw [HRW.out] at hnr
                      obtain ⟨hxa, _⟩ := hni col hlt2
                      obtain ⟨hxb, _⟩ := hnr col hlt2
                      have ha := good_num HGS.out (r + 1 + q) hiS col hlt2
                      have hb := good_num HGS.out r hrS col hlt2
                      have hbc : wr.cell? ⟨B, 0, none⟩ = some (I col) := blk_cell HBX6.out 0
                      clear hni hnr
                      obtain ⟨a, hA⟩ : ∃ a, a = (S.getD (r + 1 + q) []).getD col 0 := ⟨_, rfl⟩
                      obtain ⟨b, hB⟩ : ∃ b, b = (S.getD r []).getD col 0 := ⟨_, rfl⟩
                      rw [← hA] at hxa ha
                      rw [← hB] at hxb hb
                      have HA := Aside0.mk hA
                      have HB := Aside0.mk hB
                      have hab := prod_range p a b hp ha ⟨hb.1, by omega⟩
                      clear hA hB hli hlr
                      go_wp2_with fail
                      repeat (go_quiet (fail))
                      try go_wp2_with fail
                      clear hxa hxb hxi hfzi hbc
                      go_loopg [125] m (fun gg s125 wr5 => ∃ j2 : Nat, j2 ≤ m ∧ m - j2 ≤ gg ∧ s125 = .int .i64 j2 ∧ Aside0 (wr5.heap[B]? = some (.cells #[I col] 3 (0, 0))) ∧ Aside0 (Mat wr5 w2.heap.size (.slice (some ⟨G, 0, none⟩) N cc) vS fS ((elimM p col r S (r + 1 + q)).set (r + 1 + q) (elimP p col (S.getD r []) (S.getD (r + 1 + q) []) j2))) ∧ Aside0 (Grew w2 wr5))
                      case atStart => exact ⟨0, Nat.zero_le _, by omega, by go_num, ⟨blk_below HBX6.out (pw_below_drewN (Below.refl _ _) _)⟩, ⟨by rw [elimP_zero, set_same _ (r + 1 + q) _ (by rw [elimM_length]; exact hiS) HIW.out]; exact HM6.out.below (pw_below_drewN (Below.refl _ _) _)⟩, ⟨pw_below_drewN HB6.out _⟩⟩
                      case round =>
                        obtain ⟨j2, hjm, hg4, rfl, HBX7, HM7, HB7⟩ := hrel
                        by_cases hlt4 : j2 < m
                        · have hltz4 : (j2 : Int) < (m : Int) := by omega
                          have HR4 : Aside0 ((((elimM p col r S (r + 1 + q)).set (r + 1 + q) (elimP p col (S.getD r []) (S.getD (r + 1 + q) []) j2)).getD (r + 1 + q) []) = elimP p col (S.getD r []) (S.getD (r + 1 + q) []) j2) := ⟨set_getD _ _ _ (by rw [elimM_length]; exact hiS)⟩
                          have HQ4 : Aside0 ((((elimM p col r S (r + 1 + q)).set (r + 1 + q) (elimP p col (S.getD r []) (S.getD (r + 1 + q) []) j2)).getD r []) = S.getD r []) := ⟨by rw [set_getD_ne _ _ _ _ (by omega)]; exact HRW.out⟩
                          have hlen4 : ((elimM p col r S (r + 1 + q)).set (r + 1 + q) (elimP p col (S.getD r []) (S.getD (r + 1 + q) []) j2)).length = S.length := by rw [List.length_set, elimM_length]
                          obtain ⟨g1, c1, e1, _, _, hb1, _, _, _, _, hn1⟩ := HM7.out.at (r + 1 + q) m (by rw [hlen4]; exact hiS) (by rw [HR4.out, elimP_length]; exact (HGS.out _ (getD_mem S (r + 1 + q) hiS)).1) (by omega)
                          obtain ⟨g2, c2, e2, _, _, _, _, _, _, _, hn2⟩ := HM7.out.at r m (by rw [hlen4]; exact hrS) (by rw [HQ4.out]; exact (HGS.out _ (getD_mem S r hrS)).1) (by omega)
                          rw [ei] at e1
                          injection e1 with e1 _ e3
                          injection e1 with e1
                          injection e1 with e1
                          subst e1 e3
                          rw [eq] at e2
                          injection e2 with e2 _ e3
                          injection e2 with e2
                          injection e2 with e2
                          subst e2 e3
                          obtain ⟨hx1, hf1⟩ := hn1 j2 hlt4
                          obtain ⟨hy1, _⟩ := hn2 j2 hlt4
                          rw [HR4.out, elimP_get _ _ _ _ _ _ (by rw [(HGS.out _ (getD_mem S (r + 1 + q) hiS)).1]; exact hlt4), if_neg (Nat.lt_irrefl _)] at hx1
                          rw [HQ4.out] at hy1
                          have hx := good_num HGS.out (r + 1 + q) hiS j2 hlt4
                          have hy := good_num HGS.out r hrS j2 hlt4
                          have HW := HM7.out.put (r + 1 + q) (by rw [hlen4]; exact hiS) gi m ci ei (j2 : Int) (elimAt p col (S.getD r []) (S.getD (r + 1 + q) []) j2)
                          have HE : Aside0 (elimAt p col (S.getD r []) (S.getD (r + 1 + q) []) j2 = Int.tmod ((S.getD (r + 1 + q) []).getD j2 0 - a * b * (S.getD r []).getD j2 0) p % p) := ⟨by
                            rw [HA.out, HB.out]
                            have hv := (impl_val p _ _ _ _ hp hx (good_num HGS.out (r + 1 + q) hiS col hlt2) (good_num HGS.out r hrS col hlt2) hy).symm
                            have htg := Int.lt_tmod_of_pos ((S.getD (r + 1 + q) []).getD j2 0 - (S.getD (r + 1 + q) []).getD col 0 * (S.getD r []).getD col 0 * (S.getD r []).getD j2 0) (show 0 < p by omega)
                            rw [Int.tmod_eq_emod_of_nonneg (by omega)] at hv
                            unfold elimAt
                            rw [hv]
                            simp⟩
                          obtain ⟨x, hX⟩ : ∃ x, x = (S.getD (r + 1 + q) []).getD j2 0 := ⟨_, rfl⟩
                          obtain ⟨y, hY⟩ : ∃ y, y = (S.getD r []).getD j2 0 := ⟨_, rfl⟩
                          rw [← hX] at hx1 hx HE
                          rw [← hY] at hy1 hy HE
                          have hpr := prod3 p a b y hp ha hb hy
                          have htl := Int.tmod_lt_of_pos (x - a * b * y) (show 0 < p by omega)
                          have htg := Int.lt_tmod_of_pos (x - a * b * y) (show 0 < p by omega)
                          clear hn1 hn2 hX hY HR4 HQ4
                          go_wp2_with fail
                          have HW2 : Aside0 (Mat (wr.setCell ⟨gi, j2, none⟩ (I (Int.tmod (x - a * b * y) p % p))) w2.heap.size (.slice (some ⟨G, 0, none⟩) N cc) vS fS ((elimM p col r S (r + 1 + q)).set (r + 1 + q) (elimP p col (S.getD r []) (S.getD (r + 1 + q) []) (j2 + 1)))) := ⟨by
                            rw [← HE.out]
                            have h := HW
                            rw [Int.toNat_natCast, List.getElem_set_self, List.set_set, ← elimP_succ] at h
                            exact h⟩
                          have HB8 : Aside0 (Grew w2 (wr.setCell ⟨gi, j2, none⟩ (I (Int.tmod (x - a * b * y) p % p)))) := ⟨Below.setCell HB7.out hb1 _⟩
                          have HBX8 : Aside0 ((wr.setCell ⟨gi, j2, none⟩ (I (Int.tmod (x - a * b * y) p % p))).heap[B]? = some (.cells #[I col] 3 (0, 0))) := ⟨blk_far HBX7.out (fun e => hGi e.symm) _⟩
                          clear HW
                          go_region
                          all_goals (
                            go_wp2_with fail
                            go_roundg (m - (j2 + 1))
                            (case measure => omega)
                            (case rel => exact ⟨j2 + 1, by omega, by omega, by go_num, ⟨blk_below HBX8.out (below_drew (Below.refl _ _))⟩, ⟨HW2.out.below (below_drew (Below.refl _ _))⟩, ⟨below_drew HB8.out⟩⟩))
                        · obtain rfl : j2 = m := by omega
                          have hltz4 : ¬ (j2 : Int) < (j2 : Int) := by omega
                          have HE2 : Aside0 (elimM p col r S (r + 1 + (q + 1)) = (elimM p col r S (r + 1 + q)).set (r + 1 + q) (elimP p col (S.getD r []) (S.getD (r + 1 + q) []) j2)) := ⟨by
                            rw [← Nat.add_assoc, elimM_succ p col r S (r + 1 + q) (by omega), ← elimP_end, (HGS.out _ (getD_mem S (r + 1 + q) hiS)).1]⟩
                          go_wp2_with fail
                          go_roundg (N - (r + 1) - (q + 1))
                          case measure => omega
                          case rel => exact ⟨q + 1, by omega, by omega, by go_num, HBX7, ⟨by rw [HE2.out]; exact HM7.out⟩, HB7⟩
                    · have hqe : r + 1 + q = N := by omega
                      have hlqz : ¬ (q : Int) < ((N - (r + 1) : Nat) : Int) := by omega
                      rw [hqe] at HM6
                      go_wp2_with fail
                      go_roundg (m - (col + 1))
                      case measure => omega
                      case rel => exact ⟨col + 1, r + 1, elimM p col r S N, by omega, by omega, by go_num, by go_num, HS2, ⟨vS, fS, HM6⟩, HB6⟩
                · have hN1 : N = r + 1 := by omega
                  have hr1n : ((r : Nat) : Int) + 1 ≤ (N : Int) := by omega
                  have hz1 : N - (r + 1) = 0 := by omega
                  have HN1 := Aside0.mk hN1
                  clear hN1
                  go_wp2_with fail
                  go_region
                  generalize ((w3.setCell ⟨G, r, none⟩ (.slice (some ⟨gj, 0, none⟩) m cj)).setCell ⟨G, r + i, none⟩ (.slice (some ⟨gr, 0, none⟩) m cr)).drew = W5 at HSW5 HB25 HBX55 ⊢
                  generalize wr.heap.size = B at HBX55 hGB ⊢
                  obtain ⟨gp, cp', ep, _, _, _, _, _, hxp, _, _⟩ := HSW5.out.at r m (by rw [HLS.out]; exact hrn) (HGS.out _ (getD_mem S r (by rw [HLS.out]; exact hrn))).1 (by omega)
                  have e1 := HVR.out
                  rw [getD_get vS r nilV (by have := HSW5.out.len; rw [HLS.out] at this; omega), ep] at e1
                  injection e1 with e1 _ e2
                  injection e1 with e1
                  injection e1 with e1
                  subst e1 e2
                  go_wp2_with fail
                  go_loopg [110] 0 (fun gg s110 wr4 => s110 = .int .i64 0 ∧ Aside0 (Mat wr4 w2.heap.size (.slice (some ⟨G, 0, none⟩) N cc) vS fS (elimM p col r S N)) ∧ Aside0 (Grew w2 wr4))
                  case atStart => exact ⟨by go_num, ⟨by have h1 := elimM_start p col r S; rw [← HN1.out] at h1; rw [h1]; exact HSW5.out⟩, HB25⟩
                  case round =>
                    clear hxp hxj hfj hxr hfr hmid hfmid ep
                    obtain ⟨rfl, HM6, HB6⟩ := hrel
                    go_wp2_with fail
                    go_roundg (m - (col + 1))
                    case measure => omega
                    case rel => exact ⟨col + 1, r + 1, elimM p col r S N, by omega, by omega, by go_num, by go_num, HS2, ⟨vS, fS, HM6⟩, HB6⟩
            · go_wp2_with fail
              refine (H.out _ _ (.inl (by omega))).mono ?_
              rintro e w3 ⟨rfl, hG3⟩
              have HG4 := Aside0.mk (Grew.trans HGA.out hG3)
              have HMx := Aside0.mk (HM2.out.below HG4.out)
              have HW3 := Aside0.mk (Grew.trans HG3.out HG4.out)
              have hm1 : pivI M r col = -1 := by
                rcases pivI_cases M r col with hm1 | ⟨i, hpi, hri, hne⟩
                · exact hm1
                · rw [HL.out] at hri; omega
              rw [hm1]
              have HS2 : Aside0 (rankTo p M0 (col + 1) = (r, M)) := ⟨by
                rw [rankTo_succ, HS.out]
                unfold rstep
                simp only [hm1]
                rfl⟩
              clear hG3 H
              go_wp2_with fail
              go_roundg (m - (col + 1))
              case measure => omega
              case rel => exact ⟨col + 1, r, M, by omega, by omega, rfl, by go_num, HS2, ⟨vs2, f2, HMx⟩, HW3⟩
          · obtain rfl : col = m := by omega
            have HVV : Aside0 (rankM p cs.length (F.map (rowR cs p)) = (r : Int)) := ⟨by rw [← HMm.out, ← HE0.out]; unfold rankM; rw [HS.out]⟩
            go_wp2_with fail
            go_ret
            exact ⟨by rw [HVV.out]; rfl, Below.trans HG2.out (HG3.out.mono HG2.out.size)⟩

end Go.Proofs.Ythganpmmhfoodaa.K
end

section
/- rank and count in the form that the printed texts take. -/
namespace Go.Proofs.Ythganpmmhfoodaa.X
open Go.RowKit Go.Shelf Go.Proofs.Ythganpmmhfoodaa.K Go.Proofs.YthganpmmhfoodaaW.PrintWords Go.Proofs.YthganpmmhfoodaaW.PrintLast Go.Proofs.YthganpmmhfoodaaW.PrintMore
set_option linter.unusedVariables false
set_option linter.unusedSimpArgs false

def impl_Complex_rank.f (a0_0 : Int) (l0_1 : List Int) (a1 a2 : Int) : Option Int := if isC a0_0 l0_1 = true ∧ (-5 ≤ a1 ∧ a1 ≤ 15) ∧ 2 ≤ a2 ∧ a2 ≤ 3 then some (rankL l0_1 a1 a2) else none
theorem impl_Complex_rank.calls (a0_0 : Int) (A0_1 : Option Addr) (c0_1 : Nat) (l0_1 : List Int) (a1 a2 : Int) (r : Int) (w : World) (hr0_1 : Kd.C (Kd.int .i64) w A0_1 l0_1.length l0_1) (hc0_1 : l0_1.length ≤ c0_1) (h : impl_Complex_rank.f a0_0 l0_1 a1 a2 = some r) :
    Calls Try.prog 73 #[.agg #[.int .i64 a0_0, .slice A0_1 l0_1.length c0_1], .int .i64 a1, .int .i64 a2] w fun e w' => e = .returned (.int .i64 r) ∧ Below w.heap.size w w' := by
  unfold impl_Complex_rank.f at h
  by_cases hl : isC a0_0 l0_1 = true ∧ (-5 ≤ a1 ∧ a1 ≤ 15) ∧ 2 ≤ a2 ∧ a2 ≤ 3
  · rw [if_pos hl] at h
    injection h with h
    subst h
    have h63 := (isC_faces hl.1).2.2.2
    exact rank_calls a0_0 A0_1 c0_1 l0_1 a1 a2 w ⟨hr0_1, hc0_1, by omega⟩ hl.1 hl.2.1 hl.2.2
  · rw [if_neg hl] at h
    cases h
def impl_Complex_count.f (a0_0 : Int) (l0_1 : List Int) (l1 : List Int) : Option (List Int) := if (l0_1.length ≤ 63 ∧ ∀ x ∈ l0_1, 1 ≤ x ∧ x ≤ 63) ∧ l1.length ≤ 63 ∧ ∀ x ∈ l1, x ∈ l0_1 then some (countL (topI l0_1 + 1).toNat l1) else none
theorem impl_Complex_count.calls (a0_0 : Int) (A0_1 : Option Addr) (c0_1 : Nat) (l0_1 : List Int) (A1 : Option Addr) (c1 : Nat) (l1 : List Int) (r : List Int) (w : World) (hr0_1 : Kd.C (Kd.int .i64) w A0_1 l0_1.length l0_1) (hc0_1 : l0_1.length ≤ c0_1) (hr1 : Kd.C (Kd.int .i64) w A1 l1.length l1) (hc1 : l1.length ≤ c1) (h : impl_Complex_count.f a0_0 l0_1 l1 = some r) :
    Calls Try.prog 63 #[.agg #[.int .i64 a0_0, .slice A0_1 l0_1.length c0_1], .slice A1 l1.length c1] w fun e w' => ∃ v0_ : Value, e = .returned (v0_) ∧ Kd.R (Kd.int .i64) 2 w' w.heap.size (fun _ => True) v0_ r ∧ Below w.heap.size w w' := by
  unfold impl_Complex_count.f at h
  by_cases hl : (l0_1.length ≤ 63 ∧ ∀ x ∈ l0_1, 1 ≤ x ∧ x ≤ 63) ∧ l1.length ≤ 63 ∧ ∀ x ∈ l1, x ∈ l0_1
  · rw [if_pos hl] at h
    injection h with h
    subst h
    exact count_calls a0_0 A0_1 c0_1 l0_1 A1 c1 l1 w ⟨hr0_1, hc0_1, by omega⟩ (by omega) hl.1.2 hr1 hc1 hl.2.2 (by omega)
  · rw [if_neg hl] at h
    cases h

end Go.Proofs.Ythganpmmhfoodaa.X
end

section
/- Written by a program of this session (myprint.py over the kit's print). -/
namespace Go.Proofs.Ythganpmmhfoodaa.E
open Go.RowKit Go.Proofs.Ythganpmmhfoodaa.Q Go.Proofs.Ythganpmmhfoodaa.X Go.Proofs.YthganpmmhfoodaaW.PrintWords Go.Proofs.YthganpmmhfoodaaW.PrintLast Go.Proofs.YthganpmmhfoodaaW.PrintMore
attribute [local go_sem] max2_int min2_int max_two min_two max_three min_three max_four min_four   -- for this text's walks alone
set_option linter.unusedVariables false
set_option linter.unusedSimpArgs false



def errW : Option Int → Value
  | none => .nilIface
  | some c => .iface 0 (.int .i64 c)
theorem errW_none : errW none = .nilIface := rfl
theorem errW_some (c : Int) : errW (some c) = .iface 0 (.int .i64 c) := rfl

-- the values' own types

end Go.Proofs.Ythganpmmhfoodaa.E
end

section
/- Written by a program of this session (myprint.py over the kit's print). -/
namespace Go.Proofs.Ythganpmmhfoodaa.E
open Go.RowKit Go.Proofs.Ythganpmmhfoodaa.Q Go.Proofs.Ythganpmmhfoodaa.X Go.Proofs.YthganpmmhfoodaaW.PrintWords Go.Proofs.YthganpmmhfoodaaW.PrintLast Go.Proofs.YthganpmmhfoodaaW.PrintMore
attribute [local go_sem] max2_int min2_int max_two min_two max_three min_three max_four min_four   -- for this text's walks alone
set_option linter.unusedVariables false
set_option linter.unusedSimpArgs false



/-! ### impl_Complex_betti: function 78 -/
def impl_Complex_betti.l0 : Nat → Int → List Int → Int → Int → Int → List Int → Option (List Int)
  | 0, _, _, _, _, _, _ => none
  | k + 1, x1, x5, x12, x13, x102000, x102001 => if x13 < x12 then (if 0 ≤ x13 then (if x13 < (x5.length : Int) then ((impl_Complex_rank.f x102000 x102001 x13 x1).bind fun t106 => ((impl_Complex_rank.f x102000 x102001 (wrap64 (x13 + 1)) x1).bind fun t107 => (impl_Complex_betti.l0 k x1 (x5.set (x13 : Int).toNat (wrap64 ((rd x5 x13) - (wrap64 (t106 + t107))))) x12 (wrap64 (x13 + 1)) x102000 x102001))) else (none)) else (none)) else (some x5)
def impl_Complex_betti.f (k : Nat) (a0_0 : Int) (l0_1 : List Int) (a1 : Int) : Option (List Int) := (impl_Complex_count.f a0_0 l0_1 l0_1).bind fun t102 => (impl_Complex_betti.l0 k a1 t102 (t102.length : Int) 0 a0_0 l0_1)
theorem impl_Complex_betti.mono_l : ∀ k, (∀ y0 y1 y2 y3 y4 y5, LeO (impl_Complex_betti.l0 k y0 y1 y2 y3 y4 y5) (impl_Complex_betti.l0 (k + 1) y0 y1 y2 y3 y4 y5))
  | 0 => fun _ _ _ _ _ _ r h => by simp [impl_Complex_betti.l0] at h
  | k + 1 => by
    have ih0 := impl_Complex_betti.mono_l k
    · intro y0 y1 y2 y3 y4 y5
      unfold impl_Complex_betti.l0
      repeat' first
      | (with_reducible exact ih0 _ _ _ _ _ _)
      | (with_reducible exact LeO.refl _)
      | (with_reducible exact LeO.none _)
      | (with_reducible refine LeO.ite ?_ ?_)
      | (with_reducible refine LeO.bind ?_ (fun _ => ?_))
      | exact ih0 _ _ _ _ _ _
      | exact LeO.none _
      | refine LeO.ite ?_ ?_
      | refine LeO.bind ?_ (fun _ => ?_)
theorem impl_Complex_betti.mono : ∀ a0 a1 a2 k, LeO (impl_Complex_betti.f k a0 a1 a2) (impl_Complex_betti.f (k + 1) a0 a1 a2) := by
  intro a0 a1 a2 k
  have ih0 := impl_Complex_betti.mono_l k
  unfold impl_Complex_betti.f
  repeat' first
      | (with_reducible exact ih0 _ _ _ _ _ _)
      | (with_reducible exact LeO.refl _)
      | (with_reducible exact LeO.none _)
      | (with_reducible refine LeO.ite ?_ ?_)
      | (with_reducible refine LeO.bind ?_ (fun _ => ?_))
      | exact ih0 _ _ _ _ _ _
      | exact LeO.none _
      | refine LeO.ite ?_ ?_
      | refine LeO.bind ?_ (fun _ => ?_)
def impl_Complex_betti.T5 : Bool × List (List Nat × List Nat) := (true, [([], []), ([], []), ([0, 1], [0, 1]), ([2], [2]), ([], []), ([], []), ([], []), ([4, 5, 6], [4, 5, 6]), ([], []), ([], []), ([9], [9]), ([], []), ([8, 10, 11, 7], [8, 10, 11]), ([7, 12], [7, 12]), ([3, 13], [3, 13]), ([0, 1, 0, 1, 2, 3, 4, 5, 6, 7, 8, 9, 10, 11, 12, 13, 14], [0, 1]), ([15, 14, 12, 0, 1, 2, 3, 4, 5, 6, 7, 8, 9, 10, 11, 12, 13, 14], [14, 15])])
def impl_Complex_betti.B5 : List Nat := [0, 0, 3, 7, 0, 0, 0, 112, 0, 0, 512, 0, 4080, 8176, 16383, 32767, 65535]
theorem impl_Complex_betti.tab5 : rtab .any (opsOf Try.f78 5) = impl_Complex_betti.T5 := by kernel_rfl
theorem impl_Complex_betti.bits5 : waitsOk impl_Complex_betti.T5.2 impl_Complex_betti.B5 = true := by kernel_rfl
set_option maxHeartbeats 8000000 in
set_option maxRecDepth 100000 in
theorem impl_Complex_betti.calls (k : Nat) (a0_0 : Int) (A0_1 : Option Addr) (c0_1 : Nat) (l0_1 : List Int) (a1 : Int) (r : List Int) (w : World) (hr0_1 : Kd.C (Kd.int .i64) w A0_1 l0_1.length l0_1) (hc0_1 : l0_1.length ≤ c0_1) (h : impl_Complex_betti.f k a0_0 l0_1 a1 = some r) :
    Calls Try.prog 78 #[.agg #[.int .i64 a0_0, .slice A0_1 l0_1.length c0_1], .int .i64 a1] w fun e w' => ∃ v0_ : Value, e = .returned (v0_) ∧ Kd.R (Kd.int .i64) 2 w' w.heap.size (fun _ => True) v0_ r ∧ Below w.heap.size w w' := by
  have hu28 := Try.underlying28
  have HR0_1 := Aside0.mk hr0_1
  have HC0_1 := Aside0.mk hc0_1
  clear hr0_1 hc0_1
  have HB := Aside0.mk (Below.refl w.heap.size w)
  have H : ((impl_Complex_count.f a0_0 l0_1 l0_1).bind fun t102 => (impl_Complex_betti.l0 k a1 t102 (t102.length : Int) 0 a0_0 l0_1)) = some r := h
  clear h
  replace H := Option.bind_eq_some_iff.mp H
  obtain ⟨t102, A30, H⟩ := H
  replace H : (impl_Complex_betti.l0 k a1 t102 (t102.length : Int) 0 a0_0 l0_1) = some r := H
  have A3 := Aside0.mk A30
  clear A30
  have H' := Aside0.mk H
  clear H
  go_enter Try.func78, Try.ntmps78
  go_wp2_with (first | ((with_reducible refine gate_dst (N := 2) rfl ?_); refine box_event ?hg (N := 2) ?hd (cs := #[.int .i64 a0_0, .slice A0_1 l0_1.length c0_1]) (t := 28) ?hr ?_; (case hd => rfl); (case hg => rfl); (case hr => first | (go_simp; done) | (go_simp; rfl)); intro gb101 hg w4 hbox hb; have n0_ := Aside0.mk (below_step (by repeat (first | (with_reducible first | exact HB.out | apply below_alloc | apply pw_below_drewN | apply below_drew1) | exact HB.out)) hb); have n1_ := Aside0.mk (hbox); have n2_ := Aside0.mk ((by rw [hg]; exact (below_size (by repeat (first | (with_reducible first | exact HB.out | apply below_alloc | apply pw_below_drewN | apply below_drew1) | exact HB.out))) : w.heap.size ≤ gb101)); have n3_ := Aside0.mk ((by rw [hg]; exact (below_size (by repeat (first | (with_reducible first | exact HB.out | apply below_alloc | apply pw_below_drewN | apply below_drew1) | exact HB.out))) : w.heap.size ≤ gb101)); clear HB; have HB := n0_; have BK101 := n1_; have GW101 := n2_; have GE101 := n3_; clear n0_ n1_ n2_ n3_; clear hb hbox hg; have hcz5_0 : w4.cell? ⟨gb101, 0, none⟩ = some (.int .i64 a0_0) := (blk_cell BK101.out 0).trans rfl; have hcz5_1 : w4.cell? ⟨gb101, 1, none⟩ = some (.slice A0_1 l0_1.length c0_1) := (blk_cell BK101.out 1).trans rfl; have hfz5_0 := blk_frozen BK101.out 0; have hfz5_1 := blk_frozen BK101.out 1) | ((with_reducible refine gate_callee (f := 63) rfl ?_); refine goesL_ (some 10) rfl rfl Try.func63 (by kernel_rfl) rfl #[.agg #[.int .i64 a0_0, .slice A0_1 l0_1.length c0_1], .slice A0_1 l0_1.length c0_1] rfl (by (try simp only [List.map_toArray, List.map_cons, List.map_nil]); first | done | rfl | (simp only [List.length_drop, List.length_take]; rfl)) ?_; (with_reducible refine (impl_Complex_count.calls a0_0 _ _ l0_1 _ _ l0_1 t102 _ ?side1 ?side2 ?side3 ?side4 A3.out).mono ?_); (case side1 => repeat (first | exact (Kd.C_below HR0_1.out HB.out) | (with_reducible refine Kd.C_alloc ?_ _) | (with_reducible refine Kd.C_drewN ?_ _) | (with_reducible refine Kd.C_drew ?_))); (case side2 => exact HC0_1.out); (case side3 => repeat (first | exact (Kd.C_below HR0_1.out HB.out) | (with_reducible refine Kd.C_alloc ?_ _) | (with_reducible refine Kd.C_drewN ?_ _) | (with_reducible refine Kd.C_drew ?_))); (case side4 => exact HC0_1.out); rintro e w6 ⟨v103, rfl, ho0, hb⟩; refine ⟨_, rfl, ?_⟩; have n0_ := Aside0.mk (Kd.R_lower ho0 (below_size (by repeat (first | (with_reducible first | exact HB.out | apply below_alloc | apply pw_below_drewN | apply below_drew1 | refine below_set ?_ GE101.out) | exact HB.out)))); have n1_ := Aside0.mk (blk_below (g := gb101) (o := .cells #[.int .i64 a0_0, .slice A0_1 l0_1.length c0_1] 28 (0, 0)) (by (with_reducible repeat (first | refine blk_drewN ?_ _ | refine blk_drew ?_ | refine blk_alloc ?_ _)); exact BK101.out) hb); have n2_ := Aside0.mk (below_step (by repeat (first | (with_reducible first | exact HB.out | apply below_alloc | apply pw_below_drewN | apply below_drew1 | refine below_set ?_ GE101.out) | exact HB.out)) hb); clear BK101; clear HB; have HO104 := n0_; have BK101 := n1_; have HB := n2_; clear n0_ n1_ n2_; (try clear hb); (try clear hb2); (try clear hk); (try clear hi); (try clear ho0); obtain ⟨Ao7, co7, eo7⟩ := Kd.R_slice HO104.out; subst eo7))
  go_loopg [13] k (fun kq v13 w' => ∃ (x5_1 : List Int) (x13_1 : Int), v13 = .int .i64 x13_1 ∧ Aside0 (impl_Complex_betti.l0 kq a1 x5_1 (t102.length : Int) x13_1 a0_0 l0_1 = some r) ∧ Aside0 (kq ≤ k) ∧ Aside0 (Kd.R (Kd.int .i64) 2 w' w.heap.size (fun _ => True) (.slice Ao7 t102.length co7) x5_1) ∧ Aside0 (w'.heap[gb101]? = some (.cells #[.int .i64 a0_0, (.slice A0_1 l0_1.length c0_1)] 28 (0, 0))) ∧ Aside0 (Below w.heap.size w w'))
  case atStart => exact ⟨(t102), (0), (by first | rfl | (simp; done) | (simp [*]; done)), H', ⟨Nat.le_refl _⟩, ⟨by (with_reducible repeat (first | apply Kd.R_alloc | apply Kd.R_drewN | apply Kd.R_drew)); exact HO104.out⟩, ⟨by (with_reducible repeat (first | refine blk_drewN ?_ _ | refine blk_drew ?_ | refine blk_alloc ?_ _)); exact BK101.out⟩, ⟨by repeat (first | (with_reducible first | exact HB.out | apply below_alloc | apply pw_below_drewN | apply below_drew1 | refine below_set ?_ GE101.out) | exact HB.out)⟩⟩
  case round =>
    clear H'
    try clear p2
    try clear c6
    try clear c7
    try clear hcz5_0
    try clear hcz5_1
    try clear hfz5_0
    try clear hfz5_1
    obtain ⟨x5_1, x13_1, rfl, HA, HK1, HO_5, BK101, HB⟩ := hrel
    have hl5_1 := (Kd.R_reads' HO_5.out).1
    rw [hl5_1] at HO_5
    (try simp only [hl5_1])
    (try simp only [hl5_1] at BK101)
    cases gk with
    | zero => exact absurd HA.out (by simp [impl_Complex_betti.l0])
    | succ k1 =>
      have H := HA.out
      clear HA
      simp only [impl_Complex_betti.l0] at H
      by_cases c8 : x13_1 < (t102.length : Int)
      · rw [if_pos c8] at H
        have c8b0 : decide (x13_1 < (t102.length : Int)) = true := decide_eq_true c8
        clear c8
        by_cases c9 : 0 ≤ x13_1
        · rw [if_pos c9] at H
          have c9b0 : decide (0 ≤ x13_1) = true := decide_eq_true c9
          clear c9
          by_cases c10 : x13_1 < (x5_1.length : Int)
          · rw [if_pos c10] at H
            have c10b0 : decide (x13_1 < (x5_1.length : Int)) = true := decide_eq_true c10
            clear c10
            replace H := Option.bind_eq_some_iff.mp H
            obtain ⟨t106, A110, H⟩ := H
            replace H : ((impl_Complex_rank.f a0_0 l0_1 (wrap64 (x13_1 + 1)) a1).bind fun t107 => (impl_Complex_betti.l0 k1 a1 (x5_1.set (x13_1 : Int).toNat (wrap64 ((rd x5_1 x13_1) - (wrap64 (t106 + t107))))) (t102.length : Int) (wrap64 (x13_1 + 1)) a0_0 l0_1)) = some r := H
            have A11 := Aside0.mk A110
            clear A110
            replace H := Option.bind_eq_some_iff.mp H
            obtain ⟨t107, A120, H⟩ := H
            replace H : (impl_Complex_betti.l0 k1 a1 (x5_1.set (x13_1 : Int).toNat (wrap64 ((rd x5_1 x13_1) - (wrap64 (t106 + t107))))) (t102.length : Int) (wrap64 (x13_1 + 1)) a0_0 l0_1) = some r := H
            have A12 := Aside0.mk A120
            clear A120
            obtain ⟨y108, hy108⟩ : ∃ y_ : List Int, y_ = (x5_1.set (x13_1 : Int).toNat (wrap64 ((rd x5_1 x13_1) - (wrap64 (t106 + t107))))) := ⟨_, rfl⟩
            replace H : (impl_Complex_betti.l0 k1 a1 y108 (t102.length : Int) (wrap64 (x13_1 + 1)) a0_0 l0_1) = some r := by first | (rw [hy108]; with_reducible exact H) | (have H2_ := (Option.bind_some _ _).symm.trans H; rw [hy108]; with_reducible exact H2_) | (have H2_ := (Option.bind_some _ _).symm.trans H; with_reducible exact H2_) | with_reducible exact H | (rw [hy108]; exact H) | exact H
            have Ny108 := Aside0.mk hy108
            clear hy108
            have H' := Aside0.mk H
            clear H
            try go_wp2
            have n0_ := Aside0.mk (Kd.R_drew HO_5.out)
            have n1_ := Aside0.mk (blk_drew BK101.out)
            have n2_ := Aside0.mk (below_drew1 HB.out)
            clear HO_5
            clear BK101
            clear HB
            have HO_5 := n0_
            have BK101 := n1_
            have HB := n2_
            clear n0_ n1_ n2_
            have p105 : 0 ≤ (x13_1 : Int) := of_decide_eq_true (by first | (with_reducible assumption) | assumption)
            have q105 : x13_1 < (x5_1.length : Int) := of_decide_eq_true (by first | (with_reducible assumption) | assumption)
            obtain ⟨ad105, e105, hx105_0⟩ := Kd.at_int (Kd.R_reads' HO_5.out).2.2 x13_1 p105 q105
            cases e105
            replace p105 := eq_true p105
            replace q105 := eq_true q105
            refine start_ (n := 17) (S := fun w' => w'.cell? ⟨gb101, 0, none⟩ = some (.int .i64 a0_0) ∧ w'.cell? ⟨gb101, 1, none⟩ = some (.slice A0_1 l0_1.length c0_1) ∧ w'.cell? (ad105.add (x13_1).toNat) = some (.int .i64 (rd x5_1 x13_1))) (ds := [16]) #[false, false, false, false, false, false, false, false, false, false, false, false, false, false, false, false, false] (by kernel_rfl) rfl rfl ⟨(blk_cell BK101.out 0).trans rfl, (blk_cell BK101.out 1).trans rfl, hx105_0⟩ (fun hHeld => ?_); refine with_tabW impl_Complex_betti.tab5 impl_Complex_betti.bits5 (fun HT_ HW_ => ?_)
            generalize wr.drew = w14 at HO_5 BK101 HB hx105_0 hHeld ⊢
            refine pure_ (i := 0) (N := some 16) (v := ?_) (a' := ?_) #[true, false, false, false, false, false, false, false, false, false, false, false, false, false, false, false, false] rfl rfl (any_of HT_.out (by kernel_rfl)) (fun _ _ _ h => h) (Or.inl ⟨by rfl, ?_⟩) ?_ ?_
            rotate_left
            · intro w'
              go_simp
              with_reducible rfl
            rotate_left
            · simp only [Act.put, List.setIfInBounds_toArray, List.set_cons_zero, List.set_cons_succ, i64_w, i32_w]
              rfl
            refine pure_ (i := 1) (N := some 17) (v := ?_) (a' := ?_) #[true, true, false, false, false, false, false, false, false, false, false, false, false, false, false, false, false] rfl rfl (any_of HT_.out (by kernel_rfl)) (fun _ _ _ h => h) (Or.inl ⟨by rfl, ?_⟩) ?_ ?_
            rotate_left
            · intro w'
              go_simp
              with_reducible rfl
            rotate_left
            · simp only [Act.put, List.setIfInBounds_toArray, List.set_cons_zero, List.set_cons_succ, i64_w, i32_w]
              rfl
            refine pure_ (i := 2) (N := some 18) (v := ?_) (a' := ?_) #[true, true, true, false, false, false, false, false, false, false, false, false, false, false, false, false, false] rfl rfl (any_of HT_.out (by kernel_rfl)) (fun _ _ _ h => h) (Or.inl ⟨by rfl, ?_⟩) ?_ ?_
            rotate_left
            · intro w'
              go_simp
              with_reducible rfl
            rotate_left
            · simp only [Act.put, List.setIfInBounds_toArray, List.set_cons_zero, List.set_cons_succ, i64_w, i32_w]
              rfl
            refine pure_ (i := 5) (N := some 21) (v := ?_) (a' := ?_) #[true, true, true, false, false, true, false, false, false, false, false, false, false, false, false, false, false] rfl rfl (any_of HT_.out (by kernel_rfl)) (fun _ _ _ h => h) (Or.inl ⟨by rfl, ?_⟩) ?_ ?_
            rotate_left
            · intro w'
              go_simp
              with_reducible rfl
            rotate_left
            · simp only [Act.put, List.setIfInBounds_toArray, List.set_cons_zero, List.set_cons_succ, i64_w, i32_w]
              rfl
            refine pure_ (i := 6) (N := some 22) (v := ?_) (a' := ?_) #[true, true, true, false, false, true, true, false, false, false, false, false, false, false, false, false, false] rfl rfl (any_of HT_.out (by kernel_rfl)) (fun _ _ _ h => h) (Or.inl ⟨by rfl, ?_⟩) ?_ ?_
            rotate_left
            · intro w'
              go_simp
              with_reducible rfl
            rotate_left
            · simp only [Act.put, List.setIfInBounds_toArray, List.set_cons_zero, List.set_cons_succ, i64_w, i32_w]
              rfl
            refine pure_ (i := 9) (N := some 25) (v := ?_) (a' := ?_) #[true, true, true, false, false, true, true, false, false, true, false, false, false, false, false, false, false] rfl rfl (any_of HT_.out (by kernel_rfl)) (fun _ _ _ h => h) (Or.inl ⟨by rfl, ?_⟩) ?_ ?_
            rotate_left
            · intro w'
              go_simp
              with_reducible rfl
            rotate_left
            · simp only [Act.put, List.setIfInBounds_toArray, List.set_cons_zero, List.set_cons_succ, i64_w, i32_w]
              rfl
            refine pure_ (i := 10) (N := some 26) (v := ?_) (a' := ?_) #[true, true, true, false, false, true, true, false, false, true, true, false, false, false, false, false, false] rfl rfl (any_of HT_.out (by kernel_rfl)) (fun _ _ _ h => h) (Or.inl ⟨by rfl, ?_⟩) ?_ ?_
            rotate_left
            · intro w'
              go_simp
              with_reducible rfl
            rotate_left
            · simp only [Act.put, List.setIfInBounds_toArray, List.set_cons_zero, List.set_cons_succ, i64_w, i32_w]
              rfl
            refine pure_ (i := 11) (N := some 27) (v := ?_) (a' := ?_) #[true, true, true, false, false, true, true, false, false, true, true, true, false, false, false, false, false] rfl rfl (any_of HT_.out (by kernel_rfl)) (fun _ _ _ h => h) (Or.inl ⟨by rfl, ?_⟩) ?_ ?_
            rotate_left
            · intro w'
              go_simp
              with_reducible rfl
            rotate_left
            · simp only [Act.put, List.setIfInBounds_toArray, List.set_cons_zero, List.set_cons_succ, i64_w, i32_w]
              rfl
            refine take_ (i := 3) (N := some 19) (v := ?_) (a' := ?_) #[true, true, true, true, false, true, true, false, false, true, true, true, false, false, false, false, false] rfl rfl (take_ofW HT_.out HW_.out (by kernel_rfl)) (fun _ _ _ h => h) (Or.inl ⟨by rfl, ?_⟩) hHeld ?_ ?_
            rotate_left
            · rintro w' ⟨s0, s1, s2⟩
              go_simp
              with_reducible rfl
            rotate_left
            · simp only [Act.put, List.setIfInBounds_toArray, List.set_cons_zero, List.set_cons_succ, i64_w, i32_w]
              rfl
            refine take_ (i := 4) (N := some 20) (v := ?_) (a' := ?_) #[true, true, true, true, true, true, true, false, false, true, true, true, false, false, false, false, false] rfl rfl (take_ofW HT_.out HW_.out (by kernel_rfl)) (fun _ _ _ h => h) (Or.inl ⟨by rfl, ?_⟩) hHeld ?_ ?_
            rotate_left
            · rintro w' ⟨s0, s1, s2⟩
              go_simp
              with_reducible rfl
            rotate_left
            · simp only [Act.put, List.setIfInBounds_toArray, List.set_cons_zero, List.set_cons_succ, i64_w, i32_w]
              rfl
            refine take_ (i := 8) (N := some 24) (v := ?_) (a' := ?_) #[true, true, true, true, true, true, true, false, true, true, true, true, false, false, false, false, false] rfl rfl (take_ofW HT_.out HW_.out (by kernel_rfl)) (fun _ _ _ h => h) (Or.inl ⟨by rfl, ?_⟩) hHeld ?_ ?_
            rotate_left
            · rintro w' ⟨s0, s1, s2⟩
              go_simp
              with_reducible rfl
            rotate_left
            · simp only [Act.put, List.setIfInBounds_toArray, List.set_cons_zero, List.set_cons_succ, i64_w, i32_w]
              rfl
            refine one_ (i := 7) (N := some 23) #[true, true, true, true, true, true, true, true, true, true, true, true, false, false, false, false, false] rfl rfl (one_of HT_.out (by kernel_rfl)) (by decide) (fun K hK => ?_)
            refine goes_ Try.func73 (by kernel_rfl) rfl #[.agg #[.int .i64 a0_0, .slice A0_1 l0_1.length c0_1], .int .i64 x13_1, .int .i64 a1] (by rfl) rfl rfl (by (try simp only [List.map_toArray, List.map_cons, List.map_nil]); first | done | rfl | (simp only [List.length_drop, List.length_take]; rfl)) ?_
            with_reducible refine (impl_Complex_rank.calls a0_0 _ _ l0_1 x13_1 a1 t106 _ ?side1 ?side2 A11.out).mono ?_
            (case side1 => repeat (first | exact (Kd.C_below HR0_1.out HB.out) | (with_reducible refine Kd.C_alloc ?_ _) | (with_reducible refine Kd.C_drewN ?_ _) | (with_reducible refine Kd.C_drew ?_)))
            (case side2 => exact HC0_1.out)
            rintro e w15 ⟨rfl, hb⟩
            have HS2_ := (hb.cell (World.block_lt_of_cell? _ _ (hHeld.2.2))).trans (hHeld.2.2)
            refine ⟨_, rfl, ?_⟩
            have n0_ := Aside0.mk (Kd.R_below (by (with_reducible repeat (first | apply Kd.R_alloc | apply Kd.R_drewN | apply Kd.R_drew)); exact HO_5.out) hb)
            have n1_ := Aside0.mk (blk_below (g := gb101) (o := .cells #[.int .i64 a0_0, .slice A0_1 l0_1.length c0_1] 28 (0, 0)) (by (with_reducible repeat (first | refine blk_drewN ?_ _ | refine blk_drew ?_ | refine blk_alloc ?_ _)); exact BK101.out) hb)
            have n2_ := Aside0.mk (below_step (by repeat (first | (with_reducible first | exact HB.out | apply below_alloc | apply pw_below_drewN | apply below_drew1 | refine below_set ?_ GE101.out) | exact HB.out)) hb)
            clear HO_5
            clear BK101
            clear HB
            have HO_5 := n0_
            have BK101 := n1_
            have HB := n2_
            clear n0_ n1_ n2_
            (try clear hb)
            (try clear hb2)
            (try clear hk)
            (try clear hi)
            refine hK.out _ _ ⟨(blk_cell BK101.out 0).trans rfl, (blk_cell BK101.out 1).trans rfl, HS2_⟩ (fun hHeld => ?_)
            clear hK K
            refine norm_ (a' := ?_) ?_ ?_
            rotate_left
            · show Act.put _ (some 23) _ = _
              simp only [Act.put, List.setIfInBounds_toArray, List.set_cons_zero, List.set_cons_succ, i64_w, i32_w]
              rfl
            refine one_ (i := 12) (N := some 28) #[true, true, true, true, true, true, true, true, true, true, true, true, true, false, false, false, false] rfl rfl (one_of HT_.out (by kernel_rfl)) (by decide) (fun K hK => ?_)
            refine goes_ Try.func73 (by kernel_rfl) rfl #[.agg #[.int .i64 a0_0, .slice A0_1 l0_1.length c0_1], .int .i64 (wrap64 (x13_1 + 1)), .int .i64 a1] (by rfl) rfl rfl (by (try simp only [List.map_toArray, List.map_cons, List.map_nil]); first | done | rfl | (simp only [List.length_drop, List.length_take]; rfl)) ?_
            with_reducible refine (impl_Complex_rank.calls a0_0 _ _ l0_1 (wrap64 (x13_1 + 1)) a1 t107 _ ?side1 ?side2 A12.out).mono ?_
            (case side1 => repeat (first | exact (Kd.C_below HR0_1.out HB.out) | (with_reducible refine Kd.C_alloc ?_ _) | (with_reducible refine Kd.C_drewN ?_ _) | (with_reducible refine Kd.C_drew ?_)))
            (case side2 => exact HC0_1.out)
            rintro e w16 ⟨rfl, hb⟩
            have HS2_ := (hb.cell (World.block_lt_of_cell? _ _ (hHeld.2.2))).trans (hHeld.2.2)
            refine ⟨_, rfl, ?_⟩
            have n0_ := Aside0.mk (Kd.R_below (by (with_reducible repeat (first | apply Kd.R_alloc | apply Kd.R_drewN | apply Kd.R_drew)); exact HO_5.out) hb)
            have n1_ := Aside0.mk (blk_below (g := gb101) (o := .cells #[.int .i64 a0_0, .slice A0_1 l0_1.length c0_1] 28 (0, 0)) (by (with_reducible repeat (first | refine blk_drewN ?_ _ | refine blk_drew ?_ | refine blk_alloc ?_ _)); exact BK101.out) hb)
            have n2_ := Aside0.mk (below_step (by repeat (first | (with_reducible first | exact HB.out | apply below_alloc | apply pw_below_drewN | apply below_drew1 | refine below_set ?_ GE101.out) | exact HB.out)) hb)
            clear HO_5
            clear BK101
            clear HB
            have HO_5 := n0_
            have BK101 := n1_
            have HB := n2_
            clear n0_ n1_ n2_
            (try clear hb)
            (try clear hb2)
            (try clear hk)
            (try clear hi)
            have p13 : 0 ≤ (x13_1 : Int) := of_decide_eq_true (by first | (with_reducible assumption) | assumption)
            have q13 : (x13_1 : Int) < ((x5_1.length : Int) : Int) := of_decide_eq_true (by first | (with_reducible assumption) | assumption)
            obtain ⟨go13, co13, eo13, gb13, gl13, cl13, HG13⟩ := Kd.R_form HO_5.out (by omega)
            (first | cases eo13 | (injection eo13 with ea_ en_ ec_; (first | subst ea_ | (injection ea_ with ea_; subst ea_)); subst ec_; clear en_))
            have GB13 := Aside0.mk gb13
            have GG13 := Aside0.mk HG13
            clear gb13 gl13 HG13
            (first | simp only [add_plain] at hx105_0 | skip)
            obtain ⟨hx13_0, hf13_0⟩ := Kd.R_celln 0 HO_5.out (x13_1 : Int) p13 q13
            replace p13 := eq_true p13
            replace q13 := eq_true q13
            have HP17 := Kd.R_putn HO_5.out (x13_1 : Int) (wrap64 ((rd x5_1 x13_1) - (wrap64 (t106 + t107))))
            rw [← Ny108.out] at HP17
            have HQ17 := Aside0.mk HP17
            clear HP17
            refine hK.out _ _ ⟨(blk_cell BK101.out 0).trans rfl, (blk_cell BK101.out 1).trans rfl, HS2_⟩ (fun hHeld => ?_)
            clear hK K
            refine norm_ (a' := ?_) ?_ ?_
            rotate_left
            · show Act.put _ (some 28) _ = _
              simp only [Act.put, List.setIfInBounds_toArray, List.set_cons_zero, List.set_cons_succ, i64_w, i32_w]
              rfl
            refine pure_ (i := 13) (N := some 29) (v := ?_) (a' := ?_) #[true, true, true, true, true, true, true, true, true, true, true, true, true, true, false, false, false] rfl rfl (any_of HT_.out (by kernel_rfl)) (fun _ _ _ h => h) (Or.inl ⟨by rfl, ?_⟩) ?_ ?_
            rotate_left
            · intro w'
              go_simp
              with_reducible rfl
            rotate_left
            · simp only [Act.put, List.setIfInBounds_toArray, List.set_cons_zero, List.set_cons_succ, i64_w, i32_w]
              rfl
            refine pure_ (i := 14) (N := some 30) (v := ?_) (a' := ?_) #[true, true, true, true, true, true, true, true, true, true, true, true, true, true, true, false, false] rfl rfl (any_of HT_.out (by kernel_rfl)) (fun _ _ _ h => h) (Or.inl ⟨by rfl, ?_⟩) ?_ ?_
            rotate_left
            · intro w'
              go_simp
              with_reducible rfl
            rotate_left
            · simp only [Act.put, List.setIfInBounds_toArray, List.set_cons_zero, List.set_cons_succ, i64_w, i32_w]
              rfl
            refine pure_ (i := 15) (N := some 31) (v := ?_) (a' := ?_) #[true, true, true, true, true, true, true, true, true, true, true, true, true, true, true, true, false] rfl rfl (any_of HT_.out (by kernel_rfl)) (fun _ _ _ h => h) (Or.inl ⟨by rfl, ?_⟩) ?_ ?_
            rotate_left
            · intro w'
              go_simp
              with_reducible rfl
            rotate_left
            · simp only [Act.put, List.setIfInBounds_toArray, List.set_cons_zero, List.set_cons_succ, i64_w, i32_w]
              rfl
            refine last_ (i := 16) (N := none) #[true, true, true, true, true, true, true, true, true, true, true, true, true, true, true, true, true] rfl rfl (one_of HT_.out (by kernel_rfl)) (by decide) (fun K hK => ?_)
            refine skip_ (w1 := ?_) (by rfl) rfl ?_ ?_
            rotate_left
            · go_simp
              rfl
            refine hK.out _ _ ?_
            clear hK K
            refine done_ (done_of HT_.out (by kernel_rfl)) ?_
            try go_wp2
            (try simp only [← hl5_1])
            go_roundg k1
            case measure => have := HK1.out; omega
            case rel => exact ⟨(y108), (wrap64 (x13_1 + 1)), (by first | rfl | (simp; done) | (simp [*]; done)), H', ⟨by have := HK1.out; omega⟩, ⟨by (try simp only [hl5_1]); (with_reducible repeat (first | apply Kd.R_alloc | apply Kd.R_drewN | apply Kd.R_drew)); exact HQ17.out⟩, ⟨by (try simp only [hl5_1]); (with_reducible repeat (first | refine blk_drewN ?_ _ | refine blk_drew ?_ | refine blk_alloc ?_ _)); refine blk_far ?_ (by have h_ := Kd.R_ne HO_5.out BK101.out (by decide); intro e_; exact h_ (by rw [e_]; rfl)) _; (with_reducible repeat (first | refine blk_drewN ?_ _ | refine blk_drew ?_ | refine blk_alloc ?_ _)); exact BK101.out⟩, ⟨by repeat (first | (with_reducible first | exact HB.out | apply below_alloc | apply pw_below_drewN | apply below_drew1 | refine below_set ?_ GB13.out | refine below_set ?_ GE101.out) | exact HB.out)⟩⟩
          · rw [if_neg c10] at H
            exact absurd H (by simp)
        · rw [if_neg c9] at H
          exact absurd H (by simp)
      · rw [if_neg c8] at H
        have c8b0 : decide (x13_1 < (t102.length : Int)) = false := decide_eq_false c8
        clear c8
        obtain rfl := Option.some.inj H
        rw [hl5_1] at c8b0; go_wp2
        go_ret
        exact ⟨_, by first | rfl | (simp [errW_none, errW_some] <;> rfl) | (simp [*, errW_none, errW_some] <;> rfl), by (with_reducible repeat (first | apply Kd.R_alloc | apply Kd.R_drewN | apply Kd.R_drew)); exact HO_5.out, by repeat (first | (with_reducible first | exact HB.out | apply below_alloc | apply pw_below_drewN | apply below_drew1 | refine below_set ?_ GE101.out) | exact HB.out)⟩


end Go.Proofs.Ythganpmmhfoodaa.E
end

section
/- Betti numbers. -/
namespace Go.Proofs.Ythganpmmhfoodaa.K
open Go.RowKit Go.Shelf Go.Proofs.Ythganpmmhfoodaa.Q Go.Proofs.Ythganpmmhfoodaa.E Go.Proofs.Ythganpmmhfoodaa Go.Proofs.YthganpmmhfoodaaW.PrintWords Go.Proofs.YthganpmmhfoodaaW.PrintLast Go.Proofs.YthganpmmhfoodaaW.PrintMore
set_option linter.unusedVariables false
set_option linter.unusedSimpArgs false

/-- The Betti numbers. -/
def bettiAt (l : List Int) (p : Int) (d : Nat) : Int := ((ofL l (d : Int)).length : Int) - (rankL l d p + rankL l ((d : Int) + 1) p)
def bettiL (l : List Int) (p : Int) : List Int := (List.range (topI l + 1).toNat).map (bettiAt l p)
theorem betti_length (l : List Int) (p : Int) : (bettiL l p).length ≤ 6 := by
  have := top_range l
  simp [bettiL]
  omega
def bettiTo (l : List Int) (p : Int) (i : Nat) : List Int := (List.range (topI l + 1).toNat).map fun d => if d < i then bettiAt l p d else ((ofL l (d : Int)).length : Int)
theorem bettiTo_zero (l : List Int) (p : Int) (hq : ∀ x ∈ l, 0 ≤ dimI x) : bettiTo l p 0 = countL (topI l + 1).toNat l := by
  rw [countL_is l hq]
  unfold bettiTo countsL
  apply List.map_congr_left
  intro d _
  rw [if_neg (Nat.not_lt_zero d)]
theorem bettiTo_end (l : List Int) (p : Int) : bettiTo l p (topI l + 1).toNat = bettiL l p := by
  unfold bettiTo bettiL
  apply List.map_congr_left
  intro d hd
  rw [if_pos (List.mem_range.1 hd)]
theorem bettiTo_succ (l : List Int) (p : Int) (i : Nat) : bettiTo l p (i + 1) = (bettiTo l p i).set i (bettiAt l p i) := by
  apply List.ext_getElem
  · simp [bettiTo]
  · intro j h1 h2
    rw [List.getElem_set]
    simp only [bettiTo, List.getElem_map, List.getElem_range]
    by_cases e : i = j
    · subst e
      rw [if_pos (Nat.lt_succ_self _), if_pos rfl]
    · rw [if_neg e]
      by_cases h3 : j < i
      · rw [if_pos h3, if_pos (by omega)]
      · rw [if_neg h3, if_neg (by omega)]
theorem X_rank_is {n : Int} {l : List Int} (hi : isC n l = true) (d p : Int) (hd : -5 ≤ d ∧ d ≤ 15) (hp : 2 ≤ p ∧ p ≤ 3) : X.impl_Complex_rank.f n l d p = some (rankL l d p) := by
  unfold X.impl_Complex_rank.f
  rw [if_pos ⟨hi, hd, hp⟩]
theorem betti_rng {n : Int} {l : List Int} (hi : isC n l = true) (d p : Int) (hp : 2 ≤ p ∧ p ≤ 3) : 0 ≤ rankL l d p ∧ rankL l d p ≤ 63 := by
  have h1 := rankL_range l d p hp
  have h2 := of_length l d
  have h3 := (isC_faces hi).2.2.2
  omega
theorem betti_loop {n : Int} {l : List Int} (hi : isC n l = true) (p : Int) (hp : 2 ≤ p ∧ p ≤ 3) : ∀ (e i k : Nat), (topI l + 1).toNat - i = e → i ≤ (topI l + 1).toNat → e < k →
    impl_Complex_betti.l0 k p (bettiTo l p i) ((topI l + 1).toNat : Int) (i : Int) n l = some (bettiL l p) := by
  have ht := top_range l
  have h63 := (isC_faces hi).2.2.2
  intro e
  induction e with
  | zero =>
    intro i k he hil hk
    obtain ⟨k, rfl⟩ : ∃ m, k = m + 1 := ⟨k - 1, by omega⟩
    obtain rfl : i = (topI l + 1).toNat := by omega
    simp only [impl_Complex_betti.l0]
    rw [if_neg (by omega), bettiTo_end]
  | succ e ih =>
    intro i k he hil hk
    obtain ⟨k, rfl⟩ : ∃ m, k = m + 1 := ⟨k - 1, by omega⟩
    have hlen : (bettiTo l p i).length = (topI l + 1).toNat := by simp [bettiTo]
    have hlt : i < (bettiTo l p i).length := by omega
    have hv : (bettiTo l p i)[i] = ((ofL l (i : Int)).length : Int) := by
      simp only [bettiTo, List.getElem_map, List.getElem_range]
      rw [if_neg (Nat.lt_irrefl _)]
    have h1 := betti_rng hi (i : Int) p hp
    have h2 := betti_rng hi ((i : Int) + 1) p hp
    have h3 := of_length l (i : Int)
    simp only [impl_Complex_betti.l0]
    rw [if_pos (by omega), if_pos (by omega), if_pos (by omega), X_rank_is hi _ p (by omega) hp]
    simp only [Option.bind_some]
    rw [w64 ((i : Int) + 1) (by omega) (by omega), X_rank_is hi _ p (by omega) hp]
    simp only [Option.bind_some]
    rw [rd_nat _ i hlt, hv, w64 (rankL l (i : Int) p + rankL l ((i : Int) + 1) p) (by omega) (by omega), w64 _ (by omega) (by omega), Int.toNat_natCast]
    have hE : (bettiTo l p i).set i (((ofL l (i : Int)).length : Int) - (rankL l (i : Int) p + rankL l ((i : Int) + 1) p)) = bettiTo l p (i + 1) := (bettiTo_succ l p i).symm
    rw [hE, nat_succ]
    exact ih (i + 1) k (by omega) (by omega) (by omega)
theorem betti_is {n : Int} {l : List Int} (hi : isC n l = true) (p : Int) (hp : 2 ≤ p ∧ p ≤ 3) (k : Nat) (hk : 10 ≤ k) : impl_Complex_betti.f k n l p = some (bettiL l p) := by
  obtain ⟨hn, hs, hr, h63⟩ := isC_faces hi
  have ht := top_range l
  unfold impl_Complex_betti.f X.impl_Complex_count.f
  rw [if_pos ⟨⟨h63, fun x hx => ⟨(hr x hx).1, (hr x hx).2.2⟩⟩, h63, fun x hx => hx⟩]
  simp only [Option.bind_some]
  rw [countL_length]
  have := betti_loop hi p hp (topI l + 1).toNat 0 k (by omega) (by omega) (by omega)
  rw [bettiTo_zero l p (fun x hx => dim_pos x (hr x hx).1 (hr x hx).2.2)] at this
  exact this
theorem betti_calls (n : Int) (A : Option Addr) (c : Nat) (l : List Int) (p : Int) (w : World) (hk : Kx w A c l) (hi : isC n l = true) (hp : 2 ≤ p ∧ p ≤ 3) :
    Calls Try.prog 78 #[.agg #[I n, .slice A l.length c], I p] w fun e w' => ∃ v, e = .returned v ∧ Ki.R 2 w' w.heap.size (fun _ => True) v (bettiL l p) ∧ Grew w w' :=
  impl_Complex_betti.calls 10 n A c l p (bettiL l p) w hk.r hk.c (betti_is hi p hp 10 (Nat.le_refl _))

set_option maxHeartbeats 1000000 in
theorem BettiNumbers1_calls (p : Int) {B : Nat} (w : World) (hb : w.cell? ⟨B, 0, none⟩ = some (I p)) :
    Calls Try.prog 77 #[.pointer (some ⟨B, 0, none⟩)] w fun e w' => e = .returned (.bool (decide (2 ≤ p ∧ p ≤ 3))) ∧ Grew w w' := by
  have H := Aside0.mk (isMod_calls p w)
  generalize decide (2 ≤ p ∧ p ≤ 3) = r at H ⊢
  go_enter Try.func77, Try.ntmps77
  go_wp2_with fail
  refine H.out.mono ?_
  rintro e w1 ⟨rfl, hG1⟩
  go_wp2_with fail
  go_ret
  exact ⟨rfl, hG1⟩

set_option maxRecDepth 100000 in
set_option maxHeartbeats 4000000 in
theorem BettiNumbers_calls (n : Int) (A : Option Addr) (c : Nat) (l : List Int) (p : Int) (w : World) (hk : Kx w A c l) :
    Calls Try.prog 37 #[.agg #[I n, .slice A l.length c], I p] w fun e w' => ∃ v0, e = .returned (.tuple #[v0, I (codeOf n l (decide (2 ≤ p ∧ p ≤ 3)))]) ∧ Ki.R 2 w' w.heap.size (fun _ => True) v0 (if (codeOf n l (decide (2 ≤ p ∧ p ≤ 3))) = 0 then (bettiL l p) else []) ∧ Grew w w' := by
  obtain ⟨W3, hW3⟩ : ∃ W3, W3 = ((w.alloc (.cells #[I n, .slice A l.length c] 28)).alloc (.cells #[I p] 2)) := ⟨_, rfl⟩
  have hB : CB W3 w.heap.size n (.slice A l.length c) := by rw [hW3]; exact blk_alloc (blk_new w _) _
  have hFp : W3.heap[w.heap.size + 1]? = some (.cells #[I p] 2 (0, 0)) := by
    rw [hW3]
    have := blk_new (w.alloc (.cells #[I n, .slice A l.length c] 28)) (.cells #[I p] 2)
    rwa [World.size_alloc] at this
  have hg : Grew w W3 := by rw [hW3]; exact below_alloc (below_alloc (Grew.refl w) _) _
  have H := Aside0.mk (complexCode_calls (decide (2 ≤ p ∧ p ≤ 3)) n A c l 77 #[] #[.pointer (some ⟨w.heap.size + 1, 0, none⟩)] W3 (hk.later hg) (enters_of Try.func77 (by kernel_rfl) rfl)
    (fun hi W hW => by
      have := BettiNumbers1_calls p W (blk_cell (blk_below hFp hW) 0)
      rw [Array.empty_append]
      exact this))
  have k_0 := hB.c0
  have k_1 := hB.c1
  have p_0 : W3.cell? ⟨w.heap.size + 1, 0, none⟩ = some (I p) := blk_cell hFp 0
  have HK := Aside0.mk hk
  have HB := Aside0.mk hB
  have HG := Aside0.mk hg
  have HFp := Aside0.mk hFp
  clear hk hB hg hFp
  obtain ⟨cc, hcc⟩ : ∃ cc, cc = codeOf n l (decide (2 ≤ p ∧ p ≤ 3)) := ⟨_, rfl⟩
  rw [← hcc] at H ⊢
  by_cases hz : cc = 0
  · subst hz
    have hb := codeOf_zero hcc.symm
    have HI := Aside0.mk hb.1
    have HBt : Aside0 ((decide (2 ≤ p ∧ p ≤ 3)) = true) := ⟨hb.2⟩
    have HZ := Aside0.mk hcc
    have hx0 : ∀ {α : Type} (a b : α), (if (0 : Int) = 0 then a else b) = a := fun a b => if_pos rfl
    simp only [hx0]
    clear hcc hb hx0
    subst hW3
    go_enter Try.func37, Try.ntmps37
    go_wp2_with fail
    refine H.out.mono ?_
    rintro e w1 ⟨rfl, hG1⟩
    have HB1 : Aside0 (CB w1 w.heap.size n (.slice A l.length c)) := ⟨blk_below HB.out hG1⟩
    have HFp1 : Aside0 (w1.heap[w.heap.size + 1]? = some (.cells #[I p] 2 (0, 0))) := ⟨blk_below HFp.out hG1⟩
    have HG1 := Aside0.mk (Grew.trans HG.out hG1)
    clear hG1 k_0 k_1 p_0
    have k_0 := HB1.out.c0
    have k_1 := HB1.out.c1
    have p_0 : w1.cell? ⟨w.heap.size + 1, 0, none⟩ = some (I p) := blk_cell HFp1.out 0
    have hb := HBt.out
    rw [decide_eq_true_eq] at hb
    have H2 := Aside0.mk (betti_calls n A c l p w1 (HK.out.later HG1.out) HI.out hb)
    clear hb
    go_wp2_with fail
    refine H2.out.mono ?_
    rintro e w2 ⟨v, rfl, hR2, hG2⟩
    go_wp2_with fail
    go_ret2
    exact ⟨_, rfl, Kd.R_lower hR2 HG1.out.size, Grew.trans HG1.out hG2⟩
  · have HV : Aside0 (∀ {α : Type} (a b : α), (if cc = 0 then a else b) = b) := ⟨fun a b => if_neg hz⟩
    simp only [HV.out]
    clear hcc
    subst hW3
    go_enter Try.func37, Try.ntmps37
    go_wp2_with fail
    refine H.out.mono ?_
    rintro e w1 ⟨rfl, hG1⟩
    have HG1 := Aside0.mk (Grew.trans HG.out hG1)
    clear hG1 k_0 k_1 p_0
    go_wp2_with fail
    go_ret2
    exact ⟨_, rfl, Kd.R_nil _ _ _ _ _, HG1.out⟩

end Go.Proofs.Ythganpmmhfoodaa.K
end

section
/- The reference's rank of a dimension: l03RankOf. -/
namespace Go.Proofs.Ythganpmmhfoodaa.K
open Go.RowKit Go.Shelf Go.Proofs.Ythganpmmhfoodaa.Q Go.Proofs.YthganpmmhfoodaaW.PrintWords Go.Proofs.YthganpmmhfoodaaW.PrintLast Go.Proofs.YthganpmmhfoodaaW.PrintMore
set_option linter.unusedVariables false
set_option linter.unusedSimpArgs false

theorem sTop_calls (n : Int) (A : Option Addr) (c : Nat) (l : List Int) (w : World) (hk : Kx w A c l) (hl : l.length ≤ 63) (hr : ∀ x ∈ l, 0 ≤ x ∧ x ≤ 63) :
    Calls Try.prog 60 #[.agg #[I n, .slice A l.length c]] w fun e w' => e = .returned (I (topI l)) ∧ Grew w w' :=
  spec_l01Dim.calls 80 n A c l (topI l) w hk.r hk.c (specTop_is n l hl hr 80 (Nat.le_refl _))

set_option maxRecDepth 100000 in
set_option maxHeartbeats 4000000 in
theorem sRankOf_calls (n : Int) (A : Option Addr) (c : Nat) (l : List Int) (d p : Int) (w : World) (hk : Kx w A c l) (hi : isC n l = true) (hd : 0 ≤ d ∧ d ≤ 7) (hp : 2 ≤ p ∧ p ≤ 3) :
    Calls Try.prog 70 #[.agg #[I n, .slice A l.length c], I d, I p] w fun e w' => e = .returned (I (rankL l d p)) ∧ Grew w w' := by
  have hg : Grew w (w.alloc (.cells #[I n, .slice A l.length c] 28)) := below_alloc (Grew.refl w) _
  have hB : CB (w.alloc (.cells #[I n, .slice A l.length c] 28)) w.heap.size n (.slice A l.length c) := blk_new w _
  have hf := isC_faces hi
  have hl := hf.2.2.2
  have HT := Aside0.mk (sTop_calls n A c l _ (hk.later hg) hl (isC_of hi))
  have ht := top_range l
  have HO := Aside0.mk (fun h => rankL_out hi d p h)
  have HR := Aside0.mk (fun (w1 : World) (h : Kx w1 A c l) => spec_l03Rows.calls 5200 n A c l d p (rowsL l d p) w1 h.r h.c (specRows_is hi d p hd hp 5200 (Nat.le_refl _)))
  have HGD := Aside0.mk (rowsL_good l d p hp.1)
  have hC63 := of_length l (d - 1)
  have hF63 := of_length l d
  have hrl : (rowsL l d p).length = (ofL l d).length := by simp [rowsL]
  have HRK := Aside0.mk (show rankL l d p = rankM p (ofL l (d - 1)).length (rowsL l d p) from rfl)
  have HK := Aside0.mk hk
  have HB := Aside0.mk hB
  have HG := Aside0.mk hg
  have k0 := hB.c0
  have k1 := hB.c1
  clear hk hi hf hB hg
  by_cases h1 : d < 1
  · have HV := Aside0.mk (HO.out (.inl h1))
    rw [HV.out]
    go_enter Try.func70, Try.ntmps70
    go_wp2_with fail
    go_ret
    exact ⟨rfl, HG.out⟩
  · by_cases h2 : topI l < d
    · have HV := Aside0.mk (HO.out (.inr h2))
      rw [HV.out]
      generalize topI l = t at HT ht h2
      go_enter Try.func70, Try.ntmps70
      go_wp2_with fail
      refine HT.out.mono ?_
      rintro e w1 ⟨rfl, hG1⟩
      go_wp2_with fail
      go_ret
      exact ⟨rfl, Grew.trans HG.out hG1⟩
    · generalize topI l = t at HT ht h2
      rw [HRK.out]
      generalize rowsL l d p = M at HR HGD hrl ⊢
      generalize (ofL l (d - 1)).length = m at HGD hC63 ⊢
      clear HRK HO
      go_enter Try.func70, Try.ntmps70
      go_wp2_with fail
      refine HT.out.mono ?_
      rintro e w1 ⟨rfl, hG1⟩
      have HB1 := Aside0.mk (CB.later HB.out hG1)
      have HG1 := Aside0.mk (Grew.trans HG.out hG1)
      clear hG1 k0 k1 HT
      have k0 := HB1.out.c0
      have k1 := HB1.out.c1
      have hm63 : M.length ≤ 63 := by omega
      clear hrl
      go_wp2_with fail
      refine (HR.out w1 (HK.out.later HG1.out)).mono ?_
      rintro e w2 ⟨v, rfl, hS, hG2⟩
      obtain ⟨vs, f, hM⟩ := Mat.of_S hS
      have HM := Aside0.mk hM
      have HG2 := Aside0.mk (Grew.trans HG1.out hG2)
      have H3 := Aside0.mk (sRank_calls p hp m (by omega) M HGD.out hm63 w1.heap.size v vs f w2 hG2.size hM)
      have hs := HG1.out.size
      clear hS hM hG2 k0 k1
      obtain ⟨A8, c8, e8, _⟩ := HM.out.slice
      subst e8
      go_wp2_with fail
      refine H3.out.mono ?_
      rintro e w3 ⟨rfl, hG3⟩
      go_wp2_with fail
      go_ret
      exact ⟨rfl, Below.trans HG2.out (hG3.mono hs)⟩

end Go.Proofs.Ythganpmmhfoodaa.K
end

section
/- l03RankOf in the form that the printed texts take. -/
namespace Go.Proofs.Ythganpmmhfoodaa.X
open Go.RowKit Go.Shelf Go.Proofs.Ythganpmmhfoodaa.K Go.Proofs.YthganpmmhfoodaaW.PrintWords Go.Proofs.YthganpmmhfoodaaW.PrintLast Go.Proofs.YthganpmmhfoodaaW.PrintMore
set_option linter.unusedVariables false
set_option linter.unusedSimpArgs false

def spec_l03RankOf.f (a0_0 : Int) (l0_1 : List Int) (a1 a2 : Int) : Option Int := if isC a0_0 l0_1 = true ∧ (0 ≤ a1 ∧ a1 ≤ 7) ∧ 2 ≤ a2 ∧ a2 ≤ 3 then some (rankL l0_1 a1 a2) else none
theorem spec_l03RankOf.calls (a0_0 : Int) (A0_1 : Option Addr) (c0_1 : Nat) (l0_1 : List Int) (a1 a2 : Int) (r : Int) (w : World) (hr0_1 : Kd.C (Kd.int .i64) w A0_1 l0_1.length l0_1) (hc0_1 : l0_1.length ≤ c0_1) (h : spec_l03RankOf.f a0_0 l0_1 a1 a2 = some r) :
    Calls Try.prog 70 #[.agg #[.int .i64 a0_0, .slice A0_1 l0_1.length c0_1], .int .i64 a1, .int .i64 a2] w fun e w' => e = .returned (.int .i64 r) ∧ Below w.heap.size w w' := by
  unfold spec_l03RankOf.f at h
  by_cases hl : isC a0_0 l0_1 = true ∧ (0 ≤ a1 ∧ a1 ≤ 7) ∧ 2 ≤ a2 ∧ a2 ≤ 3
  · rw [if_pos hl] at h
    injection h with h
    subst h
    have h63 := (isC_faces hl.1).2.2.2
    exact sRankOf_calls a0_0 A0_1 c0_1 l0_1 a1 a2 w ⟨hr0_1, hc0_1, by omega⟩ hl.1 hl.2.1 hl.2.2
  · rw [if_neg hl] at h
    cases h

end Go.Proofs.Ythganpmmhfoodaa.X
end

section
/- Written by a program of this session (myprint.py over the kit's print). -/
namespace Go.Proofs.Ythganpmmhfoodaa.D
open Go.RowKit Go.Proofs.Ythganpmmhfoodaa.Q Go.Proofs.Ythganpmmhfoodaa.X Go.Proofs.YthganpmmhfoodaaW.PrintWords Go.Proofs.YthganpmmhfoodaaW.PrintLast Go.Proofs.YthganpmmhfoodaaW.PrintMore
attribute [local go_sem] max2_int min2_int max_two min_two max_three min_three max_four min_four   -- for this text's walks alone
set_option linter.unusedVariables false
set_option linter.unusedSimpArgs false



def errW : Option Int → Value
  | none => .nilIface
  | some c => .iface 0 (.int .i64 c)
theorem errW_none : errW none = .nilIface := rfl
theorem errW_some (c : Int) : errW (some c) = .iface 0 (.int .i64 c) := rfl

theorem info2 : (Try.prog.info? 2).map (fun i => (i.zero, i.size, i.bytes)) = some (some (.int .i64 0), 1, 8) := by kernel_rfl
-- the values' own types

end Go.Proofs.Ythganpmmhfoodaa.D
end

section
/- Written by a program of this session (myprint.py over the kit's print). -/
namespace Go.Proofs.Ythganpmmhfoodaa.D
open Go.RowKit Go.Proofs.Ythganpmmhfoodaa.Q Go.Proofs.Ythganpmmhfoodaa.X Go.Proofs.YthganpmmhfoodaaW.PrintWords Go.Proofs.YthganpmmhfoodaaW.PrintLast Go.Proofs.YthganpmmhfoodaaW.PrintMore
attribute [local go_sem] max2_int min2_int max_two min_two max_three min_three max_four min_four   -- for this text's walks alone
set_option linter.unusedVariables false
set_option linter.unusedSimpArgs false

/-! ### spec_CountCycles: function 34 -/
def spec_CountCycles.f (k : Nat) (a0_0 : Int) (l0_1 : List Int) (a1 : Int) : Option (Int × Int × Int) := (spec_l01Is.f k a0_0 l0_1).bind fun t107 => (if t107 = true then ((spec_l01In.f a1 0 5).bind fun t108 => (if t108 = true then ((spec_l01Of.f k a0_0 l0_1 a1).bind fun t109 => ((spec_l03RankOf.f a0_0 l0_1 a1 2).bind fun t112 => (if 0 ≤ (IntKind.u64.wrap (wrap64 ((t109.length : Int) - t112))) then ((spec_l03RankOf.f a0_0 l0_1 (wrap64 (a1 + 1)) 2).bind fun t113 => (if 0 ≤ (IntKind.u64.wrap (t113)) then (some (shl .i64 1 (IntKind.u64.wrap (wrap64 ((t109.length : Int) - t112))), shl .i64 1 (IntKind.u64.wrap (t113)), 0)) else (none))) else (none)))) else (some (0, 0, 2)))) else (some (0, 0, 1)))
theorem spec_CountCycles.mono : ∀ a0 a1 a2 k, LeO (spec_CountCycles.f k a0 a1 a2) (spec_CountCycles.f (k + 1) a0 a1 a2) := by
  intro a0 a1 a2 k
  unfold spec_CountCycles.f
  repeat' first
      | (with_reducible exact spec_l01Is.mono _ _ _)
      | (with_reducible exact spec_l01Of.mono _ _ _ _)
      | (with_reducible exact LeO.refl _)
      | (with_reducible exact LeO.none _)
      | (with_reducible refine LeO.ite ?_ ?_)
      | (with_reducible refine LeO.bind ?_ (fun _ => ?_))
      | exact spec_l01Is.mono _ _ _
      | exact spec_l01Of.mono _ _ _ _
      | exact LeO.none _
      | refine LeO.ite ?_ ?_
      | refine LeO.bind ?_ (fun _ => ?_)
def spec_CountCycles.T5 : Bool × List (List Nat × List Nat) := (true, [([], []), ([], []), ([0, 1], [0, 1]), ([2], [2]), ([], []), ([], []), ([4, 5, 2], [4, 5]), ([3, 6], [3, 6]), ([7, 6, 0, 1, 2, 3, 4, 5, 6, 7], [7])])
def spec_CountCycles.B5 : List Nat := [0, 0, 3, 7, 0, 0, 55, 127, 255]
theorem spec_CountCycles.tab5 : rtab .any (opsOf Try.f34 5) = spec_CountCycles.T5 := by kernel_rfl
theorem spec_CountCycles.bits5 : waitsOk spec_CountCycles.T5.2 spec_CountCycles.B5 = true := by kernel_rfl
set_option maxHeartbeats 8000000 in
set_option maxRecDepth 100000 in
theorem spec_CountCycles.calls (k : Nat) (a0_0 : Int) (A0_1 : Option Addr) (c0_1 : Nat) (l0_1 : List Int) (a1 : Int) (r1 : Int) (r2 : Int) (r3 : Int) (w : World) (hr0_1 : Kd.C (Kd.int .i64) w A0_1 l0_1.length l0_1) (hc0_1 : l0_1.length ≤ c0_1) (h : spec_CountCycles.f k a0_0 l0_1 a1 = some (r1, r2, r3)) :
    Calls Try.prog 34 #[.agg #[.int .i64 a0_0, .slice A0_1 l0_1.length c0_1], .int .i64 a1] w fun e w' => e = .returned (.tuple #[.int .i64 r1, .int .i64 r2, .int .i64 r3]) ∧ Below w.heap.size w w' := by
  have hu28 := Try.underlying28
  have HR0_1 := Aside0.mk hr0_1
  have HC0_1 := Aside0.mk hc0_1
  clear hr0_1 hc0_1
  have HB := Aside0.mk (Below.refl w.heap.size w)
  have H : ((spec_l01Is.f k a0_0 l0_1).bind fun t107 => (if t107 = true then ((spec_l01In.f a1 0 5).bind fun t108 => (if t108 = true then ((spec_l01Of.f k a0_0 l0_1 a1).bind fun t109 => ((spec_l03RankOf.f a0_0 l0_1 a1 2).bind fun t112 => (if 0 ≤ (IntKind.u64.wrap (wrap64 ((t109.length : Int) - t112))) then ((spec_l03RankOf.f a0_0 l0_1 (wrap64 (a1 + 1)) 2).bind fun t113 => (if 0 ≤ (IntKind.u64.wrap (t113)) then (some (shl .i64 1 (IntKind.u64.wrap (wrap64 ((t109.length : Int) - t112))), shl .i64 1 (IntKind.u64.wrap (t113)), 0)) else (none))) else (none)))) else (some (0, 0, 2)))) else (some (0, 0, 1)))) = some (r1, r2, r3) := h
  clear h
  replace H := Option.bind_eq_some_iff.mp H
  obtain ⟨t107, A30, H⟩ := H
  replace H : (if t107 = true then ((spec_l01In.f a1 0 5).bind fun t108 => (if t108 = true then ((spec_l01Of.f k a0_0 l0_1 a1).bind fun t109 => ((spec_l03RankOf.f a0_0 l0_1 a1 2).bind fun t112 => (if 0 ≤ (IntKind.u64.wrap (wrap64 ((t109.length : Int) - t112))) then ((spec_l03RankOf.f a0_0 l0_1 (wrap64 (a1 + 1)) 2).bind fun t113 => (if 0 ≤ (IntKind.u64.wrap (t113)) then (some (shl .i64 1 (IntKind.u64.wrap (wrap64 ((t109.length : Int) - t112))), shl .i64 1 (IntKind.u64.wrap (t113)), 0)) else (none))) else (none)))) else (some (0, 0, 2)))) else (some (0, 0, 1))) = some (r1, r2, r3) := H
  have A3 := Aside0.mk A30
  clear A30
  by_cases c4 : t107 = true
  · subst c4
    have H1 : ((spec_l01In.f a1 0 5).bind fun t108 => (if t108 = true then ((spec_l01Of.f k a0_0 l0_1 a1).bind fun t109 => ((spec_l03RankOf.f a0_0 l0_1 a1 2).bind fun t112 => (if 0 ≤ (IntKind.u64.wrap (wrap64 ((t109.length : Int) - t112))) then ((spec_l03RankOf.f a0_0 l0_1 (wrap64 (a1 + 1)) 2).bind fun t113 => (if 0 ≤ (IntKind.u64.wrap (t113)) then (some (shl .i64 1 (IntKind.u64.wrap (wrap64 ((t109.length : Int) - t112))), shl .i64 1 (IntKind.u64.wrap (t113)), 0)) else (none))) else (none)))) else (some (0, 0, 2)))) = some (r1, r2, r3) := by rw [if_pos rfl] at H; exact H
    clear H
    have H := H1
    clear H1
    replace H := Option.bind_eq_some_iff.mp H
    obtain ⟨t108, A50, H⟩ := H
    replace H : (if t108 = true then ((spec_l01Of.f k a0_0 l0_1 a1).bind fun t109 => ((spec_l03RankOf.f a0_0 l0_1 a1 2).bind fun t112 => (if 0 ≤ (IntKind.u64.wrap (wrap64 ((t109.length : Int) - t112))) then ((spec_l03RankOf.f a0_0 l0_1 (wrap64 (a1 + 1)) 2).bind fun t113 => (if 0 ≤ (IntKind.u64.wrap (t113)) then (some (shl .i64 1 (IntKind.u64.wrap (wrap64 ((t109.length : Int) - t112))), shl .i64 1 (IntKind.u64.wrap (t113)), 0)) else (none))) else (none)))) else (some (0, 0, 2))) = some (r1, r2, r3) := H
    have A5 := Aside0.mk A50
    clear A50
    by_cases c6 : t108 = true
    · subst c6
      have H1 : ((spec_l01Of.f k a0_0 l0_1 a1).bind fun t109 => ((spec_l03RankOf.f a0_0 l0_1 a1 2).bind fun t112 => (if 0 ≤ (IntKind.u64.wrap (wrap64 ((t109.length : Int) - t112))) then ((spec_l03RankOf.f a0_0 l0_1 (wrap64 (a1 + 1)) 2).bind fun t113 => (if 0 ≤ (IntKind.u64.wrap (t113)) then (some (shl .i64 1 (IntKind.u64.wrap (wrap64 ((t109.length : Int) - t112))), shl .i64 1 (IntKind.u64.wrap (t113)), 0)) else (none))) else (none)))) = some (r1, r2, r3) := by rw [if_pos rfl] at H; exact H
      clear H
      have H := H1
      clear H1
      replace H := Option.bind_eq_some_iff.mp H
      obtain ⟨t109, A70, H⟩ := H
      replace H : ((spec_l03RankOf.f a0_0 l0_1 a1 2).bind fun t112 => (if 0 ≤ (IntKind.u64.wrap (wrap64 ((t109.length : Int) - t112))) then ((spec_l03RankOf.f a0_0 l0_1 (wrap64 (a1 + 1)) 2).bind fun t113 => (if 0 ≤ (IntKind.u64.wrap (t113)) then (some (shl .i64 1 (IntKind.u64.wrap (wrap64 ((t109.length : Int) - t112))), shl .i64 1 (IntKind.u64.wrap (t113)), 0)) else (none))) else (none))) = some (r1, r2, r3) := H
      have A7 := Aside0.mk A70
      clear A70
      replace H := Option.bind_eq_some_iff.mp H
      obtain ⟨t112, A80, H⟩ := H
      replace H : (if 0 ≤ (IntKind.u64.wrap (wrap64 ((t109.length : Int) - t112))) then ((spec_l03RankOf.f a0_0 l0_1 (wrap64 (a1 + 1)) 2).bind fun t113 => (if 0 ≤ (IntKind.u64.wrap (t113)) then (some (shl .i64 1 (IntKind.u64.wrap (wrap64 ((t109.length : Int) - t112))), shl .i64 1 (IntKind.u64.wrap (t113)), 0)) else (none))) else (none)) = some (r1, r2, r3) := H
      have A8 := Aside0.mk A80
      clear A80
      obtain ⟨ji9, hji9⟩ : ∃ j_ : Int, (IntKind.u64.wrap (wrap64 ((t109.length : Int) - t112))) = j_ := ⟨_, rfl⟩
      replace H : (if 0 ≤ (ji9) then ((spec_l03RankOf.f a0_0 l0_1 (wrap64 (a1 + 1)) 2).bind fun t113 => (if 0 ≤ (IntKind.u64.wrap (t113)) then (some (shl .i64 1 (ji9), shl .i64 1 (IntKind.u64.wrap (t113)), 0)) else (none))) else (none)) = some (r1, r2, r3) := by first | (rw [hji9] at H; exact H) | (simp only [hji9] at H ⊢; exact H)
      (try rw [hji9] at A3)
      (try rw [hji9] at A5)
      (try rw [hji9] at A7)
      (try rw [hji9] at A8)
      by_cases c10 : 0 ≤ (ji9)
      · rw [if_pos c10] at H
        have c10b0 := eq_true c10
        have c10b1 : decide (0 ≤ (ji9)) = true := decide_eq_true c10
        clear c10
        obtain ⟨ji11, hji11⟩ : ∃ j_ : Int, (shl .i64 1 (ji9)) = j_ := ⟨_, rfl⟩
        replace H : ((spec_l03RankOf.f a0_0 l0_1 (wrap64 (a1 + 1)) 2).bind fun t113 => (if 0 ≤ (IntKind.u64.wrap (t113)) then (some (ji11, shl .i64 1 (IntKind.u64.wrap (t113)), 0)) else (none))) = some (r1, r2, r3) := by first | (rw [hji11] at H; exact H) | (simp only [hji11] at H ⊢; exact H)
        (try rw [hji11] at A3)
        (try rw [hji11] at A5)
        (try rw [hji11] at A7)
        (try rw [hji11] at A8)
        have hji11_ : (IntKind.i64.wrap (1 * 2 ^ min (ji9).toNat 64)) = ji11 := hji11
        have hji11z : (ji9) ≤ 64 → (IntKind.i64.wrap (1 * 2 ^ (ji9).toNat)) = ji11 := shl_small hji11
        have hji11u : (IntKind.i64.wrap (2 ^ min (ji9).toNat 64)) = ji11 := by have h_ := hji11_; rw [Int.one_mul] at h_; exact h_
        have hji11v : (ji9) ≤ 64 → (IntKind.i64.wrap (2 ^ (ji9).toNat)) = ji11 := fun hle_ => by have h_ := hji11z hle_; rw [Int.one_mul] at h_; exact h_
        have hji11y : (wrap64 (1 * 2 ^ min (ji9).toNat 64)) = ji11 := (i64_w _).symm.trans hji11_
        have hji11x : (ji9) ≤ 64 → (wrap64 (1 * 2 ^ (ji9).toNat)) = ji11 := fun h_ => (i64_w _).symm.trans (hji11z h_)
        replace H := Option.bind_eq_some_iff.mp H
        obtain ⟨t113, A120, H⟩ := H
        replace H : (if 0 ≤ (IntKind.u64.wrap (t113)) then (some (ji11, shl .i64 1 (IntKind.u64.wrap (t113)), 0)) else (none)) = some (r1, r2, r3) := H
        have A12 := Aside0.mk A120
        clear A120
        obtain ⟨ji13, hji13⟩ : ∃ j_ : Int, (IntKind.u64.wrap (t113)) = j_ := ⟨_, rfl⟩
        replace H : (if 0 ≤ (ji13) then (some (ji11, shl .i64 1 (ji13), 0)) else (none)) = some (r1, r2, r3) := by first | (rw [hji13] at H; exact H) | (simp only [hji13] at H ⊢; exact H)
        (try rw [hji13] at A3)
        (try rw [hji13] at A5)
        (try rw [hji13] at A7)
        (try rw [hji13] at A8)
        (try rw [hji13] at A12)
        by_cases c14 : 0 ≤ (ji13)
        · rw [if_pos c14] at H
          have c14b0 := eq_true c14
          have c14b1 : decide (0 ≤ (ji13)) = true := decide_eq_true c14
          clear c14
          obtain ⟨ji15, hji15⟩ : ∃ j_ : Int, (shl .i64 1 (ji13)) = j_ := ⟨_, rfl⟩
          replace H : (some (ji11, ji15, 0)) = some (r1, r2, r3) := by first | (rw [hji15] at H; exact H) | (simp only [hji15] at H ⊢; exact H)
          (try rw [hji15] at A3)
          (try rw [hji15] at A5)
          (try rw [hji15] at A7)
          (try rw [hji15] at A8)
          (try rw [hji15] at A12)
          have hji15_ : (IntKind.i64.wrap (1 * 2 ^ min (ji13).toNat 64)) = ji15 := hji15
          have hji15z : (ji13) ≤ 64 → (IntKind.i64.wrap (1 * 2 ^ (ji13).toNat)) = ji15 := shl_small hji15
          have hji15u : (IntKind.i64.wrap (2 ^ min (ji13).toNat 64)) = ji15 := by have h_ := hji15_; rw [Int.one_mul] at h_; exact h_
          have hji15v : (ji13) ≤ 64 → (IntKind.i64.wrap (2 ^ (ji13).toNat)) = ji15 := fun hle_ => by have h_ := hji15z hle_; rw [Int.one_mul] at h_; exact h_
          have hji15y : (wrap64 (1 * 2 ^ min (ji13).toNat 64)) = ji15 := (i64_w _).symm.trans hji15_
          have hji15x : (ji13) ≤ 64 → (wrap64 (1 * 2 ^ (ji13).toNat)) = ji15 := fun h_ => (i64_w _).symm.trans (hji15z h_)
          simp only [Option.some.injEq, Prod.mk.injEq] at H
          obtain ⟨rfl, rfl, rfl⟩ := H
          go_enter Try.func34, Try.ntmps34
          try go_wp2_with (first | ((with_reducible refine gate_dst (N := 2) rfl ?_); refine box_event ?hg (N := 2) ?hd (cs := #[.int .i64 a0_0, .slice A0_1 l0_1.length c0_1]) (t := 28) ?hr ?_; (case hd => rfl); (case hg => rfl); (case hr => first | (go_simp; done) | (go_simp; rfl)); intro gb106 hg w16 hbox hb; have n0_ := Aside0.mk (below_step (by repeat (first | (with_reducible first | exact HB.out | apply below_alloc | apply pw_below_drewN | apply below_drew1) | exact HB.out)) hb); have n1_ := Aside0.mk (hbox); have n2_ := Aside0.mk ((by rw [hg]; exact (below_size (by repeat (first | (with_reducible first | exact HB.out | apply below_alloc | apply pw_below_drewN | apply below_drew1) | exact HB.out))) : w.heap.size ≤ gb106)); have n3_ := Aside0.mk ((by rw [hg]; exact (below_size (by repeat (first | (with_reducible first | exact HB.out | apply below_alloc | apply pw_below_drewN | apply below_drew1) | exact HB.out))) : w.heap.size ≤ gb106)); clear HB; have HB := n0_; have BK106 := n1_; have GW106 := n2_; have GE106 := n3_; clear n0_ n1_ n2_ n3_; clear hb hbox hg; have hcz17_0 : w16.cell? ⟨gb106, 0, none⟩ = some (.int .i64 a0_0) := (blk_cell BK106.out 0).trans rfl; have hcz17_1 : w16.cell? ⟨gb106, 1, none⟩ = some (.slice A0_1 l0_1.length c0_1) := (blk_cell BK106.out 1).trans rfl; have hfz17_0 := blk_frozen BK106.out 0; have hfz17_1 := blk_frozen BK106.out 1) | ((with_reducible refine gate_callee (f := 52) rfl ?_); refine goesL_ (some 10) rfl rfl Try.func52 (by kernel_rfl) rfl #[.agg #[.int .i64 a0_0, .slice A0_1 l0_1.length c0_1]] rfl (by (try simp only [List.map_toArray, List.map_cons, List.map_nil]); first | done | rfl | (simp only [List.length_drop, List.length_take]; rfl)) ?_; (with_reducible refine (spec_l01Is.calls k a0_0 _ _ l0_1 true _ ?side1 ?side2 A3.out).mono ?_); (case side1 => repeat (first | exact (Kd.C_below HR0_1.out HB.out) | (with_reducible refine Kd.C_alloc ?_ _) | (with_reducible refine Kd.C_drewN ?_ _) | (with_reducible refine Kd.C_drew ?_))); (case side2 => exact HC0_1.out); rintro e w18 ⟨rfl, hb⟩; refine ⟨_, rfl, ?_⟩; have n0_ := Aside0.mk (blk_below (g := gb106) (o := .cells #[.int .i64 a0_0, .slice A0_1 l0_1.length c0_1] 28 (0, 0)) (by (with_reducible repeat (first | refine blk_drewN ?_ _ | refine blk_drew ?_ | refine blk_alloc ?_ _)); exact BK106.out) hb); have n1_ := Aside0.mk (below_step (by repeat (first | (with_reducible first | exact HB.out | apply below_alloc | apply pw_below_drewN | apply below_drew1 | refine below_set ?_ GE106.out) | exact HB.out)) hb); clear BK106; clear HB; have BK106 := n0_; have HB := n1_; clear n0_ n1_; (try clear hb); (try clear hb2); (try clear hk); (try clear hi)) | ((with_reducible refine gate_callee (f := 53) rfl ?_); refine goesL_ (some 14) rfl rfl Try.func53 (by kernel_rfl) rfl #[.int .i64 a1, .int .i64 0, .int .i64 5] rfl (by (try simp only [List.map_toArray, List.map_cons, List.map_nil]); first | done | rfl | (simp only [List.length_drop, List.length_take]; rfl)) ?_; (with_reducible refine (spec_l01In.calls a1 0 5 true _ A5.out).mono ?_); rintro e w' ⟨rfl, ⟨nd, rfl⟩⟩; refine ⟨_, rfl, ?_⟩))
          (try (rw [drewN_self w18]; generalize hq_ : World.drewN w18 _ = w18; have n0_ : Aside0 (w18.heap[gb106]? = some (.cells #[.int .i64 a0_0, .slice A0_1 l0_1.length c0_1] 28 (0, 0))) := ⟨by rw [← hq_]; exact (by (with_reducible repeat (first | refine blk_drewN ?_ _ | refine blk_drew ?_ | refine blk_alloc ?_ _)); exact BK106.out)⟩; have n1_ : Aside0 (Below w.heap.size w w18) := ⟨by rw [← hq_]; exact (by repeat (first | (with_reducible first | exact HB.out | apply below_alloc | apply pw_below_drewN | apply below_drew1 | refine below_set ?_ GE106.out) | exact HB.out))⟩; clear BK106 HB hq_; have BK106 := n0_; have HB := n1_; clear n0_ n1_))
          have n0_ := Aside0.mk (blk_drew BK106.out)
          have n1_ := Aside0.mk (below_drew1 HB.out)
          clear BK106
          clear HB
          have BK106 := n0_
          have HB := n1_
          clear n0_ n1_
          refine start_ (n := 9) (S := fun w' => w'.cell? ⟨gb106, 0, none⟩ = some (.int .i64 a0_0) ∧ w'.cell? ⟨gb106, 1, none⟩ = some (.slice A0_1 l0_1.length c0_1)) (ds := []) #[false, false, false, false, false, false, false, false, false] (by kernel_rfl) rfl rfl ⟨(blk_cell BK106.out 0).trans rfl, (blk_cell BK106.out 1).trans rfl⟩ (fun hHeld => ?_); refine with_tabW spec_CountCycles.tab5 spec_CountCycles.bits5 (fun HT_ HW_ => ?_)
          generalize w18.drew = w19 at BK106 HB hHeld ⊢
          refine pure_ (i := 1) (N := some 17) (v := ?_) (a' := ?_) #[false, true, false, false, false, false, false, false, false] rfl rfl (any_of HT_.out (by kernel_rfl)) (fun _ _ _ h => h) (Or.inl ⟨by rfl, ?_⟩) ?_ ?_
          rotate_left
          · intro w'
            go_simp
            with_reducible rfl
          rotate_left
          · simp only [Act.put, List.setIfInBounds_toArray, List.set_cons_zero, List.set_cons_succ, i64_w, i32_w]
            rfl
          refine pure_ (i := 5) (N := some 21) (v := ?_) (a' := ?_) #[false, true, false, false, false, true, false, false, false] rfl rfl (any_of HT_.out (by kernel_rfl)) (fun _ _ _ h => h) (Or.inl ⟨by rfl, ?_⟩) ?_ ?_
          rotate_left
          · intro w'
            go_simp
            with_reducible rfl
          rotate_left
          · simp only [Act.put, List.setIfInBounds_toArray, List.set_cons_zero, List.set_cons_succ, i64_w, i32_w]
            rfl
          refine take_ (i := 0) (N := some 16) (v := ?_) (a' := ?_) #[true, true, false, false, false, true, false, false, false] rfl rfl (take_ofW HT_.out HW_.out (by kernel_rfl)) (fun _ _ _ h => h) (Or.inl ⟨by rfl, ?_⟩) hHeld ?_ ?_
          rotate_left
          · rintro w' ⟨s0, s1⟩
            go_simp
            with_reducible rfl
          rotate_left
          · simp only [Act.put, List.setIfInBounds_toArray, List.set_cons_zero, List.set_cons_succ, i64_w, i32_w]
            rfl
          refine take_ (i := 4) (N := some 20) (v := ?_) (a' := ?_) #[true, true, false, false, true, true, false, false, false] rfl rfl (take_ofW HT_.out HW_.out (by kernel_rfl)) (fun _ _ _ h => h) (Or.inl ⟨by rfl, ?_⟩) hHeld ?_ ?_
          rotate_left
          · rintro w' ⟨s0, s1⟩
            go_simp
            with_reducible rfl
          rotate_left
          · simp only [Act.put, List.setIfInBounds_toArray, List.set_cons_zero, List.set_cons_succ, i64_w, i32_w]
            rfl
          refine one_ (i := 2) (N := some 18) #[true, true, true, false, true, true, false, false, false] rfl rfl (one_of HT_.out (by kernel_rfl)) (by decide) (fun K hK => ?_)
          refine goes_ Try.func61 (by kernel_rfl) rfl #[.agg #[.int .i64 a0_0, .slice A0_1 l0_1.length c0_1], .int .i64 a1] (by rfl) rfl rfl (by (try simp only [List.map_toArray, List.map_cons, List.map_nil]); first | done | rfl | (simp only [List.length_drop, List.length_take]; rfl)) ?_
          with_reducible refine (spec_l01Of.calls k a0_0 _ _ l0_1 a1 t109 _ ?side1 ?side2 A7.out).mono ?_
          (case side1 => repeat (first | exact (Kd.C_below HR0_1.out HB.out) | (with_reducible refine Kd.C_alloc ?_ _) | (with_reducible refine Kd.C_drewN ?_ _) | (with_reducible refine Kd.C_drew ?_)))
          (case side2 => exact HC0_1.out)
          rintro e w20 ⟨v110, rfl, ho0, hb⟩
          refine ⟨_, rfl, ?_⟩
          have n0_ := Aside0.mk (Kd.R_lower ho0 (below_size (by repeat (first | (with_reducible first | exact HB.out | apply below_alloc | apply pw_below_drewN | apply below_drew1 | refine below_set ?_ GE106.out) | exact HB.out))))
          have n1_ := Aside0.mk (blk_below (g := gb106) (o := .cells #[.int .i64 a0_0, .slice A0_1 l0_1.length c0_1] 28 (0, 0)) (by (with_reducible repeat (first | refine blk_drewN ?_ _ | refine blk_drew ?_ | refine blk_alloc ?_ _)); exact BK106.out) hb)
          have n2_ := Aside0.mk (below_step (by repeat (first | (with_reducible first | exact HB.out | apply below_alloc | apply pw_below_drewN | apply below_drew1 | refine below_set ?_ GE106.out) | exact HB.out)) hb)
          clear BK106
          clear HB
          have HO111 := n0_
          have BK106 := n1_
          have HB := n2_
          clear n0_ n1_ n2_
          (try clear hb)
          (try clear hb2)
          (try clear hk)
          (try clear hi)
          (try clear ho0)
          obtain ⟨Ao21, co21, eo21⟩ := Kd.R_slice HO111.out
          (first | subst eo21 | (injection eo21 with f1_ f2_ f3_; have f4_ := f1_.symm; have f5_ := f3_.symm; clear f1_ f2_ f3_; subst f4_; subst f5_))
          refine hK.out _ _ ⟨(blk_cell BK106.out 0).trans rfl, (blk_cell BK106.out 1).trans rfl⟩ (fun hHeld => ?_)
          clear hK K
          refine norm_ (a' := ?_) ?_ ?_
          rotate_left
          · show Act.put _ (some 18) _ = _
            simp only [Act.put, List.setIfInBounds_toArray, List.set_cons_zero, List.set_cons_succ, i64_w, i32_w]
            rfl
          refine pure_ (i := 3) (N := some 19) (v := ?_) (a' := ?_) #[true, true, true, true, true, true, false, false, false] rfl rfl (any_of HT_.out (by kernel_rfl)) (fun _ _ _ h => h) (Or.inl ⟨by rfl, ?_⟩) ?_ ?_
          rotate_left
          · intro w'
            go_simp
            with_reducible rfl
          rotate_left
          · simp only [Act.put, List.setIfInBounds_toArray, List.set_cons_zero, List.set_cons_succ, i64_w, i32_w]
            rfl
          refine one_ (i := 6) (N := some 22) #[true, true, true, true, true, true, true, false, false] rfl rfl (one_of HT_.out (by kernel_rfl)) (by decide) (fun K hK => ?_)
          refine goes_ Try.func70 (by kernel_rfl) rfl #[.agg #[.int .i64 a0_0, .slice A0_1 l0_1.length c0_1], .int .i64 a1, .int .i64 2] (by rfl) rfl rfl (by (try simp only [List.map_toArray, List.map_cons, List.map_nil]); first | done | rfl | (simp only [List.length_drop, List.length_take]; rfl)) ?_
          with_reducible refine (spec_l03RankOf.calls a0_0 _ _ l0_1 a1 2 t112 _ ?side1 ?side2 A8.out).mono ?_
          (case side1 => repeat (first | exact (Kd.C_below HR0_1.out HB.out) | (with_reducible refine Kd.C_alloc ?_ _) | (with_reducible refine Kd.C_drewN ?_ _) | (with_reducible refine Kd.C_drew ?_)))
          (case side2 => exact HC0_1.out)
          rintro e w22 ⟨rfl, hb⟩
          refine ⟨_, rfl, ?_⟩
          have n0_ := Aside0.mk (Kd.R_below (by (with_reducible repeat (first | apply Kd.R_alloc | apply Kd.R_drewN | apply Kd.R_drew)); exact HO111.out) hb)
          have n1_ := Aside0.mk (blk_below (g := gb106) (o := .cells #[.int .i64 a0_0, .slice A0_1 l0_1.length c0_1] 28 (0, 0)) (by (with_reducible repeat (first | refine blk_drewN ?_ _ | refine blk_drew ?_ | refine blk_alloc ?_ _)); exact BK106.out) hb)
          have n2_ := Aside0.mk (below_step (by repeat (first | (with_reducible first | exact HB.out | apply below_alloc | apply pw_below_drewN | apply below_drew1 | refine below_set ?_ GE106.out) | exact HB.out)) hb)
          clear HO111
          clear BK106
          clear HB
          have HO111 := n0_
          have BK106 := n1_
          have HB := n2_
          clear n0_ n1_ n2_
          (try clear hb)
          (try clear hb2)
          (try clear hk)
          (try clear hi)
          refine hK.out _ _ ⟨(blk_cell BK106.out 0).trans rfl, (blk_cell BK106.out 1).trans rfl⟩ (fun hHeld => ?_)
          clear hK K
          refine norm_ (a' := ?_) ?_ ?_
          rotate_left
          · show Act.put _ (some 22) _ = _
            simp only [Act.put, List.setIfInBounds_toArray, List.set_cons_zero, List.set_cons_succ, i64_w, i32_w]
            rfl
          refine pure_ (i := 7) (N := some 23) (v := ?_) (a' := ?_) #[true, true, true, true, true, true, true, true, false] rfl rfl (any_of HT_.out (by kernel_rfl)) (fun _ _ _ h => h) (Or.inl ⟨by rfl, ?_⟩) ?_ ?_
          rotate_left
          · intro w'
            go_simp
            with_reducible rfl
          rotate_left
          · simp only [Act.put, List.setIfInBounds_toArray, List.set_cons_zero, List.set_cons_succ, i64_w, i32_w]
            rfl
          refine pure_ (i := 8) (N := some 7) (v := ?_) (a' := ?_) #[true, true, true, true, true, true, true, true, true] rfl rfl (any_of HT_.out (by kernel_rfl)) (fun _ _ _ h => h) (Or.inl ⟨by rfl, ?_⟩) ?_ ?_
          rotate_left
          · intro w'
            go_simp
            with_reducible rfl
          rotate_left
          · simp only [Act.put, List.setIfInBounds_toArray, List.set_cons_zero, List.set_cons_succ, i64_w, i32_w]
            rfl
          refine done_ (done_of HT_.out (by kernel_rfl)) ?_
          have hcz23_0 : w22.cell? ⟨gb106, 0, none⟩ = some (.int .i64 a0_0) := (blk_cell BK106.out 0).trans rfl
          have hcz23_1 : w22.cell? ⟨gb106, 1, none⟩ = some (.slice A0_1 l0_1.length c0_1) := (blk_cell BK106.out 1).trans rfl
          have hfz23_0 := blk_frozen BK106.out 0
          have hfz23_1 := blk_frozen BK106.out 1
          try go_wp2_with (first | ((with_reducible refine gate_callee (f := 70) rfl ?_); refine goesL_ (some 30) rfl rfl Try.func70 (by kernel_rfl) rfl #[.agg #[.int .i64 a0_0, .slice A0_1 l0_1.length c0_1], .int .i64 (wrap64 (a1 + 1)), .int .i64 2] rfl (by (try simp only [List.map_toArray, List.map_cons, List.map_nil]); first | done | rfl | (simp only [List.length_drop, List.length_take]; rfl)) ?_; (with_reducible refine (spec_l03RankOf.calls a0_0 _ _ l0_1 (wrap64 (a1 + 1)) 2 t113 _ ?side1 ?side2 A12.out).mono ?_); (case side1 => repeat (first | exact (Kd.C_below HR0_1.out HB.out) | (with_reducible refine Kd.C_alloc ?_ _) | (with_reducible refine Kd.C_drewN ?_ _) | (with_reducible refine Kd.C_drew ?_))); (case side2 => exact HC0_1.out); rintro e w24 ⟨rfl, hb⟩; refine ⟨_, rfl, ?_⟩; have n0_ := Aside0.mk (Kd.R_below (by (with_reducible repeat (first | apply Kd.R_alloc | apply Kd.R_drewN | apply Kd.R_drew)); exact HO111.out) hb); have n1_ := Aside0.mk (blk_below (g := gb106) (o := .cells #[.int .i64 a0_0, .slice A0_1 l0_1.length c0_1] 28 (0, 0)) (by (with_reducible repeat (first | refine blk_drewN ?_ _ | refine blk_drew ?_ | refine blk_alloc ?_ _)); exact BK106.out) hb); have n2_ := Aside0.mk (below_step (by repeat (first | (with_reducible first | exact HB.out | apply below_alloc | apply pw_below_drewN | apply below_drew1 | refine below_set ?_ GE106.out) | exact HB.out)) hb); clear HO111; clear BK106; clear HB; have HO111 := n0_; have BK106 := n1_; have HB := n2_; clear n0_ n1_ n2_; (try clear hb); (try clear hb2); (try clear hk); (try clear hi)))
          go_ret3
          exact ⟨by first | rfl | (simp [errW_none, errW_some] <;> rfl) | (simp only [← hji9, ← hji11, ← hji13, ← hji15]; first | rfl | (simp [errW_none, errW_some] <;> rfl)) | (simp [*, errW_none, errW_some] <;> rfl), by repeat (first | (with_reducible first | exact HB.out | apply below_alloc | apply pw_below_drewN | apply below_drew1 | refine below_set ?_ GE106.out) | exact HB.out)⟩
        · rw [if_neg c14] at H
          exact absurd H (by simp)
      · rw [if_neg c10] at H
        exact absurd H (by simp)
    · replace c6 := Bool.eq_false_iff.mpr c6
      subst c6
      have H1 : (some (0, 0, 2)) = some (r1, r2, r3) := by rw [if_neg (show ¬ (false = true) by decide)] at H; exact H
      clear H
      have H := H1
      clear H1
      simp only [Option.some.injEq, Prod.mk.injEq] at H
      obtain ⟨rfl, rfl, rfl⟩ := H
      go_enter Try.func34, Try.ntmps34
      go_wp2_with (first | ((with_reducible refine gate_dst (N := 2) rfl ?_); refine box_event ?hg (N := 2) ?hd (cs := #[.int .i64 a0_0, .slice A0_1 l0_1.length c0_1]) (t := 28) ?hr ?_; (case hd => rfl); (case hg => rfl); (case hr => first | (go_simp; done) | (go_simp; rfl)); intro gb106 hg w25 hbox hb; have n0_ := Aside0.mk (below_step (by repeat (first | (with_reducible first | exact HB.out | apply below_alloc | apply pw_below_drewN | apply below_drew1) | exact HB.out)) hb); have n1_ := Aside0.mk (hbox); have n2_ := Aside0.mk ((by rw [hg]; exact (below_size (by repeat (first | (with_reducible first | exact HB.out | apply below_alloc | apply pw_below_drewN | apply below_drew1) | exact HB.out))) : w.heap.size ≤ gb106)); have n3_ := Aside0.mk ((by rw [hg]; exact (below_size (by repeat (first | (with_reducible first | exact HB.out | apply below_alloc | apply pw_below_drewN | apply below_drew1) | exact HB.out))) : w.heap.size ≤ gb106)); clear HB; have HB := n0_; have BK106 := n1_; have GW106 := n2_; have GE106 := n3_; clear n0_ n1_ n2_ n3_; clear hb hbox hg; have hcz26_0 : w25.cell? ⟨gb106, 0, none⟩ = some (.int .i64 a0_0) := (blk_cell BK106.out 0).trans rfl; have hcz26_1 : w25.cell? ⟨gb106, 1, none⟩ = some (.slice A0_1 l0_1.length c0_1) := (blk_cell BK106.out 1).trans rfl; have hfz26_0 := blk_frozen BK106.out 0; have hfz26_1 := blk_frozen BK106.out 1) | ((with_reducible refine gate_callee (f := 52) rfl ?_); refine goesL_ (some 10) rfl rfl Try.func52 (by kernel_rfl) rfl #[.agg #[.int .i64 a0_0, .slice A0_1 l0_1.length c0_1]] rfl (by (try simp only [List.map_toArray, List.map_cons, List.map_nil]); first | done | rfl | (simp only [List.length_drop, List.length_take]; rfl)) ?_; (with_reducible refine (spec_l01Is.calls k a0_0 _ _ l0_1 true _ ?side1 ?side2 A3.out).mono ?_); (case side1 => repeat (first | exact (Kd.C_below HR0_1.out HB.out) | (with_reducible refine Kd.C_alloc ?_ _) | (with_reducible refine Kd.C_drewN ?_ _) | (with_reducible refine Kd.C_drew ?_))); (case side2 => exact HC0_1.out); rintro e w27 ⟨rfl, hb⟩; refine ⟨_, rfl, ?_⟩; have n0_ := Aside0.mk (blk_below (g := gb106) (o := .cells #[.int .i64 a0_0, .slice A0_1 l0_1.length c0_1] 28 (0, 0)) (by (with_reducible repeat (first | refine blk_drewN ?_ _ | refine blk_drew ?_ | refine blk_alloc ?_ _)); exact BK106.out) hb); have n1_ := Aside0.mk (below_step (by repeat (first | (with_reducible first | exact HB.out | apply below_alloc | apply pw_below_drewN | apply below_drew1 | refine below_set ?_ GE106.out) | exact HB.out)) hb); clear BK106; clear HB; have BK106 := n0_; have HB := n1_; clear n0_ n1_; (try clear hb); (try clear hb2); (try clear hk); (try clear hi)) | ((with_reducible refine gate_callee (f := 53) rfl ?_); refine goesL_ (some 14) rfl rfl Try.func53 (by kernel_rfl) rfl #[.int .i64 a1, .int .i64 0, .int .i64 5] rfl (by (try simp only [List.map_toArray, List.map_cons, List.map_nil]); first | done | rfl | (simp only [List.length_drop, List.length_take]; rfl)) ?_; (with_reducible refine (spec_l01In.calls a1 0 5 false _ A5.out).mono ?_); rintro e w' ⟨rfl, ⟨nd, rfl⟩⟩; refine ⟨_, rfl, ?_⟩))
      go_ret3
      exact ⟨by first | rfl | (simp [errW_none, errW_some] <;> rfl) | (simp [*, errW_none, errW_some] <;> rfl), by repeat (first | (with_reducible first | exact HB.out | apply below_alloc | apply pw_below_drewN | apply below_drew1 | refine below_set ?_ GE106.out) | exact HB.out)⟩
  · replace c4 := Bool.eq_false_iff.mpr c4
    subst c4
    have H1 : (some (0, 0, 1)) = some (r1, r2, r3) := by rw [if_neg (show ¬ (false = true) by decide)] at H; exact H
    clear H
    have H := H1
    clear H1
    simp only [Option.some.injEq, Prod.mk.injEq] at H
    obtain ⟨rfl, rfl, rfl⟩ := H
    go_enter Try.func34, Try.ntmps34
    go_wp2_with (first | ((with_reducible refine gate_dst (N := 2) rfl ?_); refine box_event ?hg (N := 2) ?hd (cs := #[.int .i64 a0_0, .slice A0_1 l0_1.length c0_1]) (t := 28) ?hr ?_; (case hd => rfl); (case hg => rfl); (case hr => first | (go_simp; done) | (go_simp; rfl)); intro gb106 hg w28 hbox hb; have n0_ := Aside0.mk (below_step (by repeat (first | (with_reducible first | exact HB.out | apply below_alloc | apply pw_below_drewN | apply below_drew1) | exact HB.out)) hb); have n1_ := Aside0.mk (hbox); have n2_ := Aside0.mk ((by rw [hg]; exact (below_size (by repeat (first | (with_reducible first | exact HB.out | apply below_alloc | apply pw_below_drewN | apply below_drew1) | exact HB.out))) : w.heap.size ≤ gb106)); have n3_ := Aside0.mk ((by rw [hg]; exact (below_size (by repeat (first | (with_reducible first | exact HB.out | apply below_alloc | apply pw_below_drewN | apply below_drew1) | exact HB.out))) : w.heap.size ≤ gb106)); clear HB; have HB := n0_; have BK106 := n1_; have GW106 := n2_; have GE106 := n3_; clear n0_ n1_ n2_ n3_; clear hb hbox hg; have hcz29_0 : w28.cell? ⟨gb106, 0, none⟩ = some (.int .i64 a0_0) := (blk_cell BK106.out 0).trans rfl; have hcz29_1 : w28.cell? ⟨gb106, 1, none⟩ = some (.slice A0_1 l0_1.length c0_1) := (blk_cell BK106.out 1).trans rfl; have hfz29_0 := blk_frozen BK106.out 0; have hfz29_1 := blk_frozen BK106.out 1) | ((with_reducible refine gate_callee (f := 52) rfl ?_); refine goesL_ (some 10) rfl rfl Try.func52 (by kernel_rfl) rfl #[.agg #[.int .i64 a0_0, .slice A0_1 l0_1.length c0_1]] rfl (by (try simp only [List.map_toArray, List.map_cons, List.map_nil]); first | done | rfl | (simp only [List.length_drop, List.length_take]; rfl)) ?_; (with_reducible refine (spec_l01Is.calls k a0_0 _ _ l0_1 false _ ?side1 ?side2 A3.out).mono ?_); (case side1 => repeat (first | exact (Kd.C_below HR0_1.out HB.out) | (with_reducible refine Kd.C_alloc ?_ _) | (with_reducible refine Kd.C_drewN ?_ _) | (with_reducible refine Kd.C_drew ?_))); (case side2 => exact HC0_1.out); rintro e w30 ⟨rfl, hb⟩; refine ⟨_, rfl, ?_⟩; have n0_ := Aside0.mk (blk_below (g := gb106) (o := .cells #[.int .i64 a0_0, .slice A0_1 l0_1.length c0_1] 28 (0, 0)) (by (with_reducible repeat (first | refine blk_drewN ?_ _ | refine blk_drew ?_ | refine blk_alloc ?_ _)); exact BK106.out) hb); have n1_ := Aside0.mk (below_step (by repeat (first | (with_reducible first | exact HB.out | apply below_alloc | apply pw_below_drewN | apply below_drew1 | refine below_set ?_ GE106.out) | exact HB.out)) hb); clear BK106; clear HB; have BK106 := n0_; have HB := n1_; clear n0_ n1_; (try clear hb); (try clear hb2); (try clear hk); (try clear hi)))
    go_ret3
    exact ⟨by first | rfl | (simp [errW_none, errW_some] <;> rfl) | (simp [*, errW_none, errW_some] <;> rfl), by repeat (first | (with_reducible first | exact HB.out | apply below_alloc | apply pw_below_drewN | apply below_drew1 | refine below_set ?_ GE106.out) | exact HB.out)⟩


end Go.Proofs.Ythganpmmhfoodaa.D
end

section
/- Written by a program of this session (myprint.py over the kit's print). -/
namespace Go.Proofs.Ythganpmmhfoodaa.D
open Go.RowKit Go.Proofs.Ythganpmmhfoodaa.Q Go.Proofs.Ythganpmmhfoodaa.X Go.Proofs.YthganpmmhfoodaaW.PrintWords Go.Proofs.YthganpmmhfoodaaW.PrintLast Go.Proofs.YthganpmmhfoodaaW.PrintMore
attribute [local go_sem] max2_int min2_int max_two min_two max_three min_three max_four min_four   -- for this text's walks alone
set_option linter.unusedVariables false
set_option linter.unusedSimpArgs false

/-! ### spec_l03Betti: function 76 -/
def spec_l03Betti.l0 : Nat → Int → List Int → Int → Int → List Int → Option (List Int)
  | 0, _, _, _, _, _ => none
  | k + 1, x1, x5, x6, x115000, x115001 => (spec_l01Dim.f k x115000 x115001).bind fun t118 => (if x6 ≤ t118 then ((spec_l01Of.f k x115000 x115001 x6).bind fun t119 => ((spec_l03RankOf.f x115000 x115001 x6 x1).bind fun t122 => ((spec_l03RankOf.f x115000 x115001 (wrap64 (x6 + 1)) x1).bind fun t123 => (if x5.length < 17592186044416 then (spec_l03Betti.l0 k x1 (x5 ++ [wrap64 ((wrap64 ((t119.length : Int) - t122)) - t123)]) (wrap64 (x6 + 1)) x115000 x115001) else (none))))) else (some x5))
def spec_l03Betti.f (k : Nat) (a0_0 : Int) (l0_1 : List Int) (a1 : Int) : Option (List Int) := spec_l03Betti.l0 k a1 (([] : List Int)) 0 a0_0 l0_1
theorem spec_l03Betti.mono_l : ∀ k, (∀ y0 y1 y2 y3 y4, LeO (spec_l03Betti.l0 k y0 y1 y2 y3 y4) (spec_l03Betti.l0 (k + 1) y0 y1 y2 y3 y4))
  | 0 => fun _ _ _ _ _ r h => by simp [spec_l03Betti.l0] at h
  | k + 1 => by
    have ih0 := spec_l03Betti.mono_l k
    · intro y0 y1 y2 y3 y4
      unfold spec_l03Betti.l0
      repeat' first
      | (with_reducible exact ih0 _ _ _ _ _)
      | (with_reducible exact spec_l01Dim.mono _ _ _)
      | (with_reducible exact spec_l01Of.mono _ _ _ _)
      | (with_reducible exact LeO.refl _)
      | (with_reducible exact LeO.none _)
      | (with_reducible refine LeO.ite ?_ ?_)
      | (with_reducible refine LeO.bind ?_ (fun _ => ?_))
      | exact ih0 _ _ _ _ _
      | exact spec_l01Dim.mono _ _ _
      | exact spec_l01Of.mono _ _ _ _
      | exact LeO.none _
      | refine LeO.ite ?_ ?_
      | refine LeO.bind ?_ (fun _ => ?_)
theorem spec_l03Betti.mono : ∀ a0 a1 a2 k, LeO (spec_l03Betti.f k a0 a1 a2) (spec_l03Betti.f (k + 1) a0 a1 a2) := by
  intro a0 a1 a2 k
  have ih0 := spec_l03Betti.mono_l k
  unfold spec_l03Betti.f
  repeat' first
      | (with_reducible exact ih0 _ _ _ _ _)
      | (with_reducible exact spec_l01Dim.mono _ _ _)
      | (with_reducible exact spec_l01Of.mono _ _ _ _)
      | (with_reducible exact LeO.refl _)
      | (with_reducible exact LeO.none _)
      | (with_reducible refine LeO.ite ?_ ?_)
      | (with_reducible refine LeO.bind ?_ (fun _ => ?_))
      | exact ih0 _ _ _ _ _
      | exact spec_l01Dim.mono _ _ _
      | exact spec_l01Of.mono _ _ _ _
      | exact LeO.none _
      | refine LeO.ite ?_ ?_
      | refine LeO.bind ?_ (fun _ => ?_)
def spec_l03Betti.T5 : Bool × List (List Nat × List Nat) := (true, [([], []), ([], []), ([], []), ([1, 2], [1, 2]), ([3], [3]), ([], []), ([], []), ([], []), ([5, 6, 7, 3], [5, 6, 7]), ([4, 8], [4, 8]), ([], []), ([], []), ([11], [11]), ([], []), ([10, 12, 13, 8], [10, 12, 13]), ([9, 14], [9, 14]), ([15], [15]), ([0, 16, 14], [0, 16]), ([17, 17, 0, 1, 2, 3, 4, 5, 6, 7, 8, 9, 10, 11, 12, 13, 14, 15, 16, 17], [0, 17])])
def spec_l03Betti.B5 : List Nat := [0, 0, 0, 6, 14, 0, 0, 0, 238, 510, 0, 0, 2048, 0, 15854, 32766, 65534, 131071, 262143]
theorem spec_l03Betti.tab5 : rtab .any (opsOf Try.f76 5) = spec_l03Betti.T5 := by kernel_rfl
theorem spec_l03Betti.bits5 : waitsOk spec_l03Betti.T5.2 spec_l03Betti.B5 = true := by kernel_rfl
set_option maxHeartbeats 8000000 in
set_option maxRecDepth 100000 in
theorem spec_l03Betti.calls (k : Nat) (a0_0 : Int) (A0_1 : Option Addr) (c0_1 : Nat) (l0_1 : List Int) (a1 : Int) (r : List Int) (w : World) (hr0_1 : Kd.C (Kd.int .i64) w A0_1 l0_1.length l0_1) (hc0_1 : l0_1.length ≤ c0_1) (h : spec_l03Betti.f k a0_0 l0_1 a1 = some r) :
    Calls Try.prog 76 #[.agg #[.int .i64 a0_0, .slice A0_1 l0_1.length c0_1], .int .i64 a1] w fun e w' => ∃ v0_ : Value, e = .returned (v0_) ∧ Kd.R (Kd.int .i64) 2 w' w.heap.size (fun _ => True) v0_ r ∧ Below w.heap.size w w' := by
  have hu28 := Try.underlying28
  have HR0_1 := Aside0.mk hr0_1
  have HC0_1 := Aside0.mk hc0_1
  clear hr0_1 hc0_1
  have HB := Aside0.mk (Below.refl w.heap.size w)
  have H : (spec_l03Betti.l0 k a1 (([] : List Int)) 0 a0_0 l0_1) = some r := h
  clear h
  obtain ⟨y115, hy115⟩ : ∃ y_ : List Int, y_ = (([] : List Int)) := ⟨_, rfl⟩
  replace H : (spec_l03Betti.l0 k a1 y115 0 a0_0 l0_1) = some r := by first | (rw [hy115]; with_reducible exact H) | (have H2_ := (Option.bind_some _ _).symm.trans H; rw [hy115]; with_reducible exact H2_) | (have H2_ := (Option.bind_some _ _).symm.trans H; with_reducible exact H2_) | with_reducible exact H | (rw [hy115]; exact H) | exact H
  have Ny115 := Aside0.mk hy115
  clear hy115
  have H' := Aside0.mk H
  clear H
  go_enter Try.func76, Try.ntmps76
  go_wp2_with (first | ((with_reducible refine gate_dst (N := 2) rfl ?_); refine box_event ?hg (N := 2) ?hd (cs := #[.int .i64 a0_0, .slice A0_1 l0_1.length c0_1]) (t := 28) ?hr ?_; (case hd => rfl); (case hg => rfl); (case hr => first | (go_simp; done) | (go_simp; rfl)); intro gb114 hg w3 hbox hb; have n0_ := Aside0.mk (below_step (by repeat (first | (with_reducible first | exact HB.out | apply below_alloc | apply pw_below_drewN | apply below_drew1) | exact HB.out)) hb); have n1_ := Aside0.mk (hbox); have n2_ := Aside0.mk ((by rw [hg]; exact (below_size (by repeat (first | (with_reducible first | exact HB.out | apply below_alloc | apply pw_below_drewN | apply below_drew1) | exact HB.out))) : w.heap.size ≤ gb114)); have n3_ := Aside0.mk ((by rw [hg]; exact (below_size (by repeat (first | (with_reducible first | exact HB.out | apply below_alloc | apply pw_below_drewN | apply below_drew1) | exact HB.out))) : w.heap.size ≤ gb114)); clear HB; have HB := n0_; have BK114 := n1_; have GW114 := n2_; have GE114 := n3_; clear n0_ n1_ n2_ n3_; clear hb hbox hg) | ((with_reducible refine gate_dst (N := 7) rfl ?_); refine Kd.R_lit (Kd.int .i64) _ 2 ?hg (N := 7) ?hd (xs := ([] : List Int)) (inner := []) (ok := fun _ => True) (okp := fun _ => True) ?hr ?hp (fun _ hk => hk) trivial (Below.refl _ _) (Nat.le_refl _) (by simp) ?_; (case hd => rfl); (case hg => rfl); (case hr => first | (go_simp; done) | (go_simp; rfl)); (case hp => exact (Reps.none _ _)); intro v116 w4 ho5 hb hg_ hnew_; clear hg_ hnew_; (first | rw [← Ny115.out] at ho5 | (simp only [Int.reduceToNat] at ho5; rw [← Ny115.out] at ho5)); have n0_ := Aside0.mk (Kd.R_lower ho5 (below_size (by repeat (first | (with_reducible first | exact HB.out | apply below_alloc | apply pw_below_drewN | apply below_drew1 | refine below_set ?_ GE114.out) | exact HB.out)))); have n1_ := Aside0.mk (blk_below (g := gb114) (o := .cells #[.int .i64 a0_0, .slice A0_1 l0_1.length c0_1] 28 (0, 0)) (by (with_reducible repeat (first | refine blk_drewN ?_ _ | refine blk_drew ?_ | refine blk_alloc ?_ _)); exact BK114.out) hb); have n2_ := Aside0.mk (below_step (by repeat (first | (with_reducible first | exact HB.out | apply below_alloc | apply pw_below_drewN | apply below_drew1 | refine below_set ?_ GE114.out) | exact HB.out)) hb); clear BK114; clear HB; have HO117 := n0_; have BK114 := n1_; have HB := n2_; clear n0_ n1_ n2_; clear hb ho5))
  go_loopg [5, 6] k (fun kq v5 v6 w' => ∃ (x5_1 : List Int) (x6_1 : Int), v6 = .int .i64 x6_1 ∧ Aside0 (spec_l03Betti.l0 kq a1 x5_1 x6_1 a0_0 l0_1 = some r) ∧ Aside0 (kq ≤ k) ∧ Aside0 (Kd.R (Kd.int .i64) 2 w' w.heap.size (fun _ => True) v5 x5_1) ∧ Aside0 (w'.heap[gb114]? = some (.cells #[.int .i64 a0_0, (.slice A0_1 l0_1.length c0_1)] 28 (0, 0))) ∧ Aside0 (Below w.heap.size w w'))
  case atStart => exact ⟨(y115), (0), (by first | rfl | (simp; done) | (simp [*]; done)), H', ⟨Nat.le_refl _⟩, ⟨by (with_reducible repeat (first | apply Kd.R_alloc | apply Kd.R_drewN | apply Kd.R_drew)); exact HO117.out⟩, ⟨by (with_reducible repeat (first | refine blk_drewN ?_ _ | refine blk_drew ?_ | refine blk_alloc ?_ _)); exact BK114.out⟩, ⟨by repeat (first | (with_reducible first | exact HB.out | apply below_alloc | apply pw_below_drewN | apply below_drew1 | refine below_set ?_ GE114.out) | exact HB.out)⟩⟩
  case round =>
    clear H'
    try clear p2
    obtain ⟨x5_1, x6_1, rfl, HA, HK1, HO_5, BK114, HB⟩ := hrel
    cases gk with
    | zero => exact absurd HA.out (by simp [spec_l03Betti.l0])
    | succ k1 =>
      have H := HA.out
      clear HA
      simp only [spec_l03Betti.l0] at H
      replace H := Option.bind_eq_some_iff.mp H
      obtain ⟨t118, A60, H⟩ := H
      replace H : (if x6_1 ≤ t118 then ((spec_l01Of.f k1 a0_0 l0_1 x6_1).bind fun t119 => ((spec_l03RankOf.f a0_0 l0_1 x6_1 a1).bind fun t122 => ((spec_l03RankOf.f a0_0 l0_1 (wrap64 (x6_1 + 1)) a1).bind fun t123 => (if x5_1.length < 17592186044416 then (spec_l03Betti.l0 k1 a1 (x5_1 ++ [wrap64 ((wrap64 ((t119.length : Int) - t122)) - t123)]) (wrap64 (x6_1 + 1)) a0_0 l0_1) else (none))))) else (some x5_1)) = some r := H
      have A6 := Aside0.mk A60
      clear A60
      by_cases c7 : x6_1 ≤ t118
      · rw [if_pos c7] at H
        have c7b0 : decide (x6_1 ≤ t118) = true := decide_eq_true c7
        clear c7
        replace H := Option.bind_eq_some_iff.mp H
        obtain ⟨t119, A80, H⟩ := H
        replace H : ((spec_l03RankOf.f a0_0 l0_1 x6_1 a1).bind fun t122 => ((spec_l03RankOf.f a0_0 l0_1 (wrap64 (x6_1 + 1)) a1).bind fun t123 => (if x5_1.length < 17592186044416 then (spec_l03Betti.l0 k1 a1 (x5_1 ++ [wrap64 ((wrap64 ((t119.length : Int) - t122)) - t123)]) (wrap64 (x6_1 + 1)) a0_0 l0_1) else (none)))) = some r := H
        have A8 := Aside0.mk A80
        clear A80
        replace H := Option.bind_eq_some_iff.mp H
        obtain ⟨t122, A90, H⟩ := H
        replace H : ((spec_l03RankOf.f a0_0 l0_1 (wrap64 (x6_1 + 1)) a1).bind fun t123 => (if x5_1.length < 17592186044416 then (spec_l03Betti.l0 k1 a1 (x5_1 ++ [wrap64 ((wrap64 ((t119.length : Int) - t122)) - t123)]) (wrap64 (x6_1 + 1)) a0_0 l0_1) else (none))) = some r := H
        have A9 := Aside0.mk A90
        clear A90
        replace H := Option.bind_eq_some_iff.mp H
        obtain ⟨t123, A100, H⟩ := H
        replace H : (if x5_1.length < 17592186044416 then (spec_l03Betti.l0 k1 a1 (x5_1 ++ [wrap64 ((wrap64 ((t119.length : Int) - t122)) - t123)]) (wrap64 (x6_1 + 1)) a0_0 l0_1) else (none)) = some r := H
        have A10 := Aside0.mk A100
        clear A100
        by_cases c11 : x5_1.length < 17592186044416
        · rw [if_pos c11] at H
          have LMc11 := Aside0.mk c11
          clear c11
          obtain ⟨y124, hy124⟩ : ∃ y_ : List Int, y_ = (x5_1 ++ [wrap64 ((wrap64 ((t119.length : Int) - t122)) - t123)]) := ⟨_, rfl⟩
          replace H : (spec_l03Betti.l0 k1 a1 y124 (wrap64 (x6_1 + 1)) a0_0 l0_1) = some r := by first | (rw [hy124]; with_reducible exact H) | (have H2_ := (Option.bind_some _ _).symm.trans H; rw [hy124]; with_reducible exact H2_) | (have H2_ := (Option.bind_some _ _).symm.trans H; with_reducible exact H2_) | with_reducible exact H | (rw [hy124]; exact H) | exact H
          have Ny124 := Aside0.mk hy124
          clear hy124
          have H' := Aside0.mk H
          clear H
          have hcz12_0 : wr.cell? ⟨gb114, 0, none⟩ = some (.int .i64 a0_0) := (blk_cell BK114.out 0).trans rfl
          have hcz12_1 : wr.cell? ⟨gb114, 1, none⟩ = some (.slice A0_1 l0_1.length c0_1) := (blk_cell BK114.out 1).trans rfl
          have hfz12_0 := blk_frozen BK114.out 0
          have hfz12_1 := blk_frozen BK114.out 1
          try go_wp2_with (first | ((with_reducible refine gate_callee (f := 60) rfl ?_); refine goesL_ (some 10) rfl rfl Try.func60 (by kernel_rfl) rfl #[.agg #[.int .i64 a0_0, .slice A0_1 l0_1.length c0_1]] rfl (by (try simp only [List.map_toArray, List.map_cons, List.map_nil]); first | done | rfl | (simp only [List.length_drop, List.length_take]; rfl)) ?_; (with_reducible refine (spec_l01Dim.calls k1 a0_0 _ _ l0_1 t118 _ ?side1 ?side2 A6.out).mono ?_); (case side1 => repeat (first | exact (Kd.C_below HR0_1.out HB.out) | (with_reducible refine Kd.C_alloc ?_ _) | (with_reducible refine Kd.C_drewN ?_ _) | (with_reducible refine Kd.C_drew ?_))); (case side2 => exact HC0_1.out); rintro e w13 ⟨rfl, hb⟩; refine ⟨_, rfl, ?_⟩; have n0_ := Aside0.mk (Kd.R_below (by (with_reducible repeat (first | apply Kd.R_alloc | apply Kd.R_drewN | apply Kd.R_drew)); exact HO_5.out) hb); have n1_ := Aside0.mk (blk_below (g := gb114) (o := .cells #[.int .i64 a0_0, .slice A0_1 l0_1.length c0_1] 28 (0, 0)) (by (with_reducible repeat (first | refine blk_drewN ?_ _ | refine blk_drew ?_ | refine blk_alloc ?_ _)); exact BK114.out) hb); have n2_ := Aside0.mk (below_step (by repeat (first | (with_reducible first | exact HB.out | apply below_alloc | apply pw_below_drewN | apply below_drew1 | refine below_set ?_ GE114.out) | exact HB.out)) hb); clear HO_5; clear BK114; clear HB; have HO_5 := n0_; have BK114 := n1_; have HB := n2_; clear n0_ n1_ n2_; (try clear hb); (try clear hb2); (try clear hk); (try clear hi)))
          have n0_ := Aside0.mk (Kd.R_drew HO_5.out)
          have n1_ := Aside0.mk (blk_drew BK114.out)
          have n2_ := Aside0.mk (below_drew1 HB.out)
          clear HO_5
          clear BK114
          clear HB
          have HO_5 := n0_
          have BK114 := n1_
          have HB := n2_
          clear n0_ n1_ n2_
          refine start_ (n := 19) (S := fun w' => w'.cell? ⟨gb114, 0, none⟩ = some (.int .i64 a0_0) ∧ w'.cell? ⟨gb114, 1, none⟩ = some (.slice A0_1 l0_1.length c0_1)) (ds := []) #[false, false, false, false, false, false, false, false, false, false, false, false, false, false, false, false, false, false, false] (by kernel_rfl) rfl rfl ⟨(blk_cell BK114.out 0).trans rfl, (blk_cell BK114.out 1).trans rfl⟩ (fun hHeld => ?_); refine with_tabW spec_l03Betti.tab5 spec_l03Betti.bits5 (fun HT_ HW_ => ?_)
          generalize w13.drew = w14 at HO_5 BK114 HB hHeld ⊢
          refine pure_ (i := 0) (N := some 14) (v := ?_) (a' := ?_) #[true, false, false, false, false, false, false, false, false, false, false, false, false, false, false, false, false, false, false] rfl rfl (any_of HT_.out (by kernel_rfl)) (fun _ _ _ h => h) (Or.inl ⟨by rfl, ?_⟩) ?_ ?_
          rotate_left
          · intro w'
            go_simp
            with_reducible rfl
          rotate_left
          · simp only [Act.put, List.setIfInBounds_toArray, List.set_cons_zero, List.set_cons_succ, i64_w, i32_w]
            rfl
          refine pure_ (i := 2) (N := some 16) (v := ?_) (a' := ?_) #[true, false, true, false, false, false, false, false, false, false, false, false, false, false, false, false, false, false, false] rfl rfl (any_of HT_.out (by kernel_rfl)) (fun _ _ _ h => h) (Or.inl ⟨by rfl, ?_⟩) ?_ ?_
          rotate_left
          · intro w'
            go_simp
            with_reducible rfl
          rotate_left
          · simp only [Act.put, List.setIfInBounds_toArray, List.set_cons_zero, List.set_cons_succ, i64_w, i32_w]
            rfl
          refine pure_ (i := 6) (N := some 20) (v := ?_) (a' := ?_) #[true, false, true, false, false, false, true, false, false, false, false, false, false, false, false, false, false, false, false] rfl rfl (any_of HT_.out (by kernel_rfl)) (fun _ _ _ h => h) (Or.inl ⟨by rfl, ?_⟩) ?_ ?_
          rotate_left
          · intro w'
            go_simp
            with_reducible rfl
          rotate_left
          · simp only [Act.put, List.setIfInBounds_toArray, List.set_cons_zero, List.set_cons_succ, i64_w, i32_w]
            rfl
          refine pure_ (i := 7) (N := some 21) (v := ?_) (a' := ?_) #[true, false, true, false, false, false, true, true, false, false, false, false, false, false, false, false, false, false, false] rfl rfl (any_of HT_.out (by kernel_rfl)) (fun _ _ _ h => h) (Or.inl ⟨by rfl, ?_⟩) ?_ ?_
          rotate_left
          · intro w'
            go_simp
            with_reducible rfl
          rotate_left
          · simp only [Act.put, List.setIfInBounds_toArray, List.set_cons_zero, List.set_cons_succ, i64_w, i32_w]
            rfl
          refine pure_ (i := 11) (N := some 25) (v := ?_) (a' := ?_) #[true, false, true, false, false, false, true, true, false, false, false, true, false, false, false, false, false, false, false] rfl rfl (any_of HT_.out (by kernel_rfl)) (fun _ _ _ h => h) (Or.inl ⟨by rfl, ?_⟩) ?_ ?_
          rotate_left
          · intro w'
            go_simp
            with_reducible rfl
          rotate_left
          · simp only [Act.put, List.setIfInBounds_toArray, List.set_cons_zero, List.set_cons_succ, i64_w, i32_w]
            rfl
          refine pure_ (i := 12) (N := some 26) (v := ?_) (a' := ?_) #[true, false, true, false, false, false, true, true, false, false, false, true, true, false, false, false, false, false, false] rfl rfl (any_of HT_.out (by kernel_rfl)) (fun _ _ _ h => h) (Or.inl ⟨by rfl, ?_⟩) ?_ ?_
          rotate_left
          · intro w'
            go_simp
            with_reducible rfl
          rotate_left
          · simp only [Act.put, List.setIfInBounds_toArray, List.set_cons_zero, List.set_cons_succ, i64_w, i32_w]
            rfl
          refine pure_ (i := 13) (N := some 27) (v := ?_) (a' := ?_) #[true, false, true, false, false, false, true, true, false, false, false, true, true, true, false, false, false, false, false] rfl rfl (any_of HT_.out (by kernel_rfl)) (fun _ _ _ h => h) (Or.inl ⟨by rfl, ?_⟩) ?_ ?_
          rotate_left
          · intro w'
            go_simp
            with_reducible rfl
          rotate_left
          · simp only [Act.put, List.setIfInBounds_toArray, List.set_cons_zero, List.set_cons_succ, i64_w, i32_w]
            rfl
          refine take_ (i := 1) (N := some 15) (v := ?_) (a' := ?_) #[true, true, true, false, false, false, true, true, false, false, false, true, true, true, false, false, false, false, false] rfl rfl (take_ofW HT_.out HW_.out (by kernel_rfl)) (fun _ _ _ h => h) (Or.inl ⟨by rfl, ?_⟩) hHeld ?_ ?_
          rotate_left
          · rintro w' ⟨s0, s1⟩
            go_simp
            with_reducible rfl
          rotate_left
          · simp only [Act.put, List.setIfInBounds_toArray, List.set_cons_zero, List.set_cons_succ, i64_w, i32_w]
            rfl
          refine take_ (i := 5) (N := some 19) (v := ?_) (a' := ?_) #[true, true, true, false, false, true, true, true, false, false, false, true, true, true, false, false, false, false, false] rfl rfl (take_ofW HT_.out HW_.out (by kernel_rfl)) (fun _ _ _ h => h) (Or.inl ⟨by rfl, ?_⟩) hHeld ?_ ?_
          rotate_left
          · rintro w' ⟨s0, s1⟩
            go_simp
            with_reducible rfl
          rotate_left
          · simp only [Act.put, List.setIfInBounds_toArray, List.set_cons_zero, List.set_cons_succ, i64_w, i32_w]
            rfl
          refine take_ (i := 10) (N := some 24) (v := ?_) (a' := ?_) #[true, true, true, false, false, true, true, true, false, false, true, true, true, true, false, false, false, false, false] rfl rfl (take_ofW HT_.out HW_.out (by kernel_rfl)) (fun _ _ _ h => h) (Or.inl ⟨by rfl, ?_⟩) hHeld ?_ ?_
          rotate_left
          · rintro w' ⟨s0, s1⟩
            go_simp
            with_reducible rfl
          rotate_left
          · simp only [Act.put, List.setIfInBounds_toArray, List.set_cons_zero, List.set_cons_succ, i64_w, i32_w]
            rfl
          refine one_ (i := 3) (N := some 17) #[true, true, true, true, false, true, true, true, false, false, true, true, true, true, false, false, false, false, false] rfl rfl (one_of HT_.out (by kernel_rfl)) (by decide) (fun K hK => ?_)
          refine goes_ Try.func61 (by kernel_rfl) rfl #[.agg #[.int .i64 a0_0, .slice A0_1 l0_1.length c0_1], .int .i64 x6_1] (by rfl) rfl rfl (by (try simp only [List.map_toArray, List.map_cons, List.map_nil]); first | done | rfl | (simp only [List.length_drop, List.length_take]; rfl)) ?_
          with_reducible refine (spec_l01Of.calls k1 a0_0 _ _ l0_1 x6_1 t119 _ ?side1 ?side2 A8.out).mono ?_
          (case side1 => repeat (first | exact (Kd.C_below HR0_1.out HB.out) | (with_reducible refine Kd.C_alloc ?_ _) | (with_reducible refine Kd.C_drewN ?_ _) | (with_reducible refine Kd.C_drew ?_)))
          (case side2 => exact HC0_1.out)
          rintro e w15 ⟨v120, rfl, ho0, hb⟩
          refine ⟨_, rfl, ?_⟩
          have n0_ := Aside0.mk (Kd.R_elder' (by (with_reducible repeat (first | apply Kd.R_alloc | apply Kd.R_drewN | apply Kd.R_drew)); exact HO_5.out) (Kd.R_base ho0) hb)
          have n1_ := Aside0.mk (Kd.R_lower (Kd.R_new' ho0 (Kd.R_lt (by (with_reducible repeat (first | apply Kd.R_alloc | apply Kd.R_drewN | apply Kd.R_drew)); exact HO_5.out))) (below_size (by repeat (first | (with_reducible first | exact HB.out | apply below_alloc | apply pw_below_drewN | apply below_drew1 | refine below_set ?_ GE114.out) | exact HB.out))))
          have n2_ := Aside0.mk (blk_below (g := gb114) (o := .cells #[.int .i64 a0_0, .slice A0_1 l0_1.length c0_1] 28 (0, 0)) (by (with_reducible repeat (first | refine blk_drewN ?_ _ | refine blk_drew ?_ | refine blk_alloc ?_ _)); exact BK114.out) hb)
          have n3_ := Aside0.mk (below_step (by repeat (first | (with_reducible first | exact HB.out | apply below_alloc | apply pw_below_drewN | apply below_drew1 | refine below_set ?_ GE114.out) | exact HB.out)) hb)
          clear HO_5
          clear BK114
          clear HB
          have HO_5 := n0_
          have HO121 := n1_
          have BK114 := n2_
          have HB := n3_
          clear n0_ n1_ n2_ n3_
          (try clear hb)
          (try clear hb2)
          (try clear hk)
          (try clear hi)
          (try clear ho0)
          obtain ⟨Ao16, co16, eo16⟩ := Kd.R_slice HO121.out
          (first | subst eo16 | (injection eo16 with f1_ f2_ f3_; have f4_ := f1_.symm; have f5_ := f3_.symm; clear f1_ f2_ f3_; subst f4_; subst f5_))
          refine hK.out _ _ ⟨(blk_cell BK114.out 0).trans rfl, (blk_cell BK114.out 1).trans rfl⟩ (fun hHeld => ?_)
          clear hK K
          refine norm_ (a' := ?_) ?_ ?_
          rotate_left
          · show Act.put _ (some 17) _ = _
            simp only [Act.put, List.setIfInBounds_toArray, List.set_cons_zero, List.set_cons_succ, i64_w, i32_w]
            rfl
          refine pure_ (i := 4) (N := some 18) (v := ?_) (a' := ?_) #[true, true, true, true, true, true, true, true, false, false, true, true, true, true, false, false, false, false, false] rfl rfl (any_of HT_.out (by kernel_rfl)) (fun _ _ _ h => h) (Or.inl ⟨by rfl, ?_⟩) ?_ ?_
          rotate_left
          · intro w'
            go_simp
            with_reducible rfl
          rotate_left
          · simp only [Act.put, List.setIfInBounds_toArray, List.set_cons_zero, List.set_cons_succ, i64_w, i32_w]
            rfl
          refine one_ (i := 8) (N := some 22) #[true, true, true, true, true, true, true, true, true, false, true, true, true, true, false, false, false, false, false] rfl rfl (one_of HT_.out (by kernel_rfl)) (by decide) (fun K hK => ?_)
          refine goes_ Try.func70 (by kernel_rfl) rfl #[.agg #[.int .i64 a0_0, .slice A0_1 l0_1.length c0_1], .int .i64 x6_1, .int .i64 a1] (by rfl) rfl rfl (by (try simp only [List.map_toArray, List.map_cons, List.map_nil]); first | done | rfl | (simp only [List.length_drop, List.length_take]; rfl)) ?_
          with_reducible refine (spec_l03RankOf.calls a0_0 _ _ l0_1 x6_1 a1 t122 _ ?side1 ?side2 A9.out).mono ?_
          (case side1 => repeat (first | exact (Kd.C_below HR0_1.out HB.out) | (with_reducible refine Kd.C_alloc ?_ _) | (with_reducible refine Kd.C_drewN ?_ _) | (with_reducible refine Kd.C_drew ?_)))
          (case side2 => exact HC0_1.out)
          rintro e w17 ⟨rfl, hb⟩
          refine ⟨_, rfl, ?_⟩
          have n0_ := Aside0.mk (Kd.R_below (by (with_reducible repeat (first | apply Kd.R_alloc | apply Kd.R_drewN | apply Kd.R_drew)); exact HO_5.out) hb)
          have n1_ := Aside0.mk (Kd.R_below (by (with_reducible repeat (first | apply Kd.R_alloc | apply Kd.R_drewN | apply Kd.R_drew)); exact HO121.out) hb)
          have n2_ := Aside0.mk (blk_below (g := gb114) (o := .cells #[.int .i64 a0_0, .slice A0_1 l0_1.length c0_1] 28 (0, 0)) (by (with_reducible repeat (first | refine blk_drewN ?_ _ | refine blk_drew ?_ | refine blk_alloc ?_ _)); exact BK114.out) hb)
          have n3_ := Aside0.mk (below_step (by repeat (first | (with_reducible first | exact HB.out | apply below_alloc | apply pw_below_drewN | apply below_drew1 | refine below_set ?_ GE114.out) | exact HB.out)) hb)
          clear HO_5
          clear HO121
          clear BK114
          clear HB
          have HO_5 := n0_
          have HO121 := n1_
          have BK114 := n2_
          have HB := n3_
          clear n0_ n1_ n2_ n3_
          (try clear hb)
          (try clear hb2)
          (try clear hk)
          (try clear hi)
          refine hK.out _ _ ⟨(blk_cell BK114.out 0).trans rfl, (blk_cell BK114.out 1).trans rfl⟩ (fun hHeld => ?_)
          clear hK K
          refine norm_ (a' := ?_) ?_ ?_
          rotate_left
          · show Act.put _ (some 22) _ = _
            simp only [Act.put, List.setIfInBounds_toArray, List.set_cons_zero, List.set_cons_succ, i64_w, i32_w]
            rfl
          refine pure_ (i := 9) (N := some 23) (v := ?_) (a' := ?_) #[true, true, true, true, true, true, true, true, true, true, true, true, true, true, false, false, false, false, false] rfl rfl (any_of HT_.out (by kernel_rfl)) (fun _ _ _ h => h) (Or.inl ⟨by rfl, ?_⟩) ?_ ?_
          rotate_left
          · intro w'
            go_simp
            with_reducible rfl
          rotate_left
          · simp only [Act.put, List.setIfInBounds_toArray, List.set_cons_zero, List.set_cons_succ, i64_w, i32_w]
            rfl
          refine one_ (i := 14) (N := some 28) #[true, true, true, true, true, true, true, true, true, true, true, true, true, true, true, false, false, false, false] rfl rfl (one_of HT_.out (by kernel_rfl)) (by decide) (fun K hK => ?_)
          refine goes_ Try.func70 (by kernel_rfl) rfl #[.agg #[.int .i64 a0_0, .slice A0_1 l0_1.length c0_1], .int .i64 (wrap64 (x6_1 + 1)), .int .i64 a1] (by rfl) rfl rfl (by (try simp only [List.map_toArray, List.map_cons, List.map_nil]); first | done | rfl | (simp only [List.length_drop, List.length_take]; rfl)) ?_
          with_reducible refine (spec_l03RankOf.calls a0_0 _ _ l0_1 (wrap64 (x6_1 + 1)) a1 t123 _ ?side1 ?side2 A10.out).mono ?_
          (case side1 => repeat (first | exact (Kd.C_below HR0_1.out HB.out) | (with_reducible refine Kd.C_alloc ?_ _) | (with_reducible refine Kd.C_drewN ?_ _) | (with_reducible refine Kd.C_drew ?_)))
          (case side2 => exact HC0_1.out)
          rintro e w18 ⟨rfl, hb⟩
          refine ⟨_, rfl, ?_⟩
          have n0_ := Aside0.mk (Kd.R_below (by (with_reducible repeat (first | apply Kd.R_alloc | apply Kd.R_drewN | apply Kd.R_drew)); exact HO_5.out) hb)
          have n1_ := Aside0.mk (Kd.R_below (by (with_reducible repeat (first | apply Kd.R_alloc | apply Kd.R_drewN | apply Kd.R_drew)); exact HO121.out) hb)
          have n2_ := Aside0.mk (blk_below (g := gb114) (o := .cells #[.int .i64 a0_0, .slice A0_1 l0_1.length c0_1] 28 (0, 0)) (by (with_reducible repeat (first | refine blk_drewN ?_ _ | refine blk_drew ?_ | refine blk_alloc ?_ _)); exact BK114.out) hb)
          have n3_ := Aside0.mk (below_step (by repeat (first | (with_reducible first | exact HB.out | apply below_alloc | apply pw_below_drewN | apply below_drew1 | refine below_set ?_ GE114.out) | exact HB.out)) hb)
          clear HO_5
          clear HO121
          clear BK114
          clear HB
          have HO_5 := n0_
          have HO121 := n1_
          have BK114 := n2_
          have HB := n3_
          clear n0_ n1_ n2_ n3_
          (try clear hb)
          (try clear hb2)
          (try clear hk)
          (try clear hi)
          refine hK.out _ _ ⟨(blk_cell BK114.out 0).trans rfl, (blk_cell BK114.out 1).trans rfl⟩ (fun hHeld => ?_)
          clear hK K
          refine norm_ (a' := ?_) ?_ ?_
          rotate_left
          · show Act.put _ (some 28) _ = _
            simp only [Act.put, List.setIfInBounds_toArray, List.set_cons_zero, List.set_cons_succ, i64_w, i32_w]
            rfl
          refine pure_ (i := 15) (N := some 29) (v := ?_) (a' := ?_) #[true, true, true, true, true, true, true, true, true, true, true, true, true, true, true, true, false, false, false] rfl rfl (any_of HT_.out (by kernel_rfl)) (fun _ _ _ h => h) (Or.inl ⟨by rfl, ?_⟩) ?_ ?_
          rotate_left
          · intro w'
            go_simp
            with_reducible rfl
          rotate_left
          · simp only [Act.put, List.setIfInBounds_toArray, List.set_cons_zero, List.set_cons_succ, i64_w, i32_w]
            rfl
          refine one_ (i := 16) (N := some 30) #[true, true, true, true, true, true, true, true, true, true, true, true, true, true, true, true, true, false, false] rfl rfl (one_of HT_.out (by kernel_rfl)) (by decide) (fun K hK => ?_)
          refine value_ (w1 := ?_) (v := ?_) (by rfl) rfl ?_ ?_
          rotate_left 2
          · go_simp
            constructor
            · rfl
            · rfl
          refine hK.out _ _ ⟨(blk_cell (blk_alloc BK114.out _) 0).trans rfl, (blk_cell (blk_alloc BK114.out _) 1).trans rfl⟩ (fun hHeld => ?_)
          clear hK K
          refine norm_ (a' := ?_) ?_ ?_
          rotate_left
          · show Act.put _ (some 30) _ = _
            simp only [Act.put, List.setIfInBounds_toArray, List.set_cons_zero, List.set_cons_succ, i64_w, i32_w]
            rfl
          refine one_ (i := 17) (N := some 31) #[true, true, true, true, true, true, true, true, true, true, true, true, true, true, true, true, true, true, false] rfl rfl (one_of HT_.out (by kernel_rfl)) (by decide) (fun K hK => ?_)
          refine Kd.R_append_step (Kd.int .i64) (w0 := w) w.heap.size (by rfl) (.tmp 14) (.tmp 30) 22 2 (.int .i64 0) 8 rfl Try.underlying22 info2 rfl (by decide) (by omega) u5 x5_1 (wrap64 ((wrap64 ((t119.length : Int) - t122)) - t123)) [.int .i64 (wrap64 ((wrap64 ((t119.length : Int) - t122)) - t123))] (fun k_ => some k_ ≠ (.slice Ao16 t119.length co16 : Value).ownBlock) (fun _ => False) rfl rfl ?aP (fun _ hk => hk.elim) ?aF ?aO ?aB ?aS ?aL ?_
          (case aP => exact rfl)
          (case aB => exact (by repeat (first | (with_reducible first | exact HB.out | apply below_alloc | apply pw_below_drewN | apply below_drew1 | refine below_set ?_ GE114.out) | exact HB.out)))
          (case aF => exact (fun k_ hk => Kd.fresh' (Kd.R_lt (by (with_reducible repeat (first | apply Kd.R_alloc | apply Kd.R_drewN | apply Kd.R_drew)); exact HO121.out)) k_ hk))
          (case aO => exact (by (with_reducible repeat (first | apply Kd.R_alloc | apply Kd.R_drewN | apply Kd.R_drew)); exact Kd.R_mono HO_5.out (fun _ hk => hk.2)))
          (case aS => exact (below_size (by repeat (first | (with_reducible first | exact HB.out | apply below_alloc | apply pw_below_drewN | apply below_drew1 | refine below_set ?_ GE114.out) | exact HB.out))))
          (case aL => have := LMc11.out; omega)
          intro v125 w19 ho hb hg hat
          rw [← Ny124.out] at ho
          have n0_ := Aside0.mk (blk_grown (g := gb114) (o := .cells #[.int .i64 a0_0, .slice A0_1 l0_1.length c0_1] 28 (0, 0)) (by (with_reducible repeat (first | refine blk_drewN ?_ _ | refine blk_drew ?_ | refine blk_alloc ?_ _)); exact BK114.out) hg (Kd.R_ne HO_5.out BK114.out (by decide)))
          have n1_ := Aside0.mk (Kd.R_after (ok := (fun _ => True)) (by (with_reducible repeat (first | apply Kd.R_alloc | apply Kd.R_drewN | apply Kd.R_drew)); exact HO121.out) hg hat)
          have n2_ := Aside0.mk (hb)
          have n3_ := Aside0.mk (ho)
          clear BK114
          clear HO121
          clear HB
          clear HO_5
          have BK114 := n0_
          have HO121 := n1_
          have HB := n2_
          have HO126 := n3_
          clear n0_ n1_ n2_ n3_
          clear ho hb hg hat
          refine hK.out _ _ ⟨(blk_cell BK114.out 0).trans rfl, (blk_cell BK114.out 1).trans rfl⟩ (fun hHeld => ?_)
          clear hK K
          refine norm_ (a' := ?_) ?_ ?_
          rotate_left
          · show Act.put _ (some 31) _ = _
            simp only [Act.put, List.setIfInBounds_toArray, List.set_cons_zero, List.set_cons_succ, i64_w, i32_w]
            rfl
          refine pure_ (i := 18) (N := some 5) (v := ?_) (a' := ?_) #[true, true, true, true, true, true, true, true, true, true, true, true, true, true, true, true, true, true, true] rfl rfl (any_of HT_.out (by kernel_rfl)) (fun _ _ _ h => h) (Or.inl ⟨by rfl, ?_⟩) ?_ ?_
          rotate_left
          · intro w'
            go_simp
            with_reducible rfl
          rotate_left
          · simp only [Act.put, List.setIfInBounds_toArray, List.set_cons_zero, List.set_cons_succ, i64_w, i32_w]
            rfl
          refine done_ (done_of HT_.out (by kernel_rfl)) ?_
          try go_wp2
          go_roundg k1
          case measure => have := HK1.out; omega
          case rel => exact ⟨(y124), (wrap64 (x6_1 + 1)), (by first | rfl | (simp; done) | (simp [*]; done)), H', ⟨by have := HK1.out; omega⟩, ⟨by (with_reducible repeat (first | apply Kd.R_alloc | apply Kd.R_drewN | apply Kd.R_drew)); exact Kd.R_mono HO126.out (fun _ hk => trivial)⟩, ⟨by (with_reducible repeat (first | refine blk_drewN ?_ _ | refine blk_drew ?_ | refine blk_alloc ?_ _)); exact BK114.out⟩, ⟨by repeat (first | (with_reducible first | exact HB.out | apply below_alloc | apply pw_below_drewN | apply below_drew1 | refine below_set ?_ GE114.out) | exact HB.out)⟩⟩
        · rw [if_neg c11] at H
          exact absurd H (by simp)
      · rw [if_neg c7] at H
        have c7b0 : decide (x6_1 ≤ t118) = false := decide_eq_false c7
        clear c7
        obtain rfl := Option.some.inj H
        have hcz20_0 : wr.cell? ⟨gb114, 0, none⟩ = some (.int .i64 a0_0) := (blk_cell BK114.out 0).trans rfl
        have hcz20_1 : wr.cell? ⟨gb114, 1, none⟩ = some (.slice A0_1 l0_1.length c0_1) := (blk_cell BK114.out 1).trans rfl
        have hfz20_0 := blk_frozen BK114.out 0
        have hfz20_1 := blk_frozen BK114.out 1
        go_wp2_with (first | ((with_reducible refine gate_callee (f := 60) rfl ?_); refine goesL_ (some 10) rfl rfl Try.func60 (by kernel_rfl) rfl #[.agg #[.int .i64 a0_0, .slice A0_1 l0_1.length c0_1]] rfl (by (try simp only [List.map_toArray, List.map_cons, List.map_nil]); first | done | rfl | (simp only [List.length_drop, List.length_take]; rfl)) ?_; (with_reducible refine (spec_l01Dim.calls k1 a0_0 _ _ l0_1 t118 _ ?side1 ?side2 A6.out).mono ?_); (case side1 => repeat (first | exact (Kd.C_below HR0_1.out HB.out) | (with_reducible refine Kd.C_alloc ?_ _) | (with_reducible refine Kd.C_drewN ?_ _) | (with_reducible refine Kd.C_drew ?_))); (case side2 => exact HC0_1.out); rintro e w21 ⟨rfl, hb⟩; refine ⟨_, rfl, ?_⟩; have n0_ := Aside0.mk (Kd.R_below (by (with_reducible repeat (first | apply Kd.R_alloc | apply Kd.R_drewN | apply Kd.R_drew)); exact HO_5.out) hb); have n1_ := Aside0.mk (blk_below (g := gb114) (o := .cells #[.int .i64 a0_0, .slice A0_1 l0_1.length c0_1] 28 (0, 0)) (by (with_reducible repeat (first | refine blk_drewN ?_ _ | refine blk_drew ?_ | refine blk_alloc ?_ _)); exact BK114.out) hb); have n2_ := Aside0.mk (below_step (by repeat (first | (with_reducible first | exact HB.out | apply below_alloc | apply pw_below_drewN | apply below_drew1 | refine below_set ?_ GE114.out) | exact HB.out)) hb); clear HO_5; clear BK114; clear HB; have HO_5 := n0_; have BK114 := n1_; have HB := n2_; clear n0_ n1_ n2_; (try clear hb); (try clear hb2); (try clear hk); (try clear hi)))
        go_ret
        exact ⟨_, by first | rfl | (simp [errW_none, errW_some] <;> rfl) | (simp [*, errW_none, errW_some] <;> rfl), by (with_reducible repeat (first | apply Kd.R_alloc | apply Kd.R_drewN | apply Kd.R_drew)); exact HO_5.out, by repeat (first | (with_reducible first | exact HB.out | apply below_alloc | apply pw_below_drewN | apply below_drew1 | refine below_set ?_ GE114.out) | exact HB.out)⟩

end Go.Proofs.Ythganpmmhfoodaa.D
end

section
/- Written by a program of this session (myprint.py over the kit's print). -/
namespace Go.Proofs.Ythganpmmhfoodaa.D
open Go.RowKit Go.Proofs.Ythganpmmhfoodaa.Q Go.Proofs.Ythganpmmhfoodaa.X Go.Proofs.YthganpmmhfoodaaW.PrintWords Go.Proofs.YthganpmmhfoodaaW.PrintLast Go.Proofs.YthganpmmhfoodaaW.PrintMore
attribute [local go_sem] max2_int min2_int max_two min_two max_three min_three max_four min_four   -- for this text's walks alone
set_option linter.unusedVariables false
set_option linter.unusedSimpArgs false

/-! ### spec_IsAcyclicComplex: function 38 -/
mutual
def spec_IsAcyclicComplex.j0 : Nat → List Int → Bool → Option (Bool × Int)
  | 0, _, _ => none
  | k + 1, x7, x8 => spec_IsAcyclicComplex.l0 k x7 x8 1
def spec_IsAcyclicComplex.l0 : Nat → List Int → Bool → Int → Option (Bool × Int)
  | 0, _, _, _ => none
  | k + 1, x7, x8, x9 => if x9 < (x7.length : Int) then (if x8 = true then (if 0 ≤ x9 then (spec_IsAcyclicComplex.l0 k x7 ((rd x7 x9) == 0) (wrap64 (x9 + 1))) else (none)) else (spec_IsAcyclicComplex.l0 k x7 false (wrap64 (x9 + 1)))) else (some (x8, 0))
end
def spec_IsAcyclicComplex.f (k : Nat) (a0_0 : Int) (l0_1 : List Int) (a1 : Int) : Option (Bool × Int) := (spec_l03Code.f k a0_0 l0_1 a1).bind fun t133 => (if t133 = 0 then ((spec_l03Betti.f k a0_0 l0_1 a1).bind fun t134 => (if (t134.length : Int) > 0 then (if 0 < (t134.length : Int) then (spec_IsAcyclicComplex.j0 k t134 ((rd t134 0) == 1)) else (none)) else (spec_IsAcyclicComplex.j0 k t134 false))) else (some (false, t133)))
theorem spec_IsAcyclicComplex.mono_l : ∀ k, (∀ y0 y1, LeO (spec_IsAcyclicComplex.j0 k y0 y1) (spec_IsAcyclicComplex.j0 (k + 1) y0 y1)) ∧ (∀ y0 y1 y2, LeO (spec_IsAcyclicComplex.l0 k y0 y1 y2) (spec_IsAcyclicComplex.l0 (k + 1) y0 y1 y2))
  | 0 => ⟨fun _ _ r h => by simp [spec_IsAcyclicComplex.j0] at h, fun _ _ _ r h => by simp [spec_IsAcyclicComplex.l0] at h⟩
  | k + 1 => by
    obtain ⟨ih0, ih1⟩ := spec_IsAcyclicComplex.mono_l k
    refine ⟨?_, ?_⟩
    · intro y0 y1
      unfold spec_IsAcyclicComplex.j0
      repeat' first
      | (with_reducible exact ih0 _ _)
      | (with_reducible exact ih1 _ _ _)
      | (with_reducible exact spec_l03Betti.mono _ _ _ _)
      | (with_reducible exact spec_l03Code.mono _ _ _ _)
      | (with_reducible exact LeO.refl _)
      | (with_reducible exact LeO.none _)
      | (with_reducible refine LeO.ite ?_ ?_)
      | (with_reducible refine LeO.bind ?_ (fun _ => ?_))
      | exact ih0 _ _
      | exact ih1 _ _ _
      | exact spec_l03Betti.mono _ _ _ _
      | exact spec_l03Code.mono _ _ _ _
      | exact LeO.none _
      | refine LeO.ite ?_ ?_
      | refine LeO.bind ?_ (fun _ => ?_)
    · intro y0 y1 y2
      unfold spec_IsAcyclicComplex.l0
      repeat' first
      | (with_reducible exact ih0 _ _)
      | (with_reducible exact ih1 _ _ _)
      | (with_reducible exact spec_l03Betti.mono _ _ _ _)
      | (with_reducible exact spec_l03Code.mono _ _ _ _)
      | (with_reducible exact LeO.refl _)
      | (with_reducible exact LeO.none _)
      | (with_reducible refine LeO.ite ?_ ?_)
      | (with_reducible refine LeO.bind ?_ (fun _ => ?_))
      | exact ih0 _ _
      | exact ih1 _ _ _
      | exact spec_l03Betti.mono _ _ _ _
      | exact spec_l03Code.mono _ _ _ _
      | exact LeO.none _
      | refine LeO.ite ?_ ?_
      | refine LeO.bind ?_ (fun _ => ?_)
theorem spec_IsAcyclicComplex.mono : ∀ a0 a1 a2 k, LeO (spec_IsAcyclicComplex.f k a0 a1 a2) (spec_IsAcyclicComplex.f (k + 1) a0 a1 a2) := by
  intro a0 a1 a2 k
  obtain ⟨ih0, ih1⟩ := spec_IsAcyclicComplex.mono_l k
  unfold spec_IsAcyclicComplex.f
  repeat' first
      | (with_reducible exact ih0 _ _)
      | (with_reducible exact ih1 _ _ _)
      | (with_reducible exact spec_l03Betti.mono _ _ _ _)
      | (with_reducible exact spec_l03Code.mono _ _ _ _)
      | (with_reducible exact LeO.refl _)
      | (with_reducible exact LeO.none _)
      | (with_reducible refine LeO.ite ?_ ?_)
      | (with_reducible refine LeO.bind ?_ (fun _ => ?_))
      | exact ih0 _ _
      | exact ih1 _ _ _
      | exact spec_l03Betti.mono _ _ _ _
      | exact spec_l03Code.mono _ _ _ _
      | exact LeO.none _
      | refine LeO.ite ?_ ?_
      | refine LeO.bind ?_ (fun _ => ?_)
set_option maxHeartbeats 8000000 in
set_option maxRecDepth 100000 in
theorem spec_IsAcyclicComplex.calls (k : Nat) (a0_0 : Int) (A0_1 : Option Addr) (c0_1 : Nat) (l0_1 : List Int) (a1 : Int) (r1 : Bool) (r2 : Int) (w : World) (hr0_1 : Kd.C (Kd.int .i64) w A0_1 l0_1.length l0_1) (hc0_1 : l0_1.length ≤ c0_1) (h : spec_IsAcyclicComplex.f k a0_0 l0_1 a1 = some (r1, r2)) :
    Calls Try.prog 38 #[.agg #[.int .i64 a0_0, .slice A0_1 l0_1.length c0_1], .int .i64 a1] w fun e w' => e = .returned (.tuple #[.bool r1, .int .i64 r2]) ∧ Below w.heap.size w w' := by
  have hu28 := Try.underlying28
  have HR0_1 := Aside0.mk hr0_1
  have HC0_1 := Aside0.mk hc0_1
  clear hr0_1 hc0_1
  have HB := Aside0.mk (Below.refl w.heap.size w)
  have H : ((spec_l03Code.f k a0_0 l0_1 a1).bind fun t133 => (if t133 = 0 then ((spec_l03Betti.f k a0_0 l0_1 a1).bind fun t134 => (if (t134.length : Int) > 0 then (if 0 < (t134.length : Int) then (spec_IsAcyclicComplex.j0 k t134 ((rd t134 0) == 1)) else (none)) else (spec_IsAcyclicComplex.j0 k t134 false))) else (some (false, t133)))) = some (r1, r2) := h
  clear h
  replace H := Option.bind_eq_some_iff.mp H
  obtain ⟨t133, A30, H⟩ := H
  replace H : (if t133 = 0 then ((spec_l03Betti.f k a0_0 l0_1 a1).bind fun t134 => (if (t134.length : Int) > 0 then (if 0 < (t134.length : Int) then (spec_IsAcyclicComplex.j0 k t134 ((rd t134 0) == 1)) else (none)) else (spec_IsAcyclicComplex.j0 k t134 false))) else (some (false, t133))) = some (r1, r2) := H
  have A3 := Aside0.mk A30
  clear A30
  by_cases c4 : t133 = 0
  · rw [if_pos c4] at H
    have c4b0 : (t133 == 0) = true := beq_iff_eq.mpr c4
    have c4b1 : (t133 != 0) = false := bne_eq_false_iff_eq.mpr c4
    clear c4
    replace H := Option.bind_eq_some_iff.mp H
    obtain ⟨t134, A50, H⟩ := H
    replace H : (if (t134.length : Int) > 0 then (if 0 < (t134.length : Int) then (spec_IsAcyclicComplex.j0 k t134 ((rd t134 0) == 1)) else (none)) else (spec_IsAcyclicComplex.j0 k t134 false)) = some (r1, r2) := H
    have A5 := Aside0.mk A50
    clear A50
    have HC6 := Aside0.mk H
    clear H
    go_enter Try.func38, Try.ntmps38
    go_upto_region 5 with (first | ((with_reducible refine gate_dst (N := 2) rfl ?_); refine box_event ?hg (N := 2) ?hd (cs := #[.int .i64 a0_0, .slice A0_1 l0_1.length c0_1]) (t := 28) ?hr ?_; (case hd => rfl); (case hg => rfl); (case hr => first | (go_simp; done) | (go_simp; rfl)); intro gb132 hg w7 hbox hb; have n0_ := Aside0.mk (below_step (by repeat (first | (with_reducible first | exact HB.out | apply below_alloc | apply pw_below_drewN | apply below_drew1) | exact HB.out)) hb); have n1_ := Aside0.mk (hbox); have n2_ := Aside0.mk ((by rw [hg]; exact (below_size (by repeat (first | (with_reducible first | exact HB.out | apply below_alloc | apply pw_below_drewN | apply below_drew1) | exact HB.out))) : w.heap.size ≤ gb132)); have n3_ := Aside0.mk ((by rw [hg]; exact (below_size (by repeat (first | (with_reducible first | exact HB.out | apply below_alloc | apply pw_below_drewN | apply below_drew1) | exact HB.out))) : w.heap.size ≤ gb132)); clear HB; have HB := n0_; have BK132 := n1_; have GW132 := n2_; have GE132 := n3_; clear n0_ n1_ n2_ n3_; clear hb hbox hg; have hcz8_0 : w7.cell? ⟨gb132, 0, none⟩ = some (.int .i64 a0_0) := (blk_cell BK132.out 0).trans rfl; have hcz8_1 : w7.cell? ⟨gb132, 1, none⟩ = some (.slice A0_1 l0_1.length c0_1) := (blk_cell BK132.out 1).trans rfl; have hfz8_0 := blk_frozen BK132.out 0; have hfz8_1 := blk_frozen BK132.out 1) | ((with_reducible refine gate_callee (f := 69) rfl ?_); refine goesL_ (some 12) rfl rfl Try.func69 (by kernel_rfl) rfl #[.agg #[.int .i64 a0_0, .slice A0_1 l0_1.length c0_1], .int .i64 a1] rfl (by (try simp only [List.map_toArray, List.map_cons, List.map_nil]); first | done | rfl | (simp only [List.length_drop, List.length_take]; rfl)) ?_; (with_reducible refine (spec_l03Code.calls k a0_0 _ _ l0_1 a1 t133 _ ?side1 ?side2 A3.out).mono ?_); (case side1 => repeat (first | exact (Kd.C_below HR0_1.out HB.out) | (with_reducible refine Kd.C_alloc ?_ _) | (with_reducible refine Kd.C_drewN ?_ _) | (with_reducible refine Kd.C_drew ?_))); (case side2 => exact HC0_1.out); rintro e w9 ⟨rfl, hb⟩; refine ⟨_, rfl, ?_⟩; have n0_ := Aside0.mk (blk_below (g := gb132) (o := .cells #[.int .i64 a0_0, .slice A0_1 l0_1.length c0_1] 28 (0, 0)) (by (with_reducible repeat (first | refine blk_drewN ?_ _ | refine blk_drew ?_ | refine blk_alloc ?_ _)); exact BK132.out) hb); have n1_ := Aside0.mk (below_step (by repeat (first | (with_reducible first | exact HB.out | apply below_alloc | apply pw_below_drewN | apply below_drew1 | refine below_set ?_ GE132.out) | exact HB.out)) hb); clear BK132; clear HB; have BK132 := n0_; have HB := n1_; clear n0_ n1_; (try clear hb); (try clear hb2); (try clear hk); (try clear hi); have hcz10_0 : w9.cell? ⟨gb132, 0, none⟩ = some (.int .i64 a0_0) := (blk_cell BK132.out 0).trans rfl; have hcz10_1 : w9.cell? ⟨gb132, 1, none⟩ = some (.slice A0_1 l0_1.length c0_1) := (blk_cell BK132.out 1).trans rfl; have hfz10_0 := blk_frozen BK132.out 0; have hfz10_1 := blk_frozen BK132.out 1) | ((with_reducible refine gate_callee (f := 76) rfl ?_); refine goesL_ (some 18) rfl rfl Try.func76 (by kernel_rfl) rfl #[.agg #[.int .i64 a0_0, .slice A0_1 l0_1.length c0_1], .int .i64 a1] rfl (by (try simp only [List.map_toArray, List.map_cons, List.map_nil]); first | done | rfl | (simp only [List.length_drop, List.length_take]; rfl)) ?_; (with_reducible refine (spec_l03Betti.calls k a0_0 _ _ l0_1 a1 t134 _ ?side1 ?side2 A5.out).mono ?_); (case side1 => repeat (first | exact (Kd.C_below HR0_1.out HB.out) | (with_reducible refine Kd.C_alloc ?_ _) | (with_reducible refine Kd.C_drewN ?_ _) | (with_reducible refine Kd.C_drew ?_))); (case side2 => exact HC0_1.out); rintro e w11 ⟨v135, rfl, ho0, hb⟩; refine ⟨_, rfl, ?_⟩; have n0_ := Aside0.mk (Kd.R_lower ho0 (below_size (by repeat (first | (with_reducible first | exact HB.out | apply below_alloc | apply pw_below_drewN | apply below_drew1 | refine below_set ?_ GE132.out) | exact HB.out)))); have n1_ := Aside0.mk (blk_below (g := gb132) (o := .cells #[.int .i64 a0_0, .slice A0_1 l0_1.length c0_1] 28 (0, 0)) (by (with_reducible repeat (first | refine blk_drewN ?_ _ | refine blk_drew ?_ | refine blk_alloc ?_ _)); exact BK132.out) hb); have n2_ := Aside0.mk (below_step (by repeat (first | (with_reducible first | exact HB.out | apply below_alloc | apply pw_below_drewN | apply below_drew1 | refine below_set ?_ GE132.out) | exact HB.out)) hb); clear BK132; clear HB; have HO136 := n0_; have BK132 := n1_; have HB := n2_; clear n0_ n1_ n2_; (try clear hb); (try clear hb2); (try clear hk); (try clear hi); (try clear ho0)))
    (try simp only [Act.put, List.setIfInBounds_toArray, List.set_cons_zero, List.set_cons_succ])
    go_cut [8] (fun v8 wc => ∃ (kq : Nat) (x8_5 : Bool), v8 = .bool x8_5 ∧ Aside0 (spec_IsAcyclicComplex.j0 kq t134 x8_5 = some (r1, r2)) ∧ Aside0 (kq ≤ k) ∧ Aside0 (Kd.R (Kd.int .i64) 2 wc w.heap.size (fun _ => True) v135 t134) ∧ Aside0 (wc.heap[gb132]? = some (.cells #[.int .i64 a0_0, (.slice A0_1 l0_1.length c0_1)] 28 (0, 0))) ∧ Aside0 (Below w.heap.size w wc))
    case first =>
      have H := HC6.out
      clear HC6
      by_cases c12 : (t134.length : Int) > 0
      · rw [if_pos c12] at H
        have c12b0 : decide (0 < (t134.length : Int)) = true := decide_eq_true c12
        have c12b1 : decide (0 < t134.length) = true := decide_eq_true (by omega)
        clear c12
        (first | rw [c12b0] | (simp only [i64_w, i32_w]; rw [c12b0]) | skip)
        by_cases c13 : 0 < (t134.length : Int)
        · rw [if_pos c13] at H
          have c13b0 : decide (0 < (t134.length : Int)) = true := decide_eq_true c13
          have c13b1 : decide (0 < t134.length) = true := decide_eq_true (by omega)
          clear c13
          have H' := Aside0.mk H
          clear H
          obtain ⟨Ao14, co14, eo14⟩ := Kd.R_slice HO136.out
          subst eo14
          have p137 : 0 ≤ (0 : Int) := (by omega)
          have q137 : 0 < (t134.length : Int) := of_decide_eq_true (by first | (with_reducible assumption) | assumption)
          obtain ⟨ad137, e137, hx137_0⟩ := Kd.at_int (Kd.R_reads' HO136.out).2.2 0 p137 q137
          cases e137
          have qi137 : (0 < t134.length) = True := eq_true (by omega)
          (try rw [show ((0 : Int)).toNat = 0 from rfl] at hx137_0)
          (try rw [Addr.add_zero'] at hx137_0)
          replace p137 := eq_true p137
          replace q137 := eq_true q137
          go_wp2
          go_meet
          case rel => exact ⟨_, (((rd t134 0) == 1)), (by first | rfl | (simp; done) | (simp [*]; done)), H', ⟨by first | omega | exact Nat.le_refl _⟩, ⟨by (with_reducible repeat (first | apply Kd.R_alloc | apply Kd.R_drewN | apply Kd.R_drew)); exact HO136.out⟩, ⟨by (with_reducible repeat (first | refine blk_drewN ?_ _ | refine blk_drew ?_ | refine blk_alloc ?_ _)); exact BK132.out⟩, ⟨by repeat (first | (with_reducible first | exact HB.out | apply below_alloc | apply pw_below_drewN | apply below_drew1 | refine below_set ?_ GE132.out) | exact HB.out)⟩⟩
        · rw [if_neg c13] at H
          exact absurd H (by simp)
      · rw [if_neg c12] at H
        have c12b0 : decide (0 < (t134.length : Int)) = false := decide_eq_false c12
        have c12b1 : decide (0 < t134.length) = false := decide_eq_false (by omega)
        clear c12
        (first | rw [c12b0] | (simp only [i64_w, i32_w]; rw [c12b0]) | skip)
        have H' := Aside0.mk H
        clear H
        obtain ⟨Ao15, co15, eo15⟩ := Kd.R_slice HO136.out
        subst eo15
        go_wp2
        go_meet
        case rel => exact ⟨_, (false), (by first | rfl | (simp; done) | (simp [*]; done)), H', ⟨by first | omega | exact Nat.le_refl _⟩, ⟨by (with_reducible repeat (first | apply Kd.R_alloc | apply Kd.R_drewN | apply Kd.R_drew)); exact HO136.out⟩, ⟨by (with_reducible repeat (first | refine blk_drewN ?_ _ | refine blk_drew ?_ | refine blk_alloc ?_ _)); exact BK132.out⟩, ⟨by repeat (first | (with_reducible first | exact HB.out | apply below_alloc | apply pw_below_drewN | apply below_drew1 | refine below_set ?_ GE132.out) | exact HB.out)⟩⟩
    case rest =>
      clear HC6
      try clear c1
      try clear p1
      try clear q1
      try clear hx1
      try clear qi1
      try clear p2
      try clear c3
      try clear c4
      try clear c4b0
      try clear c4b1
      try clear c6
      try clear c7
      try clear c12
      try clear c12b0
      try clear c12b1
      try clear c13
      try clear c13b0
      try clear c13b1
      try clear p13
      try clear q13
      try clear hx13
      try clear qi13
      try clear hcz10_0
      try clear hcz10_1
      try clear hcz8_0
      try clear hcz8_1
      try clear hfz10_0
      try clear hfz10_1
      try clear hfz8_0
      try clear hfz8_1
      try clear hx137_0
      try clear p137
      try clear q137
      obtain ⟨kq, x8_5, rfl, HA, HJ5, HO_7, BK132, HB⟩ := hcut
      cases kq with
      | zero => exact absurd HA.out (by simp [spec_IsAcyclicComplex.j0])
      | succ kj5 =>
        have H := HA.out
        clear HA
        simp only [spec_IsAcyclicComplex.j0] at H
        have H' := Aside0.mk H
        clear H
        go_wp2
        go_loopg [8, 9] kj5 (fun kq v8 v9 w' => ∃ (x8_2 : Bool) (x9_2 : Int), v8 = .bool x8_2 ∧ v9 = .int .i64 x9_2 ∧ Aside0 (spec_IsAcyclicComplex.l0 kq t134 x8_2 x9_2 = some (r1, r2)) ∧ Aside0 (kq ≤ kj5) ∧ Aside0 (Kd.R (Kd.int .i64) 2 w' w.heap.size (fun _ => True) v135 t134) ∧ Aside0 (w'.heap[gb132]? = some (.cells #[.int .i64 a0_0, (.slice A0_1 l0_1.length c0_1)] 28 (0, 0))) ∧ Aside0 (Below w.heap.size w w'))
        case atStart => exact ⟨(x8_5), (1), (by first | rfl | (simp; done) | (simp [*]; done)), (by first | rfl | (simp; done) | (simp [*]; done)), H', ⟨Nat.le_refl _⟩, ⟨by (with_reducible repeat (first | apply Kd.R_alloc | apply Kd.R_drewN | apply Kd.R_drew)); exact HO_7.out⟩, ⟨by (with_reducible repeat (first | refine blk_drewN ?_ _ | refine blk_drew ?_ | refine blk_alloc ?_ _)); exact BK132.out⟩, ⟨by repeat (first | (with_reducible first | exact HB.out | apply below_alloc | apply pw_below_drewN | apply below_drew1 | refine below_set ?_ GE132.out) | exact HB.out)⟩⟩
        case round =>
          clear H'
          try clear c1
          try clear p1
          try clear q1
          try clear hx1
          try clear qi1
          try clear p2
          try clear c3
          try clear c4
          try clear c4b0
          try clear c4b1
          try clear c6
          try clear c7
          try clear c12
          try clear c12b0
          try clear c12b1
          try clear c13
          try clear c13b0
          try clear c13b1
          try clear p13
          try clear q13
          try clear hx13
          try clear qi13
          try clear hcz10_0
          try clear hcz10_1
          try clear hcz8_0
          try clear hcz8_1
          try clear hfz10_0
          try clear hfz10_1
          try clear hfz8_0
          try clear hfz8_1
          try clear hx137_0
          try clear p1
          try clear p13
          try clear p137
          try clear p2
          try clear q1
          try clear q13
          try clear q137
          obtain ⟨x8_2, x9_2, rfl, rfl, HA, HK2, HO_7, BK132, HB⟩ := hrel
          cases gk with
          | zero => exact absurd HA.out (by simp [spec_IsAcyclicComplex.l0])
          | succ k2 =>
            have H := HA.out
            clear HA
            simp only [spec_IsAcyclicComplex.l0] at H
            by_cases c16 : x9_2 < (t134.length : Int)
            · rw [if_pos c16] at H
              have c16b0 : decide (x9_2 < (t134.length : Int)) = true := decide_eq_true c16
              clear c16
              by_cases c17 : x8_2 = true
              · subst c17
                have H1 : (if 0 ≤ x9_2 then (spec_IsAcyclicComplex.l0 k2 t134 ((rd t134 x9_2) == 0) (wrap64 (x9_2 + 1))) else (none)) = some (r1, r2) := by rw [if_pos rfl] at H; exact H
                clear H
                have H := H1
                clear H1
                by_cases c18 : 0 ≤ x9_2
                · rw [if_pos c18] at H
                  have c18b0 : decide (0 ≤ x9_2) = true := decide_eq_true c18
                  clear c18
                  have H' := Aside0.mk H
                  clear H
                  obtain ⟨Ao19, co19, eo19⟩ := Kd.R_slice HO_7.out
                  subst eo19
                  have p138 : 0 ≤ (x9_2 : Int) := of_decide_eq_true (by first | (with_reducible assumption) | assumption)
                  have q138 : x9_2 < (t134.length : Int) := of_decide_eq_true (by first | (with_reducible assumption) | assumption)
                  obtain ⟨ad138, e138, hx138_0⟩ := Kd.at_int (Kd.R_reads' HO_7.out).2.2 x9_2 p138 q138
                  cases e138
                  replace p138 := eq_true p138
                  replace q138 := eq_true q138
                  go_wp2
                  go_roundg k2
                  case measure => have := HJ5.out; have := HK2.out; omega
                  case rel => exact ⟨(((rd t134 x9_2) == 0)), (wrap64 (x9_2 + 1)), (by first | rfl | (simp; done) | (simp [*]; done)), (by first | rfl | (simp; done) | (simp [*]; done)), H', ⟨by have := HJ5.out; have := HK2.out; omega⟩, ⟨by (with_reducible repeat (first | apply Kd.R_alloc | apply Kd.R_drewN | apply Kd.R_drew)); exact HO_7.out⟩, ⟨by (with_reducible repeat (first | refine blk_drewN ?_ _ | refine blk_drew ?_ | refine blk_alloc ?_ _)); exact BK132.out⟩, ⟨by repeat (first | (with_reducible first | exact HB.out | apply below_alloc | apply pw_below_drewN | apply below_drew1 | refine below_set ?_ GE132.out) | exact HB.out)⟩⟩
                · rw [if_neg c18] at H
                  exact absurd H (by simp)
              · replace c17 := Bool.eq_false_iff.mpr c17
                subst c17
                have H1 : (spec_IsAcyclicComplex.l0 k2 t134 false (wrap64 (x9_2 + 1))) = some (r1, r2) := by rw [if_neg (show ¬ (false = true) by decide)] at H; exact H
                clear H
                have H := H1
                clear H1
                have H' := Aside0.mk H
                clear H
                obtain ⟨Ao20, co20, eo20⟩ := Kd.R_slice HO_7.out
                subst eo20
                go_wp2
                go_roundg k2
                case measure => have := HJ5.out; have := HK2.out; omega
                case rel => exact ⟨(false), (wrap64 (x9_2 + 1)), (by first | rfl | (simp; done) | (simp [*]; done)), (by first | rfl | (simp; done) | (simp [*]; done)), H', ⟨by have := HJ5.out; have := HK2.out; omega⟩, ⟨by (with_reducible repeat (first | apply Kd.R_alloc | apply Kd.R_drewN | apply Kd.R_drew)); exact HO_7.out⟩, ⟨by (with_reducible repeat (first | refine blk_drewN ?_ _ | refine blk_drew ?_ | refine blk_alloc ?_ _)); exact BK132.out⟩, ⟨by repeat (first | (with_reducible first | exact HB.out | apply below_alloc | apply pw_below_drewN | apply below_drew1 | refine below_set ?_ GE132.out) | exact HB.out)⟩⟩
            · rw [if_neg c16] at H
              have c16b0 : decide (x9_2 < (t134.length : Int)) = false := decide_eq_false c16
              clear c16
              simp only [Option.some.injEq, Prod.mk.injEq] at H
              obtain ⟨rfl, rfl⟩ := H
              obtain ⟨Ao21, co21, eo21⟩ := Kd.R_slice HO_7.out
              subst eo21
              go_wp2
              go_ret2
              exact ⟨by first | rfl | (simp [errW_none, errW_some] <;> rfl) | (simp [*, errW_none, errW_some] <;> rfl), by repeat (first | (with_reducible first | exact HB.out | apply below_alloc | apply pw_below_drewN | apply below_drew1 | refine below_set ?_ GE132.out) | exact HB.out)⟩
  · rw [if_neg c4] at H
    have c4b0 : (t133 == 0) = false := beq_eq_false_iff_ne.mpr c4
    have c4b1 : (t133 != 0) = true := bne_iff_ne.mpr c4
    simp only [Option.some.injEq, Prod.mk.injEq] at H
    obtain ⟨rfl, rfl⟩ := H
    go_enter Try.func38, Try.ntmps38
    go_wp2_with (first | ((with_reducible refine gate_dst (N := 2) rfl ?_); refine box_event ?hg (N := 2) ?hd (cs := #[.int .i64 a0_0, .slice A0_1 l0_1.length c0_1]) (t := 28) ?hr ?_; (case hd => rfl); (case hg => rfl); (case hr => first | (go_simp; done) | (go_simp; rfl)); intro gb132 hg w22 hbox hb; have n0_ := Aside0.mk (below_step (by repeat (first | (with_reducible first | exact HB.out | apply below_alloc | apply pw_below_drewN | apply below_drew1) | exact HB.out)) hb); have n1_ := Aside0.mk (hbox); have n2_ := Aside0.mk ((by rw [hg]; exact (below_size (by repeat (first | (with_reducible first | exact HB.out | apply below_alloc | apply pw_below_drewN | apply below_drew1) | exact HB.out))) : w.heap.size ≤ gb132)); have n3_ := Aside0.mk ((by rw [hg]; exact (below_size (by repeat (first | (with_reducible first | exact HB.out | apply below_alloc | apply pw_below_drewN | apply below_drew1) | exact HB.out))) : w.heap.size ≤ gb132)); clear HB; have HB := n0_; have BK132 := n1_; have GW132 := n2_; have GE132 := n3_; clear n0_ n1_ n2_ n3_; clear hb hbox hg; have hcz23_0 : w22.cell? ⟨gb132, 0, none⟩ = some (.int .i64 a0_0) := (blk_cell BK132.out 0).trans rfl; have hcz23_1 : w22.cell? ⟨gb132, 1, none⟩ = some (.slice A0_1 l0_1.length c0_1) := (blk_cell BK132.out 1).trans rfl; have hfz23_0 := blk_frozen BK132.out 0; have hfz23_1 := blk_frozen BK132.out 1) | ((with_reducible refine gate_callee (f := 69) rfl ?_); refine goesL_ (some 12) rfl rfl Try.func69 (by kernel_rfl) rfl #[.agg #[.int .i64 a0_0, .slice A0_1 l0_1.length c0_1], .int .i64 a1] rfl (by (try simp only [List.map_toArray, List.map_cons, List.map_nil]); first | done | rfl | (simp only [List.length_drop, List.length_take]; rfl)) ?_; (with_reducible refine (spec_l03Code.calls k a0_0 _ _ l0_1 a1 t133 _ ?side1 ?side2 A3.out).mono ?_); (case side1 => repeat (first | exact (Kd.C_below HR0_1.out HB.out) | (with_reducible refine Kd.C_alloc ?_ _) | (with_reducible refine Kd.C_drewN ?_ _) | (with_reducible refine Kd.C_drew ?_))); (case side2 => exact HC0_1.out); rintro e w24 ⟨rfl, hb⟩; refine ⟨_, rfl, ?_⟩; have n0_ := Aside0.mk (blk_below (g := gb132) (o := .cells #[.int .i64 a0_0, .slice A0_1 l0_1.length c0_1] 28 (0, 0)) (by (with_reducible repeat (first | refine blk_drewN ?_ _ | refine blk_drew ?_ | refine blk_alloc ?_ _)); exact BK132.out) hb); have n1_ := Aside0.mk (below_step (by repeat (first | (with_reducible first | exact HB.out | apply below_alloc | apply pw_below_drewN | apply below_drew1 | refine below_set ?_ GE132.out) | exact HB.out)) hb); clear BK132; clear HB; have BK132 := n0_; have HB := n1_; clear n0_ n1_; (try clear hb); (try clear hb2); (try clear hk); (try clear hi)))
    go_ret2
    exact ⟨by first | rfl | (simp [errW_none, errW_some] <;> rfl) | (simp [*, errW_none, errW_some] <;> rfl), by repeat (first | (with_reducible first | exact HB.out | apply below_alloc | apply pw_below_drewN | apply below_drew1 | refine below_set ?_ GE132.out) | exact HB.out)⟩

end Go.Proofs.Ythganpmmhfoodaa.D
end

section
/- The reference's ranks, Betti numbers and numbers of cycles come to what the program's come to. -/
namespace Go.Proofs.Ythganpmmhfoodaa.K
open Go.RowKit Go.Shelf Go.Proofs.Ythganpmmhfoodaa.Q Go.Proofs.Ythganpmmhfoodaa.D Go.Proofs.Ythganpmmhfoodaa Go.Proofs.YthganpmmhfoodaaW.PrintWords Go.Proofs.YthganpmmhfoodaaW.PrintLast Go.Proofs.YthganpmmhfoodaaW.PrintMore
set_option linter.unusedVariables false
set_option linter.unusedSimpArgs false

theorem X_srank_is {n : Int} {l : List Int} (hi : isC n l = true) (d p : Int) (hd : 0 ≤ d ∧ d ≤ 7) (hp : 2 ≤ p ∧ p ≤ 3) : X.spec_l03RankOf.f n l d p = some (rankL l d p) := by
  unfold X.spec_l03RankOf.f
  rw [if_pos ⟨hi, hd, hp⟩]
theorem specCode_is (n : Int) (l : List Int) (p : Int) (hl : l.length ≤ 2097152) (k : Nat) (hk : isK l ≤ k) : spec_l03Code.f k n l p = some (codeOf n l (decide (2 ≤ p ∧ p ≤ 3))) := by
  unfold spec_l03Code.f
  rw [specIs_is n l hl k hk]
  simp only [Option.bind_some]
  cases hi : isC n l with
  | false => simp [codeOf, hi]
  | true =>
    rw [if_pos rfl]
    by_cases h2 : p = 2
    · rw [if_pos h2]; simp [codeOf, hi, h2]
    · rw [if_neg h2]
      by_cases h3 : p = 3
      · rw [if_pos h3]; simp [codeOf, hi, h3]
      · rw [if_neg h3]
        have : ¬ (2 ≤ p ∧ p ≤ 3) := by omega
        simp [codeOf, hi, this]
theorem specBetti_loop {n : Int} {l : List Int} (hi : isC n l = true) (p : Int) (hp : 2 ≤ p ∧ p ≤ 3) : ∀ (e i k : Nat), (topI l + 1).toNat - i = e → i ≤ (topI l + 1).toNat → e + 81 < k →
    spec_l03Betti.l0 k p ((List.range i).map (bettiAt l p)) (i : Int) n l = some (bettiL l p) := by
  have ht := top_range l
  have h63 := (isC_faces hi).2.2.2
  have hr := isC_of hi
  intro e
  induction e with
  | zero =>
    intro i k he hil hk
    obtain ⟨k, rfl⟩ : ∃ m, k = m + 1 := ⟨k - 1, by omega⟩
    obtain rfl : i = (topI l + 1).toNat := by omega
    simp only [spec_l03Betti.l0]
    rw [specTop_is n l h63 hr k (by omega)]
    simp only [Option.bind_some]
    rw [if_neg (by omega)]
    rfl
  | succ e ih =>
    intro i k he hil hk
    obtain ⟨k, rfl⟩ : ∃ m, k = m + 1 := ⟨k - 1, by omega⟩
    have h1 := betti_rng hi (i : Int) p hp
    have h2 := betti_rng hi ((i : Int) + 1) p hp
    have h3 := of_length l (i : Int)
    simp only [spec_l03Betti.l0]
    rw [specTop_is n l h63 hr k (by omega)]
    simp only [Option.bind_some]
    rw [if_pos (by omega), specOf_is n i (by omega) l h63 hr k (by omega), X_srank_is hi _ p (by omega) hp, w64 ((i : Int) + 1) (by omega) (by omega), X_srank_is hi _ p (by omega) hp]
    simp only [Option.bind_some]
    have hE : (List.range i).map (bettiAt l p) ++ [((ofL l (i : Int)).length : Int) - rankL l (i : Int) p - rankL l ((i : Int) + 1) p] = (List.range (i + 1)).map (bettiAt l p) := by
      rw [List.range_succ, List.map_append, List.map_singleton]
      congr 2
      unfold bettiAt
      omega
    rw [w64 (((ofL l (i : Int)).length : Int) - rankL l (i : Int) p) (by omega) (by omega), w64 _ (by omega) (by omega), hE, if_pos (by simp; omega), nat_succ]
    exact ih (i + 1) k (by omega) (by omega) (by omega)
theorem specBetti_is {n : Int} {l : List Int} (hi : isC n l = true) (p : Int) (hp : 2 ≤ p ∧ p ≤ 3) (k : Nat) (hk : 100 ≤ k) : spec_l03Betti.f k n l p = some (bettiL l p) := by
  have ht := top_range l
  unfold spec_l03Betti.f
  exact specBetti_loop hi p hp (topI l + 1).toNat 0 k (by omega) (by omega) (by omega)
theorem code_mod {n : Int} {l : List Int} {p : Int} (h : codeOf n l (decide (2 ≤ p ∧ p ≤ 3)) = 0) : isC n l = true ∧ 2 ≤ p ∧ p ≤ 3 := by
  obtain ⟨h1, h2⟩ := codeOf_zero h
  exact ⟨h1, of_decide_eq_true h2⟩
/-- Whether all Betti numbers but the first are 0, and this is 1. -/
def acyB (x : List Int) : Bool := match x with | [] => false | y :: r => y == 1 && r.all (· == 0)
theorem specAcy_loop (x : List Int) (hx : x.length ≤ 63) : ∀ (e i k : Nat) (b : Bool), x.length - i = e → i ≤ x.length → e < k → spec_IsAcyclicComplex.l0 k x b (i : Int) = some (b && (x.drop i).all (· == 0), 0) := by
  intro e
  induction e with
  | zero =>
    intro i k b he hil hk
    obtain ⟨k, rfl⟩ : ∃ m, k = m + 1 := ⟨k - 1, by omega⟩
    obtain rfl : i = x.length := by omega
    simp only [spec_IsAcyclicComplex.l0]
    rw [if_neg (by omega)]
    simp
  | succ e ih =>
    intro i k b he hil hk
    obtain ⟨k, rfl⟩ : ∃ m, k = m + 1 := ⟨k - 1, by omega⟩
    have hlt : i < x.length := by omega
    simp only [spec_IsAcyclicComplex.l0]
    rw [if_pos (by omega), rd_nat x i hlt, w64 ((i : Int) + 1) (by omega) (by omega), nat_succ, List.drop_eq_getElem_cons hlt, List.all_cons]
    cases b with
    | true =>
      rw [if_pos rfl, if_pos (by omega), ih (i + 1) k _ (by omega) (by omega) (by omega)]
      simp
    | false =>
      rw [if_neg (by simp), ih (i + 1) k _ (by omega) (by omega) (by omega)]
      simp
theorem specIsAcyclicComplex_is (n : Int) (l : List Int) (p : Int) (hl : l.length ≤ 2097152) (k : Nat) (hk : isK l + 100 ≤ k) :
    spec_IsAcyclicComplex.f k n l p = some ((if codeOf n l (decide (2 ≤ p ∧ p ≤ 3)) = 0 then acyB (bettiL l p) else false), codeOf n l (decide (2 ≤ p ∧ p ≤ 3))) := by
  obtain ⟨k, rfl⟩ : ∃ m, k = m + 1 := ⟨k - 1, by omega⟩
  unfold spec_IsAcyclicComplex.f
  rw [specCode_is n l p hl (k + 1) (by omega)]
  simp only [Option.bind_some]
  by_cases h : codeOf n l (decide (2 ≤ p ∧ p ≤ 3)) = 0
  · obtain ⟨h1, h2⟩ := code_mod h
    have hb := betti_length l p
    rw [if_pos h, if_pos h, specBetti_is h1 p h2 (k + 1) (by omega), h]
    simp only [Option.bind_some]
    generalize bettiL l p = x at hb
    cases x with
    | nil =>
      rw [if_neg (by simp)]
      simp only [spec_IsAcyclicComplex.j0]
      obtain ⟨k, rfl⟩ : ∃ m, k = m + 1 := ⟨k - 1, by omega⟩
      simp [spec_IsAcyclicComplex.l0, acyB]
    | cons y r =>
      rw [if_pos (by simp), if_pos (by simp)]
      simp only [spec_IsAcyclicComplex.j0]
      have := specAcy_loop (y :: r) (by omega) ((y :: r).length - 1) 1 k (rd (y :: r) 0 == 1) rfl (by simp) (by simp at hb ⊢; omega)
      rw [show ((1 : Nat) : Int) = 1 from rfl] at this
      rw [this]
      simp [rd, acyB]
  · rw [if_neg h, if_neg h]
/-- Numbers of cycles and of those that bound. -/
theorem specCountCycles_is (n : Int) (l : List Int) (d : Int) (hl : l.length ≤ 2097152) (k : Nat) (hk : isK l + 100 ≤ k) :
    spec_CountCycles.f k n l d = some ((if codeOf n l (decide (0 ≤ d ∧ d ≤ 5)) = 0 then shl .i64 1 (((ofL l d).length : Int) - rankL l d 2) else 0), (if codeOf n l (decide (0 ≤ d ∧ d ≤ 5)) = 0 then shl .i64 1 (rankL l (d + 1) 2) else 0), codeOf n l (decide (0 ≤ d ∧ d ≤ 5))) := by
  unfold spec_CountCycles.f
  rw [specIs_is n l hl k (by omega)]
  simp only [Option.bind_some]
  cases hi : isC n l with
  | false => simp [codeOf, hi]
  | true =>
    have h63 := (isC_faces hi).2.2.2
    rw [if_pos rfl, specIn_is]
    simp only [Option.bind_some]
    by_cases hd : 0 ≤ d ∧ d ≤ 5
    · have h1 := rankL_range l d 2 (by omega)
      have h2 := betti_rng hi (d + 1) 2 (by omega)
      have h3 := of_length l d
      rw [specOf_is n d (by omega) l h63 (isC_of hi) k (by omega), X_srank_is hi d 2 (by omega) (by omega), w64 (d + 1) (by omega) (by omega), X_srank_is hi (d + 1) 2 (by omega) (by omega)]
      simp only [Option.bind_some]
      rw [w64 (((ofL l d).length : Int) - rankL l d 2) (by omega) (by omega), u64_id _ (by omega) (by omega), u64_id _ (by omega) (by omega)]
      rw [if_pos (decide_eq_true hd), if_pos (by omega), if_pos (by omega)]
      simp [codeOf, hi, hd]
    · simp [codeOf, hi, hd]

end Go.Proofs.Ythganpmmhfoodaa.K
end
