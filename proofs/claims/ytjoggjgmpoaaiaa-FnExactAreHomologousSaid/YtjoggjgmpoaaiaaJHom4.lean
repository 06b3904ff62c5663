/- The row of the law FnExactAreHomologous: for every input the law answers true, and the arguments read as before. No conditions. -/
import Derived.Test.YtjoggjgmpoaaiaaJHom3
import Derived.Below
import Derived.Deep.Draws
import Derived.Deep.AppendLies
import Derived.Maps.AppendAt
import Derived.OwnWalk
import Derived.Laws.BytesArg
import Derived.Laws.MakeOwn
import Derived.Laws.OwnMore
import Derived.Deep.OwnRows
import Derived.Tactics
import Derived.Lib.ConvBytes
import Derived.Laws.Slices
import Derived.WalkKit
import Derived.KernelRfl
import Derived.RowKit3
import Derived.Deep.LoopGhost
import Derived.Deep.QuietTactic
import Derived.BigQuiet
import Derived.WideLaws
import Derived.Deep.DeepCutAuto
import Derived.Deep.CutBlock
import Derived.Deep.RegionHeld3
import Derived.Laws.Rows
import Derived.Lib.AppendStr
import Derived.ArgAppend
import Derived.Laws.IdiomCopy
import Derived.RowKit
import Derived.OrdersHeld
import Derived.Laws.BitsLemmas
import Derived.Test.YtjoggjgmpoaaiaaProg
import Derived.Shelf.Abstract
import Derived.RangeFuncBox
import Derived.RangeFuncLeaves
import Derived.OwnWalkIn
import Derived.TacticsInMore
import Derived.LoopNIn
import Derived.LoopIn
import Derived.Laws.StructEq
import Derived.Test.YtjoggjgmpoaaiaaChecked
import Derived.Shelf.SlSortCmp.NoneTotal
import Derived.Lib.SortBridge
import Derived.Lib.Small
import Derived.JoinedOf
import Derived.Test.YtjoggjgmpoaaiaaRows
import Derived.ProofKit
import Derived.OpenShut
import Derived.ShutString
import Derived.ChangeOld
import Derived.SizedLaws
import Derived.Lib.SmallJoins
section
/- The reference's elimination: l03Rank. -/
namespace Go.Proofs.Ytjoggjgmpoaaiaa.K
open Go.RowKit Go.Shelf Go.Proofs.YtjoggjgmpoaaiaaW.PrintWords Go.Proofs.YtjoggjgmpoaaiaaW.PrintLast Go.Proofs.YtjoggjgmpoaaiaaW.PrintMore
set_option linter.unusedVariables false
set_option linter.unusedSimpArgs false

theorem prod_range (p a b : Int) (hp : 2 ≤ p ∧ p ≤ 3) (ha : 0 ≤ a ∧ a < p) (hb : 0 ≤ b ∧ b ≤ p) : 0 ≤ a * b ∧ a * b ≤ 9 := by
 have h1 : a ≤ 3 := by omega
 have h2 : b ≤ 3 := by omega
 refine ⟨Int.mul_nonneg ha.1 hb.1, ?_⟩
 calc a * b ≤ 3 * 3 := Int.mul_le_mul h1 h2 hb.1 (by omega)
  _ = 9 := rfl
theorem good_num {p : Int} {m : Nat} {M : List (List Int)} (h : Good p m M) (i : Nat) (hi : i < M.length) (j : Nat) (hj : j < m) : 0 ≤ (M.getD i []).getD j 0 ∧ (M.getD i []).getD j 0 < p := by
 have hg := h _ (getD_mem M i hi)
 rw [getD_get _ j 0 (by rw [hg.1]; exact hj)]
 exact hg.2 _ (List.getElem_mem _)

set_option maxRecDepth 100000 in
set_option maxHeartbeats 8000000 in
theorem sRank_calls (p : Int) (hp : 2 ≤ p ∧ p ≤ 3) (m : Nat) (hm : m ≤ 63) (M0 : List (List Int)) (hg : Good p m M0) (hlen : M0.length ≤ 63) (base : Nat) (v : Value) (vs0 : List OneV) (f0 : Nat → Nat) (w : World) (hbase : base ≤ w.heap.size) (hM : Mat w base v vs0 f0 M0) :
  Calls Try.prog 67 #[v, I p] w fun e w' => e = .returned (I (rankM p m M0)) ∧ Below base w w' := by
 rcases Nat.eq_zero_or_pos M0.length with h0 | hpos
 ·obtain ⟨A, c, hv, _⟩ := hM.slice
  rw [h0] at hv
  subst hv
  have HV : Aside0 (rankM p m M0 = 0) := ⟨by rw [List.length_eq_zero_iff.1 h0]; unfold rankM; rw [rankM_nil]; rfl⟩
  rw [HV.out]
  clear hM hg h0 hlen
  go_enter Try.func67, Try.ntmps67
  go_wp2_with fail
  go_loopg [5, 6] 0 (fun gg s5 s6 wr => s5 = .int .i64 0 ∧ s6 = .int .i64 0 ∧ Aside0 (Below base w wr))
  case atStart => exact ⟨rfl, rfl, ⟨Below.refl _ _⟩⟩
  case round =>
   obtain ⟨rfl, rfl, HGr⟩ := hrel
   go_wp2_with fail
   go_ret
   exact ⟨rfl, HGr.out⟩
 ·obtain ⟨G, cc, hv, hcc⟩ := hM.head hpos
  subst hv
  have HM0 := Aside0.mk hM
  have HGD := Aside0.mk hg
  have HP := Aside0.mk hp
  have hp0 : p ≠ 0 := by omega
  clear hM hg
  obtain ⟨n, hn⟩ : ∃ n, n = M0.length := ⟨_, rfl⟩
  rw [← hn] at HM0 hpos hlen hcc ⊢
  have HN := Aside0.mk hn
  clear hn
  go_enter Try.func67, Try.ntmps67
  go_wp2_with fail
  go_loopg [5, 6] m (fun gg s5 s6 wr => ∃ (c r : Nat) (M : List (List Int)), c ≤ m ∧ m - c ≤ gg ∧ s5 = .int .i64 r ∧ s6 = .int .i64 c ∧ Aside0 (rankTo p M0 c = (r, M)) ∧ (∃ vs f, Aside0 (Mat wr base (.slice (some ⟨G, 0, none⟩) n cc) vs f M)) ∧ Aside0 (Below base w wr))
  case atStart => exact ⟨0, 0, M0, Nat.zero_le _, by omega, rfl, rfl, ⟨rfl⟩, ⟨vs0, f0, HM0⟩, ⟨Below.refl _ _⟩⟩
  case round =>
   obtain ⟨c, r, M, hc, hgg, rfl, rfl, HS, ⟨vs, f, HM⟩, HGr⟩ := hrel
   obtain ⟨hr1, hr2, hr3, hr4, hr5⟩ := rank_good HP.out HGD.out c hc
   rw [HS.out] at hr1 hr2 hr3 hr4 hr5
   simp only at hr1 hr2 hr3 hr4 hr5
   rw [← HN.out] at hr1 hr3
   have HGM := Aside0.mk hr4
   have HCM := Aside0.mk hr5
   have HL := Aside0.mk hr3
   clear hr4 hr5 hr3
   by_cases hlt : c < m
   ·have hltz : (c : Int) < (m : Int) := by omega
    obtain ⟨g0, c0, _, _, _, _, hG, _, hx0, _, _⟩ := HM.out.at 0 m (by rw [HL.out]; omega) (HGM.out _ (getD_mem M 0 (by rw [HL.out]; omega))).1 (by omega)
    have hnz : (0 : Int) < (n : Int) := by omega
    go_wp2_with fail
    go_loopg [7, 8] n (fun gg s7 s8 wr1 => ∃ (b : Int) (i : Nat), s7 = .int .i64 b ∧ s8 = .int .i64 i ∧ i ≤ n ∧ n - i ≤ gg ∧ ((b = -1 ∧ r ≤ i ∧ Aside0 (∀ j, r ≤ j → j < i → (M.getD j []).getD c 0 = 0)) ∨ (∃ j : Nat, b = j ∧ i = j + 1 ∧ r ≤ j ∧ Aside0 ((M.getD j []).getD c 0 ≠ 0 ∧ ∀ q, r ≤ q → q < j → (M.getD q []).getD c 0 = 0))) ∧ Aside0 (Grew wr wr1))
    case atStart => exact ⟨-1, r, rfl, rfl, hr1, by omega, .inl ⟨rfl, Nat.le_refl _, ⟨fun j h1 h2 => by omega⟩⟩, ⟨Grew.refl _⟩⟩
    case round =>
     clear hx0 hG
     obtain ⟨b, i, rfl, rfl, hin, hgi, hb, HG1⟩ := hrel
     rcases hb with ⟨rfl, hri, HZ⟩ | ⟨j, rfl, rfl, hrj, HJ⟩
     ·by_cases hlti : i < n
      ·have hltz2 : (i : Int) < (n : Int) := by omega
       obtain ⟨gi, ci, _, _, _, _, _, _, hx1, _, hx2⟩ := (HM.out.below HG1.out).at i m (by rw [HL.out]; omega) (HGM.out _ (getD_mem M i (by rw [HL.out]; omega))).1 (by omega)
       obtain ⟨hx3, _⟩ := hx2 c hlt
       clear hx2
       have HX := Aside0.mk (show (M.getD i []).getD c 0 = (M.getD i []).getD c 0 from rfl)
       by_cases hx0 : (M.getD i []).getD c 0 = 0
       ·rw [hx0] at hx3
        have HZ2 : Aside0 (∀ j, r ≤ j → j < i + 1 → (M.getD j []).getD c 0 = 0) := ⟨fun j h1 h2 => by
         rcases Nat.lt_or_ge j i with h3 | h3
         ·exact HZ.out j h1 h3
         ·obtain rfl : j = i := by omega
          exact hx0⟩
        clear HX hx0
        go_wp2_with fail
        go_roundg (n - (i + 1))
        case measure => omega
        case rel => exact ⟨-1, i + 1, rfl, by go_num, by omega, by omega, .inl ⟨rfl, by omega, HZ2⟩, HG1⟩
       ·have HJ2 : Aside0 ((M.getD i []).getD c 0 ≠ 0 ∧ ∀ q, r ≤ q → q < i → (M.getD q []).getD c 0 = 0) := ⟨hx0, HZ.out⟩
        generalize (M.getD i []).getD c 0 = x at hx3 hx0
        clear HX
        go_wp2_with fail
        go_roundg (n - (i + 1))
        case measure => omega
        case rel => exact ⟨i, i + 1, rfl, by go_num, by omega, by omega, .inr ⟨i, rfl, rfl, hri, HJ2⟩, HG1⟩
      ·have hltz2 : ¬ (i : Int) < (n : Int) := by omega
       have HS2 : Aside0 (rankTo p M0 (c + 1) = (r, M)) := ⟨by
        have hpv : pivI M r c = -1 := pivI_miss fun q h1 h2 => HZ.out q h1 (by rw [HL.out] at h2; omega)
        rw [rankTo_succ, HS.out]
        unfold rstep
        simp only [hpv]
        rfl⟩
       go_wp2_with fail
       go_roundg (m - (c + 1))
       case measure => omega
       case rel => exact ⟨c + 1, r, M, by omega, by omega, rfl, by go_num, HS2, ⟨vs, f, ⟨HM.out.below HG1.out⟩⟩, ⟨Below.trans HGr.out (HG1.out.mono (Nat.le_trans hbase HGr.out.size))⟩⟩
     · -- the pivot is row j
      have hjn : j < n := by omega
      have hrn : r < n := by omega
      have HM1 := Aside0.mk (HM.out.below HG1.out)
      have HG2 : Aside0 (Below base w wr) := ⟨Below.trans HGr.out (HG1.out.mono (Nat.le_trans hbase HGr.out.size))⟩
      have hjl : j < M.length := by rw [HL.out]; omega
      have hrl : r < M.length := by rw [HL.out]; omega
      obtain ⟨gj, cj, ej, hcj, _, _, hbG, _, hxj, hfj, _⟩ := HM1.out.at j m hjl (HGM.out _ (getD_mem M j hjl)).1 (by omega)
      obtain ⟨gr, cr, er, hcr, _, _, _, _, hxr, hfr, _⟩ := HM1.out.at r m hrl (HGM.out _ (getD_mem M r hrl)).1 (by omega)
      obtain ⟨hmid, hfmid⟩ := HM1.out.mid j r hjl hrl
      rw [er] at hmid hfmid
      have hsw := HM1.out.swap j r hjl hrl
      rw [ej, er, swapM_is M j r hjl hrl, swapM_comm M j r hjl hrl] at hsw
      have HSW := Aside0.mk hsw
      clear hsw
      have hvl := HM1.out.len
      have HVR : Aside0 ((((vs.set j (vs[r]'(by omega))).set r (vs[j]'(by omega))).getD r nilV).1 = .slice (some ⟨gj, 0, none⟩) m cj) := ⟨by rw [getD_get _ r nilV (by simp; omega), List.getElem_set_self]; exact ej⟩
      have HS2 : Aside0 (rankTo p M0 (c + 1) = (r + 1, elimM p c r (swapM M r j) n)) := ⟨by
       have hpv : pivI M r c = ((j - r : Nat) : Int) := pivI_hit hrj (by omega) HJ.out.1 HJ.out.2
       rw [rankTo_succ, HS.out]
       unfold rstep
       simp only [hpv]
       rw [if_neg (by omega), Int.toNat_natCast, HL.out, show r + (j - r) = j by omega]⟩
      have HGS := Aside0.mk (swapM_good HGM.out r j hrl hjl)
      have HCS : Aside0 (∀ q, q < c → ((swapM M r j).getD r []).getD q 0 = 0) := ⟨fun q hq => by
       rw [swapM_get M r j r hrl hjl]
       split
       ·exact HCM.out r (Nat.le_refl _) hrl q hq
       ·rw [if_pos rfl]; exact HCM.out j hrj hjl q hq⟩
      have HLS : Aside0 ((swapM M r j).length = n) := ⟨by rw [swapM_length, HL.out]⟩
      generalize (vs.set j (vs[r]'(by omega))).set r (vs[j]'(by omega)) = vS at HSW HVR
      generalize (fun k => swapT j r (f k)) = fS at HSW
      generalize swapM M r j = S at HSW HS2 HGS HCS HLS
      clear HM1 HJ er ej
      have hjz : ¬ (j : Int) < 0 := by omega
      have hi1 : (0 : Int) ≤ (j : Int) := by omega
      have HB2 : Aside0 (Below base w ((wr.setCell ⟨G, j, none⟩ (.slice (some ⟨gr, 0, none⟩) m cr)).setCell ⟨G, r, none⟩ (.slice (some ⟨gj, 0, none⟩) m cj))) := ⟨Below.setCell (Below.setCell HG2.out hbG _) hbG _⟩
      by_cases hlast : ((j + 1 : Nat) : Int) < (n : Int)
      -- both ways alike
      ·go_wp2_with fail
       go_loopg [10] n (fun gg s10 wr3 => ∃ i2 : Nat, r < i2 ∧ i2 ≤ n ∧ n - i2 ≤ gg ∧ s10 = .int .i64 i2 ∧ Aside0 (Mat wr3 base (.slice (some ⟨G, 0, none⟩) n cc) vS fS (elimM p c r S i2)) ∧ Aside0 (Below base w wr3))
       case atStart => exact ⟨r + 1, by omega, by omega, by omega, by go_num, ⟨by rw [elimM_start]; exact HSW.out⟩, HB2⟩
       case round =>
        clear hxj hfj hxr hfr hltz hgi hmid hfmid
        obtain ⟨i2, hi2, hi2n, hg2, rfl, HM2, HB3⟩ := hrel
        have hrS : r < S.length := by rw [HLS.out]; omega
        by_cases hlt2 : i2 < n
        ·have hltz3 : (i2 : Int) < (n : Int) := by omega
         have hiS : i2 < S.length := by rw [HLS.out]; omega
         have HRW := Aside0.mk (elimM_get p c r i2 S r hrS)
         rw [if_neg (by omega)] at HRW
         have HIW := Aside0.mk (elimM_get p c r i2 S i2 hiS)
         rw [if_neg (by omega)] at HIW
         have hli := (HGS.out _ (getD_mem S i2 hiS)).1
         have hlr := (HGS.out _ (getD_mem S r hrS)).1
         obtain ⟨gi, ci, ei, hci, hfi, hbi, _, _, hxi, hfzi, hni⟩ := HM2.out.at i2 m (by rw [elimM_length]; exact hiS) (by rw [HIW.out]; exact hli) (by omega)
         obtain ⟨gq, cq, eq, hcq, hfq, _, _, _, _, _, hnr⟩ := HM2.out.at r m (by rw [elimM_length]; exact hrS) (by rw [HRW.out]; exact hlr) (by omega)
         have e1 := HVR.out
         rw [getD_get vS r nilV (by have := HM2.out.len; rw [elimM_length] at this; omega), eq] at e1
         injection e1 with e1 _ e2
         injection e1 with e1
         injection e1 with e1
         subst e1 e2
         rw [HIW.out] at hni
         rw [HRW.out] at hnr
         obtain ⟨hxa, _⟩ := hni c hlt
         obtain ⟨hxb, _⟩ := hnr c hlt
         have ha := good_num HGS.out i2 hiS c hlt
         have hb := good_num HGS.out r hrS c hlt
         clear hni hnr
         obtain ⟨a, hA⟩ : ∃ a, a = (S.getD i2 []).getD c 0 := ⟨_, rfl⟩
         obtain ⟨b, hB⟩ : ∃ b, b = (S.getD r []).getD c 0 := ⟨_, rfl⟩
         rw [← hA] at hxa ha
         rw [← hB] at hxb hb
         have HA := Aside0.mk hA
         have HB := Aside0.mk hB
         have hab := prod_range p a b hp ha ⟨hb.1, by omega⟩
         clear hA hB hli hlr
         go_wp2_with fail
         repeat (go_quiet (fail))
         try go_wp2_with fail
         have htm : 0 ≤ a * b % p ∧ a * b % p < p := ⟨Int.emod_nonneg _ hp0, Int.emod_lt_of_pos _ (by omega)⟩
         clear hxa hxb hxi hfzi
         go_loopg [13] m (fun gg s13 wr4 => ∃ j2 : Nat, c ≤ j2 ∧ j2 ≤ m ∧ m - j2 ≤ gg ∧ s13 = .int .i64 j2 ∧ Aside0 (Mat wr4 base (.slice (some ⟨G, 0, none⟩) n cc) vS fS ((elimM p c r S i2).set i2 (elimP p c (S.getD r []) (S.getD i2 []) j2))) ∧ Aside0 (Below base w wr4))
         case atStart => exact ⟨c, Nat.le_refl _, hc, by omega, rfl, ⟨by rw [elimP_start p c _ _ (HGS.out _ (getD_mem S i2 hiS)).2 HCS.out, set_same _ i2 _ (by rw [elimM_length]; exact hiS) HIW.out]; exact HM2.out.below (pw_below_drewN (Below.refl _ _) _)⟩, ⟨pw_below_drewN HB3.out _⟩⟩
         case round =>
          obtain ⟨j2, hcj, hjm, hg4, rfl, HM4, HB4⟩ := hrel
          by_cases hlt4 : j2 < m
          ·have hltz4 : (j2 : Int) < (m : Int) := by omega
           have HR4 : Aside0 ((((elimM p c r S i2).set i2 (elimP p c (S.getD r []) (S.getD i2 []) j2)).getD i2 []) = elimP p c (S.getD r []) (S.getD i2 []) j2) := ⟨set_getD _ _ _ (by rw [elimM_length]; exact hiS)⟩
           have HQ4 : Aside0 ((((elimM p c r S i2).set i2 (elimP p c (S.getD r []) (S.getD i2 []) j2)).getD r []) = S.getD r []) := ⟨by rw [set_getD_ne _ _ _ _ (by omega)]; exact HRW.out⟩
           have hlen4 : ((elimM p c r S i2).set i2 (elimP p c (S.getD r []) (S.getD i2 []) j2)).length = S.length := by rw [List.length_set, elimM_length]
           obtain ⟨g1, c1, e1, _, _, hb1, _, _, _, _, hn1⟩ := HM4.out.at i2 m (by rw [hlen4]; exact hiS) (by rw [HR4.out, elimP_length]; exact (HGS.out _ (getD_mem S i2 hiS)).1) (by omega)
           obtain ⟨g2, c2, e2, _, _, _, _, _, _, _, hn2⟩ := HM4.out.at r m (by rw [hlen4]; exact hrS) (by rw [HQ4.out]; exact (HGS.out _ (getD_mem S r hrS)).1) (by omega)
           rw [ei] at e1
           injection e1 with e1 _ e3
           injection e1 with e1
           injection e1 with e1
           subst e1 e3
           rw [eq] at e2
           injection e2 with e2 _ e3
           injection e2 with e2
           injection e2 with e2
           subst e2 e3
           obtain ⟨hx1, hf1⟩ := hn1 j2 hlt4
           obtain ⟨hy1, _⟩ := hn2 j2 hlt4
           rw [HR4.out, elimP_get _ _ _ _ _ _ (by rw [(HGS.out _ (getD_mem S i2 hiS)).1]; exact hlt4), if_neg (Nat.lt_irrefl _)] at hx1
           rw [HQ4.out] at hy1
           have hx := good_num HGS.out i2 hiS j2 hlt4
           have hy := good_num HGS.out r hrS j2 hlt4
           have HW := HM4.out.put i2 (by rw [hlen4]; exact hiS) gi m ci ei (j2 : Int) (elimAt p c (S.getD r []) (S.getD i2 []) j2)
           have HE : Aside0 (elimAt p c (S.getD r []) (S.getD i2 []) j2 = ((S.getD i2 []).getD j2 0 + (p - a * b % p) * (S.getD r []).getD j2 0) % p) := ⟨by
            rw [HA.out, HB.out]
            exact (spec_val p _ _ _ _ hp hx (good_num HGS.out i2 hiS c hlt) (good_num HGS.out r hrS c hlt) hy).symm⟩
           obtain ⟨x, hX⟩ : ∃ x, x = (S.getD i2 []).getD j2 0 := ⟨_, rfl⟩
           obtain ⟨y, hY⟩ : ∃ y, y = (S.getD r []).getD j2 0 := ⟨_, rfl⟩
           rw [← hX] at hx1 hx HE
           rw [← hY] at hy1 hy HE
           have hpr := prod_range p y (p - a * b % p) hp hy ⟨by omega, by omega⟩
           rw [Int.mul_comm] at hpr
           have HW2 : Aside0 (Mat (wr.setCell ⟨gi, j2, none⟩ (I ((x + (p - a * b % p) * y) % p))) base (.slice (some ⟨G, 0, none⟩) n cc) vS fS ((elimM p c r S i2).set i2 (elimP p c (S.getD r []) (S.getD i2 []) (j2 + 1)))) := ⟨by
            rw [← HE.out]
            have h := HW
            rw [Int.toNat_natCast, List.getElem_set_self, List.set_set, ← elimP_succ] at h
            exact h⟩
           have HB5 : Aside0 (Below base w (wr.setCell ⟨gi, j2, none⟩ (I ((x + (p - a * b % p) * y) % p)))) := ⟨Below.setCell HB4.out hb1 _⟩
           clear hn1 hn2 hX hY HR4 HQ4 HW
           go_wp2_with fail
           go_region_with (fail)
           all_goals (
            go_wp2_with fail
            go_roundg (m - (j2 + 1))
            (case measure => omega)
            (case rel => exact ⟨j2 + 1, by omega, by omega, by omega, by go_num, ⟨HW2.out.below (below_drew (Below.refl _ _))⟩, ⟨below_drew HB5.out⟩⟩))
          ·obtain rfl : j2 = m := by omega
           have hltz4 : ¬ (j2 : Int) < (j2 : Int) := by omega
           have HE2 : Aside0 (elimM p c r S (i2 + 1) = (elimM p c r S i2).set i2 (elimP p c (S.getD r []) (S.getD i2 []) j2)) := ⟨by
            rw [elimM_succ p c r S i2 hi2, ← elimP_end, (HGS.out _ (getD_mem S i2 hiS)).1]⟩
           go_wp2_with fail
           go_roundg (n - (i2 + 1))
           case measure => omega
           case rel => exact ⟨i2 + 1, by omega, by omega, by omega, by go_num, ⟨by rw [HE2.out]; exact HM4.out⟩, HB4⟩
        ·obtain rfl : i2 = n := by omega
         have hltz3 : ¬ (i2 : Int) < (i2 : Int) := by omega
         go_wp2_with fail
         go_roundg (m - (c + 1))
         case measure => omega
         case rel => exact ⟨c + 1, r + 1, elimM p c r S i2, by omega, by omega, by go_num, by go_num, HS2, ⟨vS, fS, HM2⟩, HB3⟩
      ·go_wp2_with fail
       go_loopg [10] n (fun gg s10 wr3 => ∃ i2 : Nat, r < i2 ∧ i2 ≤ n ∧ n - i2 ≤ gg ∧ s10 = .int .i64 i2 ∧ Aside0 (Mat wr3 base (.slice (some ⟨G, 0, none⟩) n cc) vS fS (elimM p c r S i2)) ∧ Aside0 (Below base w wr3))
       case atStart => exact ⟨r + 1, by omega, by omega, by omega, by go_num, ⟨by rw [elimM_start]; exact HSW.out⟩, HB2⟩
       case round =>
        clear hxj hfj hxr hfr hltz hgi hmid hfmid
        obtain ⟨i2, hi2, hi2n, hg2, rfl, HM2, HB3⟩ := hrel
        have hrS : r < S.length := by rw [HLS.out]; omega
        by_cases hlt2 : i2 < n
        ·have hltz3 : (i2 : Int) < (n : Int) := by omega
         have hiS : i2 < S.length := by rw [HLS.out]; omega
         have HRW := Aside0.mk (elimM_get p c r i2 S r hrS)
         rw [if_neg (by omega)] at HRW
         have HIW := Aside0.mk (elimM_get p c r i2 S i2 hiS)
         rw [if_neg (by omega)] at HIW
         have hli := (HGS.out _ (getD_mem S i2 hiS)).1
         have hlr := (HGS.out _ (getD_mem S r hrS)).1
         obtain ⟨gi, ci, ei, hci, hfi, hbi, _, _, hxi, hfzi, hni⟩ := HM2.out.at i2 m (by rw [elimM_length]; exact hiS) (by rw [HIW.out]; exact hli) (by omega)
         obtain ⟨gq, cq, eq, hcq, hfq, _, _, _, _, _, hnr⟩ := HM2.out.at r m (by rw [elimM_length]; exact hrS) (by rw [HRW.out]; exact hlr) (by omega)
         have e1 := HVR.out
         rw [getD_get vS r nilV (by have := HM2.out.len; rw [elimM_length] at this; omega), eq] at e1
         injection e1 with e1 _ e2
         injection e1 with e1
         injection e1 with e1
         subst e1 e2
         rw [HIW.out] at hni
         rw [HRW.out] at hnr
         obtain ⟨hxa, _⟩ := hni c hlt
         obtain ⟨hxb, _⟩ := hnr c hlt
         have ha := good_num HGS.out i2 hiS c hlt
         have hb := good_num HGS.out r hrS c hlt
         clear hni hnr
         obtain ⟨a, hA⟩ : ∃ a, a = (S.getD i2 []).getD c 0 := ⟨_, rfl⟩
         obtain ⟨b, hB⟩ : ∃ b, b = (S.getD r []).getD c 0 := ⟨_, rfl⟩
         rw [← hA] at hxa ha
         rw [← hB] at hxb hb
         have HA := Aside0.mk hA
         have HB := Aside0.mk hB
         have hab := prod_range p a b hp ha ⟨hb.1, by omega⟩
         clear hA hB hli hlr
         go_wp2_with fail
         repeat (go_quiet (fail))
         try go_wp2_with fail
         have htm : 0 ≤ a * b % p ∧ a * b % p < p := ⟨Int.emod_nonneg _ hp0, Int.emod_lt_of_pos _ (by omega)⟩
         clear hxa hxb hxi hfzi
         go_loopg [13] m (fun gg s13 wr4 => ∃ j2 : Nat, c ≤ j2 ∧ j2 ≤ m ∧ m - j2 ≤ gg ∧ s13 = .int .i64 j2 ∧ Aside0 (Mat wr4 base (.slice (some ⟨G, 0, none⟩) n cc) vS fS ((elimM p c r S i2).set i2 (elimP p c (S.getD r []) (S.getD i2 []) j2))) ∧ Aside0 (Below base w wr4))
         case atStart => exact ⟨c, Nat.le_refl _, hc, by omega, rfl, ⟨by rw [elimP_start p c _ _ (HGS.out _ (getD_mem S i2 hiS)).2 HCS.out, set_same _ i2 _ (by rw [elimM_length]; exact hiS) HIW.out]; exact HM2.out.below (pw_below_drewN (Below.refl _ _) _)⟩, ⟨pw_below_drewN HB3.out _⟩⟩
         case round =>
          obtain ⟨j2, hcj, hjm, hg4, rfl, HM4, HB4⟩ := hrel
          by_cases hlt4 : j2 < m
          ·have hltz4 : (j2 : Int) < (m : Int) := by omega
           have HR4 : Aside0 ((((elimM p c r S i2).set i2 (elimP p c (S.getD r []) (S.getD i2 []) j2)).getD i2 []) = elimP p c (S.getD r []) (S.getD i2 []) j2) := ⟨set_getD _ _ _ (by rw [elimM_length]; exact hiS)⟩
           have HQ4 : Aside0 ((((elimM p c r S i2).set i2 (elimP p c (S.getD r []) (S.getD i2 []) j2)).getD r []) = S.getD r []) := ⟨by rw [set_getD_ne _ _ _ _ (by omega)]; exact HRW.out⟩
           have hlen4 : ((elimM p c r S i2).set i2 (elimP p c (S.getD r []) (S.getD i2 []) j2)).length = S.length := by rw [List.length_set, elimM_length]
           obtain ⟨g1, c1, e1, _, _, hb1, _, _, _, _, hn1⟩ := HM4.out.at i2 m (by rw [hlen4]; exact hiS) (by rw [HR4.out, elimP_length]; exact (HGS.out _ (getD_mem S i2 hiS)).1) (by omega)
           obtain ⟨g2, c2, e2, _, _, _, _, _, _, _, hn2⟩ := HM4.out.at r m (by rw [hlen4]; exact hrS) (by rw [HQ4.out]; exact (HGS.out _ (getD_mem S r hrS)).1) (by omega)
           rw [ei] at e1
           injection e1 with e1 _ e3
           injection e1 with e1
           injection e1 with e1
           subst e1 e3
           rw [eq] at e2
           injection e2 with e2 _ e3
           injection e2 with e2
           injection e2 with e2
           subst e2 e3
           obtain ⟨hx1, hf1⟩ := hn1 j2 hlt4
           obtain ⟨hy1, _⟩ := hn2 j2 hlt4
           rw [HR4.out, elimP_get _ _ _ _ _ _ (by rw [(HGS.out _ (getD_mem S i2 hiS)).1]; exact hlt4), if_neg (Nat.lt_irrefl _)] at hx1
           rw [HQ4.out] at hy1
           have hx := good_num HGS.out i2 hiS j2 hlt4
           have hy := good_num HGS.out r hrS j2 hlt4
           have HW := HM4.out.put i2 (by rw [hlen4]; exact hiS) gi m ci ei (j2 : Int) (elimAt p c (S.getD r []) (S.getD i2 []) j2)
           have HE : Aside0 (elimAt p c (S.getD r []) (S.getD i2 []) j2 = ((S.getD i2 []).getD j2 0 + (p - a * b % p) * (S.getD r []).getD j2 0) % p) := ⟨by
            rw [HA.out, HB.out]
            exact (spec_val p _ _ _ _ hp hx (good_num HGS.out i2 hiS c hlt) (good_num HGS.out r hrS c hlt) hy).symm⟩
           obtain ⟨x, hX⟩ : ∃ x, x = (S.getD i2 []).getD j2 0 := ⟨_, rfl⟩
           obtain ⟨y, hY⟩ : ∃ y, y = (S.getD r []).getD j2 0 := ⟨_, rfl⟩
           rw [← hX] at hx1 hx HE
           rw [← hY] at hy1 hy HE
           have hpr := prod_range p y (p - a * b % p) hp hy ⟨by omega, by omega⟩
           rw [Int.mul_comm] at hpr
           have HW2 : Aside0 (Mat (wr.setCell ⟨gi, j2, none⟩ (I ((x + (p - a * b % p) * y) % p))) base (.slice (some ⟨G, 0, none⟩) n cc) vS fS ((elimM p c r S i2).set i2 (elimP p c (S.getD r []) (S.getD i2 []) (j2 + 1)))) := ⟨by
            rw [← HE.out]
            have h := HW
            rw [Int.toNat_natCast, List.getElem_set_self, List.set_set, ← elimP_succ] at h
            exact h⟩
           have HB5 : Aside0 (Below base w (wr.setCell ⟨gi, j2, none⟩ (I ((x + (p - a * b % p) * y) % p)))) := ⟨Below.setCell HB4.out hb1 _⟩
           clear hn1 hn2 hX hY HR4 HQ4 HW
           go_wp2_with fail
           go_region_with (fail)
           all_goals (
            go_wp2_with fail
            go_roundg (m - (j2 + 1))
            (case measure => omega)
            (case rel => exact ⟨j2 + 1, by omega, by omega, by omega, by go_num, ⟨HW2.out.below (below_drew (Below.refl _ _))⟩, ⟨below_drew HB5.out⟩⟩))
          ·obtain rfl : j2 = m := by omega
           have hltz4 : ¬ (j2 : Int) < (j2 : Int) := by omega
           have HE2 : Aside0 (elimM p c r S (i2 + 1) = (elimM p c r S i2).set i2 (elimP p c (S.getD r []) (S.getD i2 []) j2)) := ⟨by
            rw [elimM_succ p c r S i2 hi2, ← elimP_end, (HGS.out _ (getD_mem S i2 hiS)).1]⟩
           go_wp2_with fail
           go_roundg (n - (i2 + 1))
           case measure => omega
           case rel => exact ⟨i2 + 1, by omega, by omega, by omega, by go_num, ⟨by rw [HE2.out]; exact HM4.out⟩, HB4⟩
        ·obtain rfl : i2 = n := by omega
         have hltz3 : ¬ (i2 : Int) < (i2 : Int) := by omega
         go_wp2_with fail
         go_roundg (m - (c + 1))
         case measure => omega
         case rel => exact ⟨c + 1, r + 1, elimM p c r S i2, by omega, by omega, by go_num, by go_num, HS2, ⟨vS, fS, HM2⟩, HB3⟩
   ·obtain rfl : c = m := by omega
    have HV : Aside0 (rankM p c M0 = (r : Int)) := ⟨by unfold rankM; rw [HS.out]⟩
    have hnz : (0 : Int) < (n : Int) := by omega
    have hcell : ∃ A0 c0, wr.cell? ⟨G, 0, none⟩ = some (.slice A0 c c0) := by
     have hl := HM.out.len
     obtain ⟨h6, _⟩ := Kd.R_celln nilV HM.out.outer (0 : Int) (by omega) (by omega)
     have h7 := HM.out.row 0 (by rw [HL.out]; omega)
     obtain ⟨A0, c0, h8, _⟩ := Kd.R_reads h7
     have h9 : rdOf nilV vs (0 : Int) = vs[0]'(by rw [hl, HL.out]; omega) := by simp [rdOf, show 0 < vs.length by rw [hl, HL.out]; omega]
     rw [h9] at h6
     have h10 : wr.cell? ⟨G, 0, none⟩ = some (vs[0]'(by rw [hl, HL.out]; omega)).1 := h6
     rw [h8] at h10
     have h11 := (HGM.out _ (getD_mem M 0 (by rw [HL.out]; omega))).1
     rw [getD_get M 0 [] (by rw [HL.out]; omega)] at h11
     rw [h11] at h10
     exact ⟨A0, c0, h10⟩
    obtain ⟨A0, c0, hx0⟩ := hcell
    have hcc2 : ¬ (c : Int) < (c : Int) := by omega
    go_wp2_with fail
    go_ret
    exact ⟨by rw [HV.out]; rfl, HGr.out⟩

end Go.Proofs.Ytjoggjgmpoaaiaa.K
end

section
/- The reference's rank of a dimension: l03RankOf. -/
namespace Go.Proofs.Ytjoggjgmpoaaiaa.K
open Go.RowKit Go.Shelf Go.Proofs.Ytjoggjgmpoaaiaa.Q Go.Proofs.YtjoggjgmpoaaiaaW.PrintWords Go.Proofs.YtjoggjgmpoaaiaaW.PrintLast Go.Proofs.YtjoggjgmpoaaiaaW.PrintMore
set_option linter.unusedVariables false
set_option linter.unusedSimpArgs false

theorem sTop_calls (n : Int) (A : Option Addr) (c : Nat) (l : List Int) (w : World) (hk : Kx w A c l) (hl : l.length ≤ 63) (hr : ∀ x ∈ l, 0 ≤ x ∧ x ≤ 63) :
    Calls Try.prog 66 #[.agg #[I n, .slice A l.length c]] w fun e w' => e = .returned (I (topI l)) ∧ Grew w w' :=
  spec_l01Dim.calls 80 n A c l (topI l) w hk.r hk.c (specTop_is n l hl hr 80 (Nat.le_refl _))

set_option maxRecDepth 100000 in
set_option maxHeartbeats 4000000 in
theorem sRankOf_calls (n : Int) (A : Option Addr) (c : Nat) (l : List Int) (d p : Int) (w : World) (hk : Kx w A c l) (hi : isC n l = true) (hd : 0 ≤ d ∧ d ≤ 7) (hp : 2 ≤ p ∧ p ≤ 3) :
    Calls Try.prog 69 #[.agg #[I n, .slice A l.length c], I d, I p] w fun e w' => e = .returned (I (rankL l d p)) ∧ Grew w w' := by
  have hg : Grew w (w.alloc (.cells #[I n, .slice A l.length c] 26)) := below_alloc (Grew.refl w) _
  have hB : CB (w.alloc (.cells #[I n, .slice A l.length c] 26)) w.heap.size n (.slice A l.length c) := blk_new w _
  have hf := isC_faces hi
  have hl := hf.2.2.2
  have HT := Aside0.mk (sTop_calls n A c l _ (hk.later hg) hl (isC_of hi))
  have ht := top_range l
  have HO := Aside0.mk (fun h => rankL_out hi d p h)
  have HR := Aside0.mk (fun (w1 : World) (h : Kx w1 A c l) => spec_l03Rows.calls 5200 n A c l d p (rowsL l d p) w1 h.r h.c (specRows_is hi d p hd hp 5200 (Nat.le_refl _)))
  have HGD := Aside0.mk (rowsL_good l d p hp.1)
  have hC63 := of_length l (d - 1)
  have hF63 := of_length l d
  have hrl : (rowsL l d p).length = (ofL l d).length := by simp [rowsL]
  have HRK := Aside0.mk (show rankL l d p = rankM p (ofL l (d - 1)).length (rowsL l d p) from rfl)
  have HK := Aside0.mk hk
  have HB := Aside0.mk hB
  have HG := Aside0.mk hg
  have k0 := hB.c0
  have k1 := hB.c1
  clear hk hi hf hB hg
  by_cases h1 : d < 1
  · have HV := Aside0.mk (HO.out (.inl h1))
    rw [HV.out]
    go_enter Try.func69, Try.ntmps69
    go_wp2_with fail
    go_ret
    exact ⟨rfl, HG.out⟩
  · by_cases h2 : topI l < d
    · have HV := Aside0.mk (HO.out (.inr h2))
      rw [HV.out]
      generalize topI l = t at HT ht h2
      go_enter Try.func69, Try.ntmps69
      go_wp2_with fail
      refine HT.out.mono ?_
      rintro e w1 ⟨rfl, hG1⟩
      go_wp2_with fail
      go_ret
      exact ⟨rfl, Grew.trans HG.out hG1⟩
    · generalize topI l = t at HT ht h2
      rw [HRK.out]
      generalize rowsL l d p = M at HR HGD hrl ⊢
      generalize (ofL l (d - 1)).length = m at HGD hC63 ⊢
      clear HRK HO
      go_enter Try.func69, Try.ntmps69
      go_wp2_with fail
      refine HT.out.mono ?_
      rintro e w1 ⟨rfl, hG1⟩
      have HB1 := Aside0.mk (CB.later HB.out hG1)
      have HG1 := Aside0.mk (Grew.trans HG.out hG1)
      clear hG1 k0 k1 HT
      have k0 := HB1.out.c0
      have k1 := HB1.out.c1
      have hm63 : M.length ≤ 63 := by omega
      clear hrl
      go_wp2_with fail
      refine (HR.out w1 (HK.out.later HG1.out)).mono ?_
      rintro e w2 ⟨v, rfl, hS, hG2⟩
      obtain ⟨vs, f, hM⟩ := Mat.of_S hS
      have HM := Aside0.mk hM
      have HG2 := Aside0.mk (Grew.trans HG1.out hG2)
      have H3 := Aside0.mk (sRank_calls p hp m (by omega) M HGD.out hm63 w1.heap.size v vs f w2 hG2.size hM)
      have hs := HG1.out.size
      clear hS hM hG2 k0 k1
      obtain ⟨A8, c8, e8, _⟩ := HM.out.slice
      subst e8
      go_wp2_with fail
      refine H3.out.mono ?_
      rintro e w3 ⟨rfl, hG3⟩
      go_wp2_with fail
      go_ret
      exact ⟨rfl, Below.trans HG2.out (hG3.mono hs)⟩

end Go.Proofs.Ytjoggjgmpoaaiaa.K
end

section
/- The reference's test of a bounding chain: plain words. -/
namespace Go.Proofs.Ytjoggjgmpoaaiaa.K
open Go.RowKit Go.Shelf Go.Proofs.Ytjoggjgmpoaaiaa.Q Go.Proofs.YtjoggjgmpoaaiaaW.PrintWords Go.Proofs.YtjoggjgmpoaaiaaW.PrintLast Go.Proofs.YtjoggjgmpoaaiaaW.PrintMore
set_option linter.unusedVariables false
set_option linter.unusedSimpArgs false

theorem specPlace_any (xs : List Int) (g : Int) (hl : xs.length ≤ 1000000000) : ∀ (m i k : Nat), i + m = xs.length → m < k → (∀ j (h : j < xs.length), j < i → xs[j] ≠ g) →
    ∃ v, spec_l03Place.l0 k xs g (i : Int) = some v ∧ -1 ≤ v ∧ v ≤ 1000000000 ∧ (0 ≤ v ↔ g ∈ xs) := by
  intro m
  induction m with
  | zero =>
    intro i k him hk ho
    obtain ⟨k, rfl⟩ : ∃ q, k = q + 1 := ⟨k - 1, by omega⟩
    simp only [spec_l03Place.l0]
    refine ⟨-1, by rw [if_neg (by omega)], by omega, by omega, ⟨fun h => absurd h (by omega), fun h => ?_⟩⟩
    obtain ⟨j, hj, e⟩ := List.getElem_of_mem h
    exact absurd e (ho j hj (by omega))
  | succ m ih =>
    intro i k him hk ho
    obtain ⟨k, rfl⟩ : ∃ q, k = q + 1 := ⟨k - 1, by omega⟩
    have hil : i < xs.length := by omega
    simp only [spec_l03Place.l0]
    rw [if_pos (by omega), if_pos (by omega), rd_nat xs i hil]
    by_cases e : xs[i] = g
    · exact ⟨i, by rw [if_pos e], by omega, by omega, ⟨fun _ => by rw [← e]; exact List.getElem_mem hil, fun _ => by omega⟩⟩
    · rw [if_neg e, w64 ((i : Int) + 1) (by omega) (by omega), nat_succ]
      exact ih (i + 1) k (by omega) (by omega) (fun j hj h => by
        rcases Nat.lt_succ_iff_lt_or_eq.1 h with h2 | h2
        · exact ho j hj h2
        · subst h2; exact e)
theorem place_calls (A : Option Addr) (c : Nat) (xs : List Int) (g : Int) (w : World) (hr : Ki.C w A xs.length xs) (hc : xs.length ≤ c) (hl : xs.length ≤ 1000000000) :
    Calls Try.prog 65 #[.slice A xs.length c, I g] w fun e w' => ∃ v, e = .returned (I v) ∧ -1 ≤ v ∧ v ≤ 1000000000 ∧ (0 ≤ v ↔ g ∈ xs) ∧ Grew w w' := by
  obtain ⟨v, h1, h2, h3, h4⟩ := specPlace_any xs g hl xs.length 0 (xs.length + 1) (by omega) (by omega) (fun j _ h => absurd h (Nat.not_lt_zero j))
  exact (spec_l03Place.calls (xs.length + 1) A c xs g v w hr hc h1).mono fun e w' ⟨he, hd⟩ => ⟨v, he, h2, h3, h4, hd.below⟩
theorem redN_zero (L : List Nat) : redN 0 L = 0 := by
  unfold redN
  induction L with
  | nil => rfl
  | cons o r ih => rw [List.foldl_cons, show redS 0 o = 0 by simp [redS]]; exact ih
theorem bndB_nil (l : List Int) : bndB l (chN []) = true := by
  unfold bndB chN
  rw [List.foldl_nil, redN_zero]
  rfl
/-- A list of faces of one dimension, ascending. -/
structure ChainOf (l xs : List Int) : Prop where
  asc : xs.Pairwise (· < ·)
  mem : ∀ x ∈ xs, x ∈ l ∧ onesI x = onesI (xs.getD 0 0)
theorem ChainOf.of {l xs : List Int} (h : ChainOf l xs) (hp : 0 < xs.length) : ∀ x ∈ xs, x ∈ ofL l (onesI xs[0] - 1) := fun x hx => by
  obtain ⟨h1, h2⟩ := h.mem x hx
  have h3 : xs.getD 0 0 = xs[0] := by simp [hp]
  rw [h3] at h2
  unfold ofL
  rw [List.mem_filter]
  exact ⟨h1, by simp [dimI, h2]⟩
theorem ofs_less (l : List Int) (d : Int) (x : Int) (h1 : x ∈ l) (h2 : x ∈ ofL l d) : (ofL l (d + 1)).length < l.length := by
  unfold ofL at h2 ⊢
  rw [List.mem_filter] at h2
  refine List.length_filter_lt_length_iff_exists.2 ⟨x, h1, ?_⟩
  have h3 : dimI x = d := by simpa using h2.2
  simp [h3]
  omega
/-- Nothing of the greatest dimension bounds. -/
theorem bnd_top {n : Int} {l xs : List Int} (hi : isC n l = true) (h : ChainOf l xs) (hp : 0 < xs.length) (ht : onesI xs[0] - 1 = topI l) : bndB l (chN xs) = false := by
  cases hb : bndB l (chN xs) with
  | false => rfl
  | true =>
    have hb := (bndB_iff l (chN xs)).1 hb
    have hx := h.mem xs[0] (List.getElem_mem hp)
    have hf := isC_faces hi
    have hr := hf.2.2.1 xs[0] hx.1
    have hz : cvN (chN xs) xs[0].toNat = false := Span.zeroAt (c := xs[0].toNat) (fun s hs => by
      obtain ⟨f, hfl, rfl⟩ := hs
      have hfr := hf.2.2.1 f hfl
      show (chN (bords f)).testBit xs[0].toNat = false
      rw [bch_bits f (by omega) (by omega), decide_eq_false_iff_not]
      intro hmem
      rw [show ((xs[0].toNat : Nat) : Int) = xs[0] by omega] at hmem
      have h1 := (bords_dim f (by omega) (by omega) _ hmem).1
      have h2 := top_mem l f hfl
      unfold dimI at h1 h2
      omega) hb
    have ho : cvN (chN xs) xs[0].toNat = true := by
      show (chN xs).testBit xs[0].toNat = true
      rw [chN_bits xs h.asc (fun x hx => by have := hf.2.2.1 x (h.mem x hx).1; omega), show ((xs[0].toNat : Nat) : Int) = xs[0] by omega]
      exact decide_eq_true (List.getElem_mem hp)
    rw [hz] at ho
    cases ho

end Go.Proofs.Ytjoggjgmpoaaiaa.K
end

section
/- slices.Clone over rows of numbers. -/
namespace Go.Proofs.Ytjoggjgmpoaaiaa.K
open Go.RowKit Go.Shelf Go.Proofs.YtjoggjgmpoaaiaaW.PrintWords Go.Proofs.YtjoggjgmpoaaiaaW.PrintLast Go.Proofs.YtjoggjgmpoaaiaaW.PrintMore
set_option linter.unusedVariables false
set_option linter.unusedSimpArgs false

section
variable {ops : Array Oper} {rest : List Oper} {o : Oper} {a : Act} {Q : Exit → Act → World → Prop}
end
theorem Ri.empty (w : World) (base : Nat) (hb : base ≤ w.heap.size) : Ki.R 2 (w.alloc (.cells #[] 2)) base (fun _ => True) (.slice (some ⟨w.heap.size, 0, none⟩) 0 0) [] := by
  have := own_lit w base 2 .i64 [] hb (by simp)
  exact ⟨fun _ _ => trivial, [], this, Reps.none _ _⟩

end Go.Proofs.Ytjoggjgmpoaaiaa.K
end

section
/- The reference's test of a bounding chain: l03Bounds. -/
namespace Go.Proofs.Ytjoggjgmpoaaiaa.K
open Go.RowKit Go.Shelf Go.Proofs.Ytjoggjgmpoaaiaa.Q Go.Proofs.YtjoggjgmpoaaiaaW.PrintWords Go.Proofs.YtjoggjgmpoaaiaaW.PrintLast Go.Proofs.YtjoggjgmpoaaiaaW.PrintMore
set_option linter.unusedVariables false
set_option linter.unusedSimpArgs false

/-- Faces, and a row of the call's own that is none of theirs. -/
structure FaceRow (w : World) (base gF : Nat) (v6 v7 : Value) (F R : List Int) : Prop where
 faces : Ki.R 2 w base (fun k => k = gF) v6 F
 row : Ki.R 2 w base (fun k => k ≠ gF) v7 R
 lt : gF < w.heap.size
theorem FaceRow.later {w w' : World} {base gF : Nat} {v6 v7 : Value} {F R : List Int} (h : FaceRow w base gF v6 v7 F R) (hg : Grew w w') : FaceRow w' base gF v6 v7 F R :=
 ⟨Kd.R_below h.faces hg, Kd.R_below h.row hg, Nat.lt_of_lt_of_le h.lt hg.size⟩
/-- The faces ahead of the row. -/
theorem FaceRow.facesFirst {Wa w4 w5 : World} {base : Nat} {v : Value} {F : List Int} (hb : base ≤ Wa.heap.size) (hs : Wa.heap.size ≤ w4.heap.size) (hR : Ki.R 2 w4 Wa.heap.size (fun _ => True) v F) (hG : Grew w4 w5) (hp : 0 < F.length) :
  ∃ gF c6, v = .slice (some ⟨gF, 0, none⟩) F.length c6 ∧ FaceRow (w5.alloc (.cells #[] 2)) base gF (.slice (some ⟨gF, 0, none⟩) F.length c6) (.slice (some ⟨w5.heap.size, 0, none⟩) 0 0) F [] := by
 obtain ⟨g, c6, e, h1, h2, _⟩ := Kd.R_form hR hp
 have h3 := hG.size
 refine ⟨g, c6, e, ⟨?_, ?_, by rw [World.size_alloc]; omega⟩⟩
 ·rw [← e]
  have hF : Ki.R 2 w4 Wa.heap.size (fun k => k = g) v F := ⟨fun k hk => by
   rw [e] at hk
   simp [Value.ownBlock] at hk
   exact hk.symm, hR.2⟩
  exact Kd.R_alloc (Kd.R_below (Kd.R_lower hF hb) hG) _
 ·refine ⟨fun k hk => ?_, (Ri.empty w5 base (by omega)).2⟩
  simp [Value.ownBlock] at hk
  omega
section
variable {ops : Array Oper} {o : Oper} {rest : List Oper} {a : Act} {Q : Exit → Act → World → Prop}
theorem append_fr {W : World} (base : Nat) (hgd : o.guard = none) (s x : Operand)
  (ho : o.op = .call { callee := .builtin .append, args := #[s, x], argTypes := #[22, 22] })
  (gF : Nat) (v6 v : Value) (F xs : List Int) (p : Int) (hs : a.eval s = v) (hx : a.eval x = .slice (some ⟨W.heap.size, 0, none⟩) 1 1)
  (HO : FaceRow W base gF v6 v F xs) (hbase : base ≤ W.heap.size) (hl : xs.length ≤ 1000000000000)
  (h : ∀ A c w1, FaceRow w1 base gF v6 (.slice A (xs.length + 1) c) F (xs ++ [p]) → Below base W w1 → wpList Try.prog ops Q rest (a.put o.dst (.slice A (xs.length + 1) c)) w1) :
  wpList Try.prog ops Q (o :: rest) a (W.alloc (.cells #[I p] 2)) := by
 have hlt := HO.lt
 refine Kd.R_append Ki (w0 := W) base hgd s x 22 2 (.int .i64 0) 8 ho Try.underlying22 infoI rfl (by decide) (by omega) v xs p [I p] (fun k => k ≠ gF) (fun _ => False) hs hx rfl (fun _ hk => hk.elim) (fun k hk => by omega) HO.row (Below.refl _ _) hbase (by omega) ?_
 intro v1 w1 hR hB hg _
 obtain ⟨A, c, e⟩ := Kd.R_slice hR
 rw [List.length_append] at e
 subst e
 exact h A c w1 ⟨Kd.R_grown HO.faces hg (fun k hk e => HO.row.1 k e.symm hk), hR, Nat.lt_of_lt_of_le HO.lt hB.size⟩ hB
theorem append_mat {Kc : Act → World → Prop} {W : World} (base0 baseM : Nat) (hw : Region.wanted o (yielded ops a.tmps) = true) (s x : Operand)
  (ho : o.op = .call { callee := .builtin .append, args := #[s, x], argTypes := #[79, 79] })
  (v : Value) (vs : List OneV) (f : Nat → Nat) (M : List (List Int)) (r : OneV) (R : List Int) (G : Nat) (ok : Nat → Prop) (hs : a.eval s = v) (hx : a.eval x = .slice (some ⟨G, 0, none⟩) 1 1)
  (hG : W.cell? ⟨G, 0, none⟩ = some r.1) (HM : Mat W baseM v vs f M) (HR : Ki.R 2 W base0 ok r.1 R) (hp : 0 < R.length) (hlow : ∀ k, r.1.ownBlock = some k → k < baseM) (h0 : base0 ≤ baseM) (h1 : baseM ≤ W.heap.size) (hl : M.length ≤ 1000)
  (h : ∀ A c vs' f' w1, Mat w1 base0 (.slice A (M.length + 1) c) vs' f' (M ++ [R]) → Below base0 W w1 → Kc (a.put o.dst (.slice A (M.length + 1) c)) w1) :
  if Region.wanted o (yielded ops a.tmps) = true then Oper.wp Try.prog o a W Kc Q else Kc (a.put o.dst undef) W := by
 obtain ⟨b, cb, eb, hb1, hb2, _⟩ := Kd.R_form HR hp
 have hbM : b < baseM := hlow b (by rw [eb]; simp [Value.ownBlock])
 have hr : Ki.R 2 W base0 (fun k => k = b) r.1 R := ⟨fun k hk => by
  rw [eb] at hk
  simp [Value.ownBlock] at hk
  exact hk.symm, HR.2⟩
 have hrws : Rws W base0 vs (fun k => if k = b then M.length else f k) M := ⟨HM.len, fun i hi => Kd.R_lower (Kd.R_mono (Kd.R_bound (HM.row i hi)) (fun k hk => by
  have h3 := hk.2.1
  show (if k = b then M.length else f k) = i
  rw [if_neg (by omega)]
  exact hk.1)) h0⟩
 have hout : Kv.R 22 W base0 (fun k => M.length ≤ f k ∧ k ≠ b) v vs := Kd.R_lower (Kd.R_mono (Kd.R_bound HM.outer) (fun k hk => ⟨hk.1, by have := hk.2.1; omega⟩)) h0
 refine Kd.R_append_rows_step Kv (Rr := fun x cs => cs = [x.1]) (w0 := W) base0 hw s x 79 22 (.slice none 0 0) 24 ho Try.underlying79 infoS rfl (by decide) (by omega) v vs [r] _ 1 1 (fun k => M.length ≤ f k ∧ k ≠ b) (fun _ => False) hs hx hout
  ⟨rfl, by omega, fun _ => ⟨_, rfl, fun j p hj => ?_⟩⟩ (fun _ _ h => h) (fun _ h => h.elim) (fun k hk => ⟨HM.fresh k hk, by omega⟩) (Below.refl _ _) (by omega) (by have := HM.len; simp; omega) ?_
 ·have hj0 : j = 0 := by
   rcases Nat.eq_zero_or_pos j with e | e
   ·exact e
   ·rw [List.getElem?_eq_none (by simp; omega)] at hj; cases hj
  subst hj0
  simp at hj
  subst hj
  refine ⟨[r.1], rfl, rfl, fun i u hu => ?_⟩
  have hi0 : i = 0 := by
   rcases Nat.eq_zero_or_pos i with e | e
   ·exact e
   ·rw [List.getElem?_eq_none (by simp; omega)] at hu; cases hu
  subst hi0
  simp at hu
  subst hu
  have e : (⟨G, 0, none⟩ : Addr).add (0 * Kv.sz + 0) = ⟨G, 0, none⟩ := by simp [Addr.add]
  rw [e]
  exact hG
 ·intro v1 w1 hR1 hB1 hg1 _
  obtain ⟨A, c, e⟩ := Kd.R_slice hR1
  rw [List.length_append, HM.len] at e
  have e2 : v1 = .slice A (M.length + 1) c := e
  subst e2
  exact h A c _ _ w1 (Mat.push hrws hr hR1 hg1 (fun k hk => hout.1 k hk) hb2 (fun k hk => HM.fresh k hk)) hB1
end

set_option maxRecDepth 100000 in
set_option maxHeartbeats 16000000 in
theorem sBounds_calls (n : Int) (A : Option Addr) (c : Nat) (l : List Int) (A2 : Option Addr) (c2 : Nat) (xs : List Int) (w : World) (hk : Kx w A c l) (hi : isC n l = true) (hx : Ki.C w A2 xs.length xs) (hc2 : xs.length ≤ c2) (hx2 : xs.length ≤ 2097152) (hch : ChainOf l xs) :
  Calls Try.prog 40 #[.agg #[I n, .slice A l.length c], .slice A2 xs.length c2] w fun e w' => e = .returned (.bool (bndB l (chN xs))) ∧ Grew w w' := by
 obtain ⟨W3, hW3⟩ : ∃ W3, W3 = (w.alloc (.cells #[I n, .slice A l.length c] 26)) := ⟨_, rfl⟩
 have hB : CB W3 w.heap.size n (.slice A l.length c) := by rw [hW3]; exact blk_new w _
 have hg : Grew w W3 := by rw [hW3]; exact below_alloc (Grew.refl w) _
 have hsz3 : W3.heap.size = w.heap.size + 1 := by rw [hW3]; exact World.size_alloc _ _
 have k0 := hB.c0
 have k1 := hB.c1
 have HB3 := Aside0.mk hB
 have HG3 := Aside0.mk hg
 have HK3 := Aside0.mk (hk.later hg)
 have HX3 := Aside0.mk (Kd.C_below hx hg)
 have HC2 := Aside0.mk hc2
 have HCH := Aside0.mk hch
 have HI := Aside0.mk hi
 clear hk hx hc2 hch hB hg
 rcases Nat.eq_zero_or_pos xs.length with h0 | hp
 ·have HV : Aside0 (bndB l (chN xs) = true) := ⟨by rw [List.length_eq_zero_iff.1 h0]; exact bndB_nil l⟩
  rw [HV.out]
  clear HV HCH
  rw [h0] at HX3 HC2 ⊢
  subst hW3
  go_enter Try.func40, Try.ntmps40
  go_wp2_with fail
  go_ret
  exact ⟨rfl, HG3.out⟩
 ·have hxm := HCH.out.mem xs[0] (List.getElem_mem hp)
  have hfc := isC_faces HI.out
  have hl63 := hfc.2.2.2
  have hlr := isC_of HI.out
  have hx0 := hfc.2.2.1 xs[0] hxm.1
  have hon := ones_range xs[0] (by omega) (by omega)
  have hof := HCH.out.of hp
  obtain ⟨d, hd⟩ : ∃ d, d = onesI xs[0] - 1 := ⟨_, rfl⟩
  rw [← hd] at hof
  have hd5 : 0 ≤ d ∧ d ≤ 5 := by omega
  have hFp : 0 < (ofL l d).length := List.length_pos_of_mem (hof xs[0] (List.getElem_mem hp))
  have hF63 : (ofL l d).length ≤ 63 := by have := of_length l d; omega
  have hM63 : (rowsL l (d + 1) 2).length + 1 ≤ 63 := by
   have h1 := ofs_less l d xs[0] hxm.1 (hof xs[0] (List.getElem_mem hp))
   have h2 : (rowsL l (d + 1) 2).length = (ofL l (d + 1)).length := by simp [rowsL]
   omega
  have HVT : Aside0 (d = topI l → bndB l (chN xs) = false) := ⟨fun e => bnd_top HI.out HCH.out hp (by omega)⟩
  have HVR : Aside0 (bndB l (chN xs) = decide (rankM 2 (ofL l d).length (rowsL l (d + 1) 2 ++ [rowC (ofL l d) xs]) = rankL l (d + 1) 2)) := ⟨bndB_rank HI.out d xs HCH.out.asc hof⟩
  have HGD : Aside0 (Good 2 (ofL l d).length (rowsL l (d + 1) 2 ++ [rowC (ofL l d) xs])) := ⟨fun row hrow => by
   rcases List.mem_append.1 hrow with h | h
   ·have := rowsL_good l (d + 1) 2 (by omega) row h
    rwa [show d + 1 - 1 = d by omega] at this
   ·rw [List.mem_singleton.1 h]; exact rowC_good (ofL l d) xs⟩
  have ht := top_range l
  have HX1 : Aside0 (∀ W, Calls Try.prog 44 #[I xs[0]] W fun e w' => e = .returned (I (d + 1)) ∧ Grew W w') := ⟨fun W => (spec_l01Ones.calls 8 xs[0] _ W (specOnes_is xs[0] (by omega) (by omega) 8 (by omega))).mono fun e w' ⟨he, hdr⟩ => ⟨by rw [he, hd]; simp, hdr.below⟩⟩
  have HOF : Aside0 (∀ W, Grew W3 W → Calls Try.prog 64 #[.agg #[I n, .slice A l.length c], I d] W fun e w' => ∃ v, e = .returned v ∧ Ki.R 2 w' W.heap.size (fun _ => True) v (ofL l d) ∧ Grew W w') := ⟨fun W h => spec_l01Of.calls 80 n A c l d _ W (HK3.out.later h).r HK3.out.c (specOf_is n d (by omega) l hl63 hlr 80 (by omega))⟩
  have HPL : Aside0 (∀ g W, Grew W3 W → Calls Try.prog 65 #[.slice A2 xs.length c2, I g] W fun e w' => ∃ v, e = .returned (I v) ∧ -1 ≤ v ∧ v ≤ 1000000000 ∧ (0 ≤ v ↔ g ∈ xs) ∧ Grew W w') := ⟨fun g W h => place_calls A2 c2 xs g W (Kd.C_below HX3.out h) HC2.out (by omega)⟩
  have HT : Aside0 (∀ W, Grew W3 W → Calls Try.prog 66 #[.agg #[I n, .slice A l.length c]] W fun e w' => e = .returned (I (topI l)) ∧ Grew W w') := ⟨fun W h => sTop_calls n A c l W (HK3.out.later h) hl63 hlr⟩
  have HRW : Aside0 (∀ W, Grew W3 W → Calls Try.prog 68 #[.agg #[I n, .slice A l.length c], I (d + 1), I 2] W fun e w' => ∃ v vs f, e = .returned v ∧ Mat w' W.heap.size v vs f (rowsL l (d + 1) 2) ∧ Grew W w') := ⟨fun W h => (spec_l03Rows.calls 5200 n A c l (d + 1) 2 _ W (HK3.out.later h).r HK3.out.c (specRows_is HI.out (d + 1) 2 (by omega) (by omega) 5200 (by omega))).mono fun e w' ⟨v, he, hS, hG⟩ => by
   obtain ⟨vs, f, hM⟩ := Mat.of_S hS
   exact ⟨v, vs, f, he, hM, hG⟩⟩
  have HRO : Aside0 (∀ W, Grew W3 W → Calls Try.prog 69 #[.agg #[I n, .slice A l.length c], I (d + 1), I 2] W fun e w' => e = .returned (I (rankL l (d + 1) 2)) ∧ Grew W w') := ⟨fun W h => sRankOf_calls n A c l (d + 1) 2 W (HK3.out.later h) HI.out (by omega) (by omega)⟩
  obtain ⟨ad, e0, hx⟩ := Kd.at_int HX3.out 0 (by omega) (by omega)
  cases e0
  rw [rd_zero xs hp, show ad.add (0 : Int).toNat = ad by first | rfl | (simp only [Addr.add]; split <;> simp_all)] at hx
  have hne : ¬ (xs.length : Int) = 0 := by omega
  have h0n : (0 : Int) < (xs.length : Int) := by omega
  clear hxm hfc hlr hon hof hx0 hd
  generalize xs[0] = x0 at hx HX1
  have HS3 := Aside0.mk hsz3
  clear hsz3
  obtain ⟨w3, hw3⟩ : ∃ w3, w3 = W3 := ⟨_, rfl⟩
  rw [← hw3] at HB3 HG3 HK3 HX3 HOF HPL HT HRW HRO HS3
  rw [hW3] at k0 k1 hx hw3
  have HW3 := Aside0.mk hw3
  clear hW3 hw3
  go_enter Try.func40, Try.ntmps40
  go_wp2_with fail
  rw [← HW3.out] at k0 k1 hx ⊢
  clear HW3
  refine (HX1.out _).mono ?_
  rintro e w1 ⟨rfl, hG1⟩
  have HB1 := Aside0.mk (CB.later HB3.out hG1)
  have HG1 := Aside0.mk hG1
  clear k0 k1 hx hG1
  have k0 := HB1.out.c0
  have k1 := HB1.out.c1
  obtain ⟨F, hF⟩ : ∃ F, F = ofL l d := ⟨_, rfl⟩
  rw [← hF] at hFp hF63 HVR HGD HOF
  clear hF
  have hs1 := HG1.out.size
  have hs3 := HS3.out
  go_wp2_with fail
  refine (HOF.out _ HG1.out).mono ?_
  rintro e w4 ⟨v6, rfl, hR6, hG4⟩
  obtain ⟨gF, c6, e6, hFR⟩ := FaceRow.facesFirst (base := w3.heap.size) hs1 hG4.size hR6 (Grew.refl w4) hFp
  subst e6
  have HFR := Aside0.mk hFR
  have hs4 := hG4.size
  have HB4 := Aside0.mk (CB.later HB1.out hG4)
  have HG4 := Aside0.mk (Grew.trans HG1.out hG4)
  clear hR6 hFR hG4 k0 k1 HB1 HG1
  go_wp2_with fail
  have hs34 : w3.heap.size ≤ w4.heap.size := by omega
  have HW4 : Aside0 (Below w3.heap.size w3 (w4.alloc (.cells #[] 2))) := ⟨below_alloc HG4.out _⟩
  clear HG4 hs3 hs1
  go_loopg [7, 8] F.length (fun gg s7 s8 wr => ∃ (kk : Nat) (A7 : Option Addr) (c7 : Nat), kk ≤ F.length ∧ F.length - kk ≤ gg ∧ s7 = .slice A7 kk c7 ∧ s8 = .int .i64 kk ∧ Aside0 (FaceRow wr w3.heap.size gF (.slice (some ⟨gF, 0, none⟩) F.length c6) (.slice A7 kk c7) F (rowC (F.take kk) xs)) ∧ Aside0 (Below w3.heap.size w3 wr))
  case atStart => exact ⟨0, _, _, Nat.zero_le _, by omega, rfl, rfl, HFR, HW4⟩
  case round =>
   clear HFR HW4 hs34 hs4
   obtain ⟨kk, A7, c7, hkk, hg, rfl, rfl, HFR, HGr⟩ := hrel
   have HBr := Aside0.mk (CB.later HB3.out HGr.out)
   have k0 := HBr.out.c0
   have k1 := HBr.out.c1
   have hsr := HGr.out.size
   by_cases hlt : kk < F.length
   ·have hltz : (kk : Int) < (F.length : Int) := by omega
    obtain ⟨_, _, hFC⟩ := Kd.R_reads' HFR.out.faces
    obtain ⟨adf, ef, hy⟩ := Kd.at_int hFC (kk : Int) (by omega) (by omega)
    cases ef
    rw [rd_nat F kk hlt, Int.toNat_natCast, show (⟨gF, 0, none⟩ : Addr).add kk = ⟨gF, kk, none⟩ by (simp only [Addr.add]; split <;> simp_all)] at hy
    have HN : Aside0 (rowC (F.take (kk + 1)) xs = rowC (F.take kk) xs ++ [if F[kk] ∈ xs then 1 else 0]) := ⟨by rw [List.take_succ_eq_append_getElem hlt]; simp only [rowC, List.map_append, List.map_cons, List.map_nil]⟩
    have hL : (rowC (F.take kk) xs).length = kk := by simp [rowC]; omega
    generalize rowC (F.take kk) xs = L at HFR HN hL
    generalize F[kk] = y at hy HN
    subst hL
    have HP := Aside0.mk (HPL.out y _ HGr.out)
    clear hFC
    go_wp2_with fail
    refine HP.out.mono ?_
    rintro e w5 ⟨v, rfl, hv1, hv2, hv3, hG5⟩
    have HFR5 := Aside0.mk (HFR.out.later hG5)
    have HG5 := Aside0.mk (Below.trans HGr.out (Below.mono hG5 hsr))
    have hs5 := hG5.size
    have hs35 : w3.heap.size ≤ w5.heap.size := by omega
    clear hG5 HFR HGr k0 k1 hy HP
    by_cases hm : y ∈ xs
    ·have hge : 0 ≤ v := hv3.2 hm
     rw [if_pos hm] at HN
     have HV3 := Aside0.mk hv3
     clear hv3 hm
     go_wp2_with (at_builtin; refine append_fr w3.heap.size rfl (.tmp 34) (.tmp 35) rfl gF _ _ F L 1 rfl rfl HFR5.out hs35 (by omega) ?_; intro A9 c9 w9 hFR9 hB9; have HFR9 := Aside0.mk hFR9; have HG9 : Aside0 (Below w3.heap.size w3 w9) := ⟨Below.trans HG5.out hB9⟩; clear hFR9 hB9)
     go_roundg (F.length - (L.length + 1))
     case measure => omega
     case rel => exact ⟨L.length + 1, _, _, by omega, by omega, rfl, by go_num, ⟨by rw [HN.out]; exact HFR9.out⟩, HG9⟩
    ·have hge : ¬ 0 ≤ v := fun h => hm (hv3.1 h)
     rw [if_neg hm] at HN
     have HV3 := Aside0.mk hv3
     have HM := Aside0.mk hm
     clear hv3 hm
     go_wp2_with (at_builtin; refine append_fr w3.heap.size rfl (.tmp 37) (.tmp 38) rfl gF _ _ F L 0 rfl rfl HFR5.out hs35 (by omega) ?_; intro A9 c9 w9 hFR9 hB9; have HFR9 := Aside0.mk hFR9; have HG9 : Aside0 (Below w3.heap.size w3 w9) := ⟨Below.trans HG5.out hB9⟩; clear hFR9 hB9)
     go_roundg (F.length - (L.length + 1))
     case measure => omega
     case rel => exact ⟨L.length + 1, _, _, by omega, by omega, rfl, by go_num, ⟨by rw [HN.out]; exact HFR9.out⟩, HG9⟩
   ·obtain rfl : kk = F.length := by omega
    rw [List.take_length] at HFR
    have hltz : ¬ (F.length : Int) < (F.length : Int) := by omega
    have HTT := Aside0.mk (HT.out _ HGr.out)
    go_wp2_with fail
    refine HTT.out.mono ?_
    rintro e w5 ⟨rfl, hG5⟩
    have HFR5 := Aside0.mk (HFR.out.later hG5)
    have HG5 := Aside0.mk (Below.trans HGr.out (Below.mono hG5 hsr))
    have hs5 := hG5.size
    have hs35 : w3.heap.size ≤ w5.heap.size := by omega
    have HB5 := Aside0.mk (CB.later HBr.out hG5)
    clear hG5 HFR HGr k0 k1 HTT HBr
    have k0 := HB5.out.c0
    have k1 := HB5.out.c1
    by_cases hdt : d = topI l
    ·have HV := Aside0.mk (HVT.out hdt)
     clear HVT HVR
     go_wp2_with fail
     go_ret
     exact ⟨by rw [HV.out]; rfl, Grew.trans HG3.out HG5.out⟩
    ·have hdt2 : ¬ topI l = d := fun h => hdt h.symm
     have hlk : w.heap.size < w5.heap.size := World.block_lt_of_cell? w5 _ k0
     go_wp2_with fail
     have hlk3 : w.heap.size < w3.heap.size := by have := HS3.out; omega
     have KK : Aside0 (∀ Wy, Below w3.heap.size w5 Wy → Wy.cell? ⟨w.heap.size, 0, none⟩ = some (I n) ∧ Wy.cell? ⟨w.heap.size, 1, none⟩ = some (.slice A l.length c)) := ⟨fun Wy h => ⟨(h.cell (p := ⟨w.heap.size, 0, none⟩) hlk3).trans k0, (h.cell (p := ⟨w.heap.size, 1, none⟩) hlk3).trans k1⟩⟩
     have HA0 : Aside0 (∀ o, Below w3.heap.size w5 (w5.drew.alloc o)) := ⟨fun o => Below.mono (below_alloc (below_drew (Below.refl _ _)) o) hs35⟩
     have HD0 : Aside0 (Below w3.heap.size w5 w5.drew) := ⟨Below.mono (below_drew (Below.refl _ _)) hs35⟩
     have HR5 := Aside0.mk HFR5.out.row
     have hRl : 0 < (rowC F xs).length := by simp [rowC]; omega
     have HRL := Aside0.mk hRl
     have HML : Aside0 ((rowsL l (d + 1) 2).length ≤ 1000) := ⟨by omega⟩
     have HMR : Aside0 ((rowsL l (d + 1) 2 ++ [rowC F xs]).length ≤ 63) := ⟨by rw [List.length_append]; exact hM63⟩
     generalize rowsL l (d + 1) 2 = M at HRW HVR HGD HML HMR
     generalize rowC F xs = R at HVR HGD HR5 HRL HMR
     generalize rankL l (d + 1) 2 = rk at HRO HVR
     clear hM63 hRl HFR5
     have hw : IntKind.i64.wrap (d + 1) = d + 1 := by unfold IntKind.wrap; simp [IntKind.bits, IntKind.signed]; omega
     go_region_held3 (fun w' => w'.cell? ⟨w.heap.size, 0, none⟩ = some (I n) ∧ w'.cell? ⟨w.heap.size, 1, none⟩ = some (.slice A l.length c))
      ((refine KK.out _ ?_; first | exact HD9.out | exact HD8.out | exact HD7.out | exact HA6.out _ | exact HD6.out | exact HD0.out | exact HA0.out _))
      (first
       | (go_at_call 68; (with_reducible refine Calls.mono (HRW.out _ (Below.trans HG5.out (Below.mono ?_ hs35))) ?_); (focus (repeat (first | exact Below.refl _ _ | apply below_drew | apply pw_below_drewN | apply below_alloc))); rintro e w6 ⟨v8, vs, f, rfl, hM, hG6⟩; have HM6 := Aside0.mk hM; have HG6 := Aside0.mk hG6; have HD6g : Aside0 (Grew w5 w6) := ⟨Grew.trans (by repeat (first | exact Below.refl _ _ | apply below_drew | apply pw_below_drewN | apply below_alloc)) hG6⟩; have HD6 : Aside0 (Below w3.heap.size w5 w6) := ⟨Below.mono HD6g.out hs35⟩; have HA6 : Aside0 (∀ o, Below w3.heap.size w5 (w6.alloc o)) := ⟨fun o => Below.mono (below_alloc HD6g.out o) hs35⟩; obtain ⟨A8, c8, e8, hc8⟩ := HM6.out.slice; subst e8; clear hM hG6)
       | (go_at_call 67; refine (sRank_calls 2 (by decide) F.length hF63 (M ++ [R]) HGD.out HMR.out w3.heap.size _ vs9 f9 w7 (Nat.le_trans hs35 (Nat.le_trans (by exact Nat.le_refl _) HD7.out.size)) HM7.out).mono ?_; rintro e w8 ⟨rfl, hG8⟩; have HD8 : Aside0 (Below w3.heap.size w5 w8) := ⟨Below.trans HD7.out hG8⟩; clear hG8)
       | (go_at_call 69; refine (HRO.out _ (Below.trans HG5.out HD8.out)).mono ?_; rintro e w9 ⟨rfl, hG9⟩; have HD9 : Aside0 (Below w3.heap.size w5 w9) := ⟨Below.trans HD8.out (Below.mono hG9 (Nat.le_trans hs35 HD8.out.size))⟩; clear hG9)
       | (refine append_mat w3.heap.size _ (by rfl) _ _ (by rfl) _ vs f M ⟨.slice A7 F.length c7, rfl⟩ R _ _ (by rfl) (by rfl) (by first | exact blk_cell (blk_new _ _) 0 | exact blk_cell (blk_below (blk_new _ _) HG6.out) 0 | exact blk_cell (blk_below (blk_drew (blk_new _ _)) HG6.out) 0) (by first | exact HM6.out | exact HM6.out.below (below_alloc (Below.refl _ _) _)) (by first | exact Kd.R_below HR5.out HD6g.out | exact Kd.R_below HR5.out (below_alloc HD6g.out _)) HRL.out (fun k hk => Nat.lt_of_lt_of_le (Kd.R_lt HR5.out k hk) (by first | exact Nat.le_refl _ | (rw [World.size_alloc]; exact Nat.le_succ _) | (show w5.heap.size ≤ (w5.alloc _).heap.size; rw [World.size_alloc]; exact Nat.le_succ _))) (Nat.le_trans hs35 (by first | exact Nat.le_refl _ | (rw [World.size_alloc]; exact Nat.le_succ _) | (show w5.heap.size ≤ (w5.alloc _).heap.size; rw [World.size_alloc]; exact Nat.le_succ _))) (by first | exact HG6.out.size | exact Nat.le_trans HG6.out.size (by rw [World.size_alloc]; exact Nat.le_succ _)) HML.out ?_; intro A9 c9 vs9 f9 w7 hM7 hB7; have HM7 := Aside0.mk hM7; have HD7 : Aside0 (Below w3.heap.size w5 w7) := ⟨by first | exact Below.trans HD6.out hB7 | exact Below.trans (HA6.out _) hB7⟩; clear hM7 hB7))
     all_goals (go_wp2_with fail; go_ret; exact ⟨by rw [HVR.out]; first | rfl | simp, Grew.trans HG3.out (Below.trans HG5.out HD9.out)⟩)

end Go.Proofs.Ytjoggjgmpoaaiaa.K
end

section
/- Bounds: the program's and the reference's. -/
namespace Go.Proofs.Ytjoggjgmpoaaiaa.K
open Go.RowKit Go.Shelf Go.Proofs.Ytjoggjgmpoaaiaa.Q Go.Proofs.YtjoggjgmpoaaiaaW.PrintWords Go.Proofs.YtjoggjgmpoaaiaaW.PrintLast Go.Proofs.YtjoggjgmpoaaiaaW.PrintMore
set_option linter.unusedVariables false
set_option linter.unusedSimpArgs false

theorem chain_small {n : Int} {l xs : List Int} (hi : isC n l = true) (h : ChainOf l xs) : ∀ x ∈ xs, 0 ≤ x ∧ x ≤ 63 := fun x hx => by
  have := (isC_faces hi).2.2.1 x (h.mem x hx).1
  omega
end Go.Proofs.Ytjoggjgmpoaaiaa.K
end

section
/- Written by a program of this session (myprint.py over the kit's print). -/
namespace Go.Proofs.Ytjoggjgmpoaaiaa.Q
open Go.RowKit Go.Proofs.YtjoggjgmpoaaiaaW.PrintWords Go.Proofs.YtjoggjgmpoaaiaaW.PrintLast Go.Proofs.YtjoggjgmpoaaiaaW.PrintMore
attribute [local go_sem] max2_int min2_int max_two min_two max_three min_three max_four min_four   -- for this text's walks alone
set_option linter.unusedVariables false
set_option linter.unusedSimpArgs false

/-! ### spec_l03Sum: function 45 -/
mutual
def spec_l03Sum.l0 : Nat → List Int → List Int → List Int → Int → Int → Option (List Int)
 | 0, _, _, _, _, _ => none
 | k + 1, x0, x1, x5, x6, x7 => if x6 < (x0.length : Int) then (spec_l03Sum.j1 k x0 x1 x5 x6 x7 true) else (spec_l03Sum.j1 k x0 x1 x5 x6 x7 (decide (x7 < (x1.length : Int))))
def spec_l03Sum.j1 : Nat → List Int → List Int → List Int → Int → Int → Bool → Option (List Int)
 | 0, _, _, _, _, _, _ => none
 | k + 1, x0, x1, x5, x6, x7, x18 => if x18 = true then (if x7 = (x1.length : Int) then (spec_l03Sum.j2 k x0 x1 x5 x6 x7 true) else (if x6 < (x0.length : Int) then (if 0 ≤ x6 then (if 0 ≤ x7 then (if x7 < (x1.length : Int) then (spec_l03Sum.j2 k x0 x1 x5 x6 x7 (decide ((rd x0 x6) < (rd x1 x7)))) else (none)) else (none)) else (none)) else (spec_l03Sum.j2 k x0 x1 x5 x6 x7 false))) else (some x5)
def spec_l03Sum.j2 : Nat → List Int → List Int → List Int → Int → Int → Bool → Option (List Int)
 | 0, _, _, _, _, _, _ => none
 | k + 1, x0, x1, x5, x6, x7, x23 => if x23 = true then (if 0 ≤ x6 then (if x6 < (x0.length : Int) then (if x5.length < 17592186044416 then (spec_l03Sum.l0 k x0 x1 (x5 ++ [rd x0 x6]) (wrap64 (x6 + 1)) x7) else (none)) else (none)) else (none)) else (if x6 = (x0.length : Int) then (if 0 ≤ x7 then (if x7 < (x1.length : Int) then (if x5.length < 17592186044416 then (spec_l03Sum.l0 k x0 x1 (x5 ++ [rd x1 x7]) x6 (wrap64 (x7 + 1))) else (none)) else (none)) else (none)) else (if 0 ≤ x7 then (if x7 < (x1.length : Int) then (if 0 ≤ x6 then (if x6 < (x0.length : Int) then (if (rd x1 x7) < (rd x0 x6) then (if x5.length < 17592186044416 then (spec_l03Sum.l0 k x0 x1 (x5 ++ [rd x1 x7]) x6 (wrap64 (x7 + 1))) else (none)) else (spec_l03Sum.l0 k x0 x1 x5 (wrap64 (x6 + 1)) (wrap64 (x7 + 1)))) else (none)) else (none)) else (none)) else (none)))
end
def spec_l03Sum.f (k : Nat) (l0 : List Int) (l1 : List Int) : Option (List Int) := spec_l03Sum.l0 k l0 l1 (([] : List Int)) 0 0
theorem spec_l03Sum.mono_l : ∀ k, (∀ y0 y1 y2 y3 y4, LeO (spec_l03Sum.l0 k y0 y1 y2 y3 y4) (spec_l03Sum.l0 (k + 1) y0 y1 y2 y3 y4)) ∧ (∀ y0 y1 y2 y3 y4 y5, LeO (spec_l03Sum.j1 k y0 y1 y2 y3 y4 y5) (spec_l03Sum.j1 (k + 1) y0 y1 y2 y3 y4 y5)) ∧ (∀ y0 y1 y2 y3 y4 y5, LeO (spec_l03Sum.j2 k y0 y1 y2 y3 y4 y5) (spec_l03Sum.j2 (k + 1) y0 y1 y2 y3 y4 y5))
 | 0 => ⟨fun _ _ _ _ _ r h => by simp [spec_l03Sum.l0] at h, fun _ _ _ _ _ _ r h => by simp [spec_l03Sum.j1] at h, fun _ _ _ _ _ _ r h => by simp [spec_l03Sum.j2] at h⟩
 | k + 1 => by
  obtain ⟨ih0, ih1, ih2⟩ := spec_l03Sum.mono_l k
  refine ⟨?_, ?_, ?_⟩
  ·intro y0 y1 y2 y3 y4
   unfold spec_l03Sum.l0
   repeat' first
   | (with_reducible exact ih0 _ _ _ _ _)
   | (with_reducible exact ih1 _ _ _ _ _ _)
   | (with_reducible exact ih2 _ _ _ _ _ _)
   | (with_reducible exact LeO.refl _)
   | (with_reducible exact LeO.none _)
   | (with_reducible refine LeO.ite ?_ ?_)
   | (with_reducible refine LeO.bind ?_ (fun _ => ?_))
   | exact ih0 _ _ _ _ _
   | exact ih1 _ _ _ _ _ _
   | exact ih2 _ _ _ _ _ _
   | exact LeO.none _
   | refine LeO.ite ?_ ?_
   | refine LeO.bind ?_ (fun _ => ?_)
  ·intro y0 y1 y2 y3 y4 y5
   unfold spec_l03Sum.j1
   repeat' first
   | (with_reducible exact ih0 _ _ _ _ _)
   | (with_reducible exact ih1 _ _ _ _ _ _)
   | (with_reducible exact ih2 _ _ _ _ _ _)
   | (with_reducible exact LeO.refl _)
   | (with_reducible exact LeO.none _)
   | (with_reducible refine LeO.ite ?_ ?_)
   | (with_reducible refine LeO.bind ?_ (fun _ => ?_))
   | exact ih0 _ _ _ _ _
   | exact ih1 _ _ _ _ _ _
   | exact ih2 _ _ _ _ _ _
   | exact LeO.none _
   | refine LeO.ite ?_ ?_
   | refine LeO.bind ?_ (fun _ => ?_)
  ·intro y0 y1 y2 y3 y4 y5
   unfold spec_l03Sum.j2
   repeat' first
   | (with_reducible exact ih0 _ _ _ _ _)
   | (with_reducible exact ih1 _ _ _ _ _ _)
   | (with_reducible exact ih2 _ _ _ _ _ _)
   | (with_reducible exact LeO.refl _)
   | (with_reducible exact LeO.none _)
   | (with_reducible refine LeO.ite ?_ ?_)
   | (with_reducible refine LeO.bind ?_ (fun _ => ?_))
   | exact ih0 _ _ _ _ _
   | exact ih1 _ _ _ _ _ _
   | exact ih2 _ _ _ _ _ _
   | exact LeO.none _
   | refine LeO.ite ?_ ?_
   | refine LeO.bind ?_ (fun _ => ?_)
theorem spec_l03Sum.mono : ∀ a0 a1 k, LeO (spec_l03Sum.f k a0 a1) (spec_l03Sum.f (k + 1) a0 a1) := by
 intro a0 a1 k
 obtain ⟨ih0, ih1, ih2⟩ := spec_l03Sum.mono_l k
 unfold spec_l03Sum.f
 repeat' first
   | (with_reducible exact ih0 _ _ _ _ _)
   | (with_reducible exact ih1 _ _ _ _ _ _)
   | (with_reducible exact ih2 _ _ _ _ _ _)
   | (with_reducible exact LeO.refl _)
   | (with_reducible exact LeO.none _)
   | (with_reducible refine LeO.ite ?_ ?_)
   | (with_reducible refine LeO.bind ?_ (fun _ => ?_))
   | exact ih0 _ _ _ _ _
   | exact ih1 _ _ _ _ _ _
   | exact ih2 _ _ _ _ _ _
   | exact LeO.none _
   | refine LeO.ite ?_ ?_
   | refine LeO.bind ?_ (fun _ => ?_)
set_option maxHeartbeats 8000000 in
set_option maxRecDepth 100000 in
theorem spec_l03Sum.calls (k : Nat) (A0 : Option Addr) (c0 : Nat) (l0 : List Int) (A1 : Option Addr) (c1 : Nat) (l1 : List Int) (r : List Int) (w : World) (hr0 : Kd.C (Kd.int .i64) w A0 l0.length l0) (hc0 : l0.length ≤ c0) (hr1 : Kd.C (Kd.int .i64) w A1 l1.length l1) (hc1 : l1.length ≤ c1) (h : spec_l03Sum.f k l0 l1 = some r) :
  Calls Try.prog 45 #[.slice A0 l0.length c0, .slice A1 l1.length c1] w fun e w' => ∃ v0_ : Value, e = .returned (v0_) ∧ Kd.R (Kd.int .i64) 2 w' w.heap.size (fun _ => True) v0_ r ∧ Below w.heap.size w w' := by
 have HR0 := Aside0.mk hr0
 have HC0 := Aside0.mk hc0
 clear hr0 hc0
 have HR1 := Aside0.mk hr1
 have HC1 := Aside0.mk hc1
 clear hr1 hc1
 have HB := Aside0.mk (Below.refl w.heap.size w)
 have H : (spec_l03Sum.l0 k l0 l1 (([] : List Int)) 0 0) = some r := h
 clear h
 obtain ⟨y289, hy289⟩ : ∃ y_ : List Int, y_ = (([] : List Int)) := ⟨_, rfl⟩
 replace H : (spec_l03Sum.l0 k l0 l1 y289 0 0) = some r := by first | (rw [hy289]; with_reducible exact H) | (have H2_ := (Option.bind_some _ _).symm.trans H; rw [hy289]; with_reducible exact H2_) | (have H2_ := (Option.bind_some _ _).symm.trans H; with_reducible exact H2_) | with_reducible exact H | (rw [hy289]; exact H) | exact H
 have Ny289 := Aside0.mk hy289
 clear hy289
 have H' := Aside0.mk H
 clear H
 go_enter Try.func45, Try.ntmps45
 go_wp2_with (first | ((with_reducible refine gate_dst (N := 8) rfl ?_); (try (refine gate_guard (by rfl) ?_; dsimp only)); refine Kd.R_lit (Kd.int .i64) _ 2 ?hg (N := 8) ?hd (xs := ([] : List Int)) (inner := []) (ok := fun _ => True) (okp := fun _ => True) ?hr ?hp (fun _ hk => hk) trivial (Below.refl _ _) (Nat.le_refl _) (by simp) ?_; (case hd => rfl); (case hg => rfl); (case hr => first | (go_simp; done) | (go_simp; rfl)); (case hp => exact (Reps.none _ _)); intro v290 w3 ho4 hb hg_ hnew_; clear hg_ hnew_; (first | rw [← Ny289.out] at ho4 | (simp only [Int.reduceToNat] at ho4; rw [← Ny289.out] at ho4)); have n0_ := Aside0.mk (Kd.R_lower ho4 (below_size (by repeat (first | (with_reducible first | exact HB.out | apply below_alloc | apply pw_below_drewN | apply below_drew1) | exact HB.out)))); have n1_ := Aside0.mk (below_step (by repeat (first | (with_reducible first | exact HB.out | apply below_alloc | apply pw_below_drewN | apply below_drew1) | exact HB.out)) hb); clear HB; have HO291 := n0_; have HB := n1_; clear n0_ n1_; clear hb ho4))
 repeat (go_quiet (first | ((with_reducible refine gate_dst (N := 8) rfl ?_); (try (refine gate_guard (by rfl) ?_; dsimp only)); refine Kd.R_lit (Kd.int .i64) _ 2 ?hg (N := 8) ?hd (xs := ([] : List Int)) (inner := []) (ok := fun _ => True) (okp := fun _ => True) ?hr ?hp (fun _ hk => hk) trivial (Below.refl _ _) (Nat.le_refl _) (by simp) ?_; (case hd => rfl); (case hg => rfl); (case hr => first | (go_simp; done) | (go_simp; rfl)); (case hp => exact (Reps.none _ _)); intro v290 w3 ho4 hb hg_ hnew_; clear hg_ hnew_; (first | rw [← Ny289.out] at ho4 | (simp only [Int.reduceToNat] at ho4; rw [← Ny289.out] at ho4)); have n0_ := Aside0.mk (Kd.R_lower ho4 (below_size (by repeat (first | (with_reducible first | exact HB.out | apply below_alloc | apply pw_below_drewN | apply below_drew1) | exact HB.out)))); have n1_ := Aside0.mk (below_step (by repeat (first | (with_reducible first | exact HB.out | apply below_alloc | apply pw_below_drewN | apply below_drew1) | exact HB.out)) hb); clear HB; have HO291 := n0_; have HB := n1_; clear n0_ n1_; clear hb ho4)); try go_wp2_with (first | ((with_reducible refine gate_dst (N := 8) rfl ?_); (try (refine gate_guard (by rfl) ?_; dsimp only)); refine Kd.R_lit (Kd.int .i64) _ 2 ?hg (N := 8) ?hd (xs := ([] : List Int)) (inner := []) (ok := fun _ => True) (okp := fun _ => True) ?hr ?hp (fun _ hk => hk) trivial (Below.refl _ _) (Nat.le_refl _) (by simp) ?_; (case hd => rfl); (case hg => rfl); (case hr => first | (go_simp; done) | (go_simp; rfl)); (case hp => exact (Reps.none _ _)); intro v290 w3 ho4 hb hg_ hnew_; clear hg_ hnew_; (first | rw [← Ny289.out] at ho4 | (simp only [Int.reduceToNat] at ho4; rw [← Ny289.out] at ho4)); have n0_ := Aside0.mk (Kd.R_lower ho4 (below_size (by repeat (first | (with_reducible first | exact HB.out | apply below_alloc | apply pw_below_drewN | apply below_drew1) | exact HB.out)))); have n1_ := Aside0.mk (below_step (by repeat (first | (with_reducible first | exact HB.out | apply below_alloc | apply pw_below_drewN | apply below_drew1) | exact HB.out)) hb); clear HB; have HO291 := n0_; have HB := n1_; clear n0_ n1_; clear hb ho4)))
 go_loopg [5, 6, 7] k (fun kq v5 v6 v7 w' => ∃ (x5_1 : List Int) (x6_1 : Int) (x7_1 : Int), v6 = .int .i64 x6_1 ∧ v7 = .int .i64 x7_1 ∧ Aside0 (spec_l03Sum.l0 kq l0 l1 x5_1 x6_1 x7_1 = some r) ∧ Aside0 (kq ≤ k) ∧ Aside0 (Kd.R (Kd.int .i64) 2 w' w.heap.size (fun _ => True) v5 x5_1) ∧ Aside0 (Below w.heap.size w w'))
 case atStart => exact ⟨(y289), (0), (0), (by first | rfl | (simp; done) | (simp [*]; done)), (by first | rfl | (simp; done) | (simp [*]; done)), H', ⟨Nat.le_refl _⟩, ⟨by (with_reducible repeat (first | apply Kd.R_alloc | apply Kd.R_drewN | apply Kd.R_drew)); exact HO291.out⟩, ⟨by repeat (first | (with_reducible first | exact HB.out | apply below_alloc | apply pw_below_drewN | apply below_drew1) | exact HB.out)⟩⟩
 case round =>
  clear H'
  try clear c1
  try clear p2
  try clear c4
  obtain ⟨x5_1, x6_1, x7_1, rfl, rfl, HA, HK1, HO_5, HB⟩ := hrel
  cases gk with
  | zero => exact absurd HA.out (by simp [spec_l03Sum.l0])
  | succ k1 =>
   have H := HA.out
   clear HA
   simp only [spec_l03Sum.l0] at H
   have HC5 := Aside0.mk H
   clear H
   go_upto_region 3 with (fail)
   repeat (go_quiet (fail); go_upto_region 3 with (fail))
   go_cut [18] (fun v18 wc => ∃ (kq : Nat) (x18_4 : Bool), v18 = .bool x18_4 ∧ Aside0 (spec_l03Sum.j1 kq l0 l1 x5_1 x6_1 x7_1 x18_4 = some r) ∧ Aside0 (kq ≤ k1) ∧ Aside0 (Kd.R (Kd.int .i64) 2 wc w.heap.size (fun _ => True) u5 x5_1) ∧ Aside0 (Below w.heap.size w wc))
   case first =>
    have H := HC5.out
    clear HC5
    by_cases c6 : x6_1 < (l0.length : Int)
    ·rw [if_pos c6] at H
     have c6b0 : decide (x6_1 < (l0.length : Int)) = true := decide_eq_true c6
     clear c6
     (first | rw [c6b0] | (simp only [i64_w, i32_w]; rw [c6b0]) | skip)
     have H' := Aside0.mk H
     clear H
     go_wp2
     repeat (go_quiet (fail); try go_wp2)
     go_meet
     case rel => exact ⟨_, (true), (by first | rfl | (simp; done) | (simp [*]; done)), H', ⟨by have := HK1.out; first | omega | exact Nat.le_refl _⟩, ⟨by (with_reducible repeat (first | apply Kd.R_alloc | apply Kd.R_drewN | apply Kd.R_drew)); exact HO_5.out⟩, ⟨by repeat (first | (with_reducible first | exact HB.out | apply below_alloc | apply pw_below_drewN | apply below_drew1) | exact HB.out)⟩⟩
    ·rw [if_neg c6] at H
     have c6b0 : decide (x6_1 < (l0.length : Int)) = false := decide_eq_false c6
     clear c6
     (first | rw [c6b0] | (simp only [i64_w, i32_w]; rw [c6b0]) | skip)
     have H' := Aside0.mk H
     clear H
     go_wp2
     repeat (go_quiet (fail); try go_wp2)
     go_meet
     case rel => exact ⟨_, (decide (x7_1 < (l1.length : Int))), (by first | rfl | (simp; done) | (simp [*]; done)), H', ⟨by have := HK1.out; first | omega | exact Nat.le_refl _⟩, ⟨by (with_reducible repeat (first | apply Kd.R_alloc | apply Kd.R_drewN | apply Kd.R_drew)); exact HO_5.out⟩, ⟨by repeat (first | (with_reducible first | exact HB.out | apply below_alloc | apply pw_below_drewN | apply below_drew1) | exact HB.out)⟩⟩
   case rest =>
    clear HC5
    try clear c1
    try clear p2
    try clear c4
    try clear c6
    try clear c6b0
    try clear p2
    obtain ⟨kq, x18_4, rfl, HA, HJ4, HO_5, HB⟩ := hcut
    cases kq with
    | zero => exact absurd HA.out (by simp [spec_l03Sum.j1])
    | succ kj4 =>
     have H := HA.out
     clear HA
     simp only [spec_l03Sum.j1] at H
     by_cases c7 : x18_4 = true
     ·subst c7
      have H1 : (if x7_1 = (l1.length : Int) then (spec_l03Sum.j2 kj4 l0 l1 x5_1 x6_1 x7_1 true) else (if x6_1 < (l0.length : Int) then (if 0 ≤ x6_1 then (if 0 ≤ x7_1 then (if x7_1 < (l1.length : Int) then (spec_l03Sum.j2 kj4 l0 l1 x5_1 x6_1 x7_1 (decide ((rd l0 x6_1) < (rd l1 x7_1)))) else (none)) else (none)) else (none)) else (spec_l03Sum.j2 kj4 l0 l1 x5_1 x6_1 x7_1 false))) = some r := by rw [if_pos rfl] at H; exact H
      clear H
      have H := H1
      clear H1
      have HC8 := Aside0.mk H
      clear H
      go_upto_region 6 with (fail)
      repeat (go_quiet (fail); go_upto_region 6 with (fail))
      go_cut [23] (fun v23 wc => ∃ (kq : Nat) (x23_7 : Bool), v23 = .bool x23_7 ∧ Aside0 (spec_l03Sum.j2 kq l0 l1 x5_1 x6_1 x7_1 x23_7 = some r) ∧ Aside0 (kq ≤ kj4) ∧ Aside0 (Kd.R (Kd.int .i64) 2 wc w.heap.size (fun _ => True) u5 x5_1) ∧ Aside0 (Below w.heap.size w wc))
      case first =>
       have H := HC8.out
       clear HC8
       by_cases c9 : x7_1 = (l1.length : Int)
       ·rw [if_pos c9] at H
        have c9b0 : (x7_1 == (l1.length : Int)) = true := beq_iff_eq.mpr c9
        have c9b1 : (x7_1 != (l1.length : Int)) = false := bne_eq_false_iff_eq.mpr c9
        clear c9
        (first | rw [c9b0] | (simp only [i64_w, i32_w]; rw [c9b0]) | skip)
        have H' := Aside0.mk H
        clear H
        go_wp2
        repeat (go_quiet (fail); try go_wp2)
        go_meet
        case rel => exact ⟨_, (true), (by first | rfl | (simp; done) | (simp [*]; done)), H', ⟨by have := HK1.out; have := HJ4.out; first | omega | exact Nat.le_refl _⟩, ⟨by (with_reducible repeat (first | apply Kd.R_alloc | apply Kd.R_drewN | apply Kd.R_drew)); exact HO_5.out⟩, ⟨by repeat (first | (with_reducible first | exact HB.out | apply below_alloc | apply pw_below_drewN | apply below_drew1) | exact HB.out)⟩⟩
       ·rw [if_neg c9] at H
        have c9b0 : (x7_1 == (l1.length : Int)) = false := beq_eq_false_iff_ne.mpr c9
        have c9b1 : (x7_1 != (l1.length : Int)) = true := bne_iff_ne.mpr c9
        (first | rw [c9b0] | (simp only [i64_w, i32_w]; rw [c9b0]) | skip)
        by_cases c10 : x6_1 < (l0.length : Int)
        ·rw [if_pos c10] at H
         have c10b0 : decide (x6_1 < (l0.length : Int)) = true := decide_eq_true c10
         clear c10
         by_cases c11 : 0 ≤ x6_1
         ·rw [if_pos c11] at H
          have c11b0 : decide (0 ≤ x6_1) = true := decide_eq_true c11
          clear c11
          by_cases c12 : 0 ≤ x7_1
          ·rw [if_pos c12] at H
           have c12b0 : decide (0 ≤ x7_1) = true := decide_eq_true c12
           clear c12
           by_cases c13 : x7_1 < (l1.length : Int)
           ·rw [if_pos c13] at H
            have c13b0 : decide (x7_1 < (l1.length : Int)) = true := decide_eq_true c13
            clear c13
            have H' := Aside0.mk H
            clear H
            have p292 : 0 ≤ (x6_1 : Int) := of_decide_eq_true (by first | (with_reducible assumption) | assumption)
            have q292 : x6_1 < (l0.length : Int) := of_decide_eq_true (by first | (with_reducible assumption) | assumption)
            obtain ⟨ad292, e292, hx292_0⟩ := Kd.at_int HR0.out x6_1 p292 q292
            cases e292
            replace hx292_0 := (HB.out.cell (World.block_lt_of_cell? w _ hx292_0)).trans hx292_0
            replace p292 := eq_true p292
            replace q292 := eq_true q292
            have p293 : 0 ≤ (x7_1 : Int) := of_decide_eq_true (by first | (with_reducible assumption) | assumption)
            have q293 : x7_1 < (l1.length : Int) := of_decide_eq_true (by first | (with_reducible assumption) | assumption)
            obtain ⟨ad293, e293, hx293_0⟩ := Kd.at_int HR1.out x7_1 p293 q293
            cases e293
            replace hx293_0 := (HB.out.cell (World.block_lt_of_cell? w _ hx293_0)).trans hx293_0
            replace p293 := eq_true p293
            replace q293 := eq_true q293
            go_wp2
            repeat (go_quiet (fail); try go_wp2)
            go_meet
            case rel => exact ⟨_, (decide ((rd l0 x6_1) < (rd l1 x7_1))), (by first | rfl | (simp; done) | (simp [*]; done)), H', ⟨by have := HK1.out; have := HJ4.out; first | omega | exact Nat.le_refl _⟩, ⟨by (with_reducible repeat (first | apply Kd.R_alloc | apply Kd.R_drewN | apply Kd.R_drew)); exact HO_5.out⟩, ⟨by repeat (first | (with_reducible first | exact HB.out | apply below_alloc | apply pw_below_drewN | apply below_drew1) | exact HB.out)⟩⟩
           ·rw [if_neg c13] at H
            exact absurd H (by simp)
          ·rw [if_neg c12] at H
           exact absurd H (by simp)
         ·rw [if_neg c11] at H
          exact absurd H (by simp)
        ·rw [if_neg c10] at H
         have c10b0 : decide (x6_1 < (l0.length : Int)) = false := decide_eq_false c10
         clear c10
         have H' := Aside0.mk H
         clear H
         go_wp2
         repeat (go_quiet (fail); try go_wp2)
         go_meet
         case rel => exact ⟨_, (false), (by first | rfl | (simp; done) | (simp [*]; done)), H', ⟨by have := HK1.out; have := HJ4.out; first | omega | exact Nat.le_refl _⟩, ⟨by (with_reducible repeat (first | apply Kd.R_alloc | apply Kd.R_drewN | apply Kd.R_drew)); exact HO_5.out⟩, ⟨by repeat (first | (with_reducible first | exact HB.out | apply below_alloc | apply pw_below_drewN | apply below_drew1) | exact HB.out)⟩⟩
      case rest =>
       clear HC8
       try clear c1
       try clear p2
       try clear q2
       try clear hx2
       try clear c4
       try clear c6
       try clear c6b0
       try clear c7
       try clear c9
       try clear c9b0
       try clear c9b1
       try clear c10
       try clear c10b0
       try clear c11
       try clear c11b0
       try clear c12
       try clear c12b0
       try clear c13
       try clear c13b0
       try clear hx292_0
       try clear hx293_0
       try clear p2
       try clear p292
       try clear p293
       try clear q292
       try clear q293
       obtain ⟨kq, x23_7, rfl, HA, HJ7, HO_5, HB⟩ := hcut
       cases kq with
       | zero => exact absurd HA.out (by simp [spec_l03Sum.j2])
       | succ kj7 =>
        have H := HA.out
        clear HA
        simp only [spec_l03Sum.j2] at H
        by_cases c14 : x23_7 = true
        ·subst c14
         have H1 : (if 0 ≤ x6_1 then (if x6_1 < (l0.length : Int) then (if x5_1.length < 17592186044416 then (spec_l03Sum.l0 kj7 l0 l1 (x5_1 ++ [rd l0 x6_1]) (wrap64 (x6_1 + 1)) x7_1) else (none)) else (none)) else (none)) = some r := by rw [if_pos rfl] at H; exact H
         clear H
         have H := H1
         clear H1
         by_cases c15 : 0 ≤ x6_1
         ·rw [if_pos c15] at H
          have c15b0 : decide (0 ≤ x6_1) = true := decide_eq_true c15
          clear c15
          by_cases c16 : x6_1 < (l0.length : Int)
          ·rw [if_pos c16] at H
           have c16b0 : decide (x6_1 < (l0.length : Int)) = true := decide_eq_true c16
           clear c16
           by_cases c17 : x5_1.length < 17592186044416
           ·rw [if_pos c17] at H
            have LMc17 := Aside0.mk c17
            clear c17
            obtain ⟨y295, hy295⟩ : ∃ y_ : List Int, y_ = (x5_1 ++ [rd l0 x6_1]) := ⟨_, rfl⟩
            replace H : (spec_l03Sum.l0 kj7 l0 l1 y295 (wrap64 (x6_1 + 1)) x7_1) = some r := by first | (rw [hy295]; with_reducible exact H) | (have H2_ := (Option.bind_some _ _).symm.trans H; rw [hy295]; with_reducible exact H2_) | (have H2_ := (Option.bind_some _ _).symm.trans H; with_reducible exact H2_) | with_reducible exact H | (rw [hy295]; exact H) | exact H
            have Ny295 := Aside0.mk hy295
            clear hy295
            have H' := Aside0.mk H
            clear H
            have p294 : 0 ≤ (x6_1 : Int) := of_decide_eq_true (by first | (with_reducible assumption) | assumption)
            have q294 : x6_1 < (l0.length : Int) := of_decide_eq_true (by first | (with_reducible assumption) | assumption)
            obtain ⟨ad294, e294, hx294_0⟩ := Kd.at_int HR0.out x6_1 p294 q294
            cases e294
            replace hx294_0 := (HB.out.cell (World.block_lt_of_cell? w _ hx294_0)).trans hx294_0
            replace p294 := eq_true p294
            replace q294 := eq_true q294
            go_wp2_with (first | ((with_reducible refine gate_builtin (b := .append) (xs := #[.tmp 45, .tmp 50]) rfl ?_); (try (refine gate_guard (by rfl) ?_; dsimp only)); at_builtin; refine Kd.R_append (Kd.int .i64) (w0 := w) w.heap.size rfl (.tmp 45) (.tmp 50) 22 2 (.int .i64 0) 8 rfl Try.underlying22 info2 rfl (by decide) (by omega) u5 x5_1 (rd l0 x6_1) [.int .i64 (rd l0 x6_1)] (fun _ => True) (fun _ => False) rfl rfl ?aP (fun _ hk => hk.elim) ?aF ?aO ?aB ?aS ?aL ?_; (case aP => exact rfl); (case aB => exact (by repeat (first | (with_reducible first | exact HB.out | apply below_alloc | apply pw_below_drewN | apply below_drew1) | exact HB.out))); (case aF => exact (fun _ _ => trivial)); (case aO => exact (by (with_reducible repeat (first | apply Kd.R_alloc | apply Kd.R_drewN | apply Kd.R_drew)); exact HO_5.out)); (case aS => exact (below_size (by repeat (first | (with_reducible first | exact HB.out | apply below_alloc | apply pw_below_drewN | apply below_drew1) | exact HB.out)))); (case aL => have := LMc17.out; omega); intro v296 w18 ho hb hg hat; rw [← Ny295.out] at ho; have n0_ := Aside0.mk (hb); have n1_ := Aside0.mk (ho); clear HB; clear HO_5; have HB := n0_; have HO297 := n1_; clear n0_ n1_; clear ho hb hg hat))
            repeat (go_quiet (first | ((with_reducible refine gate_builtin (b := .append) (xs := #[.tmp 45, .tmp 50]) rfl ?_); (try (refine gate_guard (by rfl) ?_; dsimp only)); at_builtin; refine Kd.R_append (Kd.int .i64) (w0 := w) w.heap.size rfl (.tmp 45) (.tmp 50) 22 2 (.int .i64 0) 8 rfl Try.underlying22 info2 rfl (by decide) (by omega) u5 x5_1 (rd l0 x6_1) [.int .i64 (rd l0 x6_1)] (fun _ => True) (fun _ => False) rfl rfl ?aP (fun _ hk => hk.elim) ?aF ?aO ?aB ?aS ?aL ?_; (case aP => exact rfl); (case aB => exact (by repeat (first | (with_reducible first | exact HB.out | apply below_alloc | apply pw_below_drewN | apply below_drew1) | exact HB.out))); (case aF => exact (fun _ _ => trivial)); (case aO => exact (by (with_reducible repeat (first | apply Kd.R_alloc | apply Kd.R_drewN | apply Kd.R_drew)); exact HO_5.out)); (case aS => exact (below_size (by repeat (first | (with_reducible first | exact HB.out | apply below_alloc | apply pw_below_drewN | apply below_drew1) | exact HB.out)))); (case aL => have := LMc17.out; omega); intro v296 w18 ho hb hg hat; rw [← Ny295.out] at ho; have n0_ := Aside0.mk (hb); have n1_ := Aside0.mk (ho); clear HB; clear HO_5; have HB := n0_; have HO297 := n1_; clear n0_ n1_; clear ho hb hg hat)); try go_wp2_with (first | ((with_reducible refine gate_builtin (b := .append) (xs := #[.tmp 45, .tmp 50]) rfl ?_); (try (refine gate_guard (by rfl) ?_; dsimp only)); at_builtin; refine Kd.R_append (Kd.int .i64) (w0 := w) w.heap.size rfl (.tmp 45) (.tmp 50) 22 2 (.int .i64 0) 8 rfl Try.underlying22 info2 rfl (by decide) (by omega) u5 x5_1 (rd l0 x6_1) [.int .i64 (rd l0 x6_1)] (fun _ => True) (fun _ => False) rfl rfl ?aP (fun _ hk => hk.elim) ?aF ?aO ?aB ?aS ?aL ?_; (case aP => exact rfl); (case aB => exact (by repeat (first | (with_reducible first | exact HB.out | apply below_alloc | apply pw_below_drewN | apply below_drew1) | exact HB.out))); (case aF => exact (fun _ _ => trivial)); (case aO => exact (by (with_reducible repeat (first | apply Kd.R_alloc | apply Kd.R_drewN | apply Kd.R_drew)); exact HO_5.out)); (case aS => exact (below_size (by repeat (first | (with_reducible first | exact HB.out | apply below_alloc | apply pw_below_drewN | apply below_drew1) | exact HB.out)))); (case aL => have := LMc17.out; omega); intro v296 w18 ho hb hg hat; rw [← Ny295.out] at ho; have n0_ := Aside0.mk (hb); have n1_ := Aside0.mk (ho); clear HB; clear HO_5; have HB := n0_; have HO297 := n1_; clear n0_ n1_; clear ho hb hg hat)))
            go_roundg kj7
            case measure => have := HK1.out; have := HJ4.out; have := HJ7.out; omega
            case rel => exact ⟨(y295), (wrap64 (x6_1 + 1)), (x7_1), (by first | rfl | (simp; done) | (simp [*]; done)), (by first | rfl | (simp; done) | (simp [*]; done)), H', ⟨by have := HK1.out; have := HJ4.out; have := HJ7.out; omega⟩, ⟨by (with_reducible repeat (first | apply Kd.R_alloc | apply Kd.R_drewN | apply Kd.R_drew)); exact HO297.out⟩, ⟨by repeat (first | (with_reducible first | exact HB.out | apply below_alloc | apply pw_below_drewN | apply below_drew1) | exact HB.out)⟩⟩
           ·rw [if_neg c17] at H
            exact absurd H (by simp)
          ·rw [if_neg c16] at H
           exact absurd H (by simp)
         ·rw [if_neg c15] at H
          exact absurd H (by simp)
        ·replace c14 := Bool.eq_false_iff.mpr c14
         subst c14
         have H1 : (if x6_1 = (l0.length : Int) then (if 0 ≤ x7_1 then (if x7_1 < (l1.length : Int) then (if x5_1.length < 17592186044416 then (spec_l03Sum.l0 kj7 l0 l1 (x5_1 ++ [rd l1 x7_1]) x6_1 (wrap64 (x7_1 + 1))) else (none)) else (none)) else (none)) else (if 0 ≤ x7_1 then (if x7_1 < (l1.length : Int) then (if 0 ≤ x6_1 then (if x6_1 < (l0.length : Int) then (if (rd l1 x7_1) < (rd l0 x6_1) then (if x5_1.length < 17592186044416 then (spec_l03Sum.l0 kj7 l0 l1 (x5_1 ++ [rd l1 x7_1]) x6_1 (wrap64 (x7_1 + 1))) else (none)) else (spec_l03Sum.l0 kj7 l0 l1 x5_1 (wrap64 (x6_1 + 1)) (wrap64 (x7_1 + 1)))) else (none)) else (none)) else (none)) else (none))) = some r := by rw [if_neg (show ¬ (false = true) by decide)] at H; exact H
         clear H
         have H := H1
         clear H1
         by_cases c19 : x6_1 = (l0.length : Int)
         ·rw [if_pos c19] at H
          have c19b0 : (x6_1 == (l0.length : Int)) = true := beq_iff_eq.mpr c19
          have c19b1 : (x6_1 != (l0.length : Int)) = false := bne_eq_false_iff_eq.mpr c19
          clear c19
          by_cases c20 : 0 ≤ x7_1
          ·rw [if_pos c20] at H
           have c20b0 : decide (0 ≤ x7_1) = true := decide_eq_true c20
           clear c20
           by_cases c21 : x7_1 < (l1.length : Int)
           ·rw [if_pos c21] at H
            have c21b0 : decide (x7_1 < (l1.length : Int)) = true := decide_eq_true c21
            clear c21
            by_cases c22 : x5_1.length < 17592186044416
            ·rw [if_pos c22] at H
             have LMc22 := Aside0.mk c22
             clear c22
             obtain ⟨y299, hy299⟩ : ∃ y_ : List Int, y_ = (x5_1 ++ [rd l1 x7_1]) := ⟨_, rfl⟩
             replace H : (spec_l03Sum.l0 kj7 l0 l1 y299 x6_1 (wrap64 (x7_1 + 1))) = some r := by first | (rw [hy299]; with_reducible exact H) | (have H2_ := (Option.bind_some _ _).symm.trans H; rw [hy299]; with_reducible exact H2_) | (have H2_ := (Option.bind_some _ _).symm.trans H; with_reducible exact H2_) | with_reducible exact H | (rw [hy299]; exact H) | exact H
             have Ny299 := Aside0.mk hy299
             clear hy299
             have H' := Aside0.mk H
             clear H
             have p298 : 0 ≤ (x7_1 : Int) := of_decide_eq_true (by first | (with_reducible assumption) | assumption)
             have q298 : x7_1 < (l1.length : Int) := of_decide_eq_true (by first | (with_reducible assumption) | assumption)
             obtain ⟨ad298, e298, hx298_0⟩ := Kd.at_int HR1.out x7_1 p298 q298
             cases e298
             replace hx298_0 := (HB.out.cell (World.block_lt_of_cell? w _ hx298_0)).trans hx298_0
             replace p298 := eq_true p298
             replace q298 := eq_true q298
             go_wp2_with (first | ((with_reducible refine gate_builtin (b := .append) (xs := #[.tmp 70, .tmp 75]) rfl ?_); (try (refine gate_guard (by rfl) ?_; dsimp only)); at_builtin; refine Kd.R_append (Kd.int .i64) (w0 := w) w.heap.size rfl (.tmp 70) (.tmp 75) 22 2 (.int .i64 0) 8 rfl Try.underlying22 info2 rfl (by decide) (by omega) u5 x5_1 (rd l1 x7_1) [.int .i64 (rd l1 x7_1)] (fun _ => True) (fun _ => False) rfl rfl ?aP (fun _ hk => hk.elim) ?aF ?aO ?aB ?aS ?aL ?_; (case aP => exact rfl); (case aB => exact (by repeat (first | (with_reducible first | exact HB.out | apply below_alloc | apply pw_below_drewN | apply below_drew1) | exact HB.out))); (case aF => exact (fun _ _ => trivial)); (case aO => exact (by (with_reducible repeat (first | apply Kd.R_alloc | apply Kd.R_drewN | apply Kd.R_drew)); exact HO_5.out)); (case aS => exact (below_size (by repeat (first | (with_reducible first | exact HB.out | apply below_alloc | apply pw_below_drewN | apply below_drew1) | exact HB.out)))); (case aL => have := LMc22.out; omega); intro v300 w23 ho hb hg hat; rw [← Ny299.out] at ho; have n0_ := Aside0.mk (hb); have n1_ := Aside0.mk (ho); clear HB; clear HO_5; have HB := n0_; have HO301 := n1_; clear n0_ n1_; clear ho hb hg hat))
             repeat (go_quiet (first | ((with_reducible refine gate_builtin (b := .append) (xs := #[.tmp 70, .tmp 75]) rfl ?_); (try (refine gate_guard (by rfl) ?_; dsimp only)); at_builtin; refine Kd.R_append (Kd.int .i64) (w0 := w) w.heap.size rfl (.tmp 70) (.tmp 75) 22 2 (.int .i64 0) 8 rfl Try.underlying22 info2 rfl (by decide) (by omega) u5 x5_1 (rd l1 x7_1) [.int .i64 (rd l1 x7_1)] (fun _ => True) (fun _ => False) rfl rfl ?aP (fun _ hk => hk.elim) ?aF ?aO ?aB ?aS ?aL ?_; (case aP => exact rfl); (case aB => exact (by repeat (first | (with_reducible first | exact HB.out | apply below_alloc | apply pw_below_drewN | apply below_drew1) | exact HB.out))); (case aF => exact (fun _ _ => trivial)); (case aO => exact (by (with_reducible repeat (first | apply Kd.R_alloc | apply Kd.R_drewN | apply Kd.R_drew)); exact HO_5.out)); (case aS => exact (below_size (by repeat (first | (with_reducible first | exact HB.out | apply below_alloc | apply pw_below_drewN | apply below_drew1) | exact HB.out)))); (case aL => have := LMc22.out; omega); intro v300 w23 ho hb hg hat; rw [← Ny299.out] at ho; have n0_ := Aside0.mk (hb); have n1_ := Aside0.mk (ho); clear HB; clear HO_5; have HB := n0_; have HO301 := n1_; clear n0_ n1_; clear ho hb hg hat)); try go_wp2_with (first | ((with_reducible refine gate_builtin (b := .append) (xs := #[.tmp 70, .tmp 75]) rfl ?_); (try (refine gate_guard (by rfl) ?_; dsimp only)); at_builtin; refine Kd.R_append (Kd.int .i64) (w0 := w) w.heap.size rfl (.tmp 70) (.tmp 75) 22 2 (.int .i64 0) 8 rfl Try.underlying22 info2 rfl (by decide) (by omega) u5 x5_1 (rd l1 x7_1) [.int .i64 (rd l1 x7_1)] (fun _ => True) (fun _ => False) rfl rfl ?aP (fun _ hk => hk.elim) ?aF ?aO ?aB ?aS ?aL ?_; (case aP => exact rfl); (case aB => exact (by repeat (first | (with_reducible first | exact HB.out | apply below_alloc | apply pw_below_drewN | apply below_drew1) | exact HB.out))); (case aF => exact (fun _ _ => trivial)); (case aO => exact (by (with_reducible repeat (first | apply Kd.R_alloc | apply Kd.R_drewN | apply Kd.R_drew)); exact HO_5.out)); (case aS => exact (below_size (by repeat (first | (with_reducible first | exact HB.out | apply below_alloc | apply pw_below_drewN | apply below_drew1) | exact HB.out)))); (case aL => have := LMc22.out; omega); intro v300 w23 ho hb hg hat; rw [← Ny299.out] at ho; have n0_ := Aside0.mk (hb); have n1_ := Aside0.mk (ho); clear HB; clear HO_5; have HB := n0_; have HO301 := n1_; clear n0_ n1_; clear ho hb hg hat)))
             go_roundg kj7
             case measure => have := HK1.out; have := HJ4.out; have := HJ7.out; omega
             case rel => exact ⟨(y299), (x6_1), (wrap64 (x7_1 + 1)), (by first | rfl | (simp; done) | (simp [*]; done)), (by first | rfl | (simp; done) | (simp [*]; done)), H', ⟨by have := HK1.out; have := HJ4.out; have := HJ7.out; omega⟩, ⟨by (with_reducible repeat (first | apply Kd.R_alloc | apply Kd.R_drewN | apply Kd.R_drew)); exact HO301.out⟩, ⟨by repeat (first | (with_reducible first | exact HB.out | apply below_alloc | apply pw_below_drewN | apply below_drew1) | exact HB.out)⟩⟩
            ·rw [if_neg c22] at H
             exact absurd H (by simp)
           ·rw [if_neg c21] at H
            exact absurd H (by simp)
          ·rw [if_neg c20] at H
           exact absurd H (by simp)
         ·rw [if_neg c19] at H
          have c19b0 : (x6_1 == (l0.length : Int)) = false := beq_eq_false_iff_ne.mpr c19
          have c19b1 : (x6_1 != (l0.length : Int)) = true := bne_iff_ne.mpr c19
          by_cases c24 : 0 ≤ x7_1
          ·rw [if_pos c24] at H
           have c24b0 : decide (0 ≤ x7_1) = true := decide_eq_true c24
           clear c24
           by_cases c25 : x7_1 < (l1.length : Int)
           ·rw [if_pos c25] at H
            have c25b0 : decide (x7_1 < (l1.length : Int)) = true := decide_eq_true c25
            clear c25
            by_cases c26 : 0 ≤ x6_1
            ·rw [if_pos c26] at H
             have c26b0 : decide (0 ≤ x6_1) = true := decide_eq_true c26
             clear c26
             by_cases c27 : x6_1 < (l0.length : Int)
             ·rw [if_pos c27] at H
              have c27b0 : decide (x6_1 < (l0.length : Int)) = true := decide_eq_true c27
              clear c27
              by_cases c28 : (rd l1 x7_1) < (rd l0 x6_1)
              ·rw [if_pos c28] at H
               have c28b0 : decide ((rd l1 x7_1) < (rd l0 x6_1)) = true := decide_eq_true c28
               clear c28
               by_cases c29 : x5_1.length < 17592186044416
               ·rw [if_pos c29] at H
                have LMc29 := Aside0.mk c29
                clear c29
                obtain ⟨y305, hy305⟩ : ∃ y_ : List Int, y_ = (x5_1 ++ [rd l1 x7_1]) := ⟨_, rfl⟩
                replace H : (spec_l03Sum.l0 kj7 l0 l1 y305 x6_1 (wrap64 (x7_1 + 1))) = some r := by first | (rw [hy305]; with_reducible exact H) | (have H2_ := (Option.bind_some _ _).symm.trans H; rw [hy305]; with_reducible exact H2_) | (have H2_ := (Option.bind_some _ _).symm.trans H; with_reducible exact H2_) | with_reducible exact H | (rw [hy305]; exact H) | exact H
                have Ny305 := Aside0.mk hy305
                clear hy305
                have H' := Aside0.mk H
                clear H
                have p302 : 0 ≤ (x7_1 : Int) := of_decide_eq_true (by first | (with_reducible assumption) | assumption)
                have q302 : x7_1 < (l1.length : Int) := of_decide_eq_true (by first | (with_reducible assumption) | assumption)
                obtain ⟨ad302, e302, hx302_0⟩ := Kd.at_int HR1.out x7_1 p302 q302
                cases e302
                replace hx302_0 := (HB.out.cell (World.block_lt_of_cell? w _ hx302_0)).trans hx302_0
                replace p302 := eq_true p302
                replace q302 := eq_true q302
                have p303 : 0 ≤ (x6_1 : Int) := of_decide_eq_true (by first | (with_reducible assumption) | assumption)
                have q303 : x6_1 < (l0.length : Int) := of_decide_eq_true (by first | (with_reducible assumption) | assumption)
                obtain ⟨ad303, e303, hx303_0⟩ := Kd.at_int HR0.out x6_1 p303 q303
                cases e303
                replace hx303_0 := (HB.out.cell (World.block_lt_of_cell? w _ hx303_0)).trans hx303_0
                replace p303 := eq_true p303
                replace q303 := eq_true q303
                have p304 : 0 ≤ (x7_1 : Int) := of_decide_eq_true (by first | (with_reducible assumption) | assumption)
                have q304 : x7_1 < (l1.length : Int) := of_decide_eq_true (by first | (with_reducible assumption) | assumption)
                obtain ⟨ad304, e304, hx304_0⟩ := Kd.at_int HR1.out x7_1 p304 q304
                obtain rfl : ad302 = ad304 := (by injection e304)
                replace hx304_0 := (HB.out.cell (World.block_lt_of_cell? w _ hx304_0)).trans hx304_0
                replace p304 := eq_true p304
                replace q304 := eq_true q304
                go_wp2_with (first | ((with_reducible refine gate_builtin (b := .append) (xs := #[.tmp 70, .tmp 75]) rfl ?_); (try (refine gate_guard (by rfl) ?_; dsimp only)); at_builtin; refine Kd.R_append (Kd.int .i64) (w0 := w) w.heap.size rfl (.tmp 70) (.tmp 75) 22 2 (.int .i64 0) 8 rfl Try.underlying22 info2 rfl (by decide) (by omega) u5 x5_1 (rd l1 x7_1) [.int .i64 (rd l1 x7_1)] (fun _ => True) (fun _ => False) rfl rfl ?aP (fun _ hk => hk.elim) ?aF ?aO ?aB ?aS ?aL ?_; (case aP => exact rfl); (case aB => exact (by repeat (first | (with_reducible first | exact HB.out | apply below_alloc | apply pw_below_drewN | apply below_drew1) | exact HB.out))); (case aF => exact (fun _ _ => trivial)); (case aO => exact (by (with_reducible repeat (first | apply Kd.R_alloc | apply Kd.R_drewN | apply Kd.R_drew)); exact HO_5.out)); (case aS => exact (below_size (by repeat (first | (with_reducible first | exact HB.out | apply below_alloc | apply pw_below_drewN | apply below_drew1) | exact HB.out)))); (case aL => have := LMc29.out; omega); intro v306 w30 ho hb hg hat; rw [← Ny305.out] at ho; have n0_ := Aside0.mk (hb); have n1_ := Aside0.mk (ho); clear HB; clear HO_5; have HB := n0_; have HO307 := n1_; clear n0_ n1_; clear ho hb hg hat))
                repeat (go_quiet (first | ((with_reducible refine gate_builtin (b := .append) (xs := #[.tmp 70, .tmp 75]) rfl ?_); (try (refine gate_guard (by rfl) ?_; dsimp only)); at_builtin; refine Kd.R_append (Kd.int .i64) (w0 := w) w.heap.size rfl (.tmp 70) (.tmp 75) 22 2 (.int .i64 0) 8 rfl Try.underlying22 info2 rfl (by decide) (by omega) u5 x5_1 (rd l1 x7_1) [.int .i64 (rd l1 x7_1)] (fun _ => True) (fun _ => False) rfl rfl ?aP (fun _ hk => hk.elim) ?aF ?aO ?aB ?aS ?aL ?_; (case aP => exact rfl); (case aB => exact (by repeat (first | (with_reducible first | exact HB.out | apply below_alloc | apply pw_below_drewN | apply below_drew1) | exact HB.out))); (case aF => exact (fun _ _ => trivial)); (case aO => exact (by (with_reducible repeat (first | apply Kd.R_alloc | apply Kd.R_drewN | apply Kd.R_drew)); exact HO_5.out)); (case aS => exact (below_size (by repeat (first | (with_reducible first | exact HB.out | apply below_alloc | apply pw_below_drewN | apply below_drew1) | exact HB.out)))); (case aL => have := LMc29.out; omega); intro v306 w30 ho hb hg hat; rw [← Ny305.out] at ho; have n0_ := Aside0.mk (hb); have n1_ := Aside0.mk (ho); clear HB; clear HO_5; have HB := n0_; have HO307 := n1_; clear n0_ n1_; clear ho hb hg hat)); try go_wp2_with (first | ((with_reducible refine gate_builtin (b := .append) (xs := #[.tmp 70, .tmp 75]) rfl ?_); (try (refine gate_guard (by rfl) ?_; dsimp only)); at_builtin; refine Kd.R_append (Kd.int .i64) (w0 := w) w.heap.size rfl (.tmp 70) (.tmp 75) 22 2 (.int .i64 0) 8 rfl Try.underlying22 info2 rfl (by decide) (by omega) u5 x5_1 (rd l1 x7_1) [.int .i64 (rd l1 x7_1)] (fun _ => True) (fun _ => False) rfl rfl ?aP (fun _ hk => hk.elim) ?aF ?aO ?aB ?aS ?aL ?_; (case aP => exact rfl); (case aB => exact (by repeat (first | (with_reducible first | exact HB.out | apply below_alloc | apply pw_below_drewN | apply below_drew1) | exact HB.out))); (case aF => exact (fun _ _ => trivial)); (case aO => exact (by (with_reducible repeat (first | apply Kd.R_alloc | apply Kd.R_drewN | apply Kd.R_drew)); exact HO_5.out)); (case aS => exact (below_size (by repeat (first | (with_reducible first | exact HB.out | apply below_alloc | apply pw_below_drewN | apply below_drew1) | exact HB.out)))); (case aL => have := LMc29.out; omega); intro v306 w30 ho hb hg hat; rw [← Ny305.out] at ho; have n0_ := Aside0.mk (hb); have n1_ := Aside0.mk (ho); clear HB; clear HO_5; have HB := n0_; have HO307 := n1_; clear n0_ n1_; clear ho hb hg hat)))
                go_roundg kj7
                case measure => have := HK1.out; have := HJ4.out; have := HJ7.out; omega
                case rel => exact ⟨(y305), (x6_1), (wrap64 (x7_1 + 1)), (by first | rfl | (simp; done) | (simp [*]; done)), (by first | rfl | (simp; done) | (simp [*]; done)), H', ⟨by have := HK1.out; have := HJ4.out; have := HJ7.out; omega⟩, ⟨by (with_reducible repeat (first | apply Kd.R_alloc | apply Kd.R_drewN | apply Kd.R_drew)); exact HO307.out⟩, ⟨by repeat (first | (with_reducible first | exact HB.out | apply below_alloc | apply pw_below_drewN | apply below_drew1) | exact HB.out)⟩⟩
               ·rw [if_neg c29] at H
                exact absurd H (by simp)
              ·rw [if_neg c28] at H
               have c28b0 : decide ((rd l1 x7_1) < (rd l0 x6_1)) = false := decide_eq_false c28
               clear c28
               have H' := Aside0.mk H
               clear H
               have p302 : 0 ≤ (x7_1 : Int) := of_decide_eq_true (by first | (with_reducible assumption) | assumption)
               have q302 : x7_1 < (l1.length : Int) := of_decide_eq_true (by first | (with_reducible assumption) | assumption)
               obtain ⟨ad302, e302, hx302_0⟩ := Kd.at_int HR1.out x7_1 p302 q302
               cases e302
               replace hx302_0 := (HB.out.cell (World.block_lt_of_cell? w _ hx302_0)).trans hx302_0
               replace p302 := eq_true p302
               replace q302 := eq_true q302
               have p303 : 0 ≤ (x6_1 : Int) := of_decide_eq_true (by first | (with_reducible assumption) | assumption)
               have q303 : x6_1 < (l0.length : Int) := of_decide_eq_true (by first | (with_reducible assumption) | assumption)
               obtain ⟨ad303, e303, hx303_0⟩ := Kd.at_int HR0.out x6_1 p303 q303
               cases e303
               replace hx303_0 := (HB.out.cell (World.block_lt_of_cell? w _ hx303_0)).trans hx303_0
               replace p303 := eq_true p303
               replace q303 := eq_true q303
               go_wp2
               repeat (go_quiet (fail); try go_wp2)
               go_roundg kj7
               case measure => have := HK1.out; have := HJ4.out; have := HJ7.out; omega
               case rel => exact ⟨(x5_1), (wrap64 (x6_1 + 1)), (wrap64 (x7_1 + 1)), (by first | rfl | (simp; done) | (simp [*]; done)), (by first | rfl | (simp; done) | (simp [*]; done)), H', ⟨by have := HK1.out; have := HJ4.out; have := HJ7.out; omega⟩, ⟨by (with_reducible repeat (first | apply Kd.R_alloc | apply Kd.R_drewN | apply Kd.R_drew)); exact HO_5.out⟩, ⟨by repeat (first | (with_reducible first | exact HB.out | apply below_alloc | apply pw_below_drewN | apply below_drew1) | exact HB.out)⟩⟩
             ·rw [if_neg c27] at H
              exact absurd H (by simp)
            ·rw [if_neg c26] at H
             exact absurd H (by simp)
           ·rw [if_neg c25] at H
            exact absurd H (by simp)
          ·rw [if_neg c24] at H
           exact absurd H (by simp)
     ·replace c7 := Bool.eq_false_iff.mpr c7
      subst c7
      have H1 : (some x5_1) = some r := by rw [if_neg (show ¬ (false = true) by decide)] at H; exact H
      clear H
      have H := H1
      clear H1
      obtain rfl := Option.some.inj H
      go_wp2
      repeat (go_quiet (fail); try go_wp2)
      go_ret
      exact ⟨_, by first | rfl | (simp [errW_none, errW_some] <;> rfl) | (simp [*, errW_none, errW_some] <;> rfl), by (with_reducible repeat (first | apply Kd.R_alloc | apply Kd.R_drewN | apply Kd.R_drew)); exact HO_5.out, by repeat (first | (with_reducible first | exact HB.out | apply below_alloc | apply pw_below_drewN | apply below_drew1) | exact HB.out)⟩

end Go.Proofs.Ytjoggjgmpoaaiaa.Q
end

section
/- The sum of two chains: spec.l03Sum, plain. -/
namespace Go.Proofs.Ytjoggjgmpoaaiaa.K
open Go.RowKit Go.Shelf Go.Proofs.Ytjoggjgmpoaaiaa.Q Go.Proofs.YtjoggjgmpoaaiaaW.PrintWords Go.Proofs.YtjoggjgmpoaaiaaW.PrintLast Go.Proofs.YtjoggjgmpoaaiaaW.PrintMore
set_option linter.unusedVariables false
set_option linter.unusedSimpArgs false

def sumL : List Int → List Int → List Int
  | [], b => b
  | x :: a, [] => x :: a
  | x :: a, y :: b => if x < y then x :: sumL a (y :: b) else if y < x then y :: sumL (x :: a) b else sumL a b
termination_by a b => a.length + b.length
theorem sumL_nil (a : List Int) : sumL a [] = a := by cases a <;> simp [sumL]
theorem sum_mem : ∀ (m : Nat) (a b : List Int), a.length + b.length ≤ m → a.Pairwise (· < ·) → b.Pairwise (· < ·) → ∀ z, z ∈ sumL a b ↔ (z ∈ a ∧ z ∉ b) ∨ (z ∉ a ∧ z ∈ b) := by
  intro m
  induction m with
  | zero =>
    intro a b h _ _ z
    obtain rfl : a = [] := List.length_eq_zero_iff.1 (by omega)
    obtain rfl : b = [] := List.length_eq_zero_iff.1 (by omega)
    simp [sumL]
  | succ m ih =>
    intro a b h ha hb z
    cases a with
    | nil => simp [sumL]
    | cons x a => cases b with
      | nil => simp [sumL]
      | cons y b =>
        simp only [List.length_cons] at h
        have ha' := List.pairwise_cons.1 ha
        have hb' := List.pairwise_cons.1 hb
        rw [sumL]
        by_cases h1 : x < y
        · rw [if_pos h1, List.mem_cons, ih a (y :: b) (by simp; omega) ha'.2 hb z]
          have hx : x ∉ y :: b := fun hm => by
            rcases List.mem_cons.1 hm with e | hm
            · omega
            · have := hb'.1 x hm; omega
          have hxa : x ∉ a := fun hm => by have := ha'.1 x hm; omega
          by_cases e : z = x
          · subst e; simp [hx]
          · simp [e]
        · rw [if_neg h1]
          by_cases h2 : y < x
          · rw [if_pos h2, List.mem_cons, ih (x :: a) b (by simp; omega) ha hb'.2 z]
            have hy : y ∉ x :: a := fun hm => by
              rcases List.mem_cons.1 hm with e | hm
              · omega
              · have := ha'.1 y hm; omega
            by_cases e : z = y
            · subst e; simp [hy]
            · simp [e]
          · rw [if_neg h2, ih a b (by omega) ha'.2 hb'.2 z]
            obtain rfl : x = y := by omega
            have hxa : x ∉ a := fun hm => by have := ha'.1 x hm; omega
            have hxb : x ∉ b := fun hm => by have := hb'.1 x hm; omega
            by_cases e : z = x
            · subst e; simp [hxa, hxb]
            · simp [e]
theorem sum_asc : ∀ (m : Nat) (a b : List Int), a.length + b.length ≤ m → a.Pairwise (· < ·) → b.Pairwise (· < ·) → (sumL a b).Pairwise (· < ·) := by
  intro m
  induction m with
  | zero =>
    intro a b h _ _
    obtain rfl : a = [] := List.length_eq_zero_iff.1 (by omega)
    obtain rfl : b = [] := List.length_eq_zero_iff.1 (by omega)
    simp [sumL]
  | succ m ih =>
    intro a b h ha hb
    cases a with
    | nil => simpa [sumL] using hb
    | cons x a => cases b with
      | nil => simpa [sumL] using ha
      | cons y b =>
        simp only [List.length_cons] at h
        have ha' := List.pairwise_cons.1 ha
        have hb' := List.pairwise_cons.1 hb
        rw [sumL]
        by_cases h1 : x < y
        · rw [if_pos h1, List.pairwise_cons]
          refine ⟨fun z hz => ?_, ih a (y :: b) (by simp; omega) ha'.2 hb⟩
          rcases (sum_mem _ a (y :: b) (Nat.le_refl _) ha'.2 hb z).1 hz with ⟨h, _⟩ | ⟨_, h⟩
          · exact ha'.1 z h
          · rcases List.mem_cons.1 h with e | h
            · omega
            · have := hb'.1 z h; omega
        · rw [if_neg h1]
          by_cases h2 : y < x
          · rw [if_pos h2, List.pairwise_cons]
            refine ⟨fun z hz => ?_, ih (x :: a) b (by simp; omega) ha hb'.2⟩
            rcases (sum_mem _ (x :: a) b (Nat.le_refl _) ha hb'.2 z).1 hz with ⟨h, _⟩ | ⟨_, h⟩
            · rcases List.mem_cons.1 h with e | h
              · omega
              · have := ha'.1 z h; omega
            · exact hb'.1 z h
          · rw [if_neg h2]
            exact ih a b (by omega) ha'.2 hb'.2
theorem sum_chN {a b : List Int} (ha : a.Pairwise (· < ·)) (hb : b.Pairwise (· < ·)) (h0 : ∀ x ∈ a, 0 ≤ x) (h1 : ∀ x ∈ b, 0 ≤ x) : chN (sumL a b) = chN a ^^^ chN b := by
  have hm := sum_mem _ a b (Nat.le_refl _) ha hb
  apply Nat.eq_of_testBit_eq
  intro i
  rw [Nat.testBit_xor, chN_bits _ (sum_asc _ a b (Nat.le_refl _) ha hb) (fun x hx => by
    rcases (hm x).1 hx with ⟨h, _⟩ | ⟨_, h⟩
    · exact h0 x h
    · exact h1 x h), chN_bits a ha h0, chN_bits b hb h1]
  have := hm (i : Int)
  by_cases e1 : (i : Int) ∈ a <;> by_cases e2 : (i : Int) ∈ b <;> simp [this, e1, e2]
set_option maxHeartbeats 1000000 in
theorem specSum_loop (a b : List Int) (hla : a.length ≤ 2097152) (hlb : b.length ≤ 2097152) : ∀ (m i j K : Nat) (out : List Int), (a.length - i) + (b.length - j) ≤ m → i ≤ a.length → j ≤ b.length → 3 * m + 3 ≤ K → out.length ≤ i + j →
    spec_l03Sum.l0 K a b out (i : Int) (j : Int) = some (out ++ sumL (a.drop i) (b.drop j)) := by
  intro m
  induction m with
  | zero =>
    intro i j K out hm hi hj hK ho
    obtain ⟨K, rfl⟩ : ∃ q, K = q + 2 := ⟨K - 2, by omega⟩
    have c1 : ¬ (i : Int) < (a.length : Int) := by omega
    have c2 : ¬ (j : Int) < (b.length : Int) := by omega
    have d1 : a.drop i = [] := List.drop_eq_nil_of_le (by omega)
    have d2 : b.drop j = [] := List.drop_eq_nil_of_le (by omega)
    rw [d1, d2, sumL, List.append_nil]
    simp only [spec_l03Sum.l0, spec_l03Sum.j1, if_neg c1, decide_eq_false c2, Bool.false_eq_true, if_false]
  | succ m ih =>
    intro i j K out hm hi hj hK ho
    obtain ⟨K, rfl⟩ : ∃ q, K = q + 3 := ⟨K - 3, by omega⟩
    have HWi : Aside0 (wrap64 ((i : Int) + 1) = ((i + 1 : Nat) : Int)) := ⟨by rw [w64 _ (by omega) (by omega)]; omega⟩
    have HWj : Aside0 (wrap64 ((j : Int) + 1) = ((j + 1 : Nat) : Int)) := ⟨by rw [w64 _ (by omega) (by omega)]; omega⟩
    have c2 : 0 ≤ (i : Int) := by omega
    have c3 : 0 ≤ (j : Int) := by omega
    have c6 : out.length < 17592186044416 := by omega
    by_cases hia : i < a.length
    · have hda := List.drop_eq_getElem_cons hia
      have c1 : (i : Int) < (a.length : Int) := by omega
      have c7 : ¬ (i : Int) = (a.length : Int) := by omega
      by_cases hjb : j < b.length
      · have hdb := List.drop_eq_getElem_cons hjb
        have c4 : (j : Int) < (b.length : Int) := by omega
        have c5 : ¬ (j : Int) = (b.length : Int) := by omega
        have i1 := fun o ho => ih (i + 1) j K o (by omega) (by omega) hj (by omega) ho
        have i2 := fun o ho => ih i (j + 1) K o (by omega) hi (by omega) (by omega) ho
        have i3 := fun o ho => ih (i + 1) (j + 1) K o (by omega) (by omega) (by omega) (by omega) ho
        rw [hda, hdb, sumL]
        rw [hdb] at i1
        rw [hda] at i2
        simp only [spec_l03Sum.l0, spec_l03Sum.j1, spec_l03Sum.j2, if_pos c1, if_pos c2, if_pos c3, if_pos c4, if_neg c5, if_neg c7, if_pos c6, if_true, rd_nat a i hia, rd_nat b j hjb, HWi.out, HWj.out]
        by_cases h1 : a[i] < b[j]
        · simp only [decide_eq_true h1, if_pos h1, if_true]
          rw [i1 _ (by simp; omega), List.append_assoc]
          rfl
        · simp only [decide_eq_false h1, if_neg h1, Bool.false_eq_true, if_false]
          by_cases h2 : b[j] < a[i]
          · simp only [if_pos h2]
            rw [i2 _ (by simp; omega), List.append_assoc]
            rfl
          · simp only [if_neg h2]
            exact i3 _ (by omega)
      · have c4 : (j : Int) = (b.length : Int) := by omega
        have d2 : b.drop j = [] := List.drop_eq_nil_of_le (by omega)
        have i1 := fun o ho => ih (i + 1) j K o (by omega) (by omega) hj (by omega) ho
        rw [d2] at i1 ⊢
        rw [sumL_nil] at i1 ⊢
        rw [hda]
        simp only [spec_l03Sum.l0, spec_l03Sum.j1, spec_l03Sum.j2, if_pos c1, if_pos c2, if_pos c4, if_pos c6, if_true, rd_nat a i hia, HWi.out]
        rw [i1 _ (by simp; omega), List.append_assoc]
        rfl
    · have c1 : ¬ (i : Int) < (a.length : Int) := by omega
      have c7 : (i : Int) = (a.length : Int) := by omega
      have d1 : a.drop i = [] := List.drop_eq_nil_of_le (by omega)
      by_cases hjb : j < b.length
      · have hdb := List.drop_eq_getElem_cons hjb
        have c4 : (j : Int) < (b.length : Int) := by omega
        have c5 : ¬ (j : Int) = (b.length : Int) := by omega
        have i2 := fun o ho => ih i (j + 1) K o (by omega) hi (by omega) (by omega) ho
        rw [d1] at i2 ⊢
        rw [sumL] at i2 ⊢
        rw [hdb]
        simp only [spec_l03Sum.l0, spec_l03Sum.j1, spec_l03Sum.j2, if_neg c1, decide_eq_true c4, if_pos c3, if_pos c4, if_neg c5, if_pos c7, if_pos c6, if_true, Bool.false_eq_true, if_false, rd_nat b j hjb, HWj.out]
        rw [i2 _ (by simp; omega), List.append_assoc]
        rfl
      · have c4 : ¬ (j : Int) < (b.length : Int) := by omega
        have d2 : b.drop j = [] := List.drop_eq_nil_of_le (by omega)
        rw [d1, d2, sumL, List.append_nil]
        simp only [spec_l03Sum.l0, spec_l03Sum.j1, if_neg c1, decide_eq_false c4, Bool.false_eq_true, if_false]
theorem specSum_is (a b : List Int) (hla : a.length ≤ 2097152) (hlb : b.length ≤ 2097152) : spec_l03Sum.f (3 * (a.length + b.length) + 3) a b = some (sumL a b) := by
  unfold spec_l03Sum.f
  have := specSum_loop a b hla hlb (a.length + b.length) 0 0 (3 * (a.length + b.length) + 3) [] (by omega) (by omega) (by omega) (by omega) (by simp)
  simpa using this

end Go.Proofs.Ytjoggjgmpoaaiaa.K
end

section
/- AreHomologous: the program's. -/
namespace Go.Proofs.Ytjoggjgmpoaaiaa.K
open Go.RowKit Go.Shelf Go.Proofs.Ytjoggjgmpoaaiaa.Q Go.Proofs.YtjoggjgmpoaaiaaW.PrintWords Go.Proofs.YtjoggjgmpoaaiaaW.PrintLast Go.Proofs.YtjoggjgmpoaaiaaW.PrintMore
set_option linter.unusedVariables false
set_option linter.unusedSimpArgs false

/-- Two chains of different dimension. -/
def mis (xs ys : List Int) : Prop := 0 < xs.length ∧ 0 < ys.length ∧ onesI (xs.getD 0 0) ≠ onesI (ys.getD 0 0)
instance (xs ys : List Int) : Decidable (mis xs ys) := by unfold mis; infer_instance
def homC (n : Int) (l xs ys : List Int) : Int := if codeOf n l (chainB l xs && chainB l ys) = 0 then (if mis xs ys then 5 else 0) else codeOf n l (chainB l xs && chainB l ys)
def homA (n : Int) (l xs ys : List Int) : Bool := if homC n l xs ys = 0 then bndB l (chN (sumL xs ys)) else false
theorem hom_code {n : Int} {l xs ys : List Int} (h : codeOf n l (chainB l xs && chainB l ys) ≠ 0) : homA n l xs ys = false ∧ homC n l xs ys = codeOf n l (chainB l xs && chainB l ys) := by
 have hc : homC n l xs ys = codeOf n l (chainB l xs && chainB l ys) := by unfold homC; rw [if_neg h]
 exact ⟨by unfold homA; rw [hc, if_neg h], hc⟩
theorem hom_mis {n : Int} {l xs ys : List Int} (h : codeOf n l (chainB l xs && chainB l ys) = 0) (hm : mis xs ys) : homA n l xs ys = false ∧ homC n l xs ys = 5 := by
 have hc : homC n l xs ys = 5 := by unfold homC; rw [if_pos h, if_pos hm]
 exact ⟨by unfold homA; rw [hc]; rfl, hc⟩
theorem hom_good {n : Int} {l xs ys : List Int} (h : codeOf n l (chainB l xs && chainB l ys) = 0) (hm : ¬ mis xs ys) : homA n l xs ys = bndB l (chN (sumL xs ys)) ∧ homC n l xs ys = 0 := by
 have hc : homC n l xs ys = 0 := by unfold homC; rw [if_pos h, if_neg hm]
 exact ⟨by unfold homA; rw [hc]; rfl, hc⟩
theorem not_mis {xs ys : List Int} (h : xs.length = 0 ∨ ys.length = 0 ∨ onesI (xs.getD 0 0) = onesI (ys.getD 0 0)) : ¬ mis xs ys := by
 unfold mis
 rintro ⟨h1, h2, h3⟩
 rcases h with h | h | h
 ·omega
 ·omega
 ·exact h3 h
theorem both_chain {n : Int} {l xs ys : List Int} (h : codeOf n l (chainB l xs && chainB l ys) = 0) : isC n l = true ∧ ChainOf l xs ∧ ChainOf l ys := by
 obtain ⟨hi, hb⟩ := codeOf_zero h
 rw [Bool.and_eq_true] at hb
 obtain ⟨h1, h2⟩ := chain_facts hi hb.1
 obtain ⟨h3, h4⟩ := chain_facts hi hb.2
 exact ⟨hi, ⟨h1, h2⟩, ⟨h3, h4⟩⟩
theorem sum_chain {l xs ys : List Int} (ha : ChainOf l xs) (hb : ChainOf l ys) (hm : ¬ mis xs ys) : ChainOf l (sumL xs ys) := by
 have hs := sum_mem _ xs ys (Nat.le_refl _) ha.asc hb.asc
 have key : ∀ x ∈ sumL xs ys, ∀ y ∈ sumL xs ys, onesI x = onesI y := fun x hx y hy => by
  have hp : ∀ z ∈ sumL xs ys, (z ∈ xs ∧ onesI z = onesI (xs.getD 0 0)) ∨ (z ∈ ys ∧ onesI z = onesI (ys.getD 0 0)) := fun z hz => by
   rcases (hs z).1 hz with ⟨h, _⟩ | ⟨_, h⟩
   ·exact Or.inl ⟨h, (ha.mem z h).2⟩
   ·exact Or.inr ⟨h, (hb.mem z h).2⟩
  have hd : ∀ u v, u ∈ xs → v ∈ ys → onesI (xs.getD 0 0) = onesI (ys.getD 0 0) := fun u v hu hv => Classical.byContradiction fun hne => hm ⟨List.length_pos_of_mem hu, List.length_pos_of_mem hv, hne⟩
  rcases hp x hx with ⟨h1, e1⟩ | ⟨h1, e1⟩ <;> rcases hp y hy with ⟨h2, e2⟩ | ⟨h2, e2⟩
  ·rw [e1, e2]
  ·rw [e1, e2, hd x y h1 h2]
  ·rw [e1, e2, hd y x h2 h1]
  ·rw [e1, e2]
 refine ⟨sum_asc _ xs ys (Nat.le_refl _) ha.asc hb.asc, fun x hx => ⟨?_, ?_⟩⟩
 ·rcases (hs x).1 hx with ⟨h, _⟩ | ⟨_, h⟩
  ·exact (ha.mem x h).1
  ·exact (hb.mem x h).1
 ·have hp := List.length_pos_of_mem hx
  have : (sumL xs ys).getD 0 0 = (sumL xs ys)[0] := by simp [hp]
  rw [this]
  exact key x hx _ (List.getElem_mem hp)
theorem add_zero_ (a : Addr) : a.add 0 = a := by
 simp only [Addr.add]
 split <;> simp_all
theorem head_small {n : Int} {l xs : List Int} (hi : isC n l = true) (h : ChainOf l xs) (hp : 0 < xs.length) : 0 ≤ xs.getD 0 0 ∧ xs.getD 0 0 ≤ 63 := by
 have : xs.getD 0 0 = xs[0] := by simp [hp]
 rw [this]
 exact chain_small hi h _ (List.getElem_mem hp)
set_option maxRecDepth 100000 in
set_option maxHeartbeats 8000000 in
theorem Hom_calls (n : Int) (A : Option Addr) (c : Nat) (l : List Int) (A2 : Option Addr) (c2 : Nat) (xs : List Int) (A5 : Option Addr) (c5 : Nat) (ys : List Int) (w : World) (hk : Kx w A c l) (hx : Ki.C w A2 xs.length xs) (hc2 : xs.length ≤ c2) (hx2 : xs.length ≤ 2097152) (hy : Ki.C w A5 ys.length ys) (hc5 : ys.length ≤ c5) (hy2 : ys.length ≤ 2097152) :
  Calls Try.prog 22 #[.agg #[I n, .slice A l.length c], .slice A2 xs.length c2, .slice A5 ys.length c5] w fun e w' => e = .returned (.tuple #[.bool (homA n l xs ys), I (homC n l xs ys)]) ∧ Grew w w' := by
 have hB : CB (w.alloc (.cells #[I n, .slice A l.length c] 26)) w.heap.size n (.slice A l.length c) := blk_new w _
 have HG : Aside0 (Grew w (w.alloc (.cells #[I n, .slice A l.length c] 26))) := ⟨below_alloc (Grew.refl w) _⟩
 have hL : ((w.alloc (.cells #[I n, .slice A l.length c] 26)).alloc (.cells #[.slice A2 xs.length c2, .slice A5 ys.length c5] 22)).heap[w.heap.size + 1]? = some (.cells #[.slice A2 xs.length c2, .slice A5 ys.length c5] 22 (0, 0)) := by
  have := blk_new (w.alloc (.cells #[I n, .slice A l.length c] 26)) (.cells #[.slice A2 xs.length c2, .slice A5 ys.length c5] 22)
  rwa [World.size_alloc] at this
 have h := chainCode_calls n A c l (some ⟨w.heap.size + 1, 0, none⟩) 2 [⟨A2, c2, xs⟩, ⟨A5, c5, ys⟩] _ (hk.later (below_alloc HG.out _)) (Kr_of (vs := [⟨A2, c2, xs⟩, ⟨A5, c5, ys⟩]) _ 22 hL (by simp)) (Nat.le_refl _) (fun r hr => by
  rcases List.mem_cons.1 hr with e | hr
  ·rw [e]; exact ⟨Kd.C_below hx (below_alloc HG.out _), hc2, hx2⟩
  ·rw [List.mem_singleton.1 hr]; exact ⟨Kd.C_below hy (below_alloc HG.out _), hc5, hy2⟩)
 simp only [List.all_cons, List.all_nil, Bool.and_true, List.length_cons, List.length_nil] at h
 have HC := Aside0.mk h
 have HK := Aside0.mk hk
 have HX := Aside0.mk hx
 have HY := Aside0.mk hy
 have HC2 := Aside0.mk hc2
 have HC5 := Aside0.mk hc5
 have HB := Aside0.mk hB
 have k0 := hB.c0
 have k1 := hB.c1
 clear hk hx hc2 hB hy hc5 hL h
 by_cases hz : codeOf n l (chainB l xs && chainB l ys) = 0
 ·obtain ⟨hi, hca, hcb⟩ := both_chain hz
  have hsa := chain_small hi hca
  have hsb := chain_small hi hcb
  have HCA : Aside0 (∀ W, Grew w W → Calls Try.prog 43 #[.slice A2 xs.length c2] W fun e w' => e = .returned (.int .u64 (chN xs : Int)) ∧ Grew W w') := ⟨fun W hW => (impl_chainOf.calls _ A2 c2 xs _ W (Kd.C_below HX.out hW) HC2.out (chainOf_is xs (by omega) hsa)).mono fun e w' ⟨he, hd⟩ => ⟨he, hd.below⟩⟩
  have HCB : Aside0 (∀ W, Grew w W → Calls Try.prog 43 #[.slice A5 ys.length c5] W fun e w' => e = .returned (.int .u64 (chN ys : Int)) ∧ Grew W w') := ⟨fun W hW => (impl_chainOf.calls _ A5 c5 ys _ W (Kd.C_below HY.out hW) HC5.out (chainOf_is ys (by omega) hsb)).mono fun e w' ⟨he, hd⟩ => ⟨he, hd.below⟩⟩
  have hla : chN xs < 2 ^ 64 := chN_lt xs hsa 0 (by decide)
  have hlb : chN ys < 2 ^ 64 := chN_lt ys hsb 0 (by decide)
  have HBN : Aside0 (∀ W, Grew w W → Calls Try.prog 42 #[.agg #[I n, .slice A l.length c], .int .u64 (Go.bits .xor .u64 (chN xs : Int) (chN ys : Int))] W fun e w' => e = .returned (.bool (bndB l (chN (sumL xs ys)))) ∧ Grew W w') := ⟨fun W hW => by
   have he := sum_chN hca.asc hcb.asc (fun x hx => (hsa x hx).1) (fun x hx => (hsb x hx).1)
   rw [xor_u64 _ _ hla hlb, he]
   exact bounds_calls n A c l _ (Nat.xor_lt_two_pow hla hlb) W (HK.out.later hW) hi⟩
  have HSZ : Aside0 (∀ x, (0 < xs.length ∧ x = xs.getD 0 0) ∨ (0 < ys.length ∧ x = ys.getD 0 0) → ∀ W, Calls Try.prog 46 #[I x] W fun e w' => e = .returned (I (onesI x)) ∧ Grew W w') := ⟨fun x h W => by
   have hs : 0 ≤ x ∧ x ≤ 63 := by
    rcases h with ⟨h1, h2⟩ | ⟨h1, h2⟩
    ·rw [h2]; exact head_small hi hca h1
    ·rw [h2]; exact head_small hi hcb h1
   exact (impl_size.calls x _ W (size_is x hs.1 hs.2)).mono fun e w' ⟨he, hd⟩ => ⟨he, hd.below⟩⟩
  have HNM := Aside0.mk (fun h => hom_good hz (not_mis h))
  have HYM := Aside0.mk (fun h => hom_mis hz h)
  rw [hz] at HC
  clear hz hi hca hcb hsa hsb hla hlb
  generalize bndB l (chN (sumL xs ys)) = ans at HBN HNM
  generalize (chN xs : Int) = p at HCA HBN
  generalize (chN ys : Int) = q at HCB HBN
  go_enter Try.func22, Try.ntmps22
  go_wp2_with fail
  refine HC.out.mono ?_
  rintro e w1 ⟨rfl, hG1⟩
  have HB1 := Aside0.mk (CB.later (blk_alloc HB.out _) hG1)
  have HG1 := Aside0.mk (Grew.trans (below_alloc HG.out _) hG1)
  clear hG1 k0 k1
  have kb0 := HB1.out.c0
  have kb1 := HB1.out.c1
  have hlb := World.block_lt_of_cell? w1 _ kb0
  go_wp2_with fail
  by_cases hza : xs.length = 0
  ·have hza1 : ¬ 0 < xs.length := by omega
   have hza2 : decide (0 < xs.length) = false := decide_eq_false hza1
   clear HSZ
   have HN := Aside0.mk (HNM.out (Or.inl hza))
   clear HNM HYM hza
   refine start_ (n := 19) (S := fun w' => w'.cell? ⟨w.heap.size, 0, none⟩ = some (I n) ∧ w'.cell? ⟨w.heap.size, 1, none⟩ = some (.slice A l.length c)) (ds := []) #[O,O,O,O,O,O,O,O,O,O,O,O,O,O,O,O,O,O,O] (by kernel_rfl) rfl rfl ⟨(Below.cell (w := w1) (below_drew (Grew.refl w1)) (p := ⟨w.heap.size, 0, none⟩) hlb).trans kb0, (Below.cell (w := w1) (below_drew (Grew.refl w1)) (p := ⟨w.heap.size, 1, none⟩) hlb).trans kb1⟩ (fun hHeld => ?_)
   refine pure_ (i := 0) (N := some 17) (v := ?_) (a' := ?_) #[U,O,O,O,O,O,O,O,O,O,O,O,O,O,O,O,O,O,O] rfl rfl (by kernel_rfl) (fun _ _ _ h => h) (Or.inl ⟨by rfl, ?_⟩) ?_ ?_
   rotate_left; · intro w'; go_simp; with_reducible rfl
   rotate_left; · simp only [nm_]; rfl
   refine pure_ (i := 1) (N := some 18) (v := ?_) (a' := ?_) #[U,U,O,O,O,O,O,O,O,O,O,O,O,O,O,O,O,O,O] rfl rfl (by kernel_rfl) (fun _ _ _ h => h) (Or.inl ⟨by rfl, ?_⟩) ?_ ?_
   rotate_left; · intro w'; go_simp; with_reducible rfl
   rotate_left; · simp only [nm_]; rfl
   refine pure_ (i := 2) (N := some 19) (v := ?_) (a' := ?_) #[U,U,U,O,O,O,O,O,O,O,O,O,O,O,O,O,O,O,O] rfl rfl (by kernel_rfl) (fun _ _ _ h => h) (Or.inl ⟨by rfl, ?_⟩) ?_ ?_
   rotate_left; · intro w'; go_simp; with_reducible rfl
   rotate_left; · simp only [nm_]; rfl
   refine pure_ (i := 3) (N := some 20) (v := ?_) (a' := ?_) #[U,U,U,U,O,O,O,O,O,O,O,O,O,O,O,O,O,O,O] rfl rfl (by kernel_rfl) (fun _ _ _ h => h) (Or.inl ⟨by rfl, ?_⟩) ?_ ?_
   rotate_left; · intro w'; go_simp; with_reducible rfl
   rotate_left; · simp only [nm_]; rfl
   refine pure_ (i := 4) (N := some 21) (v := undef) (a' := ?_) #[U,U,U,U,U,O,O,O,O,O,O,O,O,O,O,O,O,O,O] rfl rfl (by kernel_rfl) (fun _ _ _ h => h) (Or.inr ⟨by rfl, rfl⟩) ?_ ?_
   rotate_left; · simp only [nm_]; rfl
   refine pure_ (i := 5) (N := some 22) (v := undef) (a' := ?_) #[U,U,U,U,U,U,O,O,O,O,O,O,O,O,O,O,O,O,O] rfl rfl (by kernel_rfl) (fun _ _ _ h => h) (Or.inr ⟨by rfl, rfl⟩) ?_ ?_
   rotate_left; · simp only [nm_]; rfl
   refine pure_ (i := 6) (N := some 23) (v := undef) (a' := ?_) #[U,U,U,U,U,U,U,O,O,O,O,O,O,O,O,O,O,O,O] rfl rfl (by kernel_rfl) (fun _ _ _ h => h) (Or.inr ⟨by rfl, rfl⟩) ?_ ?_
   rotate_left; · simp only [nm_]; rfl
   refine pure_ (i := 7) (N := some 24) (v := ?_) (a' := ?_) #[U,U,U,U,U,U,U,U,O,O,O,O,O,O,O,O,O,O,O] rfl rfl (by kernel_rfl) (fun _ _ _ h => h) (Or.inl ⟨by rfl, ?_⟩) ?_ ?_
   rotate_left; · intro w'; go_simp; with_reducible rfl
   rotate_left; · simp only [nm_]; rfl
   refine pure_ (i := 8) (N := some 25) (v := ?_) (a' := ?_) #[U,U,U,U,U,U,U,U,U,O,O,O,O,O,O,O,O,O,O] rfl rfl (by kernel_rfl) (fun _ _ _ h => h) (Or.inl ⟨by rfl, ?_⟩) ?_ ?_
   rotate_left; · intro w'; go_simp; with_reducible rfl
   rotate_left; · simp only [nm_]; rfl
   refine pure_ (i := 9) (N := some 26) (v := undef) (a' := ?_) #[U,U,U,U,U,U,U,U,U,U,O,O,O,O,O,O,O,O,O] rfl rfl (by kernel_rfl) (fun _ _ _ h => h) (Or.inr ⟨by rfl, rfl⟩) ?_ ?_
   rotate_left; · simp only [nm_]; rfl
   refine pure_ (i := 10) (N := some 27) (v := undef) (a' := ?_) #[U,U,U,U,U,U,U,U,U,U,U,O,O,O,O,O,O,O,O] rfl rfl (by kernel_rfl) (fun _ _ _ h => h) (Or.inr ⟨by rfl, rfl⟩) ?_ ?_
   rotate_left; · simp only [nm_]; rfl
   refine pure_ (i := 11) (N := some 28) (v := undef) (a' := ?_) #[U,U,U,U,U,U,U,U,U,U,U,U,O,O,O,O,O,O,O] rfl rfl (by kernel_rfl) (fun _ _ _ h => h) (Or.inr ⟨by rfl, rfl⟩) ?_ ?_
   rotate_left; · simp only [nm_]; rfl
   refine pure_ (i := 12) (N := some 29) (v := undef) (a' := ?_) #[U,U,U,U,U,U,U,U,U,U,U,U,U,O,O,O,O,O,O] rfl rfl (by kernel_rfl) (fun _ _ _ h => h) (Or.inr ⟨by rfl, rfl⟩) ?_ ?_
   rotate_left; · simp only [nm_]; rfl
   refine pure_ (i := 13) (N := some 30) (v := undef) (a' := ?_) #[U,U,U,U,U,U,U,U,U,U,U,U,U,U,O,O,O,O,O] rfl rfl (by kernel_rfl) (fun _ _ _ h => h) (Or.inr ⟨by rfl, rfl⟩) ?_ ?_
   rotate_left; · simp only [nm_]; rfl
   refine pure_ (i := 14) (N := some 31) (v := undef) (a' := ?_) #[U,U,U,U,U,U,U,U,U,U,U,U,U,U,U,O,O,O,O] rfl rfl (by kernel_rfl) (fun _ _ _ h => h) (Or.inr ⟨by rfl, rfl⟩) ?_ ?_
   rotate_left; · simp only [nm_]; rfl
   refine pure_ (i := 15) (N := some 32) (v := undef) (a' := ?_) #[U,U,U,U,U,U,U,U,U,U,U,U,U,U,U,U,O,O,O] rfl rfl (by kernel_rfl) (fun _ _ _ h => h) (Or.inr ⟨by rfl, rfl⟩) ?_ ?_
   rotate_left; · simp only [nm_]; rfl
   refine pure_ (i := 16) (N := some 33) (v := undef) (a' := ?_) #[U,U,U,U,U,U,U,U,U,U,U,U,U,U,U,U,U,O,O] rfl rfl (by kernel_rfl) (fun _ _ _ h => h) (Or.inr ⟨by rfl, rfl⟩) ?_ ?_
   rotate_left; · simp only [nm_]; rfl
   refine pure_ (i := 17) (N := some 34) (v := undef) (a' := ?_) #[U,U,U,U,U,U,U,U,U,U,U,U,U,U,U,U,U,U,O] rfl rfl (by kernel_rfl) (fun _ _ _ h => h) (Or.inr ⟨by rfl, rfl⟩) ?_ ?_
   rotate_left; · simp only [nm_]; rfl
   refine pure_ (i := 18) (N := some 35) (v := ?_) (a' := ?_) #[U,U,U,U,U,U,U,U,U,U,U,U,U,U,U,U,U,U,U] rfl rfl (by kernel_rfl) (fun _ _ _ h => h) (Or.inl ⟨by rfl, ?_⟩) ?_ ?_
   rotate_left; · intro w'; go_simp; with_reducible rfl
   rotate_left; · simp only [nm_]; rfl
   refine done_ (by kernel_rfl) ?_
   have HGX := Aside0.mk (Grew.trans HG1.out (below_drew (Grew.refl w1)))
   have kx0 : w1.drew.cell? ⟨w.heap.size, 0, none⟩ = some (I n) := (Below.cell (w := w1) (below_drew (Grew.refl w1)) (p := ⟨w.heap.size, 0, none⟩) hlb).trans kb0
   have kx1 : w1.drew.cell? ⟨w.heap.size, 1, none⟩ = some (.slice A l.length c) := (Below.cell (w := w1) (below_drew (Grew.refl w1)) (p := ⟨w.heap.size, 1, none⟩) hlb).trans kb1
   clear kb0 kb1 hlb
   obtain ⟨wx, hwx⟩ : ∃ wx, wx = w1.drew := ⟨_, rfl⟩
   rw [← hwx] at HGX kx0 kx1
   try rw [← hwx]
   clear hwx
   have kb0 := kx0
   have kb1 := kx1
   clear kx0 kx1
   have hlb := World.block_lt_of_cell? wx _ kb0
   go_wp2_with fail
   refine start_ (n := 9) (S := fun w' => w'.cell? ⟨w.heap.size, 0, none⟩ = some (I n) ∧ w'.cell? ⟨w.heap.size, 1, none⟩ = some (.slice A l.length c)) (ds := []) #[O,O,O,O,O,O,O,O,O] (by kernel_rfl) rfl rfl ⟨(Below.cell (w := wx) (below_drew (Grew.refl wx)) (p := ⟨w.heap.size, 0, none⟩) hlb).trans kb0, (Below.cell (w := wx) (below_drew (Grew.refl wx)) (p := ⟨w.heap.size, 1, none⟩) hlb).trans kb1⟩ (fun hHeld => ?_)
   refine pure_ (i := 1) (N := some 37) (v := ?_) (a' := ?_) #[O,U,O,O,O,O,O,O,O] rfl rfl (by kernel_rfl) (fun _ _ _ h => h) (Or.inl ⟨by rfl, ?_⟩) ?_ ?_
   rotate_left; · intro w'; go_simp; with_reducible rfl
   rotate_left; · simp only [nm_]; rfl
   refine pure_ (i := 3) (N := some 39) (v := ?_) (a' := ?_) #[O,U,O,U,O,O,O,O,O] rfl rfl (by kernel_rfl) (fun _ _ _ h => h) (Or.inl ⟨by rfl, ?_⟩) ?_ ?_
   rotate_left; · intro w'; go_simp; with_reducible rfl
   rotate_left; · simp only [nm_]; rfl
   refine take_ (i := 0) (N := some 36) (v := ?_) (a' := ?_) #[U,U,O,U,O,O,O,O,O] rfl rfl (by kernel_rfl) (fun _ _ _ h => h) (Or.inl ⟨by rfl, ?_⟩) hHeld ?_ ?_
   rotate_left; · rintro w' ⟨s0, s1⟩; go_simp; with_reducible rfl
   rotate_left; · simp only [nm_]; rfl
   refine one_ (i := 2) (N := some 38) #[U,U,U,U,O,O,O,O,O] rfl rfl (by kernel_rfl) (by decide) (fun K hK => ?_)
   refine goes_ Try.func43 (by kernel_rfl) rfl #[.slice A2 xs.length c2] (by rfl) rfl rfl (by simp only [List.map_toArray, List.map_cons, List.map_nil]; rfl) ?_
   with_reducible refine (HCA.out _ (Grew.trans HGX.out (below_drew (Grew.refl wx)))).mono ?_
   rintro e w5 ⟨rfl, hGc⟩
   refine ⟨_, rfl, ?_⟩
   have HM := Aside0.mk (Grew.trans (below_drew (Grew.refl wx)) hGc)
   clear hGc
   refine hK.out _ _ ⟨(Below.cell (w := wx) HM.out (p := ⟨w.heap.size, 0, none⟩) hlb).trans kb0, (Below.cell (w := wx) HM.out (p := ⟨w.heap.size, 1, none⟩) hlb).trans kb1⟩ (fun hHeld => ?_)
   clear hK K
   refine norm_ (a' := ?_) ?_ ?_
   rotate_left
   ·show Act.put _ (some 38) _ = _
    simp only [nm_]
    rfl
   refine one_ (i := 4) (N := some 40) #[U,U,U,U,U,O,O,O,O] rfl rfl (by kernel_rfl) (by decide) (fun K hK => ?_)
   refine goes_ Try.func43 (by kernel_rfl) rfl #[.slice A5 ys.length c5] (by rfl) rfl rfl (by simp only [List.map_toArray, List.map_cons, List.map_nil]; rfl) ?_
   with_reducible refine (HCB.out _ (Grew.trans HGX.out HM.out)).mono ?_
   rintro e w6 ⟨rfl, hGd⟩
   refine ⟨_, rfl, ?_⟩
   replace HM := Aside0.mk (Grew.trans HM.out hGd)
   clear hGd
   refine hK.out _ _ ⟨(Below.cell (w := wx) HM.out (p := ⟨w.heap.size, 0, none⟩) hlb).trans kb0, (Below.cell (w := wx) HM.out (p := ⟨w.heap.size, 1, none⟩) hlb).trans kb1⟩ (fun hHeld => ?_)
   clear hK K
   refine norm_ (a' := ?_) ?_ ?_
   rotate_left
   ·show Act.put _ (some 40) _ = _
    simp only [nm_]
    rfl
   refine pure_ (i := 5) (N := some 41) (v := ?_) (a' := ?_) #[U,U,U,U,U,U,O,O,O] rfl rfl (by kernel_rfl) (fun _ _ _ h => h) (Or.inl ⟨by rfl, ?_⟩) ?_ ?_
   rotate_left; · intro w'; go_simp; with_reducible rfl
   rotate_left; · simp only [nm_]; rfl
   refine one_ (i := 6) (N := some 42) #[U,U,U,U,U,U,U,O,O] rfl rfl (by kernel_rfl) (by decide) (fun K hK => ?_)
   refine goes_ Try.func42 (by kernel_rfl) rfl #[.agg #[I n, .slice A l.length c], .int .u64 (Go.bits .xor .u64 p q)] (by rfl) rfl rfl (by simp only [List.map_toArray, List.map_cons, List.map_nil]; rfl) ?_
   with_reducible refine (HBN.out _ (Grew.trans HGX.out HM.out)).mono ?_
   rintro e w7 ⟨rfl, hGe⟩
   refine ⟨_, rfl, ?_⟩
   replace HM := Aside0.mk (Grew.trans HM.out hGe)
   clear hGe
   refine hK.out _ _ ⟨(Below.cell (w := wx) HM.out (p := ⟨w.heap.size, 0, none⟩) hlb).trans kb0, (Below.cell (w := wx) HM.out (p := ⟨w.heap.size, 1, none⟩) hlb).trans kb1⟩ (fun hHeld => ?_)
   clear hK K
   refine norm_ (a' := ?_) ?_ ?_
   rotate_left
   ·show Act.put _ (some 42) _ = _
    simp only [nm_]
    rfl
   refine pure_ (i := 7) (N := some 6) (v := ?_) (a' := ?_) #[U,U,U,U,U,U,U,U,O] rfl rfl (by kernel_rfl) (fun _ _ _ h => h) (Or.inl ⟨by rfl, ?_⟩) ?_ ?_
   rotate_left; · intro w'; go_simp; with_reducible rfl
   rotate_left; · simp only [nm_]; rfl
   refine pure_ (i := 8) (N := some 7) (v := ?_) (a' := ?_) #[U,U,U,U,U,U,U,U,U] rfl rfl (by kernel_rfl) (fun _ _ _ h => h) (Or.inl ⟨by rfl, ?_⟩) ?_ ?_
   rotate_left; · intro w'; go_simp; with_reducible rfl
   rotate_left; · simp only [nm_]; rfl
   refine done_ (by kernel_rfl) ?_
   go_wp2_with fail
   go_ret2
   exact ⟨by (rw [HN.out.1, HN.out.2]; try rfl), Grew.trans HGX.out HM.out⟩
  ·have hza1 : 0 < xs.length := by omega
   have hza2 : decide (0 < xs.length) = true := decide_eq_true hza1
   by_cases hzb : ys.length = 0
   ·have hzb1 : ¬ 0 < ys.length := by omega
    have hzb2 : decide (0 < ys.length) = false := decide_eq_false hzb1
    clear HSZ
    have HN := Aside0.mk (HNM.out (Or.inr (Or.inl hzb)))
    clear HNM HYM hza hzb
    refine start_ (n := 19) (S := fun w' => w'.cell? ⟨w.heap.size, 0, none⟩ = some (I n) ∧ w'.cell? ⟨w.heap.size, 1, none⟩ = some (.slice A l.length c)) (ds := []) #[O,O,O,O,O,O,O,O,O,O,O,O,O,O,O,O,O,O,O] (by kernel_rfl) rfl rfl ⟨(Below.cell (w := w1) (below_drew (Grew.refl w1)) (p := ⟨w.heap.size, 0, none⟩) hlb).trans kb0, (Below.cell (w := w1) (below_drew (Grew.refl w1)) (p := ⟨w.heap.size, 1, none⟩) hlb).trans kb1⟩ (fun hHeld => ?_)
    refine pure_ (i := 0) (N := some 17) (v := ?_) (a' := ?_) #[U,O,O,O,O,O,O,O,O,O,O,O,O,O,O,O,O,O,O] rfl rfl (by kernel_rfl) (fun _ _ _ h => h) (Or.inl ⟨by rfl, ?_⟩) ?_ ?_
    rotate_left; · intro w'; go_simp; with_reducible rfl
    rotate_left; · simp only [nm_]; rfl
    refine pure_ (i := 1) (N := some 18) (v := ?_) (a' := ?_) #[U,U,O,O,O,O,O,O,O,O,O,O,O,O,O,O,O,O,O] rfl rfl (by kernel_rfl) (fun _ _ _ h => h) (Or.inl ⟨by rfl, ?_⟩) ?_ ?_
    rotate_left; · intro w'; go_simp; with_reducible rfl
    rotate_left; · simp only [nm_]; rfl
    refine pure_ (i := 2) (N := some 19) (v := ?_) (a' := ?_) #[U,U,U,O,O,O,O,O,O,O,O,O,O,O,O,O,O,O,O] rfl rfl (by kernel_rfl) (fun _ _ _ h => h) (Or.inl ⟨by rfl, ?_⟩) ?_ ?_
    rotate_left; · intro w'; go_simp; with_reducible rfl
    rotate_left; · simp only [nm_]; rfl
    refine pure_ (i := 3) (N := some 20) (v := ?_) (a' := ?_) #[U,U,U,U,O,O,O,O,O,O,O,O,O,O,O,O,O,O,O] rfl rfl (by kernel_rfl) (fun _ _ _ h => h) (Or.inl ⟨by rfl, ?_⟩) ?_ ?_
    rotate_left; · intro w'; go_simp; with_reducible rfl
    rotate_left; · simp only [nm_]; rfl
    refine pure_ (i := 4) (N := some 21) (v := ?_) (a' := ?_) #[U,U,U,U,U,O,O,O,O,O,O,O,O,O,O,O,O,O,O] rfl rfl (by kernel_rfl) (fun _ _ _ h => h) (Or.inl ⟨by rfl, ?_⟩) ?_ ?_
    rotate_left; · intro w'; go_simp; with_reducible rfl
    rotate_left; · simp only [nm_]; rfl
    refine pure_ (i := 5) (N := some 22) (v := ?_) (a' := ?_) #[U,U,U,U,U,U,O,O,O,O,O,O,O,O,O,O,O,O,O] rfl rfl (by kernel_rfl) (fun _ _ _ h => h) (Or.inl ⟨by rfl, ?_⟩) ?_ ?_
    rotate_left; · intro w'; go_simp; with_reducible rfl
    rotate_left; · simp only [nm_]; rfl
    refine pure_ (i := 6) (N := some 23) (v := ?_) (a' := ?_) #[U,U,U,U,U,U,U,O,O,O,O,O,O,O,O,O,O,O,O] rfl rfl (by kernel_rfl) (fun _ _ _ h => h) (Or.inl ⟨by rfl, ?_⟩) ?_ ?_
    rotate_left; · intro w'; go_simp; with_reducible rfl
    rotate_left; · simp only [nm_]; rfl
    refine pure_ (i := 7) (N := some 24) (v := ?_) (a' := ?_) #[U,U,U,U,U,U,U,U,O,O,O,O,O,O,O,O,O,O,O] rfl rfl (by kernel_rfl) (fun _ _ _ h => h) (Or.inl ⟨by rfl, ?_⟩) ?_ ?_
    rotate_left; · intro w'; go_simp; with_reducible rfl
    rotate_left; · simp only [nm_]; rfl
    refine pure_ (i := 8) (N := some 25) (v := ?_) (a' := ?_) #[U,U,U,U,U,U,U,U,U,O,O,O,O,O,O,O,O,O,O] rfl rfl (by kernel_rfl) (fun _ _ _ h => h) (Or.inl ⟨by rfl, ?_⟩) ?_ ?_
    rotate_left; · intro w'; go_simp; with_reducible rfl
    rotate_left; · simp only [nm_]; rfl
    refine pure_ (i := 9) (N := some 26) (v := undef) (a' := ?_) #[U,U,U,U,U,U,U,U,U,U,O,O,O,O,O,O,O,O,O] rfl rfl (by kernel_rfl) (fun _ _ _ h => h) (Or.inr ⟨by rfl, rfl⟩) ?_ ?_
    rotate_left; · simp only [nm_]; rfl
    refine pure_ (i := 10) (N := some 27) (v := undef) (a' := ?_) #[U,U,U,U,U,U,U,U,U,U,U,O,O,O,O,O,O,O,O] rfl rfl (by kernel_rfl) (fun _ _ _ h => h) (Or.inr ⟨by rfl, rfl⟩) ?_ ?_
    rotate_left; · simp only [nm_]; rfl
    refine pure_ (i := 11) (N := some 28) (v := undef) (a' := ?_) #[U,U,U,U,U,U,U,U,U,U,U,U,O,O,O,O,O,O,O] rfl rfl (by kernel_rfl) (fun _ _ _ h => h) (Or.inr ⟨by rfl, rfl⟩) ?_ ?_
    rotate_left; · simp only [nm_]; rfl
    refine pure_ (i := 12) (N := some 29) (v := undef) (a' := ?_) #[U,U,U,U,U,U,U,U,U,U,U,U,U,O,O,O,O,O,O] rfl rfl (by kernel_rfl) (fun _ _ _ h => h) (Or.inr ⟨by rfl, rfl⟩) ?_ ?_
    rotate_left; · simp only [nm_]; rfl
    refine pure_ (i := 13) (N := some 30) (v := undef) (a' := ?_) #[U,U,U,U,U,U,U,U,U,U,U,U,U,U,O,O,O,O,O] rfl rfl (by kernel_rfl) (fun _ _ _ h => h) (Or.inr ⟨by rfl, rfl⟩) ?_ ?_
    rotate_left; · simp only [nm_]; rfl
    refine pure_ (i := 14) (N := some 31) (v := undef) (a' := ?_) #[U,U,U,U,U,U,U,U,U,U,U,U,U,U,U,O,O,O,O] rfl rfl (by kernel_rfl) (fun _ _ _ h => h) (Or.inr ⟨by rfl, rfl⟩) ?_ ?_
    rotate_left; · simp only [nm_]; rfl
    refine pure_ (i := 15) (N := some 32) (v := undef) (a' := ?_) #[U,U,U,U,U,U,U,U,U,U,U,U,U,U,U,U,O,O,O] rfl rfl (by kernel_rfl) (fun _ _ _ h => h) (Or.inr ⟨by rfl, rfl⟩) ?_ ?_
    rotate_left; · simp only [nm_]; rfl
    refine pure_ (i := 16) (N := some 33) (v := undef) (a' := ?_) #[U,U,U,U,U,U,U,U,U,U,U,U,U,U,U,U,U,O,O] rfl rfl (by kernel_rfl) (fun _ _ _ h => h) (Or.inr ⟨by rfl, rfl⟩) ?_ ?_
    rotate_left; · simp only [nm_]; rfl
    refine pure_ (i := 17) (N := some 34) (v := undef) (a' := ?_) #[U,U,U,U,U,U,U,U,U,U,U,U,U,U,U,U,U,U,O] rfl rfl (by kernel_rfl) (fun _ _ _ h => h) (Or.inr ⟨by rfl, rfl⟩) ?_ ?_
    rotate_left; · simp only [nm_]; rfl
    refine pure_ (i := 18) (N := some 35) (v := ?_) (a' := ?_) #[U,U,U,U,U,U,U,U,U,U,U,U,U,U,U,U,U,U,U] rfl rfl (by kernel_rfl) (fun _ _ _ h => h) (Or.inl ⟨by rfl, ?_⟩) ?_ ?_
    rotate_left; · intro w'; go_simp; with_reducible rfl
    rotate_left; · simp only [nm_]; rfl
    refine done_ (by kernel_rfl) ?_
    have HGX := Aside0.mk (Grew.trans HG1.out (below_drew (Grew.refl w1)))
    have kx0 : w1.drew.cell? ⟨w.heap.size, 0, none⟩ = some (I n) := (Below.cell (w := w1) (below_drew (Grew.refl w1)) (p := ⟨w.heap.size, 0, none⟩) hlb).trans kb0
    have kx1 : w1.drew.cell? ⟨w.heap.size, 1, none⟩ = some (.slice A l.length c) := (Below.cell (w := w1) (below_drew (Grew.refl w1)) (p := ⟨w.heap.size, 1, none⟩) hlb).trans kb1
    clear kb0 kb1 hlb
    obtain ⟨wx, hwx⟩ : ∃ wx, wx = w1.drew := ⟨_, rfl⟩
    rw [← hwx] at HGX kx0 kx1
    try rw [← hwx]
    clear hwx
    have kb0 := kx0
    have kb1 := kx1
    clear kx0 kx1
    have hlb := World.block_lt_of_cell? wx _ kb0
    go_wp2_with fail
    refine start_ (n := 9) (S := fun w' => w'.cell? ⟨w.heap.size, 0, none⟩ = some (I n) ∧ w'.cell? ⟨w.heap.size, 1, none⟩ = some (.slice A l.length c)) (ds := []) #[O,O,O,O,O,O,O,O,O] (by kernel_rfl) rfl rfl ⟨(Below.cell (w := wx) (below_drew (Grew.refl wx)) (p := ⟨w.heap.size, 0, none⟩) hlb).trans kb0, (Below.cell (w := wx) (below_drew (Grew.refl wx)) (p := ⟨w.heap.size, 1, none⟩) hlb).trans kb1⟩ (fun hHeld => ?_)
    refine pure_ (i := 1) (N := some 37) (v := ?_) (a' := ?_) #[O,U,O,O,O,O,O,O,O] rfl rfl (by kernel_rfl) (fun _ _ _ h => h) (Or.inl ⟨by rfl, ?_⟩) ?_ ?_
    rotate_left; · intro w'; go_simp; with_reducible rfl
    rotate_left; · simp only [nm_]; rfl
    refine pure_ (i := 3) (N := some 39) (v := ?_) (a' := ?_) #[O,U,O,U,O,O,O,O,O] rfl rfl (by kernel_rfl) (fun _ _ _ h => h) (Or.inl ⟨by rfl, ?_⟩) ?_ ?_
    rotate_left; · intro w'; go_simp; with_reducible rfl
    rotate_left; · simp only [nm_]; rfl
    refine take_ (i := 0) (N := some 36) (v := ?_) (a' := ?_) #[U,U,O,U,O,O,O,O,O] rfl rfl (by kernel_rfl) (fun _ _ _ h => h) (Or.inl ⟨by rfl, ?_⟩) hHeld ?_ ?_
    rotate_left; · rintro w' ⟨s0, s1⟩; go_simp; with_reducible rfl
    rotate_left; · simp only [nm_]; rfl
    refine one_ (i := 2) (N := some 38) #[U,U,U,U,O,O,O,O,O] rfl rfl (by kernel_rfl) (by decide) (fun K hK => ?_)
    refine goes_ Try.func43 (by kernel_rfl) rfl #[.slice A2 xs.length c2] (by rfl) rfl rfl (by simp only [List.map_toArray, List.map_cons, List.map_nil]; rfl) ?_
    with_reducible refine (HCA.out _ (Grew.trans HGX.out (below_drew (Grew.refl wx)))).mono ?_
    rintro e w5 ⟨rfl, hGc⟩
    refine ⟨_, rfl, ?_⟩
    have HM := Aside0.mk (Grew.trans (below_drew (Grew.refl wx)) hGc)
    clear hGc
    refine hK.out _ _ ⟨(Below.cell (w := wx) HM.out (p := ⟨w.heap.size, 0, none⟩) hlb).trans kb0, (Below.cell (w := wx) HM.out (p := ⟨w.heap.size, 1, none⟩) hlb).trans kb1⟩ (fun hHeld => ?_)
    clear hK K
    refine norm_ (a' := ?_) ?_ ?_
    rotate_left
    ·show Act.put _ (some 38) _ = _
     simp only [nm_]
     rfl
    refine one_ (i := 4) (N := some 40) #[U,U,U,U,U,O,O,O,O] rfl rfl (by kernel_rfl) (by decide) (fun K hK => ?_)
    refine goes_ Try.func43 (by kernel_rfl) rfl #[.slice A5 ys.length c5] (by rfl) rfl rfl (by simp only [List.map_toArray, List.map_cons, List.map_nil]; rfl) ?_
    with_reducible refine (HCB.out _ (Grew.trans HGX.out HM.out)).mono ?_
    rintro e w6 ⟨rfl, hGd⟩
    refine ⟨_, rfl, ?_⟩
    replace HM := Aside0.mk (Grew.trans HM.out hGd)
    clear hGd
    refine hK.out _ _ ⟨(Below.cell (w := wx) HM.out (p := ⟨w.heap.size, 0, none⟩) hlb).trans kb0, (Below.cell (w := wx) HM.out (p := ⟨w.heap.size, 1, none⟩) hlb).trans kb1⟩ (fun hHeld => ?_)
    clear hK K
    refine norm_ (a' := ?_) ?_ ?_
    rotate_left
    ·show Act.put _ (some 40) _ = _
     simp only [nm_]
     rfl
    refine pure_ (i := 5) (N := some 41) (v := ?_) (a' := ?_) #[U,U,U,U,U,U,O,O,O] rfl rfl (by kernel_rfl) (fun _ _ _ h => h) (Or.inl ⟨by rfl, ?_⟩) ?_ ?_
    rotate_left; · intro w'; go_simp; with_reducible rfl
    rotate_left; · simp only [nm_]; rfl
    refine one_ (i := 6) (N := some 42) #[U,U,U,U,U,U,U,O,O] rfl rfl (by kernel_rfl) (by decide) (fun K hK => ?_)
    refine goes_ Try.func42 (by kernel_rfl) rfl #[.agg #[I n, .slice A l.length c], .int .u64 (Go.bits .xor .u64 p q)] (by rfl) rfl rfl (by simp only [List.map_toArray, List.map_cons, List.map_nil]; rfl) ?_
    with_reducible refine (HBN.out _ (Grew.trans HGX.out HM.out)).mono ?_
    rintro e w7 ⟨rfl, hGe⟩
    refine ⟨_, rfl, ?_⟩
    replace HM := Aside0.mk (Grew.trans HM.out hGe)
    clear hGe
    refine hK.out _ _ ⟨(Below.cell (w := wx) HM.out (p := ⟨w.heap.size, 0, none⟩) hlb).trans kb0, (Below.cell (w := wx) HM.out (p := ⟨w.heap.size, 1, none⟩) hlb).trans kb1⟩ (fun hHeld => ?_)
    clear hK K
    refine norm_ (a' := ?_) ?_ ?_
    rotate_left
    ·show Act.put _ (some 42) _ = _
     simp only [nm_]
     rfl
    refine pure_ (i := 7) (N := some 6) (v := ?_) (a' := ?_) #[U,U,U,U,U,U,U,U,O] rfl rfl (by kernel_rfl) (fun _ _ _ h => h) (Or.inl ⟨by rfl, ?_⟩) ?_ ?_
    rotate_left; · intro w'; go_simp; with_reducible rfl
    rotate_left; · simp only [nm_]; rfl
    refine pure_ (i := 8) (N := some 7) (v := ?_) (a' := ?_) #[U,U,U,U,U,U,U,U,U] rfl rfl (by kernel_rfl) (fun _ _ _ h => h) (Or.inl ⟨by rfl, ?_⟩) ?_ ?_
    rotate_left; · intro w'; go_simp; with_reducible rfl
    rotate_left; · simp only [nm_]; rfl
    refine done_ (by kernel_rfl) ?_
    go_wp2_with fail
    go_ret2
    exact ⟨by (rw [HN.out.1, HN.out.2]; try rfl), Grew.trans HGX.out HM.out⟩
   ·have hzb1 : 0 < ys.length := by omega
    have hzb2 : decide (0 < ys.length) = true := decide_eq_true hzb1
    obtain ⟨ad, ea, hx0⟩ := Kd.at_int (Kd.C_below HX.out HG1.out) (0 : Int) (by omega) (by omega)
    obtain ⟨ad2, eb, hy0⟩ := Kd.at_int (Kd.C_below HY.out HG1.out) (0 : Int) (by omega) (by omega)
    cases ea
    cases eb
    have hrx : rd xs (0 : Int) = xs.getD 0 0 := rfl
    have hry : rd ys (0 : Int) = ys.getD 0 0 := rfl
    rw [hrx] at hx0
    rw [hry] at hy0
    have HSX := Aside0.mk (HSZ.out (xs.getD 0 0) (Or.inl ⟨by omega, rfl⟩))
    have HSY := Aside0.mk (HSZ.out (ys.getD 0 0) (Or.inr ⟨by omega, rfl⟩))
    have HMI : Aside0 (onesI (xs.getD 0 0) ≠ onesI (ys.getD 0 0) → homA n l xs ys = false ∧ homC n l xs ys = 5) := ⟨fun h => HYM.out ⟨by omega, by omega, h⟩⟩
    have HMN := Aside0.mk (fun h => HNM.out (Or.inr (Or.inr h)))
    clear HSZ hrx hry HNM HYM hza hzb
    generalize xs.getD 0 0 = x at hx0 HSX HMI HMN
    generalize ys.getD 0 0 = y at hy0 HSY HMI HMN
    generalize onesI x = u at HSX HMI HMN
    generalize onesI y = v at HSY HMI HMN
    replace hx0 : w1.cell? ad = some (I x) := (congrArg w1.cell? (add_zero_ ad)).symm.trans hx0
    replace hy0 : w1.cell? ad2 = some (I y) := (congrArg w1.cell? (add_zero_ ad2)).symm.trans hy0
    have hlx := World.block_lt_of_cell? w1 _ hx0
    have hly := World.block_lt_of_cell? w1 _ hy0
    by_cases huv : u = v
    ·have HN := Aside0.mk (HMN.out huv)
     clear HMI HMN
     subst huv
     refine start_ (n := 19) (S := fun w' => w'.cell? ⟨w.heap.size, 0, none⟩ = some (I n) ∧ w'.cell? ⟨w.heap.size, 1, none⟩ = some (.slice A l.length c) ∧ w'.cell? ad = some (I x) ∧ w'.cell? ad2 = some (I y)) (ds := []) #[O,O,O,O,O,O,O,O,O,O,O,O,O,O,O,O,O,O,O] (by kernel_rfl) rfl rfl ⟨(Below.cell (w := w1) (below_drew (Grew.refl w1)) (p := ⟨w.heap.size, 0, none⟩) hlb).trans kb0, (Below.cell (w := w1) (below_drew (Grew.refl w1)) (p := ⟨w.heap.size, 1, none⟩) hlb).trans kb1, (Below.cell (w := w1) (below_drew (Grew.refl w1)) (p := ad) hlx).trans hx0, (Below.cell (w := w1) (below_drew (Grew.refl w1)) (p := ad2) hly).trans hy0⟩ (fun hHeld => ?_)
     refine pure_ (i := 0) (N := some 17) (v := ?_) (a' := ?_) #[U,O,O,O,O,O,O,O,O,O,O,O,O,O,O,O,O,O,O] rfl rfl (by kernel_rfl) (fun _ _ _ h => h) (Or.inl ⟨by rfl, ?_⟩) ?_ ?_
     rotate_left; · intro w'; go_simp; with_reducible rfl
     rotate_left; · simp only [nm_]; rfl
     refine pure_ (i := 1) (N := some 18) (v := ?_) (a' := ?_) #[U,U,O,O,O,O,O,O,O,O,O,O,O,O,O,O,O,O,O] rfl rfl (by kernel_rfl) (fun _ _ _ h => h) (Or.inl ⟨by rfl, ?_⟩) ?_ ?_
     rotate_left; · intro w'; go_simp; with_reducible rfl
     rotate_left; · simp only [nm_]; rfl
     refine pure_ (i := 2) (N := some 19) (v := ?_) (a' := ?_) #[U,U,U,O,O,O,O,O,O,O,O,O,O,O,O,O,O,O,O] rfl rfl (by kernel_rfl) (fun _ _ _ h => h) (Or.inl ⟨by rfl, ?_⟩) ?_ ?_
     rotate_left; · intro w'; go_simp; with_reducible rfl
     rotate_left; · simp only [nm_]; rfl
     refine pure_ (i := 3) (N := some 20) (v := ?_) (a' := ?_) #[U,U,U,U,O,O,O,O,O,O,O,O,O,O,O,O,O,O,O] rfl rfl (by kernel_rfl) (fun _ _ _ h => h) (Or.inl ⟨by rfl, ?_⟩) ?_ ?_
     rotate_left; · intro w'; go_simp; with_reducible rfl
     rotate_left; · simp only [nm_]; rfl
     refine pure_ (i := 4) (N := some 21) (v := ?_) (a' := ?_) #[U,U,U,U,U,O,O,O,O,O,O,O,O,O,O,O,O,O,O] rfl rfl (by kernel_rfl) (fun _ _ _ h => h) (Or.inl ⟨by rfl, ?_⟩) ?_ ?_
     rotate_left; · intro w'; go_simp; with_reducible rfl
     rotate_left; · simp only [nm_]; rfl
     refine pure_ (i := 5) (N := some 22) (v := ?_) (a' := ?_) #[U,U,U,U,U,U,O,O,O,O,O,O,O,O,O,O,O,O,O] rfl rfl (by kernel_rfl) (fun _ _ _ h => h) (Or.inl ⟨by rfl, ?_⟩) ?_ ?_
     rotate_left; · intro w'; go_simp; with_reducible rfl
     rotate_left; · simp only [nm_]; rfl
     refine pure_ (i := 6) (N := some 23) (v := ?_) (a' := ?_) #[U,U,U,U,U,U,U,O,O,O,O,O,O,O,O,O,O,O,O] rfl rfl (by kernel_rfl) (fun _ _ _ h => h) (Or.inl ⟨by rfl, ?_⟩) ?_ ?_
     rotate_left; · intro w'; go_simp; with_reducible rfl
     rotate_left; · simp only [nm_]; rfl
     refine pure_ (i := 7) (N := some 24) (v := ?_) (a' := ?_) #[U,U,U,U,U,U,U,U,O,O,O,O,O,O,O,O,O,O,O] rfl rfl (by kernel_rfl) (fun _ _ _ h => h) (Or.inl ⟨by rfl, ?_⟩) ?_ ?_
     rotate_left; · intro w'; go_simp; with_reducible rfl
     rotate_left; · simp only [nm_]; rfl
     refine pure_ (i := 8) (N := some 25) (v := ?_) (a' := ?_) #[U,U,U,U,U,U,U,U,U,O,O,O,O,O,O,O,O,O,O] rfl rfl (by kernel_rfl) (fun _ _ _ h => h) (Or.inl ⟨by rfl, ?_⟩) ?_ ?_
     rotate_left; · intro w'; go_simp; with_reducible rfl
     rotate_left; · simp only [nm_]; rfl
     refine pure_ (i := 9) (N := some 26) (v := ?_) (a' := ?_) #[U,U,U,U,U,U,U,U,U,U,O,O,O,O,O,O,O,O,O] rfl rfl (by kernel_rfl) (fun _ _ _ h => h) (Or.inl ⟨by rfl, ?_⟩) ?_ ?_
     rotate_left; · intro w'; go_simp; with_reducible rfl
     rotate_left; · simp only [nm_]; rfl
     refine pure_ (i := 10) (N := some 27) (v := ?_) (a' := ?_) #[U,U,U,U,U,U,U,U,U,U,U,O,O,O,O,O,O,O,O] rfl rfl (by kernel_rfl) (fun _ _ _ h => h) (Or.inl ⟨by rfl, ?_⟩) ?_ ?_
     rotate_left; · intro w'; go_simp; with_reducible rfl
     rotate_left; · simp only [nm_]; rfl
     refine pure_ (i := 13) (N := some 30) (v := ?_) (a' := ?_) #[U,U,U,U,U,U,U,U,U,U,U,O,O,U,O,O,O,O,O] rfl rfl (by kernel_rfl) (fun _ _ _ h => h) (Or.inl ⟨by rfl, ?_⟩) ?_ ?_
     rotate_left; · intro w'; go_simp; with_reducible rfl
     rotate_left; · simp only [nm_]; rfl
     refine pure_ (i := 14) (N := some 31) (v := ?_) (a' := ?_) #[U,U,U,U,U,U,U,U,U,U,U,O,O,U,U,O,O,O,O] rfl rfl (by kernel_rfl) (fun _ _ _ h => h) (Or.inl ⟨by rfl, ?_⟩) ?_ ?_
     rotate_left; · intro w'; go_simp; with_reducible rfl
     rotate_left; · simp only [nm_]; rfl
     refine take_ (i := 11) (N := some 28) (v := ?_) (a' := ?_) #[U,U,U,U,U,U,U,U,U,U,U,U,O,U,U,O,O,O,O] rfl rfl (by kernel_rfl) (fun _ _ _ h => h) (Or.inl ⟨by rfl, ?_⟩) hHeld ?_ ?_
     rotate_left; · rintro w' ⟨s0, s1, s2, s3⟩; go_simp; with_reducible rfl
     rotate_left; · simp only [nm_]; rfl
     refine take_ (i := 15) (N := some 32) (v := ?_) (a' := ?_) #[U,U,U,U,U,U,U,U,U,U,U,U,O,U,U,U,O,O,O] rfl rfl (by kernel_rfl) (fun _ _ _ h => h) (Or.inl ⟨by rfl, ?_⟩) hHeld ?_ ?_
     rotate_left; · rintro w' ⟨s0, s1, s2, s3⟩; go_simp; with_reducible rfl
     rotate_left; · simp only [nm_]; rfl
     refine one_ (i := 12) (N := some 29) #[U,U,U,U,U,U,U,U,U,U,U,U,U,U,U,U,O,O,O] rfl rfl (by kernel_rfl) (by decide) (fun K hK => ?_)
     refine goes_ Try.func46 (by kernel_rfl) rfl #[I x] (by rfl) rfl rfl (by simp only [List.map_toArray, List.map_cons, List.map_nil]; rfl) ?_
     with_reducible refine (HSX.out _).mono ?_
     rintro e w3 ⟨rfl, hGa⟩
     refine ⟨_, rfl, ?_⟩
     have HL := Aside0.mk (Grew.trans (below_drew (Grew.refl w1)) hGa)
     clear hGa
     refine hK.out _ _ ⟨(Below.cell (w := w1) HL.out (p := ⟨w.heap.size, 0, none⟩) hlb).trans kb0, (Below.cell (w := w1) HL.out (p := ⟨w.heap.size, 1, none⟩) hlb).trans kb1, (Below.cell (w := w1) HL.out (p := ad) hlx).trans hx0, (Below.cell (w := w1) HL.out (p := ad2) hly).trans hy0⟩ (fun hHeld => ?_)
     clear hK K
     refine norm_ (a' := ?_) ?_ ?_
     rotate_left
     ·show Act.put _ (some 29) _ = _
      simp only [nm_]
      rfl
     refine one_ (i := 16) (N := some 33) #[U,U,U,U,U,U,U,U,U,U,U,U,U,U,U,U,U,O,O] rfl rfl (by kernel_rfl) (by decide) (fun K hK => ?_)
     refine goes_ Try.func46 (by kernel_rfl) rfl #[I y] (by rfl) rfl rfl (by simp only [List.map_toArray, List.map_cons, List.map_nil]; rfl) ?_
     with_reducible refine (HSY.out _).mono ?_
     rintro e w4 ⟨rfl, hGb⟩
     refine ⟨_, rfl, ?_⟩
     replace HL := Aside0.mk (Grew.trans HL.out hGb)
     clear hGb
     refine hK.out _ _ ⟨(Below.cell (w := w1) HL.out (p := ⟨w.heap.size, 0, none⟩) hlb).trans kb0, (Below.cell (w := w1) HL.out (p := ⟨w.heap.size, 1, none⟩) hlb).trans kb1, (Below.cell (w := w1) HL.out (p := ad) hlx).trans hx0, (Below.cell (w := w1) HL.out (p := ad2) hly).trans hy0⟩ (fun hHeld => ?_)
     clear hK K
     refine norm_ (a' := ?_) ?_ ?_
     rotate_left
     ·show Act.put _ (some 33) _ = _
      simp only [nm_]
      rfl
     refine pure_ (i := 17) (N := some 34) (v := ?_) (a' := ?_) #[U,U,U,U,U,U,U,U,U,U,U,U,U,U,U,U,U,U,O] rfl rfl (by kernel_rfl) (fun _ _ _ h => h) (Or.inl ⟨by rfl, ?_⟩) ?_ ?_
     rotate_left; · intro w'; go_simp; with_reducible rfl
     rotate_left; · simp only [nm_]; rfl
     refine pure_ (i := 18) (N := some 35) (v := ?_) (a' := ?_) #[U,U,U,U,U,U,U,U,U,U,U,U,U,U,U,U,U,U,U] rfl rfl (by kernel_rfl) (fun _ _ _ h => h) (Or.inl ⟨by rfl, ?_⟩) ?_ ?_
     rotate_left; · intro w'; go_simp; with_reducible rfl
     rotate_left; · simp only [nm_]; rfl
     refine done_ (by kernel_rfl) ?_
     have HGX := Aside0.mk (Grew.trans HG1.out HL.out)
     have kx0 : w4.cell? ⟨w.heap.size, 0, none⟩ = some (I n) := (Below.cell (w := w1) HL.out (p := ⟨w.heap.size, 0, none⟩) hlb).trans kb0
     have kx1 : w4.cell? ⟨w.heap.size, 1, none⟩ = some (.slice A l.length c) := (Below.cell (w := w1) HL.out (p := ⟨w.heap.size, 1, none⟩) hlb).trans kb1
     clear kb0 kb1 hlb
     obtain ⟨wx, hwx⟩ : ∃ wx, wx = w4 := ⟨_, rfl⟩
     rw [← hwx] at HGX kx0 kx1
     try rw [← hwx]
     clear hwx
     have kb0 := kx0
     have kb1 := kx1
     clear kx0 kx1
     have hlb := World.block_lt_of_cell? wx _ kb0
     go_wp2_with fail
     refine start_ (n := 9) (S := fun w' => w'.cell? ⟨w.heap.size, 0, none⟩ = some (I n) ∧ w'.cell? ⟨w.heap.size, 1, none⟩ = some (.slice A l.length c)) (ds := []) #[O,O,O,O,O,O,O,O,O] (by kernel_rfl) rfl rfl ⟨(Below.cell (w := wx) (below_drew (Grew.refl wx)) (p := ⟨w.heap.size, 0, none⟩) hlb).trans kb0, (Below.cell (w := wx) (below_drew (Grew.refl wx)) (p := ⟨w.heap.size, 1, none⟩) hlb).trans kb1⟩ (fun hHeld => ?_)
     refine pure_ (i := 1) (N := some 37) (v := ?_) (a' := ?_) #[O,U,O,O,O,O,O,O,O] rfl rfl (by kernel_rfl) (fun _ _ _ h => h) (Or.inl ⟨by rfl, ?_⟩) ?_ ?_
     rotate_left; · intro w'; go_simp; with_reducible rfl
     rotate_left; · simp only [nm_]; rfl
     refine pure_ (i := 3) (N := some 39) (v := ?_) (a' := ?_) #[O,U,O,U,O,O,O,O,O] rfl rfl (by kernel_rfl) (fun _ _ _ h => h) (Or.inl ⟨by rfl, ?_⟩) ?_ ?_
     rotate_left; · intro w'; go_simp; with_reducible rfl
     rotate_left; · simp only [nm_]; rfl
     refine take_ (i := 0) (N := some 36) (v := ?_) (a' := ?_) #[U,U,O,U,O,O,O,O,O] rfl rfl (by kernel_rfl) (fun _ _ _ h => h) (Or.inl ⟨by rfl, ?_⟩) hHeld ?_ ?_
     rotate_left; · rintro w' ⟨s0, s1⟩; go_simp; with_reducible rfl
     rotate_left; · simp only [nm_]; rfl
     refine one_ (i := 2) (N := some 38) #[U,U,U,U,O,O,O,O,O] rfl rfl (by kernel_rfl) (by decide) (fun K hK => ?_)
     refine goes_ Try.func43 (by kernel_rfl) rfl #[.slice (some ad) xs.length c2] (by rfl) rfl rfl (by simp only [List.map_toArray, List.map_cons, List.map_nil]; rfl) ?_
     with_reducible refine (HCA.out _ (Grew.trans HGX.out (below_drew (Grew.refl wx)))).mono ?_
     rintro e w5 ⟨rfl, hGc⟩
     refine ⟨_, rfl, ?_⟩
     have HM := Aside0.mk (Grew.trans (below_drew (Grew.refl wx)) hGc)
     clear hGc
     refine hK.out _ _ ⟨(Below.cell (w := wx) HM.out (p := ⟨w.heap.size, 0, none⟩) hlb).trans kb0, (Below.cell (w := wx) HM.out (p := ⟨w.heap.size, 1, none⟩) hlb).trans kb1⟩ (fun hHeld => ?_)
     clear hK K
     refine norm_ (a' := ?_) ?_ ?_
     rotate_left
     ·show Act.put _ (some 38) _ = _
      simp only [nm_]
      rfl
     refine one_ (i := 4) (N := some 40) #[U,U,U,U,U,O,O,O,O] rfl rfl (by kernel_rfl) (by decide) (fun K hK => ?_)
     refine goes_ Try.func43 (by kernel_rfl) rfl #[.slice (some ad2) ys.length c5] (by rfl) rfl rfl (by simp only [List.map_toArray, List.map_cons, List.map_nil]; rfl) ?_
     with_reducible refine (HCB.out _ (Grew.trans HGX.out HM.out)).mono ?_
     rintro e w6 ⟨rfl, hGd⟩
     refine ⟨_, rfl, ?_⟩
     replace HM := Aside0.mk (Grew.trans HM.out hGd)
     clear hGd
     refine hK.out _ _ ⟨(Below.cell (w := wx) HM.out (p := ⟨w.heap.size, 0, none⟩) hlb).trans kb0, (Below.cell (w := wx) HM.out (p := ⟨w.heap.size, 1, none⟩) hlb).trans kb1⟩ (fun hHeld => ?_)
     clear hK K
     refine norm_ (a' := ?_) ?_ ?_
     rotate_left
     ·show Act.put _ (some 40) _ = _
      simp only [nm_]
      rfl
     refine pure_ (i := 5) (N := some 41) (v := ?_) (a' := ?_) #[U,U,U,U,U,U,O,O,O] rfl rfl (by kernel_rfl) (fun _ _ _ h => h) (Or.inl ⟨by rfl, ?_⟩) ?_ ?_
     rotate_left; · intro w'; go_simp; with_reducible rfl
     rotate_left; · simp only [nm_]; rfl
     refine one_ (i := 6) (N := some 42) #[U,U,U,U,U,U,U,O,O] rfl rfl (by kernel_rfl) (by decide) (fun K hK => ?_)
     refine goes_ Try.func42 (by kernel_rfl) rfl #[.agg #[I n, .slice A l.length c], .int .u64 (Go.bits .xor .u64 p q)] (by rfl) rfl rfl (by simp only [List.map_toArray, List.map_cons, List.map_nil]; rfl) ?_
     with_reducible refine (HBN.out _ (Grew.trans HGX.out HM.out)).mono ?_
     rintro e w7 ⟨rfl, hGe⟩
     refine ⟨_, rfl, ?_⟩
     replace HM := Aside0.mk (Grew.trans HM.out hGe)
     clear hGe
     refine hK.out _ _ ⟨(Below.cell (w := wx) HM.out (p := ⟨w.heap.size, 0, none⟩) hlb).trans kb0, (Below.cell (w := wx) HM.out (p := ⟨w.heap.size, 1, none⟩) hlb).trans kb1⟩ (fun hHeld => ?_)
     clear hK K
     refine norm_ (a' := ?_) ?_ ?_
     rotate_left
     ·show Act.put _ (some 42) _ = _
      simp only [nm_]
      rfl
     refine pure_ (i := 7) (N := some 6) (v := ?_) (a' := ?_) #[U,U,U,U,U,U,U,U,O] rfl rfl (by kernel_rfl) (fun _ _ _ h => h) (Or.inl ⟨by rfl, ?_⟩) ?_ ?_
     rotate_left; · intro w'; go_simp; with_reducible rfl
     rotate_left; · simp only [nm_]; rfl
     refine pure_ (i := 8) (N := some 7) (v := ?_) (a' := ?_) #[U,U,U,U,U,U,U,U,U] rfl rfl (by kernel_rfl) (fun _ _ _ h => h) (Or.inl ⟨by rfl, ?_⟩) ?_ ?_
     rotate_left; · intro w'; go_simp; with_reducible rfl
     rotate_left; · simp only [nm_]; rfl
     refine done_ (by kernel_rfl) ?_
     go_wp2_with fail
     go_ret2
     exact ⟨by (rw [HN.out.1, HN.out.2]; try rfl), Grew.trans HGX.out HM.out⟩
    ·have HN := Aside0.mk (HMI.out huv)
     clear HMI HMN
     have huv1 : (u == v) = false := by simpa using huv
     have huv2 : (u != v) = true := by simpa using huv
     refine start_ (n := 19) (S := fun w' => w'.cell? ⟨w.heap.size, 0, none⟩ = some (I n) ∧ w'.cell? ⟨w.heap.size, 1, none⟩ = some (.slice A l.length c) ∧ w'.cell? ad = some (I x) ∧ w'.cell? ad2 = some (I y)) (ds := []) #[O,O,O,O,O,O,O,O,O,O,O,O,O,O,O,O,O,O,O] (by kernel_rfl) rfl rfl ⟨(Below.cell (w := w1) (below_drew (Grew.refl w1)) (p := ⟨w.heap.size, 0, none⟩) hlb).trans kb0, (Below.cell (w := w1) (below_drew (Grew.refl w1)) (p := ⟨w.heap.size, 1, none⟩) hlb).trans kb1, (Below.cell (w := w1) (below_drew (Grew.refl w1)) (p := ad) hlx).trans hx0, (Below.cell (w := w1) (below_drew (Grew.refl w1)) (p := ad2) hly).trans hy0⟩ (fun hHeld => ?_)
     refine pure_ (i := 0) (N := some 17) (v := ?_) (a' := ?_) #[U,O,O,O,O,O,O,O,O,O,O,O,O,O,O,O,O,O,O] rfl rfl (by kernel_rfl) (fun _ _ _ h => h) (Or.inl ⟨by rfl, ?_⟩) ?_ ?_
     rotate_left; · intro w'; go_simp; with_reducible rfl
     rotate_left; · simp only [nm_]; rfl
     refine pure_ (i := 1) (N := some 18) (v := ?_) (a' := ?_) #[U,U,O,O,O,O,O,O,O,O,O,O,O,O,O,O,O,O,O] rfl rfl (by kernel_rfl) (fun _ _ _ h => h) (Or.inl ⟨by rfl, ?_⟩) ?_ ?_
     rotate_left; · intro w'; go_simp; with_reducible rfl
     rotate_left; · simp only [nm_]; rfl
     refine pure_ (i := 2) (N := some 19) (v := ?_) (a' := ?_) #[U,U,U,O,O,O,O,O,O,O,O,O,O,O,O,O,O,O,O] rfl rfl (by kernel_rfl) (fun _ _ _ h => h) (Or.inl ⟨by rfl, ?_⟩) ?_ ?_
     rotate_left; · intro w'; go_simp; with_reducible rfl
     rotate_left; · simp only [nm_]; rfl
     refine pure_ (i := 3) (N := some 20) (v := ?_) (a' := ?_) #[U,U,U,U,O,O,O,O,O,O,O,O,O,O,O,O,O,O,O] rfl rfl (by kernel_rfl) (fun _ _ _ h => h) (Or.inl ⟨by rfl, ?_⟩) ?_ ?_
     rotate_left; · intro w'; go_simp; with_reducible rfl
     rotate_left; · simp only [nm_]; rfl
     refine pure_ (i := 4) (N := some 21) (v := ?_) (a' := ?_) #[U,U,U,U,U,O,O,O,O,O,O,O,O,O,O,O,O,O,O] rfl rfl (by kernel_rfl) (fun _ _ _ h => h) (Or.inl ⟨by rfl, ?_⟩) ?_ ?_
     rotate_left; · intro w'; go_simp; with_reducible rfl
     rotate_left; · simp only [nm_]; rfl
     refine pure_ (i := 5) (N := some 22) (v := ?_) (a' := ?_) #[U,U,U,U,U,U,O,O,O,O,O,O,O,O,O,O,O,O,O] rfl rfl (by kernel_rfl) (fun _ _ _ h => h) (Or.inl ⟨by rfl, ?_⟩) ?_ ?_
     rotate_left; · intro w'; go_simp; with_reducible rfl
     rotate_left; · simp only [nm_]; rfl
     refine pure_ (i := 6) (N := some 23) (v := ?_) (a' := ?_) #[U,U,U,U,U,U,U,O,O,O,O,O,O,O,O,O,O,O,O] rfl rfl (by kernel_rfl) (fun _ _ _ h => h) (Or.inl ⟨by rfl, ?_⟩) ?_ ?_
     rotate_left; · intro w'; go_simp; with_reducible rfl
     rotate_left; · simp only [nm_]; rfl
     refine pure_ (i := 7) (N := some 24) (v := ?_) (a' := ?_) #[U,U,U,U,U,U,U,U,O,O,O,O,O,O,O,O,O,O,O] rfl rfl (by kernel_rfl) (fun _ _ _ h => h) (Or.inl ⟨by rfl, ?_⟩) ?_ ?_
     rotate_left; · intro w'; go_simp; with_reducible rfl
     rotate_left; · simp only [nm_]; rfl
     refine pure_ (i := 8) (N := some 25) (v := ?_) (a' := ?_) #[U,U,U,U,U,U,U,U,U,O,O,O,O,O,O,O,O,O,O] rfl rfl (by kernel_rfl) (fun _ _ _ h => h) (Or.inl ⟨by rfl, ?_⟩) ?_ ?_
     rotate_left; · intro w'; go_simp; with_reducible rfl
     rotate_left; · simp only [nm_]; rfl
     refine pure_ (i := 9) (N := some 26) (v := ?_) (a' := ?_) #[U,U,U,U,U,U,U,U,U,U,O,O,O,O,O,O,O,O,O] rfl rfl (by kernel_rfl) (fun _ _ _ h => h) (Or.inl ⟨by rfl, ?_⟩) ?_ ?_
     rotate_left; · intro w'; go_simp; with_reducible rfl
     rotate_left; · simp only [nm_]; rfl
     refine pure_ (i := 10) (N := some 27) (v := ?_) (a' := ?_) #[U,U,U,U,U,U,U,U,U,U,U,O,O,O,O,O,O,O,O] rfl rfl (by kernel_rfl) (fun _ _ _ h => h) (Or.inl ⟨by rfl, ?_⟩) ?_ ?_
     rotate_left; · intro w'; go_simp; with_reducible rfl
     rotate_left; · simp only [nm_]; rfl
     refine pure_ (i := 13) (N := some 30) (v := ?_) (a' := ?_) #[U,U,U,U,U,U,U,U,U,U,U,O,O,U,O,O,O,O,O] rfl rfl (by kernel_rfl) (fun _ _ _ h => h) (Or.inl ⟨by rfl, ?_⟩) ?_ ?_
     rotate_left; · intro w'; go_simp; with_reducible rfl
     rotate_left; · simp only [nm_]; rfl
     refine pure_ (i := 14) (N := some 31) (v := ?_) (a' := ?_) #[U,U,U,U,U,U,U,U,U,U,U,O,O,U,U,O,O,O,O] rfl rfl (by kernel_rfl) (fun _ _ _ h => h) (Or.inl ⟨by rfl, ?_⟩) ?_ ?_
     rotate_left; · intro w'; go_simp; with_reducible rfl
     rotate_left; · simp only [nm_]; rfl
     refine take_ (i := 11) (N := some 28) (v := ?_) (a' := ?_) #[U,U,U,U,U,U,U,U,U,U,U,U,O,U,U,O,O,O,O] rfl rfl (by kernel_rfl) (fun _ _ _ h => h) (Or.inl ⟨by rfl, ?_⟩) hHeld ?_ ?_
     rotate_left; · rintro w' ⟨s0, s1, s2, s3⟩; go_simp; with_reducible rfl
     rotate_left; · simp only [nm_]; rfl
     refine take_ (i := 15) (N := some 32) (v := ?_) (a' := ?_) #[U,U,U,U,U,U,U,U,U,U,U,U,O,U,U,U,O,O,O] rfl rfl (by kernel_rfl) (fun _ _ _ h => h) (Or.inl ⟨by rfl, ?_⟩) hHeld ?_ ?_
     rotate_left; · rintro w' ⟨s0, s1, s2, s3⟩; go_simp; with_reducible rfl
     rotate_left; · simp only [nm_]; rfl
     refine one_ (i := 12) (N := some 29) #[U,U,U,U,U,U,U,U,U,U,U,U,U,U,U,U,O,O,O] rfl rfl (by kernel_rfl) (by decide) (fun K hK => ?_)
     refine goes_ Try.func46 (by kernel_rfl) rfl #[I x] (by rfl) rfl rfl (by simp only [List.map_toArray, List.map_cons, List.map_nil]; rfl) ?_
     with_reducible refine (HSX.out _).mono ?_
     rintro e w3 ⟨rfl, hGa⟩
     refine ⟨_, rfl, ?_⟩
     have HL := Aside0.mk (Grew.trans (below_drew (Grew.refl w1)) hGa)
     clear hGa
     refine hK.out _ _ ⟨(Below.cell (w := w1) HL.out (p := ⟨w.heap.size, 0, none⟩) hlb).trans kb0, (Below.cell (w := w1) HL.out (p := ⟨w.heap.size, 1, none⟩) hlb).trans kb1, (Below.cell (w := w1) HL.out (p := ad) hlx).trans hx0, (Below.cell (w := w1) HL.out (p := ad2) hly).trans hy0⟩ (fun hHeld => ?_)
     clear hK K
     refine norm_ (a' := ?_) ?_ ?_
     rotate_left
     ·show Act.put _ (some 29) _ = _
      simp only [nm_]
      rfl
     refine one_ (i := 16) (N := some 33) #[U,U,U,U,U,U,U,U,U,U,U,U,U,U,U,U,U,O,O] rfl rfl (by kernel_rfl) (by decide) (fun K hK => ?_)
     refine goes_ Try.func46 (by kernel_rfl) rfl #[I y] (by rfl) rfl rfl (by simp only [List.map_toArray, List.map_cons, List.map_nil]; rfl) ?_
     with_reducible refine (HSY.out _).mono ?_
     rintro e w4 ⟨rfl, hGb⟩
     refine ⟨_, rfl, ?_⟩
     replace HL := Aside0.mk (Grew.trans HL.out hGb)
     clear hGb
     refine hK.out _ _ ⟨(Below.cell (w := w1) HL.out (p := ⟨w.heap.size, 0, none⟩) hlb).trans kb0, (Below.cell (w := w1) HL.out (p := ⟨w.heap.size, 1, none⟩) hlb).trans kb1, (Below.cell (w := w1) HL.out (p := ad) hlx).trans hx0, (Below.cell (w := w1) HL.out (p := ad2) hly).trans hy0⟩ (fun hHeld => ?_)
     clear hK K
     refine norm_ (a' := ?_) ?_ ?_
     rotate_left
     ·show Act.put _ (some 33) _ = _
      simp only [nm_]
      rfl
     refine pure_ (i := 17) (N := some 34) (v := ?_) (a' := ?_) #[U,U,U,U,U,U,U,U,U,U,U,U,U,U,U,U,U,U,O] rfl rfl (by kernel_rfl) (fun _ _ _ h => h) (Or.inl ⟨by rfl, ?_⟩) ?_ ?_
     rotate_left; · intro w'; go_simp; with_reducible rfl
     rotate_left; · simp only [nm_]; rfl
     refine pure_ (i := 18) (N := some 35) (v := ?_) (a' := ?_) #[U,U,U,U,U,U,U,U,U,U,U,U,U,U,U,U,U,U,U] rfl rfl (by kernel_rfl) (fun _ _ _ h => h) (Or.inl ⟨by rfl, ?_⟩) ?_ ?_
     rotate_left; · intro w'; go_simp; with_reducible rfl
     rotate_left; · simp only [nm_]; rfl
     refine done_ (by kernel_rfl) ?_
     go_wp2_with fail
     go_ret2
     exact ⟨by (rw [HN.out.1, HN.out.2]; try rfl), Grew.trans HG1.out HL.out⟩
 ·have HN := Aside0.mk (hom_code hz)
  rw [HN.out.1, HN.out.2]
  clear HN
  generalize codeOf n l (chainB l xs && chainB l ys) = cc at HC hz ⊢
  go_enter Try.func22, Try.ntmps22
  go_wp2_with fail
  refine HC.out.mono ?_
  rintro e w1 ⟨rfl, hG1⟩
  have HG1 := Aside0.mk (Grew.trans (below_alloc HG.out _) hG1)
  clear hG1 k0 k1
  go_wp2_with fail
  go_ret2
  exact ⟨rfl, HG1.out⟩

end Go.Proofs.Ytjoggjgmpoaaiaa.K
end

section
/- AreHomologous: the reference's. -/
namespace Go.Proofs.Ytjoggjgmpoaaiaa.K
open Go.RowKit Go.Shelf Go.Proofs.Ytjoggjgmpoaaiaa.Q Go.Proofs.YtjoggjgmpoaaiaaW.PrintWords Go.Proofs.YtjoggjgmpoaaiaaW.PrintLast Go.Proofs.YtjoggjgmpoaaiaaW.PrintMore
set_option linter.unusedVariables false
set_option linter.unusedSimpArgs false

theorem code_and {n : Int} {l : List Int} {b d : Bool} (h : codeOf n l b ≠ 0) : codeOf n l (b && d) = codeOf n l b := by
 unfold codeOf at h ⊢
 cases hc : isC n l with
 | false => simp
 | true =>
  rw [hc] at h
  cases b
  ·simp
  ·simp at h
theorem asc_short : ∀ (s : Nat) (xs : List Int) (lo : Int), xs.Pairwise (· < ·) → (∀ x ∈ xs, lo ≤ x ∧ x < lo + s) → xs.length ≤ s
 | s, [], lo, _, _ => Nat.zero_le _
 | 0, x :: xs, lo, _, h => by have := h x List.mem_cons_self; omega
 | s + 1, x :: xs, lo, hp, h => by
  rw [List.pairwise_cons] at hp
  have h1 := h x List.mem_cons_self
  have := asc_short s xs (lo + 1) hp.2 (fun y hy => by
   have h2 := h y (List.mem_cons_of_mem _ hy)
   have h3 := hp.1 y hy
   omega)
  simp only [List.length_cons]
  omega
theorem sum_short {n : Int} {l xs ys : List Int} (hi : isC n l = true) (ha : ChainOf l xs) (hb : ChainOf l ys) : (sumL xs ys).length ≤ 2097152 := by
 have hs := sum_mem _ xs ys (Nat.le_refl _) ha.asc hb.asc
 have := asc_short 64 (sumL xs ys) 0 (sum_asc _ xs ys (Nat.le_refl _) ha.asc hb.asc) (fun x hx => by
  rcases (hs x).1 hx with ⟨h, _⟩ | ⟨_, h⟩
  ·have := chain_small hi ha x h; omega
  ·have := chain_small hi hb x h; omega)
 omega
set_option maxRecDepth 100000 in
set_option maxHeartbeats 8000000 in
theorem sHom_calls (n : Int) (A : Option Addr) (c : Nat) (l : List Int) (A2 : Option Addr) (c2 : Nat) (xs : List Int) (A5 : Option Addr) (c5 : Nat) (ys : List Int) (w : World) (hk : Kx w A c l) (hx : Ki.C w A2 xs.length xs) (hc2 : xs.length ≤ c2) (hx2 : xs.length ≤ 2097152) (hy : Ki.C w A5 ys.length ys) (hc5 : ys.length ≤ c5) (hy2 : ys.length ≤ 2097152) (hl2 : l.length ≤ 2097152) :
  Calls Try.prog 21 #[.agg #[I n, .slice A l.length c], .slice A2 xs.length c2, .slice A5 ys.length c5] w fun e w' => e = .returned (.tuple #[.bool (homA n l xs ys), I (homC n l xs ys)]) ∧ Grew w w' := by
 have hB : CB (w.alloc (.cells #[I n, .slice A l.length c] 26)) w.heap.size n (.slice A l.length c) := blk_new w _
 have HG : Aside0 (Grew w (w.alloc (.cells #[I n, .slice A l.length c] 26))) := ⟨below_alloc (Grew.refl w) _⟩
 have HC1 : Aside0 (∀ W, Grew w W → Calls Try.prog 39 #[.agg #[I n, .slice A l.length c], .slice A2 xs.length c2] W fun e w' => e = .returned (I (codeOf n l (chainB l xs))) ∧ Grew W w') := ⟨fun W hW => spec_l03Chain.calls (isK l + xs.length + 40) n A c l A2 c2 xs _ W (hk.later hW).r hk.c (Kd.C_below hx hW) hc2 (specChain_is n l xs hl2 hx2 _ (Nat.le_refl _))⟩
 have HC2' : Aside0 (∀ W, Grew w W → Calls Try.prog 39 #[.agg #[I n, .slice A l.length c], .slice A5 ys.length c5] W fun e w' => e = .returned (I (codeOf n l (chainB l ys))) ∧ Grew W w') := ⟨fun W hW => spec_l03Chain.calls (isK l + ys.length + 40) n A c l A5 c5 ys _ W (hk.later hW).r hk.c (Kd.C_below hy hW) hc5 (specChain_is n l ys hl2 hy2 _ (Nat.le_refl _))⟩
 have HK := Aside0.mk hk
 have HX := Aside0.mk hx
 have HY := Aside0.mk hy
 have HC2 := Aside0.mk hc2
 have HC5 := Aside0.mk hc5
 have HB := Aside0.mk hB
 have k0 := hB.c0
 have k1 := hB.c1
 clear hk hx hc2 hB hy hc5
 by_cases hz1 : codeOf n l (chainB l xs) = 0
 ·have hi0 := codeOf_zero hz1
  have HE2 : Aside0 (codeOf n l (chainB l xs && chainB l ys) = codeOf n l (chainB l ys)) := ⟨by rw [hi0.2, Bool.true_and]⟩
  rw [hz1] at HC1
  by_cases hz2 : codeOf n l (chainB l ys) = 0
  ·have hz : codeOf n l (chainB l xs && chainB l ys) = 0 := by rw [HE2.out, hz2]
   obtain ⟨hi, hca, hcb⟩ := both_chain hz
   have hsa := chain_small hi hca
   have hsb := chain_small hi hcb
   rw [hz2] at HC2'
   have HSL : Aside0 ((sumL xs ys).length ≤ 2097152) := ⟨sum_short hi hca hcb⟩
   have HSM : Aside0 (∀ W, Grew w W → Calls Try.prog 45 #[.slice A2 xs.length c2, .slice A5 ys.length c5] W fun e w' => ∃ v, e = .returned v ∧ Ki.R 2 w' W.heap.size (fun _ => True) v (sumL xs ys) ∧ Grew W w') := ⟨fun W hW => spec_l03Sum.calls _ A2 c2 xs A5 c5 ys _ W (Kd.C_below HX.out hW) HC2.out (Kd.C_below HY.out hW) HC5.out (specSum_is xs ys hx2 hy2)⟩
   have HBQ : Aside0 (xs.length = 0 ∨ ys.length = 0 ∨ onesI (xs.getD 0 0) = onesI (ys.getD 0 0) → ∀ A6 c6 W, Grew w W → Ki.C W A6 (sumL xs ys).length (sumL xs ys) → (sumL xs ys).length ≤ c6 → Calls Try.prog 40 #[.agg #[I n, .slice A l.length c], .slice A6 (sumL xs ys).length c6] W fun e w' => e = .returned (.bool (bndB l (chN (sumL xs ys)))) ∧ Grew W w') := ⟨fun hm A6 c6 W hW h1 h2 => sBounds_calls n A c l A6 c6 (sumL xs ys) W (HK.out.later hW) hi h1 h2 HSL.out (sum_chain hca hcb (not_mis hm))⟩
   have HSZ : Aside0 (∀ x, (0 < xs.length ∧ x = xs.getD 0 0) ∨ (0 < ys.length ∧ x = ys.getD 0 0) → ∀ W, Calls Try.prog 44 #[I x] W fun e w' => e = .returned (I (onesI x)) ∧ Grew W w') := ⟨fun x h W => by
    have hs : 0 ≤ x ∧ x ≤ 63 := by
     rcases h with ⟨h1, h2⟩ | ⟨h1, h2⟩
     ·rw [h2]; exact head_small hi hca h1
     ·rw [h2]; exact head_small hi hcb h1
    exact (spec_l01Ones.calls 100 x _ W (specOnes_is x hs.1 hs.2 100 (by decide))).mono fun e w' ⟨he, hd⟩ => ⟨he, hd.below⟩⟩
   have HYM := Aside0.mk (fun h => hom_mis hz h)
   have HNM0 := Aside0.mk (fun h => hom_good hz (not_mis h))
   have HNM : Aside0 (xs.length = 0 ∨ ys.length = 0 ∨ onesI (xs.getD 0 0) = onesI (ys.getD 0 0) → homA n l xs ys = bndB l (chN (sumL xs ys)) ∧ homC n l xs ys = 0) := ⟨HNM0.out⟩
   clear HNM0 hz hi hca hcb hsa hsb hz1 hz2 hi0 HE2 HSL
   generalize bndB l (chN (sumL xs ys)) = ans at HBQ HNM
   generalize sumL xs ys = sm at HSM HBQ
   go_enter Try.func21, Try.ntmps21
   go_wp2_with fail
   refine (HC1.out _ HG.out).mono ?_
   rintro e w0 ⟨rfl, hG0⟩
   have HB0 := Aside0.mk (CB.later HB.out hG0)
   have HG0 := Aside0.mk (Grew.trans HG.out hG0)
   clear hG0 k0 k1
   have k0 := HB0.out.c0
   have k1 := HB0.out.c1
   go_wp2_with fail
   refine (HC2'.out _ HG0.out).mono ?_
   rintro e w1 ⟨rfl, hG1⟩
   have HB1 := Aside0.mk (CB.later HB0.out hG1)
   have HG1 := Aside0.mk (Grew.trans HG0.out hG1)
   clear hG1 k0 k1
   have kb0 := HB1.out.c0
   have kb1 := HB1.out.c1
   have hlb := World.block_lt_of_cell? w1 _ kb0
   go_wp2_with fail
   by_cases hza : xs.length = 0
   ·have hza1 : ¬ 0 < xs.length := by omega
    have hza2 : decide (0 < xs.length) = false := decide_eq_false hza1
    clear HSZ
    have HN := Aside0.mk (HNM.out (Or.inl hza))
    have HBN := Aside0.mk (HBQ.out (Or.inl hza))
    clear HBQ
    clear HNM HYM hza
    refine start_ (n := 19) (S := fun w' => w'.cell? ⟨w.heap.size, 0, none⟩ = some (I n) ∧ w'.cell? ⟨w.heap.size, 1, none⟩ = some (.slice A l.length c)) (ds := []) #[O,O,O,O,O,O,O,O,O,O,O,O,O,O,O,O,O,O,O] (by kernel_rfl) rfl rfl ⟨(Below.cell (w := w1) (below_drew (Grew.refl w1)) (p := ⟨w.heap.size, 0, none⟩) hlb).trans kb0, (Below.cell (w := w1) (below_drew (Grew.refl w1)) (p := ⟨w.heap.size, 1, none⟩) hlb).trans kb1⟩ (fun hHeld => ?_)
    refine pure_ (i := 0) (N := some 22) (v := ?_) (a' := ?_) #[U,O,O,O,O,O,O,O,O,O,O,O,O,O,O,O,O,O,O] rfl rfl (by kernel_rfl) (fun _ _ _ h => h) (Or.inl ⟨by rfl, ?_⟩) ?_ ?_
    rotate_left; · intro w'; go_simp; with_reducible rfl
    rotate_left; · simp only [nm_]; rfl
    refine pure_ (i := 1) (N := some 23) (v := ?_) (a' := ?_) #[U,U,O,O,O,O,O,O,O,O,O,O,O,O,O,O,O,O,O] rfl rfl (by kernel_rfl) (fun _ _ _ h => h) (Or.inl ⟨by rfl, ?_⟩) ?_ ?_
    rotate_left; · intro w'; go_simp; with_reducible rfl
    rotate_left; · simp only [nm_]; rfl
    refine pure_ (i := 2) (N := some 24) (v := ?_) (a' := ?_) #[U,U,U,O,O,O,O,O,O,O,O,O,O,O,O,O,O,O,O] rfl rfl (by kernel_rfl) (fun _ _ _ h => h) (Or.inl ⟨by rfl, ?_⟩) ?_ ?_
    rotate_left; · intro w'; go_simp; with_reducible rfl
    rotate_left; · simp only [nm_]; rfl
    refine pure_ (i := 3) (N := some 25) (v := ?_) (a' := ?_) #[U,U,U,U,O,O,O,O,O,O,O,O,O,O,O,O,O,O,O] rfl rfl (by kernel_rfl) (fun _ _ _ h => h) (Or.inl ⟨by rfl, ?_⟩) ?_ ?_
    rotate_left; · intro w'; go_simp; with_reducible rfl
    rotate_left; · simp only [nm_]; rfl
    refine pure_ (i := 4) (N := some 26) (v := undef) (a' := ?_) #[U,U,U,U,U,O,O,O,O,O,O,O,O,O,O,O,O,O,O] rfl rfl (by kernel_rfl) (fun _ _ _ h => h) (Or.inr ⟨by rfl, rfl⟩) ?_ ?_
    rotate_left; · simp only [nm_]; rfl
    refine pure_ (i := 5) (N := some 27) (v := undef) (a' := ?_) #[U,U,U,U,U,U,O,O,O,O,O,O,O,O,O,O,O,O,O] rfl rfl (by kernel_rfl) (fun _ _ _ h => h) (Or.inr ⟨by rfl, rfl⟩) ?_ ?_
    rotate_left; · simp only [nm_]; rfl
    refine pure_ (i := 6) (N := some 28) (v := undef) (a' := ?_) #[U,U,U,U,U,U,U,O,O,O,O,O,O,O,O,O,O,O,O] rfl rfl (by kernel_rfl) (fun _ _ _ h => h) (Or.inr ⟨by rfl, rfl⟩) ?_ ?_
    rotate_left; · simp only [nm_]; rfl
    refine pure_ (i := 7) (N := some 29) (v := ?_) (a' := ?_) #[U,U,U,U,U,U,U,U,O,O,O,O,O,O,O,O,O,O,O] rfl rfl (by kernel_rfl) (fun _ _ _ h => h) (Or.inl ⟨by rfl, ?_⟩) ?_ ?_
    rotate_left; · intro w'; go_simp; with_reducible rfl
    rotate_left; · simp only [nm_]; rfl
    refine pure_ (i := 8) (N := some 30) (v := ?_) (a' := ?_) #[U,U,U,U,U,U,U,U,U,O,O,O,O,O,O,O,O,O,O] rfl rfl (by kernel_rfl) (fun _ _ _ h => h) (Or.inl ⟨by rfl, ?_⟩) ?_ ?_
    rotate_left; · intro w'; go_simp; with_reducible rfl
    rotate_left; · simp only [nm_]; rfl
    refine pure_ (i := 9) (N := some 31) (v := undef) (a' := ?_) #[U,U,U,U,U,U,U,U,U,U,O,O,O,O,O,O,O,O,O] rfl rfl (by kernel_rfl) (fun _ _ _ h => h) (Or.inr ⟨by rfl, rfl⟩) ?_ ?_
    rotate_left; · simp only [nm_]; rfl
    refine pure_ (i := 10) (N := some 32) (v := undef) (a' := ?_) #[U,U,U,U,U,U,U,U,U,U,U,O,O,O,O,O,O,O,O] rfl rfl (by kernel_rfl) (fun _ _ _ h => h) (Or.inr ⟨by rfl, rfl⟩) ?_ ?_
    rotate_left; · simp only [nm_]; rfl
    refine pure_ (i := 11) (N := some 33) (v := undef) (a' := ?_) #[U,U,U,U,U,U,U,U,U,U,U,U,O,O,O,O,O,O,O] rfl rfl (by kernel_rfl) (fun _ _ _ h => h) (Or.inr ⟨by rfl, rfl⟩) ?_ ?_
    rotate_left; · simp only [nm_]; rfl
    refine pure_ (i := 12) (N := some 34) (v := undef) (a' := ?_) #[U,U,U,U,U,U,U,U,U,U,U,U,U,O,O,O,O,O,O] rfl rfl (by kernel_rfl) (fun _ _ _ h => h) (Or.inr ⟨by rfl, rfl⟩) ?_ ?_
    rotate_left; · simp only [nm_]; rfl
    refine pure_ (i := 13) (N := some 35) (v := undef) (a' := ?_) #[U,U,U,U,U,U,U,U,U,U,U,U,U,U,O,O,O,O,O] rfl rfl (by kernel_rfl) (fun _ _ _ h => h) (Or.inr ⟨by rfl, rfl⟩) ?_ ?_
    rotate_left; · simp only [nm_]; rfl
    refine pure_ (i := 14) (N := some 36) (v := undef) (a' := ?_) #[U,U,U,U,U,U,U,U,U,U,U,U,U,U,U,O,O,O,O] rfl rfl (by kernel_rfl) (fun _ _ _ h => h) (Or.inr ⟨by rfl, rfl⟩) ?_ ?_
    rotate_left; · simp only [nm_]; rfl
    refine pure_ (i := 15) (N := some 37) (v := undef) (a' := ?_) #[U,U,U,U,U,U,U,U,U,U,U,U,U,U,U,U,O,O,O] rfl rfl (by kernel_rfl) (fun _ _ _ h => h) (Or.inr ⟨by rfl, rfl⟩) ?_ ?_
    rotate_left; · simp only [nm_]; rfl
    refine pure_ (i := 16) (N := some 38) (v := undef) (a' := ?_) #[U,U,U,U,U,U,U,U,U,U,U,U,U,U,U,U,U,O,O] rfl rfl (by kernel_rfl) (fun _ _ _ h => h) (Or.inr ⟨by rfl, rfl⟩) ?_ ?_
    rotate_left; · simp only [nm_]; rfl
    refine pure_ (i := 17) (N := some 39) (v := undef) (a' := ?_) #[U,U,U,U,U,U,U,U,U,U,U,U,U,U,U,U,U,U,O] rfl rfl (by kernel_rfl) (fun _ _ _ h => h) (Or.inr ⟨by rfl, rfl⟩) ?_ ?_
    rotate_left; · simp only [nm_]; rfl
    refine pure_ (i := 18) (N := some 40) (v := ?_) (a' := ?_) #[U,U,U,U,U,U,U,U,U,U,U,U,U,U,U,U,U,U,U] rfl rfl (by kernel_rfl) (fun _ _ _ h => h) (Or.inl ⟨by rfl, ?_⟩) ?_ ?_
    rotate_left; · intro w'; go_simp; with_reducible rfl
    rotate_left; · simp only [nm_]; rfl
    refine done_ (by kernel_rfl) ?_
    have HGX := Aside0.mk (Grew.trans HG1.out (below_drew (Grew.refl w1)))
    have kx0 : w1.drew.cell? ⟨w.heap.size, 0, none⟩ = some (I n) := (Below.cell (w := w1) (below_drew (Grew.refl w1)) (p := ⟨w.heap.size, 0, none⟩) hlb).trans kb0
    have kx1 : w1.drew.cell? ⟨w.heap.size, 1, none⟩ = some (.slice A l.length c) := (Below.cell (w := w1) (below_drew (Grew.refl w1)) (p := ⟨w.heap.size, 1, none⟩) hlb).trans kb1
    clear kb0 kb1 hlb
    obtain ⟨wx, hwx⟩ : ∃ wx, wx = w1.drew := ⟨_, rfl⟩
    rw [← hwx] at HGX kx0 kx1
    try rw [← hwx]
    clear hwx
    have kb0 := kx0
    have kb1 := kx1
    clear kx0 kx1
    have hlb := World.block_lt_of_cell? wx _ kb0
    go_wp2_with fail
    refine start_ (n := 7) (S := fun w' => w'.cell? ⟨w.heap.size, 0, none⟩ = some (I n) ∧ w'.cell? ⟨w.heap.size, 1, none⟩ = some (.slice A l.length c)) (ds := []) #[O,O,O,O,O,O,O] (by kernel_rfl) rfl rfl ⟨(Below.cell (w := wx) (below_drew (Grew.refl wx)) (p := ⟨w.heap.size, 0, none⟩) hlb).trans kb0, (Below.cell (w := wx) (below_drew (Grew.refl wx)) (p := ⟨w.heap.size, 1, none⟩) hlb).trans kb1⟩ (fun hHeld => ?_)
    refine pure_ (i := 1) (N := some 42) (v := ?_) (a' := ?_) #[O,U,O,O,O,O,O] rfl rfl (by kernel_rfl) (fun _ _ _ h => h) (Or.inl ⟨by rfl, ?_⟩) ?_ ?_
    rotate_left; · intro w'; go_simp; with_reducible rfl
    rotate_left; · simp only [nm_]; rfl
    refine pure_ (i := 2) (N := some 43) (v := ?_) (a' := ?_) #[O,U,U,O,O,O,O] rfl rfl (by kernel_rfl) (fun _ _ _ h => h) (Or.inl ⟨by rfl, ?_⟩) ?_ ?_
    rotate_left; · intro w'; go_simp; with_reducible rfl
    rotate_left; · simp only [nm_]; rfl
    refine take_ (i := 0) (N := some 41) (v := ?_) (a' := ?_) #[U,U,U,O,O,O,O] rfl rfl (by kernel_rfl) (fun _ _ _ h => h) (Or.inl ⟨by rfl, ?_⟩) hHeld ?_ ?_
    rotate_left; · rintro w' ⟨s0, s1⟩; go_simp; with_reducible rfl
    rotate_left; · simp only [nm_]; rfl
    refine one_ (i := 3) (N := some 44) #[U,U,U,U,O,O,O] rfl rfl (by kernel_rfl) (by decide) (fun K hK => ?_)
    refine goes_ Try.func45 (by kernel_rfl) rfl #[.slice A2 xs.length c2, .slice A5 ys.length c5] (by rfl) rfl rfl (by simp only [List.map_toArray, List.map_cons, List.map_nil]; rfl) ?_
    with_reducible refine (HSM.out _ (Grew.trans HGX.out (below_drew (Grew.refl wx)))).mono ?_
    rintro e w5 ⟨v5, rfl, hR5, hGc⟩
    refine ⟨_, rfl, ?_⟩
    have HM := Aside0.mk (Grew.trans (below_drew (Grew.refl wx)) hGc)
    obtain ⟨A6, c6, hv6, hc6, hC6⟩ := Kd.R_reads hR5
    subst hv6
    have HR6 := Aside0.mk hC6
    have HC6 := Aside0.mk hc6
    clear hR5 hGc hC6 hc6
    refine hK.out _ _ ⟨(Below.cell (w := wx) HM.out (p := ⟨w.heap.size, 0, none⟩) hlb).trans kb0, (Below.cell (w := wx) HM.out (p := ⟨w.heap.size, 1, none⟩) hlb).trans kb1⟩ (fun hHeld => ?_)
    clear hK K
    refine norm_ (a' := ?_) ?_ ?_
    rotate_left
    ·show Act.put _ (some 44) _ = _
     simp only [nm_]
     rfl
    refine one_ (i := 4) (N := some 45) #[U,U,U,U,U,O,O] rfl rfl (by kernel_rfl) (by decide) (fun K hK => ?_)
    refine goes_ Try.func40 (by kernel_rfl) rfl #[.agg #[I n, .slice A l.length c], .slice A6 sm.length c6] (by rfl) rfl rfl (by simp only [List.map_toArray, List.map_cons, List.map_nil]; rfl) ?_
    with_reducible refine (HBN.out A6 c6 _ (Grew.trans HGX.out HM.out) HR6.out HC6.out).mono ?_
    rintro e w7 ⟨rfl, hGe⟩
    refine ⟨_, rfl, ?_⟩
    replace HM := Aside0.mk (Grew.trans HM.out hGe)
    clear hGe
    refine hK.out _ _ ⟨(Below.cell (w := wx) HM.out (p := ⟨w.heap.size, 0, none⟩) hlb).trans kb0, (Below.cell (w := wx) HM.out (p := ⟨w.heap.size, 1, none⟩) hlb).trans kb1⟩ (fun hHeld => ?_)
    clear hK K
    refine norm_ (a' := ?_) ?_ ?_
    rotate_left
    ·show Act.put _ (some 45) _ = _
     simp only [nm_]
     rfl
    refine pure_ (i := 5) (N := some 6) (v := ?_) (a' := ?_) #[U,U,U,U,U,U,O] rfl rfl (by kernel_rfl) (fun _ _ _ h => h) (Or.inl ⟨by rfl, ?_⟩) ?_ ?_
    rotate_left; · intro w'; go_simp; with_reducible rfl
    rotate_left; · simp only [nm_]; rfl
    refine pure_ (i := 6) (N := some 7) (v := ?_) (a' := ?_) #[U,U,U,U,U,U,U] rfl rfl (by kernel_rfl) (fun _ _ _ h => h) (Or.inl ⟨by rfl, ?_⟩) ?_ ?_
    rotate_left; · intro w'; go_simp; with_reducible rfl
    rotate_left; · simp only [nm_]; rfl
    refine done_ (by kernel_rfl) ?_
    go_wp2_with fail
    go_ret2
    exact ⟨by (rw [HN.out.1, HN.out.2]; try rfl), Grew.trans HGX.out HM.out⟩
   ·have hza1 : 0 < xs.length := by omega
    have hza2 : decide (0 < xs.length) = true := decide_eq_true hza1
    by_cases hzb : ys.length = 0
    ·have hzb1 : ¬ 0 < ys.length := by omega
     have hzb2 : decide (0 < ys.length) = false := decide_eq_false hzb1
     clear HSZ
     have HN := Aside0.mk (HNM.out (Or.inr (Or.inl hzb)))
     have HBN := Aside0.mk (HBQ.out (Or.inr (Or.inl hzb)))
     clear HBQ
     clear HNM HYM hza hzb
     refine start_ (n := 19) (S := fun w' => w'.cell? ⟨w.heap.size, 0, none⟩ = some (I n) ∧ w'.cell? ⟨w.heap.size, 1, none⟩ = some (.slice A l.length c)) (ds := []) #[O,O,O,O,O,O,O,O,O,O,O,O,O,O,O,O,O,O,O] (by kernel_rfl) rfl rfl ⟨(Below.cell (w := w1) (below_drew (Grew.refl w1)) (p := ⟨w.heap.size, 0, none⟩) hlb).trans kb0, (Below.cell (w := w1) (below_drew (Grew.refl w1)) (p := ⟨w.heap.size, 1, none⟩) hlb).trans kb1⟩ (fun hHeld => ?_)
     refine pure_ (i := 0) (N := some 22) (v := ?_) (a' := ?_) #[U,O,O,O,O,O,O,O,O,O,O,O,O,O,O,O,O,O,O] rfl rfl (by kernel_rfl) (fun _ _ _ h => h) (Or.inl ⟨by rfl, ?_⟩) ?_ ?_
     rotate_left; · intro w'; go_simp; with_reducible rfl
     rotate_left; · simp only [nm_]; rfl
     refine pure_ (i := 1) (N := some 23) (v := ?_) (a' := ?_) #[U,U,O,O,O,O,O,O,O,O,O,O,O,O,O,O,O,O,O] rfl rfl (by kernel_rfl) (fun _ _ _ h => h) (Or.inl ⟨by rfl, ?_⟩) ?_ ?_
     rotate_left; · intro w'; go_simp; with_reducible rfl
     rotate_left; · simp only [nm_]; rfl
     refine pure_ (i := 2) (N := some 24) (v := ?_) (a' := ?_) #[U,U,U,O,O,O,O,O,O,O,O,O,O,O,O,O,O,O,O] rfl rfl (by kernel_rfl) (fun _ _ _ h => h) (Or.inl ⟨by rfl, ?_⟩) ?_ ?_
     rotate_left; · intro w'; go_simp; with_reducible rfl
     rotate_left; · simp only [nm_]; rfl
     refine pure_ (i := 3) (N := some 25) (v := ?_) (a' := ?_) #[U,U,U,U,O,O,O,O,O,O,O,O,O,O,O,O,O,O,O] rfl rfl (by kernel_rfl) (fun _ _ _ h => h) (Or.inl ⟨by rfl, ?_⟩) ?_ ?_
     rotate_left; · intro w'; go_simp; with_reducible rfl
     rotate_left; · simp only [nm_]; rfl
     refine pure_ (i := 4) (N := some 26) (v := ?_) (a' := ?_) #[U,U,U,U,U,O,O,O,O,O,O,O,O,O,O,O,O,O,O] rfl rfl (by kernel_rfl) (fun _ _ _ h => h) (Or.inl ⟨by rfl, ?_⟩) ?_ ?_
     rotate_left; · intro w'; go_simp; with_reducible rfl
     rotate_left; · simp only [nm_]; rfl
     refine pure_ (i := 5) (N := some 27) (v := ?_) (a' := ?_) #[U,U,U,U,U,U,O,O,O,O,O,O,O,O,O,O,O,O,O] rfl rfl (by kernel_rfl) (fun _ _ _ h => h) (Or.inl ⟨by rfl, ?_⟩) ?_ ?_
     rotate_left; · intro w'; go_simp; with_reducible rfl
     rotate_left; · simp only [nm_]; rfl
     refine pure_ (i := 6) (N := some 28) (v := ?_) (a' := ?_) #[U,U,U,U,U,U,U,O,O,O,O,O,O,O,O,O,O,O,O] rfl rfl (by kernel_rfl) (fun _ _ _ h => h) (Or.inl ⟨by rfl, ?_⟩) ?_ ?_
     rotate_left; · intro w'; go_simp; with_reducible rfl
     rotate_left; · simp only [nm_]; rfl
     refine pure_ (i := 7) (N := some 29) (v := ?_) (a' := ?_) #[U,U,U,U,U,U,U,U,O,O,O,O,O,O,O,O,O,O,O] rfl rfl (by kernel_rfl) (fun _ _ _ h => h) (Or.inl ⟨by rfl, ?_⟩) ?_ ?_
     rotate_left; · intro w'; go_simp; with_reducible rfl
     rotate_left; · simp only [nm_]; rfl
     refine pure_ (i := 8) (N := some 30) (v := ?_) (a' := ?_) #[U,U,U,U,U,U,U,U,U,O,O,O,O,O,O,O,O,O,O] rfl rfl (by kernel_rfl) (fun _ _ _ h => h) (Or.inl ⟨by rfl, ?_⟩) ?_ ?_
     rotate_left; · intro w'; go_simp; with_reducible rfl
     rotate_left; · simp only [nm_]; rfl
     refine pure_ (i := 9) (N := some 31) (v := undef) (a' := ?_) #[U,U,U,U,U,U,U,U,U,U,O,O,O,O,O,O,O,O,O] rfl rfl (by kernel_rfl) (fun _ _ _ h => h) (Or.inr ⟨by rfl, rfl⟩) ?_ ?_
     rotate_left; · simp only [nm_]; rfl
     refine pure_ (i := 10) (N := some 32) (v := undef) (a' := ?_) #[U,U,U,U,U,U,U,U,U,U,U,O,O,O,O,O,O,O,O] rfl rfl (by kernel_rfl) (fun _ _ _ h => h) (Or.inr ⟨by rfl, rfl⟩) ?_ ?_
     rotate_left; · simp only [nm_]; rfl
     refine pure_ (i := 11) (N := some 33) (v := undef) (a' := ?_) #[U,U,U,U,U,U,U,U,U,U,U,U,O,O,O,O,O,O,O] rfl rfl (by kernel_rfl) (fun _ _ _ h => h) (Or.inr ⟨by rfl, rfl⟩) ?_ ?_
     rotate_left; · simp only [nm_]; rfl
     refine pure_ (i := 12) (N := some 34) (v := undef) (a' := ?_) #[U,U,U,U,U,U,U,U,U,U,U,U,U,O,O,O,O,O,O] rfl rfl (by kernel_rfl) (fun _ _ _ h => h) (Or.inr ⟨by rfl, rfl⟩) ?_ ?_
     rotate_left; · simp only [nm_]; rfl
     refine pure_ (i := 13) (N := some 35) (v := undef) (a' := ?_) #[U,U,U,U,U,U,U,U,U,U,U,U,U,U,O,O,O,O,O] rfl rfl (by kernel_rfl) (fun _ _ _ h => h) (Or.inr ⟨by rfl, rfl⟩) ?_ ?_
     rotate_left; · simp only [nm_]; rfl
     refine pure_ (i := 14) (N := some 36) (v := undef) (a' := ?_) #[U,U,U,U,U,U,U,U,U,U,U,U,U,U,U,O,O,O,O] rfl rfl (by kernel_rfl) (fun _ _ _ h => h) (Or.inr ⟨by rfl, rfl⟩) ?_ ?_
     rotate_left; · simp only [nm_]; rfl
     refine pure_ (i := 15) (N := some 37) (v := undef) (a' := ?_) #[U,U,U,U,U,U,U,U,U,U,U,U,U,U,U,U,O,O,O] rfl rfl (by kernel_rfl) (fun _ _ _ h => h) (Or.inr ⟨by rfl, rfl⟩) ?_ ?_
     rotate_left; · simp only [nm_]; rfl
     refine pure_ (i := 16) (N := some 38) (v := undef) (a' := ?_) #[U,U,U,U,U,U,U,U,U,U,U,U,U,U,U,U,U,O,O] rfl rfl (by kernel_rfl) (fun _ _ _ h => h) (Or.inr ⟨by rfl, rfl⟩) ?_ ?_
     rotate_left; · simp only [nm_]; rfl
     refine pure_ (i := 17) (N := some 39) (v := undef) (a' := ?_) #[U,U,U,U,U,U,U,U,U,U,U,U,U,U,U,U,U,U,O] rfl rfl (by kernel_rfl) (fun _ _ _ h => h) (Or.inr ⟨by rfl, rfl⟩) ?_ ?_
     rotate_left; · simp only [nm_]; rfl
     refine pure_ (i := 18) (N := some 40) (v := ?_) (a' := ?_) #[U,U,U,U,U,U,U,U,U,U,U,U,U,U,U,U,U,U,U] rfl rfl (by kernel_rfl) (fun _ _ _ h => h) (Or.inl ⟨by rfl, ?_⟩) ?_ ?_
     rotate_left; · intro w'; go_simp; with_reducible rfl
     rotate_left; · simp only [nm_]; rfl
     refine done_ (by kernel_rfl) ?_
     have HGX := Aside0.mk (Grew.trans HG1.out (below_drew (Grew.refl w1)))
     have kx0 : w1.drew.cell? ⟨w.heap.size, 0, none⟩ = some (I n) := (Below.cell (w := w1) (below_drew (Grew.refl w1)) (p := ⟨w.heap.size, 0, none⟩) hlb).trans kb0
     have kx1 : w1.drew.cell? ⟨w.heap.size, 1, none⟩ = some (.slice A l.length c) := (Below.cell (w := w1) (below_drew (Grew.refl w1)) (p := ⟨w.heap.size, 1, none⟩) hlb).trans kb1
     clear kb0 kb1 hlb
     obtain ⟨wx, hwx⟩ : ∃ wx, wx = w1.drew := ⟨_, rfl⟩
     rw [← hwx] at HGX kx0 kx1
     try rw [← hwx]
     clear hwx
     have kb0 := kx0
     have kb1 := kx1
     clear kx0 kx1
     have hlb := World.block_lt_of_cell? wx _ kb0
     go_wp2_with fail
     refine start_ (n := 7) (S := fun w' => w'.cell? ⟨w.heap.size, 0, none⟩ = some (I n) ∧ w'.cell? ⟨w.heap.size, 1, none⟩ = some (.slice A l.length c)) (ds := []) #[O,O,O,O,O,O,O] (by kernel_rfl) rfl rfl ⟨(Below.cell (w := wx) (below_drew (Grew.refl wx)) (p := ⟨w.heap.size, 0, none⟩) hlb).trans kb0, (Below.cell (w := wx) (below_drew (Grew.refl wx)) (p := ⟨w.heap.size, 1, none⟩) hlb).trans kb1⟩ (fun hHeld => ?_)
     refine pure_ (i := 1) (N := some 42) (v := ?_) (a' := ?_) #[O,U,O,O,O,O,O] rfl rfl (by kernel_rfl) (fun _ _ _ h => h) (Or.inl ⟨by rfl, ?_⟩) ?_ ?_
     rotate_left; · intro w'; go_simp; with_reducible rfl
     rotate_left; · simp only [nm_]; rfl
     refine pure_ (i := 2) (N := some 43) (v := ?_) (a' := ?_) #[O,U,U,O,O,O,O] rfl rfl (by kernel_rfl) (fun _ _ _ h => h) (Or.inl ⟨by rfl, ?_⟩) ?_ ?_
     rotate_left; · intro w'; go_simp; with_reducible rfl
     rotate_left; · simp only [nm_]; rfl
     refine take_ (i := 0) (N := some 41) (v := ?_) (a' := ?_) #[U,U,U,O,O,O,O] rfl rfl (by kernel_rfl) (fun _ _ _ h => h) (Or.inl ⟨by rfl, ?_⟩) hHeld ?_ ?_
     rotate_left; · rintro w' ⟨s0, s1⟩; go_simp; with_reducible rfl
     rotate_left; · simp only [nm_]; rfl
     refine one_ (i := 3) (N := some 44) #[U,U,U,U,O,O,O] rfl rfl (by kernel_rfl) (by decide) (fun K hK => ?_)
     refine goes_ Try.func45 (by kernel_rfl) rfl #[.slice A2 xs.length c2, .slice A5 ys.length c5] (by rfl) rfl rfl (by simp only [List.map_toArray, List.map_cons, List.map_nil]; rfl) ?_
     with_reducible refine (HSM.out _ (Grew.trans HGX.out (below_drew (Grew.refl wx)))).mono ?_
     rintro e w5 ⟨v5, rfl, hR5, hGc⟩
     refine ⟨_, rfl, ?_⟩
     have HM := Aside0.mk (Grew.trans (below_drew (Grew.refl wx)) hGc)
     obtain ⟨A6, c6, hv6, hc6, hC6⟩ := Kd.R_reads hR5
     subst hv6
     have HR6 := Aside0.mk hC6
     have HC6 := Aside0.mk hc6
     clear hR5 hGc hC6 hc6
     refine hK.out _ _ ⟨(Below.cell (w := wx) HM.out (p := ⟨w.heap.size, 0, none⟩) hlb).trans kb0, (Below.cell (w := wx) HM.out (p := ⟨w.heap.size, 1, none⟩) hlb).trans kb1⟩ (fun hHeld => ?_)
     clear hK K
     refine norm_ (a' := ?_) ?_ ?_
     rotate_left
     ·show Act.put _ (some 44) _ = _
      simp only [nm_]
      rfl
     refine one_ (i := 4) (N := some 45) #[U,U,U,U,U,O,O] rfl rfl (by kernel_rfl) (by decide) (fun K hK => ?_)
     refine goes_ Try.func40 (by kernel_rfl) rfl #[.agg #[I n, .slice A l.length c], .slice A6 sm.length c6] (by rfl) rfl rfl (by simp only [List.map_toArray, List.map_cons, List.map_nil]; rfl) ?_
     with_reducible refine (HBN.out A6 c6 _ (Grew.trans HGX.out HM.out) HR6.out HC6.out).mono ?_
     rintro e w7 ⟨rfl, hGe⟩
     refine ⟨_, rfl, ?_⟩
     replace HM := Aside0.mk (Grew.trans HM.out hGe)
     clear hGe
     refine hK.out _ _ ⟨(Below.cell (w := wx) HM.out (p := ⟨w.heap.size, 0, none⟩) hlb).trans kb0, (Below.cell (w := wx) HM.out (p := ⟨w.heap.size, 1, none⟩) hlb).trans kb1⟩ (fun hHeld => ?_)
     clear hK K
     refine norm_ (a' := ?_) ?_ ?_
     rotate_left
     ·show Act.put _ (some 45) _ = _
      simp only [nm_]
      rfl
     refine pure_ (i := 5) (N := some 6) (v := ?_) (a' := ?_) #[U,U,U,U,U,U,O] rfl rfl (by kernel_rfl) (fun _ _ _ h => h) (Or.inl ⟨by rfl, ?_⟩) ?_ ?_
     rotate_left; · intro w'; go_simp; with_reducible rfl
     rotate_left; · simp only [nm_]; rfl
     refine pure_ (i := 6) (N := some 7) (v := ?_) (a' := ?_) #[U,U,U,U,U,U,U] rfl rfl (by kernel_rfl) (fun _ _ _ h => h) (Or.inl ⟨by rfl, ?_⟩) ?_ ?_
     rotate_left; · intro w'; go_simp; with_reducible rfl
     rotate_left; · simp only [nm_]; rfl
     refine done_ (by kernel_rfl) ?_
     go_wp2_with fail
     go_ret2
     exact ⟨by (rw [HN.out.1, HN.out.2]; try rfl), Grew.trans HGX.out HM.out⟩
    ·have hzb1 : 0 < ys.length := by omega
     have hzb2 : decide (0 < ys.length) = true := decide_eq_true hzb1
     obtain ⟨ad, ea, hx0⟩ := Kd.at_int (Kd.C_below HX.out HG1.out) (0 : Int) (by omega) (by omega)
     obtain ⟨ad2, eb, hy0⟩ := Kd.at_int (Kd.C_below HY.out HG1.out) (0 : Int) (by omega) (by omega)
     cases ea
     cases eb
     have hrx : rd xs (0 : Int) = xs.getD 0 0 := rfl
     have hry : rd ys (0 : Int) = ys.getD 0 0 := rfl
     rw [hrx] at hx0
     rw [hry] at hy0
     have HSX := Aside0.mk (HSZ.out (xs.getD 0 0) (Or.inl ⟨by omega, rfl⟩))
     have HSY := Aside0.mk (HSZ.out (ys.getD 0 0) (Or.inr ⟨by omega, rfl⟩))
     have HMI : Aside0 (onesI (xs.getD 0 0) ≠ onesI (ys.getD 0 0) → homA n l xs ys = false ∧ homC n l xs ys = 5) := ⟨fun h => HYM.out ⟨by omega, by omega, h⟩⟩
     have HMN := Aside0.mk (fun h => HNM.out (Or.inr (Or.inr h)))
     have HBM := Aside0.mk (fun h => HBQ.out (Or.inr (Or.inr h)))
     clear HBQ
     clear HSZ hrx hry HNM HYM hza hzb
     generalize xs.getD 0 0 = x at hx0 HSX HMI HMN HBM
     generalize ys.getD 0 0 = y at hy0 HSY HMI HMN HBM
     generalize onesI x = u at HSX HMI HMN HBM
     generalize onesI y = v at HSY HMI HMN HBM
     replace hx0 : w1.cell? ad = some (I x) := (congrArg w1.cell? (add_zero_ ad)).symm.trans hx0
     replace hy0 : w1.cell? ad2 = some (I y) := (congrArg w1.cell? (add_zero_ ad2)).symm.trans hy0
     have hlx := World.block_lt_of_cell? w1 _ hx0
     have hly := World.block_lt_of_cell? w1 _ hy0
     by_cases huv : u = v
     ·have HN := Aside0.mk (HMN.out huv)
      have HBN := Aside0.mk (HBM.out huv)
      clear HBM
      clear HMI HMN
      subst huv
      refine start_ (n := 19) (S := fun w' => w'.cell? ⟨w.heap.size, 0, none⟩ = some (I n) ∧ w'.cell? ⟨w.heap.size, 1, none⟩ = some (.slice A l.length c) ∧ w'.cell? ad = some (I x) ∧ w'.cell? ad2 = some (I y)) (ds := []) #[O,O,O,O,O,O,O,O,O,O,O,O,O,O,O,O,O,O,O] (by kernel_rfl) rfl rfl ⟨(Below.cell (w := w1) (below_drew (Grew.refl w1)) (p := ⟨w.heap.size, 0, none⟩) hlb).trans kb0, (Below.cell (w := w1) (below_drew (Grew.refl w1)) (p := ⟨w.heap.size, 1, none⟩) hlb).trans kb1, (Below.cell (w := w1) (below_drew (Grew.refl w1)) (p := ad) hlx).trans hx0, (Below.cell (w := w1) (below_drew (Grew.refl w1)) (p := ad2) hly).trans hy0⟩ (fun hHeld => ?_)
      refine pure_ (i := 0) (N := some 22) (v := ?_) (a' := ?_) #[U,O,O,O,O,O,O,O,O,O,O,O,O,O,O,O,O,O,O] rfl rfl (by kernel_rfl) (fun _ _ _ h => h) (Or.inl ⟨by rfl, ?_⟩) ?_ ?_
      rotate_left; · intro w'; go_simp; with_reducible rfl
      rotate_left; · simp only [nm_]; rfl
      refine pure_ (i := 1) (N := some 23) (v := ?_) (a' := ?_) #[U,U,O,O,O,O,O,O,O,O,O,O,O,O,O,O,O,O,O] rfl rfl (by kernel_rfl) (fun _ _ _ h => h) (Or.inl ⟨by rfl, ?_⟩) ?_ ?_
      rotate_left; · intro w'; go_simp; with_reducible rfl
      rotate_left; · simp only [nm_]; rfl
      refine pure_ (i := 2) (N := some 24) (v := ?_) (a' := ?_) #[U,U,U,O,O,O,O,O,O,O,O,O,O,O,O,O,O,O,O] rfl rfl (by kernel_rfl) (fun _ _ _ h => h) (Or.inl ⟨by rfl, ?_⟩) ?_ ?_
      rotate_left; · intro w'; go_simp; with_reducible rfl
      rotate_left; · simp only [nm_]; rfl
      refine pure_ (i := 3) (N := some 25) (v := ?_) (a' := ?_) #[U,U,U,U,O,O,O,O,O,O,O,O,O,O,O,O,O,O,O] rfl rfl (by kernel_rfl) (fun _ _ _ h => h) (Or.inl ⟨by rfl, ?_⟩) ?_ ?_
      rotate_left; · intro w'; go_simp; with_reducible rfl
      rotate_left; · simp only [nm_]; rfl
      refine pure_ (i := 4) (N := some 26) (v := ?_) (a' := ?_) #[U,U,U,U,U,O,O,O,O,O,O,O,O,O,O,O,O,O,O] rfl rfl (by kernel_rfl) (fun _ _ _ h => h) (Or.inl ⟨by rfl, ?_⟩) ?_ ?_
      rotate_left; · intro w'; go_simp; with_reducible rfl
      rotate_left; · simp only [nm_]; rfl
      refine pure_ (i := 5) (N := some 27) (v := ?_) (a' := ?_) #[U,U,U,U,U,U,O,O,O,O,O,O,O,O,O,O,O,O,O] rfl rfl (by kernel_rfl) (fun _ _ _ h => h) (Or.inl ⟨by rfl, ?_⟩) ?_ ?_
      rotate_left; · intro w'; go_simp; with_reducible rfl
      rotate_left; · simp only [nm_]; rfl
      refine pure_ (i := 6) (N := some 28) (v := ?_) (a' := ?_) #[U,U,U,U,U,U,U,O,O,O,O,O,O,O,O,O,O,O,O] rfl rfl (by kernel_rfl) (fun _ _ _ h => h) (Or.inl ⟨by rfl, ?_⟩) ?_ ?_
      rotate_left; · intro w'; go_simp; with_reducible rfl
      rotate_left; · simp only [nm_]; rfl
      refine pure_ (i := 7) (N := some 29) (v := ?_) (a' := ?_) #[U,U,U,U,U,U,U,U,O,O,O,O,O,O,O,O,O,O,O] rfl rfl (by kernel_rfl) (fun _ _ _ h => h) (Or.inl ⟨by rfl, ?_⟩) ?_ ?_
      rotate_left; · intro w'; go_simp; with_reducible rfl
      rotate_left; · simp only [nm_]; rfl
      refine pure_ (i := 8) (N := some 30) (v := ?_) (a' := ?_) #[U,U,U,U,U,U,U,U,U,O,O,O,O,O,O,O,O,O,O] rfl rfl (by kernel_rfl) (fun _ _ _ h => h) (Or.inl ⟨by rfl, ?_⟩) ?_ ?_
      rotate_left; · intro w'; go_simp; with_reducible rfl
      rotate_left; · simp only [nm_]; rfl
      refine pure_ (i := 9) (N := some 31) (v := ?_) (a' := ?_) #[U,U,U,U,U,U,U,U,U,U,O,O,O,O,O,O,O,O,O] rfl rfl (by kernel_rfl) (fun _ _ _ h => h) (Or.inl ⟨by rfl, ?_⟩) ?_ ?_
      rotate_left; · intro w'; go_simp; with_reducible rfl
      rotate_left; · simp only [nm_]; rfl
      refine pure_ (i := 10) (N := some 32) (v := ?_) (a' := ?_) #[U,U,U,U,U,U,U,U,U,U,U,O,O,O,O,O,O,O,O] rfl rfl (by kernel_rfl) (fun _ _ _ h => h) (Or.inl ⟨by rfl, ?_⟩) ?_ ?_
      rotate_left; · intro w'; go_simp; with_reducible rfl
      rotate_left; · simp only [nm_]; rfl
      refine pure_ (i := 13) (N := some 35) (v := ?_) (a' := ?_) #[U,U,U,U,U,U,U,U,U,U,U,O,O,U,O,O,O,O,O] rfl rfl (by kernel_rfl) (fun _ _ _ h => h) (Or.inl ⟨by rfl, ?_⟩) ?_ ?_
      rotate_left; · intro w'; go_simp; with_reducible rfl
      rotate_left; · simp only [nm_]; rfl
      refine pure_ (i := 14) (N := some 36) (v := ?_) (a' := ?_) #[U,U,U,U,U,U,U,U,U,U,U,O,O,U,U,O,O,O,O] rfl rfl (by kernel_rfl) (fun _ _ _ h => h) (Or.inl ⟨by rfl, ?_⟩) ?_ ?_
      rotate_left; · intro w'; go_simp; with_reducible rfl
      rotate_left; · simp only [nm_]; rfl
      refine take_ (i := 11) (N := some 33) (v := ?_) (a' := ?_) #[U,U,U,U,U,U,U,U,U,U,U,U,O,U,U,O,O,O,O] rfl rfl (by kernel_rfl) (fun _ _ _ h => h) (Or.inl ⟨by rfl, ?_⟩) hHeld ?_ ?_
      rotate_left; · rintro w' ⟨s0, s1, s2, s3⟩; go_simp; with_reducible rfl
      rotate_left; · simp only [nm_]; rfl
      refine take_ (i := 15) (N := some 37) (v := ?_) (a' := ?_) #[U,U,U,U,U,U,U,U,U,U,U,U,O,U,U,U,O,O,O] rfl rfl (by kernel_rfl) (fun _ _ _ h => h) (Or.inl ⟨by rfl, ?_⟩) hHeld ?_ ?_
      rotate_left; · rintro w' ⟨s0, s1, s2, s3⟩; go_simp; with_reducible rfl
      rotate_left; · simp only [nm_]; rfl
      refine one_ (i := 12) (N := some 34) #[U,U,U,U,U,U,U,U,U,U,U,U,U,U,U,U,O,O,O] rfl rfl (by kernel_rfl) (by decide) (fun K hK => ?_)
      refine goes_ Try.func44 (by kernel_rfl) rfl #[I x] (by rfl) rfl rfl (by simp only [List.map_toArray, List.map_cons, List.map_nil]; rfl) ?_
      with_reducible refine (HSX.out _).mono ?_
      rintro e w3 ⟨rfl, hGa⟩
      refine ⟨_, rfl, ?_⟩
      have HL := Aside0.mk (Grew.trans (below_drew (Grew.refl w1)) hGa)
      clear hGa
      refine hK.out _ _ ⟨(Below.cell (w := w1) HL.out (p := ⟨w.heap.size, 0, none⟩) hlb).trans kb0, (Below.cell (w := w1) HL.out (p := ⟨w.heap.size, 1, none⟩) hlb).trans kb1, (Below.cell (w := w1) HL.out (p := ad) hlx).trans hx0, (Below.cell (w := w1) HL.out (p := ad2) hly).trans hy0⟩ (fun hHeld => ?_)
      clear hK K
      refine norm_ (a' := ?_) ?_ ?_
      rotate_left
      ·show Act.put _ (some 34) _ = _
       simp only [nm_]
       rfl
      refine one_ (i := 16) (N := some 38) #[U,U,U,U,U,U,U,U,U,U,U,U,U,U,U,U,U,O,O] rfl rfl (by kernel_rfl) (by decide) (fun K hK => ?_)
      refine goes_ Try.func44 (by kernel_rfl) rfl #[I y] (by rfl) rfl rfl (by simp only [List.map_toArray, List.map_cons, List.map_nil]; rfl) ?_
      with_reducible refine (HSY.out _).mono ?_
      rintro e w4 ⟨rfl, hGb⟩
      refine ⟨_, rfl, ?_⟩
      replace HL := Aside0.mk (Grew.trans HL.out hGb)
      clear hGb
      refine hK.out _ _ ⟨(Below.cell (w := w1) HL.out (p := ⟨w.heap.size, 0, none⟩) hlb).trans kb0, (Below.cell (w := w1) HL.out (p := ⟨w.heap.size, 1, none⟩) hlb).trans kb1, (Below.cell (w := w1) HL.out (p := ad) hlx).trans hx0, (Below.cell (w := w1) HL.out (p := ad2) hly).trans hy0⟩ (fun hHeld => ?_)
      clear hK K
      refine norm_ (a' := ?_) ?_ ?_
      rotate_left
      ·show Act.put _ (some 38) _ = _
       simp only [nm_]
       rfl
      refine pure_ (i := 17) (N := some 39) (v := ?_) (a' := ?_) #[U,U,U,U,U,U,U,U,U,U,U,U,U,U,U,U,U,U,O] rfl rfl (by kernel_rfl) (fun _ _ _ h => h) (Or.inl ⟨by rfl, ?_⟩) ?_ ?_
      rotate_left; · intro w'; go_simp; with_reducible rfl
      rotate_left; · simp only [nm_]; rfl
      refine pure_ (i := 18) (N := some 40) (v := ?_) (a' := ?_) #[U,U,U,U,U,U,U,U,U,U,U,U,U,U,U,U,U,U,U] rfl rfl (by kernel_rfl) (fun _ _ _ h => h) (Or.inl ⟨by rfl, ?_⟩) ?_ ?_
      rotate_left; · intro w'; go_simp; with_reducible rfl
      rotate_left; · simp only [nm_]; rfl
      refine done_ (by kernel_rfl) ?_
      have HGX := Aside0.mk (Grew.trans HG1.out HL.out)
      have kx0 : w4.cell? ⟨w.heap.size, 0, none⟩ = some (I n) := (Below.cell (w := w1) HL.out (p := ⟨w.heap.size, 0, none⟩) hlb).trans kb0
      have kx1 : w4.cell? ⟨w.heap.size, 1, none⟩ = some (.slice A l.length c) := (Below.cell (w := w1) HL.out (p := ⟨w.heap.size, 1, none⟩) hlb).trans kb1
      clear kb0 kb1 hlb
      obtain ⟨wx, hwx⟩ : ∃ wx, wx = w4 := ⟨_, rfl⟩
      rw [← hwx] at HGX kx0 kx1
      try rw [← hwx]
      clear hwx
      have kb0 := kx0
      have kb1 := kx1
      clear kx0 kx1
      have hlb := World.block_lt_of_cell? wx _ kb0
      go_wp2_with fail
      refine start_ (n := 7) (S := fun w' => w'.cell? ⟨w.heap.size, 0, none⟩ = some (I n) ∧ w'.cell? ⟨w.heap.size, 1, none⟩ = some (.slice A l.length c)) (ds := []) #[O,O,O,O,O,O,O] (by kernel_rfl) rfl rfl ⟨(Below.cell (w := wx) (below_drew (Grew.refl wx)) (p := ⟨w.heap.size, 0, none⟩) hlb).trans kb0, (Below.cell (w := wx) (below_drew (Grew.refl wx)) (p := ⟨w.heap.size, 1, none⟩) hlb).trans kb1⟩ (fun hHeld => ?_)
      refine pure_ (i := 1) (N := some 42) (v := ?_) (a' := ?_) #[O,U,O,O,O,O,O] rfl rfl (by kernel_rfl) (fun _ _ _ h => h) (Or.inl ⟨by rfl, ?_⟩) ?_ ?_
      rotate_left; · intro w'; go_simp; with_reducible rfl
      rotate_left; · simp only [nm_]; rfl
      refine pure_ (i := 2) (N := some 43) (v := ?_) (a' := ?_) #[O,U,U,O,O,O,O] rfl rfl (by kernel_rfl) (fun _ _ _ h => h) (Or.inl ⟨by rfl, ?_⟩) ?_ ?_
      rotate_left; · intro w'; go_simp; with_reducible rfl
      rotate_left; · simp only [nm_]; rfl
      refine take_ (i := 0) (N := some 41) (v := ?_) (a' := ?_) #[U,U,U,O,O,O,O] rfl rfl (by kernel_rfl) (fun _ _ _ h => h) (Or.inl ⟨by rfl, ?_⟩) hHeld ?_ ?_
      rotate_left; · rintro w' ⟨s0, s1⟩; go_simp; with_reducible rfl
      rotate_left; · simp only [nm_]; rfl
      refine one_ (i := 3) (N := some 44) #[U,U,U,U,O,O,O] rfl rfl (by kernel_rfl) (by decide) (fun K hK => ?_)
      refine goes_ Try.func45 (by kernel_rfl) rfl #[.slice (some ad) xs.length c2, .slice (some ad2) ys.length c5] (by rfl) rfl rfl (by simp only [List.map_toArray, List.map_cons, List.map_nil]; rfl) ?_
      with_reducible refine (HSM.out _ (Grew.trans HGX.out (below_drew (Grew.refl wx)))).mono ?_
      rintro e w5 ⟨v5, rfl, hR5, hGc⟩
      refine ⟨_, rfl, ?_⟩
      have HM := Aside0.mk (Grew.trans (below_drew (Grew.refl wx)) hGc)
      obtain ⟨A6, c6, hv6, hc6, hC6⟩ := Kd.R_reads hR5
      subst hv6
      have HR6 := Aside0.mk hC6
      have HC6 := Aside0.mk hc6
      clear hR5 hGc hC6 hc6
      refine hK.out _ _ ⟨(Below.cell (w := wx) HM.out (p := ⟨w.heap.size, 0, none⟩) hlb).trans kb0, (Below.cell (w := wx) HM.out (p := ⟨w.heap.size, 1, none⟩) hlb).trans kb1⟩ (fun hHeld => ?_)
      clear hK K
      refine norm_ (a' := ?_) ?_ ?_
      rotate_left
      ·show Act.put _ (some 44) _ = _
       simp only [nm_]
       rfl
      refine one_ (i := 4) (N := some 45) #[U,U,U,U,U,O,O] rfl rfl (by kernel_rfl) (by decide) (fun K hK => ?_)
      refine goes_ Try.func40 (by kernel_rfl) rfl #[.agg #[I n, .slice A l.length c], .slice A6 sm.length c6] (by rfl) rfl rfl (by simp only [List.map_toArray, List.map_cons, List.map_nil]; rfl) ?_
      with_reducible refine (HBN.out A6 c6 _ (Grew.trans HGX.out HM.out) HR6.out HC6.out).mono ?_
      rintro e w7 ⟨rfl, hGe⟩
      refine ⟨_, rfl, ?_⟩
      replace HM := Aside0.mk (Grew.trans HM.out hGe)
      clear hGe
      refine hK.out _ _ ⟨(Below.cell (w := wx) HM.out (p := ⟨w.heap.size, 0, none⟩) hlb).trans kb0, (Below.cell (w := wx) HM.out (p := ⟨w.heap.size, 1, none⟩) hlb).trans kb1⟩ (fun hHeld => ?_)
      clear hK K
      refine norm_ (a' := ?_) ?_ ?_
      rotate_left
      ·show Act.put _ (some 45) _ = _
       simp only [nm_]
       rfl
      refine pure_ (i := 5) (N := some 6) (v := ?_) (a' := ?_) #[U,U,U,U,U,U,O] rfl rfl (by kernel_rfl) (fun _ _ _ h => h) (Or.inl ⟨by rfl, ?_⟩) ?_ ?_
      rotate_left; · intro w'; go_simp; with_reducible rfl
      rotate_left; · simp only [nm_]; rfl
      refine pure_ (i := 6) (N := some 7) (v := ?_) (a' := ?_) #[U,U,U,U,U,U,U] rfl rfl (by kernel_rfl) (fun _ _ _ h => h) (Or.inl ⟨by rfl, ?_⟩) ?_ ?_
      rotate_left; · intro w'; go_simp; with_reducible rfl
      rotate_left; · simp only [nm_]; rfl
      refine done_ (by kernel_rfl) ?_
      go_wp2_with fail
      go_ret2
      exact ⟨by (rw [HN.out.1, HN.out.2]; try rfl), Grew.trans HGX.out HM.out⟩
     ·have HN := Aside0.mk (HMI.out huv)
      clear HMI HMN
      have huv1 : (u == v) = false := by simpa using huv
      have huv2 : (u != v) = true := by simpa using huv
      refine start_ (n := 19) (S := fun w' => w'.cell? ⟨w.heap.size, 0, none⟩ = some (I n) ∧ w'.cell? ⟨w.heap.size, 1, none⟩ = some (.slice A l.length c) ∧ w'.cell? ad = some (I x) ∧ w'.cell? ad2 = some (I y)) (ds := []) #[O,O,O,O,O,O,O,O,O,O,O,O,O,O,O,O,O,O,O] (by kernel_rfl) rfl rfl ⟨(Below.cell (w := w1) (below_drew (Grew.refl w1)) (p := ⟨w.heap.size, 0, none⟩) hlb).trans kb0, (Below.cell (w := w1) (below_drew (Grew.refl w1)) (p := ⟨w.heap.size, 1, none⟩) hlb).trans kb1, (Below.cell (w := w1) (below_drew (Grew.refl w1)) (p := ad) hlx).trans hx0, (Below.cell (w := w1) (below_drew (Grew.refl w1)) (p := ad2) hly).trans hy0⟩ (fun hHeld => ?_)
      refine pure_ (i := 0) (N := some 22) (v := ?_) (a' := ?_) #[U,O,O,O,O,O,O,O,O,O,O,O,O,O,O,O,O,O,O] rfl rfl (by kernel_rfl) (fun _ _ _ h => h) (Or.inl ⟨by rfl, ?_⟩) ?_ ?_
      rotate_left; · intro w'; go_simp; with_reducible rfl
      rotate_left; · simp only [nm_]; rfl
      refine pure_ (i := 1) (N := some 23) (v := ?_) (a' := ?_) #[U,U,O,O,O,O,O,O,O,O,O,O,O,O,O,O,O,O,O] rfl rfl (by kernel_rfl) (fun _ _ _ h => h) (Or.inl ⟨by rfl, ?_⟩) ?_ ?_
      rotate_left; · intro w'; go_simp; with_reducible rfl
      rotate_left; · simp only [nm_]; rfl
      refine pure_ (i := 2) (N := some 24) (v := ?_) (a' := ?_) #[U,U,U,O,O,O,O,O,O,O,O,O,O,O,O,O,O,O,O] rfl rfl (by kernel_rfl) (fun _ _ _ h => h) (Or.inl ⟨by rfl, ?_⟩) ?_ ?_
      rotate_left; · intro w'; go_simp; with_reducible rfl
      rotate_left; · simp only [nm_]; rfl
      refine pure_ (i := 3) (N := some 25) (v := ?_) (a' := ?_) #[U,U,U,U,O,O,O,O,O,O,O,O,O,O,O,O,O,O,O] rfl rfl (by kernel_rfl) (fun _ _ _ h => h) (Or.inl ⟨by rfl, ?_⟩) ?_ ?_
      rotate_left; · intro w'; go_simp; with_reducible rfl
      rotate_left; · simp only [nm_]; rfl
      refine pure_ (i := 4) (N := some 26) (v := ?_) (a' := ?_) #[U,U,U,U,U,O,O,O,O,O,O,O,O,O,O,O,O,O,O] rfl rfl (by kernel_rfl) (fun _ _ _ h => h) (Or.inl ⟨by rfl, ?_⟩) ?_ ?_
      rotate_left; · intro w'; go_simp; with_reducible rfl
      rotate_left; · simp only [nm_]; rfl
      refine pure_ (i := 5) (N := some 27) (v := ?_) (a' := ?_) #[U,U,U,U,U,U,O,O,O,O,O,O,O,O,O,O,O,O,O] rfl rfl (by kernel_rfl) (fun _ _ _ h => h) (Or.inl ⟨by rfl, ?_⟩) ?_ ?_
      rotate_left; · intro w'; go_simp; with_reducible rfl
      rotate_left; · simp only [nm_]; rfl
      refine pure_ (i := 6) (N := some 28) (v := ?_) (a' := ?_) #[U,U,U,U,U,U,U,O,O,O,O,O,O,O,O,O,O,O,O] rfl rfl (by kernel_rfl) (fun _ _ _ h => h) (Or.inl ⟨by rfl, ?_⟩) ?_ ?_
      rotate_left; · intro w'; go_simp; with_reducible rfl
      rotate_left; · simp only [nm_]; rfl
      refine pure_ (i := 7) (N := some 29) (v := ?_) (a' := ?_) #[U,U,U,U,U,U,U,U,O,O,O,O,O,O,O,O,O,O,O] rfl rfl (by kernel_rfl) (fun _ _ _ h => h) (Or.inl ⟨by rfl, ?_⟩) ?_ ?_
      rotate_left; · intro w'; go_simp; with_reducible rfl
      rotate_left; · simp only [nm_]; rfl
      refine pure_ (i := 8) (N := some 30) (v := ?_) (a' := ?_) #[U,U,U,U,U,U,U,U,U,O,O,O,O,O,O,O,O,O,O] rfl rfl (by kernel_rfl) (fun _ _ _ h => h) (Or.inl ⟨by rfl, ?_⟩) ?_ ?_
      rotate_left; · intro w'; go_simp; with_reducible rfl
      rotate_left; · simp only [nm_]; rfl
      refine pure_ (i := 9) (N := some 31) (v := ?_) (a' := ?_) #[U,U,U,U,U,U,U,U,U,U,O,O,O,O,O,O,O,O,O] rfl rfl (by kernel_rfl) (fun _ _ _ h => h) (Or.inl ⟨by rfl, ?_⟩) ?_ ?_
      rotate_left; · intro w'; go_simp; with_reducible rfl
      rotate_left; · simp only [nm_]; rfl
      refine pure_ (i := 10) (N := some 32) (v := ?_) (a' := ?_) #[U,U,U,U,U,U,U,U,U,U,U,O,O,O,O,O,O,O,O] rfl rfl (by kernel_rfl) (fun _ _ _ h => h) (Or.inl ⟨by rfl, ?_⟩) ?_ ?_
      rotate_left; · intro w'; go_simp; with_reducible rfl
      rotate_left; · simp only [nm_]; rfl
      refine pure_ (i := 13) (N := some 35) (v := ?_) (a' := ?_) #[U,U,U,U,U,U,U,U,U,U,U,O,O,U,O,O,O,O,O] rfl rfl (by kernel_rfl) (fun _ _ _ h => h) (Or.inl ⟨by rfl, ?_⟩) ?_ ?_
      rotate_left; · intro w'; go_simp; with_reducible rfl
      rotate_left; · simp only [nm_]; rfl
      refine pure_ (i := 14) (N := some 36) (v := ?_) (a' := ?_) #[U,U,U,U,U,U,U,U,U,U,U,O,O,U,U,O,O,O,O] rfl rfl (by kernel_rfl) (fun _ _ _ h => h) (Or.inl ⟨by rfl, ?_⟩) ?_ ?_
      rotate_left; · intro w'; go_simp; with_reducible rfl
      rotate_left; · simp only [nm_]; rfl
      refine take_ (i := 11) (N := some 33) (v := ?_) (a' := ?_) #[U,U,U,U,U,U,U,U,U,U,U,U,O,U,U,O,O,O,O] rfl rfl (by kernel_rfl) (fun _ _ _ h => h) (Or.inl ⟨by rfl, ?_⟩) hHeld ?_ ?_
      rotate_left; · rintro w' ⟨s0, s1, s2, s3⟩; go_simp; with_reducible rfl
      rotate_left; · simp only [nm_]; rfl
      refine take_ (i := 15) (N := some 37) (v := ?_) (a' := ?_) #[U,U,U,U,U,U,U,U,U,U,U,U,O,U,U,U,O,O,O] rfl rfl (by kernel_rfl) (fun _ _ _ h => h) (Or.inl ⟨by rfl, ?_⟩) hHeld ?_ ?_
      rotate_left; · rintro w' ⟨s0, s1, s2, s3⟩; go_simp; with_reducible rfl
      rotate_left; · simp only [nm_]; rfl
      refine one_ (i := 12) (N := some 34) #[U,U,U,U,U,U,U,U,U,U,U,U,U,U,U,U,O,O,O] rfl rfl (by kernel_rfl) (by decide) (fun K hK => ?_)
      refine goes_ Try.func44 (by kernel_rfl) rfl #[I x] (by rfl) rfl rfl (by simp only [List.map_toArray, List.map_cons, List.map_nil]; rfl) ?_
      with_reducible refine (HSX.out _).mono ?_
      rintro e w3 ⟨rfl, hGa⟩
      refine ⟨_, rfl, ?_⟩
      have HL := Aside0.mk (Grew.trans (below_drew (Grew.refl w1)) hGa)
      clear hGa
      refine hK.out _ _ ⟨(Below.cell (w := w1) HL.out (p := ⟨w.heap.size, 0, none⟩) hlb).trans kb0, (Below.cell (w := w1) HL.out (p := ⟨w.heap.size, 1, none⟩) hlb).trans kb1, (Below.cell (w := w1) HL.out (p := ad) hlx).trans hx0, (Below.cell (w := w1) HL.out (p := ad2) hly).trans hy0⟩ (fun hHeld => ?_)
      clear hK K
      refine norm_ (a' := ?_) ?_ ?_
      rotate_left
      ·show Act.put _ (some 34) _ = _
       simp only [nm_]
       rfl
      refine one_ (i := 16) (N := some 38) #[U,U,U,U,U,U,U,U,U,U,U,U,U,U,U,U,U,O,O] rfl rfl (by kernel_rfl) (by decide) (fun K hK => ?_)
      refine goes_ Try.func44 (by kernel_rfl) rfl #[I y] (by rfl) rfl rfl (by simp only [List.map_toArray, List.map_cons, List.map_nil]; rfl) ?_
      with_reducible refine (HSY.out _).mono ?_
      rintro e w4 ⟨rfl, hGb⟩
      refine ⟨_, rfl, ?_⟩
      replace HL := Aside0.mk (Grew.trans HL.out hGb)
      clear hGb
      refine hK.out _ _ ⟨(Below.cell (w := w1) HL.out (p := ⟨w.heap.size, 0, none⟩) hlb).trans kb0, (Below.cell (w := w1) HL.out (p := ⟨w.heap.size, 1, none⟩) hlb).trans kb1, (Below.cell (w := w1) HL.out (p := ad) hlx).trans hx0, (Below.cell (w := w1) HL.out (p := ad2) hly).trans hy0⟩ (fun hHeld => ?_)
      clear hK K
      refine norm_ (a' := ?_) ?_ ?_
      rotate_left
      ·show Act.put _ (some 38) _ = _
       simp only [nm_]
       rfl
      refine pure_ (i := 17) (N := some 39) (v := ?_) (a' := ?_) #[U,U,U,U,U,U,U,U,U,U,U,U,U,U,U,U,U,U,O] rfl rfl (by kernel_rfl) (fun _ _ _ h => h) (Or.inl ⟨by rfl, ?_⟩) ?_ ?_
      rotate_left; · intro w'; go_simp; with_reducible rfl
      rotate_left; · simp only [nm_]; rfl
      refine pure_ (i := 18) (N := some 40) (v := ?_) (a' := ?_) #[U,U,U,U,U,U,U,U,U,U,U,U,U,U,U,U,U,U,U] rfl rfl (by kernel_rfl) (fun _ _ _ h => h) (Or.inl ⟨by rfl, ?_⟩) ?_ ?_
      rotate_left; · intro w'; go_simp; with_reducible rfl
      rotate_left; · simp only [nm_]; rfl
      refine done_ (by kernel_rfl) ?_
      go_wp2_with fail
      go_ret2
      exact ⟨by (rw [HN.out.1, HN.out.2]; try rfl), Grew.trans HG1.out HL.out⟩
  ·have HN := Aside0.mk (hom_code (n := n) (l := l) (xs := xs) (ys := ys) (by rw [HE2.out]; exact hz2))
   rw [HN.out.1, HN.out.2, HE2.out]
   clear HN HE2 hz1 hi0
   generalize codeOf n l (chainB l ys) = cc at HC2' hz2 ⊢
   go_enter Try.func21, Try.ntmps21
   go_wp2_with fail
   refine (HC1.out _ HG.out).mono ?_
   rintro e w0 ⟨rfl, hG0⟩
   have HB0 := Aside0.mk (CB.later HB.out hG0)
   have HG0 := Aside0.mk (Grew.trans HG.out hG0)
   clear hG0 k0 k1
   have k0 := HB0.out.c0
   have k1 := HB0.out.c1
   go_wp2_with fail
   refine (HC2'.out _ HG0.out).mono ?_
   rintro e w1 ⟨rfl, hG1⟩
   have HG1 := Aside0.mk (Grew.trans HG0.out hG1)
   clear hG1 k0 k1
   go_wp2_with fail
   go_ret2
   exact ⟨rfl, HG1.out⟩
 ·have HE1 : Aside0 (codeOf n l (chainB l xs && chainB l ys) = codeOf n l (chainB l xs)) := ⟨code_and hz1⟩
  have HN := Aside0.mk (hom_code (n := n) (l := l) (xs := xs) (ys := ys) (by rw [HE1.out]; exact hz1))
  rw [HN.out.1, HN.out.2, HE1.out]
  clear HN HE1
  generalize codeOf n l (chainB l xs) = cc at HC1 hz1 ⊢
  go_enter Try.func21, Try.ntmps21
  go_wp2_with fail
  refine (HC1.out _ HG.out).mono ?_
  rintro e w0 ⟨rfl, hG0⟩
  have HG0 := Aside0.mk (Grew.trans HG.out hG0)
  clear hG0 k0 k1
  go_wp2_with fail
  go_ret2
  exact ⟨rfl, HG0.out⟩

end Go.Proofs.Ytjoggjgmpoaaiaa.K
end

section
/- The walk through the law FnExactAreHomologous. -/
namespace Go.Proofs.Ytjoggjgmpoaaiaa.K
open Go.RowKit Go.Shelf Go.Proofs.Ytjoggjgmpoaaiaa.Q Go.Proofs.YtjoggjgmpoaaiaaW.PrintWords Go.Proofs.YtjoggjgmpoaaiaaW.PrintLast Go.Proofs.YtjoggjgmpoaaiaaW.PrintMore
set_option linter.unusedVariables false
set_option linter.unusedSimpArgs false

set_option maxRecDepth 100000 in
set_option maxHeartbeats 8000000 in
theorem LAreHomologous_i0 (n0 : Int) (A0 : Option Addr) (c0 : Nat) (l0 : List Int) (A1 : Option Addr) (c1 : Nat) (l1 : List Int) (A2 : Option Addr) (c2 : Nat) (l2 : List Int) (w : World) (hr0 : Ki.C w A0 l0.length l0) (hc0 : l0.length ≤ c0) (hr1 : Ki.C w A1 l1.length l1) (hc1 : l1.length ≤ c1) (hr2 : Ki.C w A2 l2.length l2) (hc2 : l2.length ≤ c2)  (hz : (1048576 : Int) < (l1.length : Int)) :
  Calls Try.prog 6 #[.agg #[I n0, .slice A0 l0.length c0], .slice A1 l1.length c1, .slice A2 l2.length c2] w fun e w' => e = .returned (.bool true) ∧ Grew w w' := by
 have hbig0 := hr0.2.1
 have HR0 := Aside0.mk hr0
 have HC0 := Aside0.mk hc0
 clear hr0 hc0
 have hbig1 := hr1.2.1
 have HR1 := Aside0.mk hr1
 have HC1 := Aside0.mk hc1
 clear hr1 hc1
 have hbig2 := hr2.2.1
 have HR2 := Aside0.mk hr2
 have HC2 := Aside0.mk hc2
 clear hr2 hc2
 obtain ⟨W0, hW0⟩ : ∃ W0, W0 = (w.alloc (.cells #[I n0, .slice A0 l0.length c0] 24)) := ⟨_, rfl⟩
 have hb_p0 : (Item.box w.heap.size 24 #[I n0, .slice A0 l0.length c0]).ok W0 := by
  rw [hW0]
  have := blk_new w (.cells #[I n0, .slice A0 l0.length c0] 24)
  exact this
 have HM0 : Aside0 (Mem W0 [.box w.heap.size 24 #[I n0, .slice A0 l0.length c0]]) := ⟨Mem.cons (it := .box w.heap.size 24 #[I n0, .slice A0 l0.length c0]) hb_p0 (Mem.nil _)⟩
 have HG0 : Aside0 (Grew w W0) := ⟨by rw [hW0]; exact below_alloc (Grew.refl w) _⟩
 have hs0 : W0.heap.size = w.heap.size + 1 := by rw [hW0]; simp
 clear hb_p0
 subst hW0
 go_enter Try.func6, Try.ntmps6
 go_wp2_with fail
 go_ret
 exact ⟨rfl, HG0.out⟩

set_option maxRecDepth 100000 in
set_option maxHeartbeats 8000000 in
theorem LAreHomologous_i1 (n0 : Int) (A0 : Option Addr) (c0 : Nat) (l0 : List Int) (A1 : Option Addr) (c1 : Nat) (l1 : List Int) (A2 : Option Addr) (c2 : Nat) (l2 : List Int) (w : World) (hr0 : Ki.C w A0 l0.length l0) (hc0 : l0.length ≤ c0) (hr1 : Ki.C w A1 l1.length l1) (hc1 : l1.length ≤ c1) (hr2 : Ki.C w A2 l2.length l2) (hc2 : l2.length ≤ c2) (hn1 : ¬ (1048576 : Int) < (l1.length : Int)) (hz : (1048576 : Int) < (l2.length : Int)) :
  Calls Try.prog 6 #[.agg #[I n0, .slice A0 l0.length c0], .slice A1 l1.length c1, .slice A2 l2.length c2] w fun e w' => e = .returned (.bool true) ∧ Grew w w' := by
 have hbig0 := hr0.2.1
 have HR0 := Aside0.mk hr0
 have HC0 := Aside0.mk hc0
 clear hr0 hc0
 have hbig1 := hr1.2.1
 have HR1 := Aside0.mk hr1
 have HC1 := Aside0.mk hc1
 clear hr1 hc1
 have hbig2 := hr2.2.1
 have HR2 := Aside0.mk hr2
 have HC2 := Aside0.mk hc2
 clear hr2 hc2
 obtain ⟨W0, hW0⟩ : ∃ W0, W0 = (w.alloc (.cells #[I n0, .slice A0 l0.length c0] 24)) := ⟨_, rfl⟩
 have hb_p0 : (Item.box w.heap.size 24 #[I n0, .slice A0 l0.length c0]).ok W0 := by
  rw [hW0]
  have := blk_new w (.cells #[I n0, .slice A0 l0.length c0] 24)
  exact this
 have HM0 : Aside0 (Mem W0 [.box w.heap.size 24 #[I n0, .slice A0 l0.length c0]]) := ⟨Mem.cons (it := .box w.heap.size 24 #[I n0, .slice A0 l0.length c0]) hb_p0 (Mem.nil _)⟩
 have HG0 : Aside0 (Grew w W0) := ⟨by rw [hW0]; exact below_alloc (Grew.refl w) _⟩
 have hs0 : W0.heap.size = w.heap.size + 1 := by rw [hW0]; simp
 clear hb_p0
 subst hW0
 go_enter Try.func6, Try.ntmps6
 go_wp2_with fail
 go_ret
 exact ⟨rfl, HG0.out⟩

set_option maxRecDepth 100000 in
set_option maxHeartbeats 8000000 in
theorem LAreHomologous_b0 (n0 : Int) (A0 : Option Addr) (c0 : Nat) (l0 : List Int) (A1 : Option Addr) (c1 : Nat) (l1 : List Int) (A2 : Option Addr) (c2 : Nat) (l2 : List Int) (w : World) (hr0 : Ki.C w A0 l0.length l0) (hc0 : l0.length ≤ c0) (hr1 : Ki.C w A1 l1.length l1) (hc1 : l1.length ≤ c1) (hr2 : Ki.C w A2 l2.length l2) (hc2 : l2.length ≤ c2) (hn1 : ¬ (1048576 : Int) < (l1.length : Int)) (hn2 : ¬ (1048576 : Int) < (l2.length : Int))  (hz : (1048576 : Int) < (l0.length : Int)) :
  Calls Try.prog 6 #[.agg #[I n0, .slice A0 l0.length c0], .slice A1 l1.length c1, .slice A2 l2.length c2] w fun e w' => e = .returned (.bool true) ∧ Grew w w' := by
 have hbig0 := hr0.2.1
 have HR0 := Aside0.mk hr0
 have HC0 := Aside0.mk hc0
 clear hr0 hc0
 have hbig1 := hr1.2.1
 have HR1 := Aside0.mk hr1
 have HC1 := Aside0.mk hc1
 clear hr1 hc1
 have hbig2 := hr2.2.1
 have HR2 := Aside0.mk hr2
 have HC2 := Aside0.mk hc2
 clear hr2 hc2
 obtain ⟨W0, hW0⟩ : ∃ W0, W0 = (w.alloc (.cells #[I n0, .slice A0 l0.length c0] 24)) := ⟨_, rfl⟩
 have hb_p0 : (Item.box w.heap.size 24 #[I n0, .slice A0 l0.length c0]).ok W0 := by
  rw [hW0]
  have := blk_new w (.cells #[I n0, .slice A0 l0.length c0] 24)
  exact this
 have HM0 : Aside0 (Mem W0 [.box w.heap.size 24 #[I n0, .slice A0 l0.length c0]]) := ⟨Mem.cons (it := .box w.heap.size 24 #[I n0, .slice A0 l0.length c0]) hb_p0 (Mem.nil _)⟩
 have HG0 : Aside0 (Grew w W0) := ⟨by rw [hW0]; exact below_alloc (Grew.refl w) _⟩
 have hs0 : W0.heap.size = w.heap.size + 1 := by rw [hW0]; simp
 clear hb_p0
 have H0 := Aside0.mk (szC_calls n0 A0 c0 l0 (1048576 : Int) (by omega) W0 (Kd.C_below HR0.out HG0.out) HC0.out)
 rw [if_pos (by omega)] at H0
 have p0_0 : W0.cell? ⟨w.heap.size, 0, none⟩ = some (I n0) := blk_cell HM0.out.head 0
 have p0_1 : W0.cell? ⟨w.heap.size, 1, none⟩ = some (.slice A0 l0.length c0) := blk_cell HM0.out.head 1
 subst hW0
 go_enter Try.func6, Try.ntmps6
 go_wp2_with fail
 refine H0.out.mono ?_
 rintro e w1 ⟨rfl, hG1⟩
 clear p0_0 p0_1
 have HM1 := Aside0.mk (HM0.out.grew hG1)
 have HG1 := Aside0.mk (Grew.trans HG0.out hG1)
 have hs1 := hG1.size
 try simp at hs1
 clear hG1 H0
 go_wp2_with fail
 go_ret
 exact ⟨rfl, HG1.out⟩

set_option maxRecDepth 100000 in
set_option maxHeartbeats 8000000 in
theorem LAreHomologous_main (n0 : Int) (A0 : Option Addr) (c0 : Nat) (l0 : List Int) (A1 : Option Addr) (c1 : Nat) (l1 : List Int) (A2 : Option Addr) (c2 : Nat) (l2 : List Int) (w : World) (hr0 : Ki.C w A0 l0.length l0) (hc0 : l0.length ≤ c0) (hr1 : Ki.C w A1 l1.length l1) (hc1 : l1.length ≤ c1) (hr2 : Ki.C w A2 l2.length l2) (hc2 : l2.length ≤ c2) (hn1 : ¬ (1048576 : Int) < (l1.length : Int)) (hn2 : ¬ (1048576 : Int) < (l2.length : Int)) (hl0 : ¬ (1048576 : Int) < (l0.length : Int)) :
  Calls Try.prog 6 #[.agg #[I n0, .slice A0 l0.length c0], .slice A1 l1.length c1, .slice A2 l2.length c2] w fun e w' => e = .returned (.bool true) ∧ Grew w w' := by
  obtain ⟨r0, r1, HS, HI⟩ : ∃ (r0 : Bool) (r1 : Int), Aside0 (∀ W A0 c0 A1 c1 A2 c2, Ki.C W A0 l0.length l0 → l0.length ≤ c0 → Ki.C W A1 l1.length l1 → l1.length ≤ c1 → Ki.C W A2 l2.length l2 → l2.length ≤ c2 → Calls Try.prog 21 #[.agg #[I n0, .slice A0 l0.length c0], .slice A1 l1.length c1, .slice A2 l2.length c2] W fun e w' => e = .returned (.tuple #[.bool r0, I r1]) ∧ Grew W w') ∧ Aside0 (∀ W A0 c0 A1 c1 A2 c2, Ki.C W A0 l0.length l0 → l0.length ≤ c0 → Ki.C W A1 l1.length l1 → l1.length ≤ c1 → Ki.C W A2 l2.length l2 → l2.length ≤ c2 → Calls Try.prog 22 #[.agg #[I n0, .slice A0 l0.length c0], .slice A1 l1.length c1, .slice A2 l2.length c2] W fun e w' => e = .returned (.tuple #[.bool r0, I r1]) ∧ Grew W w') := by
   have hbig0 := hr0.2.1
   have hbig1 := hr1.2.1
   have hbig2 := hr2.2.1
   have hS := fun (W : World) (A0 : Option Addr) (c0 : Nat) (A1 : Option Addr) (c1 : Nat) (A2 : Option Addr) (c2 : Nat) (hr0 : Ki.C W A0 l0.length l0) (hc0 : l0.length ≤ c0) (hr1 : Ki.C W A1 l1.length l1) (hc1 : l1.length ≤ c1) (hr2 : Ki.C W A2 l2.length l2) (hc2 : l2.length ≤ c2) => sHom_calls n0 A0 c0 l0 A1 c1 l1 A2 c2 l2 W ⟨hr0, hc0, by omega⟩ hr1 hc1 (by omega) hr2 hc2 (by omega) (by omega)
   have hI := fun (W : World) (A0 : Option Addr) (c0 : Nat) (A1 : Option Addr) (c1 : Nat) (A2 : Option Addr) (c2 : Nat) (hr0 : Ki.C W A0 l0.length l0) (hc0 : l0.length ≤ c0) (hr1 : Ki.C W A1 l1.length l1) (hc1 : l1.length ≤ c1) (hr2 : Ki.C W A2 l2.length l2) (hc2 : l2.length ≤ c2) => Hom_calls n0 A0 c0 l0 A1 c1 l1 A2 c2 l2 W ⟨hr0, hc0, by omega⟩ hr1 hc1 (by omega) hr2 hc2 (by omega)
   exact ⟨(homA n0 l0 l1 l2), (homC n0 l0 l1 l2), ⟨hS⟩, ⟨hI⟩⟩
  have hbig0 := hr0.2.1
  have HR0 := Aside0.mk hr0
  have HC0 := Aside0.mk hc0
  clear hr0 hc0
  have hbig1 := hr1.2.1
  have HR1 := Aside0.mk hr1
  have HC1 := Aside0.mk hc1
  clear hr1 hc1
  have hbig2 := hr2.2.1
  have HR2 := Aside0.mk hr2
  have HC2 := Aside0.mk hc2
  clear hr2 hc2
  obtain ⟨W0, hW0⟩ : ∃ W0, W0 = (w.alloc (.cells #[I n0, .slice A0 l0.length c0] 24)) := ⟨_, rfl⟩
  have hb_p0 : (Item.box w.heap.size 24 #[I n0, .slice A0 l0.length c0]).ok W0 := by
   rw [hW0]
   have := blk_new w (.cells #[I n0, .slice A0 l0.length c0] 24)
   exact this
  have HM0 : Aside0 (Mem W0 [.box w.heap.size 24 #[I n0, .slice A0 l0.length c0]]) := ⟨Mem.cons (it := .box w.heap.size 24 #[I n0, .slice A0 l0.length c0]) hb_p0 (Mem.nil _)⟩
  have HG0 : Aside0 (Grew w W0) := ⟨by rw [hW0]; exact below_alloc (Grew.refl w) _⟩
  have hs0 : W0.heap.size = w.heap.size + 1 := by rw [hW0]; simp
  clear hb_p0
  have H0 := Aside0.mk (szC_calls n0 A0 c0 l0 (1048576 : Int) (by omega) W0 (Kd.C_below HR0.out HG0.out) HC0.out)
  rw [if_neg (by omega)] at H0
  have p0_0 : W0.cell? ⟨w.heap.size, 0, none⟩ = some (I n0) := blk_cell HM0.out.head 0
  have p0_1 : W0.cell? ⟨w.heap.size, 1, none⟩ = some (.slice A0 l0.length c0) := blk_cell HM0.out.head 1
  subst hW0
  go_enter Try.func6, Try.ntmps6
  have hneg0 : ¬ (((1048576 : Int) - (l0.length : Int)) < 0) := by omega
  go_wp2_with fail
  refine H0.out.mono ?_
  rintro e w1 ⟨rfl, hG1⟩
  clear p0_0 p0_1
  have HM1 := Aside0.mk (HM0.out.grew hG1)
  have HG1 := Aside0.mk (Grew.trans HG0.out hG1)
  have hs1 := hG1.size
  try simp at hs1
  clear hG1 H0
  have p0_0 : w1.cell? ⟨w.heap.size, 0, none⟩ = some (I n0) := blk_cell HM1.out.head 0
  have p0_1 : w1.cell? ⟨w.heap.size, 1, none⟩ = some (.slice A0 l0.length c0) := blk_cell HM1.out.head 1
  go_wp2_with fail
  clear p0_0 p0_1
  refine (toC_calls n0 A0 c0 l0 w1 (Kd.C_below HR0.out HG1.out) HC0.out (by omega)).mono ?_
  rintro e w2 ⟨AS0, cS0, rfl, hR2, hG2⟩
  have HM2 : Aside0 (Mem w2 [.row w1.heap.size w2.heap.size (.slice AS0 l0.length cS0) l0, .box w.heap.size 24 #[I n0, .slice A0 l0.length c0]]) := ⟨Mem.cons (it := .row w1.heap.size w2.heap.size (.slice AS0 l0.length cS0) l0) (hR2) (HM1.out.grew hG2)⟩
  have HG2 := Aside0.mk (Grew.trans HG1.out hG2)
  have hs2 := hG2.size
  clear hG2 
  go_wp2_with fail
  refine (toI_calls A1 c1 l1 w2 (Kd.C_below HR1.out HG2.out) HC1.out (by omega)).mono ?_
  rintro e w3 ⟨AS1, cS1, rfl, hR3, hG3⟩
  have HM3 : Aside0 (Mem w3 [.row w2.heap.size w3.heap.size (.slice AS1 l1.length cS1) l1, .row w1.heap.size w2.heap.size (.slice AS0 l0.length cS0) l0, .box w.heap.size 24 #[I n0, .slice A0 l0.length c0]]) := ⟨Mem.cons (it := .row w2.heap.size w3.heap.size (.slice AS1 l1.length cS1) l1) (hR3) (HM2.out.grew hG3)⟩
  have HG3 := Aside0.mk (Grew.trans HG2.out hG3)
  have hs3 := hG3.size
  clear hG3 
  go_wp2_with fail
  refine (toI_calls A2 c2 l2 w3 (Kd.C_below HR2.out HG3.out) HC2.out (by omega)).mono ?_
  rintro e w4 ⟨AS2, cS2, rfl, hR4, hG4⟩
  have HM4 : Aside0 (Mem w4 [.row w3.heap.size w4.heap.size (.slice AS2 l2.length cS2) l2, .row w2.heap.size w3.heap.size (.slice AS1 l1.length cS1) l1, .row w1.heap.size w2.heap.size (.slice AS0 l0.length cS0) l0, .box w.heap.size 24 #[I n0, .slice A0 l0.length c0]]) := ⟨Mem.cons (it := .row w3.heap.size w4.heap.size (.slice AS2 l2.length cS2) l2) (hR4) (HM3.out.grew hG4)⟩
  have HG4 := Aside0.mk (Grew.trans HG3.out hG4)
  have hs4 := hG4.size
  clear hG4 
  go_wp2_with fail
  refine (HS.out w4 AS0 cS0 AS1 cS1 AS2 cS2 (Row.slice HM4.out.tail.tail.head).2.2 (Row.slice HM4.out.tail.tail.head).2.1 (Row.slice HM4.out.tail.head).2.2 (Row.slice HM4.out.tail.head).2.1 (Row.slice HM4.out.head).2.2 (Row.slice HM4.out.head).2.1).mono ?_
  rintro e w5 ⟨rfl, hG5⟩
  have HM5 := Aside0.mk (HM4.out.grew hG5)
  have HG5 := Aside0.mk (Grew.trans HG4.out hG5)
  have hs5 := hG5.size
  clear hG5
  have p0_0 : w5.cell? ⟨w.heap.size, 0, none⟩ = some (I n0) := blk_cell HM5.out.tail.tail.tail.head 0
  have p0_1 : w5.cell? ⟨w.heap.size, 1, none⟩ = some (.slice A0 l0.length c0) := blk_cell HM5.out.tail.tail.tail.head 1
  go_wp2_with fail
  clear p0_0 p0_1
  refine (toC_calls n0 A0 c0 l0 w5 (Kd.C_below HR0.out HG5.out) HC0.out (by omega)).mono ?_
  rintro e w6 ⟨Ax0, cx0, rfl, hR6, hG6⟩
  have HM6 : Aside0 (Mem w6 [.row w5.heap.size w6.heap.size (.slice Ax0 l0.length cx0) l0, .row w3.heap.size w4.heap.size (.slice AS2 l2.length cS2) l2, .row w2.heap.size w3.heap.size (.slice AS1 l1.length cS1) l1, .row w1.heap.size w2.heap.size (.slice AS0 l0.length cS0) l0, .box w.heap.size 24 #[I n0, .slice A0 l0.length c0]]) := ⟨Mem.cons (it := .row w5.heap.size w6.heap.size (.slice Ax0 l0.length cx0) l0) (hR6) (HM5.out.grew hG6)⟩
  have HG6 := Aside0.mk (Grew.trans HG5.out hG6)
  have hs6 := hG6.size
  clear hG6 
  have HM7 : Aside0 (Mem (w6.alloc (.cells #[I n0, .slice Ax0 l0.length cx0] 26)) [.box w6.heap.size 26 #[I n0, .slice Ax0 l0.length cx0], .row w5.heap.size w6.heap.size (.slice Ax0 l0.length cx0) l0, .row w3.heap.size w4.heap.size (.slice AS2 l2.length cS2) l2, .row w2.heap.size w3.heap.size (.slice AS1 l1.length cS1) l1, .row w1.heap.size w2.heap.size (.slice AS0 l0.length cS0) l0, .box w.heap.size 24 #[I n0, .slice A0 l0.length c0]]) := ⟨Mem.cons (blk_new w6 _) (HM6.out.grew (below_alloc (Grew.refl w6) _))⟩
  have HG7 : Aside0 (Grew w (w6.alloc (.cells #[I n0, .slice Ax0 l0.length cx0] 26))) := ⟨Grew.trans HG6.out (below_alloc (Grew.refl w6) _)⟩
  have hS7 : (w6.alloc (.cells #[I n0, .slice Ax0 l0.length cx0] 26)).heap.size = w6.heap.size + 1 := by simp
  go_wp2_with fail
  generalize (w6.alloc (.cells #[I n0, .slice Ax0 l0.length cx0] 26)) = W7 at HM7 HG7 hS7  ⊢
  refine (toI_calls A1 c1 l1 W7 (Kd.C_below HR1.out HG7.out) HC1.out (by omega)).mono ?_
  rintro e w8 ⟨Ax1, cx1, rfl, hR8, hG8⟩
  have HM8 : Aside0 (Mem w8 [.row W7.heap.size w8.heap.size (.slice Ax1 l1.length cx1) l1, .box w6.heap.size 26 #[I n0, .slice Ax0 l0.length cx0], .row w5.heap.size w6.heap.size (.slice Ax0 l0.length cx0) l0, .row w3.heap.size w4.heap.size (.slice AS2 l2.length cS2) l2, .row w2.heap.size w3.heap.size (.slice AS1 l1.length cS1) l1, .row w1.heap.size w2.heap.size (.slice AS0 l0.length cS0) l0, .box w.heap.size 24 #[I n0, .slice A0 l0.length c0]]) := ⟨Mem.cons (it := .row W7.heap.size w8.heap.size (.slice Ax1 l1.length cx1) l1) (hR8) (HM7.out.grew hG8)⟩
  have HG8 := Aside0.mk (Grew.trans HG7.out hG8)
  have hs8 := hG8.size
  clear hG8 
  go_wp2_with fail
  refine (toI_calls A2 c2 l2 w8 (Kd.C_below HR2.out HG8.out) HC2.out (by omega)).mono ?_
  rintro e w9 ⟨Ax2, cx2, rfl, hR9, hG9⟩
  have HM9 : Aside0 (Mem w9 [.row w8.heap.size w9.heap.size (.slice Ax2 l2.length cx2) l2, .row W7.heap.size w8.heap.size (.slice Ax1 l1.length cx1) l1, .box w6.heap.size 26 #[I n0, .slice Ax0 l0.length cx0], .row w5.heap.size w6.heap.size (.slice Ax0 l0.length cx0) l0, .row w3.heap.size w4.heap.size (.slice AS2 l2.length cS2) l2, .row w2.heap.size w3.heap.size (.slice AS1 l1.length cS1) l1, .row w1.heap.size w2.heap.size (.slice AS0 l0.length cS0) l0, .box w.heap.size 24 #[I n0, .slice A0 l0.length c0]]) := ⟨Mem.cons (it := .row w8.heap.size w9.heap.size (.slice Ax2 l2.length cx2) l2) (hR9) (HM8.out.grew hG9)⟩
  have HG9 := Aside0.mk (Grew.trans HG8.out hG9)
  have hs9 := hG9.size
  clear hG9 
  have bx0_0 : w9.cell? ⟨w6.heap.size, 0, none⟩ = some (I n0) := blk_cell HM9.out.tail.tail.head 0
  have bx0_1 : w9.cell? ⟨w6.heap.size, 1, none⟩ = some (.slice Ax0 l0.length cx0) := blk_cell HM9.out.tail.tail.head 1
  go_wp2_with fail
  clear bx0_0 bx0_1
  refine (HI.out w9 Ax0 cx0 Ax1 cx1 Ax2 cx2 (Row.slice HM9.out.tail.tail.tail.head).2.2 (Row.slice HM9.out.tail.tail.tail.head).2.1 (Row.slice HM9.out.tail.head).2.2 (Row.slice HM9.out.tail.head).2.1 (Row.slice HM9.out.head).2.2 (Row.slice HM9.out.head).2.1).mono ?_
  rintro e w10 ⟨rfl, hG10⟩
  have HM10 := Aside0.mk (HM9.out.grew hG10)
  have HG10 := Aside0.mk (Grew.trans HG9.out hG10)
  have hs10 := hG10.size
  clear hG10
  go_wp2_with fail
  have bx0_0 : w10.cell? ⟨w6.heap.size, 0, none⟩ = some (I n0) := blk_cell HM10.out.tail.tail.head 0
  have bx0_1 : w10.cell? ⟨w6.heap.size, 1, none⟩ = some (.slice Ax0 l0.length cx0) := blk_cell HM10.out.tail.tail.head 1
  have p0_0 : w10.cell? ⟨w.heap.size, 0, none⟩ = some (I n0) := blk_cell HM10.out.tail.tail.tail.tail.tail.tail.tail.head 0
  have p0_1 : w10.cell? ⟨w.heap.size, 1, none⟩ = some (.slice A0 l0.length c0) := blk_cell HM10.out.tail.tail.tail.tail.tail.tail.tail.head 1
  have hlx : w6.heap.size < w10.heap.size := World.block_lt_of_cell? w10 _ bx0_0
  have hlp : w.heap.size < w10.heap.size := World.block_lt_of_cell? w10 _ p0_0
  go_region_held3 (fun w' => w'.cell? ⟨w6.heap.size, 0, none⟩ = some (I n0) ∧ w'.cell? ⟨w6.heap.size, 1, none⟩ = some (.slice Ax0 l0.length cx0) ∧ w'.cell? ⟨w.heap.size, 0, none⟩ = some (I n0) ∧ w'.cell? ⟨w.heap.size, 1, none⟩ = some (.slice A0 l0.length c0))
   (first | exact ⟨(HDb.out.cell (p := ⟨w6.heap.size, 0, none⟩) hlx).trans bx0_0, (HDb.out.cell (p := ⟨w6.heap.size, 1, none⟩) hlx).trans bx0_1, (HDb.out.cell (p := ⟨w.heap.size, 0, none⟩) hlp).trans p0_0, (HDb.out.cell (p := ⟨w.heap.size, 1, none⟩) hlp).trans p0_1⟩ | exact ⟨(HDa.out.cell (p := ⟨w6.heap.size, 0, none⟩) hlx).trans bx0_0, (HDa.out.cell (p := ⟨w6.heap.size, 1, none⟩) hlx).trans bx0_1, (HDa.out.cell (p := ⟨w.heap.size, 0, none⟩) hlp).trans p0_0, (HDa.out.cell (p := ⟨w.heap.size, 1, none⟩) hlp).trans p0_1⟩ | go_keep)
   (first
    | (go_at_call 9; refine (toC_calls n0 A0 c0 l0 _ (Kd.C_below HR0.out (Below.trans HG10.out ((Below.refl _ w10).drew))) HC0.out (by omega)).mono ?_; rintro e w11 ⟨Aq0, cq0, rfl, hRa, hGa⟩; have HDa : Aside0 (Grew w10 w11) := ⟨Below.trans ((Below.refl _ w10).drew) hGa⟩; have HRa := Aside0.mk hRa; clear hRa hGa)
    | (go_at_call 12; refine (eqC_calls n0 l0 Ax0 Aq0 cx0 cq0 _ _ _ _ _ _ w11 (HM10.out.grew HDa.out).tail.tail.tail.head HRa.out).mono ?_; rintro e w12 ⟨rfl, hGb⟩; have HDb : Aside0 (Grew w10 w12) := ⟨Grew.trans HDa.out hGb⟩; clear hGb))
  clear bx0_0 bx0_1 p0_0 p0_1
  have hG12 := HDb.out
  clear hlx hlp HDa HDb HRa
  have HM12 := Aside0.mk (HM10.out.grew hG12)
  have HG12 := Aside0.mk (Grew.trans HG10.out hG12)
  have hs12 := hG12.size
  clear hG12
  go_wp2_with fail
  refine (toI_calls A1 c1 l1 w12 (Kd.C_below HR1.out HG12.out) HC1.out (by omega)).mono ?_
  rintro e w13 ⟨Ay1, cy1, rfl, hR13, hG13⟩
  have HM13 : Aside0 (Mem w13 [.row w12.heap.size w13.heap.size (.slice Ay1 l1.length cy1) l1, .row w8.heap.size w9.heap.size (.slice Ax2 l2.length cx2) l2, .row W7.heap.size w8.heap.size (.slice Ax1 l1.length cx1) l1, .box w6.heap.size 26 #[I n0, .slice Ax0 l0.length cx0], .row w5.heap.size w6.heap.size (.slice Ax0 l0.length cx0) l0, .row w3.heap.size w4.heap.size (.slice AS2 l2.length cS2) l2, .row w2.heap.size w3.heap.size (.slice AS1 l1.length cS1) l1, .row w1.heap.size w2.heap.size (.slice AS0 l0.length cS0) l0, .box w.heap.size 24 #[I n0, .slice A0 l0.length c0]]) := ⟨Mem.cons (it := .row w12.heap.size w13.heap.size (.slice Ay1 l1.length cy1) l1) (hR13) (HM12.out.grew hG13)⟩
  have HG13 := Aside0.mk (Grew.trans HG12.out hG13)
  have hs13 := hG13.size
  clear hG13 
  go_wp2_with fail
  refine (eqI_calls l1 Ax1 Ay1 cx1 cy1 _ _ _ _ _ _ w13 HM13.out.tail.tail.head HM13.out.head).mono ?_
  rintro e w14 ⟨rfl, hG14⟩
  have HM14 := Aside0.mk (HM13.out.grew hG14)
  have HG14 := Aside0.mk (Grew.trans HG13.out hG14)
  have hs14 := hG14.size
  clear hG14
  go_wp2_with fail
  refine (toI_calls A2 c2 l2 w14 (Kd.C_below HR2.out HG14.out) HC2.out (by omega)).mono ?_
  rintro e w15 ⟨Ay2, cy2, rfl, hR15, hG15⟩
  have HM15 : Aside0 (Mem w15 [.row w14.heap.size w15.heap.size (.slice Ay2 l2.length cy2) l2, .row w12.heap.size w13.heap.size (.slice Ay1 l1.length cy1) l1, .row w8.heap.size w9.heap.size (.slice Ax2 l2.length cx2) l2, .row W7.heap.size w8.heap.size (.slice Ax1 l1.length cx1) l1, .box w6.heap.size 26 #[I n0, .slice Ax0 l0.length cx0], .row w5.heap.size w6.heap.size (.slice Ax0 l0.length cx0) l0, .row w3.heap.size w4.heap.size (.slice AS2 l2.length cS2) l2, .row w2.heap.size w3.heap.size (.slice AS1 l1.length cS1) l1, .row w1.heap.size w2.heap.size (.slice AS0 l0.length cS0) l0, .box w.heap.size 24 #[I n0, .slice A0 l0.length c0]]) := ⟨Mem.cons (it := .row w14.heap.size w15.heap.size (.slice Ay2 l2.length cy2) l2) (hR15) (HM14.out.grew hG15)⟩
  have HG15 := Aside0.mk (Grew.trans HG14.out hG15)
  have hs15 := hG15.size
  clear hG15 
  go_wp2_with fail
  refine (eqI_calls l2 Ax2 Ay2 cx2 cy2 _ _ _ _ _ _ w15 HM15.out.tail.tail.head HM15.out.head).mono ?_
  rintro e w16 ⟨rfl, hG16⟩
  have HM16 := Aside0.mk (HM15.out.grew hG16)
  have HG16 := Aside0.mk (Grew.trans HG15.out hG16)
  have hs16 := hG16.size
  clear hG16
  go_wp2_with fail
  go_ret
  exact ⟨rfl, HG16.out⟩

theorem LAreHomologous_calls (n0 : Int) (A0 : Option Addr) (c0 : Nat) (l0 : List Int) (A1 : Option Addr) (c1 : Nat) (l1 : List Int) (A2 : Option Addr) (c2 : Nat) (l2 : List Int) (w : World) (hr0 : Ki.C w A0 l0.length l0) (hc0 : l0.length ≤ c0) (hr1 : Ki.C w A1 l1.length l1) (hc1 : l1.length ≤ c1) (hr2 : Ki.C w A2 l2.length l2) (hc2 : l2.length ≤ c2) :
  Calls Try.prog 6 #[.agg #[I n0, .slice A0 l0.length c0], .slice A1 l1.length c1, .slice A2 l2.length c2] w fun e w' => e = .returned (.bool true) ∧ Grew w w' := by
 by_cases hn1 : (1048576 : Int) < (l1.length : Int)
 ·exact LAreHomologous_i0 n0 A0 c0 l0 A1 c1 l1 A2 c2 l2 w hr0 hc0 hr1 hc1 hr2 hc2  hn1
 by_cases hn2 : (1048576 : Int) < (l2.length : Int)
 ·exact LAreHomologous_i1 n0 A0 c0 l0 A1 c1 l1 A2 c2 l2 w hr0 hc0 hr1 hc1 hr2 hc2 hn1 hn2
 by_cases hl0 : (1048576 : Int) < (l0.length : Int)
 ·exact LAreHomologous_b0 n0 A0 c0 l0 A1 c1 l1 A2 c2 l2 w hr0 hc0 hr1 hc1 hr2 hc2 hn1 hn2  hl0
 exact LAreHomologous_main n0 A0 c0 l0 A1 c1 l1 A2 c2 l2 w hr0 hc0 hr1 hc1 hr2 hc2 hn1 hn2 hl0

end Go.Proofs.Ytjoggjgmpoaaiaa.K
end

section

namespace Go.Proofs.Ytjoggjgmpoaaiaa.fnExactAreHomologous
open Go.ChangeShapes Go.WideShapes Go.ChangeAt Go.RowKit Go.Joins Go.Proofs.Ytjoggjgmpoaaiaa.K Go.Proofs.YtjoggjgmpoaaiaaW.PrintWords
open Go.ChangeMaps (open_string shut_string)
set_option linter.unusedVariables false
set_option maxRecDepth 100000 in
theorem lifted (os : Os) (started : os.Started) (H : Type) (enc : TypeId × Value → H) :
    ReturnsInHanded {} Try.checked os 6 .any (Rows.fnExactAreHomologousSpec.pre6 enc Try.prog Try.f6 Rows.fnExactAreHomologousRow.domain false) (Rows.fnExactAreHomologousSpec.post enc Try.prog Try.f6 false true false false) := by
  refine returnsInHanded_of_change_sized (C := Try.checked) ownKnob_none started (by kernel_rfl) Try.func6
    (ChangeSpec.witness6 (enc := enc) (C := Try.checked) false ⟨#[], #[.agg #[.int .i64 0, .slice none 0 0], .slice none 0 0, .slice none 0 0], []⟩ 8 (by kernel_rfl) (by kernel_rfl) (by kernel_rfl) (by kernel_rfl)) ?_
  intro W base args ds gs before hval0 hW hcnd hsz0 _
  have hsz : (DataW.weightsEach Try.prog (Try.f6.params.toList ++ Rows.fnExactAreHomologousSpec.plain.varTypes Try.prog) (ds ++ gs)).all (· ≤ reachBytes) = true := hsz0
  have hval : ∀ (j : Nat) t v, Try.f6.params[j]? = some t → args[j]? = some v → Value.okWide Try.prog W .any base t v := hval0
  have hW' := hW
  obtain ⟨p, q, hA0, hV, rfl, hfz, hnd⟩ := hW
  have hA : DataW.TrodAll enc Try.prog W 0 (fun _ => true) true Try.f6.params.toList args.toList ds p := hA0
  rw [Try.params6] at hA hval hsz
  obtain ⟨v0, vs0, d0, ds0, p0, q0, hargs, rfl, rfl, h0, r0⟩ := trodAll_cons hA
  obtain ⟨v1, vs1, d1, ds1, p1, q1, rfl, rfl, rfl, h1, r1⟩ := trodAll_cons r0
  obtain ⟨v2, vs2, d2, ds2, p2, q2, rfl, rfl, rfl, h2, r2⟩ := trodAll_cons r1
  obtain ⟨rfl, rfl, rfl⟩ := trodAll_nil r2
  obtain rfl : args = #[v0, v1, v2] := by cases args; simp_all
  obtain ⟨rfl, rfl⟩ := trodVars_none hV
  have k0 := h0
  have lt0 : ∀ x ∈ p0, x.block < W.heap.size := by obtain ⟨m, hm⟩ := k0; exact DataW.trod_lt m _ _ _ hm
  obtain ⟨x0, z0, y0_0, y1_0, m0, hv0, hd0, hp0, hy0_0, hy1_0⟩ := open_agg2 Try.underlying24 (by kernel_rfl) (show Try.prog.cellsOf 24 = 2 by kernel_rfl) (hval 0 24 v0 rfl rfl) h0
  obtain ⟨n0, e0_0, _, w0⟩ := DataW.trod_int Try.underlying2 hy0_0
  obtain ⟨A0, c0, l0, e1_0, hc0, hr0, _⟩ := ints_open hy1_0
  simp only [List.cons.injEq, and_true] at e0_0
  subst e0_0 e1_0
  subst hv0
  have k1 := h1
  have lt1 : ∀ x ∈ p1, x.block < W.heap.size := by obtain ⟨m, hm⟩ := k1; exact DataW.trod_lt m _ _ _ hm
  obtain ⟨a1, len1, cap1, hv1⟩ := okWide_slice Try.underlying22 (hval 1 22 v1 rfl rfl)
  obtain ⟨A1, c1, l1, e1, hc1, hr1, _⟩ : ∃ A c l, v1 = .slice A l.length c ∧ l.length ≤ c ∧ Ki.C W A l.length l ∧ ∀ n ∈ l, (Lit.int .i64 n).wf = true := by
    obtain ⟨fuel, hf⟩ := h1
    subst hv1
    exact ints_open hf
  subst e1
  have k2 := h2
  have lt2 : ∀ x ∈ p2, x.block < W.heap.size := by obtain ⟨m, hm⟩ := k2; exact DataW.trod_lt m _ _ _ hm
  obtain ⟨a2, len2, cap2, hv2⟩ := okWide_slice Try.underlying22 (hval 2 22 v2 rfl rfl)
  obtain ⟨A2, c2, l2, e2, hc2, hr2, _⟩ : ∃ A c l, v2 = .slice A l.length c ∧ l.length ≤ c ∧ Ki.C W A l.length l ∧ ∀ n ∈ l, (Lit.int .i64 n).wf = true := by
    obtain ⟨fuel, hf⟩ := h2
    subst hv2
    exact ints_open hf
  subst e2
  clear hA0 hval0 hsz0 hsz
  refine (K.LAreHomologous_calls n0 A0 c0 l0 A1 c1 l1 A2 c2 l2 W hr0 hc0 hr1 hc1 hr2 hc2).mono fun e W' ⟨he, bel0⟩ => ?_
  have bel : Below W.heap.size W W' := bel0
  subst he
  exact ⟨_, rfl, _, _, _, [], _, [], hW', trodAll_mk1 (shut_bool Try.underlying4 _), (trodAll_cons_mk (Below.trod laidOut (by kernel_rfl) (of_decide_eq_true (by kernel_rfl)) k0 bel lt0) (trodAll_cons_mk (Below.trod laidOut (by kernel_rfl) (of_decide_eq_true (by kernel_rfl)) k1 bel lt1) (trodAll_cons_mk (Below.trod laidOut (by kernel_rfl) (of_decide_eq_true (by kernel_rfl)) k2 bel lt2) trodAll_mk0))), rfl, bel.frame _, fun h => by cases h⟩
set_option maxRecDepth 100000 in
theorem starts : ∃ r, behindMainWord (wordsSigns Try.prog.initOrder.toList) = "cut".toList :: r := by
  have h : Try.prog.initOrder = String.ofList _ := rfl
  rw [h, String.toList_ofList, signs_take 7 _ rfl rfl, signs_take 64 _ rfl rfl, signs_take 3 _ rfl rfl]
  generalize wordsSigns _ = r
  exact ⟨r, by kernel_rfl⟩
set_option maxRecDepth 100000 in
theorem closed : joinedFacts Try.prog 6 Try.f6 Rows.fnExactAreHomologousSpec Rows.fnExactAreHomologousRow = true := by
  obtain ⟨r, h⟩ := starts
  unfold joinedFacts
  rw [cut_enter _ r h (by kernel_rfl) (by kernel_rfl) (by kernel_rfl), cut_make _ r h, cut_lifts _ r h]
  exact of_decide_eq_true (by kernel_rfl)
theorem over : Rows.fnExactAreHomologousRow.holds Try.pinned (OpenSpec.ofChange Rows.fnExactAreHomologousSpec) :=
  OpenClaim.holds_of_wide 6 Try.f6 rfl rfl rfl rfl rfl rfl rfl ⟨rfl, rfl, rfl, rfl, rfl⟩ rfl rfl rfl rfl rfl (by kernel_rfl) Try.func6 closed
    (of_decide_eq_true (by kernel_rfl)) (by unfold Func.isWrapper; first | (rw [if_pos (by decide +kernel)]; kernel_rfl) | (rw [if_neg (by decide +kernel)]; exact ⟨rfl, rfl⟩))
    (fun os started H enc _ => lifted os started H enc)
theorem proved : Rows.FnExactAreHomologousSaid := over
#print axioms proved
end Go.Proofs.Ytjoggjgmpoaaiaa.fnExactAreHomologous
namespace Go.Proofs.Ytjoggjgmpoaaiaa
theorem fnExactAreHomologous_holds : Rows.FnExactAreHomologousSaid := fnExactAreHomologous.proved
end Go.Proofs.Ytjoggjgmpoaaiaa
end
