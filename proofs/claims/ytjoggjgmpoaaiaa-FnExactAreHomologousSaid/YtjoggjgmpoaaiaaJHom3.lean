/- Texts of this work, put together by its pack.py. No conditions. -/
import Derived.Test.YtjoggjgmpoaaiaaJHom2
import Derived.Below
import Derived.Deep.Draws
import Derived.Deep.AppendLies
import Derived.Maps.AppendAt
import Derived.OwnWalk
import Derived.Laws.BytesArg
import Derived.Laws.MakeOwn
import Derived.Laws.OwnMore
import Derived.Deep.OwnRows
import Derived.Tactics
import Derived.Lib.ConvBytes
import Derived.Laws.Slices
import Derived.WalkKit
import Derived.KernelRfl
import Derived.RowKit3
import Derived.Deep.LoopGhost
import Derived.Deep.QuietTactic
import Derived.BigQuiet
import Derived.WideLaws
import Derived.Deep.DeepCutAuto
import Derived.Deep.CutBlock
import Derived.Deep.RegionHeld3
import Derived.Laws.Rows
import Derived.Lib.AppendStr
import Derived.ArgAppend
import Derived.Laws.IdiomCopy
import Derived.RowKit
import Derived.OrdersHeld
import Derived.Laws.BitsLemmas
import Derived.Test.YtjoggjgmpoaaiaaProg
import Derived.Shelf.Abstract
import Derived.RangeFuncBox
import Derived.RangeFuncLeaves
import Derived.OwnWalkIn
import Derived.TacticsInMore
import Derived.LoopNIn
import Derived.LoopIn
import Derived.Laws.StructEq
import Derived.Test.YtjoggjgmpoaaiaaChecked
import Derived.Shelf.SlSortCmp.NoneTotal
import Derived.Lib.SortBridge
import Derived.Lib.Small
section
/- Chains as numbers of 64 bits: chainOf and reduced, plain. -/
namespace Go.Proofs.Ytjoggjgmpoaaiaa.K
open Go.RowKit Go.Shelf Go.Proofs.Ytjoggjgmpoaaiaa.Q Go.Proofs.YtjoggjgmpoaaiaaW.PrintWords Go.Proofs.YtjoggjgmpoaaiaaW.PrintLast Go.Proofs.YtjoggjgmpoaaiaaW.PrintMore
set_option linter.unusedVariables false
set_option linter.unusedSimpArgs false

theorem wrap_u64s (n : Int) (h0 : 0 ≤ n) (h1 : n < 2 ^ 64) : IntKind.u64.wrap n = n := by
  simp [IntKind.wrap, IntKind.bits, IntKind.signed]
  omega
theorem xor_lt64 {a b : Nat} (ha : a < 2 ^ 64) (hb : b < 2 ^ 64) : a ^^^ b < 2 ^ 64 := Nat.xor_lt_two_pow ha hb
theorem xor_u64 (a b : Nat) (ha : a < 2 ^ 64) (hb : b < 2 ^ 64) : Go.bits .xor .u64 (a : Int) (b : Int) = ((a ^^^ b : Nat) : Int) := by
  have ha' : a % 2 ^ IntKind.u64.bits = a := Nat.mod_eq_of_lt ha
  have hb' : b % 2 ^ IntKind.u64.bits = b := Nat.mod_eq_of_lt hb
  simp only [Go.bits, BitVec.ofInt_natCast, BitVec.toNat_xor, BitVec.toNat_ofNat, ha', hb']
  refine wrap_u64s _ (Int.natCast_nonneg _) ?_
  have h := xor_lt64 ha hb
  exact_mod_cast h
theorem shl_u64 (f : Int) (h0 : 0 ≤ f) (h1 : f ≤ 63) : shl .u64 1 f = ((2 ^ f.toNat : Nat) : Int) ∧ 2 ^ f.toNat < 2 ^ 64 := by
  have hp : 2 ^ f.toNat < 2 ^ 64 := Nat.pow_lt_pow_right (by decide) (by omega)
  refine ⟨?_, hp⟩
  unfold shl
  rw [Int.one_mul, Nat.min_eq_left (show f.toNat ≤ IntKind.u64.bits by show f.toNat ≤ 64; omega)]
  have e : ((2 : Int) ^ f.toNat) = ((2 ^ f.toNat : Nat) : Int) := by simp
  rw [e]
  refine wrap_u64s _ (Int.natCast_nonneg _) ?_
  have h3 : ((2 ^ f.toNat : Nat) : Int) < ((2 ^ 64 : Nat) : Int) := Int.ofNat_lt.2 hp
  exact h3
theorem chS_lt {c : Nat} (hc : c < 2 ^ 64) {g : Int} (h0 : 0 ≤ g) (h1 : g ≤ 63) : chS c g < 2 ^ 64 := xor_lt64 hc (shl_u64 g h0 h1).2
theorem chN_lt (xs : List Int) (h : ∀ x ∈ xs, 0 ≤ x ∧ x ≤ 63) : ∀ c, c < 2 ^ 64 → xs.foldl chS c < 2 ^ 64 := by
  induction xs with
  | nil => exact fun c hc => hc
  | cons x r ih => exact fun c hc => ih (fun y hy => h y (List.mem_cons_of_mem _ hy)) _ (chS_lt hc (h x List.mem_cons_self).1 (h x List.mem_cons_self).2)
theorem chainOf_l0 (xs : List Int) (hl : xs.length ≤ 1000000000) (h : ∀ x ∈ xs, 0 ≤ x ∧ x ≤ 63) : ∀ (m i k c : Nat), i + m = xs.length → m < k → c < 2 ^ 64 →
    impl_chainOf.l0 k (c : Int) xs (xs.length : Int) (i : Int) = some (((xs.drop i).foldl chS c : Nat) : Int) := by
  intro m
  induction m with
  | zero =>
    intro i k c him hk hc
    obtain ⟨k, rfl⟩ : ∃ q, k = q + 1 := ⟨k - 1, by omega⟩
    simp only [impl_chainOf.l0]
    rw [if_neg (by omega), List.drop_eq_nil_of_le (by omega)]
    rfl
  | succ m ih =>
    intro i k c him hk hc
    obtain ⟨k, rfl⟩ : ∃ q, k = q + 1 := ⟨k - 1, by omega⟩
    have hil : i < xs.length := by omega
    have hx := h _ (List.getElem_mem hil)
    have hs := shl_u64 xs[i] hx.1 hx.2
    simp only [impl_chainOf.l0]
    rw [if_pos (by omega), if_pos (by omega), if_pos (by omega), rd_nat xs i hil, if_pos (by omega), hs.1, xor_u64 c _ hc hs.2, w64 ((i : Int) + 1) (by omega) (by omega), nat_succ]
    rw [ih (i + 1) k _ (by omega) (by omega) (xor_lt64 hc hs.2), List.drop_eq_getElem_cons hil, List.foldl_cons]
    rfl
theorem chainOf_is (xs : List Int) (hl : xs.length ≤ 1000000000) (h : ∀ x ∈ xs, 0 ≤ x ∧ x ≤ 63) : impl_chainOf.f (xs.length + 1) xs = some (chN xs : Int) := by
  unfold impl_chainOf.f
  have := chainOf_l0 xs hl h xs.length 0 (xs.length + 1) 0 (by omega) (by omega) (by decide)
  exact this
/-- Chains as they lie in memory. -/
def chI (L : List Nat) : List Int := L.map (fun (a : Nat) => (a : Int))
theorem reduced_l0 (L : List Nat) (hl : L.length ≤ 1000000000) (h : ∀ o ∈ L, o < 2 ^ 64) : ∀ (m i k c : Nat), i + m = L.length → m < k → c < 2 ^ 64 →
    impl_reduced.l0 k (c : Int) (chI L) ((chI L).length : Int) (i : Int) = some (((L.drop i).foldl redS c : Nat) : Int) ∧ (L.drop i).foldl redS c < 2 ^ 64 := by
  have hcl : (chI L).length = L.length := by simp [chI]
  intro m
  induction m with
  | zero =>
    intro i k c him hk hc
    obtain ⟨k, rfl⟩ : ∃ q, k = q + 1 := ⟨k - 1, by omega⟩
    simp only [impl_reduced.l0]
    rw [if_neg (by omega), List.drop_eq_nil_of_le (by omega)]
    exact ⟨rfl, hc⟩
  | succ m ih =>
    intro i k c him hk hc
    obtain ⟨k, rfl⟩ : ∃ q, k = q + 1 := ⟨k - 1, by omega⟩
    have hil : i < L.length := by omega
    have hx := h _ (List.getElem_mem hil)
    have hrd : rd (chI L) (i : Int) = ((L[i] : Nat) : Int) := by rw [rd_nat (chI L) i (by omega)]; simp [chI]
    have hr : redS c L[i] < 2 ^ 64 := by unfold redS; have := xor_lt64 hc hx; omega
    have hmn : mn (c : Int) ((c ^^^ L[i] : Nat) : Int) = ((redS c L[i] : Nat) : Int) := by
      unfold mn redS
      split <;> omega
    simp only [impl_reduced.l0]
    rw [if_pos (by omega), if_pos (by omega), if_pos (by omega), hrd, xor_u64 c _ hc hx, hmn, w64 ((i : Int) + 1) (by omega) (by omega), nat_succ]
    rw [List.drop_eq_getElem_cons hil, List.foldl_cons]
    exact ih (i + 1) k _ (by omega) (by omega) hr
theorem reduced_is (L : List Nat) (hl : L.length ≤ 1000000000) (h : ∀ o ∈ L, o < 2 ^ 64) (c : Nat) (hc : c < 2 ^ 64) : impl_reduced.f (L.length + 1) (c : Int) (chI L) = some (redN c L : Int) ∧ redN c L < 2 ^ 64 := by
  unfold impl_reduced.f
  exact reduced_l0 L hl h L.length 0 (L.length + 1) c (by omega) (by omega) hc

end Go.Proofs.Ytjoggjgmpoaaiaa.K
end

section
/- The program's bounding chains: bounding, bounds. -/
namespace Go.Proofs.Ytjoggjgmpoaaiaa.K
open Go.RowKit Go.Shelf Go.Proofs.Ytjoggjgmpoaaiaa.Q Go.Proofs.YtjoggjgmpoaaiaaW.PrintWords Go.Proofs.YtjoggjgmpoaaiaaW.PrintLast Go.Proofs.YtjoggjgmpoaaiaaW.PrintMore
set_option linter.unusedVariables false
set_option linter.unusedSimpArgs false

theorem ins_perm (c : Nat) : ∀ L, (insD c L).Perm (c :: L)
  | [] => List.Perm.refl _
  | x :: L => by
    simp only [insD]
    split
    · exact ((ins_perm c L).cons x).trans (List.Perm.swap c x L)
    · exact List.Perm.refl _
theorem ins_length (c : Nat) (L : List Nat) : (insD c L).length = L.length + 1 := by rw [(ins_perm c L).length_eq]; rfl
theorem ins_sorted (c : Nat) : ∀ L : List Nat, L.Pairwise (fun a b => b ≤ a) → (insD c L).Pairwise (fun a b => b ≤ a)
  | [], _ => by simp [insD]
  | x :: L, h => by
    rw [List.pairwise_cons] at h
    simp only [insD]
    split
    · rename_i hc
      rw [List.pairwise_cons]
      refine ⟨fun y hy => ?_, ins_sorted c L h.2⟩
      rcases (mem_ins c y L).1 hy with rfl | hy
      · omega
      · exact h.1 y hy
    · rename_i hc
      rw [List.pairwise_cons]
      refine ⟨fun y hy => ?_, List.pairwise_cons.2 h⟩
      rcases List.mem_cons.1 hy with rfl | hy
      · omega
      · have := h.1 y hy; omega
theorem desc_sorted {L : List Nat} (h : Desc L) : L.Pairwise (fun a b => b ≤ a) := h.1.imp (fun ⟨s, t, h1, h2, h3⟩ => Nat.le_of_lt (top_lt h1 h2 h3))
theorem sort_ins (c : Nat) (L : List Nat) (h : L.Pairwise (fun a b => b ≤ a)) : (chI L ++ [(c : Int)]).mergeSort (fun x y => decide (y ≤ x)) = chI (insD c L) := by
  have tr : ∀ a b d : Int, decide (b ≤ a) = true → decide (d ≤ b) = true → decide (d ≤ a) = true := fun a b d h1 h2 => by simp at *; omega
  have tot : ∀ a b : Int, (decide (b ≤ a) || decide (a ≤ b)) = true := fun a b => by simp; omega
  refine List.Perm.eq_of_pairwise (le := fun a b : Int => decide (b ≤ a) = true) (fun a b _ _ h1 h2 => ?_) (List.pairwise_mergeSort tr tot _) ?_ ?_
  · simp at h1 h2; omega
  · unfold chI
    rw [List.pairwise_map]
    exact (ins_sorted c L h).imp (fun h => by simp; omega)
  · refine (List.mergeSort_perm _ _).trans ?_
    have h1 : (chI L ++ [(c : Int)]).Perm (chI (c :: L)) := by
      show (chI L ++ [(c : Int)]).Perm ([(c : Int)] ++ chI L)
      exact List.perm_append_comm
    exact h1.trans ((ins_perm c L).map _).symm
theorem bnd_small (y : Int) (h0 : 0 ≤ y) (h1 : y ≤ 63) : chN (bords y) < 2 ^ 64 := chN_lt _ (fun x hx => by have := (bords_dim y h0 h1 x hx).2; omega) 0 (by decide)
theorem infoU : (Try.prog.info? 58).map (fun i => (i.zero, i.size, i.bytes)) = some (some (.int .u64 0), 1, 8) := by kernel_rfl
section
variable {ops : Array Oper} {o : Oper} {rest : List Oper} {a : Act} {Q : Exit → Act → World → Prop}
theorem append_u {W : World} (base : Nat) (hgd : o.guard = none) (s x : Operand)
    (ho : o.op = .call { callee := .builtin .append, args := #[s, x], argTypes := #[85, 85] })
    (v : Value) (xs : List Int) (p : Int) (hs : a.eval s = v) (hx : a.eval x = .slice (some ⟨W.heap.size, 0, none⟩) 1 1)
    (HO : Ku.R 58 W base (fun _ => True) v xs) (hbase : base ≤ W.heap.size) (hl : xs.length ≤ 1000000000000)
    (h : ∀ A c w1, Ku.R 58 w1 base (fun _ => True) (.slice A (xs.length + 1) c) (xs ++ [p]) → Below base W w1 → wpList Try.prog ops Q rest (a.put o.dst (.slice A (xs.length + 1) c)) w1) :
    wpList Try.prog ops Q (o :: rest) a (W.alloc (.cells #[.int .u64 p] 58)) := by
  refine Kd.R_append Ku (w0 := W) base hgd s x 85 58 (.int .u64 0) 8 ho Try.underlying85 infoU rfl (by decide) (by omega) v xs p [.int .u64 p] (fun _ => True) (fun _ => False) hs hx rfl (fun _ hk => hk.elim) (fun _ _ => trivial) HO (Below.refl _ _) hbase (by omega) ?_
  intro v1 w1 hR hB hg _
  obtain ⟨A, c, e⟩ := Kd.R_slice hR
  rw [List.length_append] at e
  subst e
  exact h A c w1 hR hB
end

set_option maxRecDepth 100000 in
set_option maxHeartbeats 1000000 in
theorem bounding_calls (n : Int) (A : Option Addr) (c : Nat) (l : List Int) (w : World) (hk : Kx w A c l) (hi : isC n l = true) :
    Calls Try.prog 74 #[.agg #[I n, .slice A l.length c]] w fun e w' => ∃ v, e = .returned v ∧ Ku.R 58 w' w.heap.size (fun _ => True) v (chI (bndL l)) ∧ (bndL l).length ≤ 63 ∧ (∀ o ∈ bndL l, o < 2 ^ 64) ∧ Grew w w' := by
  have hf := isC_faces hi
  have hl := hf.2.2.2
  have HF := Aside0.mk (isC_of hi)
  have hB : CB (w.alloc (.cells #[I n, .slice A l.length c] 26)) w.heap.size n (.slice A l.length c) := blk_new w _
  have HG : Aside0 (Grew w (w.alloc (.cells #[I n, .slice A l.length c] 26))) := ⟨below_alloc (Grew.refl w) _⟩
  have HK := Aside0.mk hk
  have k0 := hB.c0
  have k1 := hB.c1
  clear hk hB hf hi
  go_enter Try.func74, Try.ntmps74
  go_wp2_with fail
  go_loopg [3, 10] l.length (fun gg s3 s10 wr => ∃ (kk : Nat) (A3 : Option Addr) (c3 : Nat) (L : List Nat), kk ≤ l.length ∧ l.length - kk ≤ gg ∧ s3 = .slice A3 (chI L).length c3 ∧ s10 = .int .i64 kk ∧ L.length ≤ kk ∧ Aside0 ((l.take kk).foldl bndS [] = L) ∧ Aside0 (Desc L ∧ ∀ o ∈ L, o < 2 ^ 64) ∧ Aside0 (Ku.R 58 wr w.heap.size (fun _ => True) (.slice A3 (chI L).length c3) (chI L)) ∧ Aside0 (Grew w wr))
  case atStart => exact ⟨0, none, 0, [], Nat.zero_le _, by omega, rfl, rfl, Nat.le_refl _, ⟨rfl⟩, ⟨⟨List.Pairwise.nil, fun o ho => by cases ho⟩, fun o ho => by cases ho⟩, ⟨Kd.R_nil _ _ _ _ _⟩, HG⟩
  case round =>
    clear HG k0 k1
    obtain ⟨kk, A3, c3, L, hkk, hg, rfl, rfl, hLk, HL, HD, HR, HGr⟩ := hrel
    by_cases hlt : kk < l.length
    · have hltz : (kk : Int) < (l.length : Int) := by omega
      obtain ⟨ad, e0, hx⟩ := Kd.at_int (HK.out.later HGr.out).r (kk : Int) (by omega) (by omega)
      cases e0
      have hy := HF.out _ (List.getElem_mem hlt)
      rw [rd_nat l kk hlt, Int.toNat_natCast] at hx
      have HN : Aside0 ((l.take (kk + 1)).foldl bndS [] = bndS L l[kk]) := ⟨by rw [List.take_succ_eq_append_getElem hlt, List.foldl_append, HL.out]; rfl⟩
      have HDn := Aside0.mk (bndS_facts L HD.out.1 l[kk]).1
      generalize l[kk] = y at hx hy HN HDn
      have hcy := bnd_small y hy.1 hy.2
      have hrd := reduced_is L (by omega) HD.out.2 (chN (bords y)) hcy
      have HC := Aside0.mk (chainOf_is (bords y) (by have := bords_length y; omega) (fun x hx => by have := (bords_dim y hy.1 hy.2 x hx).2; omega))
      have H1 := Aside0.mk (borders_calls y wr)
      have HCL : Aside0 ((chI L).length = L.length) := ⟨by simp [chI]⟩
      have hs0 := HGr.out.size
      unfold bndS at HN HDn
      generalize chN (bords y) = q at hrd HC hcy HN HDn
      generalize redN q L = r at hrd HN HDn
      have HRD := Aside0.mk hrd
      have HBL := Aside0.mk (bords_length y)
      clear hrd HL
      go_wp2_with fail
      refine H1.out.mono ?_
      rintro e w1 ⟨vb, rfl, hRb, hG1⟩
      obtain ⟨Ab, cb, eb, hcb, hrb⟩ := Kd.R_reads hRb
      subst eb
      have H2 := Aside0.mk (impl_chainOf.calls _ Ab cb (bords y) _ w1 hrb hcb HC.out)
      have HR1 := Aside0.mk (Kd.R_below HR.out hG1)
      have HG1 := Aside0.mk (Grew.trans HGr.out hG1)
      clear hRb hG1 hrb hcb H1 HR HGr
      go_wp2_with fail
      refine H2.out.mono ?_
      rintro e w2 ⟨rfl, hd2⟩
      have hG2 : Grew w1 w2 := hd2.below
      have HR2 := Aside0.mk (Kd.R_below HR1.out hG2)
      have HG2 := Aside0.mk (Grew.trans HG1.out hG2)
      obtain ⟨_, hc3, hr3⟩ := Kd.R_reads' HR2.out
      have H3 := Aside0.mk (impl_reduced.calls _ _ A3 c3 (chI L) _ w2 hr3 hc3 HRD.out.1)
      clear hd2 hG2 HR1 HG1 H2 hr3 hc3
      go_wp2_with fail
      refine H3.out.mono ?_
      rintro e w3 ⟨rfl, hG3⟩
      have HR3 := Aside0.mk (Kd.R_below HR2.out hG3)
      have HG3 := Aside0.mk (Grew.trans HG2.out hG3)
      have hs3 := HG3.out.size
      clear hG3 HR2 HG2 H3
      by_cases hz : r = 0
      · have hzz : (r : Int) = 0 := by omega
        rw [if_pos hz] at HN HDn
        have HZ := Aside0.mk hz
        clear hz
        go_wp2_with fail
        go_roundg (l.length - (kk + 1))
        case measure => omega
        case rel => exact ⟨kk + 1, A3, c3, L, by omega, by omega, rfl, by go_num, by omega, HN, HD, HR3, HG3⟩
      · have hzz : ¬ (r : Int) = 0 := by omega
        rw [if_neg hz] at HN HDn
        have HZ := Aside0.mk hz
        have HSI := Aside0.mk (sort_ins r L (desc_sorted HD.out.1))
        clear hz
        go_wp2_with (at_builtin; refine append_u w.heap.size rfl (.tmp 21) (.tmp 23) rfl _ (chI L) (r : Int) rfl rfl HR3.out hs3 (by rw [HCL.out]; omega) ?_; intro A9 c9 w9 hR9 hB9; have HR9 := Aside0.mk hR9; have HG9 : Aside0 (Grew w w9) := ⟨Below.trans HG3.out hB9⟩; clear hR9 hB9)
        obtain ⟨g9, c9', e9, _⟩ := Kd.R_form HR9.out (by simp)
        injection e9 with e1 e2 e3
        subst e1 e3
        have hl9 : (chI L ++ [(r : Int)]).length = (chI L).length + 1 := by simp
        have HR9' : Aside0 (Ku.R 58 w9 w.heap.size (fun _ => True) (.slice (some ⟨g9, 0, none⟩) (chI L ++ [(r : Int)]).length c9) (chI L ++ [(r : Int)])) := ⟨by rw [hl9]; exact HR9.out⟩
        have h4 := SortC_calls (chI L ++ [(r : Int)]) w9 HR9'.out (by rw [hl9, HCL.out]; omega)
        rw [hl9, HSI.out] at h4
        have H4 := Aside0.mk h4
        have HLL : Aside0 ((chI (insD r L)).length = (chI L).length + 1) := ⟨by simp [chI, ins_length]⟩
        have HIL : Aside0 ((insD r L).length ≤ kk + 1) := ⟨by rw [ins_length]; omega⟩
        have hs9 := HG9.out.size
        clear hl9 h4 HR9 HR9' e2
        refine H4.out.mono ?_
        rintro e w4 ⟨rfl, hR4, hB4⟩
        have HR4 : Aside0 (Ku.R 58 w4 w.heap.size (fun _ => True) (.slice (some ⟨g9, 0, none⟩) (chI (insD r L)).length c9) (chI (insD r L))) := ⟨by rw [HLL.out]; exact hR4⟩
        have HG4 : Aside0 (Grew w w4) := ⟨Below.trans HG9.out hB4⟩
        have HDD : Aside0 (Desc (insD r L) ∧ ∀ o ∈ insD r L, o < 2 ^ 64) := ⟨HDn.out, fun o ho => by
          rcases (mem_ins r o L).1 ho with rfl | h
          · exact HRD.out.2
          · exact HD.out.2 o h⟩
        clear hR4 hB4 H4
        go_wp2_with fail
        go_roundg (l.length - (kk + 1))
        case measure => omega
        case rel => exact ⟨kk + 1, _, c9, insD r L, by omega, by omega, by rw [HLL.out], by go_num, HIL.out, HN, HDD, HR4, HG4⟩
    · obtain rfl : kk = l.length := by omega
      rw [List.take_length] at HL
      have hltz : ¬ (l.length : Int) < (l.length : Int) := by omega
      have HBL : Aside0 (bndL l = L) := HL
      go_wp2_with fail
      go_ret
      exact ⟨_, rfl, by rw [HBL.out]; exact HR.out, by rw [HBL.out]; omega, by rw [HBL.out]; exact HD.out.2, HGr.out⟩

set_option maxHeartbeats 2000000 in
theorem bounds_calls (n : Int) (A : Option Addr) (c : Nat) (l : List Int) (q : Nat) (hq : q < 2 ^ 64) (w : World) (hk : Kx w A c l) (hi : isC n l = true) :
    Calls Try.prog 42 #[.agg #[I n, .slice A l.length c], .int .u64 (q : Int)] w fun e w' => e = .returned (.bool (bndB l q)) ∧ Grew w w' := by
  have hB : CB (w.alloc (.cells #[I n, .slice A l.length c] 26)) w.heap.size n (.slice A l.length c) := blk_new w _
  have HG : Aside0 (Grew w (w.alloc (.cells #[I n, .slice A l.length c] 26))) := ⟨below_alloc (Grew.refl w) _⟩
  have H1 := Aside0.mk (bounding_calls n A c l _ (hk.later HG.out) hi)
  have k0 := hB.c0
  have k1 := hB.c1
  have HV : Aside0 (bndB l q = decide (redN q (bndL l) = 0)) := ⟨rfl⟩
  generalize bndL l = L at H1 HV
  have HQ := Aside0.mk hq
  clear hk hi hB hq
  go_enter Try.func42, Try.ntmps42
  go_wp2_with fail
  refine H1.out.mono ?_
  rintro e w1 ⟨v, rfl, hR, hl, hsm, hG1⟩
  obtain ⟨A3, c3, e3, hc3, hr3⟩ := Kd.R_reads hR
  subst e3
  obtain ⟨h1, _⟩ := reduced_is L (by omega) hsm q HQ.out
  have H2 := Aside0.mk (impl_reduced.calls _ _ A3 c3 (chI L) _ w1 hr3 hc3 h1)
  have HG1 := Aside0.mk (Grew.trans HG.out hG1)
  generalize redN q L = r at H2 HV
  clear hR hl hsm hG1 hc3 hr3 h1 k0 k1
  go_wp2_with fail
  refine H2.out.mono ?_
  rintro e w2 ⟨rfl, hG2⟩
  by_cases hz : r = 0
  · subst hz
    go_wp2_with fail
    go_ret
    exact ⟨by rw [HV.out]; rfl, Grew.trans HG1.out hG2⟩
  · have hzz : ¬ (r : Int) = 0 := by omega
    go_wp2_with fail
    go_ret
    exact ⟨by rw [HV.out]; simp [hz], Grew.trans HG1.out hG2⟩

end Go.Proofs.Ytjoggjgmpoaaiaa.K
end

section
/- A complex has a face just where the face is in its list; sizes. -/
namespace Go.Proofs.Ytjoggjgmpoaaiaa.K
open Go.RowKit Go.Shelf Go.Proofs.Ytjoggjgmpoaaiaa.Q Go.Proofs.YtjoggjgmpoaaiaaW.PrintWords Go.Proofs.YtjoggjgmpoaaiaaW.PrintLast Go.Proofs.YtjoggjgmpoaaiaaW.PrintMore
set_option linter.unusedVariables false
set_option linter.unusedSimpArgs false

theorem has_mem {l : List Int} {n : Int} (hi : isC n l = true) {f : Int} (h : hasB l f = true) : f ∈ l ∧ 1 ≤ f ∧ f ≤ 63 := by
  obtain ⟨hn, hs, hr, h63⟩ := isC_faces hi
  have h2 : f ∈ l := by
    rw [has_asc l f (by omega) hs] at h
    exact of_decide_eq_true h
  have := hr f h2
  exact ⟨h2, by omega, by omega⟩
theorem size_64 : ∀ m : Fin 64, impl_size.f (m.val : Int) = some (onesI (m.val : Int)) := by decide +kernel
theorem size_is (f : Int) (h0 : 0 ≤ f) (h1 : f ≤ 63) : impl_size.f f = some (onesI f) := by
  obtain ⟨m, rfl⟩ := Int.eq_ofNat_of_zero_le h0
  exact size_64 ⟨m, by omega⟩

end Go.Proofs.Ytjoggjgmpoaaiaa.K
end

section
/- Written by a program of this session (myprint.py over the kit's print). -/
namespace Go.Proofs.Ytjoggjgmpoaaiaa.Q
open Go.RowKit Go.Proofs.YtjoggjgmpoaaiaaW.PrintWords Go.Proofs.YtjoggjgmpoaaiaaW.PrintLast Go.Proofs.YtjoggjgmpoaaiaaW.PrintMore
attribute [local go_sem] max2_int min2_int max_two min_two max_three min_three max_four min_four   -- for this text's walks alone
set_option linter.unusedVariables false
set_option linter.unusedSimpArgs false

/-! ### impl_Complex_isChain: function 72 -/
def impl_Complex_isChain.l0 : Nat → List Int → List Int → Int → Int → Int → List Int → Option (Bool)
 | 0, _, _, _, _, _, _ => none
 | k + 1, x1, x7, x8, x9, x363000, x363001 => if x9 < x8 then (if 0 ≤ x9 then (if x9 < (x7.length : Int) then ((impl_Complex_has.f k x363000 x363001 (rd x7 x9)).bind fun t364 => (if t364 = true then ((impl_size.f (rd x7 x9)).bind fun t365 => (if 0 < (x1.length : Int) then ((impl_size.f (rd x1 0)).bind fun t367 => (if t365 = t367 then (if x9 > 0 then (if 0 ≤ (wrap64 (x9 - 1)) then (if (wrap64 (x9 - 1)) < (x1.length : Int) then (if (rd x7 x9) ≤ (rd x1 (wrap64 (x9 - 1))) then (some false) else (impl_Complex_isChain.l0 k x1 x7 x8 (wrap64 (x9 + 1)) x363000 x363001)) else (none)) else (none)) else (impl_Complex_isChain.l0 k x1 x7 x8 (wrap64 (x9 + 1)) x363000 x363001)) else (some false))) else (none))) else (some false))) else (none)) else (none)) else (some true)
def impl_Complex_isChain.f (k : Nat) (a0_0 : Int) (l0_1 : List Int) (l1 : List Int) : Option (Bool) := impl_Complex_isChain.l0 k l1 l1 (l1.length : Int) 0 a0_0 l0_1
theorem impl_Complex_isChain.mono_l : ∀ k, (∀ y0 y1 y2 y3 y4 y5, LeO (impl_Complex_isChain.l0 k y0 y1 y2 y3 y4 y5) (impl_Complex_isChain.l0 (k + 1) y0 y1 y2 y3 y4 y5))
 | 0 => fun _ _ _ _ _ _ r h => by simp [impl_Complex_isChain.l0] at h
 | k + 1 => by
  have ih0 := impl_Complex_isChain.mono_l k
  ·intro y0 y1 y2 y3 y4 y5
   unfold impl_Complex_isChain.l0
   repeat' first
   | (with_reducible exact ih0 _ _ _ _ _ _)
   | (with_reducible exact impl_Complex_has.mono _ _ _ _)
   | (with_reducible exact LeO.refl _)
   | (with_reducible exact LeO.none _)
   | (with_reducible refine LeO.ite ?_ ?_)
   | (with_reducible refine LeO.bind ?_ (fun _ => ?_))
   | exact ih0 _ _ _ _ _ _
   | exact impl_Complex_has.mono _ _ _ _
   | exact LeO.none _
   | refine LeO.ite ?_ ?_
   | refine LeO.bind ?_ (fun _ => ?_)
theorem impl_Complex_isChain.mono : ∀ a0 a1 a2 k, LeO (impl_Complex_isChain.f k a0 a1 a2) (impl_Complex_isChain.f (k + 1) a0 a1 a2) := by
 intro a0 a1 a2 k
 have ih0 := impl_Complex_isChain.mono_l k
 unfold impl_Complex_isChain.f
 repeat' first
   | (with_reducible exact ih0 _ _ _ _ _ _)
   | (with_reducible exact impl_Complex_has.mono _ _ _ _)
   | (with_reducible exact LeO.refl _)
   | (with_reducible exact LeO.none _)
   | (with_reducible refine LeO.ite ?_ ?_)
   | (with_reducible refine LeO.bind ?_ (fun _ => ?_))
   | exact ih0 _ _ _ _ _ _
   | exact impl_Complex_has.mono _ _ _ _
   | exact LeO.none _
   | refine LeO.ite ?_ ?_
   | refine LeO.bind ?_ (fun _ => ?_)
def impl_Complex_isChain.T4 : Bool × List (List Nat × List Nat) := (true, [([], []), ([], []), ([0, 1], [0, 1]), ([2], [2]), ([3, 2], [3]), ([4], [4]), ([5, 4, 4], [4, 5]), ([4], [4]), ([7, 4], [4, 7]), ([8, 4], [4, 8]), ([9, 6, 4], [4, 9]), ([6, 10, 4], [4, 6, 10]), ([4, 11], [4, 11]), ([12, 10], [12]), ([13], [13]), ([14, 13], [13, 14]), ([15, 13, 13], [13, 15]), ([16], [16]), ([16], [16]), ([16], [16]), ([19, 16], [16, 19]), ([18, 20, 16], [16, 18, 20]), ([21, 16], [16, 21]), ([17, 22, 16], [16, 17, 22]), ([16, 23, 13], [13, 16, 23]), ([13, 24], [13, 24])])
def impl_Complex_isChain.B4 : List Nat := [0, 0, 3, 7, 15, 31, 63, 31, 159, 415, 1023, 2047, 4095, 8191, 16383, 32767, 65535, 131071, 131071, 131071, 655359, 1966079, 4063231, 8388607, 16777215, 33554431]
theorem impl_Complex_isChain.tab4 : rtab .any (opsOf Try.f72 4) = impl_Complex_isChain.T4 := by kernel_rfl
theorem impl_Complex_isChain.bits4 : waitsOk impl_Complex_isChain.T4.2 impl_Complex_isChain.B4 = true := by kernel_rfl
set_option maxHeartbeats 8000000 in
set_option maxRecDepth 100000 in
theorem impl_Complex_isChain.calls (k : Nat) (a0_0 : Int) (A0_1 : Option Addr) (c0_1 : Nat) (l0_1 : List Int) (A1 : Option Addr) (c1 : Nat) (l1 : List Int) (r : Bool) (w : World) (hr0_1 : Kd.C (Kd.int .i64) w A0_1 l0_1.length l0_1) (hc0_1 : l0_1.length ≤ c0_1) (hr1 : Kd.C (Kd.int .i64) w A1 l1.length l1) (hc1 : l1.length ≤ c1) (h : impl_Complex_isChain.f k a0_0 l0_1 l1 = some r) :
  Calls Try.prog 72 #[.agg #[.int .i64 a0_0, .slice A0_1 l0_1.length c0_1], .slice A1 l1.length c1] w fun e w' => e = .returned (.bool r) ∧ Below w.heap.size w w' := by
 have hu26 := Try.underlying26
 have HR0_1 := Aside0.mk hr0_1
 have HC0_1 := Aside0.mk hc0_1
 clear hr0_1 hc0_1
 have HR1 := Aside0.mk hr1
 have HC1 := Aside0.mk hc1
 clear hr1 hc1
 have HB := Aside0.mk (Below.refl w.heap.size w)
 have H : (impl_Complex_isChain.l0 k l1 l1 (l1.length : Int) 0 a0_0 l0_1) = some r := h
 clear h
 have H' := Aside0.mk H
 clear H
 go_enter Try.func72, Try.ntmps72
 go_wp2_with (first | ((with_reducible refine gate_dst (N := 2) rfl ?_); refine box_event ?hg (N := 2) ?hd (cs := #[.int .i64 a0_0, .slice A0_1 l0_1.length c0_1]) (t := 26) ?hr ?_; (case hd => rfl); (case hg => rfl); (case hr => first | (go_simp; done) | (go_simp; rfl)); intro gb362 hg w3 hbox hb; have n0_ := Aside0.mk (below_step (by repeat (first | (with_reducible first | exact HB.out | apply below_alloc | apply pw_below_drewN | apply below_drew1) | exact HB.out)) hb); have n1_ := Aside0.mk (hbox); have n2_ := Aside0.mk ((by rw [hg]; exact (below_size (by repeat (first | (with_reducible first | exact HB.out | apply below_alloc | apply pw_below_drewN | apply below_drew1) | exact HB.out))) : w.heap.size ≤ gb362)); have n3_ := Aside0.mk ((by rw [hg]; exact (below_size (by repeat (first | (with_reducible first | exact HB.out | apply below_alloc | apply pw_below_drewN | apply below_drew1) | exact HB.out))) : w.heap.size ≤ gb362)); clear HB; have HB := n0_; have BK362 := n1_; have GW362 := n2_; have GE362 := n3_; clear n0_ n1_ n2_ n3_; clear hb hbox hg))
 go_loopg [9] k (fun kq v9 w' => ∃ (x9_1 : Int), v9 = .int .i64 x9_1 ∧ Aside0 (impl_Complex_isChain.l0 kq l1 l1 (l1.length : Int) x9_1 a0_0 l0_1 = some r) ∧ Aside0 (kq ≤ k) ∧ Aside0 (w'.heap[gb362]? = some (.cells #[.int .i64 a0_0, (.slice A0_1 l0_1.length c0_1)] 26 (0, 0))) ∧ Aside0 (Below w.heap.size w w'))
 case atStart => exact ⟨(0), (by first | rfl | (simp; done) | (simp [*]; done)), H', ⟨Nat.le_refl _⟩, ⟨by (with_reducible repeat (first | refine blk_drewN ?_ _ | refine blk_drew ?_ | refine blk_alloc ?_ _)); exact BK362.out⟩, ⟨by repeat (first | (with_reducible first | exact HB.out | apply below_alloc | apply pw_below_drewN | apply below_drew1 | refine below_set ?_ GE362.out) | exact HB.out)⟩⟩
 case round =>
  clear H'
  try clear c1
  try clear p2
  obtain ⟨x9_1, rfl, HA, HK1, BK362, HB⟩ := hrel
  cases gk with
  | zero => exact absurd HA.out (by simp [impl_Complex_isChain.l0])
  | succ k1 =>
   have H := HA.out
   clear HA
   simp only [impl_Complex_isChain.l0] at H
   by_cases c4 : x9_1 < (l1.length : Int)
   ·rw [if_pos c4] at H
    have c4b0 : decide (x9_1 < (l1.length : Int)) = true := decide_eq_true c4
    clear c4
    by_cases c5 : 0 ≤ x9_1
    ·rw [if_pos c5] at H
     have c5b0 : decide (0 ≤ x9_1) = true := decide_eq_true c5
     clear c5
     by_cases c6 : x9_1 < (l1.length : Int)
     ·rw [if_pos c6] at H
      have c6b0 : decide (x9_1 < (l1.length : Int)) = true := decide_eq_true c6
      clear c6
      replace H := Option.bind_eq_some_iff.mp H
      obtain ⟨t364, A70, H⟩ := H
      replace H : (if t364 = true then ((impl_size.f (rd l1 x9_1)).bind fun t365 => (if 0 < (l1.length : Int) then ((impl_size.f (rd l1 0)).bind fun t367 => (if t365 = t367 then (if x9_1 > 0 then (if 0 ≤ (wrap64 (x9_1 - 1)) then (if (wrap64 (x9_1 - 1)) < (l1.length : Int) then (if (rd l1 x9_1) ≤ (rd l1 (wrap64 (x9_1 - 1))) then (some false) else (impl_Complex_isChain.l0 k1 l1 l1 (l1.length : Int) (wrap64 (x9_1 + 1)) a0_0 l0_1)) else (none)) else (none)) else (impl_Complex_isChain.l0 k1 l1 l1 (l1.length : Int) (wrap64 (x9_1 + 1)) a0_0 l0_1)) else (some false))) else (none))) else (some false)) = some r := H
      have A7 := Aside0.mk A70
      clear A70
      by_cases c8 : t364 = true
      ·subst c8
       have H1 : ((impl_size.f (rd l1 x9_1)).bind fun t365 => (if 0 < (l1.length : Int) then ((impl_size.f (rd l1 0)).bind fun t367 => (if t365 = t367 then (if x9_1 > 0 then (if 0 ≤ (wrap64 (x9_1 - 1)) then (if (wrap64 (x9_1 - 1)) < (l1.length : Int) then (if (rd l1 x9_1) ≤ (rd l1 (wrap64 (x9_1 - 1))) then (some false) else (impl_Complex_isChain.l0 k1 l1 l1 (l1.length : Int) (wrap64 (x9_1 + 1)) a0_0 l0_1)) else (none)) else (none)) else (impl_Complex_isChain.l0 k1 l1 l1 (l1.length : Int) (wrap64 (x9_1 + 1)) a0_0 l0_1)) else (some false))) else (none))) = some r := by rw [if_pos rfl] at H; exact H
       clear H
       have H := H1
       clear H1
       replace H := Option.bind_eq_some_iff.mp H
       obtain ⟨t365, A90, H⟩ := H
       replace H : (if 0 < (l1.length : Int) then ((impl_size.f (rd l1 0)).bind fun t367 => (if t365 = t367 then (if x9_1 > 0 then (if 0 ≤ (wrap64 (x9_1 - 1)) then (if (wrap64 (x9_1 - 1)) < (l1.length : Int) then (if (rd l1 x9_1) ≤ (rd l1 (wrap64 (x9_1 - 1))) then (some false) else (impl_Complex_isChain.l0 k1 l1 l1 (l1.length : Int) (wrap64 (x9_1 + 1)) a0_0 l0_1)) else (none)) else (none)) else (impl_Complex_isChain.l0 k1 l1 l1 (l1.length : Int) (wrap64 (x9_1 + 1)) a0_0 l0_1)) else (some false))) else (none)) = some r := H
       have A9 := Aside0.mk A90
       clear A90
       by_cases c10 : 0 < (l1.length : Int)
       ·rw [if_pos c10] at H
        have c10b0 : decide (0 < (l1.length : Int)) = true := decide_eq_true c10
        have c10b1 : decide (0 < l1.length) = true := decide_eq_true (by omega)
        clear c10
        replace H := Option.bind_eq_some_iff.mp H
        obtain ⟨t367, A110, H⟩ := H
        replace H : (if t365 = t367 then (if x9_1 > 0 then (if 0 ≤ (wrap64 (x9_1 - 1)) then (if (wrap64 (x9_1 - 1)) < (l1.length : Int) then (if (rd l1 x9_1) ≤ (rd l1 (wrap64 (x9_1 - 1))) then (some false) else (impl_Complex_isChain.l0 k1 l1 l1 (l1.length : Int) (wrap64 (x9_1 + 1)) a0_0 l0_1)) else (none)) else (none)) else (impl_Complex_isChain.l0 k1 l1 l1 (l1.length : Int) (wrap64 (x9_1 + 1)) a0_0 l0_1)) else (some false)) = some r := H
        have A11 := Aside0.mk A110
        clear A110
        by_cases c12 : t365 = t367
        ·rw [if_pos c12] at H
         have c12b0 : (t365 == t367) = true := beq_iff_eq.mpr c12
         have c12b1 : (t365 != t367) = false := bne_eq_false_iff_eq.mpr c12
         clear c12
         by_cases c13 : x9_1 > 0
         ·rw [if_pos c13] at H
          have c13b0 : decide (0 < x9_1) = true := decide_eq_true c13
          clear c13
          obtain ⟨ji14, hji14⟩ : ∃ j_ : Int, (wrap64 (x9_1 - 1)) = j_ := ⟨_, rfl⟩
          replace H : (if 0 ≤ (ji14) then (if (ji14) < (l1.length : Int) then (if (rd l1 x9_1) ≤ (rd l1 (ji14)) then (some false) else (impl_Complex_isChain.l0 k1 l1 l1 (l1.length : Int) (wrap64 (x9_1 + 1)) a0_0 l0_1)) else (none)) else (none)) = some r := by first | (rw [hji14] at H; exact H) | (simp only [hji14] at H ⊢; exact H)
          (try rw [hji14] at A7)
          (try rw [hji14] at A9)
          (try rw [hji14] at A11)
          have hji14w : (IntKind.i64.wrap (x9_1 - 1)) = ji14 := (i64_w _).trans hji14
          by_cases c15 : 0 ≤ (ji14)
          ·rw [if_pos c15] at H
           have c15b0 : decide (0 ≤ (ji14)) = true := decide_eq_true c15
           clear c15
           by_cases c16 : (ji14) < (l1.length : Int)
           ·rw [if_pos c16] at H
            have c16b0 : decide ((ji14) < (l1.length : Int)) = true := decide_eq_true c16
            clear c16
            by_cases c17 : (rd l1 x9_1) ≤ (rd l1 (ji14))
            ·rw [if_pos c17] at H
             have c17b0 : decide ((rd l1 x9_1) ≤ (rd l1 (ji14))) = true := decide_eq_true c17
             clear c17
             obtain rfl := Option.some.inj H
             have p363 : 0 ≤ (x9_1 : Int) := of_decide_eq_true (by first | (with_reducible assumption) | assumption)
             have q363 : x9_1 < (l1.length : Int) := of_decide_eq_true (by first | (with_reducible assumption) | assumption)
             obtain ⟨ad363, e363, hx363_0⟩ := Kd.at_int HR1.out x9_1 p363 q363
             cases e363
             replace hx363_0 := (HB.out.cell (World.block_lt_of_cell? w _ hx363_0)).trans hx363_0
             replace p363 := eq_true p363
             replace q363 := eq_true q363
             try go_wp2
             have n0_ := Aside0.mk (blk_drew BK362.out)
             have n1_ := Aside0.mk (below_drew1 HB.out)
             clear BK362
             clear HB
             have BK362 := n0_
             have HB := n1_
             clear n0_ n1_
             have p366 : 0 ≤ (0 : Int) := (by omega)
             have q366 : 0 < (l1.length : Int) := of_decide_eq_true (by first | (with_reducible assumption) | assumption)
             obtain ⟨ad366, e366, hx366_0⟩ := Kd.at_int HR1.out 0 p366 q366
             have hw366_0 := hx366_0
             (try rw [show ((0 : Int)).toNat = 0 from rfl] at hw366_0)
             (try rw [show 0 * 1 = 0 from rfl] at hw366_0)
             (try rw [Addr.add_zero'] at hw366_0)
             obtain rfl : ad363 = ad366 := (by injection e366)
             have qi366 : (0 < l1.length) = True := eq_true (by omega)
             (try rw [show ((0 : Int)).toNat = 0 from rfl] at hx366_0)
             (try rw [Addr.add_zero'] at hx366_0)
             replace hx366_0 := (HB.out.cell (World.block_lt_of_cell? w _ hx366_0)).trans hx366_0
             replace p366 := eq_true p366
             replace q366 := eq_true q366
             have p368 : 0 ≤ ((ji14) : Int) := of_decide_eq_true (by first | (with_reducible assumption) | assumption)
             have q368 : (ji14) < (l1.length : Int) := of_decide_eq_true (by first | (with_reducible assumption) | assumption)
             obtain ⟨ad368, e368, hx368_0⟩ := Kd.at_int HR1.out (ji14) p368 q368
             have hw368_0 := hx368_0
             obtain rfl : ad363 = ad368 := (by injection e368)
             replace hx368_0 := (HB.out.cell (World.block_lt_of_cell? w _ hx368_0)).trans hx368_0
             replace p368 := eq_true p368
             replace q368 := eq_true q368
             refine start_ (n := 26) (S := fun w' => w'.cell? ⟨gb362, 0, none⟩ = some (.int .i64 a0_0) ∧ w'.cell? ⟨gb362, 1, none⟩ = some (.slice A0_1 l0_1.length c0_1) ∧ w'.cell? ad363 = some (.int .i64 (rd l1 0)) ∧ w'.cell? (ad363.add ((ji14)).toNat) = some (.int .i64 (rd l1 (ji14)))) (ds := []) #[O,O,O,O,O,O,O,O,O,O,O,O,O,O,O,O,O,O,O,O,O,O,O,O,O,O] (by kernel_rfl) rfl rfl ⟨(blk_cell BK362.out 0).trans rfl, (blk_cell BK362.out 1).trans rfl, ((HB.out.cell (World.block_lt_of_cell? w _ hw366_0)).trans hw366_0), ((HB.out.cell (World.block_lt_of_cell? w _ hw368_0)).trans hw368_0)⟩ (fun hHeld => ?_); refine with_tabW impl_Complex_isChain.tab4 impl_Complex_isChain.bits4 (fun HT_ HW_ => ?_)
             generalize wr.drew = w18 at BK362 HB hx366_0 hx368_0 hHeld ⊢
             refine pure_ (i := 1) (N := some 15) (v := ?_) (a' := ?_) #[O,U,O,O,O,O,O,O,O,O,O,O,O,O,O,O,O,O,O,O,O,O,O,O,O,O] rfl rfl (any_of HT_.out (by kernel_rfl)) (fun _ _ _ h => h) (Or.inl ⟨by rfl, ?_⟩) ?_ ?_
             rotate_left; · intro w'; go_simp; with_reducible rfl
             rotate_left; · simp only [nm_]; rfl
             refine take_ (i := 0) (N := some 14) (v := ?_) (a' := ?_) #[U,U,O,O,O,O,O,O,O,O,O,O,O,O,O,O,O,O,O,O,O,O,O,O,O,O] rfl rfl (take_ofW HT_.out HW_.out (by kernel_rfl)) (fun _ _ _ h => h) (Or.inl ⟨by rfl, ?_⟩) hHeld ?_ ?_
             rotate_left; · rintro w' ⟨s0, s1, s2, s3⟩; go_simp; with_reducible rfl
             rotate_left; · simp only [nm_]; rfl
             refine one_ (i := 2) (N := some 16) #[U,U,U,O,O,O,O,O,O,O,O,O,O,O,O,O,O,O,O,O,O,O,O,O,O,O] rfl rfl (one_of HT_.out (by kernel_rfl)) (by decide) (fun K hK => ?_)
             refine goes_ Try.func38 (by kernel_rfl) rfl #[.agg #[.int .i64 a0_0, .slice A0_1 l0_1.length c0_1], .int .i64 (rd l1 x9_1)] (by rfl) rfl rfl (by (try simp only [List.map_toArray, List.map_cons, List.map_nil]); first | done | rfl | (simp only [List.length_drop, List.length_take]; rfl)) ?_
             with_reducible refine (impl_Complex_has.calls k1 a0_0 _ _ l0_1 (rd l1 x9_1) true _ ?side1 ?side2 A7.out).mono ?_
             (case side1 => repeat (first | exact (Kd.C_below HR0_1.out HB.out) | (with_reducible refine Kd.C_alloc ?_ _) | (with_reducible refine Kd.C_drewN ?_ _) | (with_reducible refine Kd.C_drew ?_)))
             (case side2 => exact HC0_1.out)
             rintro e w19 ⟨rfl, hb⟩
             refine ⟨_, rfl, ?_⟩
             have n0_ := Aside0.mk (blk_below (g := gb362) (o := .cells #[.int .i64 a0_0, .slice A0_1 l0_1.length c0_1] 26 (0, 0)) (by (with_reducible repeat (first | refine blk_drewN ?_ _ | refine blk_drew ?_ | refine blk_alloc ?_ _)); exact BK362.out) hb)
             have n1_ := Aside0.mk (below_step (by repeat (first | (with_reducible first | exact HB.out | apply below_alloc | apply pw_below_drewN | apply below_drew1 | refine below_set ?_ GE362.out) | exact HB.out)) hb)
             clear BK362
             clear HB
             have BK362 := n0_
             have HB := n1_
             clear n0_ n1_
             (try clear hb)
             (try clear hb2)
             (try clear hk)
             (try clear hi)
             refine hK.out _ _ ⟨(blk_cell BK362.out 0).trans rfl, (blk_cell BK362.out 1).trans rfl, ((HB.out.cell (World.block_lt_of_cell? w _ hw366_0)).trans hw366_0), ((HB.out.cell (World.block_lt_of_cell? w _ hw368_0)).trans hw368_0)⟩ (fun hHeld => ?_)
             clear hK K
             refine norm_ (a' := ?_) ?_ ?_
             rotate_left
             ·show Act.put _ (some 16) _ = _
              simp only [nm_]
              rfl
             refine pure_ (i := 3) (N := some 17) (v := ?_) (a' := ?_) #[U,U,U,U,O,O,O,O,O,O,O,O,O,O,O,O,O,O,O,O,O,O,O,O,O,O] rfl rfl (any_of HT_.out (by kernel_rfl)) (fun _ _ _ h => h) (Or.inl ⟨by rfl, ?_⟩) ?_ ?_
             rotate_left; · intro w'; go_simp; with_reducible rfl
             rotate_left; · simp only [nm_]; rfl
             refine pure_ (i := 4) (N := some 18) (v := ?_) (a' := ?_) #[U,U,U,U,U,O,O,O,O,O,O,O,O,O,O,O,O,O,O,O,O,O,O,O,O,O] rfl rfl (any_of HT_.out (by kernel_rfl)) (fun _ _ _ h => h) (Or.inl ⟨by rfl, ?_⟩) ?_ ?_
             rotate_left; · intro w'; go_simp; with_reducible rfl
             rotate_left; · simp only [nm_]; rfl
             refine pure_ (i := 5) (N := some 19) (v := ?_) (a' := ?_) #[U,U,U,U,U,U,O,O,O,O,O,O,O,O,O,O,O,O,O,O,O,O,O,O,O,O] rfl rfl (any_of HT_.out (by kernel_rfl)) (fun _ _ _ h => h) (Or.inl ⟨by rfl, ?_⟩) ?_ ?_
             rotate_left; · intro w'; go_simp; with_reducible rfl
             rotate_left; · simp only [nm_]; rfl
             refine pure_ (i := 7) (N := some 21) (v := ?_) (a' := ?_) #[U,U,U,U,U,U,O,U,O,O,O,O,O,O,O,O,O,O,O,O,O,O,O,O,O,O] rfl rfl (any_of HT_.out (by kernel_rfl)) (fun _ _ _ h => h) (Or.inl ⟨by rfl, ?_⟩) ?_ ?_
             rotate_left; · intro w'; go_simp; with_reducible rfl
             rotate_left; · simp only [nm_]; rfl
             refine pure_ (i := 8) (N := some 22) (v := ?_) (a' := ?_) #[U,U,U,U,U,U,O,U,U,O,O,O,O,O,O,O,O,O,O,O,O,O,O,O,O,O] rfl rfl (any_of HT_.out (by kernel_rfl)) (fun _ _ _ h => h) (Or.inl ⟨by rfl, ?_⟩) ?_ ?_
             rotate_left; · intro w'; go_simp; with_reducible rfl
             rotate_left; · simp only [nm_]; rfl
             refine take_ (i := 9) (N := some 23) (v := ?_) (a' := ?_) #[U,U,U,U,U,U,O,U,U,U,O,O,O,O,O,O,O,O,O,O,O,O,O,O,O,O] rfl rfl (take_ofW HT_.out HW_.out (by kernel_rfl)) (fun _ _ _ h => h) (Or.inl ⟨by rfl, ?_⟩) hHeld ?_ ?_
             rotate_left; · rintro w' ⟨s0, s1, s2, s3⟩; go_simp; with_reducible rfl
             rotate_left; · simp only [nm_]; rfl
             refine one_ (i := 6) (N := some 20) #[U,U,U,U,U,U,U,U,U,U,O,O,O,O,O,O,O,O,O,O,O,O,O,O,O,O] rfl rfl (one_of HT_.out (by kernel_rfl)) (by decide) (fun K hK => ?_)
             refine goes_ Try.func46 (by kernel_rfl) rfl #[.int .i64 (rd l1 x9_1)] (by rfl) rfl rfl (by (try simp only [List.map_toArray, List.map_cons, List.map_nil]); first | done | rfl | (simp only [List.length_drop, List.length_take]; rfl)) ?_
             with_reducible refine (impl_size.calls (rd l1 x9_1) t365 _ A9.out).mono ?_
             rintro e w' ⟨rfl, ⟨nd, rfl⟩⟩
             refine ⟨_, rfl, ?_⟩
             refine hK.out _ _ ⟨(blk_cell BK362.out 0).trans rfl, (blk_cell BK362.out 1).trans rfl, ((HB.out.cell (World.block_lt_of_cell? w _ hw366_0)).trans hw366_0), ((HB.out.cell (World.block_lt_of_cell? w _ hw368_0)).trans hw368_0)⟩ (fun hHeld => ?_)
             clear hK K
             refine norm_ (a' := ?_) ?_ ?_
             rotate_left
             ·show Act.put _ (some 20) _ = _
              simp only [nm_]
              rfl
             refine one_ (i := 10) (N := some 24) #[U,U,U,U,U,U,U,U,U,U,U,O,O,O,O,O,O,O,O,O,O,O,O,O,O,O] rfl rfl (one_of HT_.out (by kernel_rfl)) (by decide) (fun K hK => ?_)
             refine goes_ Try.func46 (by kernel_rfl) rfl #[.int .i64 (rd l1 0)] (by rfl) rfl rfl (by (try simp only [List.map_toArray, List.map_cons, List.map_nil]); first | done | rfl | (simp only [List.length_drop, List.length_take]; rfl)) ?_
             with_reducible refine (impl_size.calls (rd l1 0) t367 _ A11.out).mono ?_
             rintro e w' ⟨rfl, ⟨nd, rfl⟩⟩
             refine ⟨_, rfl, ?_⟩
             refine hK.out _ _ ⟨(blk_cell BK362.out 0).trans rfl, (blk_cell BK362.out 1).trans rfl, ((HB.out.cell (World.block_lt_of_cell? w _ hw366_0)).trans hw366_0), ((HB.out.cell (World.block_lt_of_cell? w _ hw368_0)).trans hw368_0)⟩ (fun hHeld => ?_)
             clear hK K
             refine norm_ (a' := ?_) ?_ ?_
             rotate_left
             ·show Act.put _ (some 24) _ = _
              simp only [nm_]
              rfl
             refine pure_ (i := 11) (N := some 25) (v := ?_) (a' := ?_) #[U,U,U,U,U,U,U,U,U,U,U,U,O,O,O,O,O,O,O,O,O,O,O,O,O,O] rfl rfl (any_of HT_.out (by kernel_rfl)) (fun _ _ _ h => h) (Or.inl ⟨by rfl, ?_⟩) ?_ ?_
             rotate_left; · intro w'; go_simp; with_reducible rfl
             rotate_left; · simp only [nm_]; rfl
             refine pure_ (i := 12) (N := some 26) (v := ?_) (a' := ?_) #[U,U,U,U,U,U,U,U,U,U,U,U,U,O,O,O,O,O,O,O,O,O,O,O,O,O] rfl rfl (any_of HT_.out (by kernel_rfl)) (fun _ _ _ h => h) (Or.inl ⟨by rfl, ?_⟩) ?_ ?_
             rotate_left; · intro w'; go_simp; with_reducible rfl
             rotate_left; · simp only [nm_]; rfl
             refine pure_ (i := 13) (N := some 27) (v := ?_) (a' := ?_) #[U,U,U,U,U,U,U,U,U,U,U,U,U,U,O,O,O,O,O,O,O,O,O,O,O,O] rfl rfl (any_of HT_.out (by kernel_rfl)) (fun _ _ _ h => h) (Or.inl ⟨by rfl, ?_⟩) ?_ ?_
             rotate_left; · intro w'; go_simp; with_reducible rfl
             rotate_left; · simp only [nm_]; rfl
             refine pure_ (i := 14) (N := some 28) (v := ?_) (a' := ?_) #[U,U,U,U,U,U,U,U,U,U,U,U,U,U,U,O,O,O,O,O,O,O,O,O,O,O] rfl rfl (any_of HT_.out (by kernel_rfl)) (fun _ _ _ h => h) (Or.inl ⟨by rfl, ?_⟩) ?_ ?_
             rotate_left; · intro w'; go_simp; with_reducible rfl
             rotate_left; · simp only [nm_]; rfl
             refine pure_ (i := 15) (N := some 29) (v := ?_) (a' := ?_) #[U,U,U,U,U,U,U,U,U,U,U,U,U,U,U,U,O,O,O,O,O,O,O,O,O,O] rfl rfl (any_of HT_.out (by kernel_rfl)) (fun _ _ _ h => h) (Or.inl ⟨by rfl, ?_⟩) ?_ ?_
             rotate_left; · intro w'; go_simp; with_reducible rfl
             rotate_left; · simp only [nm_]; rfl
             refine pure_ (i := 16) (N := some 30) (v := ?_) (a' := ?_) #[U,U,U,U,U,U,U,U,U,U,U,U,U,U,U,U,U,O,O,O,O,O,O,O,O,O] rfl rfl (any_of HT_.out (by kernel_rfl)) (fun _ _ _ h => h) (Or.inl ⟨by rfl, ?_⟩) ?_ ?_
             rotate_left; · intro w'; go_simp; with_reducible rfl
             rotate_left; · simp only [nm_]; rfl
             refine pure_ (i := 17) (N := some 31) (v := ?_) (a' := ?_) #[U,U,U,U,U,U,U,U,U,U,U,U,U,U,U,U,U,U,O,O,O,O,O,O,O,O] rfl rfl (any_of HT_.out (by kernel_rfl)) (fun _ _ _ h => h) (Or.inl ⟨by rfl, ?_⟩) ?_ ?_
             rotate_left; · intro w'; go_simp; with_reducible rfl
             rotate_left; · simp only [nm_]; rfl
             refine pure_ (i := 18) (N := some 32) (v := ?_) (a' := ?_) #[U,U,U,U,U,U,U,U,U,U,U,U,U,U,U,U,U,U,U,O,O,O,O,O,O,O] rfl rfl (any_of HT_.out (by kernel_rfl)) (fun _ _ _ h => h) (Or.inl ⟨by rfl, ?_⟩) ?_ ?_
             rotate_left; · intro w'; go_simp; with_reducible rfl
             rotate_left; · simp only [nm_]; rfl
             refine pure_ (i := 19) (N := some 33) (v := ?_) (a' := ?_) #[U,U,U,U,U,U,U,U,U,U,U,U,U,U,U,U,U,U,U,U,O,O,O,O,O,O] rfl rfl (any_of HT_.out (by kernel_rfl)) (fun _ _ _ h => h) (Or.inl ⟨by rfl, ?_⟩) ?_ ?_
             rotate_left; · intro w'; go_simp; with_reducible rfl
             rotate_left; · simp only [nm_]; rfl
             refine pure_ (i := 20) (N := some 34) (v := ?_) (a' := ?_) #[U,U,U,U,U,U,U,U,U,U,U,U,U,U,U,U,U,U,U,U,U,O,O,O,O,O] rfl rfl (any_of HT_.out (by kernel_rfl)) (fun _ _ _ h => h) (Or.inl ⟨by rfl, ?_⟩) ?_ ?_
             rotate_left; · intro w'; go_simp; with_reducible rfl
             rotate_left; · simp only [nm_]; rfl
             refine pure_ (i := 21) (N := some 35) (v := ?_) (a' := ?_) #[U,U,U,U,U,U,U,U,U,U,U,U,U,U,U,U,U,U,U,U,U,U,O,O,O,O] rfl rfl (any_of HT_.out (by kernel_rfl)) (fun _ _ _ h => h) (Or.inl ⟨by rfl, ?_⟩) ?_ ?_
             rotate_left; · intro w'; go_simp; with_reducible rfl
             rotate_left; · simp only [nm_]; rfl
             refine take_ (i := 22) (N := some 36) (v := ?_) (a' := ?_) #[U,U,U,U,U,U,U,U,U,U,U,U,U,U,U,U,U,U,U,U,U,U,U,O,O,O] rfl rfl (take_ofW HT_.out HW_.out (by kernel_rfl)) (fun _ _ _ h => h) (Or.inl ⟨by rfl, ?_⟩) hHeld ?_ ?_
             rotate_left; · rintro w' ⟨s0, s1, s2, s3⟩; go_simp; with_reducible rfl
             rotate_left; · simp only [nm_]; rfl
             refine pure_ (i := 23) (N := some 37) (v := ?_) (a' := ?_) #[U,U,U,U,U,U,U,U,U,U,U,U,U,U,U,U,U,U,U,U,U,U,U,U,O,O] rfl rfl (any_of HT_.out (by kernel_rfl)) (fun _ _ _ h => h) (Or.inl ⟨by rfl, ?_⟩) ?_ ?_
             rotate_left; · intro w'; go_simp; with_reducible rfl
             rotate_left; · simp only [nm_]; rfl
             refine pure_ (i := 24) (N := some 38) (v := ?_) (a' := ?_) #[U,U,U,U,U,U,U,U,U,U,U,U,U,U,U,U,U,U,U,U,U,U,U,U,U,O] rfl rfl (any_of HT_.out (by kernel_rfl)) (fun _ _ _ h => h) (Or.inl ⟨by rfl, ?_⟩) ?_ ?_
             rotate_left; · intro w'; go_simp; with_reducible rfl
             rotate_left; · simp only [nm_]; rfl
             refine pure_ (i := 25) (N := some 39) (v := ?_) (a' := ?_) #[U,U,U,U,U,U,U,U,U,U,U,U,U,U,U,U,U,U,U,U,U,U,U,U,U,U] rfl rfl (any_of HT_.out (by kernel_rfl)) (fun _ _ _ h => h) (Or.inl ⟨by rfl, ?_⟩) ?_ ?_
             rotate_left; · intro w'; go_simp; with_reducible rfl
             rotate_left; · simp only [nm_]; rfl
             refine done_ (done_of HT_.out (by kernel_rfl)) ?_
             try go_wp2
             go_ret
             exact ⟨by first | rfl | (simp [errW_none, errW_some] <;> rfl) | (simp only [← hji14]; first | rfl | (simp [errW_none, errW_some] <;> rfl)) | (simp [*, errW_none, errW_some] <;> rfl), by repeat (first | (with_reducible first | exact HB.out | apply below_alloc | apply pw_below_drewN | apply below_drew1 | refine below_set ?_ GE362.out) | exact HB.out)⟩
            ·rw [if_neg c17] at H
             have c17b0 : decide ((rd l1 x9_1) ≤ (rd l1 (ji14))) = false := decide_eq_false c17
             clear c17
             have H' := Aside0.mk H
             clear H
             have p363 : 0 ≤ (x9_1 : Int) := of_decide_eq_true (by first | (with_reducible assumption) | assumption)
             have q363 : x9_1 < (l1.length : Int) := of_decide_eq_true (by first | (with_reducible assumption) | assumption)
             obtain ⟨ad363, e363, hx363_0⟩ := Kd.at_int HR1.out x9_1 p363 q363
             cases e363
             replace hx363_0 := (HB.out.cell (World.block_lt_of_cell? w _ hx363_0)).trans hx363_0
             replace p363 := eq_true p363
             replace q363 := eq_true q363
             try go_wp2
             have n0_ := Aside0.mk (blk_drew BK362.out)
             have n1_ := Aside0.mk (below_drew1 HB.out)
             clear BK362
             clear HB
             have BK362 := n0_
             have HB := n1_
             clear n0_ n1_
             have p366 : 0 ≤ (0 : Int) := (by omega)
             have q366 : 0 < (l1.length : Int) := of_decide_eq_true (by first | (with_reducible assumption) | assumption)
             obtain ⟨ad366, e366, hx366_0⟩ := Kd.at_int HR1.out 0 p366 q366
             have hw366_0 := hx366_0
             (try rw [show ((0 : Int)).toNat = 0 from rfl] at hw366_0)
             (try rw [show 0 * 1 = 0 from rfl] at hw366_0)
             (try rw [Addr.add_zero'] at hw366_0)
             obtain rfl : ad363 = ad366 := (by injection e366)
             have qi366 : (0 < l1.length) = True := eq_true (by omega)
             (try rw [show ((0 : Int)).toNat = 0 from rfl] at hx366_0)
             (try rw [Addr.add_zero'] at hx366_0)
             replace hx366_0 := (HB.out.cell (World.block_lt_of_cell? w _ hx366_0)).trans hx366_0
             replace p366 := eq_true p366
             replace q366 := eq_true q366
             have p368 : 0 ≤ ((ji14) : Int) := of_decide_eq_true (by first | (with_reducible assumption) | assumption)
             have q368 : (ji14) < (l1.length : Int) := of_decide_eq_true (by first | (with_reducible assumption) | assumption)
             obtain ⟨ad368, e368, hx368_0⟩ := Kd.at_int HR1.out (ji14) p368 q368
             have hw368_0 := hx368_0
             obtain rfl : ad363 = ad368 := (by injection e368)
             replace hx368_0 := (HB.out.cell (World.block_lt_of_cell? w _ hx368_0)).trans hx368_0
             replace p368 := eq_true p368
             replace q368 := eq_true q368
             refine start_ (n := 26) (S := fun w' => w'.cell? ⟨gb362, 0, none⟩ = some (.int .i64 a0_0) ∧ w'.cell? ⟨gb362, 1, none⟩ = some (.slice A0_1 l0_1.length c0_1) ∧ w'.cell? ad363 = some (.int .i64 (rd l1 0)) ∧ w'.cell? (ad363.add ((ji14)).toNat) = some (.int .i64 (rd l1 (ji14)))) (ds := []) #[O,O,O,O,O,O,O,O,O,O,O,O,O,O,O,O,O,O,O,O,O,O,O,O,O,O] (by kernel_rfl) rfl rfl ⟨(blk_cell BK362.out 0).trans rfl, (blk_cell BK362.out 1).trans rfl, ((HB.out.cell (World.block_lt_of_cell? w _ hw366_0)).trans hw366_0), ((HB.out.cell (World.block_lt_of_cell? w _ hw368_0)).trans hw368_0)⟩ (fun hHeld => ?_); refine with_tabW impl_Complex_isChain.tab4 impl_Complex_isChain.bits4 (fun HT_ HW_ => ?_)
             generalize wr.drew = w20 at BK362 HB hx366_0 hx368_0 hHeld ⊢
             refine pure_ (i := 1) (N := some 15) (v := ?_) (a' := ?_) #[O,U,O,O,O,O,O,O,O,O,O,O,O,O,O,O,O,O,O,O,O,O,O,O,O,O] rfl rfl (any_of HT_.out (by kernel_rfl)) (fun _ _ _ h => h) (Or.inl ⟨by rfl, ?_⟩) ?_ ?_
             rotate_left; · intro w'; go_simp; with_reducible rfl
             rotate_left; · simp only [nm_]; rfl
             refine take_ (i := 0) (N := some 14) (v := ?_) (a' := ?_) #[U,U,O,O,O,O,O,O,O,O,O,O,O,O,O,O,O,O,O,O,O,O,O,O,O,O] rfl rfl (take_ofW HT_.out HW_.out (by kernel_rfl)) (fun _ _ _ h => h) (Or.inl ⟨by rfl, ?_⟩) hHeld ?_ ?_
             rotate_left; · rintro w' ⟨s0, s1, s2, s3⟩; go_simp; with_reducible rfl
             rotate_left; · simp only [nm_]; rfl
             refine one_ (i := 2) (N := some 16) #[U,U,U,O,O,O,O,O,O,O,O,O,O,O,O,O,O,O,O,O,O,O,O,O,O,O] rfl rfl (one_of HT_.out (by kernel_rfl)) (by decide) (fun K hK => ?_)
             refine goes_ Try.func38 (by kernel_rfl) rfl #[.agg #[.int .i64 a0_0, .slice A0_1 l0_1.length c0_1], .int .i64 (rd l1 x9_1)] (by rfl) rfl rfl (by (try simp only [List.map_toArray, List.map_cons, List.map_nil]); first | done | rfl | (simp only [List.length_drop, List.length_take]; rfl)) ?_
             with_reducible refine (impl_Complex_has.calls k1 a0_0 _ _ l0_1 (rd l1 x9_1) true _ ?side1 ?side2 A7.out).mono ?_
             (case side1 => repeat (first | exact (Kd.C_below HR0_1.out HB.out) | (with_reducible refine Kd.C_alloc ?_ _) | (with_reducible refine Kd.C_drewN ?_ _) | (with_reducible refine Kd.C_drew ?_)))
             (case side2 => exact HC0_1.out)
             rintro e w21 ⟨rfl, hb⟩
             refine ⟨_, rfl, ?_⟩
             have n0_ := Aside0.mk (blk_below (g := gb362) (o := .cells #[.int .i64 a0_0, .slice A0_1 l0_1.length c0_1] 26 (0, 0)) (by (with_reducible repeat (first | refine blk_drewN ?_ _ | refine blk_drew ?_ | refine blk_alloc ?_ _)); exact BK362.out) hb)
             have n1_ := Aside0.mk (below_step (by repeat (first | (with_reducible first | exact HB.out | apply below_alloc | apply pw_below_drewN | apply below_drew1 | refine below_set ?_ GE362.out) | exact HB.out)) hb)
             clear BK362
             clear HB
             have BK362 := n0_
             have HB := n1_
             clear n0_ n1_
             (try clear hb)
             (try clear hb2)
             (try clear hk)
             (try clear hi)
             refine hK.out _ _ ⟨(blk_cell BK362.out 0).trans rfl, (blk_cell BK362.out 1).trans rfl, ((HB.out.cell (World.block_lt_of_cell? w _ hw366_0)).trans hw366_0), ((HB.out.cell (World.block_lt_of_cell? w _ hw368_0)).trans hw368_0)⟩ (fun hHeld => ?_)
             clear hK K
             refine norm_ (a' := ?_) ?_ ?_
             rotate_left
             ·show Act.put _ (some 16) _ = _
              simp only [nm_]
              rfl
             refine pure_ (i := 3) (N := some 17) (v := ?_) (a' := ?_) #[U,U,U,U,O,O,O,O,O,O,O,O,O,O,O,O,O,O,O,O,O,O,O,O,O,O] rfl rfl (any_of HT_.out (by kernel_rfl)) (fun _ _ _ h => h) (Or.inl ⟨by rfl, ?_⟩) ?_ ?_
             rotate_left; · intro w'; go_simp; with_reducible rfl
             rotate_left; · simp only [nm_]; rfl
             refine pure_ (i := 4) (N := some 18) (v := ?_) (a' := ?_) #[U,U,U,U,U,O,O,O,O,O,O,O,O,O,O,O,O,O,O,O,O,O,O,O,O,O] rfl rfl (any_of HT_.out (by kernel_rfl)) (fun _ _ _ h => h) (Or.inl ⟨by rfl, ?_⟩) ?_ ?_
             rotate_left; · intro w'; go_simp; with_reducible rfl
             rotate_left; · simp only [nm_]; rfl
             refine pure_ (i := 5) (N := some 19) (v := ?_) (a' := ?_) #[U,U,U,U,U,U,O,O,O,O,O,O,O,O,O,O,O,O,O,O,O,O,O,O,O,O] rfl rfl (any_of HT_.out (by kernel_rfl)) (fun _ _ _ h => h) (Or.inl ⟨by rfl, ?_⟩) ?_ ?_
             rotate_left; · intro w'; go_simp; with_reducible rfl
             rotate_left; · simp only [nm_]; rfl
             refine pure_ (i := 7) (N := some 21) (v := ?_) (a' := ?_) #[U,U,U,U,U,U,O,U,O,O,O,O,O,O,O,O,O,O,O,O,O,O,O,O,O,O] rfl rfl (any_of HT_.out (by kernel_rfl)) (fun _ _ _ h => h) (Or.inl ⟨by rfl, ?_⟩) ?_ ?_
             rotate_left; · intro w'; go_simp; with_reducible rfl
             rotate_left; · simp only [nm_]; rfl
             refine pure_ (i := 8) (N := some 22) (v := ?_) (a' := ?_) #[U,U,U,U,U,U,O,U,U,O,O,O,O,O,O,O,O,O,O,O,O,O,O,O,O,O] rfl rfl (any_of HT_.out (by kernel_rfl)) (fun _ _ _ h => h) (Or.inl ⟨by rfl, ?_⟩) ?_ ?_
             rotate_left; · intro w'; go_simp; with_reducible rfl
             rotate_left; · simp only [nm_]; rfl
             refine take_ (i := 9) (N := some 23) (v := ?_) (a' := ?_) #[U,U,U,U,U,U,O,U,U,U,O,O,O,O,O,O,O,O,O,O,O,O,O,O,O,O] rfl rfl (take_ofW HT_.out HW_.out (by kernel_rfl)) (fun _ _ _ h => h) (Or.inl ⟨by rfl, ?_⟩) hHeld ?_ ?_
             rotate_left; · rintro w' ⟨s0, s1, s2, s3⟩; go_simp; with_reducible rfl
             rotate_left; · simp only [nm_]; rfl
             refine one_ (i := 6) (N := some 20) #[U,U,U,U,U,U,U,U,U,U,O,O,O,O,O,O,O,O,O,O,O,O,O,O,O,O] rfl rfl (one_of HT_.out (by kernel_rfl)) (by decide) (fun K hK => ?_)
             refine goes_ Try.func46 (by kernel_rfl) rfl #[.int .i64 (rd l1 x9_1)] (by rfl) rfl rfl (by (try simp only [List.map_toArray, List.map_cons, List.map_nil]); first | done | rfl | (simp only [List.length_drop, List.length_take]; rfl)) ?_
             with_reducible refine (impl_size.calls (rd l1 x9_1) t365 _ A9.out).mono ?_
             rintro e w' ⟨rfl, ⟨nd, rfl⟩⟩
             refine ⟨_, rfl, ?_⟩
             refine hK.out _ _ ⟨(blk_cell BK362.out 0).trans rfl, (blk_cell BK362.out 1).trans rfl, ((HB.out.cell (World.block_lt_of_cell? w _ hw366_0)).trans hw366_0), ((HB.out.cell (World.block_lt_of_cell? w _ hw368_0)).trans hw368_0)⟩ (fun hHeld => ?_)
             clear hK K
             refine norm_ (a' := ?_) ?_ ?_
             rotate_left
             ·show Act.put _ (some 20) _ = _
              simp only [nm_]
              rfl
             refine one_ (i := 10) (N := some 24) #[U,U,U,U,U,U,U,U,U,U,U,O,O,O,O,O,O,O,O,O,O,O,O,O,O,O] rfl rfl (one_of HT_.out (by kernel_rfl)) (by decide) (fun K hK => ?_)
             refine goes_ Try.func46 (by kernel_rfl) rfl #[.int .i64 (rd l1 0)] (by rfl) rfl rfl (by (try simp only [List.map_toArray, List.map_cons, List.map_nil]); first | done | rfl | (simp only [List.length_drop, List.length_take]; rfl)) ?_
             with_reducible refine (impl_size.calls (rd l1 0) t367 _ A11.out).mono ?_
             rintro e w' ⟨rfl, ⟨nd, rfl⟩⟩
             refine ⟨_, rfl, ?_⟩
             refine hK.out _ _ ⟨(blk_cell BK362.out 0).trans rfl, (blk_cell BK362.out 1).trans rfl, ((HB.out.cell (World.block_lt_of_cell? w _ hw366_0)).trans hw366_0), ((HB.out.cell (World.block_lt_of_cell? w _ hw368_0)).trans hw368_0)⟩ (fun hHeld => ?_)
             clear hK K
             refine norm_ (a' := ?_) ?_ ?_
             rotate_left
             ·show Act.put _ (some 24) _ = _
              simp only [nm_]
              rfl
             refine pure_ (i := 11) (N := some 25) (v := ?_) (a' := ?_) #[U,U,U,U,U,U,U,U,U,U,U,U,O,O,O,O,O,O,O,O,O,O,O,O,O,O] rfl rfl (any_of HT_.out (by kernel_rfl)) (fun _ _ _ h => h) (Or.inl ⟨by rfl, ?_⟩) ?_ ?_
             rotate_left; · intro w'; go_simp; with_reducible rfl
             rotate_left; · simp only [nm_]; rfl
             refine pure_ (i := 12) (N := some 26) (v := ?_) (a' := ?_) #[U,U,U,U,U,U,U,U,U,U,U,U,U,O,O,O,O,O,O,O,O,O,O,O,O,O] rfl rfl (any_of HT_.out (by kernel_rfl)) (fun _ _ _ h => h) (Or.inl ⟨by rfl, ?_⟩) ?_ ?_
             rotate_left; · intro w'; go_simp; with_reducible rfl
             rotate_left; · simp only [nm_]; rfl
             refine pure_ (i := 13) (N := some 27) (v := ?_) (a' := ?_) #[U,U,U,U,U,U,U,U,U,U,U,U,U,U,O,O,O,O,O,O,O,O,O,O,O,O] rfl rfl (any_of HT_.out (by kernel_rfl)) (fun _ _ _ h => h) (Or.inl ⟨by rfl, ?_⟩) ?_ ?_
             rotate_left; · intro w'; go_simp; with_reducible rfl
             rotate_left; · simp only [nm_]; rfl
             refine pure_ (i := 14) (N := some 28) (v := ?_) (a' := ?_) #[U,U,U,U,U,U,U,U,U,U,U,U,U,U,U,O,O,O,O,O,O,O,O,O,O,O] rfl rfl (any_of HT_.out (by kernel_rfl)) (fun _ _ _ h => h) (Or.inl ⟨by rfl, ?_⟩) ?_ ?_
             rotate_left; · intro w'; go_simp; with_reducible rfl
             rotate_left; · simp only [nm_]; rfl
             refine pure_ (i := 15) (N := some 29) (v := ?_) (a' := ?_) #[U,U,U,U,U,U,U,U,U,U,U,U,U,U,U,U,O,O,O,O,O,O,O,O,O,O] rfl rfl (any_of HT_.out (by kernel_rfl)) (fun _ _ _ h => h) (Or.inl ⟨by rfl, ?_⟩) ?_ ?_
             rotate_left; · intro w'; go_simp; with_reducible rfl
             rotate_left; · simp only [nm_]; rfl
             refine pure_ (i := 16) (N := some 30) (v := ?_) (a' := ?_) #[U,U,U,U,U,U,U,U,U,U,U,U,U,U,U,U,U,O,O,O,O,O,O,O,O,O] rfl rfl (any_of HT_.out (by kernel_rfl)) (fun _ _ _ h => h) (Or.inl ⟨by rfl, ?_⟩) ?_ ?_
             rotate_left; · intro w'; go_simp; with_reducible rfl
             rotate_left; · simp only [nm_]; rfl
             refine pure_ (i := 17) (N := some 31) (v := ?_) (a' := ?_) #[U,U,U,U,U,U,U,U,U,U,U,U,U,U,U,U,U,U,O,O,O,O,O,O,O,O] rfl rfl (any_of HT_.out (by kernel_rfl)) (fun _ _ _ h => h) (Or.inl ⟨by rfl, ?_⟩) ?_ ?_
             rotate_left; · intro w'; go_simp; with_reducible rfl
             rotate_left; · simp only [nm_]; rfl
             refine pure_ (i := 18) (N := some 32) (v := ?_) (a' := ?_) #[U,U,U,U,U,U,U,U,U,U,U,U,U,U,U,U,U,U,U,O,O,O,O,O,O,O] rfl rfl (any_of HT_.out (by kernel_rfl)) (fun _ _ _ h => h) (Or.inl ⟨by rfl, ?_⟩) ?_ ?_
             rotate_left; · intro w'; go_simp; with_reducible rfl
             rotate_left; · simp only [nm_]; rfl
             refine pure_ (i := 19) (N := some 33) (v := ?_) (a' := ?_) #[U,U,U,U,U,U,U,U,U,U,U,U,U,U,U,U,U,U,U,U,O,O,O,O,O,O] rfl rfl (any_of HT_.out (by kernel_rfl)) (fun _ _ _ h => h) (Or.inl ⟨by rfl, ?_⟩) ?_ ?_
             rotate_left; · intro w'; go_simp; with_reducible rfl
             rotate_left; · simp only [nm_]; rfl
             refine pure_ (i := 20) (N := some 34) (v := ?_) (a' := ?_) #[U,U,U,U,U,U,U,U,U,U,U,U,U,U,U,U,U,U,U,U,U,O,O,O,O,O] rfl rfl (any_of HT_.out (by kernel_rfl)) (fun _ _ _ h => h) (Or.inl ⟨by rfl, ?_⟩) ?_ ?_
             rotate_left; · intro w'; go_simp; with_reducible rfl
             rotate_left; · simp only [nm_]; rfl
             refine pure_ (i := 21) (N := some 35) (v := ?_) (a' := ?_) #[U,U,U,U,U,U,U,U,U,U,U,U,U,U,U,U,U,U,U,U,U,U,O,O,O,O] rfl rfl (any_of HT_.out (by kernel_rfl)) (fun _ _ _ h => h) (Or.inl ⟨by rfl, ?_⟩) ?_ ?_
             rotate_left; · intro w'; go_simp; with_reducible rfl
             rotate_left; · simp only [nm_]; rfl
             refine take_ (i := 22) (N := some 36) (v := ?_) (a' := ?_) #[U,U,U,U,U,U,U,U,U,U,U,U,U,U,U,U,U,U,U,U,U,U,U,O,O,O] rfl rfl (take_ofW HT_.out HW_.out (by kernel_rfl)) (fun _ _ _ h => h) (Or.inl ⟨by rfl, ?_⟩) hHeld ?_ ?_
             rotate_left; · rintro w' ⟨s0, s1, s2, s3⟩; go_simp; with_reducible rfl
             rotate_left; · simp only [nm_]; rfl
             refine pure_ (i := 23) (N := some 37) (v := ?_) (a' := ?_) #[U,U,U,U,U,U,U,U,U,U,U,U,U,U,U,U,U,U,U,U,U,U,U,U,O,O] rfl rfl (any_of HT_.out (by kernel_rfl)) (fun _ _ _ h => h) (Or.inl ⟨by rfl, ?_⟩) ?_ ?_
             rotate_left; · intro w'; go_simp; with_reducible rfl
             rotate_left; · simp only [nm_]; rfl
             refine pure_ (i := 24) (N := some 38) (v := ?_) (a' := ?_) #[U,U,U,U,U,U,U,U,U,U,U,U,U,U,U,U,U,U,U,U,U,U,U,U,U,O] rfl rfl (any_of HT_.out (by kernel_rfl)) (fun _ _ _ h => h) (Or.inl ⟨by rfl, ?_⟩) ?_ ?_
             rotate_left; · intro w'; go_simp; with_reducible rfl
             rotate_left; · simp only [nm_]; rfl
             refine pure_ (i := 25) (N := some 39) (v := ?_) (a' := ?_) #[U,U,U,U,U,U,U,U,U,U,U,U,U,U,U,U,U,U,U,U,U,U,U,U,U,U] rfl rfl (any_of HT_.out (by kernel_rfl)) (fun _ _ _ h => h) (Or.inl ⟨by rfl, ?_⟩) ?_ ?_
             rotate_left; · intro w'; go_simp; with_reducible rfl
             rotate_left; · simp only [nm_]; rfl
             refine done_ (done_of HT_.out (by kernel_rfl)) ?_
             try go_wp2
             go_roundg k1
             case measure => have := HK1.out; omega
             case rel => exact ⟨(wrap64 (x9_1 + 1)), (by first | rfl | (simp; done) | (simp [*]; done)), H', ⟨by have := HK1.out; omega⟩, ⟨by (with_reducible repeat (first | refine blk_drewN ?_ _ | refine blk_drew ?_ | refine blk_alloc ?_ _)); exact BK362.out⟩, ⟨by repeat (first | (with_reducible first | exact HB.out | apply below_alloc | apply pw_below_drewN | apply below_drew1 | refine below_set ?_ GE362.out) | exact HB.out)⟩⟩
           ·rw [if_neg c16] at H
            exact absurd H (by simp)
          ·rw [if_neg c15] at H
           exact absurd H (by simp)
         ·rw [if_neg c13] at H
          have c13b0 : decide (0 < x9_1) = false := decide_eq_false c13
          clear c13
          have H' := Aside0.mk H
          clear H
          have p363 : 0 ≤ (x9_1 : Int) := of_decide_eq_true (by first | (with_reducible assumption) | assumption)
          have q363 : x9_1 < (l1.length : Int) := of_decide_eq_true (by first | (with_reducible assumption) | assumption)
          obtain ⟨ad363, e363, hx363_0⟩ := Kd.at_int HR1.out x9_1 p363 q363
          cases e363
          replace hx363_0 := (HB.out.cell (World.block_lt_of_cell? w _ hx363_0)).trans hx363_0
          replace p363 := eq_true p363
          replace q363 := eq_true q363
          try go_wp2
          have n0_ := Aside0.mk (blk_drew BK362.out)
          have n1_ := Aside0.mk (below_drew1 HB.out)
          clear BK362
          clear HB
          have BK362 := n0_
          have HB := n1_
          clear n0_ n1_
          have p366 : 0 ≤ (0 : Int) := (by omega)
          have q366 : 0 < (l1.length : Int) := of_decide_eq_true (by first | (with_reducible assumption) | assumption)
          obtain ⟨ad366, e366, hx366_0⟩ := Kd.at_int HR1.out 0 p366 q366
          have hw366_0 := hx366_0
          (try rw [show ((0 : Int)).toNat = 0 from rfl] at hw366_0)
          (try rw [show 0 * 1 = 0 from rfl] at hw366_0)
          (try rw [Addr.add_zero'] at hw366_0)
          obtain rfl : ad363 = ad366 := (by injection e366)
          have qi366 : (0 < l1.length) = True := eq_true (by omega)
          (try rw [show ((0 : Int)).toNat = 0 from rfl] at hx366_0)
          (try rw [Addr.add_zero'] at hx366_0)
          replace hx366_0 := (HB.out.cell (World.block_lt_of_cell? w _ hx366_0)).trans hx366_0
          replace p366 := eq_true p366
          replace q366 := eq_true q366
          refine start_ (n := 26) (S := fun w' => w'.cell? ⟨gb362, 0, none⟩ = some (.int .i64 a0_0) ∧ w'.cell? ⟨gb362, 1, none⟩ = some (.slice A0_1 l0_1.length c0_1) ∧ w'.cell? ad363 = some (.int .i64 (rd l1 0))) (ds := []) #[O,O,O,O,O,O,O,O,O,O,O,O,O,O,O,O,O,O,O,O,O,O,O,O,O,O] (by kernel_rfl) rfl rfl ⟨(blk_cell BK362.out 0).trans rfl, (blk_cell BK362.out 1).trans rfl, ((HB.out.cell (World.block_lt_of_cell? w _ hw366_0)).trans hw366_0)⟩ (fun hHeld => ?_); refine with_tabW impl_Complex_isChain.tab4 impl_Complex_isChain.bits4 (fun HT_ HW_ => ?_)
          generalize wr.drew = w22 at BK362 HB hx366_0 hHeld ⊢
          refine pure_ (i := 1) (N := some 15) (v := ?_) (a' := ?_) #[O,U,O,O,O,O,O,O,O,O,O,O,O,O,O,O,O,O,O,O,O,O,O,O,O,O] rfl rfl (any_of HT_.out (by kernel_rfl)) (fun _ _ _ h => h) (Or.inl ⟨by rfl, ?_⟩) ?_ ?_
          rotate_left; · intro w'; go_simp; with_reducible rfl
          rotate_left; · simp only [nm_]; rfl
          refine take_ (i := 0) (N := some 14) (v := ?_) (a' := ?_) #[U,U,O,O,O,O,O,O,O,O,O,O,O,O,O,O,O,O,O,O,O,O,O,O,O,O] rfl rfl (take_ofW HT_.out HW_.out (by kernel_rfl)) (fun _ _ _ h => h) (Or.inl ⟨by rfl, ?_⟩) hHeld ?_ ?_
          rotate_left; · rintro w' ⟨s0, s1, s2⟩; go_simp; with_reducible rfl
          rotate_left; · simp only [nm_]; rfl
          refine one_ (i := 2) (N := some 16) #[U,U,U,O,O,O,O,O,O,O,O,O,O,O,O,O,O,O,O,O,O,O,O,O,O,O] rfl rfl (one_of HT_.out (by kernel_rfl)) (by decide) (fun K hK => ?_)
          refine goes_ Try.func38 (by kernel_rfl) rfl #[.agg #[.int .i64 a0_0, .slice A0_1 l0_1.length c0_1], .int .i64 (rd l1 x9_1)] (by rfl) rfl rfl (by (try simp only [List.map_toArray, List.map_cons, List.map_nil]); first | done | rfl | (simp only [List.length_drop, List.length_take]; rfl)) ?_
          with_reducible refine (impl_Complex_has.calls k1 a0_0 _ _ l0_1 (rd l1 x9_1) true _ ?side1 ?side2 A7.out).mono ?_
          (case side1 => repeat (first | exact (Kd.C_below HR0_1.out HB.out) | (with_reducible refine Kd.C_alloc ?_ _) | (with_reducible refine Kd.C_drewN ?_ _) | (with_reducible refine Kd.C_drew ?_)))
          (case side2 => exact HC0_1.out)
          rintro e w23 ⟨rfl, hb⟩
          refine ⟨_, rfl, ?_⟩
          have n0_ := Aside0.mk (blk_below (g := gb362) (o := .cells #[.int .i64 a0_0, .slice A0_1 l0_1.length c0_1] 26 (0, 0)) (by (with_reducible repeat (first | refine blk_drewN ?_ _ | refine blk_drew ?_ | refine blk_alloc ?_ _)); exact BK362.out) hb)
          have n1_ := Aside0.mk (below_step (by repeat (first | (with_reducible first | exact HB.out | apply below_alloc | apply pw_below_drewN | apply below_drew1 | refine below_set ?_ GE362.out) | exact HB.out)) hb)
          clear BK362
          clear HB
          have BK362 := n0_
          have HB := n1_
          clear n0_ n1_
          (try clear hb)
          (try clear hb2)
          (try clear hk)
          (try clear hi)
          refine hK.out _ _ ⟨(blk_cell BK362.out 0).trans rfl, (blk_cell BK362.out 1).trans rfl, ((HB.out.cell (World.block_lt_of_cell? w _ hw366_0)).trans hw366_0)⟩ (fun hHeld => ?_)
          clear hK K
          refine norm_ (a' := ?_) ?_ ?_
          rotate_left
          ·show Act.put _ (some 16) _ = _
           simp only [nm_]
           rfl
          refine pure_ (i := 3) (N := some 17) (v := ?_) (a' := ?_) #[U,U,U,U,O,O,O,O,O,O,O,O,O,O,O,O,O,O,O,O,O,O,O,O,O,O] rfl rfl (any_of HT_.out (by kernel_rfl)) (fun _ _ _ h => h) (Or.inl ⟨by rfl, ?_⟩) ?_ ?_
          rotate_left; · intro w'; go_simp; with_reducible rfl
          rotate_left; · simp only [nm_]; rfl
          refine pure_ (i := 4) (N := some 18) (v := ?_) (a' := ?_) #[U,U,U,U,U,O,O,O,O,O,O,O,O,O,O,O,O,O,O,O,O,O,O,O,O,O] rfl rfl (any_of HT_.out (by kernel_rfl)) (fun _ _ _ h => h) (Or.inl ⟨by rfl, ?_⟩) ?_ ?_
          rotate_left; · intro w'; go_simp; with_reducible rfl
          rotate_left; · simp only [nm_]; rfl
          refine pure_ (i := 5) (N := some 19) (v := ?_) (a' := ?_) #[U,U,U,U,U,U,O,O,O,O,O,O,O,O,O,O,O,O,O,O,O,O,O,O,O,O] rfl rfl (any_of HT_.out (by kernel_rfl)) (fun _ _ _ h => h) (Or.inl ⟨by rfl, ?_⟩) ?_ ?_
          rotate_left; · intro w'; go_simp; with_reducible rfl
          rotate_left; · simp only [nm_]; rfl
          refine pure_ (i := 7) (N := some 21) (v := ?_) (a' := ?_) #[U,U,U,U,U,U,O,U,O,O,O,O,O,O,O,O,O,O,O,O,O,O,O,O,O,O] rfl rfl (any_of HT_.out (by kernel_rfl)) (fun _ _ _ h => h) (Or.inl ⟨by rfl, ?_⟩) ?_ ?_
          rotate_left; · intro w'; go_simp; with_reducible rfl
          rotate_left; · simp only [nm_]; rfl
          refine pure_ (i := 8) (N := some 22) (v := ?_) (a' := ?_) #[U,U,U,U,U,U,O,U,U,O,O,O,O,O,O,O,O,O,O,O,O,O,O,O,O,O] rfl rfl (any_of HT_.out (by kernel_rfl)) (fun _ _ _ h => h) (Or.inl ⟨by rfl, ?_⟩) ?_ ?_
          rotate_left; · intro w'; go_simp; with_reducible rfl
          rotate_left; · simp only [nm_]; rfl
          refine take_ (i := 9) (N := some 23) (v := ?_) (a' := ?_) #[U,U,U,U,U,U,O,U,U,U,O,O,O,O,O,O,O,O,O,O,O,O,O,O,O,O] rfl rfl (take_ofW HT_.out HW_.out (by kernel_rfl)) (fun _ _ _ h => h) (Or.inl ⟨by rfl, ?_⟩) hHeld ?_ ?_
          rotate_left; · rintro w' ⟨s0, s1, s2⟩; go_simp; with_reducible rfl
          rotate_left; · simp only [nm_]; rfl
          refine one_ (i := 6) (N := some 20) #[U,U,U,U,U,U,U,U,U,U,O,O,O,O,O,O,O,O,O,O,O,O,O,O,O,O] rfl rfl (one_of HT_.out (by kernel_rfl)) (by decide) (fun K hK => ?_)
          refine goes_ Try.func46 (by kernel_rfl) rfl #[.int .i64 (rd l1 x9_1)] (by rfl) rfl rfl (by (try simp only [List.map_toArray, List.map_cons, List.map_nil]); first | done | rfl | (simp only [List.length_drop, List.length_take]; rfl)) ?_
          with_reducible refine (impl_size.calls (rd l1 x9_1) t365 _ A9.out).mono ?_
          rintro e w' ⟨rfl, ⟨nd, rfl⟩⟩
          refine ⟨_, rfl, ?_⟩
          refine hK.out _ _ ⟨(blk_cell BK362.out 0).trans rfl, (blk_cell BK362.out 1).trans rfl, ((HB.out.cell (World.block_lt_of_cell? w _ hw366_0)).trans hw366_0)⟩ (fun hHeld => ?_)
          clear hK K
          refine norm_ (a' := ?_) ?_ ?_
          rotate_left
          ·show Act.put _ (some 20) _ = _
           simp only [nm_]
           rfl
          refine one_ (i := 10) (N := some 24) #[U,U,U,U,U,U,U,U,U,U,U,O,O,O,O,O,O,O,O,O,O,O,O,O,O,O] rfl rfl (one_of HT_.out (by kernel_rfl)) (by decide) (fun K hK => ?_)
          refine goes_ Try.func46 (by kernel_rfl) rfl #[.int .i64 (rd l1 0)] (by rfl) rfl rfl (by (try simp only [List.map_toArray, List.map_cons, List.map_nil]); first | done | rfl | (simp only [List.length_drop, List.length_take]; rfl)) ?_
          with_reducible refine (impl_size.calls (rd l1 0) t367 _ A11.out).mono ?_
          rintro e w' ⟨rfl, ⟨nd, rfl⟩⟩
          refine ⟨_, rfl, ?_⟩
          refine hK.out _ _ ⟨(blk_cell BK362.out 0).trans rfl, (blk_cell BK362.out 1).trans rfl, ((HB.out.cell (World.block_lt_of_cell? w _ hw366_0)).trans hw366_0)⟩ (fun hHeld => ?_)
          clear hK K
          refine norm_ (a' := ?_) ?_ ?_
          rotate_left
          ·show Act.put _ (some 24) _ = _
           simp only [nm_]
           rfl
          refine pure_ (i := 11) (N := some 25) (v := ?_) (a' := ?_) #[U,U,U,U,U,U,U,U,U,U,U,U,O,O,O,O,O,O,O,O,O,O,O,O,O,O] rfl rfl (any_of HT_.out (by kernel_rfl)) (fun _ _ _ h => h) (Or.inl ⟨by rfl, ?_⟩) ?_ ?_
          rotate_left; · intro w'; go_simp; with_reducible rfl
          rotate_left; · simp only [nm_]; rfl
          refine pure_ (i := 12) (N := some 26) (v := ?_) (a' := ?_) #[U,U,U,U,U,U,U,U,U,U,U,U,U,O,O,O,O,O,O,O,O,O,O,O,O,O] rfl rfl (any_of HT_.out (by kernel_rfl)) (fun _ _ _ h => h) (Or.inl ⟨by rfl, ?_⟩) ?_ ?_
          rotate_left; · intro w'; go_simp; with_reducible rfl
          rotate_left; · simp only [nm_]; rfl
          refine pure_ (i := 13) (N := some 27) (v := ?_) (a' := ?_) #[U,U,U,U,U,U,U,U,U,U,U,U,U,U,O,O,O,O,O,O,O,O,O,O,O,O] rfl rfl (any_of HT_.out (by kernel_rfl)) (fun _ _ _ h => h) (Or.inl ⟨by rfl, ?_⟩) ?_ ?_
          rotate_left; · intro w'; go_simp; with_reducible rfl
          rotate_left; · simp only [nm_]; rfl
          refine pure_ (i := 14) (N := some 28) (v := ?_) (a' := ?_) #[U,U,U,U,U,U,U,U,U,U,U,U,U,U,U,O,O,O,O,O,O,O,O,O,O,O] rfl rfl (any_of HT_.out (by kernel_rfl)) (fun _ _ _ h => h) (Or.inl ⟨by rfl, ?_⟩) ?_ ?_
          rotate_left; · intro w'; go_simp; with_reducible rfl
          rotate_left; · simp only [nm_]; rfl
          refine pure_ (i := 15) (N := some 29) (v := ?_) (a' := ?_) #[U,U,U,U,U,U,U,U,U,U,U,U,U,U,U,U,O,O,O,O,O,O,O,O,O,O] rfl rfl (any_of HT_.out (by kernel_rfl)) (fun _ _ _ h => h) (Or.inl ⟨by rfl, ?_⟩) ?_ ?_
          rotate_left; · intro w'; go_simp; with_reducible rfl
          rotate_left; · simp only [nm_]; rfl
          refine pure_ (i := 16) (N := some 30) (v := ?_) (a' := ?_) #[U,U,U,U,U,U,U,U,U,U,U,U,U,U,U,U,U,O,O,O,O,O,O,O,O,O] rfl rfl (any_of HT_.out (by kernel_rfl)) (fun _ _ _ h => h) (Or.inl ⟨by rfl, ?_⟩) ?_ ?_
          rotate_left; · intro w'; go_simp; with_reducible rfl
          rotate_left; · simp only [nm_]; rfl
          refine pure_ (i := 17) (N := some 31) (v := undef) (a' := ?_) #[U,U,U,U,U,U,U,U,U,U,U,U,U,U,U,U,U,U,O,O,O,O,O,O,O,O] rfl rfl (any_of HT_.out (by kernel_rfl)) (fun _ _ _ h => h) (Or.inr ⟨by rfl, rfl⟩) ?_ ?_
          rotate_left; · simp only [nm_]; rfl
          refine pure_ (i := 18) (N := some 32) (v := undef) (a' := ?_) #[U,U,U,U,U,U,U,U,U,U,U,U,U,U,U,U,U,U,U,O,O,O,O,O,O,O] rfl rfl (any_of HT_.out (by kernel_rfl)) (fun _ _ _ h => h) (Or.inr ⟨by rfl, rfl⟩) ?_ ?_
          rotate_left; · simp only [nm_]; rfl
          refine pure_ (i := 19) (N := some 33) (v := undef) (a' := ?_) #[U,U,U,U,U,U,U,U,U,U,U,U,U,U,U,U,U,U,U,U,O,O,O,O,O,O] rfl rfl (any_of HT_.out (by kernel_rfl)) (fun _ _ _ h => h) (Or.inr ⟨by rfl, rfl⟩) ?_ ?_
          rotate_left; · simp only [nm_]; rfl
          refine pure_ (i := 20) (N := some 34) (v := undef) (a' := ?_) #[U,U,U,U,U,U,U,U,U,U,U,U,U,U,U,U,U,U,U,U,U,O,O,O,O,O] rfl rfl (any_of HT_.out (by kernel_rfl)) (fun _ _ _ h => h) (Or.inr ⟨by rfl, rfl⟩) ?_ ?_
          rotate_left; · simp only [nm_]; rfl
          refine pure_ (i := 21) (N := some 35) (v := undef) (a' := ?_) #[U,U,U,U,U,U,U,U,U,U,U,U,U,U,U,U,U,U,U,U,U,U,O,O,O,O] rfl rfl (any_of HT_.out (by kernel_rfl)) (fun _ _ _ h => h) (Or.inr ⟨by rfl, rfl⟩) ?_ ?_
          rotate_left; · simp only [nm_]; rfl
          refine pure_ (i := 22) (N := some 36) (v := undef) (a' := ?_) #[U,U,U,U,U,U,U,U,U,U,U,U,U,U,U,U,U,U,U,U,U,U,U,O,O,O] rfl rfl (any_of HT_.out (by kernel_rfl)) (fun _ _ _ h => h) (Or.inr ⟨by rfl, rfl⟩) ?_ ?_
          rotate_left; · simp only [nm_]; rfl
          refine pure_ (i := 23) (N := some 37) (v := undef) (a' := ?_) #[U,U,U,U,U,U,U,U,U,U,U,U,U,U,U,U,U,U,U,U,U,U,U,U,O,O] rfl rfl (any_of HT_.out (by kernel_rfl)) (fun _ _ _ h => h) (Or.inr ⟨by rfl, rfl⟩) ?_ ?_
          rotate_left; · simp only [nm_]; rfl
          refine pure_ (i := 24) (N := some 38) (v := ?_) (a' := ?_) #[U,U,U,U,U,U,U,U,U,U,U,U,U,U,U,U,U,U,U,U,U,U,U,U,U,O] rfl rfl (any_of HT_.out (by kernel_rfl)) (fun _ _ _ h => h) (Or.inl ⟨by rfl, ?_⟩) ?_ ?_
          rotate_left; · intro w'; go_simp; with_reducible rfl
          rotate_left; · simp only [nm_]; rfl
          refine pure_ (i := 25) (N := some 39) (v := ?_) (a' := ?_) #[U,U,U,U,U,U,U,U,U,U,U,U,U,U,U,U,U,U,U,U,U,U,U,U,U,U] rfl rfl (any_of HT_.out (by kernel_rfl)) (fun _ _ _ h => h) (Or.inl ⟨by rfl, ?_⟩) ?_ ?_
          rotate_left; · intro w'; go_simp; with_reducible rfl
          rotate_left; · simp only [nm_]; rfl
          refine done_ (done_of HT_.out (by kernel_rfl)) ?_
          try go_wp2
          go_roundg k1
          case measure => have := HK1.out; omega
          case rel => exact ⟨(wrap64 (x9_1 + 1)), (by first | rfl | (simp; done) | (simp [*]; done)), H', ⟨by have := HK1.out; omega⟩, ⟨by (with_reducible repeat (first | refine blk_drewN ?_ _ | refine blk_drew ?_ | refine blk_alloc ?_ _)); exact BK362.out⟩, ⟨by repeat (first | (with_reducible first | exact HB.out | apply below_alloc | apply pw_below_drewN | apply below_drew1 | refine below_set ?_ GE362.out) | exact HB.out)⟩⟩
        ·rw [if_neg c12] at H
         have c12b0 : (t365 == t367) = false := beq_eq_false_iff_ne.mpr c12
         have c12b1 : (t365 != t367) = true := bne_iff_ne.mpr c12
         obtain rfl := Option.some.inj H
         have p363 : 0 ≤ (x9_1 : Int) := of_decide_eq_true (by first | (with_reducible assumption) | assumption)
         have q363 : x9_1 < (l1.length : Int) := of_decide_eq_true (by first | (with_reducible assumption) | assumption)
         obtain ⟨ad363, e363, hx363_0⟩ := Kd.at_int HR1.out x9_1 p363 q363
         cases e363
         replace hx363_0 := (HB.out.cell (World.block_lt_of_cell? w _ hx363_0)).trans hx363_0
         replace p363 := eq_true p363
         replace q363 := eq_true q363
         try go_wp2
         have n0_ := Aside0.mk (blk_drew BK362.out)
         have n1_ := Aside0.mk (below_drew1 HB.out)
         clear BK362
         clear HB
         have BK362 := n0_
         have HB := n1_
         clear n0_ n1_
         have p366 : 0 ≤ (0 : Int) := (by omega)
         have q366 : 0 < (l1.length : Int) := of_decide_eq_true (by first | (with_reducible assumption) | assumption)
         obtain ⟨ad366, e366, hx366_0⟩ := Kd.at_int HR1.out 0 p366 q366
         have hw366_0 := hx366_0
         (try rw [show ((0 : Int)).toNat = 0 from rfl] at hw366_0)
         (try rw [show 0 * 1 = 0 from rfl] at hw366_0)
         (try rw [Addr.add_zero'] at hw366_0)
         obtain rfl : ad363 = ad366 := (by injection e366)
         have qi366 : (0 < l1.length) = True := eq_true (by omega)
         (try rw [show ((0 : Int)).toNat = 0 from rfl] at hx366_0)
         (try rw [Addr.add_zero'] at hx366_0)
         replace hx366_0 := (HB.out.cell (World.block_lt_of_cell? w _ hx366_0)).trans hx366_0
         replace p366 := eq_true p366
         replace q366 := eq_true q366
         refine start_ (n := 26) (S := fun w' => w'.cell? ⟨gb362, 0, none⟩ = some (.int .i64 a0_0) ∧ w'.cell? ⟨gb362, 1, none⟩ = some (.slice A0_1 l0_1.length c0_1) ∧ w'.cell? ad363 = some (.int .i64 (rd l1 0))) (ds := []) #[O,O,O,O,O,O,O,O,O,O,O,O,O,O,O,O,O,O,O,O,O,O,O,O,O,O] (by kernel_rfl) rfl rfl ⟨(blk_cell BK362.out 0).trans rfl, (blk_cell BK362.out 1).trans rfl, ((HB.out.cell (World.block_lt_of_cell? w _ hw366_0)).trans hw366_0)⟩ (fun hHeld => ?_); refine with_tabW impl_Complex_isChain.tab4 impl_Complex_isChain.bits4 (fun HT_ HW_ => ?_)
         generalize wr.drew = w24 at BK362 HB hx366_0 hHeld ⊢
         refine pure_ (i := 1) (N := some 15) (v := ?_) (a' := ?_) #[O,U,O,O,O,O,O,O,O,O,O,O,O,O,O,O,O,O,O,O,O,O,O,O,O,O] rfl rfl (any_of HT_.out (by kernel_rfl)) (fun _ _ _ h => h) (Or.inl ⟨by rfl, ?_⟩) ?_ ?_
         rotate_left; · intro w'; go_simp; with_reducible rfl
         rotate_left; · simp only [nm_]; rfl
         refine take_ (i := 0) (N := some 14) (v := ?_) (a' := ?_) #[U,U,O,O,O,O,O,O,O,O,O,O,O,O,O,O,O,O,O,O,O,O,O,O,O,O] rfl rfl (take_ofW HT_.out HW_.out (by kernel_rfl)) (fun _ _ _ h => h) (Or.inl ⟨by rfl, ?_⟩) hHeld ?_ ?_
         rotate_left; · rintro w' ⟨s0, s1, s2⟩; go_simp; with_reducible rfl
         rotate_left; · simp only [nm_]; rfl
         refine one_ (i := 2) (N := some 16) #[U,U,U,O,O,O,O,O,O,O,O,O,O,O,O,O,O,O,O,O,O,O,O,O,O,O] rfl rfl (one_of HT_.out (by kernel_rfl)) (by decide) (fun K hK => ?_)
         refine goes_ Try.func38 (by kernel_rfl) rfl #[.agg #[.int .i64 a0_0, .slice A0_1 l0_1.length c0_1], .int .i64 (rd l1 x9_1)] (by rfl) rfl rfl (by (try simp only [List.map_toArray, List.map_cons, List.map_nil]); first | done | rfl | (simp only [List.length_drop, List.length_take]; rfl)) ?_
         with_reducible refine (impl_Complex_has.calls k1 a0_0 _ _ l0_1 (rd l1 x9_1) true _ ?side1 ?side2 A7.out).mono ?_
         (case side1 => repeat (first | exact (Kd.C_below HR0_1.out HB.out) | (with_reducible refine Kd.C_alloc ?_ _) | (with_reducible refine Kd.C_drewN ?_ _) | (with_reducible refine Kd.C_drew ?_)))
         (case side2 => exact HC0_1.out)
         rintro e w25 ⟨rfl, hb⟩
         refine ⟨_, rfl, ?_⟩
         have n0_ := Aside0.mk (blk_below (g := gb362) (o := .cells #[.int .i64 a0_0, .slice A0_1 l0_1.length c0_1] 26 (0, 0)) (by (with_reducible repeat (first | refine blk_drewN ?_ _ | refine blk_drew ?_ | refine blk_alloc ?_ _)); exact BK362.out) hb)
         have n1_ := Aside0.mk (below_step (by repeat (first | (with_reducible first | exact HB.out | apply below_alloc | apply pw_below_drewN | apply below_drew1 | refine below_set ?_ GE362.out) | exact HB.out)) hb)
         clear BK362
         clear HB
         have BK362 := n0_
         have HB := n1_
         clear n0_ n1_
         (try clear hb)
         (try clear hb2)
         (try clear hk)
         (try clear hi)
         refine hK.out _ _ ⟨(blk_cell BK362.out 0).trans rfl, (blk_cell BK362.out 1).trans rfl, ((HB.out.cell (World.block_lt_of_cell? w _ hw366_0)).trans hw366_0)⟩ (fun hHeld => ?_)
         clear hK K
         refine norm_ (a' := ?_) ?_ ?_
         rotate_left
         ·show Act.put _ (some 16) _ = _
          simp only [nm_]
          rfl
         refine pure_ (i := 3) (N := some 17) (v := ?_) (a' := ?_) #[U,U,U,U,O,O,O,O,O,O,O,O,O,O,O,O,O,O,O,O,O,O,O,O,O,O] rfl rfl (any_of HT_.out (by kernel_rfl)) (fun _ _ _ h => h) (Or.inl ⟨by rfl, ?_⟩) ?_ ?_
         rotate_left; · intro w'; go_simp; with_reducible rfl
         rotate_left; · simp only [nm_]; rfl
         refine pure_ (i := 4) (N := some 18) (v := ?_) (a' := ?_) #[U,U,U,U,U,O,O,O,O,O,O,O,O,O,O,O,O,O,O,O,O,O,O,O,O,O] rfl rfl (any_of HT_.out (by kernel_rfl)) (fun _ _ _ h => h) (Or.inl ⟨by rfl, ?_⟩) ?_ ?_
         rotate_left; · intro w'; go_simp; with_reducible rfl
         rotate_left; · simp only [nm_]; rfl
         refine pure_ (i := 5) (N := some 19) (v := ?_) (a' := ?_) #[U,U,U,U,U,U,O,O,O,O,O,O,O,O,O,O,O,O,O,O,O,O,O,O,O,O] rfl rfl (any_of HT_.out (by kernel_rfl)) (fun _ _ _ h => h) (Or.inl ⟨by rfl, ?_⟩) ?_ ?_
         rotate_left; · intro w'; go_simp; with_reducible rfl
         rotate_left; · simp only [nm_]; rfl
         refine pure_ (i := 7) (N := some 21) (v := ?_) (a' := ?_) #[U,U,U,U,U,U,O,U,O,O,O,O,O,O,O,O,O,O,O,O,O,O,O,O,O,O] rfl rfl (any_of HT_.out (by kernel_rfl)) (fun _ _ _ h => h) (Or.inl ⟨by rfl, ?_⟩) ?_ ?_
         rotate_left; · intro w'; go_simp; with_reducible rfl
         rotate_left; · simp only [nm_]; rfl
         refine pure_ (i := 8) (N := some 22) (v := ?_) (a' := ?_) #[U,U,U,U,U,U,O,U,U,O,O,O,O,O,O,O,O,O,O,O,O,O,O,O,O,O] rfl rfl (any_of HT_.out (by kernel_rfl)) (fun _ _ _ h => h) (Or.inl ⟨by rfl, ?_⟩) ?_ ?_
         rotate_left; · intro w'; go_simp; with_reducible rfl
         rotate_left; · simp only [nm_]; rfl
         refine take_ (i := 9) (N := some 23) (v := ?_) (a' := ?_) #[U,U,U,U,U,U,O,U,U,U,O,O,O,O,O,O,O,O,O,O,O,O,O,O,O,O] rfl rfl (take_ofW HT_.out HW_.out (by kernel_rfl)) (fun _ _ _ h => h) (Or.inl ⟨by rfl, ?_⟩) hHeld ?_ ?_
         rotate_left; · rintro w' ⟨s0, s1, s2⟩; go_simp; with_reducible rfl
         rotate_left; · simp only [nm_]; rfl
         refine one_ (i := 6) (N := some 20) #[U,U,U,U,U,U,U,U,U,U,O,O,O,O,O,O,O,O,O,O,O,O,O,O,O,O] rfl rfl (one_of HT_.out (by kernel_rfl)) (by decide) (fun K hK => ?_)
         refine goes_ Try.func46 (by kernel_rfl) rfl #[.int .i64 (rd l1 x9_1)] (by rfl) rfl rfl (by (try simp only [List.map_toArray, List.map_cons, List.map_nil]); first | done | rfl | (simp only [List.length_drop, List.length_take]; rfl)) ?_
         with_reducible refine (impl_size.calls (rd l1 x9_1) t365 _ A9.out).mono ?_
         rintro e w' ⟨rfl, ⟨nd, rfl⟩⟩
         refine ⟨_, rfl, ?_⟩
         refine hK.out _ _ ⟨(blk_cell BK362.out 0).trans rfl, (blk_cell BK362.out 1).trans rfl, ((HB.out.cell (World.block_lt_of_cell? w _ hw366_0)).trans hw366_0)⟩ (fun hHeld => ?_)
         clear hK K
         refine norm_ (a' := ?_) ?_ ?_
         rotate_left
         ·show Act.put _ (some 20) _ = _
          simp only [nm_]
          rfl
         refine one_ (i := 10) (N := some 24) #[U,U,U,U,U,U,U,U,U,U,U,O,O,O,O,O,O,O,O,O,O,O,O,O,O,O] rfl rfl (one_of HT_.out (by kernel_rfl)) (by decide) (fun K hK => ?_)
         refine goes_ Try.func46 (by kernel_rfl) rfl #[.int .i64 (rd l1 0)] (by rfl) rfl rfl (by (try simp only [List.map_toArray, List.map_cons, List.map_nil]); first | done | rfl | (simp only [List.length_drop, List.length_take]; rfl)) ?_
         with_reducible refine (impl_size.calls (rd l1 0) t367 _ A11.out).mono ?_
         rintro e w' ⟨rfl, ⟨nd, rfl⟩⟩
         refine ⟨_, rfl, ?_⟩
         refine hK.out _ _ ⟨(blk_cell BK362.out 0).trans rfl, (blk_cell BK362.out 1).trans rfl, ((HB.out.cell (World.block_lt_of_cell? w _ hw366_0)).trans hw366_0)⟩ (fun hHeld => ?_)
         clear hK K
         refine norm_ (a' := ?_) ?_ ?_
         rotate_left
         ·show Act.put _ (some 24) _ = _
          simp only [nm_]
          rfl
         refine pure_ (i := 11) (N := some 25) (v := ?_) (a' := ?_) #[U,U,U,U,U,U,U,U,U,U,U,U,O,O,O,O,O,O,O,O,O,O,O,O,O,O] rfl rfl (any_of HT_.out (by kernel_rfl)) (fun _ _ _ h => h) (Or.inl ⟨by rfl, ?_⟩) ?_ ?_
         rotate_left; · intro w'; go_simp; with_reducible rfl
         rotate_left; · simp only [nm_]; rfl
         refine pure_ (i := 12) (N := some 26) (v := ?_) (a' := ?_) #[U,U,U,U,U,U,U,U,U,U,U,U,U,O,O,O,O,O,O,O,O,O,O,O,O,O] rfl rfl (any_of HT_.out (by kernel_rfl)) (fun _ _ _ h => h) (Or.inl ⟨by rfl, ?_⟩) ?_ ?_
         rotate_left; · intro w'; go_simp; with_reducible rfl
         rotate_left; · simp only [nm_]; rfl
         refine pure_ (i := 13) (N := some 27) (v := ?_) (a' := ?_) #[U,U,U,U,U,U,U,U,U,U,U,U,U,U,O,O,O,O,O,O,O,O,O,O,O,O] rfl rfl (any_of HT_.out (by kernel_rfl)) (fun _ _ _ h => h) (Or.inl ⟨by rfl, ?_⟩) ?_ ?_
         rotate_left; · intro w'; go_simp; with_reducible rfl
         rotate_left; · simp only [nm_]; rfl
         refine pure_ (i := 14) (N := some 28) (v := undef) (a' := ?_) #[U,U,U,U,U,U,U,U,U,U,U,U,U,U,U,O,O,O,O,O,O,O,O,O,O,O] rfl rfl (any_of HT_.out (by kernel_rfl)) (fun _ _ _ h => h) (Or.inr ⟨by rfl, rfl⟩) ?_ ?_
         rotate_left; · simp only [nm_]; rfl
         refine pure_ (i := 15) (N := some 29) (v := undef) (a' := ?_) #[U,U,U,U,U,U,U,U,U,U,U,U,U,U,U,U,O,O,O,O,O,O,O,O,O,O] rfl rfl (any_of HT_.out (by kernel_rfl)) (fun _ _ _ h => h) (Or.inr ⟨by rfl, rfl⟩) ?_ ?_
         rotate_left; · simp only [nm_]; rfl
         refine pure_ (i := 16) (N := some 30) (v := undef) (a' := ?_) #[U,U,U,U,U,U,U,U,U,U,U,U,U,U,U,U,U,O,O,O,O,O,O,O,O,O] rfl rfl (any_of HT_.out (by kernel_rfl)) (fun _ _ _ h => h) (Or.inr ⟨by rfl, rfl⟩) ?_ ?_
         rotate_left; · simp only [nm_]; rfl
         refine pure_ (i := 17) (N := some 31) (v := undef) (a' := ?_) #[U,U,U,U,U,U,U,U,U,U,U,U,U,U,U,U,U,U,O,O,O,O,O,O,O,O] rfl rfl (any_of HT_.out (by kernel_rfl)) (fun _ _ _ h => h) (Or.inr ⟨by rfl, rfl⟩) ?_ ?_
         rotate_left; · simp only [nm_]; rfl
         refine pure_ (i := 18) (N := some 32) (v := undef) (a' := ?_) #[U,U,U,U,U,U,U,U,U,U,U,U,U,U,U,U,U,U,U,O,O,O,O,O,O,O] rfl rfl (any_of HT_.out (by kernel_rfl)) (fun _ _ _ h => h) (Or.inr ⟨by rfl, rfl⟩) ?_ ?_
         rotate_left; · simp only [nm_]; rfl
         refine pure_ (i := 19) (N := some 33) (v := undef) (a' := ?_) #[U,U,U,U,U,U,U,U,U,U,U,U,U,U,U,U,U,U,U,U,O,O,O,O,O,O] rfl rfl (any_of HT_.out (by kernel_rfl)) (fun _ _ _ h => h) (Or.inr ⟨by rfl, rfl⟩) ?_ ?_
         rotate_left; · simp only [nm_]; rfl
         refine pure_ (i := 20) (N := some 34) (v := undef) (a' := ?_) #[U,U,U,U,U,U,U,U,U,U,U,U,U,U,U,U,U,U,U,U,U,O,O,O,O,O] rfl rfl (any_of HT_.out (by kernel_rfl)) (fun _ _ _ h => h) (Or.inr ⟨by rfl, rfl⟩) ?_ ?_
         rotate_left; · simp only [nm_]; rfl
         refine pure_ (i := 21) (N := some 35) (v := undef) (a' := ?_) #[U,U,U,U,U,U,U,U,U,U,U,U,U,U,U,U,U,U,U,U,U,U,O,O,O,O] rfl rfl (any_of HT_.out (by kernel_rfl)) (fun _ _ _ h => h) (Or.inr ⟨by rfl, rfl⟩) ?_ ?_
         rotate_left; · simp only [nm_]; rfl
         refine pure_ (i := 22) (N := some 36) (v := undef) (a' := ?_) #[U,U,U,U,U,U,U,U,U,U,U,U,U,U,U,U,U,U,U,U,U,U,U,O,O,O] rfl rfl (any_of HT_.out (by kernel_rfl)) (fun _ _ _ h => h) (Or.inr ⟨by rfl, rfl⟩) ?_ ?_
         rotate_left; · simp only [nm_]; rfl
         refine pure_ (i := 23) (N := some 37) (v := undef) (a' := ?_) #[U,U,U,U,U,U,U,U,U,U,U,U,U,U,U,U,U,U,U,U,U,U,U,U,O,O] rfl rfl (any_of HT_.out (by kernel_rfl)) (fun _ _ _ h => h) (Or.inr ⟨by rfl, rfl⟩) ?_ ?_
         rotate_left; · simp only [nm_]; rfl
         refine pure_ (i := 24) (N := some 38) (v := undef) (a' := ?_) #[U,U,U,U,U,U,U,U,U,U,U,U,U,U,U,U,U,U,U,U,U,U,U,U,U,O] rfl rfl (any_of HT_.out (by kernel_rfl)) (fun _ _ _ h => h) (Or.inr ⟨by rfl, rfl⟩) ?_ ?_
         rotate_left; · simp only [nm_]; rfl
         refine pure_ (i := 25) (N := some 39) (v := ?_) (a' := ?_) #[U,U,U,U,U,U,U,U,U,U,U,U,U,U,U,U,U,U,U,U,U,U,U,U,U,U] rfl rfl (any_of HT_.out (by kernel_rfl)) (fun _ _ _ h => h) (Or.inl ⟨by rfl, ?_⟩) ?_ ?_
         rotate_left; · intro w'; go_simp; with_reducible rfl
         rotate_left; · simp only [nm_]; rfl
         refine done_ (done_of HT_.out (by kernel_rfl)) ?_
         try go_wp2
         go_ret
         exact ⟨by first | rfl | (simp [errW_none, errW_some] <;> rfl) | (simp [*, errW_none, errW_some] <;> rfl), by repeat (first | (with_reducible first | exact HB.out | apply below_alloc | apply pw_below_drewN | apply below_drew1 | refine below_set ?_ GE362.out) | exact HB.out)⟩
       ·rw [if_neg c10] at H
        exact absurd H (by simp)
      ·replace c8 := Bool.eq_false_iff.mpr c8
       subst c8
       have H1 : (some false) = some r := by rw [if_neg (show ¬ (false = true) by decide)] at H; exact H
       clear H
       have H := H1
       clear H1
       obtain rfl := Option.some.inj H
       have p363 : 0 ≤ (x9_1 : Int) := of_decide_eq_true (by first | (with_reducible assumption) | assumption)
       have q363 : x9_1 < (l1.length : Int) := of_decide_eq_true (by first | (with_reducible assumption) | assumption)
       obtain ⟨ad363, e363, hx363_0⟩ := Kd.at_int HR1.out x9_1 p363 q363
       cases e363
       replace hx363_0 := (HB.out.cell (World.block_lt_of_cell? w _ hx363_0)).trans hx363_0
       replace p363 := eq_true p363
       replace q363 := eq_true q363
       try go_wp2
       have n0_ := Aside0.mk (blk_drew BK362.out)
       have n1_ := Aside0.mk (below_drew1 HB.out)
       clear BK362
       clear HB
       have BK362 := n0_
       have HB := n1_
       clear n0_ n1_
       refine start_ (n := 26) (S := fun w' => w'.cell? ⟨gb362, 0, none⟩ = some (.int .i64 a0_0) ∧ w'.cell? ⟨gb362, 1, none⟩ = some (.slice A0_1 l0_1.length c0_1)) (ds := []) #[O,O,O,O,O,O,O,O,O,O,O,O,O,O,O,O,O,O,O,O,O,O,O,O,O,O] (by kernel_rfl) rfl rfl ⟨(blk_cell BK362.out 0).trans rfl, (blk_cell BK362.out 1).trans rfl⟩ (fun hHeld => ?_); refine with_tabW impl_Complex_isChain.tab4 impl_Complex_isChain.bits4 (fun HT_ HW_ => ?_)
       generalize wr.drew = w26 at BK362 HB hHeld ⊢
       refine pure_ (i := 1) (N := some 15) (v := ?_) (a' := ?_) #[O,U,O,O,O,O,O,O,O,O,O,O,O,O,O,O,O,O,O,O,O,O,O,O,O,O] rfl rfl (any_of HT_.out (by kernel_rfl)) (fun _ _ _ h => h) (Or.inl ⟨by rfl, ?_⟩) ?_ ?_
       rotate_left; · intro w'; go_simp; with_reducible rfl
       rotate_left; · simp only [nm_]; rfl
       refine take_ (i := 0) (N := some 14) (v := ?_) (a' := ?_) #[U,U,O,O,O,O,O,O,O,O,O,O,O,O,O,O,O,O,O,O,O,O,O,O,O,O] rfl rfl (take_ofW HT_.out HW_.out (by kernel_rfl)) (fun _ _ _ h => h) (Or.inl ⟨by rfl, ?_⟩) hHeld ?_ ?_
       rotate_left; · rintro w' ⟨s0, s1⟩; go_simp; with_reducible rfl
       rotate_left; · simp only [nm_]; rfl
       refine one_ (i := 2) (N := some 16) #[U,U,U,O,O,O,O,O,O,O,O,O,O,O,O,O,O,O,O,O,O,O,O,O,O,O] rfl rfl (one_of HT_.out (by kernel_rfl)) (by decide) (fun K hK => ?_)
       refine goes_ Try.func38 (by kernel_rfl) rfl #[.agg #[.int .i64 a0_0, .slice A0_1 l0_1.length c0_1], .int .i64 (rd l1 x9_1)] (by rfl) rfl rfl (by (try simp only [List.map_toArray, List.map_cons, List.map_nil]); first | done | rfl | (simp only [List.length_drop, List.length_take]; rfl)) ?_
       with_reducible refine (impl_Complex_has.calls k1 a0_0 _ _ l0_1 (rd l1 x9_1) false _ ?side1 ?side2 A7.out).mono ?_
       (case side1 => repeat (first | exact (Kd.C_below HR0_1.out HB.out) | (with_reducible refine Kd.C_alloc ?_ _) | (with_reducible refine Kd.C_drewN ?_ _) | (with_reducible refine Kd.C_drew ?_)))
       (case side2 => exact HC0_1.out)
       rintro e w27 ⟨rfl, hb⟩
       refine ⟨_, rfl, ?_⟩
       have n0_ := Aside0.mk (blk_below (g := gb362) (o := .cells #[.int .i64 a0_0, .slice A0_1 l0_1.length c0_1] 26 (0, 0)) (by (with_reducible repeat (first | refine blk_drewN ?_ _ | refine blk_drew ?_ | refine blk_alloc ?_ _)); exact BK362.out) hb)
       have n1_ := Aside0.mk (below_step (by repeat (first | (with_reducible first | exact HB.out | apply below_alloc | apply pw_below_drewN | apply below_drew1 | refine below_set ?_ GE362.out) | exact HB.out)) hb)
       clear BK362
       clear HB
       have BK362 := n0_
       have HB := n1_
       clear n0_ n1_
       (try clear hb)
       (try clear hb2)
       (try clear hk)
       (try clear hi)
       refine hK.out _ _ ⟨(blk_cell BK362.out 0).trans rfl, (blk_cell BK362.out 1).trans rfl⟩ (fun hHeld => ?_)
       clear hK K
       refine norm_ (a' := ?_) ?_ ?_
       rotate_left
       ·show Act.put _ (some 16) _ = _
        simp only [nm_]
        rfl
       refine pure_ (i := 3) (N := some 17) (v := ?_) (a' := ?_) #[U,U,U,U,O,O,O,O,O,O,O,O,O,O,O,O,O,O,O,O,O,O,O,O,O,O] rfl rfl (any_of HT_.out (by kernel_rfl)) (fun _ _ _ h => h) (Or.inl ⟨by rfl, ?_⟩) ?_ ?_
       rotate_left; · intro w'; go_simp; with_reducible rfl
       rotate_left; · simp only [nm_]; rfl
       refine pure_ (i := 4) (N := some 18) (v := ?_) (a' := ?_) #[U,U,U,U,U,O,O,O,O,O,O,O,O,O,O,O,O,O,O,O,O,O,O,O,O,O] rfl rfl (any_of HT_.out (by kernel_rfl)) (fun _ _ _ h => h) (Or.inl ⟨by rfl, ?_⟩) ?_ ?_
       rotate_left; · intro w'; go_simp; with_reducible rfl
       rotate_left; · simp only [nm_]; rfl
       refine pure_ (i := 5) (N := some 19) (v := undef) (a' := ?_) #[U,U,U,U,U,U,O,O,O,O,O,O,O,O,O,O,O,O,O,O,O,O,O,O,O,O] rfl rfl (any_of HT_.out (by kernel_rfl)) (fun _ _ _ h => h) (Or.inr ⟨by rfl, rfl⟩) ?_ ?_
       rotate_left; · simp only [nm_]; rfl
       refine pure_ (i := 6) (N := some 20) (v := undef) (a' := ?_) #[U,U,U,U,U,U,U,O,O,O,O,O,O,O,O,O,O,O,O,O,O,O,O,O,O,O] rfl rfl (any_of HT_.out (by kernel_rfl)) (fun _ _ _ h => h) (Or.inr ⟨by rfl, rfl⟩) ?_ ?_
       rotate_left; · simp only [nm_]; rfl
       refine pure_ (i := 7) (N := some 21) (v := undef) (a' := ?_) #[U,U,U,U,U,U,U,U,O,O,O,O,O,O,O,O,O,O,O,O,O,O,O,O,O,O] rfl rfl (any_of HT_.out (by kernel_rfl)) (fun _ _ _ h => h) (Or.inr ⟨by rfl, rfl⟩) ?_ ?_
       rotate_left; · simp only [nm_]; rfl
       refine pure_ (i := 8) (N := some 22) (v := undef) (a' := ?_) #[U,U,U,U,U,U,U,U,U,O,O,O,O,O,O,O,O,O,O,O,O,O,O,O,O,O] rfl rfl (any_of HT_.out (by kernel_rfl)) (fun _ _ _ h => h) (Or.inr ⟨by rfl, rfl⟩) ?_ ?_
       rotate_left; · simp only [nm_]; rfl
       refine pure_ (i := 9) (N := some 23) (v := undef) (a' := ?_) #[U,U,U,U,U,U,U,U,U,U,O,O,O,O,O,O,O,O,O,O,O,O,O,O,O,O] rfl rfl (any_of HT_.out (by kernel_rfl)) (fun _ _ _ h => h) (Or.inr ⟨by rfl, rfl⟩) ?_ ?_
       rotate_left; · simp only [nm_]; rfl
       refine pure_ (i := 10) (N := some 24) (v := undef) (a' := ?_) #[U,U,U,U,U,U,U,U,U,U,U,O,O,O,O,O,O,O,O,O,O,O,O,O,O,O] rfl rfl (any_of HT_.out (by kernel_rfl)) (fun _ _ _ h => h) (Or.inr ⟨by rfl, rfl⟩) ?_ ?_
       rotate_left; · simp only [nm_]; rfl
       refine pure_ (i := 11) (N := some 25) (v := undef) (a' := ?_) #[U,U,U,U,U,U,U,U,U,U,U,U,O,O,O,O,O,O,O,O,O,O,O,O,O,O] rfl rfl (any_of HT_.out (by kernel_rfl)) (fun _ _ _ h => h) (Or.inr ⟨by rfl, rfl⟩) ?_ ?_
       rotate_left; · simp only [nm_]; rfl
       refine pure_ (i := 12) (N := some 26) (v := ?_) (a' := ?_) #[U,U,U,U,U,U,U,U,U,U,U,U,U,O,O,O,O,O,O,O,O,O,O,O,O,O] rfl rfl (any_of HT_.out (by kernel_rfl)) (fun _ _ _ h => h) (Or.inl ⟨by rfl, ?_⟩) ?_ ?_
       rotate_left; · intro w'; go_simp; with_reducible rfl
       rotate_left; · simp only [nm_]; rfl
       refine pure_ (i := 13) (N := some 27) (v := ?_) (a' := ?_) #[U,U,U,U,U,U,U,U,U,U,U,U,U,U,O,O,O,O,O,O,O,O,O,O,O,O] rfl rfl (any_of HT_.out (by kernel_rfl)) (fun _ _ _ h => h) (Or.inl ⟨by rfl, ?_⟩) ?_ ?_
       rotate_left; · intro w'; go_simp; with_reducible rfl
       rotate_left; · simp only [nm_]; rfl
       refine pure_ (i := 14) (N := some 28) (v := undef) (a' := ?_) #[U,U,U,U,U,U,U,U,U,U,U,U,U,U,U,O,O,O,O,O,O,O,O,O,O,O] rfl rfl (any_of HT_.out (by kernel_rfl)) (fun _ _ _ h => h) (Or.inr ⟨by rfl, rfl⟩) ?_ ?_
       rotate_left; · simp only [nm_]; rfl
       refine pure_ (i := 15) (N := some 29) (v := undef) (a' := ?_) #[U,U,U,U,U,U,U,U,U,U,U,U,U,U,U,U,O,O,O,O,O,O,O,O,O,O] rfl rfl (any_of HT_.out (by kernel_rfl)) (fun _ _ _ h => h) (Or.inr ⟨by rfl, rfl⟩) ?_ ?_
       rotate_left; · simp only [nm_]; rfl
       refine pure_ (i := 16) (N := some 30) (v := undef) (a' := ?_) #[U,U,U,U,U,U,U,U,U,U,U,U,U,U,U,U,U,O,O,O,O,O,O,O,O,O] rfl rfl (any_of HT_.out (by kernel_rfl)) (fun _ _ _ h => h) (Or.inr ⟨by rfl, rfl⟩) ?_ ?_
       rotate_left; · simp only [nm_]; rfl
       refine pure_ (i := 17) (N := some 31) (v := undef) (a' := ?_) #[U,U,U,U,U,U,U,U,U,U,U,U,U,U,U,U,U,U,O,O,O,O,O,O,O,O] rfl rfl (any_of HT_.out (by kernel_rfl)) (fun _ _ _ h => h) (Or.inr ⟨by rfl, rfl⟩) ?_ ?_
       rotate_left; · simp only [nm_]; rfl
       refine pure_ (i := 18) (N := some 32) (v := undef) (a' := ?_) #[U,U,U,U,U,U,U,U,U,U,U,U,U,U,U,U,U,U,U,O,O,O,O,O,O,O] rfl rfl (any_of HT_.out (by kernel_rfl)) (fun _ _ _ h => h) (Or.inr ⟨by rfl, rfl⟩) ?_ ?_
       rotate_left; · simp only [nm_]; rfl
       refine pure_ (i := 19) (N := some 33) (v := undef) (a' := ?_) #[U,U,U,U,U,U,U,U,U,U,U,U,U,U,U,U,U,U,U,U,O,O,O,O,O,O] rfl rfl (any_of HT_.out (by kernel_rfl)) (fun _ _ _ h => h) (Or.inr ⟨by rfl, rfl⟩) ?_ ?_
       rotate_left; · simp only [nm_]; rfl
       refine pure_ (i := 20) (N := some 34) (v := undef) (a' := ?_) #[U,U,U,U,U,U,U,U,U,U,U,U,U,U,U,U,U,U,U,U,U,O,O,O,O,O] rfl rfl (any_of HT_.out (by kernel_rfl)) (fun _ _ _ h => h) (Or.inr ⟨by rfl, rfl⟩) ?_ ?_
       rotate_left; · simp only [nm_]; rfl
       refine pure_ (i := 21) (N := some 35) (v := undef) (a' := ?_) #[U,U,U,U,U,U,U,U,U,U,U,U,U,U,U,U,U,U,U,U,U,U,O,O,O,O] rfl rfl (any_of HT_.out (by kernel_rfl)) (fun _ _ _ h => h) (Or.inr ⟨by rfl, rfl⟩) ?_ ?_
       rotate_left; · simp only [nm_]; rfl
       refine pure_ (i := 22) (N := some 36) (v := undef) (a' := ?_) #[U,U,U,U,U,U,U,U,U,U,U,U,U,U,U,U,U,U,U,U,U,U,U,O,O,O] rfl rfl (any_of HT_.out (by kernel_rfl)) (fun _ _ _ h => h) (Or.inr ⟨by rfl, rfl⟩) ?_ ?_
       rotate_left; · simp only [nm_]; rfl
       refine pure_ (i := 23) (N := some 37) (v := undef) (a' := ?_) #[U,U,U,U,U,U,U,U,U,U,U,U,U,U,U,U,U,U,U,U,U,U,U,U,O,O] rfl rfl (any_of HT_.out (by kernel_rfl)) (fun _ _ _ h => h) (Or.inr ⟨by rfl, rfl⟩) ?_ ?_
       rotate_left; · simp only [nm_]; rfl
       refine pure_ (i := 24) (N := some 38) (v := undef) (a' := ?_) #[U,U,U,U,U,U,U,U,U,U,U,U,U,U,U,U,U,U,U,U,U,U,U,U,U,O] rfl rfl (any_of HT_.out (by kernel_rfl)) (fun _ _ _ h => h) (Or.inr ⟨by rfl, rfl⟩) ?_ ?_
       rotate_left; · simp only [nm_]; rfl
       refine pure_ (i := 25) (N := some 39) (v := ?_) (a' := ?_) #[U,U,U,U,U,U,U,U,U,U,U,U,U,U,U,U,U,U,U,U,U,U,U,U,U,U] rfl rfl (any_of HT_.out (by kernel_rfl)) (fun _ _ _ h => h) (Or.inl ⟨by rfl, ?_⟩) ?_ ?_
       rotate_left; · intro w'; go_simp; with_reducible rfl
       rotate_left; · simp only [nm_]; rfl
       refine done_ (done_of HT_.out (by kernel_rfl)) ?_
       try go_wp2
       go_ret
       exact ⟨by first | rfl | (simp [errW_none, errW_some] <;> rfl) | (simp [*, errW_none, errW_some] <;> rfl), by repeat (first | (with_reducible first | exact HB.out | apply below_alloc | apply pw_below_drewN | apply below_drew1 | refine below_set ?_ GE362.out) | exact HB.out)⟩
     ·rw [if_neg c6] at H
      exact absurd H (by simp)
    ·rw [if_neg c5] at H
     exact absurd H (by simp)
   ·rw [if_neg c4] at H
    have c4b0 : decide (x9_1 < (l1.length : Int)) = false := decide_eq_false c4
    clear c4
    obtain rfl := Option.some.inj H
    go_wp2
    go_ret
    exact ⟨by first | rfl | (simp [errW_none, errW_some] <;> rfl) | (simp [*, errW_none, errW_some] <;> rfl), by repeat (first | (with_reducible first | exact HB.out | apply below_alloc | apply pw_below_drewN | apply below_drew1 | refine below_set ?_ GE362.out) | exact HB.out)⟩

end Go.Proofs.Ytjoggjgmpoaaiaa.Q
end

section
/- Written by a program of this session (myprint.py over the kit's print). -/
namespace Go.Proofs.Ytjoggjgmpoaaiaa.Q
open Go.RowKit Go.Proofs.YtjoggjgmpoaaiaaW.PrintWords Go.Proofs.YtjoggjgmpoaaiaaW.PrintLast Go.Proofs.YtjoggjgmpoaaiaaW.PrintMore
attribute [local go_sem] max2_int min2_int max_two min_two max_three min_three max_four min_four   -- for this text's walks alone
set_option linter.unusedVariables false
set_option linter.unusedSimpArgs false

/-! ### spec_l03Chain: function 39 -/
def spec_l03Chain.l0 : Nat → List Int → Int → Int → List Int → Option (Int)
 | 0, _, _, _, _ => none
 | k + 1, x1, x5, x195000, x195001 => if x5 < (x1.length : Int) then (if 0 ≤ x5 then ((spec_l01Has.f k x195000 x195001 (rd x1 x5)).bind fun t197 => (if t197 = true then (if x5 > 0 then (if 0 ≤ (wrap64 (x5 - 1)) then (if (wrap64 (x5 - 1)) < (x1.length : Int) then (if (rd x1 x5) ≤ (rd x1 (wrap64 (x5 - 1))) then (some 2) else ((spec_l01Ones.f k (rd x1 x5)).bind fun t201 => (if 0 < (x1.length : Int) then ((spec_l01Ones.f k (rd x1 0)).bind fun t203 => (if t201 = t203 then (spec_l03Chain.l0 k x1 (wrap64 (x5 + 1)) x195000 x195001) else (some 2))) else (none)))) else (none)) else (none)) else (spec_l03Chain.l0 k x1 (wrap64 (x5 + 1)) x195000 x195001)) else (some 2))) else (none)) else (some 0)
def spec_l03Chain.f (k : Nat) (a0_0 : Int) (l0_1 : List Int) (l1 : List Int) : Option (Int) := (spec_l01Is.f k a0_0 l0_1).bind fun t195 => (if t195 = true then (spec_l03Chain.l0 k l1 0 a0_0 l0_1) else (some 1))
theorem spec_l03Chain.mono_l : ∀ k, (∀ y0 y1 y2 y3, LeO (spec_l03Chain.l0 k y0 y1 y2 y3) (spec_l03Chain.l0 (k + 1) y0 y1 y2 y3))
 | 0 => fun _ _ _ _ r h => by simp [spec_l03Chain.l0] at h
 | k + 1 => by
  have ih0 := spec_l03Chain.mono_l k
  ·intro y0 y1 y2 y3
   unfold spec_l03Chain.l0
   repeat' first
   | (with_reducible exact ih0 _ _ _ _)
   | (with_reducible exact spec_l01Has.mono _ _ _ _)
   | (with_reducible exact spec_l01Is.mono _ _ _)
   | (with_reducible exact spec_l01Ones.mono _ _)
   | (with_reducible exact LeO.refl _)
   | (with_reducible exact LeO.none _)
   | (with_reducible refine LeO.ite ?_ ?_)
   | (with_reducible refine LeO.bind ?_ (fun _ => ?_))
   | exact ih0 _ _ _ _
   | exact spec_l01Has.mono _ _ _ _
   | exact spec_l01Is.mono _ _ _
   | exact spec_l01Ones.mono _ _
   | exact LeO.none _
   | refine LeO.ite ?_ ?_
   | refine LeO.bind ?_ (fun _ => ?_)
theorem spec_l03Chain.mono : ∀ a0 a1 a2 k, LeO (spec_l03Chain.f k a0 a1 a2) (spec_l03Chain.f (k + 1) a0 a1 a2) := by
 intro a0 a1 a2 k
 have ih0 := spec_l03Chain.mono_l k
 unfold spec_l03Chain.f
 repeat' first
   | (with_reducible exact ih0 _ _ _ _)
   | (with_reducible exact spec_l01Has.mono _ _ _ _)
   | (with_reducible exact spec_l01Is.mono _ _ _)
   | (with_reducible exact spec_l01Ones.mono _ _)
   | (with_reducible exact LeO.refl _)
   | (with_reducible exact LeO.none _)
   | (with_reducible refine LeO.ite ?_ ?_)
   | (with_reducible refine LeO.bind ?_ (fun _ => ?_))
   | exact ih0 _ _ _ _
   | exact spec_l01Has.mono _ _ _ _
   | exact spec_l01Is.mono _ _ _
   | exact spec_l01Ones.mono _ _
   | exact LeO.none _
   | refine LeO.ite ?_ ?_
   | refine LeO.bind ?_ (fun _ => ?_)
def spec_l03Chain.T6 : Bool × List (List Nat × List Nat) := (true, [([], []), ([], []), ([], []), ([1, 2], [1, 2]), ([3], [3]), ([0, 4], [0, 4]), ([5], [5]), ([6, 5], [6]), ([7], [7]), ([8, 7], [7, 8]), ([9, 7, 7], [7, 9]), ([10], [10]), ([10], [10]), ([11, 12, 10], [10, 11, 12]), ([13, 10], [10, 13]), ([10], [10]), ([10], [10]), ([16, 10], [10, 16]), ([15, 17, 10], [10, 15, 17]), ([18, 10], [10, 18]), ([14, 19, 10], [10, 14, 19]), ([20, 10, 10], [10, 20]), ([21], [21]), ([21], [21]), ([22, 23, 21], [21, 22, 23]), ([24, 21], [21, 24]), ([25, 21, 21], [21, 25]), ([21], [21]), ([27, 21], [21, 27]), ([28, 21], [21, 28]), ([29, 26, 21], [21, 29]), ([26, 30, 21], [21, 26, 30]), ([21, 31, 10], [10, 21, 31]), ([10, 32, 7], [7, 10, 32]), ([7, 33], [7, 33])])
def spec_l03Chain.B6 : List Nat := [0, 0, 0, 6, 14, 31, 63, 127, 255, 511, 1023, 2047, 2047, 8191, 16383, 2047, 2047, 67583, 231423, 493567, 1048575, 2097151, 4194303, 4194303, 16777215, 33554431, 67108863, 4194303, 138412031, 406847487, 1073741823, 2147483647, 4294967295, 8589934591, 17179869183]
theorem spec_l03Chain.tab6 : rtab .any (opsOf Try.f39 6) = spec_l03Chain.T6 := by kernel_rfl
theorem spec_l03Chain.bits6 : waitsOk spec_l03Chain.T6.2 spec_l03Chain.B6 = true := by kernel_rfl
set_option maxHeartbeats 8000000 in
set_option maxRecDepth 100000 in
theorem spec_l03Chain.calls (k : Nat) (a0_0 : Int) (A0_1 : Option Addr) (c0_1 : Nat) (l0_1 : List Int) (A1 : Option Addr) (c1 : Nat) (l1 : List Int) (r : Int) (w : World) (hr0_1 : Kd.C (Kd.int .i64) w A0_1 l0_1.length l0_1) (hc0_1 : l0_1.length ≤ c0_1) (hr1 : Kd.C (Kd.int .i64) w A1 l1.length l1) (hc1 : l1.length ≤ c1) (h : spec_l03Chain.f k a0_0 l0_1 l1 = some r) :
  Calls Try.prog 39 #[.agg #[.int .i64 a0_0, .slice A0_1 l0_1.length c0_1], .slice A1 l1.length c1] w fun e w' => e = .returned (.int .i64 r) ∧ Below w.heap.size w w' := by
 have hu26 := Try.underlying26
 have HR0_1 := Aside0.mk hr0_1
 have HC0_1 := Aside0.mk hc0_1
 clear hr0_1 hc0_1
 have HR1 := Aside0.mk hr1
 have HC1 := Aside0.mk hc1
 clear hr1 hc1
 have HB := Aside0.mk (Below.refl w.heap.size w)
 have H : ((spec_l01Is.f k a0_0 l0_1).bind fun t195 => (if t195 = true then (spec_l03Chain.l0 k l1 0 a0_0 l0_1) else (some 1))) = some r := h
 clear h
 replace H := Option.bind_eq_some_iff.mp H
 obtain ⟨t195, A30, H⟩ := H
 replace H : (if t195 = true then (spec_l03Chain.l0 k l1 0 a0_0 l0_1) else (some 1)) = some r := H
 have A3 := Aside0.mk A30
 clear A30
 by_cases c4 : t195 = true
 ·subst c4
  have H1 : (spec_l03Chain.l0 k l1 0 a0_0 l0_1) = some r := by rw [if_pos rfl] at H; exact H
  clear H
  have H := H1
  clear H1
  have H' := Aside0.mk H
  clear H
  go_enter Try.func39, Try.ntmps39
  go_wp2_with (first | ((with_reducible refine gate_dst (N := 2) rfl ?_); refine box_event ?hg (N := 2) ?hd (cs := #[.int .i64 a0_0, .slice A0_1 l0_1.length c0_1]) (t := 26) ?hr ?_; (case hd => rfl); (case hg => rfl); (case hr => first | (go_simp; done) | (go_simp; rfl)); intro gb194 hg w5 hbox hb; have n0_ := Aside0.mk (below_step (by repeat (first | (with_reducible first | exact HB.out | apply below_alloc | apply pw_below_drewN | apply below_drew1) | exact HB.out)) hb); have n1_ := Aside0.mk (hbox); have n2_ := Aside0.mk ((by rw [hg]; exact (below_size (by repeat (first | (with_reducible first | exact HB.out | apply below_alloc | apply pw_below_drewN | apply below_drew1) | exact HB.out))) : w.heap.size ≤ gb194)); have n3_ := Aside0.mk ((by rw [hg]; exact (below_size (by repeat (first | (with_reducible first | exact HB.out | apply below_alloc | apply pw_below_drewN | apply below_drew1) | exact HB.out))) : w.heap.size ≤ gb194)); clear HB; have HB := n0_; have BK194 := n1_; have GW194 := n2_; have GE194 := n3_; clear n0_ n1_ n2_ n3_; clear hb hbox hg; have hcz6_0 : w5.cell? ⟨gb194, 0, none⟩ = some (.int .i64 a0_0) := (blk_cell BK194.out 0).trans rfl; have hcz6_1 : w5.cell? ⟨gb194, 1, none⟩ = some (.slice A0_1 l0_1.length c0_1) := (blk_cell BK194.out 1).trans rfl; have hfz6_0 := blk_frozen BK194.out 0; have hfz6_1 := blk_frozen BK194.out 1) | ((with_reducible refine gate_callee (f := 24) rfl ?_); refine goesL_ (some 7) rfl rfl Try.func24 (by kernel_rfl) rfl #[.agg #[.int .i64 a0_0, .slice A0_1 l0_1.length c0_1]] rfl (by (try simp only [List.map_toArray, List.map_cons, List.map_nil]); first | done | rfl | (simp only [List.length_drop, List.length_take]; rfl)) ?_; (with_reducible refine (spec_l01Is.calls k a0_0 _ _ l0_1 true _ ?side1 ?side2 A3.out).mono ?_); (case side1 => repeat (first | exact (Kd.C_below HR0_1.out HB.out) | (with_reducible refine Kd.C_alloc ?_ _) | (with_reducible refine Kd.C_drewN ?_ _) | (with_reducible refine Kd.C_drew ?_))); (case side2 => exact HC0_1.out); rintro e w7 ⟨rfl, hb⟩; refine ⟨_, rfl, ?_⟩; have n0_ := Aside0.mk (blk_below (g := gb194) (o := .cells #[.int .i64 a0_0, .slice A0_1 l0_1.length c0_1] 26 (0, 0)) (by (with_reducible repeat (first | refine blk_drewN ?_ _ | refine blk_drew ?_ | refine blk_alloc ?_ _)); exact BK194.out) hb); have n1_ := Aside0.mk (below_step (by repeat (first | (with_reducible first | exact HB.out | apply below_alloc | apply pw_below_drewN | apply below_drew1 | refine below_set ?_ GE194.out) | exact HB.out)) hb); clear BK194; clear HB; have BK194 := n0_; have HB := n1_; clear n0_ n1_; (try clear hb); (try clear hb2); (try clear hk); (try clear hi)))
  go_loopg [5] k (fun kq v5 w' => ∃ (x5_1 : Int), v5 = .int .i64 x5_1 ∧ Aside0 (spec_l03Chain.l0 kq l1 x5_1 a0_0 l0_1 = some r) ∧ Aside0 (kq ≤ k) ∧ Aside0 (w'.heap[gb194]? = some (.cells #[.int .i64 a0_0, (.slice A0_1 l0_1.length c0_1)] 26 (0, 0))) ∧ Aside0 (Below w.heap.size w w'))
  case atStart => exact ⟨(0), (by first | rfl | (simp; done) | (simp [*]; done)), H', ⟨Nat.le_refl _⟩, ⟨by (with_reducible repeat (first | refine blk_drewN ?_ _ | refine blk_drew ?_ | refine blk_alloc ?_ _)); exact BK194.out⟩, ⟨by repeat (first | (with_reducible first | exact HB.out | apply below_alloc | apply pw_below_drewN | apply below_drew1 | refine below_set ?_ GE194.out) | exact HB.out)⟩⟩
  case round =>
   clear H'
   try clear c1
   try clear c2
   try clear p2
   try clear c3
   try clear c4
   try clear hcz6_0
   try clear hcz6_1
   try clear hfz6_0
   try clear hfz6_1
   obtain ⟨x5_1, rfl, HA, HK1, BK194, HB⟩ := hrel
   cases gk with
   | zero => exact absurd HA.out (by simp [spec_l03Chain.l0])
   | succ k1 =>
    have H := HA.out
    clear HA
    simp only [spec_l03Chain.l0] at H
    by_cases c8 : x5_1 < (l1.length : Int)
    ·rw [if_pos c8] at H
     have c8b0 : decide (x5_1 < (l1.length : Int)) = true := decide_eq_true c8
     clear c8
     by_cases c9 : 0 ≤ x5_1
     ·rw [if_pos c9] at H
      have c9b0 : decide (0 ≤ x5_1) = true := decide_eq_true c9
      clear c9
      replace H := Option.bind_eq_some_iff.mp H
      obtain ⟨t197, A100, H⟩ := H
      replace H : (if t197 = true then (if x5_1 > 0 then (if 0 ≤ (wrap64 (x5_1 - 1)) then (if (wrap64 (x5_1 - 1)) < (l1.length : Int) then (if (rd l1 x5_1) ≤ (rd l1 (wrap64 (x5_1 - 1))) then (some 2) else ((spec_l01Ones.f k1 (rd l1 x5_1)).bind fun t201 => (if 0 < (l1.length : Int) then ((spec_l01Ones.f k1 (rd l1 0)).bind fun t203 => (if t201 = t203 then (spec_l03Chain.l0 k1 l1 (wrap64 (x5_1 + 1)) a0_0 l0_1) else (some 2))) else (none)))) else (none)) else (none)) else (spec_l03Chain.l0 k1 l1 (wrap64 (x5_1 + 1)) a0_0 l0_1)) else (some 2)) = some r := H
      have A10 := Aside0.mk A100
      clear A100
      by_cases c11 : t197 = true
      ·subst c11
       have H1 : (if x5_1 > 0 then (if 0 ≤ (wrap64 (x5_1 - 1)) then (if (wrap64 (x5_1 - 1)) < (l1.length : Int) then (if (rd l1 x5_1) ≤ (rd l1 (wrap64 (x5_1 - 1))) then (some 2) else ((spec_l01Ones.f k1 (rd l1 x5_1)).bind fun t201 => (if 0 < (l1.length : Int) then ((spec_l01Ones.f k1 (rd l1 0)).bind fun t203 => (if t201 = t203 then (spec_l03Chain.l0 k1 l1 (wrap64 (x5_1 + 1)) a0_0 l0_1) else (some 2))) else (none)))) else (none)) else (none)) else (spec_l03Chain.l0 k1 l1 (wrap64 (x5_1 + 1)) a0_0 l0_1)) = some r := by rw [if_pos rfl] at H; exact H
       clear H
       have H := H1
       clear H1
       by_cases c12 : x5_1 > 0
       ·rw [if_pos c12] at H
        have c12b0 : decide (0 < x5_1) = true := decide_eq_true c12
        clear c12
        obtain ⟨ji13, hji13⟩ : ∃ j_ : Int, (wrap64 (x5_1 - 1)) = j_ := ⟨_, rfl⟩
        replace H : (if 0 ≤ (ji13) then (if (ji13) < (l1.length : Int) then (if (rd l1 x5_1) ≤ (rd l1 (ji13)) then (some 2) else ((spec_l01Ones.f k1 (rd l1 x5_1)).bind fun t201 => (if 0 < (l1.length : Int) then ((spec_l01Ones.f k1 (rd l1 0)).bind fun t203 => (if t201 = t203 then (spec_l03Chain.l0 k1 l1 (wrap64 (x5_1 + 1)) a0_0 l0_1) else (some 2))) else (none)))) else (none)) else (none)) = some r := by first | (rw [hji13] at H; exact H) | (simp only [hji13] at H ⊢; exact H)
        (try rw [hji13] at A10)
        have hji13w : (IntKind.i64.wrap (x5_1 - 1)) = ji13 := (i64_w _).trans hji13
        by_cases c14 : 0 ≤ (ji13)
        ·rw [if_pos c14] at H
         have c14b0 : decide (0 ≤ (ji13)) = true := decide_eq_true c14
         clear c14
         by_cases c15 : (ji13) < (l1.length : Int)
         ·rw [if_pos c15] at H
          have c15b0 : decide ((ji13) < (l1.length : Int)) = true := decide_eq_true c15
          clear c15
          by_cases c16 : (rd l1 x5_1) ≤ (rd l1 (ji13))
          ·rw [if_pos c16] at H
           have c16b0 : decide ((rd l1 x5_1) ≤ (rd l1 (ji13))) = true := decide_eq_true c16
           clear c16
           obtain rfl := Option.some.inj H
           try go_wp2
           have n0_ := Aside0.mk (blk_drew BK194.out)
           have n1_ := Aside0.mk (below_drew1 HB.out)
           clear BK194
           clear HB
           have BK194 := n0_
           have HB := n1_
           clear n0_ n1_
           have p196 : 0 ≤ (x5_1 : Int) := of_decide_eq_true (by first | (with_reducible assumption) | assumption)
           have q196 : x5_1 < (l1.length : Int) := of_decide_eq_true (by first | (with_reducible assumption) | assumption)
           obtain ⟨ad196, e196, hx196_0⟩ := Kd.at_int HR1.out x5_1 p196 q196
           have hw196_0 := hx196_0
           cases e196
           replace hx196_0 := (HB.out.cell (World.block_lt_of_cell? w _ hx196_0)).trans hx196_0
           replace p196 := eq_true p196
           replace q196 := eq_true q196
           have p198 : 0 ≤ (x5_1 : Int) := of_decide_eq_true (by first | (with_reducible assumption) | assumption)
           have q198 : x5_1 < (l1.length : Int) := of_decide_eq_true (by first | (with_reducible assumption) | assumption)
           obtain ⟨ad198, e198, hx198_0⟩ := Kd.at_int HR1.out x5_1 p198 q198
           have hw198_0 := hx198_0
           obtain rfl : ad196 = ad198 := (by injection e198)
           replace hx198_0 := (HB.out.cell (World.block_lt_of_cell? w _ hx198_0)).trans hx198_0
           replace p198 := eq_true p198
           replace q198 := eq_true q198
           have p199 : 0 ≤ ((ji13) : Int) := of_decide_eq_true (by first | (with_reducible assumption) | assumption)
           have q199 : (ji13) < (l1.length : Int) := of_decide_eq_true (by first | (with_reducible assumption) | assumption)
           obtain ⟨ad199, e199, hx199_0⟩ := Kd.at_int HR1.out (ji13) p199 q199
           have hw199_0 := hx199_0
           obtain rfl : ad196 = ad199 := (by injection e199)
           replace hx199_0 := (HB.out.cell (World.block_lt_of_cell? w _ hx199_0)).trans hx199_0
           replace p199 := eq_true p199
           replace q199 := eq_true q199
           refine start_ (n := 35) (S := fun w' => w'.cell? ⟨gb194, 0, none⟩ = some (.int .i64 a0_0) ∧ w'.cell? ⟨gb194, 1, none⟩ = some (.slice A0_1 l0_1.length c0_1) ∧ w'.cell? (ad196.add (x5_1).toNat) = some (.int .i64 (rd l1 x5_1)) ∧ w'.cell? (ad196.add (x5_1).toNat) = some (.int .i64 (rd l1 x5_1)) ∧ w'.cell? (ad196.add ((ji13)).toNat) = some (.int .i64 (rd l1 (ji13)))) (ds := []) #[O,O,O,O,O,O,O,O,O,O,O,O,O,O,O,O,O,O,O,O,O,O,O,O,O,O,O,O,O,O,O,O,O,O,O] (by kernel_rfl) rfl rfl ⟨(blk_cell BK194.out 0).trans rfl, (blk_cell BK194.out 1).trans rfl, ((HB.out.cell (World.block_lt_of_cell? w _ hw196_0)).trans hw196_0), ((HB.out.cell (World.block_lt_of_cell? w _ hw198_0)).trans hw198_0), ((HB.out.cell (World.block_lt_of_cell? w _ hw199_0)).trans hw199_0)⟩ (fun hHeld => ?_); refine with_tabW spec_l03Chain.tab6 spec_l03Chain.bits6 (fun HT_ HW_ => ?_)
           generalize wr.drew = w17 at BK194 HB hx196_0 hx198_0 hx199_0 hHeld ⊢
           refine pure_ (i := 1) (N := some 16) (v := ?_) (a' := ?_) #[O,U,O,O,O,O,O,O,O,O,O,O,O,O,O,O,O,O,O,O,O,O,O,O,O,O,O,O,O,O,O,O,O,O,O] rfl rfl (any_of HT_.out (by kernel_rfl)) (fun _ _ _ h => h) (Or.inl ⟨by rfl, ?_⟩) ?_ ?_
           rotate_left; · intro w'; go_simp; with_reducible rfl
           rotate_left; · simp only [nm_]; rfl
           refine pure_ (i := 2) (N := some 17) (v := ?_) (a' := ?_) #[O,U,U,O,O,O,O,O,O,O,O,O,O,O,O,O,O,O,O,O,O,O,O,O,O,O,O,O,O,O,O,O,O,O,O] rfl rfl (any_of HT_.out (by kernel_rfl)) (fun _ _ _ h => h) (Or.inl ⟨by rfl, ?_⟩) ?_ ?_
           rotate_left; · intro w'; go_simp; with_reducible rfl
           rotate_left; · simp only [nm_]; rfl
           refine pure_ (i := 3) (N := some 18) (v := ?_) (a' := ?_) #[O,U,U,U,O,O,O,O,O,O,O,O,O,O,O,O,O,O,O,O,O,O,O,O,O,O,O,O,O,O,O,O,O,O,O] rfl rfl (any_of HT_.out (by kernel_rfl)) (fun _ _ _ h => h) (Or.inl ⟨by rfl, ?_⟩) ?_ ?_
           rotate_left; · intro w'; go_simp; with_reducible rfl
           rotate_left; · simp only [nm_]; rfl
           refine take_ (i := 0) (N := some 15) (v := ?_) (a' := ?_) #[U,U,U,U,O,O,O,O,O,O,O,O,O,O,O,O,O,O,O,O,O,O,O,O,O,O,O,O,O,O,O,O,O,O,O] rfl rfl (take_ofW HT_.out HW_.out (by kernel_rfl)) (fun _ _ _ h => h) (Or.inl ⟨by rfl, ?_⟩) hHeld ?_ ?_
           rotate_left; · rintro w' ⟨s0, s1, s2, s3, s4⟩; go_simp; with_reducible rfl
           rotate_left; · simp only [nm_]; rfl
           refine take_ (i := 4) (N := some 19) (v := ?_) (a' := ?_) #[U,U,U,U,U,O,O,O,O,O,O,O,O,O,O,O,O,O,O,O,O,O,O,O,O,O,O,O,O,O,O,O,O,O,O] rfl rfl (take_ofW HT_.out HW_.out (by kernel_rfl)) (fun _ _ _ h => h) (Or.inl ⟨by rfl, ?_⟩) hHeld ?_ ?_
           rotate_left; · rintro w' ⟨s0, s1, s2, s3, s4⟩; go_simp; with_reducible rfl
           rotate_left; · simp only [nm_]; rfl
           refine one_ (i := 5) (N := some 20) #[U,U,U,U,U,U,O,O,O,O,O,O,O,O,O,O,O,O,O,O,O,O,O,O,O,O,O,O,O,O,O,O,O,O,O] rfl rfl (one_of HT_.out (by kernel_rfl)) (by decide) (fun K hK => ?_)
           refine goes_ Try.func50 (by kernel_rfl) rfl #[.agg #[.int .i64 a0_0, .slice A0_1 l0_1.length c0_1], .int .i64 (rd l1 x5_1)] (by rfl) rfl rfl (by (try simp only [List.map_toArray, List.map_cons, List.map_nil]); first | done | rfl | (simp only [List.length_drop, List.length_take]; rfl)) ?_
           with_reducible refine (spec_l01Has.calls k1 a0_0 _ _ l0_1 (rd l1 x5_1) true _ ?side1 ?side2 A10.out).mono ?_
           (case side1 => repeat (first | exact (Kd.C_below HR0_1.out HB.out) | (with_reducible refine Kd.C_alloc ?_ _) | (with_reducible refine Kd.C_drewN ?_ _) | (with_reducible refine Kd.C_drew ?_)))
           (case side2 => exact HC0_1.out)
           rintro e w18 ⟨rfl, hb⟩
           refine ⟨_, rfl, ?_⟩
           have n0_ := Aside0.mk (blk_below (g := gb194) (o := .cells #[.int .i64 a0_0, .slice A0_1 l0_1.length c0_1] 26 (0, 0)) (by (with_reducible repeat (first | refine blk_drewN ?_ _ | refine blk_drew ?_ | refine blk_alloc ?_ _)); exact BK194.out) hb)
           have n1_ := Aside0.mk (below_step (by repeat (first | (with_reducible first | exact HB.out | apply below_alloc | apply pw_below_drewN | apply below_drew1 | refine below_set ?_ GE194.out) | exact HB.out)) hb)
           clear BK194
           clear HB
           have BK194 := n0_
           have HB := n1_
           clear n0_ n1_
           (try clear hb)
           (try clear hb2)
           (try clear hk)
           (try clear hi)
           refine hK.out _ _ ⟨(blk_cell BK194.out 0).trans rfl, (blk_cell BK194.out 1).trans rfl, ((HB.out.cell (World.block_lt_of_cell? w _ hw196_0)).trans hw196_0), ((HB.out.cell (World.block_lt_of_cell? w _ hw198_0)).trans hw198_0), ((HB.out.cell (World.block_lt_of_cell? w _ hw199_0)).trans hw199_0)⟩ (fun hHeld => ?_)
           clear hK K
           refine norm_ (a' := ?_) ?_ ?_
           rotate_left
           ·show Act.put _ (some 20) _ = _
            simp only [nm_]
            rfl
           refine pure_ (i := 6) (N := some 21) (v := ?_) (a' := ?_) #[U,U,U,U,U,U,U,O,O,O,O,O,O,O,O,O,O,O,O,O,O,O,O,O,O,O,O,O,O,O,O,O,O,O,O] rfl rfl (any_of HT_.out (by kernel_rfl)) (fun _ _ _ h => h) (Or.inl ⟨by rfl, ?_⟩) ?_ ?_
           rotate_left; · intro w'; go_simp; with_reducible rfl
           rotate_left; · simp only [nm_]; rfl
           refine pure_ (i := 7) (N := some 22) (v := ?_) (a' := ?_) #[U,U,U,U,U,U,U,U,O,O,O,O,O,O,O,O,O,O,O,O,O,O,O,O,O,O,O,O,O,O,O,O,O,O,O] rfl rfl (any_of HT_.out (by kernel_rfl)) (fun _ _ _ h => h) (Or.inl ⟨by rfl, ?_⟩) ?_ ?_
           rotate_left; · intro w'; go_simp; with_reducible rfl
           rotate_left; · simp only [nm_]; rfl
           refine pure_ (i := 8) (N := some 23) (v := ?_) (a' := ?_) #[U,U,U,U,U,U,U,U,U,O,O,O,O,O,O,O,O,O,O,O,O,O,O,O,O,O,O,O,O,O,O,O,O,O,O] rfl rfl (any_of HT_.out (by kernel_rfl)) (fun _ _ _ h => h) (Or.inl ⟨by rfl, ?_⟩) ?_ ?_
           rotate_left; · intro w'; go_simp; with_reducible rfl
           rotate_left; · simp only [nm_]; rfl
           refine pure_ (i := 9) (N := some 24) (v := ?_) (a' := ?_) #[U,U,U,U,U,U,U,U,U,U,O,O,O,O,O,O,O,O,O,O,O,O,O,O,O,O,O,O,O,O,O,O,O,O,O] rfl rfl (any_of HT_.out (by kernel_rfl)) (fun _ _ _ h => h) (Or.inl ⟨by rfl, ?_⟩) ?_ ?_
           rotate_left; · intro w'; go_simp; with_reducible rfl
           rotate_left; · simp only [nm_]; rfl
           refine pure_ (i := 10) (N := some 25) (v := ?_) (a' := ?_) #[U,U,U,U,U,U,U,U,U,U,U,O,O,O,O,O,O,O,O,O,O,O,O,O,O,O,O,O,O,O,O,O,O,O,O] rfl rfl (any_of HT_.out (by kernel_rfl)) (fun _ _ _ h => h) (Or.inl ⟨by rfl, ?_⟩) ?_ ?_
           rotate_left; · intro w'; go_simp; with_reducible rfl
           rotate_left; · simp only [nm_]; rfl
           refine pure_ (i := 11) (N := some 26) (v := ?_) (a' := ?_) #[U,U,U,U,U,U,U,U,U,U,U,U,O,O,O,O,O,O,O,O,O,O,O,O,O,O,O,O,O,O,O,O,O,O,O] rfl rfl (any_of HT_.out (by kernel_rfl)) (fun _ _ _ h => h) (Or.inl ⟨by rfl, ?_⟩) ?_ ?_
           rotate_left; · intro w'; go_simp; with_reducible rfl
           rotate_left; · simp only [nm_]; rfl
           refine pure_ (i := 12) (N := some 27) (v := ?_) (a' := ?_) #[U,U,U,U,U,U,U,U,U,U,U,U,U,O,O,O,O,O,O,O,O,O,O,O,O,O,O,O,O,O,O,O,O,O,O] rfl rfl (any_of HT_.out (by kernel_rfl)) (fun _ _ _ h => h) (Or.inl ⟨by rfl, ?_⟩) ?_ ?_
           rotate_left; · intro w'; go_simp; with_reducible rfl
           rotate_left; · simp only [nm_]; rfl
           refine pure_ (i := 13) (N := some 28) (v := ?_) (a' := ?_) #[U,U,U,U,U,U,U,U,U,U,U,U,U,U,O,O,O,O,O,O,O,O,O,O,O,O,O,O,O,O,O,O,O,O,O] rfl rfl (any_of HT_.out (by kernel_rfl)) (fun _ _ _ h => h) (Or.inl ⟨by rfl, ?_⟩) ?_ ?_
           rotate_left; · intro w'; go_simp; with_reducible rfl
           rotate_left; · simp only [nm_]; rfl
           refine pure_ (i := 15) (N := some 30) (v := ?_) (a' := ?_) #[U,U,U,U,U,U,U,U,U,U,U,U,U,U,O,U,O,O,O,O,O,O,O,O,O,O,O,O,O,O,O,O,O,O,O] rfl rfl (any_of HT_.out (by kernel_rfl)) (fun _ _ _ h => h) (Or.inl ⟨by rfl, ?_⟩) ?_ ?_
           rotate_left; · intro w'; go_simp; with_reducible rfl
           rotate_left; · simp only [nm_]; rfl
           refine pure_ (i := 16) (N := some 31) (v := ?_) (a' := ?_) #[U,U,U,U,U,U,U,U,U,U,U,U,U,U,O,U,U,O,O,O,O,O,O,O,O,O,O,O,O,O,O,O,O,O,O] rfl rfl (any_of HT_.out (by kernel_rfl)) (fun _ _ _ h => h) (Or.inl ⟨by rfl, ?_⟩) ?_ ?_
           rotate_left; · intro w'; go_simp; with_reducible rfl
           rotate_left; · simp only [nm_]; rfl
           refine pure_ (i := 17) (N := some 32) (v := ?_) (a' := ?_) #[U,U,U,U,U,U,U,U,U,U,U,U,U,U,O,U,U,U,O,O,O,O,O,O,O,O,O,O,O,O,O,O,O,O,O] rfl rfl (any_of HT_.out (by kernel_rfl)) (fun _ _ _ h => h) (Or.inl ⟨by rfl, ?_⟩) ?_ ?_
           rotate_left; · intro w'; go_simp; with_reducible rfl
           rotate_left; · simp only [nm_]; rfl
           refine pure_ (i := 18) (N := some 33) (v := ?_) (a' := ?_) #[U,U,U,U,U,U,U,U,U,U,U,U,U,U,O,U,U,U,U,O,O,O,O,O,O,O,O,O,O,O,O,O,O,O,O] rfl rfl (any_of HT_.out (by kernel_rfl)) (fun _ _ _ h => h) (Or.inl ⟨by rfl, ?_⟩) ?_ ?_
           rotate_left; · intro w'; go_simp; with_reducible rfl
           rotate_left; · simp only [nm_]; rfl
           refine take_ (i := 14) (N := some 29) (v := ?_) (a' := ?_) #[U,U,U,U,U,U,U,U,U,U,U,U,U,U,U,U,U,U,U,O,O,O,O,O,O,O,O,O,O,O,O,O,O,O,O] rfl rfl (take_ofW HT_.out HW_.out (by kernel_rfl)) (fun _ _ _ h => h) (Or.inl ⟨by rfl, ?_⟩) hHeld ?_ ?_
           rotate_left; · rintro w' ⟨s0, s1, s2, s3, s4⟩; go_simp; with_reducible rfl
           rotate_left; · simp only [nm_]; rfl
           refine take_ (i := 19) (N := some 34) (v := ?_) (a' := ?_) #[U,U,U,U,U,U,U,U,U,U,U,U,U,U,U,U,U,U,U,U,O,O,O,O,O,O,O,O,O,O,O,O,O,O,O] rfl rfl (take_ofW HT_.out HW_.out (by kernel_rfl)) (fun _ _ _ h => h) (Or.inl ⟨by rfl, ?_⟩) hHeld ?_ ?_
           rotate_left; · rintro w' ⟨s0, s1, s2, s3, s4⟩; go_simp; with_reducible rfl
           rotate_left; · simp only [nm_]; rfl
           refine pure_ (i := 20) (N := some 35) (v := ?_) (a' := ?_) #[U,U,U,U,U,U,U,U,U,U,U,U,U,U,U,U,U,U,U,U,U,O,O,O,O,O,O,O,O,O,O,O,O,O,O] rfl rfl (any_of HT_.out (by kernel_rfl)) (fun _ _ _ h => h) (Or.inl ⟨by rfl, ?_⟩) ?_ ?_
           rotate_left; · intro w'; go_simp; with_reducible rfl
           rotate_left; · simp only [nm_]; rfl
           refine pure_ (i := 21) (N := some 36) (v := ?_) (a' := ?_) #[U,U,U,U,U,U,U,U,U,U,U,U,U,U,U,U,U,U,U,U,U,U,O,O,O,O,O,O,O,O,O,O,O,O,O] rfl rfl (any_of HT_.out (by kernel_rfl)) (fun _ _ _ h => h) (Or.inl ⟨by rfl, ?_⟩) ?_ ?_
           rotate_left; · intro w'; go_simp; with_reducible rfl
           rotate_left; · simp only [nm_]; rfl
           refine pure_ (i := 22) (N := some 37) (v := undef) (a' := ?_) #[U,U,U,U,U,U,U,U,U,U,U,U,U,U,U,U,U,U,U,U,U,U,U,O,O,O,O,O,O,O,O,O,O,O,O] rfl rfl (any_of HT_.out (by kernel_rfl)) (fun _ _ _ h => h) (Or.inr ⟨by rfl, rfl⟩) ?_ ?_
           rotate_left; · simp only [nm_]; rfl
           refine pure_ (i := 23) (N := some 38) (v := undef) (a' := ?_) #[U,U,U,U,U,U,U,U,U,U,U,U,U,U,U,U,U,U,U,U,U,U,U,U,O,O,O,O,O,O,O,O,O,O,O] rfl rfl (any_of HT_.out (by kernel_rfl)) (fun _ _ _ h => h) (Or.inr ⟨by rfl, rfl⟩) ?_ ?_
           rotate_left; · simp only [nm_]; rfl
           refine pure_ (i := 24) (N := some 39) (v := undef) (a' := ?_) #[U,U,U,U,U,U,U,U,U,U,U,U,U,U,U,U,U,U,U,U,U,U,U,U,U,O,O,O,O,O,O,O,O,O,O] rfl rfl (any_of HT_.out (by kernel_rfl)) (fun _ _ _ h => h) (Or.inr ⟨by rfl, rfl⟩) ?_ ?_
           rotate_left; · simp only [nm_]; rfl
           refine pure_ (i := 25) (N := some 40) (v := undef) (a' := ?_) #[U,U,U,U,U,U,U,U,U,U,U,U,U,U,U,U,U,U,U,U,U,U,U,U,U,U,O,O,O,O,O,O,O,O,O] rfl rfl (any_of HT_.out (by kernel_rfl)) (fun _ _ _ h => h) (Or.inr ⟨by rfl, rfl⟩) ?_ ?_
           rotate_left; · simp only [nm_]; rfl
           refine pure_ (i := 26) (N := some 41) (v := undef) (a' := ?_) #[U,U,U,U,U,U,U,U,U,U,U,U,U,U,U,U,U,U,U,U,U,U,U,U,U,U,U,O,O,O,O,O,O,O,O] rfl rfl (any_of HT_.out (by kernel_rfl)) (fun _ _ _ h => h) (Or.inr ⟨by rfl, rfl⟩) ?_ ?_
           rotate_left; · simp only [nm_]; rfl
           refine pure_ (i := 27) (N := some 42) (v := undef) (a' := ?_) #[U,U,U,U,U,U,U,U,U,U,U,U,U,U,U,U,U,U,U,U,U,U,U,U,U,U,U,U,O,O,O,O,O,O,O] rfl rfl (any_of HT_.out (by kernel_rfl)) (fun _ _ _ h => h) (Or.inr ⟨by rfl, rfl⟩) ?_ ?_
           rotate_left; · simp only [nm_]; rfl
           refine pure_ (i := 28) (N := some 43) (v := undef) (a' := ?_) #[U,U,U,U,U,U,U,U,U,U,U,U,U,U,U,U,U,U,U,U,U,U,U,U,U,U,U,U,U,O,O,O,O,O,O] rfl rfl (any_of HT_.out (by kernel_rfl)) (fun _ _ _ h => h) (Or.inr ⟨by rfl, rfl⟩) ?_ ?_
           rotate_left; · simp only [nm_]; rfl
           refine pure_ (i := 29) (N := some 44) (v := undef) (a' := ?_) #[U,U,U,U,U,U,U,U,U,U,U,U,U,U,U,U,U,U,U,U,U,U,U,U,U,U,U,U,U,U,O,O,O,O,O] rfl rfl (any_of HT_.out (by kernel_rfl)) (fun _ _ _ h => h) (Or.inr ⟨by rfl, rfl⟩) ?_ ?_
           rotate_left; · simp only [nm_]; rfl
           refine pure_ (i := 30) (N := some 45) (v := undef) (a' := ?_) #[U,U,U,U,U,U,U,U,U,U,U,U,U,U,U,U,U,U,U,U,U,U,U,U,U,U,U,U,U,U,U,O,O,O,O] rfl rfl (any_of HT_.out (by kernel_rfl)) (fun _ _ _ h => h) (Or.inr ⟨by rfl, rfl⟩) ?_ ?_
           rotate_left; · simp only [nm_]; rfl
           refine pure_ (i := 31) (N := some 46) (v := undef) (a' := ?_) #[U,U,U,U,U,U,U,U,U,U,U,U,U,U,U,U,U,U,U,U,U,U,U,U,U,U,U,U,U,U,U,U,O,O,O] rfl rfl (any_of HT_.out (by kernel_rfl)) (fun _ _ _ h => h) (Or.inr ⟨by rfl, rfl⟩) ?_ ?_
           rotate_left; · simp only [nm_]; rfl
           refine pure_ (i := 32) (N := some 47) (v := ?_) (a' := ?_) #[U,U,U,U,U,U,U,U,U,U,U,U,U,U,U,U,U,U,U,U,U,U,U,U,U,U,U,U,U,U,U,U,U,O,O] rfl rfl (any_of HT_.out (by kernel_rfl)) (fun _ _ _ h => h) (Or.inl ⟨by rfl, ?_⟩) ?_ ?_
           rotate_left; · intro w'; go_simp; with_reducible rfl
           rotate_left; · simp only [nm_]; rfl
           refine pure_ (i := 33) (N := some 48) (v := ?_) (a' := ?_) #[U,U,U,U,U,U,U,U,U,U,U,U,U,U,U,U,U,U,U,U,U,U,U,U,U,U,U,U,U,U,U,U,U,U,O] rfl rfl (any_of HT_.out (by kernel_rfl)) (fun _ _ _ h => h) (Or.inl ⟨by rfl, ?_⟩) ?_ ?_
           rotate_left; · intro w'; go_simp; with_reducible rfl
           rotate_left; · simp only [nm_]; rfl
           refine pure_ (i := 34) (N := some 49) (v := ?_) (a' := ?_) #[U,U,U,U,U,U,U,U,U,U,U,U,U,U,U,U,U,U,U,U,U,U,U,U,U,U,U,U,U,U,U,U,U,U,U] rfl rfl (any_of HT_.out (by kernel_rfl)) (fun _ _ _ h => h) (Or.inl ⟨by rfl, ?_⟩) ?_ ?_
           rotate_left; · intro w'; go_simp; with_reducible rfl
           rotate_left; · simp only [nm_]; rfl
           refine done_ (done_of HT_.out (by kernel_rfl)) ?_
           try go_wp2
           go_ret
           exact ⟨by first | rfl | (simp [errW_none, errW_some] <;> rfl) | (simp only [← hji13]; first | rfl | (simp [errW_none, errW_some] <;> rfl)) | (simp [*, errW_none, errW_some] <;> rfl), by repeat (first | (with_reducible first | exact HB.out | apply below_alloc | apply pw_below_drewN | apply below_drew1 | refine below_set ?_ GE194.out) | exact HB.out)⟩
          ·rw [if_neg c16] at H
           have c16b0 : decide ((rd l1 x5_1) ≤ (rd l1 (ji13))) = false := decide_eq_false c16
           clear c16
           replace H := Option.bind_eq_some_iff.mp H
           obtain ⟨t201, A190, H⟩ := H
           replace H : (if 0 < (l1.length : Int) then ((spec_l01Ones.f k1 (rd l1 0)).bind fun t203 => (if t201 = t203 then (spec_l03Chain.l0 k1 l1 (wrap64 (x5_1 + 1)) a0_0 l0_1) else (some 2))) else (none)) = some r := H
           have A19 := Aside0.mk A190
           clear A190
           by_cases c20 : 0 < (l1.length : Int)
           ·rw [if_pos c20] at H
            have c20b0 : decide (0 < (l1.length : Int)) = true := decide_eq_true c20
            have c20b1 : decide (0 < l1.length) = true := decide_eq_true (by omega)
            clear c20
            replace H := Option.bind_eq_some_iff.mp H
            obtain ⟨t203, A210, H⟩ := H
            replace H : (if t201 = t203 then (spec_l03Chain.l0 k1 l1 (wrap64 (x5_1 + 1)) a0_0 l0_1) else (some 2)) = some r := H
            have A21 := Aside0.mk A210
            clear A210
            by_cases c22 : t201 = t203
            ·rw [if_pos c22] at H
             have c22b0 : (t201 == t203) = true := beq_iff_eq.mpr c22
             have c22b1 : (t201 != t203) = false := bne_eq_false_iff_eq.mpr c22
             clear c22
             have H' := Aside0.mk H
             clear H
             try go_wp2
             have n0_ := Aside0.mk (blk_drew BK194.out)
             have n1_ := Aside0.mk (below_drew1 HB.out)
             clear BK194
             clear HB
             have BK194 := n0_
             have HB := n1_
             clear n0_ n1_
             have p196 : 0 ≤ (x5_1 : Int) := of_decide_eq_true (by first | (with_reducible assumption) | assumption)
             have q196 : x5_1 < (l1.length : Int) := of_decide_eq_true (by first | (with_reducible assumption) | assumption)
             obtain ⟨ad196, e196, hx196_0⟩ := Kd.at_int HR1.out x5_1 p196 q196
             have hw196_0 := hx196_0
             cases e196
             replace hx196_0 := (HB.out.cell (World.block_lt_of_cell? w _ hx196_0)).trans hx196_0
             replace p196 := eq_true p196
             replace q196 := eq_true q196
             have p198 : 0 ≤ (x5_1 : Int) := of_decide_eq_true (by first | (with_reducible assumption) | assumption)
             have q198 : x5_1 < (l1.length : Int) := of_decide_eq_true (by first | (with_reducible assumption) | assumption)
             obtain ⟨ad198, e198, hx198_0⟩ := Kd.at_int HR1.out x5_1 p198 q198
             have hw198_0 := hx198_0
             obtain rfl : ad196 = ad198 := (by injection e198)
             replace hx198_0 := (HB.out.cell (World.block_lt_of_cell? w _ hx198_0)).trans hx198_0
             replace p198 := eq_true p198
             replace q198 := eq_true q198
             have p199 : 0 ≤ ((ji13) : Int) := of_decide_eq_true (by first | (with_reducible assumption) | assumption)
             have q199 : (ji13) < (l1.length : Int) := of_decide_eq_true (by first | (with_reducible assumption) | assumption)
             obtain ⟨ad199, e199, hx199_0⟩ := Kd.at_int HR1.out (ji13) p199 q199
             have hw199_0 := hx199_0
             obtain rfl : ad196 = ad199 := (by injection e199)
             replace hx199_0 := (HB.out.cell (World.block_lt_of_cell? w _ hx199_0)).trans hx199_0
             replace p199 := eq_true p199
             replace q199 := eq_true q199
             have p200 : 0 ≤ (x5_1 : Int) := of_decide_eq_true (by first | (with_reducible assumption) | assumption)
             have q200 : x5_1 < (l1.length : Int) := of_decide_eq_true (by first | (with_reducible assumption) | assumption)
             obtain ⟨ad200, e200, hx200_0⟩ := Kd.at_int HR1.out x5_1 p200 q200
             have hw200_0 := hx200_0
             obtain rfl : ad196 = ad200 := (by injection e200)
             replace hx200_0 := (HB.out.cell (World.block_lt_of_cell? w _ hx200_0)).trans hx200_0
             replace p200 := eq_true p200
             replace q200 := eq_true q200
             have p202 : 0 ≤ (0 : Int) := (by omega)
             have q202 : 0 < (l1.length : Int) := of_decide_eq_true (by first | (with_reducible assumption) | assumption)
             obtain ⟨ad202, e202, hx202_0⟩ := Kd.at_int HR1.out 0 p202 q202
             have hw202_0 := hx202_0
             (try rw [show ((0 : Int)).toNat = 0 from rfl] at hw202_0)
             (try rw [show 0 * 1 = 0 from rfl] at hw202_0)
             (try rw [Addr.add_zero'] at hw202_0)
             obtain rfl : ad196 = ad202 := (by injection e202)
             have qi202 : (0 < l1.length) = True := eq_true (by omega)
             (try rw [show ((0 : Int)).toNat = 0 from rfl] at hx202_0)
             (try rw [Addr.add_zero'] at hx202_0)
             replace hx202_0 := (HB.out.cell (World.block_lt_of_cell? w _ hx202_0)).trans hx202_0
             replace p202 := eq_true p202
             replace q202 := eq_true q202
             refine start_ (n := 35) (S := fun w' => w'.cell? ⟨gb194, 0, none⟩ = some (.int .i64 a0_0) ∧ w'.cell? ⟨gb194, 1, none⟩ = some (.slice A0_1 l0_1.length c0_1) ∧ w'.cell? (ad196.add (x5_1).toNat) = some (.int .i64 (rd l1 x5_1)) ∧ w'.cell? (ad196.add (x5_1).toNat) = some (.int .i64 (rd l1 x5_1)) ∧ w'.cell? (ad196.add ((ji13)).toNat) = some (.int .i64 (rd l1 (ji13))) ∧ w'.cell? (ad196.add (x5_1).toNat) = some (.int .i64 (rd l1 x5_1)) ∧ w'.cell? ad196 = some (.int .i64 (rd l1 0))) (ds := []) #[O,O,O,O,O,O,O,O,O,O,O,O,O,O,O,O,O,O,O,O,O,O,O,O,O,O,O,O,O,O,O,O,O,O,O] (by kernel_rfl) rfl rfl ⟨(blk_cell BK194.out 0).trans rfl, (blk_cell BK194.out 1).trans rfl, ((HB.out.cell (World.block_lt_of_cell? w _ hw196_0)).trans hw196_0), ((HB.out.cell (World.block_lt_of_cell? w _ hw198_0)).trans hw198_0), ((HB.out.cell (World.block_lt_of_cell? w _ hw199_0)).trans hw199_0), ((HB.out.cell (World.block_lt_of_cell? w _ hw200_0)).trans hw200_0), ((HB.out.cell (World.block_lt_of_cell? w _ hw202_0)).trans hw202_0)⟩ (fun hHeld => ?_); refine with_tabW spec_l03Chain.tab6 spec_l03Chain.bits6 (fun HT_ HW_ => ?_)
             generalize wr.drew = w23 at BK194 HB hx196_0 hx198_0 hx199_0 hx200_0 hx202_0 hHeld ⊢
             refine pure_ (i := 1) (N := some 16) (v := ?_) (a' := ?_) #[O,U,O,O,O,O,O,O,O,O,O,O,O,O,O,O,O,O,O,O,O,O,O,O,O,O,O,O,O,O,O,O,O,O,O] rfl rfl (any_of HT_.out (by kernel_rfl)) (fun _ _ _ h => h) (Or.inl ⟨by rfl, ?_⟩) ?_ ?_
             rotate_left; · intro w'; go_simp; with_reducible rfl
             rotate_left; · simp only [nm_]; rfl
             refine pure_ (i := 2) (N := some 17) (v := ?_) (a' := ?_) #[O,U,U,O,O,O,O,O,O,O,O,O,O,O,O,O,O,O,O,O,O,O,O,O,O,O,O,O,O,O,O,O,O,O,O] rfl rfl (any_of HT_.out (by kernel_rfl)) (fun _ _ _ h => h) (Or.inl ⟨by rfl, ?_⟩) ?_ ?_
             rotate_left; · intro w'; go_simp; with_reducible rfl
             rotate_left; · simp only [nm_]; rfl
             refine pure_ (i := 3) (N := some 18) (v := ?_) (a' := ?_) #[O,U,U,U,O,O,O,O,O,O,O,O,O,O,O,O,O,O,O,O,O,O,O,O,O,O,O,O,O,O,O,O,O,O,O] rfl rfl (any_of HT_.out (by kernel_rfl)) (fun _ _ _ h => h) (Or.inl ⟨by rfl, ?_⟩) ?_ ?_
             rotate_left; · intro w'; go_simp; with_reducible rfl
             rotate_left; · simp only [nm_]; rfl
             refine take_ (i := 0) (N := some 15) (v := ?_) (a' := ?_) #[U,U,U,U,O,O,O,O,O,O,O,O,O,O,O,O,O,O,O,O,O,O,O,O,O,O,O,O,O,O,O,O,O,O,O] rfl rfl (take_ofW HT_.out HW_.out (by kernel_rfl)) (fun _ _ _ h => h) (Or.inl ⟨by rfl, ?_⟩) hHeld ?_ ?_
             rotate_left; · rintro w' ⟨s0, s1, s2, s3, s4, s5, s6⟩; go_simp; with_reducible rfl
             rotate_left; · simp only [nm_]; rfl
             refine take_ (i := 4) (N := some 19) (v := ?_) (a' := ?_) #[U,U,U,U,U,O,O,O,O,O,O,O,O,O,O,O,O,O,O,O,O,O,O,O,O,O,O,O,O,O,O,O,O,O,O] rfl rfl (take_ofW HT_.out HW_.out (by kernel_rfl)) (fun _ _ _ h => h) (Or.inl ⟨by rfl, ?_⟩) hHeld ?_ ?_
             rotate_left; · rintro w' ⟨s0, s1, s2, s3, s4, s5, s6⟩; go_simp; with_reducible rfl
             rotate_left; · simp only [nm_]; rfl
             refine one_ (i := 5) (N := some 20) #[U,U,U,U,U,U,O,O,O,O,O,O,O,O,O,O,O,O,O,O,O,O,O,O,O,O,O,O,O,O,O,O,O,O,O] rfl rfl (one_of HT_.out (by kernel_rfl)) (by decide) (fun K hK => ?_)
             refine goes_ Try.func50 (by kernel_rfl) rfl #[.agg #[.int .i64 a0_0, .slice A0_1 l0_1.length c0_1], .int .i64 (rd l1 x5_1)] (by rfl) rfl rfl (by (try simp only [List.map_toArray, List.map_cons, List.map_nil]); first | done | rfl | (simp only [List.length_drop, List.length_take]; rfl)) ?_
             with_reducible refine (spec_l01Has.calls k1 a0_0 _ _ l0_1 (rd l1 x5_1) true _ ?side1 ?side2 A10.out).mono ?_
             (case side1 => repeat (first | exact (Kd.C_below HR0_1.out HB.out) | (with_reducible refine Kd.C_alloc ?_ _) | (with_reducible refine Kd.C_drewN ?_ _) | (with_reducible refine Kd.C_drew ?_)))
             (case side2 => exact HC0_1.out)
             rintro e w24 ⟨rfl, hb⟩
             refine ⟨_, rfl, ?_⟩
             have n0_ := Aside0.mk (blk_below (g := gb194) (o := .cells #[.int .i64 a0_0, .slice A0_1 l0_1.length c0_1] 26 (0, 0)) (by (with_reducible repeat (first | refine blk_drewN ?_ _ | refine blk_drew ?_ | refine blk_alloc ?_ _)); exact BK194.out) hb)
             have n1_ := Aside0.mk (below_step (by repeat (first | (with_reducible first | exact HB.out | apply below_alloc | apply pw_below_drewN | apply below_drew1 | refine below_set ?_ GE194.out) | exact HB.out)) hb)
             clear BK194
             clear HB
             have BK194 := n0_
             have HB := n1_
             clear n0_ n1_
             (try clear hb)
             (try clear hb2)
             (try clear hk)
             (try clear hi)
             refine hK.out _ _ ⟨(blk_cell BK194.out 0).trans rfl, (blk_cell BK194.out 1).trans rfl, ((HB.out.cell (World.block_lt_of_cell? w _ hw196_0)).trans hw196_0), ((HB.out.cell (World.block_lt_of_cell? w _ hw198_0)).trans hw198_0), ((HB.out.cell (World.block_lt_of_cell? w _ hw199_0)).trans hw199_0), ((HB.out.cell (World.block_lt_of_cell? w _ hw200_0)).trans hw200_0), ((HB.out.cell (World.block_lt_of_cell? w _ hw202_0)).trans hw202_0)⟩ (fun hHeld => ?_)
             clear hK K
             refine norm_ (a' := ?_) ?_ ?_
             rotate_left
             ·show Act.put _ (some 20) _ = _
              simp only [nm_]
              rfl
             refine pure_ (i := 6) (N := some 21) (v := ?_) (a' := ?_) #[U,U,U,U,U,U,U,O,O,O,O,O,O,O,O,O,O,O,O,O,O,O,O,O,O,O,O,O,O,O,O,O,O,O,O] rfl rfl (any_of HT_.out (by kernel_rfl)) (fun _ _ _ h => h) (Or.inl ⟨by rfl, ?_⟩) ?_ ?_
             rotate_left; · intro w'; go_simp; with_reducible rfl
             rotate_left; · simp only [nm_]; rfl
             refine pure_ (i := 7) (N := some 22) (v := ?_) (a' := ?_) #[U,U,U,U,U,U,U,U,O,O,O,O,O,O,O,O,O,O,O,O,O,O,O,O,O,O,O,O,O,O,O,O,O,O,O] rfl rfl (any_of HT_.out (by kernel_rfl)) (fun _ _ _ h => h) (Or.inl ⟨by rfl, ?_⟩) ?_ ?_
             rotate_left; · intro w'; go_simp; with_reducible rfl
             rotate_left; · simp only [nm_]; rfl
             refine pure_ (i := 8) (N := some 23) (v := ?_) (a' := ?_) #[U,U,U,U,U,U,U,U,U,O,O,O,O,O,O,O,O,O,O,O,O,O,O,O,O,O,O,O,O,O,O,O,O,O,O] rfl rfl (any_of HT_.out (by kernel_rfl)) (fun _ _ _ h => h) (Or.inl ⟨by rfl, ?_⟩) ?_ ?_
             rotate_left; · intro w'; go_simp; with_reducible rfl
             rotate_left; · simp only [nm_]; rfl
             refine pure_ (i := 9) (N := some 24) (v := ?_) (a' := ?_) #[U,U,U,U,U,U,U,U,U,U,O,O,O,O,O,O,O,O,O,O,O,O,O,O,O,O,O,O,O,O,O,O,O,O,O] rfl rfl (any_of HT_.out (by kernel_rfl)) (fun _ _ _ h => h) (Or.inl ⟨by rfl, ?_⟩) ?_ ?_
             rotate_left; · intro w'; go_simp; with_reducible rfl
             rotate_left; · simp only [nm_]; rfl
             refine pure_ (i := 10) (N := some 25) (v := ?_) (a' := ?_) #[U,U,U,U,U,U,U,U,U,U,U,O,O,O,O,O,O,O,O,O,O,O,O,O,O,O,O,O,O,O,O,O,O,O,O] rfl rfl (any_of HT_.out (by kernel_rfl)) (fun _ _ _ h => h) (Or.inl ⟨by rfl, ?_⟩) ?_ ?_
             rotate_left; · intro w'; go_simp; with_reducible rfl
             rotate_left; · simp only [nm_]; rfl
             refine pure_ (i := 11) (N := some 26) (v := ?_) (a' := ?_) #[U,U,U,U,U,U,U,U,U,U,U,U,O,O,O,O,O,O,O,O,O,O,O,O,O,O,O,O,O,O,O,O,O,O,O] rfl rfl (any_of HT_.out (by kernel_rfl)) (fun _ _ _ h => h) (Or.inl ⟨by rfl, ?_⟩) ?_ ?_
             rotate_left; · intro w'; go_simp; with_reducible rfl
             rotate_left; · simp only [nm_]; rfl
             refine pure_ (i := 12) (N := some 27) (v := ?_) (a' := ?_) #[U,U,U,U,U,U,U,U,U,U,U,U,U,O,O,O,O,O,O,O,O,O,O,O,O,O,O,O,O,O,O,O,O,O,O] rfl rfl (any_of HT_.out (by kernel_rfl)) (fun _ _ _ h => h) (Or.inl ⟨by rfl, ?_⟩) ?_ ?_
             rotate_left; · intro w'; go_simp; with_reducible rfl
             rotate_left; · simp only [nm_]; rfl
             refine pure_ (i := 13) (N := some 28) (v := ?_) (a' := ?_) #[U,U,U,U,U,U,U,U,U,U,U,U,U,U,O,O,O,O,O,O,O,O,O,O,O,O,O,O,O,O,O,O,O,O,O] rfl rfl (any_of HT_.out (by kernel_rfl)) (fun _ _ _ h => h) (Or.inl ⟨by rfl, ?_⟩) ?_ ?_
             rotate_left; · intro w'; go_simp; with_reducible rfl
             rotate_left; · simp only [nm_]; rfl
             refine pure_ (i := 15) (N := some 30) (v := ?_) (a' := ?_) #[U,U,U,U,U,U,U,U,U,U,U,U,U,U,O,U,O,O,O,O,O,O,O,O,O,O,O,O,O,O,O,O,O,O,O] rfl rfl (any_of HT_.out (by kernel_rfl)) (fun _ _ _ h => h) (Or.inl ⟨by rfl, ?_⟩) ?_ ?_
             rotate_left; · intro w'; go_simp; with_reducible rfl
             rotate_left; · simp only [nm_]; rfl
             refine pure_ (i := 16) (N := some 31) (v := ?_) (a' := ?_) #[U,U,U,U,U,U,U,U,U,U,U,U,U,U,O,U,U,O,O,O,O,O,O,O,O,O,O,O,O,O,O,O,O,O,O] rfl rfl (any_of HT_.out (by kernel_rfl)) (fun _ _ _ h => h) (Or.inl ⟨by rfl, ?_⟩) ?_ ?_
             rotate_left; · intro w'; go_simp; with_reducible rfl
             rotate_left; · simp only [nm_]; rfl
             refine pure_ (i := 17) (N := some 32) (v := ?_) (a' := ?_) #[U,U,U,U,U,U,U,U,U,U,U,U,U,U,O,U,U,U,O,O,O,O,O,O,O,O,O,O,O,O,O,O,O,O,O] rfl rfl (any_of HT_.out (by kernel_rfl)) (fun _ _ _ h => h) (Or.inl ⟨by rfl, ?_⟩) ?_ ?_
             rotate_left; · intro w'; go_simp; with_reducible rfl
             rotate_left; · simp only [nm_]; rfl
             refine pure_ (i := 18) (N := some 33) (v := ?_) (a' := ?_) #[U,U,U,U,U,U,U,U,U,U,U,U,U,U,O,U,U,U,U,O,O,O,O,O,O,O,O,O,O,O,O,O,O,O,O] rfl rfl (any_of HT_.out (by kernel_rfl)) (fun _ _ _ h => h) (Or.inl ⟨by rfl, ?_⟩) ?_ ?_
             rotate_left; · intro w'; go_simp; with_reducible rfl
             rotate_left; · simp only [nm_]; rfl
             refine take_ (i := 14) (N := some 29) (v := ?_) (a' := ?_) #[U,U,U,U,U,U,U,U,U,U,U,U,U,U,U,U,U,U,U,O,O,O,O,O,O,O,O,O,O,O,O,O,O,O,O] rfl rfl (take_ofW HT_.out HW_.out (by kernel_rfl)) (fun _ _ _ h => h) (Or.inl ⟨by rfl, ?_⟩) hHeld ?_ ?_
             rotate_left; · rintro w' ⟨s0, s1, s2, s3, s4, s5, s6⟩; go_simp; with_reducible rfl
             rotate_left; · simp only [nm_]; rfl
             refine take_ (i := 19) (N := some 34) (v := ?_) (a' := ?_) #[U,U,U,U,U,U,U,U,U,U,U,U,U,U,U,U,U,U,U,U,O,O,O,O,O,O,O,O,O,O,O,O,O,O,O] rfl rfl (take_ofW HT_.out HW_.out (by kernel_rfl)) (fun _ _ _ h => h) (Or.inl ⟨by rfl, ?_⟩) hHeld ?_ ?_
             rotate_left; · rintro w' ⟨s0, s1, s2, s3, s4, s5, s6⟩; go_simp; with_reducible rfl
             rotate_left; · simp only [nm_]; rfl
             refine pure_ (i := 20) (N := some 35) (v := ?_) (a' := ?_) #[U,U,U,U,U,U,U,U,U,U,U,U,U,U,U,U,U,U,U,U,U,O,O,O,O,O,O,O,O,O,O,O,O,O,O] rfl rfl (any_of HT_.out (by kernel_rfl)) (fun _ _ _ h => h) (Or.inl ⟨by rfl, ?_⟩) ?_ ?_
             rotate_left; · intro w'; go_simp; with_reducible rfl
             rotate_left; · simp only [nm_]; rfl
             refine pure_ (i := 21) (N := some 36) (v := ?_) (a' := ?_) #[U,U,U,U,U,U,U,U,U,U,U,U,U,U,U,U,U,U,U,U,U,U,O,O,O,O,O,O,O,O,O,O,O,O,O] rfl rfl (any_of HT_.out (by kernel_rfl)) (fun _ _ _ h => h) (Or.inl ⟨by rfl, ?_⟩) ?_ ?_
             rotate_left; · intro w'; go_simp; with_reducible rfl
             rotate_left; · simp only [nm_]; rfl
             refine pure_ (i := 22) (N := some 37) (v := ?_) (a' := ?_) #[U,U,U,U,U,U,U,U,U,U,U,U,U,U,U,U,U,U,U,U,U,U,U,O,O,O,O,O,O,O,O,O,O,O,O] rfl rfl (any_of HT_.out (by kernel_rfl)) (fun _ _ _ h => h) (Or.inl ⟨by rfl, ?_⟩) ?_ ?_
             rotate_left; · intro w'; go_simp; with_reducible rfl
             rotate_left; · simp only [nm_]; rfl
             refine pure_ (i := 23) (N := some 38) (v := ?_) (a' := ?_) #[U,U,U,U,U,U,U,U,U,U,U,U,U,U,U,U,U,U,U,U,U,U,U,U,O,O,O,O,O,O,O,O,O,O,O] rfl rfl (any_of HT_.out (by kernel_rfl)) (fun _ _ _ h => h) (Or.inl ⟨by rfl, ?_⟩) ?_ ?_
             rotate_left; · intro w'; go_simp; with_reducible rfl
             rotate_left; · simp only [nm_]; rfl
             refine pure_ (i := 24) (N := some 39) (v := ?_) (a' := ?_) #[U,U,U,U,U,U,U,U,U,U,U,U,U,U,U,U,U,U,U,U,U,U,U,U,U,O,O,O,O,O,O,O,O,O,O] rfl rfl (any_of HT_.out (by kernel_rfl)) (fun _ _ _ h => h) (Or.inl ⟨by rfl, ?_⟩) ?_ ?_
             rotate_left; · intro w'; go_simp; with_reducible rfl
             rotate_left; · simp only [nm_]; rfl
             refine pure_ (i := 27) (N := some 42) (v := ?_) (a' := ?_) #[U,U,U,U,U,U,U,U,U,U,U,U,U,U,U,U,U,U,U,U,U,U,U,U,U,O,O,U,O,O,O,O,O,O,O] rfl rfl (any_of HT_.out (by kernel_rfl)) (fun _ _ _ h => h) (Or.inl ⟨by rfl, ?_⟩) ?_ ?_
             rotate_left; · intro w'; go_simp; with_reducible rfl
             rotate_left; · simp only [nm_]; rfl
             refine pure_ (i := 28) (N := some 43) (v := ?_) (a' := ?_) #[U,U,U,U,U,U,U,U,U,U,U,U,U,U,U,U,U,U,U,U,U,U,U,U,U,O,O,U,U,O,O,O,O,O,O] rfl rfl (any_of HT_.out (by kernel_rfl)) (fun _ _ _ h => h) (Or.inl ⟨by rfl, ?_⟩) ?_ ?_
             rotate_left; · intro w'; go_simp; with_reducible rfl
             rotate_left; · simp only [nm_]; rfl
             refine take_ (i := 25) (N := some 40) (v := ?_) (a' := ?_) #[U,U,U,U,U,U,U,U,U,U,U,U,U,U,U,U,U,U,U,U,U,U,U,U,U,U,O,U,U,O,O,O,O,O,O] rfl rfl (take_ofW HT_.out HW_.out (by kernel_rfl)) (fun _ _ _ h => h) (Or.inl ⟨by rfl, ?_⟩) hHeld ?_ ?_
             rotate_left; · rintro w' ⟨s0, s1, s2, s3, s4, s5, s6⟩; go_simp; with_reducible rfl
             rotate_left; · simp only [nm_]; rfl
             refine take_ (i := 29) (N := some 44) (v := ?_) (a' := ?_) #[U,U,U,U,U,U,U,U,U,U,U,U,U,U,U,U,U,U,U,U,U,U,U,U,U,U,O,U,U,U,O,O,O,O,O] rfl rfl (take_ofW HT_.out HW_.out (by kernel_rfl)) (fun _ _ _ h => h) (Or.inl ⟨by rfl, ?_⟩) hHeld ?_ ?_
             rotate_left; · rintro w' ⟨s0, s1, s2, s3, s4, s5, s6⟩; go_simp; with_reducible rfl
             rotate_left; · simp only [nm_]; rfl
             refine one_ (i := 26) (N := some 41) #[U,U,U,U,U,U,U,U,U,U,U,U,U,U,U,U,U,U,U,U,U,U,U,U,U,U,U,U,U,U,O,O,O,O,O] rfl rfl (one_of HT_.out (by kernel_rfl)) (by decide) (fun K hK => ?_)
             refine goes_ Try.func44 (by kernel_rfl) rfl #[.int .i64 (rd l1 x5_1)] (by rfl) rfl rfl (by (try simp only [List.map_toArray, List.map_cons, List.map_nil]); first | done | rfl | (simp only [List.length_drop, List.length_take]; rfl)) ?_
             with_reducible refine (spec_l01Ones.calls k1 (rd l1 x5_1) t201 _ A19.out).mono ?_
             rintro e w' ⟨rfl, ⟨nd, rfl⟩⟩
             refine ⟨_, rfl, ?_⟩
             refine hK.out _ _ ⟨(blk_cell BK194.out 0).trans rfl, (blk_cell BK194.out 1).trans rfl, ((HB.out.cell (World.block_lt_of_cell? w _ hw196_0)).trans hw196_0), ((HB.out.cell (World.block_lt_of_cell? w _ hw198_0)).trans hw198_0), ((HB.out.cell (World.block_lt_of_cell? w _ hw199_0)).trans hw199_0), ((HB.out.cell (World.block_lt_of_cell? w _ hw200_0)).trans hw200_0), ((HB.out.cell (World.block_lt_of_cell? w _ hw202_0)).trans hw202_0)⟩ (fun hHeld => ?_)
             clear hK K
             refine norm_ (a' := ?_) ?_ ?_
             rotate_left
             ·show Act.put _ (some 41) _ = _
              simp only [nm_]
              rfl
             refine one_ (i := 30) (N := some 45) #[U,U,U,U,U,U,U,U,U,U,U,U,U,U,U,U,U,U,U,U,U,U,U,U,U,U,U,U,U,U,U,O,O,O,O] rfl rfl (one_of HT_.out (by kernel_rfl)) (by decide) (fun K hK => ?_)
             refine goes_ Try.func44 (by kernel_rfl) rfl #[.int .i64 (rd l1 0)] (by rfl) rfl rfl (by (try simp only [List.map_toArray, List.map_cons, List.map_nil]); first | done | rfl | (simp only [List.length_drop, List.length_take]; rfl)) ?_
             with_reducible refine (spec_l01Ones.calls k1 (rd l1 0) t203 _ A21.out).mono ?_
             rintro e w' ⟨rfl, ⟨nd, rfl⟩⟩
             refine ⟨_, rfl, ?_⟩
             refine hK.out _ _ ⟨(blk_cell BK194.out 0).trans rfl, (blk_cell BK194.out 1).trans rfl, ((HB.out.cell (World.block_lt_of_cell? w _ hw196_0)).trans hw196_0), ((HB.out.cell (World.block_lt_of_cell? w _ hw198_0)).trans hw198_0), ((HB.out.cell (World.block_lt_of_cell? w _ hw199_0)).trans hw199_0), ((HB.out.cell (World.block_lt_of_cell? w _ hw200_0)).trans hw200_0), ((HB.out.cell (World.block_lt_of_cell? w _ hw202_0)).trans hw202_0)⟩ (fun hHeld => ?_)
             clear hK K
             refine norm_ (a' := ?_) ?_ ?_
             rotate_left
             ·show Act.put _ (some 45) _ = _
              simp only [nm_]
              rfl
             refine pure_ (i := 31) (N := some 46) (v := ?_) (a' := ?_) #[U,U,U,U,U,U,U,U,U,U,U,U,U,U,U,U,U,U,U,U,U,U,U,U,U,U,U,U,U,U,U,U,O,O,O] rfl rfl (any_of HT_.out (by kernel_rfl)) (fun _ _ _ h => h) (Or.inl ⟨by rfl, ?_⟩) ?_ ?_
             rotate_left; · intro w'; go_simp; with_reducible rfl
             rotate_left; · simp only [nm_]; rfl
             refine pure_ (i := 32) (N := some 47) (v := ?_) (a' := ?_) #[U,U,U,U,U,U,U,U,U,U,U,U,U,U,U,U,U,U,U,U,U,U,U,U,U,U,U,U,U,U,U,U,U,O,O] rfl rfl (any_of HT_.out (by kernel_rfl)) (fun _ _ _ h => h) (Or.inl ⟨by rfl, ?_⟩) ?_ ?_
             rotate_left; · intro w'; go_simp; with_reducible rfl
             rotate_left; · simp only [nm_]; rfl
             refine pure_ (i := 33) (N := some 48) (v := ?_) (a' := ?_) #[U,U,U,U,U,U,U,U,U,U,U,U,U,U,U,U,U,U,U,U,U,U,U,U,U,U,U,U,U,U,U,U,U,U,O] rfl rfl (any_of HT_.out (by kernel_rfl)) (fun _ _ _ h => h) (Or.inl ⟨by rfl, ?_⟩) ?_ ?_
             rotate_left; · intro w'; go_simp; with_reducible rfl
             rotate_left; · simp only [nm_]; rfl
             refine pure_ (i := 34) (N := some 49) (v := ?_) (a' := ?_) #[U,U,U,U,U,U,U,U,U,U,U,U,U,U,U,U,U,U,U,U,U,U,U,U,U,U,U,U,U,U,U,U,U,U,U] rfl rfl (any_of HT_.out (by kernel_rfl)) (fun _ _ _ h => h) (Or.inl ⟨by rfl, ?_⟩) ?_ ?_
             rotate_left; · intro w'; go_simp; with_reducible rfl
             rotate_left; · simp only [nm_]; rfl
             refine done_ (done_of HT_.out (by kernel_rfl)) ?_
             try go_wp2
             go_roundg k1
             case measure => have := HK1.out; omega
             case rel => exact ⟨(wrap64 (x5_1 + 1)), (by first | rfl | (simp; done) | (simp [*]; done)), H', ⟨by have := HK1.out; omega⟩, ⟨by (with_reducible repeat (first | refine blk_drewN ?_ _ | refine blk_drew ?_ | refine blk_alloc ?_ _)); exact BK194.out⟩, ⟨by repeat (first | (with_reducible first | exact HB.out | apply below_alloc | apply pw_below_drewN | apply below_drew1 | refine below_set ?_ GE194.out) | exact HB.out)⟩⟩
            ·rw [if_neg c22] at H
             have c22b0 : (t201 == t203) = false := beq_eq_false_iff_ne.mpr c22
             have c22b1 : (t201 != t203) = true := bne_iff_ne.mpr c22
             obtain rfl := Option.some.inj H
             try go_wp2
             have n0_ := Aside0.mk (blk_drew BK194.out)
             have n1_ := Aside0.mk (below_drew1 HB.out)
             clear BK194
             clear HB
             have BK194 := n0_
             have HB := n1_
             clear n0_ n1_
             have p196 : 0 ≤ (x5_1 : Int) := of_decide_eq_true (by first | (with_reducible assumption) | assumption)
             have q196 : x5_1 < (l1.length : Int) := of_decide_eq_true (by first | (with_reducible assumption) | assumption)
             obtain ⟨ad196, e196, hx196_0⟩ := Kd.at_int HR1.out x5_1 p196 q196
             have hw196_0 := hx196_0
             cases e196
             replace hx196_0 := (HB.out.cell (World.block_lt_of_cell? w _ hx196_0)).trans hx196_0
             replace p196 := eq_true p196
             replace q196 := eq_true q196
             have p198 : 0 ≤ (x5_1 : Int) := of_decide_eq_true (by first | (with_reducible assumption) | assumption)
             have q198 : x5_1 < (l1.length : Int) := of_decide_eq_true (by first | (with_reducible assumption) | assumption)
             obtain ⟨ad198, e198, hx198_0⟩ := Kd.at_int HR1.out x5_1 p198 q198
             have hw198_0 := hx198_0
             obtain rfl : ad196 = ad198 := (by injection e198)
             replace hx198_0 := (HB.out.cell (World.block_lt_of_cell? w _ hx198_0)).trans hx198_0
             replace p198 := eq_true p198
             replace q198 := eq_true q198
             have p199 : 0 ≤ ((ji13) : Int) := of_decide_eq_true (by first | (with_reducible assumption) | assumption)
             have q199 : (ji13) < (l1.length : Int) := of_decide_eq_true (by first | (with_reducible assumption) | assumption)
             obtain ⟨ad199, e199, hx199_0⟩ := Kd.at_int HR1.out (ji13) p199 q199
             have hw199_0 := hx199_0
             obtain rfl : ad196 = ad199 := (by injection e199)
             replace hx199_0 := (HB.out.cell (World.block_lt_of_cell? w _ hx199_0)).trans hx199_0
             replace p199 := eq_true p199
             replace q199 := eq_true q199
             have p200 : 0 ≤ (x5_1 : Int) := of_decide_eq_true (by first | (with_reducible assumption) | assumption)
             have q200 : x5_1 < (l1.length : Int) := of_decide_eq_true (by first | (with_reducible assumption) | assumption)
             obtain ⟨ad200, e200, hx200_0⟩ := Kd.at_int HR1.out x5_1 p200 q200
             have hw200_0 := hx200_0
             obtain rfl : ad196 = ad200 := (by injection e200)
             replace hx200_0 := (HB.out.cell (World.block_lt_of_cell? w _ hx200_0)).trans hx200_0
             replace p200 := eq_true p200
             replace q200 := eq_true q200
             have p202 : 0 ≤ (0 : Int) := (by omega)
             have q202 : 0 < (l1.length : Int) := of_decide_eq_true (by first | (with_reducible assumption) | assumption)
             obtain ⟨ad202, e202, hx202_0⟩ := Kd.at_int HR1.out 0 p202 q202
             have hw202_0 := hx202_0
             (try rw [show ((0 : Int)).toNat = 0 from rfl] at hw202_0)
             (try rw [show 0 * 1 = 0 from rfl] at hw202_0)
             (try rw [Addr.add_zero'] at hw202_0)
             obtain rfl : ad196 = ad202 := (by injection e202)
             have qi202 : (0 < l1.length) = True := eq_true (by omega)
             (try rw [show ((0 : Int)).toNat = 0 from rfl] at hx202_0)
             (try rw [Addr.add_zero'] at hx202_0)
             replace hx202_0 := (HB.out.cell (World.block_lt_of_cell? w _ hx202_0)).trans hx202_0
             replace p202 := eq_true p202
             replace q202 := eq_true q202
             refine start_ (n := 35) (S := fun w' => w'.cell? ⟨gb194, 0, none⟩ = some (.int .i64 a0_0) ∧ w'.cell? ⟨gb194, 1, none⟩ = some (.slice A0_1 l0_1.length c0_1) ∧ w'.cell? (ad196.add (x5_1).toNat) = some (.int .i64 (rd l1 x5_1)) ∧ w'.cell? (ad196.add (x5_1).toNat) = some (.int .i64 (rd l1 x5_1)) ∧ w'.cell? (ad196.add ((ji13)).toNat) = some (.int .i64 (rd l1 (ji13))) ∧ w'.cell? (ad196.add (x5_1).toNat) = some (.int .i64 (rd l1 x5_1)) ∧ w'.cell? ad196 = some (.int .i64 (rd l1 0))) (ds := []) #[O,O,O,O,O,O,O,O,O,O,O,O,O,O,O,O,O,O,O,O,O,O,O,O,O,O,O,O,O,O,O,O,O,O,O] (by kernel_rfl) rfl rfl ⟨(blk_cell BK194.out 0).trans rfl, (blk_cell BK194.out 1).trans rfl, ((HB.out.cell (World.block_lt_of_cell? w _ hw196_0)).trans hw196_0), ((HB.out.cell (World.block_lt_of_cell? w _ hw198_0)).trans hw198_0), ((HB.out.cell (World.block_lt_of_cell? w _ hw199_0)).trans hw199_0), ((HB.out.cell (World.block_lt_of_cell? w _ hw200_0)).trans hw200_0), ((HB.out.cell (World.block_lt_of_cell? w _ hw202_0)).trans hw202_0)⟩ (fun hHeld => ?_); refine with_tabW spec_l03Chain.tab6 spec_l03Chain.bits6 (fun HT_ HW_ => ?_)
             generalize wr.drew = w25 at BK194 HB hx196_0 hx198_0 hx199_0 hx200_0 hx202_0 hHeld ⊢
             refine pure_ (i := 1) (N := some 16) (v := ?_) (a' := ?_) #[O,U,O,O,O,O,O,O,O,O,O,O,O,O,O,O,O,O,O,O,O,O,O,O,O,O,O,O,O,O,O,O,O,O,O] rfl rfl (any_of HT_.out (by kernel_rfl)) (fun _ _ _ h => h) (Or.inl ⟨by rfl, ?_⟩) ?_ ?_
             rotate_left; · intro w'; go_simp; with_reducible rfl
             rotate_left; · simp only [nm_]; rfl
             refine pure_ (i := 2) (N := some 17) (v := ?_) (a' := ?_) #[O,U,U,O,O,O,O,O,O,O,O,O,O,O,O,O,O,O,O,O,O,O,O,O,O,O,O,O,O,O,O,O,O,O,O] rfl rfl (any_of HT_.out (by kernel_rfl)) (fun _ _ _ h => h) (Or.inl ⟨by rfl, ?_⟩) ?_ ?_
             rotate_left; · intro w'; go_simp; with_reducible rfl
             rotate_left; · simp only [nm_]; rfl
             refine pure_ (i := 3) (N := some 18) (v := ?_) (a' := ?_) #[O,U,U,U,O,O,O,O,O,O,O,O,O,O,O,O,O,O,O,O,O,O,O,O,O,O,O,O,O,O,O,O,O,O,O] rfl rfl (any_of HT_.out (by kernel_rfl)) (fun _ _ _ h => h) (Or.inl ⟨by rfl, ?_⟩) ?_ ?_
             rotate_left; · intro w'; go_simp; with_reducible rfl
             rotate_left; · simp only [nm_]; rfl
             refine take_ (i := 0) (N := some 15) (v := ?_) (a' := ?_) #[U,U,U,U,O,O,O,O,O,O,O,O,O,O,O,O,O,O,O,O,O,O,O,O,O,O,O,O,O,O,O,O,O,O,O] rfl rfl (take_ofW HT_.out HW_.out (by kernel_rfl)) (fun _ _ _ h => h) (Or.inl ⟨by rfl, ?_⟩) hHeld ?_ ?_
             rotate_left; · rintro w' ⟨s0, s1, s2, s3, s4, s5, s6⟩; go_simp; with_reducible rfl
             rotate_left; · simp only [nm_]; rfl
             refine take_ (i := 4) (N := some 19) (v := ?_) (a' := ?_) #[U,U,U,U,U,O,O,O,O,O,O,O,O,O,O,O,O,O,O,O,O,O,O,O,O,O,O,O,O,O,O,O,O,O,O] rfl rfl (take_ofW HT_.out HW_.out (by kernel_rfl)) (fun _ _ _ h => h) (Or.inl ⟨by rfl, ?_⟩) hHeld ?_ ?_
             rotate_left; · rintro w' ⟨s0, s1, s2, s3, s4, s5, s6⟩; go_simp; with_reducible rfl
             rotate_left; · simp only [nm_]; rfl
             refine one_ (i := 5) (N := some 20) #[U,U,U,U,U,U,O,O,O,O,O,O,O,O,O,O,O,O,O,O,O,O,O,O,O,O,O,O,O,O,O,O,O,O,O] rfl rfl (one_of HT_.out (by kernel_rfl)) (by decide) (fun K hK => ?_)
             refine goes_ Try.func50 (by kernel_rfl) rfl #[.agg #[.int .i64 a0_0, .slice A0_1 l0_1.length c0_1], .int .i64 (rd l1 x5_1)] (by rfl) rfl rfl (by (try simp only [List.map_toArray, List.map_cons, List.map_nil]); first | done | rfl | (simp only [List.length_drop, List.length_take]; rfl)) ?_
             with_reducible refine (spec_l01Has.calls k1 a0_0 _ _ l0_1 (rd l1 x5_1) true _ ?side1 ?side2 A10.out).mono ?_
             (case side1 => repeat (first | exact (Kd.C_below HR0_1.out HB.out) | (with_reducible refine Kd.C_alloc ?_ _) | (with_reducible refine Kd.C_drewN ?_ _) | (with_reducible refine Kd.C_drew ?_)))
             (case side2 => exact HC0_1.out)
             rintro e w26 ⟨rfl, hb⟩
             refine ⟨_, rfl, ?_⟩
             have n0_ := Aside0.mk (blk_below (g := gb194) (o := .cells #[.int .i64 a0_0, .slice A0_1 l0_1.length c0_1] 26 (0, 0)) (by (with_reducible repeat (first | refine blk_drewN ?_ _ | refine blk_drew ?_ | refine blk_alloc ?_ _)); exact BK194.out) hb)
             have n1_ := Aside0.mk (below_step (by repeat (first | (with_reducible first | exact HB.out | apply below_alloc | apply pw_below_drewN | apply below_drew1 | refine below_set ?_ GE194.out) | exact HB.out)) hb)
             clear BK194
             clear HB
             have BK194 := n0_
             have HB := n1_
             clear n0_ n1_
             (try clear hb)
             (try clear hb2)
             (try clear hk)
             (try clear hi)
             refine hK.out _ _ ⟨(blk_cell BK194.out 0).trans rfl, (blk_cell BK194.out 1).trans rfl, ((HB.out.cell (World.block_lt_of_cell? w _ hw196_0)).trans hw196_0), ((HB.out.cell (World.block_lt_of_cell? w _ hw198_0)).trans hw198_0), ((HB.out.cell (World.block_lt_of_cell? w _ hw199_0)).trans hw199_0), ((HB.out.cell (World.block_lt_of_cell? w _ hw200_0)).trans hw200_0), ((HB.out.cell (World.block_lt_of_cell? w _ hw202_0)).trans hw202_0)⟩ (fun hHeld => ?_)
             clear hK K
             refine norm_ (a' := ?_) ?_ ?_
             rotate_left
             ·show Act.put _ (some 20) _ = _
              simp only [nm_]
              rfl
             refine pure_ (i := 6) (N := some 21) (v := ?_) (a' := ?_) #[U,U,U,U,U,U,U,O,O,O,O,O,O,O,O,O,O,O,O,O,O,O,O,O,O,O,O,O,O,O,O,O,O,O,O] rfl rfl (any_of HT_.out (by kernel_rfl)) (fun _ _ _ h => h) (Or.inl ⟨by rfl, ?_⟩) ?_ ?_
             rotate_left; · intro w'; go_simp; with_reducible rfl
             rotate_left; · simp only [nm_]; rfl
             refine pure_ (i := 7) (N := some 22) (v := ?_) (a' := ?_) #[U,U,U,U,U,U,U,U,O,O,O,O,O,O,O,O,O,O,O,O,O,O,O,O,O,O,O,O,O,O,O,O,O,O,O] rfl rfl (any_of HT_.out (by kernel_rfl)) (fun _ _ _ h => h) (Or.inl ⟨by rfl, ?_⟩) ?_ ?_
             rotate_left; · intro w'; go_simp; with_reducible rfl
             rotate_left; · simp only [nm_]; rfl
             refine pure_ (i := 8) (N := some 23) (v := ?_) (a' := ?_) #[U,U,U,U,U,U,U,U,U,O,O,O,O,O,O,O,O,O,O,O,O,O,O,O,O,O,O,O,O,O,O,O,O,O,O] rfl rfl (any_of HT_.out (by kernel_rfl)) (fun _ _ _ h => h) (Or.inl ⟨by rfl, ?_⟩) ?_ ?_
             rotate_left; · intro w'; go_simp; with_reducible rfl
             rotate_left; · simp only [nm_]; rfl
             refine pure_ (i := 9) (N := some 24) (v := ?_) (a' := ?_) #[U,U,U,U,U,U,U,U,U,U,O,O,O,O,O,O,O,O,O,O,O,O,O,O,O,O,O,O,O,O,O,O,O,O,O] rfl rfl (any_of HT_.out (by kernel_rfl)) (fun _ _ _ h => h) (Or.inl ⟨by rfl, ?_⟩) ?_ ?_
             rotate_left; · intro w'; go_simp; with_reducible rfl
             rotate_left; · simp only [nm_]; rfl
             refine pure_ (i := 10) (N := some 25) (v := ?_) (a' := ?_) #[U,U,U,U,U,U,U,U,U,U,U,O,O,O,O,O,O,O,O,O,O,O,O,O,O,O,O,O,O,O,O,O,O,O,O] rfl rfl (any_of HT_.out (by kernel_rfl)) (fun _ _ _ h => h) (Or.inl ⟨by rfl, ?_⟩) ?_ ?_
             rotate_left; · intro w'; go_simp; with_reducible rfl
             rotate_left; · simp only [nm_]; rfl
             refine pure_ (i := 11) (N := some 26) (v := ?_) (a' := ?_) #[U,U,U,U,U,U,U,U,U,U,U,U,O,O,O,O,O,O,O,O,O,O,O,O,O,O,O,O,O,O,O,O,O,O,O] rfl rfl (any_of HT_.out (by kernel_rfl)) (fun _ _ _ h => h) (Or.inl ⟨by rfl, ?_⟩) ?_ ?_
             rotate_left; · intro w'; go_simp; with_reducible rfl
             rotate_left; · simp only [nm_]; rfl
             refine pure_ (i := 12) (N := some 27) (v := ?_) (a' := ?_) #[U,U,U,U,U,U,U,U,U,U,U,U,U,O,O,O,O,O,O,O,O,O,O,O,O,O,O,O,O,O,O,O,O,O,O] rfl rfl (any_of HT_.out (by kernel_rfl)) (fun _ _ _ h => h) (Or.inl ⟨by rfl, ?_⟩) ?_ ?_
             rotate_left; · intro w'; go_simp; with_reducible rfl
             rotate_left; · simp only [nm_]; rfl
             refine pure_ (i := 13) (N := some 28) (v := ?_) (a' := ?_) #[U,U,U,U,U,U,U,U,U,U,U,U,U,U,O,O,O,O,O,O,O,O,O,O,O,O,O,O,O,O,O,O,O,O,O] rfl rfl (any_of HT_.out (by kernel_rfl)) (fun _ _ _ h => h) (Or.inl ⟨by rfl, ?_⟩) ?_ ?_
             rotate_left; · intro w'; go_simp; with_reducible rfl
             rotate_left; · simp only [nm_]; rfl
             refine pure_ (i := 15) (N := some 30) (v := ?_) (a' := ?_) #[U,U,U,U,U,U,U,U,U,U,U,U,U,U,O,U,O,O,O,O,O,O,O,O,O,O,O,O,O,O,O,O,O,O,O] rfl rfl (any_of HT_.out (by kernel_rfl)) (fun _ _ _ h => h) (Or.inl ⟨by rfl, ?_⟩) ?_ ?_
             rotate_left; · intro w'; go_simp; with_reducible rfl
             rotate_left; · simp only [nm_]; rfl
             refine pure_ (i := 16) (N := some 31) (v := ?_) (a' := ?_) #[U,U,U,U,U,U,U,U,U,U,U,U,U,U,O,U,U,O,O,O,O,O,O,O,O,O,O,O,O,O,O,O,O,O,O] rfl rfl (any_of HT_.out (by kernel_rfl)) (fun _ _ _ h => h) (Or.inl ⟨by rfl, ?_⟩) ?_ ?_
             rotate_left; · intro w'; go_simp; with_reducible rfl
             rotate_left; · simp only [nm_]; rfl
             refine pure_ (i := 17) (N := some 32) (v := ?_) (a' := ?_) #[U,U,U,U,U,U,U,U,U,U,U,U,U,U,O,U,U,U,O,O,O,O,O,O,O,O,O,O,O,O,O,O,O,O,O] rfl rfl (any_of HT_.out (by kernel_rfl)) (fun _ _ _ h => h) (Or.inl ⟨by rfl, ?_⟩) ?_ ?_
             rotate_left; · intro w'; go_simp; with_reducible rfl
             rotate_left; · simp only [nm_]; rfl
             refine pure_ (i := 18) (N := some 33) (v := ?_) (a' := ?_) #[U,U,U,U,U,U,U,U,U,U,U,U,U,U,O,U,U,U,U,O,O,O,O,O,O,O,O,O,O,O,O,O,O,O,O] rfl rfl (any_of HT_.out (by kernel_rfl)) (fun _ _ _ h => h) (Or.inl ⟨by rfl, ?_⟩) ?_ ?_
             rotate_left; · intro w'; go_simp; with_reducible rfl
             rotate_left; · simp only [nm_]; rfl
             refine take_ (i := 14) (N := some 29) (v := ?_) (a' := ?_) #[U,U,U,U,U,U,U,U,U,U,U,U,U,U,U,U,U,U,U,O,O,O,O,O,O,O,O,O,O,O,O,O,O,O,O] rfl rfl (take_ofW HT_.out HW_.out (by kernel_rfl)) (fun _ _ _ h => h) (Or.inl ⟨by rfl, ?_⟩) hHeld ?_ ?_
             rotate_left; · rintro w' ⟨s0, s1, s2, s3, s4, s5, s6⟩; go_simp; with_reducible rfl
             rotate_left; · simp only [nm_]; rfl
             refine take_ (i := 19) (N := some 34) (v := ?_) (a' := ?_) #[U,U,U,U,U,U,U,U,U,U,U,U,U,U,U,U,U,U,U,U,O,O,O,O,O,O,O,O,O,O,O,O,O,O,O] rfl rfl (take_ofW HT_.out HW_.out (by kernel_rfl)) (fun _ _ _ h => h) (Or.inl ⟨by rfl, ?_⟩) hHeld ?_ ?_
             rotate_left; · rintro w' ⟨s0, s1, s2, s3, s4, s5, s6⟩; go_simp; with_reducible rfl
             rotate_left; · simp only [nm_]; rfl
             refine pure_ (i := 20) (N := some 35) (v := ?_) (a' := ?_) #[U,U,U,U,U,U,U,U,U,U,U,U,U,U,U,U,U,U,U,U,U,O,O,O,O,O,O,O,O,O,O,O,O,O,O] rfl rfl (any_of HT_.out (by kernel_rfl)) (fun _ _ _ h => h) (Or.inl ⟨by rfl, ?_⟩) ?_ ?_
             rotate_left; · intro w'; go_simp; with_reducible rfl
             rotate_left; · simp only [nm_]; rfl
             refine pure_ (i := 21) (N := some 36) (v := ?_) (a' := ?_) #[U,U,U,U,U,U,U,U,U,U,U,U,U,U,U,U,U,U,U,U,U,U,O,O,O,O,O,O,O,O,O,O,O,O,O] rfl rfl (any_of HT_.out (by kernel_rfl)) (fun _ _ _ h => h) (Or.inl ⟨by rfl, ?_⟩) ?_ ?_
             rotate_left; · intro w'; go_simp; with_reducible rfl
             rotate_left; · simp only [nm_]; rfl
             refine pure_ (i := 22) (N := some 37) (v := ?_) (a' := ?_) #[U,U,U,U,U,U,U,U,U,U,U,U,U,U,U,U,U,U,U,U,U,U,U,O,O,O,O,O,O,O,O,O,O,O,O] rfl rfl (any_of HT_.out (by kernel_rfl)) (fun _ _ _ h => h) (Or.inl ⟨by rfl, ?_⟩) ?_ ?_
             rotate_left; · intro w'; go_simp; with_reducible rfl
             rotate_left; · simp only [nm_]; rfl
             refine pure_ (i := 23) (N := some 38) (v := ?_) (a' := ?_) #[U,U,U,U,U,U,U,U,U,U,U,U,U,U,U,U,U,U,U,U,U,U,U,U,O,O,O,O,O,O,O,O,O,O,O] rfl rfl (any_of HT_.out (by kernel_rfl)) (fun _ _ _ h => h) (Or.inl ⟨by rfl, ?_⟩) ?_ ?_
             rotate_left; · intro w'; go_simp; with_reducible rfl
             rotate_left; · simp only [nm_]; rfl
             refine pure_ (i := 24) (N := some 39) (v := ?_) (a' := ?_) #[U,U,U,U,U,U,U,U,U,U,U,U,U,U,U,U,U,U,U,U,U,U,U,U,U,O,O,O,O,O,O,O,O,O,O] rfl rfl (any_of HT_.out (by kernel_rfl)) (fun _ _ _ h => h) (Or.inl ⟨by rfl, ?_⟩) ?_ ?_
             rotate_left; · intro w'; go_simp; with_reducible rfl
             rotate_left; · simp only [nm_]; rfl
             refine pure_ (i := 27) (N := some 42) (v := ?_) (a' := ?_) #[U,U,U,U,U,U,U,U,U,U,U,U,U,U,U,U,U,U,U,U,U,U,U,U,U,O,O,U,O,O,O,O,O,O,O] rfl rfl (any_of HT_.out (by kernel_rfl)) (fun _ _ _ h => h) (Or.inl ⟨by rfl, ?_⟩) ?_ ?_
             rotate_left; · intro w'; go_simp; with_reducible rfl
             rotate_left; · simp only [nm_]; rfl
             refine pure_ (i := 28) (N := some 43) (v := ?_) (a' := ?_) #[U,U,U,U,U,U,U,U,U,U,U,U,U,U,U,U,U,U,U,U,U,U,U,U,U,O,O,U,U,O,O,O,O,O,O] rfl rfl (any_of HT_.out (by kernel_rfl)) (fun _ _ _ h => h) (Or.inl ⟨by rfl, ?_⟩) ?_ ?_
             rotate_left; · intro w'; go_simp; with_reducible rfl
             rotate_left; · simp only [nm_]; rfl
             refine take_ (i := 25) (N := some 40) (v := ?_) (a' := ?_) #[U,U,U,U,U,U,U,U,U,U,U,U,U,U,U,U,U,U,U,U,U,U,U,U,U,U,O,U,U,O,O,O,O,O,O] rfl rfl (take_ofW HT_.out HW_.out (by kernel_rfl)) (fun _ _ _ h => h) (Or.inl ⟨by rfl, ?_⟩) hHeld ?_ ?_
             rotate_left; · rintro w' ⟨s0, s1, s2, s3, s4, s5, s6⟩; go_simp; with_reducible rfl
             rotate_left; · simp only [nm_]; rfl
             refine take_ (i := 29) (N := some 44) (v := ?_) (a' := ?_) #[U,U,U,U,U,U,U,U,U,U,U,U,U,U,U,U,U,U,U,U,U,U,U,U,U,U,O,U,U,U,O,O,O,O,O] rfl rfl (take_ofW HT_.out HW_.out (by kernel_rfl)) (fun _ _ _ h => h) (Or.inl ⟨by rfl, ?_⟩) hHeld ?_ ?_
             rotate_left; · rintro w' ⟨s0, s1, s2, s3, s4, s5, s6⟩; go_simp; with_reducible rfl
             rotate_left; · simp only [nm_]; rfl
             refine one_ (i := 26) (N := some 41) #[U,U,U,U,U,U,U,U,U,U,U,U,U,U,U,U,U,U,U,U,U,U,U,U,U,U,U,U,U,U,O,O,O,O,O] rfl rfl (one_of HT_.out (by kernel_rfl)) (by decide) (fun K hK => ?_)
             refine goes_ Try.func44 (by kernel_rfl) rfl #[.int .i64 (rd l1 x5_1)] (by rfl) rfl rfl (by (try simp only [List.map_toArray, List.map_cons, List.map_nil]); first | done | rfl | (simp only [List.length_drop, List.length_take]; rfl)) ?_
             with_reducible refine (spec_l01Ones.calls k1 (rd l1 x5_1) t201 _ A19.out).mono ?_
             rintro e w' ⟨rfl, ⟨nd, rfl⟩⟩
             refine ⟨_, rfl, ?_⟩
             refine hK.out _ _ ⟨(blk_cell BK194.out 0).trans rfl, (blk_cell BK194.out 1).trans rfl, ((HB.out.cell (World.block_lt_of_cell? w _ hw196_0)).trans hw196_0), ((HB.out.cell (World.block_lt_of_cell? w _ hw198_0)).trans hw198_0), ((HB.out.cell (World.block_lt_of_cell? w _ hw199_0)).trans hw199_0), ((HB.out.cell (World.block_lt_of_cell? w _ hw200_0)).trans hw200_0), ((HB.out.cell (World.block_lt_of_cell? w _ hw202_0)).trans hw202_0)⟩ (fun hHeld => ?_)
             clear hK K
             refine norm_ (a' := ?_) ?_ ?_
             rotate_left
             ·show Act.put _ (some 41) _ = _
              simp only [nm_]
              rfl
             refine one_ (i := 30) (N := some 45) #[U,U,U,U,U,U,U,U,U,U,U,U,U,U,U,U,U,U,U,U,U,U,U,U,U,U,U,U,U,U,U,O,O,O,O] rfl rfl (one_of HT_.out (by kernel_rfl)) (by decide) (fun K hK => ?_)
             refine goes_ Try.func44 (by kernel_rfl) rfl #[.int .i64 (rd l1 0)] (by rfl) rfl rfl (by (try simp only [List.map_toArray, List.map_cons, List.map_nil]); first | done | rfl | (simp only [List.length_drop, List.length_take]; rfl)) ?_
             with_reducible refine (spec_l01Ones.calls k1 (rd l1 0) t203 _ A21.out).mono ?_
             rintro e w' ⟨rfl, ⟨nd, rfl⟩⟩
             refine ⟨_, rfl, ?_⟩
             refine hK.out _ _ ⟨(blk_cell BK194.out 0).trans rfl, (blk_cell BK194.out 1).trans rfl, ((HB.out.cell (World.block_lt_of_cell? w _ hw196_0)).trans hw196_0), ((HB.out.cell (World.block_lt_of_cell? w _ hw198_0)).trans hw198_0), ((HB.out.cell (World.block_lt_of_cell? w _ hw199_0)).trans hw199_0), ((HB.out.cell (World.block_lt_of_cell? w _ hw200_0)).trans hw200_0), ((HB.out.cell (World.block_lt_of_cell? w _ hw202_0)).trans hw202_0)⟩ (fun hHeld => ?_)
             clear hK K
             refine norm_ (a' := ?_) ?_ ?_
             rotate_left
             ·show Act.put _ (some 45) _ = _
              simp only [nm_]
              rfl
             refine pure_ (i := 31) (N := some 46) (v := ?_) (a' := ?_) #[U,U,U,U,U,U,U,U,U,U,U,U,U,U,U,U,U,U,U,U,U,U,U,U,U,U,U,U,U,U,U,U,O,O,O] rfl rfl (any_of HT_.out (by kernel_rfl)) (fun _ _ _ h => h) (Or.inl ⟨by rfl, ?_⟩) ?_ ?_
             rotate_left; · intro w'; go_simp; with_reducible rfl
             rotate_left; · simp only [nm_]; rfl
             refine pure_ (i := 32) (N := some 47) (v := ?_) (a' := ?_) #[U,U,U,U,U,U,U,U,U,U,U,U,U,U,U,U,U,U,U,U,U,U,U,U,U,U,U,U,U,U,U,U,U,O,O] rfl rfl (any_of HT_.out (by kernel_rfl)) (fun _ _ _ h => h) (Or.inl ⟨by rfl, ?_⟩) ?_ ?_
             rotate_left; · intro w'; go_simp; with_reducible rfl
             rotate_left; · simp only [nm_]; rfl
             refine pure_ (i := 33) (N := some 48) (v := ?_) (a' := ?_) #[U,U,U,U,U,U,U,U,U,U,U,U,U,U,U,U,U,U,U,U,U,U,U,U,U,U,U,U,U,U,U,U,U,U,O] rfl rfl (any_of HT_.out (by kernel_rfl)) (fun _ _ _ h => h) (Or.inl ⟨by rfl, ?_⟩) ?_ ?_
             rotate_left; · intro w'; go_simp; with_reducible rfl
             rotate_left; · simp only [nm_]; rfl
             refine pure_ (i := 34) (N := some 49) (v := ?_) (a' := ?_) #[U,U,U,U,U,U,U,U,U,U,U,U,U,U,U,U,U,U,U,U,U,U,U,U,U,U,U,U,U,U,U,U,U,U,U] rfl rfl (any_of HT_.out (by kernel_rfl)) (fun _ _ _ h => h) (Or.inl ⟨by rfl, ?_⟩) ?_ ?_
             rotate_left; · intro w'; go_simp; with_reducible rfl
             rotate_left; · simp only [nm_]; rfl
             refine done_ (done_of HT_.out (by kernel_rfl)) ?_
             try go_wp2
             go_ret
             exact ⟨by first | rfl | (simp [errW_none, errW_some] <;> rfl) | (simp only [← hji13]; first | rfl | (simp [errW_none, errW_some] <;> rfl)) | (simp [*, errW_none, errW_some] <;> rfl), by repeat (first | (with_reducible first | exact HB.out | apply below_alloc | apply pw_below_drewN | apply below_drew1 | refine below_set ?_ GE194.out) | exact HB.out)⟩
           ·rw [if_neg c20] at H
            exact absurd H (by simp)
         ·rw [if_neg c15] at H
          exact absurd H (by simp)
        ·rw [if_neg c14] at H
         exact absurd H (by simp)
       ·rw [if_neg c12] at H
        have c12b0 : decide (0 < x5_1) = false := decide_eq_false c12
        clear c12
        have H' := Aside0.mk H
        clear H
        try go_wp2
        have n0_ := Aside0.mk (blk_drew BK194.out)
        have n1_ := Aside0.mk (below_drew1 HB.out)
        clear BK194
        clear HB
        have BK194 := n0_
        have HB := n1_
        clear n0_ n1_
        have p196 : 0 ≤ (x5_1 : Int) := of_decide_eq_true (by first | (with_reducible assumption) | assumption)
        have q196 : x5_1 < (l1.length : Int) := of_decide_eq_true (by first | (with_reducible assumption) | assumption)
        obtain ⟨ad196, e196, hx196_0⟩ := Kd.at_int HR1.out x5_1 p196 q196
        have hw196_0 := hx196_0
        cases e196
        replace hx196_0 := (HB.out.cell (World.block_lt_of_cell? w _ hx196_0)).trans hx196_0
        replace p196 := eq_true p196
        replace q196 := eq_true q196
        refine start_ (n := 35) (S := fun w' => w'.cell? ⟨gb194, 0, none⟩ = some (.int .i64 a0_0) ∧ w'.cell? ⟨gb194, 1, none⟩ = some (.slice A0_1 l0_1.length c0_1) ∧ w'.cell? (ad196.add (x5_1).toNat) = some (.int .i64 (rd l1 x5_1))) (ds := []) #[O,O,O,O,O,O,O,O,O,O,O,O,O,O,O,O,O,O,O,O,O,O,O,O,O,O,O,O,O,O,O,O,O,O,O] (by kernel_rfl) rfl rfl ⟨(blk_cell BK194.out 0).trans rfl, (blk_cell BK194.out 1).trans rfl, ((HB.out.cell (World.block_lt_of_cell? w _ hw196_0)).trans hw196_0)⟩ (fun hHeld => ?_); refine with_tabW spec_l03Chain.tab6 spec_l03Chain.bits6 (fun HT_ HW_ => ?_)
        generalize wr.drew = w27 at BK194 HB hx196_0 hHeld ⊢
        refine pure_ (i := 1) (N := some 16) (v := ?_) (a' := ?_) #[O,U,O,O,O,O,O,O,O,O,O,O,O,O,O,O,O,O,O,O,O,O,O,O,O,O,O,O,O,O,O,O,O,O,O] rfl rfl (any_of HT_.out (by kernel_rfl)) (fun _ _ _ h => h) (Or.inl ⟨by rfl, ?_⟩) ?_ ?_
        rotate_left; · intro w'; go_simp; with_reducible rfl
        rotate_left; · simp only [nm_]; rfl
        refine pure_ (i := 2) (N := some 17) (v := ?_) (a' := ?_) #[O,U,U,O,O,O,O,O,O,O,O,O,O,O,O,O,O,O,O,O,O,O,O,O,O,O,O,O,O,O,O,O,O,O,O] rfl rfl (any_of HT_.out (by kernel_rfl)) (fun _ _ _ h => h) (Or.inl ⟨by rfl, ?_⟩) ?_ ?_
        rotate_left; · intro w'; go_simp; with_reducible rfl
        rotate_left; · simp only [nm_]; rfl
        refine pure_ (i := 3) (N := some 18) (v := ?_) (a' := ?_) #[O,U,U,U,O,O,O,O,O,O,O,O,O,O,O,O,O,O,O,O,O,O,O,O,O,O,O,O,O,O,O,O,O,O,O] rfl rfl (any_of HT_.out (by kernel_rfl)) (fun _ _ _ h => h) (Or.inl ⟨by rfl, ?_⟩) ?_ ?_
        rotate_left; · intro w'; go_simp; with_reducible rfl
        rotate_left; · simp only [nm_]; rfl
        refine take_ (i := 0) (N := some 15) (v := ?_) (a' := ?_) #[U,U,U,U,O,O,O,O,O,O,O,O,O,O,O,O,O,O,O,O,O,O,O,O,O,O,O,O,O,O,O,O,O,O,O] rfl rfl (take_ofW HT_.out HW_.out (by kernel_rfl)) (fun _ _ _ h => h) (Or.inl ⟨by rfl, ?_⟩) hHeld ?_ ?_
        rotate_left; · rintro w' ⟨s0, s1, s2⟩; go_simp; with_reducible rfl
        rotate_left; · simp only [nm_]; rfl
        refine take_ (i := 4) (N := some 19) (v := ?_) (a' := ?_) #[U,U,U,U,U,O,O,O,O,O,O,O,O,O,O,O,O,O,O,O,O,O,O,O,O,O,O,O,O,O,O,O,O,O,O] rfl rfl (take_ofW HT_.out HW_.out (by kernel_rfl)) (fun _ _ _ h => h) (Or.inl ⟨by rfl, ?_⟩) hHeld ?_ ?_
        rotate_left; · rintro w' ⟨s0, s1, s2⟩; go_simp; with_reducible rfl
        rotate_left; · simp only [nm_]; rfl
        refine one_ (i := 5) (N := some 20) #[U,U,U,U,U,U,O,O,O,O,O,O,O,O,O,O,O,O,O,O,O,O,O,O,O,O,O,O,O,O,O,O,O,O,O] rfl rfl (one_of HT_.out (by kernel_rfl)) (by decide) (fun K hK => ?_)
        refine goes_ Try.func50 (by kernel_rfl) rfl #[.agg #[.int .i64 a0_0, .slice A0_1 l0_1.length c0_1], .int .i64 (rd l1 x5_1)] (by rfl) rfl rfl (by (try simp only [List.map_toArray, List.map_cons, List.map_nil]); first | done | rfl | (simp only [List.length_drop, List.length_take]; rfl)) ?_
        with_reducible refine (spec_l01Has.calls k1 a0_0 _ _ l0_1 (rd l1 x5_1) true _ ?side1 ?side2 A10.out).mono ?_
        (case side1 => repeat (first | exact (Kd.C_below HR0_1.out HB.out) | (with_reducible refine Kd.C_alloc ?_ _) | (with_reducible refine Kd.C_drewN ?_ _) | (with_reducible refine Kd.C_drew ?_)))
        (case side2 => exact HC0_1.out)
        rintro e w28 ⟨rfl, hb⟩
        refine ⟨_, rfl, ?_⟩
        have n0_ := Aside0.mk (blk_below (g := gb194) (o := .cells #[.int .i64 a0_0, .slice A0_1 l0_1.length c0_1] 26 (0, 0)) (by (with_reducible repeat (first | refine blk_drewN ?_ _ | refine blk_drew ?_ | refine blk_alloc ?_ _)); exact BK194.out) hb)
        have n1_ := Aside0.mk (below_step (by repeat (first | (with_reducible first | exact HB.out | apply below_alloc | apply pw_below_drewN | apply below_drew1 | refine below_set ?_ GE194.out) | exact HB.out)) hb)
        clear BK194
        clear HB
        have BK194 := n0_
        have HB := n1_
        clear n0_ n1_
        (try clear hb)
        (try clear hb2)
        (try clear hk)
        (try clear hi)
        refine hK.out _ _ ⟨(blk_cell BK194.out 0).trans rfl, (blk_cell BK194.out 1).trans rfl, ((HB.out.cell (World.block_lt_of_cell? w _ hw196_0)).trans hw196_0)⟩ (fun hHeld => ?_)
        clear hK K
        refine norm_ (a' := ?_) ?_ ?_
        rotate_left
        ·show Act.put _ (some 20) _ = _
         simp only [nm_]
         rfl
        refine pure_ (i := 6) (N := some 21) (v := ?_) (a' := ?_) #[U,U,U,U,U,U,U,O,O,O,O,O,O,O,O,O,O,O,O,O,O,O,O,O,O,O,O,O,O,O,O,O,O,O,O] rfl rfl (any_of HT_.out (by kernel_rfl)) (fun _ _ _ h => h) (Or.inl ⟨by rfl, ?_⟩) ?_ ?_
        rotate_left; · intro w'; go_simp; with_reducible rfl
        rotate_left; · simp only [nm_]; rfl
        refine pure_ (i := 7) (N := some 22) (v := ?_) (a' := ?_) #[U,U,U,U,U,U,U,U,O,O,O,O,O,O,O,O,O,O,O,O,O,O,O,O,O,O,O,O,O,O,O,O,O,O,O] rfl rfl (any_of HT_.out (by kernel_rfl)) (fun _ _ _ h => h) (Or.inl ⟨by rfl, ?_⟩) ?_ ?_
        rotate_left; · intro w'; go_simp; with_reducible rfl
        rotate_left; · simp only [nm_]; rfl
        refine pure_ (i := 8) (N := some 23) (v := ?_) (a' := ?_) #[U,U,U,U,U,U,U,U,U,O,O,O,O,O,O,O,O,O,O,O,O,O,O,O,O,O,O,O,O,O,O,O,O,O,O] rfl rfl (any_of HT_.out (by kernel_rfl)) (fun _ _ _ h => h) (Or.inl ⟨by rfl, ?_⟩) ?_ ?_
        rotate_left; · intro w'; go_simp; with_reducible rfl
        rotate_left; · simp only [nm_]; rfl
        refine pure_ (i := 9) (N := some 24) (v := ?_) (a' := ?_) #[U,U,U,U,U,U,U,U,U,U,O,O,O,O,O,O,O,O,O,O,O,O,O,O,O,O,O,O,O,O,O,O,O,O,O] rfl rfl (any_of HT_.out (by kernel_rfl)) (fun _ _ _ h => h) (Or.inl ⟨by rfl, ?_⟩) ?_ ?_
        rotate_left; · intro w'; go_simp; with_reducible rfl
        rotate_left; · simp only [nm_]; rfl
        refine pure_ (i := 10) (N := some 25) (v := ?_) (a' := ?_) #[U,U,U,U,U,U,U,U,U,U,U,O,O,O,O,O,O,O,O,O,O,O,O,O,O,O,O,O,O,O,O,O,O,O,O] rfl rfl (any_of HT_.out (by kernel_rfl)) (fun _ _ _ h => h) (Or.inl ⟨by rfl, ?_⟩) ?_ ?_
        rotate_left; · intro w'; go_simp; with_reducible rfl
        rotate_left; · simp only [nm_]; rfl
        refine pure_ (i := 11) (N := some 26) (v := undef) (a' := ?_) #[U,U,U,U,U,U,U,U,U,U,U,U,O,O,O,O,O,O,O,O,O,O,O,O,O,O,O,O,O,O,O,O,O,O,O] rfl rfl (any_of HT_.out (by kernel_rfl)) (fun _ _ _ h => h) (Or.inr ⟨by rfl, rfl⟩) ?_ ?_
        rotate_left; · simp only [nm_]; rfl
        refine pure_ (i := 12) (N := some 27) (v := undef) (a' := ?_) #[U,U,U,U,U,U,U,U,U,U,U,U,U,O,O,O,O,O,O,O,O,O,O,O,O,O,O,O,O,O,O,O,O,O,O] rfl rfl (any_of HT_.out (by kernel_rfl)) (fun _ _ _ h => h) (Or.inr ⟨by rfl, rfl⟩) ?_ ?_
        rotate_left; · simp only [nm_]; rfl
        refine pure_ (i := 13) (N := some 28) (v := undef) (a' := ?_) #[U,U,U,U,U,U,U,U,U,U,U,U,U,U,O,O,O,O,O,O,O,O,O,O,O,O,O,O,O,O,O,O,O,O,O] rfl rfl (any_of HT_.out (by kernel_rfl)) (fun _ _ _ h => h) (Or.inr ⟨by rfl, rfl⟩) ?_ ?_
        rotate_left; · simp only [nm_]; rfl
        refine pure_ (i := 14) (N := some 29) (v := undef) (a' := ?_) #[U,U,U,U,U,U,U,U,U,U,U,U,U,U,U,O,O,O,O,O,O,O,O,O,O,O,O,O,O,O,O,O,O,O,O] rfl rfl (any_of HT_.out (by kernel_rfl)) (fun _ _ _ h => h) (Or.inr ⟨by rfl, rfl⟩) ?_ ?_
        rotate_left; · simp only [nm_]; rfl
        refine pure_ (i := 15) (N := some 30) (v := undef) (a' := ?_) #[U,U,U,U,U,U,U,U,U,U,U,U,U,U,U,U,O,O,O,O,O,O,O,O,O,O,O,O,O,O,O,O,O,O,O] rfl rfl (any_of HT_.out (by kernel_rfl)) (fun _ _ _ h => h) (Or.inr ⟨by rfl, rfl⟩) ?_ ?_
        rotate_left; · simp only [nm_]; rfl
        refine pure_ (i := 16) (N := some 31) (v := undef) (a' := ?_) #[U,U,U,U,U,U,U,U,U,U,U,U,U,U,U,U,U,O,O,O,O,O,O,O,O,O,O,O,O,O,O,O,O,O,O] rfl rfl (any_of HT_.out (by kernel_rfl)) (fun _ _ _ h => h) (Or.inr ⟨by rfl, rfl⟩) ?_ ?_
        rotate_left; · simp only [nm_]; rfl
        refine pure_ (i := 17) (N := some 32) (v := undef) (a' := ?_) #[U,U,U,U,U,U,U,U,U,U,U,U,U,U,U,U,U,U,O,O,O,O,O,O,O,O,O,O,O,O,O,O,O,O,O] rfl rfl (any_of HT_.out (by kernel_rfl)) (fun _ _ _ h => h) (Or.inr ⟨by rfl, rfl⟩) ?_ ?_
        rotate_left; · simp only [nm_]; rfl
        refine pure_ (i := 18) (N := some 33) (v := undef) (a' := ?_) #[U,U,U,U,U,U,U,U,U,U,U,U,U,U,U,U,U,U,U,O,O,O,O,O,O,O,O,O,O,O,O,O,O,O,O] rfl rfl (any_of HT_.out (by kernel_rfl)) (fun _ _ _ h => h) (Or.inr ⟨by rfl, rfl⟩) ?_ ?_
        rotate_left; · simp only [nm_]; rfl
        refine pure_ (i := 19) (N := some 34) (v := undef) (a' := ?_) #[U,U,U,U,U,U,U,U,U,U,U,U,U,U,U,U,U,U,U,U,O,O,O,O,O,O,O,O,O,O,O,O,O,O,O] rfl rfl (any_of HT_.out (by kernel_rfl)) (fun _ _ _ h => h) (Or.inr ⟨by rfl, rfl⟩) ?_ ?_
        rotate_left; · simp only [nm_]; rfl
        refine pure_ (i := 20) (N := some 35) (v := undef) (a' := ?_) #[U,U,U,U,U,U,U,U,U,U,U,U,U,U,U,U,U,U,U,U,U,O,O,O,O,O,O,O,O,O,O,O,O,O,O] rfl rfl (any_of HT_.out (by kernel_rfl)) (fun _ _ _ h => h) (Or.inr ⟨by rfl, rfl⟩) ?_ ?_
        rotate_left; · simp only [nm_]; rfl
        refine pure_ (i := 21) (N := some 36) (v := undef) (a' := ?_) #[U,U,U,U,U,U,U,U,U,U,U,U,U,U,U,U,U,U,U,U,U,U,O,O,O,O,O,O,O,O,O,O,O,O,O] rfl rfl (any_of HT_.out (by kernel_rfl)) (fun _ _ _ h => h) (Or.inr ⟨by rfl, rfl⟩) ?_ ?_
        rotate_left; · simp only [nm_]; rfl
        refine pure_ (i := 22) (N := some 37) (v := undef) (a' := ?_) #[U,U,U,U,U,U,U,U,U,U,U,U,U,U,U,U,U,U,U,U,U,U,U,O,O,O,O,O,O,O,O,O,O,O,O] rfl rfl (any_of HT_.out (by kernel_rfl)) (fun _ _ _ h => h) (Or.inr ⟨by rfl, rfl⟩) ?_ ?_
        rotate_left; · simp only [nm_]; rfl
        refine pure_ (i := 23) (N := some 38) (v := undef) (a' := ?_) #[U,U,U,U,U,U,U,U,U,U,U,U,U,U,U,U,U,U,U,U,U,U,U,U,O,O,O,O,O,O,O,O,O,O,O] rfl rfl (any_of HT_.out (by kernel_rfl)) (fun _ _ _ h => h) (Or.inr ⟨by rfl, rfl⟩) ?_ ?_
        rotate_left; · simp only [nm_]; rfl
        refine pure_ (i := 24) (N := some 39) (v := undef) (a' := ?_) #[U,U,U,U,U,U,U,U,U,U,U,U,U,U,U,U,U,U,U,U,U,U,U,U,U,O,O,O,O,O,O,O,O,O,O] rfl rfl (any_of HT_.out (by kernel_rfl)) (fun _ _ _ h => h) (Or.inr ⟨by rfl, rfl⟩) ?_ ?_
        rotate_left; · simp only [nm_]; rfl
        refine pure_ (i := 25) (N := some 40) (v := undef) (a' := ?_) #[U,U,U,U,U,U,U,U,U,U,U,U,U,U,U,U,U,U,U,U,U,U,U,U,U,U,O,O,O,O,O,O,O,O,O] rfl rfl (any_of HT_.out (by kernel_rfl)) (fun _ _ _ h => h) (Or.inr ⟨by rfl, rfl⟩) ?_ ?_
        rotate_left; · simp only [nm_]; rfl
        refine pure_ (i := 26) (N := some 41) (v := undef) (a' := ?_) #[U,U,U,U,U,U,U,U,U,U,U,U,U,U,U,U,U,U,U,U,U,U,U,U,U,U,U,O,O,O,O,O,O,O,O] rfl rfl (any_of HT_.out (by kernel_rfl)) (fun _ _ _ h => h) (Or.inr ⟨by rfl, rfl⟩) ?_ ?_
        rotate_left; · simp only [nm_]; rfl
        refine pure_ (i := 27) (N := some 42) (v := undef) (a' := ?_) #[U,U,U,U,U,U,U,U,U,U,U,U,U,U,U,U,U,U,U,U,U,U,U,U,U,U,U,U,O,O,O,O,O,O,O] rfl rfl (any_of HT_.out (by kernel_rfl)) (fun _ _ _ h => h) (Or.inr ⟨by rfl, rfl⟩) ?_ ?_
        rotate_left; · simp only [nm_]; rfl
        refine pure_ (i := 28) (N := some 43) (v := undef) (a' := ?_) #[U,U,U,U,U,U,U,U,U,U,U,U,U,U,U,U,U,U,U,U,U,U,U,U,U,U,U,U,U,O,O,O,O,O,O] rfl rfl (any_of HT_.out (by kernel_rfl)) (fun _ _ _ h => h) (Or.inr ⟨by rfl, rfl⟩) ?_ ?_
        rotate_left; · simp only [nm_]; rfl
        refine pure_ (i := 29) (N := some 44) (v := undef) (a' := ?_) #[U,U,U,U,U,U,U,U,U,U,U,U,U,U,U,U,U,U,U,U,U,U,U,U,U,U,U,U,U,U,O,O,O,O,O] rfl rfl (any_of HT_.out (by kernel_rfl)) (fun _ _ _ h => h) (Or.inr ⟨by rfl, rfl⟩) ?_ ?_
        rotate_left; · simp only [nm_]; rfl
        refine pure_ (i := 30) (N := some 45) (v := undef) (a' := ?_) #[U,U,U,U,U,U,U,U,U,U,U,U,U,U,U,U,U,U,U,U,U,U,U,U,U,U,U,U,U,U,U,O,O,O,O] rfl rfl (any_of HT_.out (by kernel_rfl)) (fun _ _ _ h => h) (Or.inr ⟨by rfl, rfl⟩) ?_ ?_
        rotate_left; · simp only [nm_]; rfl
        refine pure_ (i := 31) (N := some 46) (v := undef) (a' := ?_) #[U,U,U,U,U,U,U,U,U,U,U,U,U,U,U,U,U,U,U,U,U,U,U,U,U,U,U,U,U,U,U,U,O,O,O] rfl rfl (any_of HT_.out (by kernel_rfl)) (fun _ _ _ h => h) (Or.inr ⟨by rfl, rfl⟩) ?_ ?_
        rotate_left; · simp only [nm_]; rfl
        refine pure_ (i := 32) (N := some 47) (v := undef) (a' := ?_) #[U,U,U,U,U,U,U,U,U,U,U,U,U,U,U,U,U,U,U,U,U,U,U,U,U,U,U,U,U,U,U,U,U,O,O] rfl rfl (any_of HT_.out (by kernel_rfl)) (fun _ _ _ h => h) (Or.inr ⟨by rfl, rfl⟩) ?_ ?_
        rotate_left; · simp only [nm_]; rfl
        refine pure_ (i := 33) (N := some 48) (v := ?_) (a' := ?_) #[U,U,U,U,U,U,U,U,U,U,U,U,U,U,U,U,U,U,U,U,U,U,U,U,U,U,U,U,U,U,U,U,U,U,O] rfl rfl (any_of HT_.out (by kernel_rfl)) (fun _ _ _ h => h) (Or.inl ⟨by rfl, ?_⟩) ?_ ?_
        rotate_left; · intro w'; go_simp; with_reducible rfl
        rotate_left; · simp only [nm_]; rfl
        refine pure_ (i := 34) (N := some 49) (v := ?_) (a' := ?_) #[U,U,U,U,U,U,U,U,U,U,U,U,U,U,U,U,U,U,U,U,U,U,U,U,U,U,U,U,U,U,U,U,U,U,U] rfl rfl (any_of HT_.out (by kernel_rfl)) (fun _ _ _ h => h) (Or.inl ⟨by rfl, ?_⟩) ?_ ?_
        rotate_left; · intro w'; go_simp; with_reducible rfl
        rotate_left; · simp only [nm_]; rfl
        refine done_ (done_of HT_.out (by kernel_rfl)) ?_
        try go_wp2
        go_roundg k1
        case measure => have := HK1.out; omega
        case rel => exact ⟨(wrap64 (x5_1 + 1)), (by first | rfl | (simp; done) | (simp [*]; done)), H', ⟨by have := HK1.out; omega⟩, ⟨by (with_reducible repeat (first | refine blk_drewN ?_ _ | refine blk_drew ?_ | refine blk_alloc ?_ _)); exact BK194.out⟩, ⟨by repeat (first | (with_reducible first | exact HB.out | apply below_alloc | apply pw_below_drewN | apply below_drew1 | refine below_set ?_ GE194.out) | exact HB.out)⟩⟩
      ·replace c11 := Bool.eq_false_iff.mpr c11
       subst c11
       have H1 : (some 2) = some r := by rw [if_neg (show ¬ (false = true) by decide)] at H; exact H
       clear H
       have H := H1
       clear H1
       obtain rfl := Option.some.inj H
       try go_wp2
       have n0_ := Aside0.mk (blk_drew BK194.out)
       have n1_ := Aside0.mk (below_drew1 HB.out)
       clear BK194
       clear HB
       have BK194 := n0_
       have HB := n1_
       clear n0_ n1_
       have p196 : 0 ≤ (x5_1 : Int) := of_decide_eq_true (by first | (with_reducible assumption) | assumption)
       have q196 : x5_1 < (l1.length : Int) := of_decide_eq_true (by first | (with_reducible assumption) | assumption)
       obtain ⟨ad196, e196, hx196_0⟩ := Kd.at_int HR1.out x5_1 p196 q196
       have hw196_0 := hx196_0
       cases e196
       replace hx196_0 := (HB.out.cell (World.block_lt_of_cell? w _ hx196_0)).trans hx196_0
       replace p196 := eq_true p196
       replace q196 := eq_true q196
       refine start_ (n := 35) (S := fun w' => w'.cell? ⟨gb194, 0, none⟩ = some (.int .i64 a0_0) ∧ w'.cell? ⟨gb194, 1, none⟩ = some (.slice A0_1 l0_1.length c0_1) ∧ w'.cell? (ad196.add (x5_1).toNat) = some (.int .i64 (rd l1 x5_1))) (ds := []) #[O,O,O,O,O,O,O,O,O,O,O,O,O,O,O,O,O,O,O,O,O,O,O,O,O,O,O,O,O,O,O,O,O,O,O] (by kernel_rfl) rfl rfl ⟨(blk_cell BK194.out 0).trans rfl, (blk_cell BK194.out 1).trans rfl, ((HB.out.cell (World.block_lt_of_cell? w _ hw196_0)).trans hw196_0)⟩ (fun hHeld => ?_); refine with_tabW spec_l03Chain.tab6 spec_l03Chain.bits6 (fun HT_ HW_ => ?_)
       generalize wr.drew = w29 at BK194 HB hx196_0 hHeld ⊢
       refine pure_ (i := 1) (N := some 16) (v := ?_) (a' := ?_) #[O,U,O,O,O,O,O,O,O,O,O,O,O,O,O,O,O,O,O,O,O,O,O,O,O,O,O,O,O,O,O,O,O,O,O] rfl rfl (any_of HT_.out (by kernel_rfl)) (fun _ _ _ h => h) (Or.inl ⟨by rfl, ?_⟩) ?_ ?_
       rotate_left; · intro w'; go_simp; with_reducible rfl
       rotate_left; · simp only [nm_]; rfl
       refine pure_ (i := 2) (N := some 17) (v := ?_) (a' := ?_) #[O,U,U,O,O,O,O,O,O,O,O,O,O,O,O,O,O,O,O,O,O,O,O,O,O,O,O,O,O,O,O,O,O,O,O] rfl rfl (any_of HT_.out (by kernel_rfl)) (fun _ _ _ h => h) (Or.inl ⟨by rfl, ?_⟩) ?_ ?_
       rotate_left; · intro w'; go_simp; with_reducible rfl
       rotate_left; · simp only [nm_]; rfl
       refine pure_ (i := 3) (N := some 18) (v := ?_) (a' := ?_) #[O,U,U,U,O,O,O,O,O,O,O,O,O,O,O,O,O,O,O,O,O,O,O,O,O,O,O,O,O,O,O,O,O,O,O] rfl rfl (any_of HT_.out (by kernel_rfl)) (fun _ _ _ h => h) (Or.inl ⟨by rfl, ?_⟩) ?_ ?_
       rotate_left; · intro w'; go_simp; with_reducible rfl
       rotate_left; · simp only [nm_]; rfl
       refine take_ (i := 0) (N := some 15) (v := ?_) (a' := ?_) #[U,U,U,U,O,O,O,O,O,O,O,O,O,O,O,O,O,O,O,O,O,O,O,O,O,O,O,O,O,O,O,O,O,O,O] rfl rfl (take_ofW HT_.out HW_.out (by kernel_rfl)) (fun _ _ _ h => h) (Or.inl ⟨by rfl, ?_⟩) hHeld ?_ ?_
       rotate_left; · rintro w' ⟨s0, s1, s2⟩; go_simp; with_reducible rfl
       rotate_left; · simp only [nm_]; rfl
       refine take_ (i := 4) (N := some 19) (v := ?_) (a' := ?_) #[U,U,U,U,U,O,O,O,O,O,O,O,O,O,O,O,O,O,O,O,O,O,O,O,O,O,O,O,O,O,O,O,O,O,O] rfl rfl (take_ofW HT_.out HW_.out (by kernel_rfl)) (fun _ _ _ h => h) (Or.inl ⟨by rfl, ?_⟩) hHeld ?_ ?_
       rotate_left; · rintro w' ⟨s0, s1, s2⟩; go_simp; with_reducible rfl
       rotate_left; · simp only [nm_]; rfl
       refine one_ (i := 5) (N := some 20) #[U,U,U,U,U,U,O,O,O,O,O,O,O,O,O,O,O,O,O,O,O,O,O,O,O,O,O,O,O,O,O,O,O,O,O] rfl rfl (one_of HT_.out (by kernel_rfl)) (by decide) (fun K hK => ?_)
       refine goes_ Try.func50 (by kernel_rfl) rfl #[.agg #[.int .i64 a0_0, .slice A0_1 l0_1.length c0_1], .int .i64 (rd l1 x5_1)] (by rfl) rfl rfl (by (try simp only [List.map_toArray, List.map_cons, List.map_nil]); first | done | rfl | (simp only [List.length_drop, List.length_take]; rfl)) ?_
       with_reducible refine (spec_l01Has.calls k1 a0_0 _ _ l0_1 (rd l1 x5_1) false _ ?side1 ?side2 A10.out).mono ?_
       (case side1 => repeat (first | exact (Kd.C_below HR0_1.out HB.out) | (with_reducible refine Kd.C_alloc ?_ _) | (with_reducible refine Kd.C_drewN ?_ _) | (with_reducible refine Kd.C_drew ?_)))
       (case side2 => exact HC0_1.out)
       rintro e w30 ⟨rfl, hb⟩
       refine ⟨_, rfl, ?_⟩
       have n0_ := Aside0.mk (blk_below (g := gb194) (o := .cells #[.int .i64 a0_0, .slice A0_1 l0_1.length c0_1] 26 (0, 0)) (by (with_reducible repeat (first | refine blk_drewN ?_ _ | refine blk_drew ?_ | refine blk_alloc ?_ _)); exact BK194.out) hb)
       have n1_ := Aside0.mk (below_step (by repeat (first | (with_reducible first | exact HB.out | apply below_alloc | apply pw_below_drewN | apply below_drew1 | refine below_set ?_ GE194.out) | exact HB.out)) hb)
       clear BK194
       clear HB
       have BK194 := n0_
       have HB := n1_
       clear n0_ n1_
       (try clear hb)
       (try clear hb2)
       (try clear hk)
       (try clear hi)
       refine hK.out _ _ ⟨(blk_cell BK194.out 0).trans rfl, (blk_cell BK194.out 1).trans rfl, ((HB.out.cell (World.block_lt_of_cell? w _ hw196_0)).trans hw196_0)⟩ (fun hHeld => ?_)
       clear hK K
       refine norm_ (a' := ?_) ?_ ?_
       rotate_left
       ·show Act.put _ (some 20) _ = _
        simp only [nm_]
        rfl
       refine pure_ (i := 6) (N := some 21) (v := ?_) (a' := ?_) #[U,U,U,U,U,U,U,O,O,O,O,O,O,O,O,O,O,O,O,O,O,O,O,O,O,O,O,O,O,O,O,O,O,O,O] rfl rfl (any_of HT_.out (by kernel_rfl)) (fun _ _ _ h => h) (Or.inl ⟨by rfl, ?_⟩) ?_ ?_
       rotate_left; · intro w'; go_simp; with_reducible rfl
       rotate_left; · simp only [nm_]; rfl
       refine pure_ (i := 7) (N := some 22) (v := ?_) (a' := ?_) #[U,U,U,U,U,U,U,U,O,O,O,O,O,O,O,O,O,O,O,O,O,O,O,O,O,O,O,O,O,O,O,O,O,O,O] rfl rfl (any_of HT_.out (by kernel_rfl)) (fun _ _ _ h => h) (Or.inl ⟨by rfl, ?_⟩) ?_ ?_
       rotate_left; · intro w'; go_simp; with_reducible rfl
       rotate_left; · simp only [nm_]; rfl
       refine pure_ (i := 8) (N := some 23) (v := undef) (a' := ?_) #[U,U,U,U,U,U,U,U,U,O,O,O,O,O,O,O,O,O,O,O,O,O,O,O,O,O,O,O,O,O,O,O,O,O,O] rfl rfl (any_of HT_.out (by kernel_rfl)) (fun _ _ _ h => h) (Or.inr ⟨by rfl, rfl⟩) ?_ ?_
       rotate_left; · simp only [nm_]; rfl
       refine pure_ (i := 9) (N := some 24) (v := undef) (a' := ?_) #[U,U,U,U,U,U,U,U,U,U,O,O,O,O,O,O,O,O,O,O,O,O,O,O,O,O,O,O,O,O,O,O,O,O,O] rfl rfl (any_of HT_.out (by kernel_rfl)) (fun _ _ _ h => h) (Or.inr ⟨by rfl, rfl⟩) ?_ ?_
       rotate_left; · simp only [nm_]; rfl
       refine pure_ (i := 10) (N := some 25) (v := undef) (a' := ?_) #[U,U,U,U,U,U,U,U,U,U,U,O,O,O,O,O,O,O,O,O,O,O,O,O,O,O,O,O,O,O,O,O,O,O,O] rfl rfl (any_of HT_.out (by kernel_rfl)) (fun _ _ _ h => h) (Or.inr ⟨by rfl, rfl⟩) ?_ ?_
       rotate_left; · simp only [nm_]; rfl
       refine pure_ (i := 11) (N := some 26) (v := undef) (a' := ?_) #[U,U,U,U,U,U,U,U,U,U,U,U,O,O,O,O,O,O,O,O,O,O,O,O,O,O,O,O,O,O,O,O,O,O,O] rfl rfl (any_of HT_.out (by kernel_rfl)) (fun _ _ _ h => h) (Or.inr ⟨by rfl, rfl⟩) ?_ ?_
       rotate_left; · simp only [nm_]; rfl
       refine pure_ (i := 12) (N := some 27) (v := undef) (a' := ?_) #[U,U,U,U,U,U,U,U,U,U,U,U,U,O,O,O,O,O,O,O,O,O,O,O,O,O,O,O,O,O,O,O,O,O,O] rfl rfl (any_of HT_.out (by kernel_rfl)) (fun _ _ _ h => h) (Or.inr ⟨by rfl, rfl⟩) ?_ ?_
       rotate_left; · simp only [nm_]; rfl
       refine pure_ (i := 13) (N := some 28) (v := undef) (a' := ?_) #[U,U,U,U,U,U,U,U,U,U,U,U,U,U,O,O,O,O,O,O,O,O,O,O,O,O,O,O,O,O,O,O,O,O,O] rfl rfl (any_of HT_.out (by kernel_rfl)) (fun _ _ _ h => h) (Or.inr ⟨by rfl, rfl⟩) ?_ ?_
       rotate_left; · simp only [nm_]; rfl
       refine pure_ (i := 14) (N := some 29) (v := undef) (a' := ?_) #[U,U,U,U,U,U,U,U,U,U,U,U,U,U,U,O,O,O,O,O,O,O,O,O,O,O,O,O,O,O,O,O,O,O,O] rfl rfl (any_of HT_.out (by kernel_rfl)) (fun _ _ _ h => h) (Or.inr ⟨by rfl, rfl⟩) ?_ ?_
       rotate_left; · simp only [nm_]; rfl
       refine pure_ (i := 15) (N := some 30) (v := undef) (a' := ?_) #[U,U,U,U,U,U,U,U,U,U,U,U,U,U,U,U,O,O,O,O,O,O,O,O,O,O,O,O,O,O,O,O,O,O,O] rfl rfl (any_of HT_.out (by kernel_rfl)) (fun _ _ _ h => h) (Or.inr ⟨by rfl, rfl⟩) ?_ ?_
       rotate_left; · simp only [nm_]; rfl
       refine pure_ (i := 16) (N := some 31) (v := undef) (a' := ?_) #[U,U,U,U,U,U,U,U,U,U,U,U,U,U,U,U,U,O,O,O,O,O,O,O,O,O,O,O,O,O,O,O,O,O,O] rfl rfl (any_of HT_.out (by kernel_rfl)) (fun _ _ _ h => h) (Or.inr ⟨by rfl, rfl⟩) ?_ ?_
       rotate_left; · simp only [nm_]; rfl
       refine pure_ (i := 17) (N := some 32) (v := undef) (a' := ?_) #[U,U,U,U,U,U,U,U,U,U,U,U,U,U,U,U,U,U,O,O,O,O,O,O,O,O,O,O,O,O,O,O,O,O,O] rfl rfl (any_of HT_.out (by kernel_rfl)) (fun _ _ _ h => h) (Or.inr ⟨by rfl, rfl⟩) ?_ ?_
       rotate_left; · simp only [nm_]; rfl
       refine pure_ (i := 18) (N := some 33) (v := undef) (a' := ?_) #[U,U,U,U,U,U,U,U,U,U,U,U,U,U,U,U,U,U,U,O,O,O,O,O,O,O,O,O,O,O,O,O,O,O,O] rfl rfl (any_of HT_.out (by kernel_rfl)) (fun _ _ _ h => h) (Or.inr ⟨by rfl, rfl⟩) ?_ ?_
       rotate_left; · simp only [nm_]; rfl
       refine pure_ (i := 19) (N := some 34) (v := undef) (a' := ?_) #[U,U,U,U,U,U,U,U,U,U,U,U,U,U,U,U,U,U,U,U,O,O,O,O,O,O,O,O,O,O,O,O,O,O,O] rfl rfl (any_of HT_.out (by kernel_rfl)) (fun _ _ _ h => h) (Or.inr ⟨by rfl, rfl⟩) ?_ ?_
       rotate_left; · simp only [nm_]; rfl
       refine pure_ (i := 20) (N := some 35) (v := undef) (a' := ?_) #[U,U,U,U,U,U,U,U,U,U,U,U,U,U,U,U,U,U,U,U,U,O,O,O,O,O,O,O,O,O,O,O,O,O,O] rfl rfl (any_of HT_.out (by kernel_rfl)) (fun _ _ _ h => h) (Or.inr ⟨by rfl, rfl⟩) ?_ ?_
       rotate_left; · simp only [nm_]; rfl
       refine pure_ (i := 21) (N := some 36) (v := undef) (a' := ?_) #[U,U,U,U,U,U,U,U,U,U,U,U,U,U,U,U,U,U,U,U,U,U,O,O,O,O,O,O,O,O,O,O,O,O,O] rfl rfl (any_of HT_.out (by kernel_rfl)) (fun _ _ _ h => h) (Or.inr ⟨by rfl, rfl⟩) ?_ ?_
       rotate_left; · simp only [nm_]; rfl
       refine pure_ (i := 22) (N := some 37) (v := undef) (a' := ?_) #[U,U,U,U,U,U,U,U,U,U,U,U,U,U,U,U,U,U,U,U,U,U,U,O,O,O,O,O,O,O,O,O,O,O,O] rfl rfl (any_of HT_.out (by kernel_rfl)) (fun _ _ _ h => h) (Or.inr ⟨by rfl, rfl⟩) ?_ ?_
       rotate_left; · simp only [nm_]; rfl
       refine pure_ (i := 23) (N := some 38) (v := undef) (a' := ?_) #[U,U,U,U,U,U,U,U,U,U,U,U,U,U,U,U,U,U,U,U,U,U,U,U,O,O,O,O,O,O,O,O,O,O,O] rfl rfl (any_of HT_.out (by kernel_rfl)) (fun _ _ _ h => h) (Or.inr ⟨by rfl, rfl⟩) ?_ ?_
       rotate_left; · simp only [nm_]; rfl
       refine pure_ (i := 24) (N := some 39) (v := undef) (a' := ?_) #[U,U,U,U,U,U,U,U,U,U,U,U,U,U,U,U,U,U,U,U,U,U,U,U,U,O,O,O,O,O,O,O,O,O,O] rfl rfl (any_of HT_.out (by kernel_rfl)) (fun _ _ _ h => h) (Or.inr ⟨by rfl, rfl⟩) ?_ ?_
       rotate_left; · simp only [nm_]; rfl
       refine pure_ (i := 25) (N := some 40) (v := undef) (a' := ?_) #[U,U,U,U,U,U,U,U,U,U,U,U,U,U,U,U,U,U,U,U,U,U,U,U,U,U,O,O,O,O,O,O,O,O,O] rfl rfl (any_of HT_.out (by kernel_rfl)) (fun _ _ _ h => h) (Or.inr ⟨by rfl, rfl⟩) ?_ ?_
       rotate_left; · simp only [nm_]; rfl
       refine pure_ (i := 26) (N := some 41) (v := undef) (a' := ?_) #[U,U,U,U,U,U,U,U,U,U,U,U,U,U,U,U,U,U,U,U,U,U,U,U,U,U,U,O,O,O,O,O,O,O,O] rfl rfl (any_of HT_.out (by kernel_rfl)) (fun _ _ _ h => h) (Or.inr ⟨by rfl, rfl⟩) ?_ ?_
       rotate_left; · simp only [nm_]; rfl
       refine pure_ (i := 27) (N := some 42) (v := undef) (a' := ?_) #[U,U,U,U,U,U,U,U,U,U,U,U,U,U,U,U,U,U,U,U,U,U,U,U,U,U,U,U,O,O,O,O,O,O,O] rfl rfl (any_of HT_.out (by kernel_rfl)) (fun _ _ _ h => h) (Or.inr ⟨by rfl, rfl⟩) ?_ ?_
       rotate_left; · simp only [nm_]; rfl
       refine pure_ (i := 28) (N := some 43) (v := undef) (a' := ?_) #[U,U,U,U,U,U,U,U,U,U,U,U,U,U,U,U,U,U,U,U,U,U,U,U,U,U,U,U,U,O,O,O,O,O,O] rfl rfl (any_of HT_.out (by kernel_rfl)) (fun _ _ _ h => h) (Or.inr ⟨by rfl, rfl⟩) ?_ ?_
       rotate_left; · simp only [nm_]; rfl
       refine pure_ (i := 29) (N := some 44) (v := undef) (a' := ?_) #[U,U,U,U,U,U,U,U,U,U,U,U,U,U,U,U,U,U,U,U,U,U,U,U,U,U,U,U,U,U,O,O,O,O,O] rfl rfl (any_of HT_.out (by kernel_rfl)) (fun _ _ _ h => h) (Or.inr ⟨by rfl, rfl⟩) ?_ ?_
       rotate_left; · simp only [nm_]; rfl
       refine pure_ (i := 30) (N := some 45) (v := undef) (a' := ?_) #[U,U,U,U,U,U,U,U,U,U,U,U,U,U,U,U,U,U,U,U,U,U,U,U,U,U,U,U,U,U,U,O,O,O,O] rfl rfl (any_of HT_.out (by kernel_rfl)) (fun _ _ _ h => h) (Or.inr ⟨by rfl, rfl⟩) ?_ ?_
       rotate_left; · simp only [nm_]; rfl
       refine pure_ (i := 31) (N := some 46) (v := undef) (a' := ?_) #[U,U,U,U,U,U,U,U,U,U,U,U,U,U,U,U,U,U,U,U,U,U,U,U,U,U,U,U,U,U,U,U,O,O,O] rfl rfl (any_of HT_.out (by kernel_rfl)) (fun _ _ _ h => h) (Or.inr ⟨by rfl, rfl⟩) ?_ ?_
       rotate_left; · simp only [nm_]; rfl
       refine pure_ (i := 32) (N := some 47) (v := undef) (a' := ?_) #[U,U,U,U,U,U,U,U,U,U,U,U,U,U,U,U,U,U,U,U,U,U,U,U,U,U,U,U,U,U,U,U,U,O,O] rfl rfl (any_of HT_.out (by kernel_rfl)) (fun _ _ _ h => h) (Or.inr ⟨by rfl, rfl⟩) ?_ ?_
       rotate_left; · simp only [nm_]; rfl
       refine pure_ (i := 33) (N := some 48) (v := undef) (a' := ?_) #[U,U,U,U,U,U,U,U,U,U,U,U,U,U,U,U,U,U,U,U,U,U,U,U,U,U,U,U,U,U,U,U,U,U,O] rfl rfl (any_of HT_.out (by kernel_rfl)) (fun _ _ _ h => h) (Or.inr ⟨by rfl, rfl⟩) ?_ ?_
       rotate_left; · simp only [nm_]; rfl
       refine pure_ (i := 34) (N := some 49) (v := ?_) (a' := ?_) #[U,U,U,U,U,U,U,U,U,U,U,U,U,U,U,U,U,U,U,U,U,U,U,U,U,U,U,U,U,U,U,U,U,U,U] rfl rfl (any_of HT_.out (by kernel_rfl)) (fun _ _ _ h => h) (Or.inl ⟨by rfl, ?_⟩) ?_ ?_
       rotate_left; · intro w'; go_simp; with_reducible rfl
       rotate_left; · simp only [nm_]; rfl
       refine done_ (done_of HT_.out (by kernel_rfl)) ?_
       try go_wp2
       go_ret
       exact ⟨by first | rfl | (simp [errW_none, errW_some] <;> rfl) | (simp [*, errW_none, errW_some] <;> rfl), by repeat (first | (with_reducible first | exact HB.out | apply below_alloc | apply pw_below_drewN | apply below_drew1 | refine below_set ?_ GE194.out) | exact HB.out)⟩
     ·rw [if_neg c9] at H
      exact absurd H (by simp)
    ·rw [if_neg c8] at H
     have c8b0 : decide (x5_1 < (l1.length : Int)) = false := decide_eq_false c8
     clear c8
     obtain rfl := Option.some.inj H
     go_wp2
     go_ret
     exact ⟨by first | rfl | (simp [errW_none, errW_some] <;> rfl) | (simp [*, errW_none, errW_some] <;> rfl), by repeat (first | (with_reducible first | exact HB.out | apply below_alloc | apply pw_below_drewN | apply below_drew1 | refine below_set ?_ GE194.out) | exact HB.out)⟩
 ·replace c4 := Bool.eq_false_iff.mpr c4
  subst c4
  have H1 : (some 1) = some r := by rw [if_neg (show ¬ (false = true) by decide)] at H; exact H
  clear H
  have H := H1
  clear H1
  obtain rfl := Option.some.inj H
  go_enter Try.func39, Try.ntmps39
  go_wp2_with (first | ((with_reducible refine gate_dst (N := 2) rfl ?_); refine box_event ?hg (N := 2) ?hd (cs := #[.int .i64 a0_0, .slice A0_1 l0_1.length c0_1]) (t := 26) ?hr ?_; (case hd => rfl); (case hg => rfl); (case hr => first | (go_simp; done) | (go_simp; rfl)); intro gb194 hg w31 hbox hb; have n0_ := Aside0.mk (below_step (by repeat (first | (with_reducible first | exact HB.out | apply below_alloc | apply pw_below_drewN | apply below_drew1) | exact HB.out)) hb); have n1_ := Aside0.mk (hbox); have n2_ := Aside0.mk ((by rw [hg]; exact (below_size (by repeat (first | (with_reducible first | exact HB.out | apply below_alloc | apply pw_below_drewN | apply below_drew1) | exact HB.out))) : w.heap.size ≤ gb194)); have n3_ := Aside0.mk ((by rw [hg]; exact (below_size (by repeat (first | (with_reducible first | exact HB.out | apply below_alloc | apply pw_below_drewN | apply below_drew1) | exact HB.out))) : w.heap.size ≤ gb194)); clear HB; have HB := n0_; have BK194 := n1_; have GW194 := n2_; have GE194 := n3_; clear n0_ n1_ n2_ n3_; clear hb hbox hg; have hcz32_0 : w31.cell? ⟨gb194, 0, none⟩ = some (.int .i64 a0_0) := (blk_cell BK194.out 0).trans rfl; have hcz32_1 : w31.cell? ⟨gb194, 1, none⟩ = some (.slice A0_1 l0_1.length c0_1) := (blk_cell BK194.out 1).trans rfl; have hfz32_0 := blk_frozen BK194.out 0; have hfz32_1 := blk_frozen BK194.out 1) | ((with_reducible refine gate_callee (f := 24) rfl ?_); refine goesL_ (some 7) rfl rfl Try.func24 (by kernel_rfl) rfl #[.agg #[.int .i64 a0_0, .slice A0_1 l0_1.length c0_1]] rfl (by (try simp only [List.map_toArray, List.map_cons, List.map_nil]); first | done | rfl | (simp only [List.length_drop, List.length_take]; rfl)) ?_; (with_reducible refine (spec_l01Is.calls k a0_0 _ _ l0_1 false _ ?side1 ?side2 A3.out).mono ?_); (case side1 => repeat (first | exact (Kd.C_below HR0_1.out HB.out) | (with_reducible refine Kd.C_alloc ?_ _) | (with_reducible refine Kd.C_drewN ?_ _) | (with_reducible refine Kd.C_drew ?_))); (case side2 => exact HC0_1.out); rintro e w33 ⟨rfl, hb⟩; refine ⟨_, rfl, ?_⟩; have n0_ := Aside0.mk (blk_below (g := gb194) (o := .cells #[.int .i64 a0_0, .slice A0_1 l0_1.length c0_1] 26 (0, 0)) (by (with_reducible repeat (first | refine blk_drewN ?_ _ | refine blk_drew ?_ | refine blk_alloc ?_ _)); exact BK194.out) hb); have n1_ := Aside0.mk (below_step (by repeat (first | (with_reducible first | exact HB.out | apply below_alloc | apply pw_below_drewN | apply below_drew1 | refine below_set ?_ GE194.out) | exact HB.out)) hb); clear BK194; clear HB; have BK194 := n0_; have HB := n1_; clear n0_ n1_; (try clear hb); (try clear hb2); (try clear hk); (try clear hi)))
  go_ret
  exact ⟨by first | rfl | (simp [errW_none, errW_some] <;> rfl) | (simp [*, errW_none, errW_some] <;> rfl), by repeat (first | (with_reducible first | exact HB.out | apply below_alloc | apply pw_below_drewN | apply below_drew1 | refine below_set ?_ GE194.out) | exact HB.out)⟩

end Go.Proofs.Ytjoggjgmpoaaiaa.Q
end

section
/- Chains: impl.isChain and spec.l03Chain say the same. -/
namespace Go.Proofs.Ytjoggjgmpoaaiaa.K
open Go.RowKit Go.Shelf Go.Proofs.Ytjoggjgmpoaaiaa.Q Go.Proofs.YtjoggjgmpoaaiaaW.PrintWords Go.Proofs.YtjoggjgmpoaaiaaW.PrintLast Go.Proofs.YtjoggjgmpoaaiaaW.PrintMore
set_option linter.unusedVariables false
set_option linter.unusedSimpArgs false

def okC (l xs : List Int) (i : Nat) : Bool := hasB l (xs.getD i 0) && decide (onesI (xs.getD i 0) = onesI (xs.getD 0 0)) && (i == 0 || decide (xs.getD (i - 1) 0 < xs.getD i 0))
/-- The list is a chain of a complex. -/
def chainB (l xs : List Int) : Bool := (List.range xs.length).all (okC l xs)
theorem chain_false {l xs : List Int} {i : Nat} (hi : i < xs.length) (h : okC l xs i = false) : chainB l xs = false := by
  unfold chainB
  rw [List.all_eq_false]
  exact ⟨i, List.mem_range.2 hi, by simp [h]⟩
theorem chain_true {l xs : List Int} (h : ∀ i, i < xs.length → okC l xs i = true) : chainB l xs = true := by
  unfold chainB
  rw [List.all_eq_true]
  exact fun i hi => h i (List.mem_range.1 hi)
theorem chain_at {l xs : List Int} (h : chainB l xs = true) (i : Nat) (hi : i < xs.length) : okC l xs i = true := by
  unfold chainB at h
  rw [List.all_eq_true] at h
  exact h i (List.mem_range.2 hi)
theorem okC_eq (l xs : List Int) (i : Nat) (hi : i < xs.length) : okC l xs i = (hasB l xs[i] && decide (onesI xs[i] = onesI (xs[0]'(by omega))) && (i == 0 || decide (xs[i - 1]'(by omega) < xs[i]))) := by
  have h0 : 0 < xs.length := by omega
  have h1 : i - 1 < xs.length := by omega
  unfold okC
  rw [List.getD_eq_getElem?_getD, List.getD_eq_getElem?_getD, List.getD_eq_getElem?_getD, List.getElem?_eq_getElem hi, List.getElem?_eq_getElem h0, List.getElem?_eq_getElem h1]
  rfl
theorem rd_zero (l : List Int) (h : 0 < l.length) : rd l 0 = l[0] := rd_nat l 0 h
theorem isChain_l0 {n : Int} {l : List Int} (hi : isC n l = true) (xs : List Int) (hx : xs.length ≤ 2097152) : ∀ (m i k : Nat), i + m = xs.length → m + l.length + 2 ≤ k → (∀ j, j < i → okC l xs j = true) →
    impl_Complex_isChain.l0 k xs xs (xs.length : Int) (i : Int) n l = some (chainB l xs) := by
  have h63 := (isC_faces hi).2.2.2
  have hh : ∀ k f, l.length + 1 ≤ k → impl_Complex_has.f k n l f = some (hasB l f) := fun k f hk => by
    unfold impl_Complex_has.f
    obtain ⟨q, rfl⟩ : ∃ q, k = (l.length + 1) + q := ⟨k - (l.length + 1), by omega⟩
    have : ∀ q, slices_BinarySearch_int64_int64.f (l.length + 1 + q) l f = some (bsOf l f) := fun q => by
      induction q with
      | zero => exact bs_is l f (by omega)
      | succ q ih => exact (slices_BinarySearch_int64_int64.mono _ _ _) _ ih
    rw [this]
    rfl
  intro m
  induction m with
  | zero =>
    intro i k him hk ho
    obtain ⟨k, rfl⟩ : ∃ q, k = q + 1 := ⟨k - 1, by omega⟩
    simp only [impl_Complex_isChain.l0]
    rw [if_neg (by omega), chain_true (fun j hj => ho j (by omega))]
  | succ m ih =>
    intro i k him hk ho
    obtain ⟨k, rfl⟩ : ∃ q, k = q + 1 := ⟨k - 1, by omega⟩
    have hil : i < xs.length := by omega
    have h0l : 0 < xs.length := by omega
    simp only [impl_Complex_isChain.l0]
    rw [if_pos (by omega), if_pos (by omega), if_pos (by omega), rd_nat xs i hil, hh k _ (by omega)]
    simp only [Option.bind_some]
    by_cases h1 : hasB l xs[i] = true
    · have hm := has_mem hi h1
      rw [if_pos h1, size_is xs[i] (by omega) (by omega)]
      simp only [Option.bind_some]
      rw [if_pos (by omega), rd_zero xs h0l]
      have hm0 : 1 ≤ xs[0] ∧ xs[0] ≤ 63 := by
        rcases Nat.eq_zero_or_pos i with e | e
        · subst e; exact hm.2
        · have h2 := ho 0 e
          rw [okC_eq l xs 0 h0l] at h2
          simp only [Bool.and_eq_true] at h2
          exact (has_mem hi h2.1.1).2
      rw [size_is xs[0] (by omega) (by omega)]
      simp only [Option.bind_some]
      by_cases h2 : onesI xs[i] = onesI xs[0]
      · rw [if_pos h2]
        have hnext : okC l xs i = true → impl_Complex_isChain.l0 k xs xs (xs.length : Int) (wrap64 ((i : Int) + 1)) n l = some (chainB l xs) := fun hok => by
          rw [w64 ((i : Int) + 1) (by omega) (by omega), nat_succ]
          exact ih (i + 1) k (by omega) (by omega) (fun j hj => by
            rcases Nat.lt_succ_iff_lt_or_eq.1 hj with h | h
            · exact ho j h
            · rw [h]; exact hok)
        rcases Nat.eq_zero_or_pos i with e | e
        · subst e
          rw [if_neg (by omega)]
          exact hnext (by rw [okC_eq l xs 0 h0l, h1]; simp)
        · have e2 : wrap64 ((i : Int) - 1) = ((i - 1 : Nat) : Int) := by rw [w64 ((i : Int) - 1) (by omega) (by omega)]; omega
          rw [if_pos (by omega), e2, if_pos (by omega), if_pos (by omega), rd_nat xs (i - 1) (by omega)]
          by_cases h3 : xs[i] ≤ xs[i - 1]
          · rw [if_pos h3, chain_false hil]
            rw [okC_eq l xs i hil]
            have : ¬ xs[i - 1] < xs[i] := by omega
            simp [this, show i ≠ 0 by omega]
          · rw [if_neg h3]
            refine hnext ?_
            rw [okC_eq l xs i hil, h1, h2]
            have : xs[i - 1] < xs[i] := by omega
            simp [this]
      · rw [if_neg h2, chain_false hil]
        rw [okC_eq l xs i hil]
        simp [h2]
    · rw [if_neg h1, chain_false hil]
      rw [okC_eq l xs i hil]
      simp [h1]
theorem isChain_is {n : Int} {l : List Int} (hi : isC n l = true) (xs : List Int) (hx : xs.length ≤ 2097152) (k : Nat) (hk : xs.length + l.length + 2 ≤ k) : impl_Complex_isChain.f k n l xs = some (chainB l xs) := by
  unfold impl_Complex_isChain.f
  have := isChain_l0 hi xs hx xs.length 0 k (by omega) (by omega) (fun j hj => absurd hj (Nat.not_lt_zero j))
  exact this
theorem chain_l0 {n : Int} {l : List Int} (hi : isC n l = true) (xs : List Int) (hx : xs.length ≤ 2097152) : ∀ (m i k : Nat), i + m = xs.length → m + l.length + 20 ≤ k → (∀ j, j < i → okC l xs j = true) →
    spec_l03Chain.l0 k xs (i : Int) n l = some (if chainB l xs = true then 0 else 2) := by
  have h63 := (isC_faces hi).2.2.2
  have hhd : ∀ f, hasB l f = decide (f ∈ l) := fun f => has_asc l f (by omega) (isC_faces hi).2.1
  intro m
  induction m with
  | zero =>
    intro i k him hk ho
    obtain ⟨k, rfl⟩ : ∃ q, k = q + 1 := ⟨k - 1, by omega⟩
    simp only [spec_l03Chain.l0]
    rw [if_neg (by omega), chain_true (fun j hj => ho j (by omega)), if_pos rfl]
  | succ m ih =>
    intro i k him hk ho
    obtain ⟨k, rfl⟩ : ∃ q, k = q + 1 := ⟨k - 1, by omega⟩
    have hil : i < xs.length := by omega
    have h0l : 0 < xs.length := by omega
    simp only [spec_l03Chain.l0]
    rw [if_pos (by omega), if_pos (by omega), rd_nat xs i hil, specHas_is n xs[i] l (by omega) k (by omega)]
    simp only [Option.bind_some]
    by_cases h1 : xs[i] ∈ l
    · have hb : hasB l xs[i] = true := by rw [hhd]; exact decide_eq_true h1
      have hm := has_mem hi hb
      rw [if_pos (decide_eq_true h1)]
      have hnext : okC l xs i = true → spec_l03Chain.l0 k xs (wrap64 ((i : Int) + 1)) n l = some (if chainB l xs = true then 0 else 2) := fun hok => by
        rw [w64 ((i : Int) + 1) (by omega) (by omega), nat_succ]
        exact ih (i + 1) k (by omega) (by omega) (fun j hj => by
          rcases Nat.lt_succ_iff_lt_or_eq.1 hj with h | h
          · exact ho j h
          · rw [h]; exact hok)
      rcases Nat.eq_zero_or_pos i with e | e
      · subst e
        rw [if_neg (by omega)]
        exact hnext (by rw [okC_eq l xs 0 h0l, hb]; simp)
      · have e2 : wrap64 ((i : Int) - 1) = ((i - 1 : Nat) : Int) := by rw [w64 ((i : Int) - 1) (by omega) (by omega)]; omega
        rw [if_pos (by omega), e2, if_pos (by omega), if_pos (by omega), rd_nat xs (i - 1) (by omega)]
        by_cases h3 : xs[i] ≤ xs[i - 1]
        · rw [if_pos h3, chain_false hil, if_neg (by decide)]
          rw [okC_eq l xs i hil]
          have : ¬ xs[i - 1] < xs[i] := by omega
          simp [this, show i ≠ 0 by omega]
        · rw [if_neg h3]
          have hm0 : 1 ≤ xs[0] ∧ xs[0] ≤ 63 := by
            have h2 := ho 0 e
            rw [okC_eq l xs 0 h0l] at h2
            simp only [Bool.and_eq_true] at h2
            exact (has_mem hi h2.1.1).2
          rw [specOnes_is xs[i] (by omega) (by omega) k (by omega)]
          simp only [Option.bind_some]
          rw [if_pos (by omega), rd_zero xs h0l, specOnes_is xs[0] (by omega) (by omega) k (by omega)]
          simp only [Option.bind_some]
          by_cases h2 : onesI xs[i] = onesI xs[0]
          · rw [if_pos h2]
            refine hnext ?_
            rw [okC_eq l xs i hil, hb, h2]
            have : xs[i - 1] < xs[i] := by omega
            simp [this]
          · rw [if_neg h2, chain_false hil, if_neg (by decide)]
            rw [okC_eq l xs i hil]
            simp [h2]
    · rw [if_neg (by simp [h1]), chain_false hil, if_neg (by decide)]
      rw [okC_eq l xs i hil, hhd]
      simp [h1]
theorem specChain_is (n : Int) (l xs : List Int) (hl : l.length ≤ 2097152) (hx : xs.length ≤ 2097152) (k : Nat) (hk : isK l + xs.length + 40 ≤ k) : spec_l03Chain.f k n l xs = some (codeOf n l (chainB l xs)) := by
  unfold spec_l03Chain.f
  rw [specIs_is n l hl k (by omega)]
  simp only [Option.bind_some]
  by_cases hi : isC n l = true
  · have h63 := (isC_faces hi).2.2.2
    rw [if_pos hi]
    have := chain_l0 hi xs hx xs.length 0 k (by omega) (by unfold isK at hk; omega) (fun j hj => absurd hj (Nat.not_lt_zero j))
    rw [show ((0 : Nat) : Int) = 0 from rfl] at this
    rw [this]
    unfold codeOf
    rw [if_pos hi]
  · rw [if_neg hi]
    unfold codeOf
    rw [if_neg hi]
theorem chain_facts {n : Int} {l xs : List Int} (hi : isC n l = true) (h : chainB l xs = true) : xs.Pairwise (· < ·) ∧ ∀ x ∈ xs, x ∈ l ∧ onesI x = onesI (xs.getD 0 0) := by
  constructor
  · have hstep : ∀ i (h1 : i + 1 < xs.length), xs[i] < xs[i + 1] := fun i h1 => by
      have h2 := chain_at h (i + 1) h1
      rw [okC_eq l xs (i + 1) h1] at h2
      simp at h2
      exact h2.2
    rw [List.pairwise_iff_getElem]
    intro i j hi2 hj hij
    obtain ⟨m, rfl⟩ : ∃ m, j = i + 1 + m := ⟨j - (i + 1), by omega⟩
    clear hij
    induction m with
    | zero => exact hstep i hj
    | succ m ih =>
      have h3 := ih (by omega)
      have h4 := hstep (i + 1 + m) (by omega)
      exact Int.lt_trans h3 h4
  · intro x hx
    obtain ⟨i, hil, rfl⟩ := List.getElem_of_mem hx
    have h2 := chain_at h i hil
    rw [okC_eq l xs i hil] at h2
    simp only [Bool.and_eq_true, decide_eq_true_eq] at h2
    refine ⟨(has_mem hi h2.1.1).1, ?_⟩
    rw [h2.1.2]
    have h0l : 0 < xs.length := by omega
    simp [h0l]
end Go.Proofs.Ytjoggjgmpoaaiaa.K
end

section
/- Rows of numbers as elements of a slice: each is the slice, and what it holds. -/
namespace Go.Proofs.Ytjoggjgmpoaaiaa.K
open Go.RowKit Go.Shelf Go.Proofs.YtjoggjgmpoaaiaaW.PrintWords Go.Proofs.YtjoggjgmpoaaiaaW.PrintLast Go.Proofs.YtjoggjgmpoaaiaaW.PrintMore
set_option linter.unusedVariables false
/-- A row: its slice, and what it holds. -/
structure RowT where
  A : Option Addr
  c : Nat
  xs : List Int
def RowT.v (r : RowT) : Value := .slice r.A r.xs.length r.c
theorem RowT.one (r : RowT) : r.v.oneCell' = true := rfl
abbrev Kr : Kd RowT := Kd.scalar RowT.v RowT.one
def nilT : RowT := ⟨none, 0, []⟩
/-- What the rows hold lies in memory. -/
def RowsIn (w : World) (vs : List RowT) : Prop := ∀ x ∈ vs, Ki.C w x.A x.xs.length x.xs ∧ x.xs.length ≤ x.c ∧ x.xs.length ≤ 2097152
theorem RowsIn.later {w w' : World} {vs : List RowT} (h : RowsIn w vs) (hg : Grew w w') : RowsIn w' vs := fun x hx => ⟨Kd.C_below (h x hx).1 hg, (h x hx).2⟩
theorem Kr_read {W : World} {A : Option Addr} {vs : List RowT} (h : Kr.C W A vs.length vs) (i : Nat) (hi : i < vs.length) :
    ∃ ad : Addr, A = some ad ∧ W.cell? (ad.add i) = some vs[i].v := by
  obtain ⟨ad, e, hc⟩ := ReadsOf.at_ (Kd.reads_of_C (enc := RowT.v) (d := nilT) (h1 := RowT.one) h) (i : Int) (by omega) (by omega)
  refine ⟨ad, e, ?_⟩
  rw [Int.toNat_natCast] at hc
  rw [hc]
  simp [rdOf, hi]
theorem Kr_of {W : World} {vs : List RowT} (B : Nat) (t : TypeId) (hB : W.heap[B]? = some (.cells (vs.map RowT.v).toArray t (0, 0))) (hn : vs.length ≤ 9223372036854775807) : Kr.C W (some ⟨B, 0, none⟩) vs.length vs := by
  refine Kd.C_of_reads (d := nilT) ⟨rfl, hn, fun h0 => ⟨_, rfl, fun j hj => ?_⟩⟩
  have := blk_cell hB j
  have e : (⟨B, 0, none⟩ : Addr).add j = ⟨B, j, none⟩ := by simp only [Addr.add]; split <;> simp_all
  rw [e, this]
  simp [hj]
end Go.Proofs.Ytjoggjgmpoaaiaa.K
end

section
/- Contracts of the library's functions that take a function value, over rows of rows of numbers. -/
namespace Go.Proofs.Ytjoggjgmpoaaiaa.K
open Go.RowKit Go.Shelf Go.Proofs.YtjoggjgmpoaaiaaW.PrintWords Go.Proofs.YtjoggjgmpoaaiaaW.PrintLast Go.Proofs.YtjoggjgmpoaaiaaW.PrintMore
set_option linter.unusedVariables false
set_option linter.unusedSimpArgs false

set_option maxHeartbeats 2000000 in
theorem IndexFunc_v (p : RowT → Bool) (A : Option Addr) (c : Nat) (l : List RowT) (g : Nat) (first caps : Array Value) (w : World)
    (hr : Kr.C w A l.length l) (hc : l.length ≤ c) (hbig : l.length ≤ 9223372036854775807) (eg : EntersG g)
    (hp : ∀ x, x ∈ l → Answers w g (first.push x.v ++ caps) (.bool (p x))) :
    Calls Try.prog 105 #[.slice A l.length c, .func (.func g) first caps] w fun e w' => e = .returned (I (idx p l)) ∧ Grew w w' := by
  have HR := Aside0.mk hr
  have HC := Aside0.mk hc
  have HP := Aside0.mk hp
  clear hr hc hp
  go_enter Try.func105, Try.ntmps105
  go_wp2
  go_loopg [5, 8] l.length (fun gg _ s8 wr => ∃ kk : Nat, kk ≤ l.length ∧ l.length - kk ≤ gg ∧ s8 = .int .i64 kk ∧ Aside0 (Grew w wr) ∧ Aside0 (∀ j (h : j < l.length), j < kk → p l[j] = false))
  case atStart => exact ⟨0, Nat.zero_le _, by omega, rfl, ⟨Below.refl _ w⟩, ⟨fun j _ hj => absurd hj (Nat.not_lt_zero _)⟩⟩
  case round =>
    obtain ⟨kk, hkk, hg, rfl, BW, A0⟩ := hrel
    by_cases hlt : kk < l.length
    · have hltz : (kk : Int) < (l.length : Int) := by omega
      obtain ⟨ad, e0, hx⟩ := Kr_read (Kd.C_below HR.out BW.out) kk hlt
      cases e0
      have hcall := HP.out l[kk] (by simp) wr BW.out
      generalize hy : l[kk] = y at hx hcall
      have B := Aside0.mk hy
      clear hy
      cases hq : p y with
      | true =>
        rw [hq] at hcall
        go_wp2_with fail
        refine hcall.mono ?_
        rintro e w' ⟨rfl, hb'⟩
        clear hcall
        go_wp2_with fail
        go_ret
        refine ⟨?_, Grew.trans BW.out hb'⟩
        rw [idx_hit p l kk hlt (by rw [B.out]; exact hq) (fun j hj => A0.out j (by omega) hj)]
        rfl
      | false =>
        rw [hq] at hcall
        go_wp2_with fail
        refine hcall.mono ?_
        rintro e w' ⟨rfl, hb'⟩
        clear hcall
        go_wp2_with fail
        go_roundg (l.length - (kk + 1))
        case measure => omega
        case rel =>
          refine ⟨kk + 1, by omega, by omega, by go_num, ⟨Grew.trans BW.out hb'⟩, ⟨fun j h hj => ?_⟩⟩
          by_cases e : j = kk
          · subst e
            rw [B.out]; exact hq
          · exact A0.out j h (by omega)
    · have hltz : ¬ (kk : Int) < (l.length : Int) := by omega
      have e : kk = l.length := by omega
      have H := idx_miss p l (fun j hj => A0.out j hj (by omega))
      have HM := Aside0.mk H
      clear H e
      go_wp2
      go_ret
      exact ⟨by rw [HM.out]; rfl, BW.out⟩

set_option maxHeartbeats 2000000 in
theorem ContainsFunc_v (p : RowT → Bool) (A : Option Addr) (c : Nat) (l : List RowT) (g : Nat) (first caps : Array Value) (w : World)
    (hr : Kr.C w A l.length l) (hc : l.length ≤ c) (hbig : l.length ≤ 9223372036854775807) (eg : EntersG g)
    (hp : ∀ x, x ∈ l → Answers w g (first.push x.v ++ caps) (.bool (p x))) :
    Calls Try.prog 92 #[.slice A l.length c, .func (.func g) first caps] w fun e w' => e = .returned (.bool (l.any p)) ∧ Grew w w' := by
  rw [← idx_nonneg]
  have H := Aside0.mk (IndexFunc_v p A c l g first caps w hr hc hbig eg hp)
  clear hr hc hbig hp
  go_enter Try.func92, Try.ntmps92
  go_wp2_with fail
  refine H.out.mono ?_
  rintro e w' ⟨rfl, hb'⟩
  go_wp2_with fail
  go_ret
  exact ⟨by rfl, hb'⟩

set_option maxHeartbeats 1000000 in
theorem areAll1_v (b : Bool) (x : RowT) (B : Nat) (g : Nat) (first caps : Array Value) (w : World)
    (hB : w.cell? ⟨B, 0, none⟩ = some (.func (.func g) first caps)) (eg : EntersG g)
    (hp : Answers w g (first.push x.v ++ caps) (.bool b)) :
    Calls Try.prog 93 #[x.v, .pointer (some ⟨B, 0, none⟩)] w fun e w' => e = .returned (.bool (!b)) ∧ Grew w w' := by
  have HP := Aside0.mk hp
  clear hp
  go_enter Try.func93, Try.ntmps93
  go_wp2_with fail
  refine (HP.out _ (Grew.refl _)).mono ?_
  rintro e w' ⟨rfl, hb'⟩
  cases b <;> go_wp2_with fail
  all_goals go_ret
  all_goals exact ⟨by rfl, hb'⟩

set_option maxHeartbeats 1000000 in
theorem areAll_v (p : RowT → Bool) (A : Option Addr) (c : Nat) (l : List RowT) (g : Nat) (first caps : Array Value) (w : World)
    (hr : Kr.C w A l.length l) (hc : l.length ≤ c) (hbig : l.length ≤ 9223372036854775807) (eg : EntersG g)
    (hp : ∀ x, x ∈ l → Answers w g (first.push x.v ++ caps) (.bool (p x))) :
    Calls Try.prog 71 #[.slice A l.length c, .func (.func g) first caps] w fun e w' => e = .returned (.bool (l.all p)) ∧ Grew w w' := by
  have HR := Aside0.mk hr
  have HC := Aside0.mk hc
  have HP := Aside0.mk hp
  have hg : Grew w (w.alloc (.cells #[.func (.func g) first caps] 83)) := below_alloc (Below.refl _ _) _
  have H := Aside0.mk (ContainsFunc_v (fun x => !p x) A c l 93 #[] #[.pointer (some ⟨w.heap.size, 0, none⟩)] (w.alloc (.cells #[.func (.func g) first caps] 83))
    (Kd.C_below HR.out hg) hc hbig (enters_of Try.func93 (by kernel_rfl) rfl) (fun x hx W hW =>
      areAll1_v (p x) x w.heap.size g first caps W (blk_cell (blk_below (blk_new w _) hW) 0) eg (((HP.out x hx).later hg).later hW)))
  have hall : l.all p = !(l.any fun x => !p x) := by
    rw [List.not_any_eq_all_not]; simp
  rw [hall]
  clear hr hc hp hall
  generalize (l.any fun x => !p x) = b at H ⊢
  go_enter Try.func71, Try.ntmps71
  go_wp2_with fail
  refine H.out.mono ?_
  rintro e w' ⟨rfl, hb'⟩
  have HG := Aside0.mk (Grew.trans hg hb')
  clear hb' hg
  cases b <;> go_wp2_with fail
  all_goals go_ret
  all_goals exact ⟨by rfl, HG.out⟩

end Go.Proofs.Ytjoggjgmpoaaiaa.K
end

section
/- The code of chains. -/
namespace Go.Proofs.Ytjoggjgmpoaaiaa.K
open Go.RowKit Go.Shelf Go.Proofs.Ytjoggjgmpoaaiaa.Q Go.Proofs.YtjoggjgmpoaaiaaW.PrintWords Go.Proofs.YtjoggjgmpoaaiaaW.PrintLast Go.Proofs.YtjoggjgmpoaaiaaW.PrintMore
set_option linter.unusedVariables false
set_option linter.unusedSimpArgs false

theorem isChain_calls {n : Int} (A : Option Addr) (c : Nat) {l : List Int} (hi : isC n l = true) (A2 : Option Addr) (c2 : Nat) (xs : List Int) (w : World) (hk : Kx w A c l) (hr : Ki.C w A2 xs.length xs) (hc : xs.length ≤ c2) (hx : xs.length ≤ 2097152) :
    Calls Try.prog 72 #[.agg #[I n, .slice A l.length c], .slice A2 xs.length c2] w fun e w' => e = .returned (.bool (chainB l xs)) ∧ Grew w w' :=
  impl_Complex_isChain.calls (xs.length + l.length + 2) n A c l A2 c2 xs _ w hk.r hk.c hr hc (isChain_is hi xs hx _ (Nat.le_refl _))
set_option maxHeartbeats 2000000 in
theorem chainCode1_calls {n : Int} (A : Option Addr) (c : Nat) {l : List Int} (A2 : Option Addr) (c2 : Nat) (vs : List RowT) {Bk Bq : Nat} (w : World) (hi : isC n l = true) (h0 : CB w Bk n (.slice A l.length c)) (h1 : w.cell? ⟨Bq, 0, none⟩ = some (.slice A2 vs.length c2)) (hk : Kx w A c l) (hq : Kr.C w A2 vs.length vs) (hc2 : vs.length ≤ c2) (hv : RowsIn w vs) :
    Calls Try.prog 70 #[.pointer (some ⟨Bq, 0, none⟩), .pointer (some ⟨Bk, 0, none⟩)] w fun e w' => e = .returned (.bool (vs.all fun r => chainB l r.xs)) ∧ Grew w w' := by
  have k0 := h0.c0
  have k1 := h0.c1
  have H := Aside0.mk (areAll_v (fun r => chainB l r.xs) A2 c2 vs 72 #[.agg #[I n, .slice A l.length c]] #[] w hq hc2 (Kd.C_max hq) (enters_of Try.func72 (by kernel_rfl) rfl)
    (fun r hr W hW => isChain_calls A c hi r.A r.c r.xs W (hk.later hW) (Kd.C_below (hv r hr).1 hW) (hv r hr).2.1 (hv r hr).2.2))
  clear hk hq hc2 hv h0
  generalize (vs.all fun r => chainB l r.xs) = r at H ⊢
  go_enter Try.func70, Try.ntmps70
  go_wp2_with fail
  refine H.out.mono ?_
  rintro e w1 ⟨rfl, hG1⟩
  go_wp2_with fail
  go_ret
  exact ⟨rfl, hG1⟩
set_option maxHeartbeats 2000000 in
theorem chainCode_calls (n : Int) (A : Option Addr) (c : Nat) (l : List Int) (A2 : Option Addr) (c2 : Nat) (vs : List RowT) (w : World) (hk : Kx w A c l) (hq : Kr.C w A2 vs.length vs) (hc2 : vs.length ≤ c2) (hv : RowsIn w vs) :
    Calls Try.prog 41 #[.agg #[I n, .slice A l.length c], .slice A2 vs.length c2] w fun e w' => e = .returned (I (codeOf n l (vs.all fun r => chainB l r.xs))) ∧ Grew w w' := by
  obtain ⟨W, hW⟩ : ∃ W, W = (w.alloc (.cells #[I n, .slice A l.length c] 26)).alloc (.cells #[.slice A2 vs.length c2] 79) := ⟨_, rfl⟩
  have hB : CB W w.heap.size n (.slice A l.length c) := by rw [hW]; exact blk_alloc (blk_new w _) _
  have hL : W.heap[w.heap.size + 1]? = some (.cells #[.slice A2 vs.length c2] 79 (0, 0)) := by
    rw [hW]
    have := blk_new (w.alloc (.cells #[I n, .slice A l.length c] 26)) (.cells #[.slice A2 vs.length c2] 79)
    rwa [World.size_alloc] at this
  have hg : Grew w W := by rw [hW]; exact below_alloc (below_alloc (Grew.refl w) _) _
  have H := Aside0.mk (complexCode_calls (vs.all fun r => chainB l r.xs) n A c l 70 #[] #[.pointer (some ⟨w.heap.size + 1, 0, none⟩), .pointer (some ⟨w.heap.size, 0, none⟩)] W (hk.later hg) (enters_of Try.func70 (by kernel_rfl) rfl)
    (fun hi W2 hW2 => by
      have := chainCode1_calls A c A2 c2 vs W2 hi (blk_below hB hW2) (blk_cell (blk_below hL hW2) 0) (hk.later (Grew.trans hg hW2)) (Kd.C_below hq (Grew.trans hg hW2)) hc2 (hv.later (Grew.trans hg hW2))
      rw [Array.empty_append]
      exact this))
  have k0 := hB.c0
  have k1 := hB.c1
  have HG := Aside0.mk hg
  clear hk hq hc2 hB hL hg hv
  generalize codeOf n l (vs.all fun r => chainB l r.xs) = cc at H ⊢
  subst hW
  go_enter Try.func41, Try.ntmps41
  go_wp2_with fail
  refine H.out.mono ?_
  rintro e w1 ⟨rfl, hG1⟩
  go_wp2_with fail
  go_ret
  exact ⟨rfl, Grew.trans HG.out hG1⟩

end Go.Proofs.Ytjoggjgmpoaaiaa.K
end

section
/- Values of one cell, as elements of a slice. -/
namespace Go.Proofs.Ytjoggjgmpoaaiaa.K
open Go.RowKit Go.Shelf Go.Proofs.YtjoggjgmpoaaiaaW.PrintWords Go.Proofs.YtjoggjgmpoaaiaaW.PrintLast Go.Proofs.YtjoggjgmpoaaiaaW.PrintMore
set_option linter.unusedVariables false
/-- A value of one cell, as it is. -/
abbrev OneV : Type := { v : Value // v.oneCell' = true }
abbrev Kv : Kd OneV := Kd.scalar (fun v => v.1) (fun v => v.2)
def nilV : OneV := ⟨.slice none 0 0, rfl⟩
end Go.Proofs.Ytjoggjgmpoaaiaa.K
end

section
/- Rows of rows of numbers of the call's own, whose inner rows are written in place. -/
namespace Go.Proofs.Ytjoggjgmpoaaiaa.K
open Go.RowKit Go.Shelf Go.Proofs.YtjoggjgmpoaaiaaW.PrintWords Go.Proofs.YtjoggjgmpoaaiaaW.PrintLast Go.Proofs.YtjoggjgmpoaaiaaW.PrintMore
set_option linter.unusedVariables false
set_option linter.unusedSimpArgs false

theorem infoS : (Try.prog.info? 22).map (fun i => (i.zero, i.size, i.bytes)) = some (some (.slice none 0 0), 1, 24) := by kernel_rfl
/-- The rows vs of M; a block k that row i uses has the tag f k = i. -/
structure Rws (w : World) (base : Nat) (vs : List OneV) (f : Nat → Nat) (M : List (List Int)) : Prop where
  len : vs.length = M.length
  row : ∀ i (h : i < M.length), Ki.R 2 w base (fun k => f k = i) (vs[i]'(by omega)).1 M[i]
/-- A matrix of the call's own. -/
structure Mat (w : World) (base : Nat) (v : Value) (vs : List OneV) (f : Nat → Nat) (M : List (List Int)) : Prop extends Rws w base vs f M where
  outer : Kv.R 22 w base (fun k => M.length ≤ f k) v vs
  fresh : ∀ k, w.heap.size ≤ k → M.length ≤ f k
theorem Rws.step {w w1 : World} {base : Nat} {vs : List OneV} {f : Nat → Nat} {M : List (List Int)} (h : Rws w base vs f M) (hm : ∀ k, f k < M.length → k < w.heap.size → w1.heap[k]? = w.heap[k]?) : Rws w1 base vs f M :=
  ⟨h.len, fun i hi => Kd.R_step (h.row i hi) (fun k ho hk => hm k (by rw [ho]; exact hi) hk)⟩
theorem Rws.below {w w1 : World} {base : Nat} {vs : List OneV} {f : Nat → Nat} {M : List (List Int)} (h : Rws w base vs f M) (hb : Below w.heap.size w w1) : Rws w1 base vs f M :=
  h.step (fun k _ hk => hb.block k hk)
theorem Mat.below {w w1 : World} {base : Nat} {v : Value} {vs : List OneV} {f : Nat → Nat} {M : List (List Int)} (h : Mat w base v vs f M) (hb : Below w.heap.size w w1) : Mat w1 base v vs f M :=
  ⟨h.toRws.below hb, Kd.R_below h.outer hb, fun k hk => h.fresh k (Nat.le_trans hb.size hk)⟩
theorem Mat.nil (w : World) (base : Nat) : Mat w base (.slice none 0 0) [] (fun _ => 0) [] :=
  ⟨⟨rfl, fun i h => absurd h (Nat.not_lt_zero i)⟩, Kd.R_nil _ _ _ _ _, fun _ _ => Nat.zero_le _⟩
theorem Mat.slice {w : World} {base : Nat} {v : Value} {vs : List OneV} {f : Nat → Nat} {M : List (List Int)} (h : Mat w base v vs f M) : ∃ A c, v = .slice A M.length c ∧ M.length ≤ c := by
  obtain ⟨A, c, h1, h2, _⟩ := Kd.R_reads h.outer
  rw [h.len] at h1 h2
  exact ⟨A, c, h1, h2⟩
/-- The slice of row i, where it has numbers. -/
theorem Rws.form {w : World} {base : Nat} {vs : List OneV} {f : Nat → Nat} {M : List (List Int)} (h : Rws w base vs f M) (i : Nat) (hi : i < M.length) (hp : 0 < M[i].length) :
    ∃ g c, (vs[i]'(by have := h.len; omega)).1 = .slice (some ⟨g, 0, none⟩) M[i].length c ∧ M[i].length ≤ c ∧ f g = i ∧ base ≤ g ∧ g < w.heap.size := by
  obtain ⟨g, c, h1, h2, h3, _⟩ := Kd.R_form (h.row i hi) hp
  have hr := h.row i hi
  obtain ⟨A, c', h4, h5, _⟩ := Kd.R_reads hr
  rw [h1] at h4
  injection h4 with e1 e2 e3
  have h6 := hr.1 g (by rw [h1]; simp [Value.ownBlock])
  exact ⟨g, c, h1, by omega, h6, h2, h3⟩
/-- One number of row i is written. -/
theorem Mat.put {w : World} {base : Nat} {v : Value} {vs : List OneV} {f : Nat → Nat} {M : List (List Int)} (h : Mat w base v vs f M) (i : Nat) (hi : i < M.length) (g n c : Nat) (hv : (vs[i]'(by have := h.len; omega)).1 = .slice (some ⟨g, 0, none⟩) n c) (j : Int) (x : Int) :
    Mat (w.setCell ⟨g, j.toNat, none⟩ (I x)) base v vs f (M.set i (M[i].set j.toNat x)) := by
  have hr := h.row i hi
  rw [hv] at hr
  have hg : f g = i := hr.1 g (by simp [Value.ownBlock])
  have hw := Kd.R_putn hr j x
  have hfar : ∀ k, k ≠ g → (w.setCell ⟨g, j.toNat, none⟩ (I x)).heap[k]? = w.heap[k]? := fun k hk => Below.heap_setCell w _ _ k hk
  refine ⟨⟨by rw [List.length_set]; exact h.len, fun k hk => ?_⟩, ?_, fun k hk => ?_⟩
  · rw [List.length_set] at hk
    by_cases e : i = k
    · subst e
      rw [List.getElem_set_self, hv]
      exact hw
    · rw [List.getElem_set_ne e]
      exact Kd.R_step (h.row k hk) (fun b ho _ => hfar b (fun e2 => e (by rw [← hg, ← ho, e2])))
  · rw [List.length_set]
    exact Kd.R_step h.outer (fun k ho _ => hfar k (fun e2 => by rw [e2, hg] at ho; omega))
  · rw [List.length_set]
    rw [World.size_setCell] at hk
    exact h.fresh k hk
/-- Two rows change places. -/
def swapT (a b i : Nat) : Nat := if i = b then a else if i = a then b else i
theorem swapT_lt {a b i m : Nat} (ha : a < m) (hb : b < m) : swapT a b i < m ↔ i < m := by
  unfold swapT
  split
  · omega
  · split <;> omega
theorem swapT_swap (a b i : Nat) : swapT a b (swapT a b i) = i := by
  unfold swapT
  by_cases h1 : i = b <;> by_cases h2 : i = a <;> by_cases h3 : a = b <;> simp_all
theorem swap_get {α : Type} (l : List α) (a b : Nat) (ha : a < l.length) (hb : b < l.length) (i : Nat) (hi : i < l.length) : ((l.set a l[b]).set b l[a])[i]'(by simpa using hi) = l[swapT a b i]'((swapT_lt ha hb).2 hi) := by
  rw [List.getElem_set]
  by_cases e : b = i
  · rw [if_pos e]
    have : swapT a b i = a := if_pos e.symm
    simp only [this]
  · rw [if_neg e, List.getElem_set]
    by_cases e2 : a = i
    · rw [if_pos e2]
      have : swapT a b i = b := by unfold swapT; rw [if_neg (fun x => e x.symm), if_pos e2.symm]
      simp only [this]
    · rw [if_neg e2]
      have : swapT a b i = i := by unfold swapT; rw [if_neg (fun x => e x.symm), if_neg (fun x => e2 x.symm)]
      simp only [this]
theorem Mat.swap {w : World} {base : Nat} {vs : List OneV} {f : Nat → Nat} {M : List (List Int)} {G n c : Nat} (h : Mat w base (.slice (some ⟨G, 0, none⟩) n c) vs f M) (a b : Nat) (ha : a < M.length) (hb : b < M.length) :
    Mat ((w.setCell ⟨G, a, none⟩ (vs[b]'(by have := h.len; omega)).1).setCell ⟨G, b, none⟩ (vs[a]'(by have := h.len; omega)).1) base (.slice (some ⟨G, 0, none⟩) n c) ((vs.set a (vs[b]'(by have := h.len; omega))).set b (vs[a]'(by have := h.len; omega))) (fun k => swapT a b (f k)) ((M.set a M[b]).set b M[a]) := by
  have hl := h.len
  have h1 := Kd.R_putn h.outer (a : Int) (vs[b]'(by omega))
  rw [Int.toNat_natCast] at h1
  have h2 := Kd.R_putn h1 (b : Int) (vs[a]'(by omega))
  rw [Int.toNat_natCast] at h2
  have hG : M.length ≤ f G := h.outer.1 G (by simp [Value.ownBlock])
  have hfar : ∀ k, f k < M.length → ((w.setCell ⟨G, a, none⟩ (vs[b]'(by omega)).1).setCell ⟨G, b, none⟩ (vs[a]'(by omega)).1).heap[k]? = w.heap[k]? := fun k hk =>
    have hne : k ≠ G := fun e => by rw [e] at hk; omega
    (Below.heap_setCell _ _ _ _ hne).trans (Below.heap_setCell _ _ _ _ hne)
  refine ⟨⟨by simp [hl], fun i hi => ?_⟩, ?_, fun k hk => ?_⟩
  · simp only [List.length_set] at hi
    have hs := (swapT_lt (i := i) ha hb).2 hi
    rw [swap_get M a b ha hb i hi, swap_get vs a b (by omega) (by omega) i (by omega)]
    refine Kd.R_mono (Kd.R_step (h.row _ hs) (fun k ho _ => hfar k (by rw [ho]; exact hs))) (fun k hk => ?_)
    show swapT a b (f k) = i
    rw [hk, swapT_swap]
  · simp only [List.length_set]
    refine Kd.R_mono h2 (fun k hk => ?_)
    show M.length ≤ swapT a b (f k)
    have := swapT_lt (i := f k) ha hb
    omega
  · simp only [List.length_set]
    rw [World.size_setCell, World.size_setCell] at hk
    have h3 := h.fresh k hk
    show M.length ≤ swapT a b (f k)
    have := swapT_lt (i := f k) ha hb
    omega

section
variable {ops : Array Oper} {rest : List Oper} {o : Oper} {a : Act} {Q : Exit → Act → World → Prop}
end
/-- A row more (in block b). -/
theorem Mat.push {w w1 : World} {base : Nat} {v v1 : Value} {vs : List OneV} {f : Nat → Nat} {M : List (List Int)} {r : OneV} {l : List Int} {b : Nat} (h : Rws w base vs (fun k => if k = b then M.length else f k) M) (hr : Ki.R 2 w base (fun k => k = b) r.1 l)
    (ho : Kv.R 22 w1 base (fun k => M.length ≤ f k ∧ k ≠ b) v1 (vs ++ [r])) (hg : w.grownBy w1 v.ownBlock) (hv : ∀ k, v.ownBlock = some k → M.length ≤ f k ∧ k ≠ b) (hb : b < w.heap.size) (hfr : ∀ k, w.heap.size ≤ k → M.length ≤ f k) :
    Mat w1 base v1 (vs ++ [r]) (fun k => if k = b then M.length else if M.length ≤ f k then M.length + 1 else f k) (M ++ [l]) := by
  have hl := h.len
  refine ⟨⟨by simp [hl], fun i hi => ?_⟩, ?_, fun k hk => ?_⟩
  · rw [List.length_append, List.length_singleton] at hi
    by_cases e : i < M.length
    · have e1 : (vs ++ [r])[i]'(by simp; omega) = vs[i]'(by omega) := List.getElem_append_left (by omega)
      have e2 : (M ++ [l])[i]'(by simp; omega) = M[i] := List.getElem_append_left e
      rw [e1, e2]
      refine Kd.R_mono (Kd.R_step (h.row i e) (fun k ho hk => hg.block k hk (fun e3 => ?_))) (fun k hk => ?_)
      · have h3 := hv k e3.symm
        have h4 : (if k = b then M.length else f k) = i := ho
        rw [if_neg h3.2] at h4
        omega
      · have h4 : (if k = b then M.length else f k) = i := hk
        show (if k = b then M.length else if M.length ≤ f k then M.length + 1 else f k) = i
        split at h4
        · omega
        · rename_i h5
          rw [if_neg h5, if_neg (by omega)]
          exact h4
    · obtain rfl : i = M.length := by omega
      have e1 : (vs ++ [r])[M.length]'(by simp; omega) = r := by rw [List.getElem_append_right (by omega)]; simp [hl]
      have e2 : (M ++ [l])[M.length]'(by simp) = l := by simp
      rw [e1, e2]
      exact Kd.R_mono (Kd.R_step hr (fun k ho hk => hg.block k hk (fun e3 => (hv k e3.symm).2 ho))) (fun k hk => if_pos hk)
  · rw [List.length_append, List.length_singleton]
    refine Kd.R_mono ho (fun k hk => ?_)
    show M.length + 1 ≤ if k = b then M.length else if M.length ≤ f k then M.length + 1 else f k
    rw [if_neg hk.2, if_pos hk.1]
    exact Nat.le_refl _
  · rw [List.length_append, List.length_singleton]
    have h2 := hg.size
    show M.length + 1 ≤ if k = b then M.length else if M.length ≤ f k then M.length + 1 else f k
    rw [if_neg (by omega), if_pos (hfr k (by omega))]
    exact Nat.le_refl _

end Go.Proofs.Ytjoggjgmpoaaiaa.K
end

section
/- Matrices: out of the print's rows; what a walk reads of them; the elimination's steps. -/
namespace Go.Proofs.Ytjoggjgmpoaaiaa.K
open Go.RowKit Go.Shelf Go.Proofs.YtjoggjgmpoaaiaaW.PrintWords Go.Proofs.YtjoggjgmpoaaiaaW.PrintLast Go.Proofs.YtjoggjgmpoaaiaaW.PrintMore
set_option linter.unusedVariables false
set_option linter.unusedSimpArgs false

theorem Mat.of_S {w : World} {base : Nat} {ok : Nat → Prop} {v : Value} {M : List (List Int)} (h : Kd.S (Kd.slice 2 Ki) 22 w base ok v M) : ∃ vs f, Mat w base v vs f M := by
  obtain ⟨f, h⟩ := h
  obtain ⟨h0, inner, ho, hlen, hr⟩ := Kd.R_bound h
  rw [List.length_zipIdx] at ho hlen
  have hl : inner.length = M.length := by
    have : inner.length = M.length * 1 := hlen
    omega
  have hd : ∀ j (hj : j < inner.length), (inner.drop (j * 1)).take 1 = [inner[j]] := fun j hj => by
    rw [Nat.mul_one, List.drop_eq_getElem_cons hj, List.take_succ_cons, List.take_zero]
  have hj : ∀ j (hj : j < M.length), (inner[j]'(by omega)).oneCell' = true ∧ Ki.R 2 w base (fun k => (k < w.heap.size ∧ some k ≠ v.ownBlock) ∧ f k = j) (inner[j]'(by omega)) M[j] := by
    intro j hj
    have hq := hr j (M[j], j) (Kd.zip_at (List.getElem?_eq_getElem hj))
    have hq' : (Kd.slice 2 Ki).M w base (fun k => ((ok k ∧ base ≤ k ∧ k < w.heap.size ∧ ∃ q, q ∈ 22 :: (Kd.tag f (Kd.slice 2 Ki)).E ∧ ∃ cells, w.heap[k]? = some (.cells cells q (0, 0))) ∧ some k ≠ v.ownBlock) ∧ f k = j) M[j] ((inner.drop (j * 1)).take 1) := hq
    rw [hd j (by omega)] at hq'
    have hone := (Kd.slice 2 Ki).K_one ((Kd.slice 2 Ki).K_of_M hq') (inner[j]'(by omega)) (by simp)
    obtain ⟨u, hu, hR⟩ := hq'
    injection hu with hu
    rw [hu]
    rw [hu] at hone
    exact ⟨hone, Kd.R_mono hR (fun k hk => ⟨⟨hk.1.1.2.2.1, hk.1.2⟩, hk.2⟩)⟩
  let vs : List OneV := (List.range M.length).attach.map fun j => ⟨inner[j.1]'(by have := List.mem_range.1 j.2; omega), (hj j.1 (List.mem_range.1 j.2)).1⟩
  have hvl : vs.length = M.length := by simp [vs]
  have hv : ∀ j (h1 : j < M.length), (vs[j]'(by omega)).1 = inner[j]'(by omega) := fun j h1 => by simp [vs]
  refine ⟨vs, fun k => if k < w.heap.size ∧ some k ≠ v.ownBlock ∧ f k < M.length then f k else M.length, ⟨⟨hvl, fun i hi => ?_⟩, ?_, fun k hk => ?_⟩⟩
  · rw [hv i hi]
    refine Kd.R_mono (hj i hi).2 (fun k hk => ?_)
    show (if k < w.heap.size ∧ some k ≠ v.ownBlock ∧ f k < M.length then f k else M.length) = i
    rw [if_pos ⟨hk.1.1, hk.1.2, by rw [hk.2]; exact hi⟩]
    exact hk.2
  · refine ⟨fun k hk => ?_, inner, by rw [hvl]; exact ho, by rw [hvl]; exact hlen, fun j p hp => ?_⟩
    · show M.length ≤ if k < w.heap.size ∧ some k ≠ v.ownBlock ∧ f k < M.length then f k else M.length
      rw [if_neg (fun h => h.2.1 hk.symm)]
      exact Nat.le_refl _
    · obtain ⟨hj2, rfl⟩ := List.getElem?_eq_some_iff.1 hp
      show (inner.drop (j * 1)).take 1 = [(vs[j]).1]
      rw [hd j (by omega), hv j (by omega)]
  · show M.length ≤ if k < w.heap.size ∧ some k ≠ v.ownBlock ∧ f k < M.length then f k else M.length
    rw [if_neg (fun h => by omega)]
    exact Nat.le_refl _

/-- What a walk reads: row i's slice and its numbers. -/
theorem Mat.at {w : World} {base : Nat} {vs : List OneV} {f : Nat → Nat} {M : List (List Int)} {G n c : Nat} (h : Mat w base (.slice (some ⟨G, 0, none⟩) n c) vs f M) (i m : Nat) (hi : i < M.length) (hm : (M.getD i []).length = m) (hp : 0 < m) :
    ∃ g cc, (vs[i]'(by have := h.len; omega)).1 = .slice (some ⟨g, 0, none⟩) m cc ∧ m ≤ cc ∧ f g = i ∧ base ≤ g ∧ base ≤ G ∧ M.length ≤ f G ∧ w.cell? ⟨G, i, none⟩ = some (.slice (some ⟨g, 0, none⟩) m cc) ∧ w.frozen? ⟨G, i, none⟩ = false ∧
      ∀ j, j < m → w.cell? ⟨g, j, none⟩ = some (I ((M.getD i []).getD j 0)) ∧ w.frozen? ⟨g, j, none⟩ = false := by
  have hl := h.len
  rw [getD_get M i [] hi] at hm ⊢
  obtain ⟨g, cc, h1, h2, h3, h4, h5⟩ := h.form i hi (by omega)
  rw [hm] at h1 h2
  have hr := h.row i hi
  rw [h1] at hr
  obtain ⟨h6, h7⟩ := Kd.R_celln nilV h.outer (i : Int) (by omega) (by
    have := (Kd.R_reads' h.outer).1
    omega)
  rw [Int.toNat_natCast] at h6 h7
  have h8 : rdOf nilV vs (i : Int) = vs[i]'(by omega) := by simp [rdOf, show i < vs.length by omega]
  rw [h8] at h6
  have h6' : w.cell? ⟨G, i, none⟩ = some (vs[i]'(by omega)).1 := h6
  rw [h1] at h6'
  obtain ⟨G', c', e, hG, _, _⟩ := Kd.R_form h.outer (by omega)
  injection e with e1 e2 e3
  injection e1 with e1
  injection e1 with e1
  subst e1
  refine ⟨g, cc, h1, h2, h3, h4, hG, h.outer.1 G (by simp [Value.ownBlock]), h6', h7, fun j hj => ?_⟩
  obtain ⟨h9, h10⟩ := Kd.R_celln 0 hr (j : Int) (by omega) (by omega)
  rw [Int.toNat_natCast] at h9 h10
  have h11 : rdOf 0 M[i] (j : Int) = M[i].getD j 0 := by simp [rdOf]
  rw [h11] at h9
  exact ⟨h9, h10⟩
theorem Mat.split {w : World} {base : Nat} {v : Value} {vs : List OneV} {f : Nat → Nat} {M : List (List Int)} (h : Mat w base v vs f M) (b : Nat) (hb : w.heap.size ≤ b) :
    Rws w base vs (fun k => if k = b then M.length else f k) M ∧ Kv.R 22 w base (fun k => M.length ≤ f k ∧ k ≠ b) v vs := by
  refine ⟨⟨h.len, fun i hi => Kd.R_mono (Kd.R_bound (h.row i hi)) (fun k hk => ?_)⟩, Kd.R_mono (Kd.R_bound h.outer) (fun k hk => ⟨hk.1, by have := hk.2.2.1; omega⟩)⟩
  show (if k = b then M.length else f k) = i
  rw [if_neg (by have := hk.2.2.1; omega)]
  exact hk.1
theorem Mat.head {w : World} {base : Nat} {v : Value} {vs : List OneV} {f : Nat → Nat} {M : List (List Int)} (h : Mat w base v vs f M) (hp : 0 < M.length) : ∃ G c, v = .slice (some ⟨G, 0, none⟩) M.length c ∧ M.length ≤ c := by
  obtain ⟨A, c, h1, h2⟩ := h.slice
  obtain ⟨G, c', e, _⟩ := Kd.R_form h.outer (by rw [h.len]; exact hp)
  rw [h.len] at e
  rw [h1] at e
  injection e with e1 e2 e3
  exact ⟨G, c, by rw [h1, e1], h2⟩
/-- Between the two stores of a swap. -/
theorem Mat.mid {w : World} {base : Nat} {vs : List OneV} {f : Nat → Nat} {M : List (List Int)} {G n c : Nat} (h : Mat w base (.slice (some ⟨G, 0, none⟩) n c) vs f M) (a b : Nat) (ha : a < M.length) (hb : b < M.length) :
    (w.setCell ⟨G, a, none⟩ (vs[b]'(by have := h.len; omega)).1).cell? ⟨G, b, none⟩ = some (vs[b]'(by have := h.len; omega)).1 ∧ (w.setCell ⟨G, a, none⟩ (vs[b]'(by have := h.len; omega)).1).frozen? ⟨G, b, none⟩ = false := by
  have hl := h.len
  have h1 := Kd.R_putn h.outer (a : Int) (vs[b]'(by omega))
  rw [Int.toNat_natCast] at h1
  have hn := (Kd.R_reads' h1).1
  rw [List.length_set] at hn
  obtain ⟨h2, h3⟩ := Kd.R_celln nilV h1 (b : Int) (by omega) (by omega)
  rw [Int.toNat_natCast] at h2 h3
  refine ⟨?_, h3⟩
  rw [h2]
  have : rdOf nilV (vs.set a (vs[b]'(by omega))) (b : Int) = vs[b]'(by omega) := by
    have hb2 : b < (vs.set a (vs[b]'(by omega))).length := by rw [List.length_set]; omega
    have : rdOf nilV (vs.set a (vs[b]'(by omega))) (b : Int) = (vs.set a (vs[b]'(by omega)))[b] := by simp [rdOf, show b < vs.length by omega]
    rw [this, List.getElem_set]
    split <;> rfl
  rw [this]
theorem swapM_is (M : List (List Int)) (a b : Nat) (ha : a < M.length) (hb : b < M.length) : (M.set a M[b]).set b M[a] = swapM M a b := by
  unfold swapM
  rw [getD_get M a [] ha, getD_get M b [] hb]
theorem list_ext_getD (A B : List (List Int)) (h : A.length = B.length) (h2 : ∀ i, i < A.length → A.getD i [] = B.getD i []) : A = B := by
  apply List.ext_getElem h
  intro i h3 h4
  have := h2 i h3
  rw [getD_get A i [] h3, getD_get B i [] h4] at this
  exact this
theorem swapM_comm (M : List (List Int)) (a b : Nat) (ha : a < M.length) (hb : b < M.length) : swapM M a b = swapM M b a := by
  refine list_ext_getD _ _ (by rw [swapM_length, swapM_length]) fun i hi => ?_
  rw [swapM_get M a b i ha hb, swapM_get M b a i hb ha]
  by_cases e : i = b <;> by_cases e2 : i = a
  · rw [if_pos e, if_pos e2, ← e, ← e2]
  · rw [if_pos e, if_neg e2, if_pos e]
  · rw [if_neg e, if_pos e2, if_pos e2]
  · rw [if_neg e, if_neg e2, if_neg e2, if_neg e]

/-- A row in the midst of its elimination: places before j are done. -/
def elimP (p : Int) (c : Nat) (pv row : List Int) (j : Nat) : List Int := (List.range row.length).map fun n => if n < j then elimAt p c pv row n else row.getD n 0
theorem elimP_length (p : Int) (c : Nat) (pv row : List Int) (j : Nat) : (elimP p c pv row j).length = row.length := by simp [elimP]
theorem elimP_get (p : Int) (c : Nat) (pv row : List Int) (j n : Nat) (h : n < row.length) : (elimP p c pv row j).getD n 0 = if n < j then elimAt p c pv row n else row.getD n 0 := by
  unfold elimP
  rw [List.getD_eq_getElem?_getD, List.getElem?_map, List.getElem?_range h]
  rfl
theorem int_ext_getD (A B : List Int) (h : A.length = B.length) (h2 : ∀ i, i < A.length → A.getD i 0 = B.getD i 0) : A = B := by
  apply List.ext_getElem h
  intro i h3 h4
  have := h2 i h3
  rw [getD_get A i 0 h3, getD_get B i 0 h4] at this
  exact this
/-- Where the pivot's row is 0 nothing changes. -/
theorem elimP_start (p : Int) (c : Nat) (pv row : List Int) (hr : ∀ x ∈ row, 0 ≤ x ∧ x < p) (hz : ∀ n, n < c → pv.getD n 0 = 0) : elimP p c pv row c = row := by
  refine int_ext_getD _ _ (elimP_length _ _ _ _ _) fun i hi => ?_
  rw [elimP_length] at hi
  rw [elimP_get _ _ _ _ _ _ hi]
  split
  · rename_i h
    unfold elimAt
    rw [hz i h, Int.mul_zero, Int.sub_zero, getD_get row i 0 hi]
    have := hr _ (List.getElem_mem hi)
    exact Int.emod_eq_of_lt this.1 this.2
  · rfl
theorem elimP_end (p : Int) (c : Nat) (pv row : List Int) : elimP p c pv row row.length = elimR p c pv row := by
  refine int_ext_getD _ _ (by rw [elimP_length, elimR_length]) fun i hi => ?_
  rw [elimP_length] at hi
  rw [elimP_get _ _ _ _ _ _ hi, elimR_get _ _ _ _ _ hi, if_pos hi]
theorem elimP_succ (p : Int) (c : Nat) (pv row : List Int) (j : Nat) : elimP p c pv row (j + 1) = (elimP p c pv row j).set j (elimAt p c pv row j) := by
  apply List.ext_getElem
  · simp [elimP_length]
  · intro i h1 h2
    rw [elimP_length] at h1
    rw [List.getElem_set]
    simp only [elimP, List.getElem_map, List.getElem_range]
    by_cases e : j = i
    · subst e
      simp
    · rw [if_neg e]
      by_cases h3 : i < j
      · rw [if_pos (by omega), if_pos h3]
      · rw [if_neg (by omega), if_neg h3]
theorem elimM_start (p : Int) (c r : Nat) (M : List (List Int)) : elimM p c r M (r + 1) = M := by
  refine list_ext_getD _ _ (elimM_length _ _ _ _ _) fun i hi => ?_
  rw [elimM_length] at hi
  rw [elimM_get _ _ _ _ _ _ hi, if_neg (by omega)]
theorem elimM_succ (p : Int) (c r : Nat) (M : List (List Int)) (hi : Nat) (h : r < hi) : elimM p c r M (hi + 1) = (elimM p c r M hi).set hi (elimR p c (M.getD r []) (M.getD hi [])) := by
  apply List.ext_getElem
  · simp [elimM_length]
  · intro i h1 h2
    rw [elimM_length] at h1
    rw [List.getElem_set]
    simp only [elimM, List.getElem_map, List.getElem_range]
    by_cases e : hi = i
    · subst e
      rw [if_pos ⟨h, by omega⟩, if_pos rfl]
    · rw [if_neg e]
      by_cases h3 : r < i ∧ i < hi
      · rw [if_pos ⟨h3.1, by omega⟩, if_pos h3]
      · rw [if_neg (by omega), if_neg h3]
theorem set_same (M : List (List Int)) (i : Nat) (x : List Int) (h : i < M.length) (hx : M.getD i [] = x) : M.set i x = M := by
  rw [← hx, getD_get M i [] h, List.set_getElem_self]
theorem set_getD (M : List (List Int)) (i : Nat) (x : List Int) (h : i < M.length) : (M.set i x).getD i [] = x := by
  rw [getD_get _ i [] (by rw [List.length_set]; exact h), List.getElem_set_self]
theorem set_getD_ne (M : List (List Int)) (i j : Nat) (x : List Int) (h : i ≠ j) : (M.set i x).getD j [] = M.getD j [] := by
  rw [List.getD_eq_getElem?_getD, List.getElem?_set_ne h, List.getD_eq_getElem?_getD]
theorem pivI_hit {M : List (List Int)} {r c j : Nat} (hr : r ≤ j) (hj : j < M.length) (h : (M.getD j []).getD c 0 ≠ 0) (hz : ∀ i, r ≤ i → i < j → (M.getD i []).getD c 0 = 0) : pivI M r c = ((j - r : Nat) : Int) := by
  refine idx_hit _ (M.drop r) (j - r) (by rw [List.length_drop]; omega) ?_ (fun i hi => ?_)
  · rw [List.getElem_drop]
    have e : M[r + (j - r)]'(by omega) = M.getD j [] := by rw [getD_get M j [] hj]; congr 1; omega
    rw [e]
    simpa using h
  · rw [List.getElem_drop]
    have e : M[r + i]'(by omega) = M.getD (r + i) [] := (getD_get M (r + i) [] (by omega)).symm
    rw [e, hz (r + i) (by omega) (by omega)]
    rfl
theorem pivI_miss {M : List (List Int)} {r c : Nat} (hz : ∀ i, r ≤ i → i < M.length → (M.getD i []).getD c 0 = 0) : pivI M r c = -1 := by
  refine idx_miss _ (M.drop r) (fun i hi => ?_)
  rw [List.length_drop] at hi
  rw [List.getElem_drop]
  have e : M[r + i]'(by omega) = M.getD (r + i) [] := (getD_get M (r + i) [] (by omega)).symm
  rw [e, hz (r + i) (by omega) (by omega)]
  rfl
/-- The numbers that the two programs come to. -/
theorem specv : ∀ (p : Fin 4) (x a b y : Fin 3), 2 ≤ p.val → x.val < p.val → a.val < p.val → b.val < p.val → y.val < p.val → ((x.val : Int) + ((p.val : Int) - (a.val * b.val : Int) % p.val) * y.val) % p.val = ((x.val : Int) - (a.val : Int) * b.val * y.val) % p.val := by decide +kernel
theorem fins (p x : Int) (hp : 2 ≤ p ∧ p ≤ 3) (hx : 0 ≤ x ∧ x < p) : ∃ k : Fin 3, x = (k.val : Int) ∧ (k.val : Int) < p := ⟨⟨x.toNat, by omega⟩, by show x = ((x.toNat : Nat) : Int); omega, by show ((x.toNat : Nat) : Int) < p; omega⟩
theorem spec_val (p x a b y : Int) (hp : 2 ≤ p ∧ p ≤ 3) (hx : 0 ≤ x ∧ x < p) (ha : 0 ≤ a ∧ a < p) (hb : 0 ≤ b ∧ b < p) (hy : 0 ≤ y ∧ y < p) : (x + (p - a * b % p) * y) % p = (x - a * b * y) % p := by
  obtain ⟨p', rfl⟩ := Int.eq_ofNat_of_zero_le (show 0 ≤ p by omega)
  obtain ⟨x', rfl, h1⟩ := fins _ x hp hx
  obtain ⟨a', rfl, h2⟩ := fins _ a hp ha
  obtain ⟨b', rfl, h3⟩ := fins _ b hp hb
  obtain ⟨y', rfl, h4⟩ := fins _ y hp hy
  exact specv ⟨p', by omega⟩ x' a' b' y' (by show 2 ≤ p'; omega) (by show x'.val < p'; omega) (by show a'.val < p'; omega) (by show b'.val < p'; omega) (by show y'.val < p'; omega)
end Go.Proofs.Ytjoggjgmpoaaiaa.K
end
