/- The row of the law FnExactParseComplex: for every input the law answers true, and the arguments read as before. No conditions. -/
import Derived.Test.YtaeabbackmnioaaDoorJPar2
import Derived.Below
import Derived.Deep.Draws
import Derived.Deep.AppendLies
import Derived.Maps.AppendAt
import Derived.OwnWalk
import Derived.Laws.BytesArg
import Derived.Laws.MakeOwn
import Derived.Laws.OwnMore
import Derived.Deep.OwnRows
import Derived.Tactics
import Derived.Lib.ConvBytes
import Derived.Laws.Slices
import Derived.WalkKit
import Derived.KernelRfl
import Derived.RowKit3
import Derived.Deep.LoopGhost
import Derived.Deep.QuietTactic
import Derived.BigQuiet
import Derived.WideLaws
import Derived.Deep.DeepCutAuto
import Derived.Deep.CutBlock
import Derived.Deep.RegionHeld3
import Derived.Laws.Rows
import Derived.Lib.AppendStr
import Derived.ArgAppend
import Derived.Laws.IdiomCopy
import Derived.RowKit
import Derived.OrdersHeld
import Derived.Laws.BitsLemmas
import Derived.Test.YtaeabbackmnioaaDoorProg
import Derived.Shelf.Abstract
import Derived.Test.YtaeabbackmnioaaDoorChecked
import Derived.Shelf.Strings.SplitShaped
import Derived.Laws.StructEq
import Derived.RangeFuncBox
import Derived.RangeFuncLeaves
import Derived.OwnWalkIn
import Derived.TacticsInMore
import Derived.LoopNIn
import Derived.LoopIn
import Derived.Lib.SliceRun
import Derived.Shelf.Strings.OnBuilder
import Derived.Shelf.Strconv.Itoa4
import Derived.Lib.SmallJoins
import Derived.Lib.ParseIntB
import Derived.Shelf.Strings.Cut
import Derived.Shelf.Strconv.ParseIntPublic10
import Derived.JoinedOf
import Derived.Test.YtaeabbackmnioaaDoorRows
import Derived.ProofKit
import Derived.OpenShut
import Derived.ShutString
import Derived.ChangeOld
import Derived.SizedLaws
import Derived.Test.YtaeabbackmnioaaDoorTie
import Derived.Test.YtaeabbackmnioaaDoorCards
import Derived.LaidMore
import Derived.Lay
import Derived.SevenTiedAt
import Derived.Stop.Joined
import Derived.HandedShaped
import Derived.Stop.LaidErr
section
/- ParseComplex: what the program's and the reference's code come to. -/
namespace Go.Proofs.YtaeabbackmnioaaDoor.K
open Go.RowKit Go.Shelf Go.Proofs.YtaeabbackmnioaaDoor.Q Go.Proofs.YtaeabbackmnioaaDoorW.PrintWords Go.Proofs.YtaeabbackmnioaaDoorW.PrintLast Go.Proofs.YtaeabbackmnioaaDoorW.PrintMore
set_option linter.unusedVariables false
set_option linter.unusedSimpArgs false

/-- The sets of some words. -/
def setsGo : List (List UInt8) → List Int → List Int × Bool
 | [], acc => (acc, true)
 | x :: r, acc => if (setGo x 0).2 = true then setsGo r (acc ++ [(setGo x 0).1]) else ([], false)
theorem setGo_range : ∀ (l : List UInt8) (o : Int), 0 ≤ o ∧ o ≤ 63 → 0 ≤ (setGo l o).1 ∧ (setGo l o).1 ≤ 63
 | [], o, h => h
 | b :: r, o, h => by
  rw [setGo]
  split
  ·rename_i hn
   unfold nextB at hn
   rw [Bool.and_eq_true, decide_eq_true_eq] at hn
   exact setGo_range r _ (withD_range h hn.1)
  ·simp
theorem setsGo_range : ∀ (ps : List (List UInt8)) (acc : List Int), (∀ x ∈ acc, 0 ≤ x ∧ x ≤ 63) → (∀ x ∈ (setsGo ps acc).1, 0 ≤ x ∧ x ≤ 63) ∧ (setsGo ps acc).1.length ≤ acc.length + ps.length
 | [], acc, h => ⟨h, by simp [setsGo]⟩
 | p :: r, acc, h => by
  rw [setsGo]
  split
  ·have := setsGo_range r (acc ++ [(setGo p 0).1]) (fun x hx => by
    rcases List.mem_append.1 hx with hx | hx
    ·exact h x hx
    ·rw [List.mem_singleton.1 hx]; exact setGo_range p 0 (by omega))
   refine ⟨this.1, ?_⟩
   have h2 := this.2
   simp only [List.length_append, List.length_cons, List.length_nil] at h2 ⊢
   omega
  ·simp
/-- What ParseComplex answers. -/
def endI (n : Int) (sets : List Int) (s : ByteArray) : Int × List Int × Int := if B8 (textU n (facetsL (madeL n sets))) = s then (n, madeL n sets, 0) else (0, [], 6)
def setsIn (l : List UInt8) : List Int × Bool := if l = [] then ([], true) else setsGo (splitL 44 l) []
def codeI (n : Int) (q : List Int × Bool) (s : ByteArray) : Int × List Int × Int := if 1 ≤ n ∧ n ≤ 6 then (if q.2 = true then endI n q.1 s else (0, [], 6)) else (0, [], 6)
def parseI (s : ByteArray) : Int × List Int × Int :=
 match Lib.parseIntB 64 (Lib.cut s.data.toList [58]).1 with
 | .ok n => codeI n (setsIn (Lib.cut s.data.toList [58]).2.1) s
 | _ => (0, [], 6)
theorem setsIn_range (l : List UInt8) : (∀ x ∈ (setsIn l).1, 0 ≤ x ∧ x ≤ 63) ∧ (setsIn l).1.length ≤ l.length + 1 := by
 unfold setsIn
 split
 ·simp
 ·have h := setsGo_range (splitL 44 l) [] (by simp)
  have h2 := splitL_length 44 l
  refine ⟨h.1, ?_⟩
  have := h.2
  simp only [List.length_nil] at this
  omega
/-- The texts of complexes. -/
def goodT (s : ByteArray) : Prop := ∃ (n : Int) (sets : List Int), (1 ≤ n ∧ n ≤ 6) ∧ (∀ x ∈ sets, 0 ≤ x ∧ x ≤ 63) ∧ s = B8 (textU n (facetsL (madeL n sets)))
theorem parseI_no {s : ByteArray} (h : ¬ goodT s) : parseI s = (0, [], 6) := by
 unfold parseI
 split
 ·rename_i n hn
  unfold codeI endI
  split
  ·split
   ·rw [if_neg]
    intro e
    exact h ⟨n, _, by assumption, (setsIn_range _).1, e.symm⟩
   ·rfl
  ·rfl
 ·rfl

/-! the reference: it comes to an end at whatever text -/
theorem number_loop (l : List UInt8) (hl : l.length ≤ 9) : ∀ (d i k : Nat) (x : Int), l.length - i = d → i ≤ l.length → d < k → ∃ r, spec_l01Number.l0 k (B8 l) x (i : Int) = some r := by
 have hsz := B8_size l
 intro d
 induction d with
 | zero =>
  intro i k x hd hi hk
  obtain ⟨k, rfl⟩ : ∃ m, k = m + 1 := ⟨k - 1, by omega⟩
  simp only [spec_l01Number.l0]
  rw [hsz, if_neg (by omega)]
  exact ⟨_, rfl⟩
 | succ d ih =>
  intro i k x hd hi hk
  obtain ⟨k, rfl⟩ : ∃ m, k = m + 1 := ⟨k - 1, by omega⟩
  simp only [spec_l01Number.l0]
  have hw : wrap64 ((i : Int) + 1) = ((i + 1 : Nat) : Int) := by rw [w64 _ (by omega) (by omega)]; omega
  rw [hsz, if_pos (by omega), if_pos (by omega), hw]
  split
  ·exact ⟨_, rfl⟩
  ·split
   ·exact ⟨_, rfl⟩
   ·exact ih (i + 1) k _ (by omega) (by omega) (by omega)
theorem number_total (l : List UInt8) (k : Nat) (hk : 12 ≤ k) : ∃ r, spec_l01Number.f k (B8 l) = some r := by
 have hsz := B8_size l
 have hj : ∀ b, l.length ≤ 9 → ∃ r, spec_l01Number.j0 k (B8 l) b = some r := fun b h9 => by
  obtain ⟨k, rfl⟩ : ∃ m, k = m + 1 := ⟨k - 1, by omega⟩
  simp only [spec_l01Number.j0]
  split
  ·exact ⟨_, rfl⟩
  ·exact number_loop l h9 l.length 0 k 0 (by omega) (by omega) (by omega)
 have ht : ∃ r, spec_l01Number.j0 k (B8 l) true = some r := by
  obtain ⟨k, rfl⟩ : ∃ m, k = m + 1 := ⟨k - 1, by omega⟩
  simp only [spec_l01Number.j0]
  exact ⟨_, rfl⟩
 unfold spec_l01Number.f
 rw [hsz]
 split
 ·exact ht
 ·split
  ·exact ht
  ·split
   ·rw [if_pos (by omega)]
    exact hj _ (by omega)
   ·exact hj _ (by omega)

theorem set_loop (n : Int) (hn : 1 ≤ n ∧ n ≤ 6) (l : List UInt8) (hl : l.length ≤ 4000000) : ∀ (d i k : Nat) (o b : Int), l.length - i = d → i ≤ l.length → d < k → (0 ≤ o ∧ o ≤ 63) → (-1 ≤ b ∧ b ≤ 5) →
  ∃ r ok, spec_l01Set.l0 k (B8 l) n o b (i : Int) = some (r, ok) ∧ 0 ≤ r ∧ r ≤ 63 := by
 have hsz := B8_size l
 intro d
 induction d with
 | zero =>
  intro i k o b hd hi hk ho hb
  obtain ⟨k, rfl⟩ : ∃ m, k = m + 1 := ⟨k - 1, by omega⟩
  simp only [spec_l01Set.l0]
  rw [hsz, if_neg (by omega)]
  exact ⟨_, _, rfl, ho.1, ho.2⟩
 | succ d ih =>
  intro i k o b hd hi hk ho hb
  obtain ⟨k, rfl⟩ : ∃ m, k = m + 1 := ⟨k - 1, by omega⟩
  simp only [spec_l01Set.l0]
  have hil : i < l.length := by omega
  have hx := l[i].toNat_lt
  rw [hsz, if_pos (by omega), if_pos (by omega), bt_B8 l i hil, w64 ((l[i].toNat : Nat) : Int) (by omega) (by omega), w64 (((l[i].toNat : Nat) : Int) - 48) (by omega) (by omega), w64 (b + 1) (by omega) (by omega), w64 (n - 1) (by omega) (by omega), specIn_is]
  simp only [Option.bind_some]
  have HW : Aside0 (wrap64 ((i : Int) + 1) = ((i + 1 : Nat) : Int)) := ⟨by rw [w64 _ (by omega) (by omega)]; omega⟩
  by_cases hc : b + 1 ≤ ((l[i].toNat : Nat) : Int) - 48 ∧ ((l[i].toNat : Nat) : Int) - 48 ≤ n - 1
  ·rw [if_pos (decide_eq_true hc), u64_id _ (by omega) (by omega), if_pos (by omega), HW.out]
   exact ih (i + 1) k _ _ (by omega) (by omega) (by omega) (withD_range ho (by omega)) (by omega)
  ·rw [if_neg (by simpa using hc)]
   exact ⟨_, _, rfl, by omega, by omega⟩
theorem set_total (n : Int) (hn : 1 ≤ n ∧ n ≤ 6) (l : List UInt8) (hl : l.length ≤ 4000000) (k : Nat) (hk : l.length < k) : ∃ r ok, spec_l01Set.f k (B8 l) n = some (r, ok) ∧ 0 ≤ r ∧ r ≤ 63 :=
 set_loop n hn l hl l.length 0 k 0 (-1) (by omega) (by omega) hk (by omega) (by omega)

/-- The reference's last steps. -/
theorem read_end (n : Int) (hn : 1 ≤ n ∧ n ≤ 6) (sets : List Int) (hr : ∀ x ∈ sets, 0 ≤ x ∧ x ≤ 63) (hs : sets.length ≤ 2000000) (s : ByteArray) (k : Nat) (hk : 64 * (sets.length + 6) + 300 ≤ k) :
  ((spec_l01Made.f k n sets).bind fun b => (spec_l01Text.f k b.1 b.2).bind fun t => some (b.1, b.2, (t.toList == s.toList))) = some (n, madeL n sets, decide (B8 (textU n (facetsL (madeL n sets))) = s)) := by
 rw [specMade_g n hn sets (by omega) hr k (by omega)]
 simp only [Option.bind_some]
 rw [textS_is (made_isC hn hr) k (by omega)]
 simp only [Option.bind_some]
 have e : ((B8 (textU n (facetsL (madeL n sets)))).toList == s.toList) = decide (B8 (textU n (facetsL (madeL n sets))) = s) := by
  rw [Lib.toList_data, Lib.toList_data, Bool.eq_iff_iff, beq_iff_eq, decide_eq_true_eq]
  constructor
  ·intro h
   rw [← B8_of s, ← h]
   rfl
  ·intro h
   rw [h]
 rw [e]
theorem read_no {s : ByteArray} (hno : ¬ goodT s) (n : Int) (hn : 1 ≤ n ∧ n ≤ 6) (ps : List (List UInt8)) (hp : ps.length ≤ 1100000) (hl : ∀ x ∈ ps, x.length ≤ 1100000) : ∀ (d i k : Nat) (acc : List Int), ps.length - i = d → i ≤ ps.length → acc.length ≤ i → (∀ x ∈ acc, 0 ≤ x ∧ x ≤ 63) → d + 80000000 < k →
  ∃ a b, spec_l01Read.l0 k s n acc (ps.map B8) (i : Int) = some (a, b, false) := by
 have hlen : (ps.map B8).length = ps.length := List.length_map _
 intro d
 induction d with
 | zero =>
  intro i k acc hd hi ha hacc hk
  obtain ⟨k, rfl⟩ : ∃ m, k = m + 1 := ⟨k - 1, by omega⟩
  simp only [spec_l01Read.l0]
  rw [hlen, if_neg (by omega), read_end n hn acc hacc (by omega) s k (by omega)]
  exact ⟨_, _, by rw [decide_eq_false]; exact fun e => hno ⟨n, acc, hn, hacc, e.symm⟩⟩
 | succ d ih =>
  intro i k acc hd hi ha hacc hk
  obtain ⟨k, rfl⟩ : ∃ m, k = m + 1 := ⟨k - 1, by omega⟩
  simp only [spec_l01Read.l0]
  have hil : i < ps.length := by omega
  have hx : rdOf ByteArray.empty (ps.map B8) (i : Int) = B8 ps[i] := by simp [rdOf, hil]
  have hlx := hl _ (List.getElem_mem hil)
  obtain ⟨r, ok, hr, h0, h63⟩ := set_total n hn ps[i] (by omega) k (by omega)
  have HW : Aside0 (wrap64 ((i : Int) + 1) = ((i + 1 : Nat) : Int)) := ⟨by rw [w64 _ (by omega) (by omega)]; omega⟩
  rw [hlen, if_pos (by omega), if_pos (by omega), hx, hr]
  simp only [Option.bind_some]
  cases ok with
  | false => exact ⟨_, _, rfl⟩
  | true =>
   rw [if_pos rfl, if_pos (by omega), HW.out]
   exact ih (i + 1) k _ (by omega) (by omega) (by simp; omega) (fun x hx => by
    rcases List.mem_append.1 hx with hx | hx
    ·exact hacc x hx
    ·rw [List.mem_singleton.1 hx]; omega) (by omega)

theorem specParse_no (l : List UInt8) (hl : l.length ≤ 1048576) (hno : ¬ goodT (B8 l)) (k : Nat) (hk : 90000000 ≤ k) : spec_ParseComplex.f k (B8 l) = some (0, [], 6) := by
 have hsp := specSplit_is 58 l (by omega) k (by omega)
 rw [show ((58 : UInt8).toNat : Int) = 58 from rfl] at hsp
 have hpc := splitL_piece 58 l
 obtain ⟨a, b, h⟩ : ∃ a b, spec_l01Read.f k (B8 l) = some (a, b, false) := by
  unfold spec_l01Read.f
  rw [hsp]
  simp only [Option.bind_some]
  have hjt : ∃ a b, spec_l01Read.j0 k (B8 l) ((splitL 58 l).map B8) true = some (a, b, false) := by
   obtain ⟨k, rfl⟩ : ∃ m, k = m + 1 := ⟨k - 1, by omega⟩
   simp only [spec_l01Read.j0]
   exact ⟨_, _, rfl⟩
  have hlen : ((splitL 58 l).map B8).length = (splitL 58 l).length := List.length_map _
  rw [hlen]
  split
  ·rename_i h2
   rw [if_pos (by omega)]
   match hs : splitL 58 l with
   | [] => exact absurd hs (splitL_ne _ _)
   | [x] => rw [hs] at h2; simp at h2
   | x :: y :: z :: r => rw [hs] at h2; simp only [List.length_cons] at h2; omega
   | [x, y] =>
    rw [hs] at hpc hjt
    have hy := hpc y (by simp)
    have e0 : rdOf ByteArray.empty ([x, y].map B8) 0 = B8 x := rfl
    have e1 : rdOf ByteArray.empty ([x, y].map B8) 1 = B8 y := rfl
    obtain ⟨n, hnum⟩ := number_total x k (by omega)
    rw [e0, hnum]
    simp only [Option.bind_some]
    rw [specIn_is]
    simp only [Option.bind_some]
    by_cases hn : 1 ≤ n ∧ n ≤ 6
    ·rw [decide_eq_true hn]
     obtain ⟨k, rfl⟩ : ∃ m, k = m + 1 := ⟨k - 1, by omega⟩
     simp only [spec_l01Read.j0, Bool.not_true, Bool.false_eq_true, if_false]
     obtain ⟨n2, hnum2⟩ := number_total x k (by omega)
     have h3 := spec_l01Number.mono (B8 x) k n2 hnum2
     rw [hnum] at h3
     obtain rfl := Option.some.inj h3
     rw [e0, hnum2, e1]
     simp only [Option.bind_some]
     rw [if_pos (by simp only [List.length_map, List.length_cons, List.length_nil]; omega), if_pos (by simp only [List.length_map, List.length_cons, List.length_nil]; omega)]
     split
     ·rw [read_end n hn [] (by simp) (by simp) (B8 l) k (by simp; omega)]
      exact ⟨_, _, by rw [decide_eq_false]; exact fun e => hno ⟨n, [], hn, by simp, e.symm⟩⟩
     ·have hsp2 := specSplit_is 44 y (by omega) k (by omega)
      rw [show ((44 : UInt8).toNat : Int) = 44 from rfl] at hsp2
      rw [hsp2]
      simp only [Option.bind_some]
      have hl2 := splitL_length 44 y
      exact read_no hno n hn (splitL 44 y) (by omega) (fun x hx => by have := splitL_piece 44 y x hx; omega) (splitL 44 y).length 0 k [] (by omega) (by omega) (by simp) (by simp) (by omega)
    ·rw [decide_eq_false hn]
     exact hjt
  ·exact hjt
 unfold spec_ParseComplex.f
 rw [h]
 rfl

end Go.Proofs.YtaeabbackmnioaaDoor.K
end

section
/- ParseComplex at the text of a complex; at every text. -/
namespace Go.Proofs.YtaeabbackmnioaaDoor.K
open Go.RowKit Go.Shelf Go.Proofs.YtaeabbackmnioaaDoor.Q Go.Proofs.YtaeabbackmnioaaDoorW.PrintWords Go.Proofs.YtaeabbackmnioaaDoorW.PrintLast Go.Proofs.YtaeabbackmnioaaDoorW.PrintMore
set_option linter.unusedVariables false
set_option linter.unusedSimpArgs false

theorem word_chars_64 : ∀ f : Fin 64, (word (f.val : Int)).all (fun b => decide (48 ≤ b.toNat ∧ b.toNat ≤ 53)) = true := by decide +kernel
theorem word_chars {f : Int} (hf : 0 ≤ f ∧ f ≤ 63) {b : UInt8} (hb : b ∈ word f) : 48 ≤ b.toNat ∧ b.toNat ≤ 53 := by
 have h := word_chars_64 ⟨f.toNat, by omega⟩
 have e : ((f.toNat : Nat) : Int) = f := by omega
 rw [e, List.all_eq_true] at h
 exact of_decide_eq_true (h b hb)
theorem word_set_64 : ∀ f : Fin 64, f.val ≠ 0 → setGo (word (f.val : Int)) 0 = ((f.val : Int), true) ∧ word (f.val : Int) ≠ [] := by decide +kernel
theorem word_set {f : Int} (hf : 1 ≤ f ∧ f ≤ 63) : setGo (word f) 0 = (f, true) ∧ word f ≠ [] := by
 have h := word_set_64 ⟨f.toNat, by omega⟩ (by show f.toNat ≠ 0; omega)
 have e : ((f.toNat : Nat) : Int) = f := by omega
 rw [e] at h
 exact h
theorem word_spec_64 : ∀ n : Fin 7, n.val ≠ 0 → ∀ f : Fin 64, f.val ≠ 0 → f.val < 2 ^ n.val → spec_l01Set.f 8 (B8 (word (f.val : Int))) (n.val : Int) = some ((f.val : Int), true) := by decide +kernel
theorem word_spec {n f : Int} (hn : 1 ≤ n ∧ n ≤ 6) (hf : 1 ≤ f ∧ f ≤ fullOf n) (k : Nat) (hk : 8 ≤ k) : spec_l01Set.f k (B8 (word f)) n = some (f, true) := by
 have hF := full_range n hn
 have h2 := full_nat n
 have h1 : 1 ≤ 2 ^ n.toNat := Nat.one_le_two_pow
 have h := word_spec_64 ⟨n.toNat, by omega⟩ (by show n.toNat ≠ 0; omega) ⟨f.toNat, by omega⟩ (by show f.toNat ≠ 0; omega) (by show f.toNat < 2 ^ n.toNat; omega)
 have e : ((f.toNat : Nat) : Int) = f := by omega
 have e2 : ((n.toNat : Nat) : Int) = n := by omega
 rw [e, e2] at h
 obtain ⟨d, rfl⟩ : ∃ d, k = 8 + d := ⟨k - 8, by omega⟩
 exact rounds_le (fun k => spec_l01Set.mono (B8 (word f)) n k) d 8 h
theorem dig_num_6 : ∀ n : Fin 7, n.val ≠ 0 → spec_l01Number.f 12 (B8 [dig (n.val : Int)]) = some (n.val : Int) ∧ Lib.parseIntB 64 [dig (n.val : Int)] = .ok (n.val : Int) ∧ dig (n.val : Int) ≠ 58 := by decide +kernel
theorem dig_num {n : Int} (hn : 1 ≤ n ∧ n ≤ 6) : (∀ k, 12 ≤ k → spec_l01Number.f k (B8 [dig n]) = some n) ∧ Lib.parseIntB 64 [dig n] = .ok n ∧ dig n ≠ 58 := by
 have h := dig_num_6 ⟨n.toNat, by omega⟩ (by show n.toNat ≠ 0; omega)
 have e2 : ((n.toNat : Nat) : Int) = n := by omega
 rw [e2] at h
 refine ⟨fun k hk => ?_, h.2⟩
 obtain ⟨d, rfl⟩ : ∃ d, k = 12 + d := ⟨k - 12, by omega⟩
 exact rounds_le (fun k => spec_l01Number.mono (B8 [dig n]) k) d 12 h.1
theorem tail_mem {b : UInt8} : ∀ {ws : List (List UInt8)}, b ∈ Lib.joinTail [44] ws → b = 44 ∨ ∃ w ∈ ws, b ∈ w
 | [], h => by simp [Lib.joinTail] at h
 | w :: ws, h => by
  have e : Lib.joinTail [44] (w :: ws) = 44 :: (w ++ Lib.joinTail [44] ws) := by simp [Lib.joinTail]
  rw [e] at h
  rcases List.mem_cons.1 h with h | h
  ·exact .inl h
  ·rcases List.mem_append.1 h with h | h
   ·exact .inr ⟨w, List.mem_cons_self, h⟩
   ·rcases tail_mem h with h | ⟨x, hx, h⟩
    ·exact .inl h
    ·exact .inr ⟨x, List.mem_cons_of_mem _ hx, h⟩
theorem join_mem {b : UInt8} {ws : List (List UInt8)} (h : b ∈ Lib.join ws [44]) : b = 44 ∨ ∃ w ∈ ws, b ∈ w := by
 cases ws with
 | nil => rw [Lib.join_nil] at h; simp at h
 | cons w ws =>
  rw [Lib.join_cons] at h
  rcases List.mem_append.1 h with h | h
  ·exact .inr ⟨w, List.mem_cons_self, h⟩
  ·rcases tail_mem h with h | ⟨x, hx, h⟩
   ·exact .inl h
   ·exact .inr ⟨x, List.mem_cons_of_mem _ hx, h⟩

section
variable {n : Int} {fs : List Int}
theorem join_colon (hf : ∀ f ∈ fs, 1 ≤ f ∧ f ≤ 63) : (58 : UInt8) ∉ Lib.join (fs.map word) [44] := by
 intro h
 rcases join_mem h with h | ⟨w, hw, h⟩
 ·exact absurd h (by decide)
 ·obtain ⟨f, hm, rfl⟩ := List.mem_map.1 hw
  have h1 := hf f hm
  have := word_chars (f := f) (by omega) h
  have e : (58 : UInt8).toNat = 58 := rfl
  omega
theorem text_split (hn : 1 ≤ n ∧ n ≤ 6) (hf : ∀ f ∈ fs, 1 ≤ f ∧ f ≤ 63) : splitL 58 (textU n fs) = [[dig n], Lib.join (fs.map word) [44]] := by
 have h58 := (dig_num hn).2.2
 have e : textU n fs = [dig n] ++ 58 :: Lib.join (fs.map word) [44] := rfl
 rw [e, splitL_app _ (by simpa using fun e => h58 e.symm), splitL_none (join_colon hf)]
theorem join_split (hf : ∀ f ∈ fs, 1 ≤ f ∧ f ≤ 63) (hne : fs ≠ []) : splitL 44 (Lib.join (fs.map word) [44]) = fs.map word := by
 have h44 : ∀ f ∈ fs, (44 : UInt8) ∉ word f := fun f hm h => by
  have h1 := hf f hm
  have := word_chars (f := f) (by omega) h
  have e : (44 : UInt8).toNat = 44 := rfl
  omega
 match fs, hne with
 | f :: r, _ =>
  exact splitL_join (r.map word) (word f) (h44 f List.mem_cons_self) (fun x hx => by
   obtain ⟨g, hg, rfl⟩ := List.mem_map.1 hx
   exact h44 g (List.mem_cons_of_mem _ hg))
theorem join_empty (hf : ∀ f ∈ fs, 1 ≤ f ∧ f ≤ 63) : Lib.join (fs.map word) [44] = [] ↔ fs = [] := by
 cases fs with
 | nil => simp [Lib.join_nil]
 | cons f r =>
  have := (word_set (hf f List.mem_cons_self)).2
  rw [List.map_cons, Lib.join_cons]
  simp [this]
theorem text_cut (hn : 1 ≤ n ∧ n ≤ 6) : Lib.cut (textU n fs) [58] = ([dig n], Lib.join (fs.map word) [44], true) := by
 have h58 := (dig_num hn).2.2
 have hix : Lib.index (textU n fs) [58] = 1 := by
  rw [Lib.index_one]
  show Lib.indexByte (dig n :: 58 :: Lib.join (fs.map word) [44]) 58 = 1
  simp [Lib.indexByte, h58]
 unfold Lib.cut
 rw [hix, if_pos (by decide)]
 rfl
theorem setsGo_words : ∀ (gs : List Int) (acc : List Int), (∀ f ∈ gs, 1 ≤ f ∧ f ≤ 63) → setsGo (gs.map word) acc = (acc ++ gs, true)
 | [], acc, _ => by simp [setsGo]
 | g :: r, acc, h => by
  have hg := (word_set (h g List.mem_cons_self)).1
  rw [List.map_cons, setsGo, hg, if_pos rfl, setsGo_words r _ (fun f hf => h f (List.mem_cons_of_mem _ hf))]
  simp
theorem parseI_yes (hn : 1 ≤ n ∧ n ≤ 6) (hf : ∀ f ∈ fs, 1 ≤ f ∧ f ≤ 63) : parseI (B8 (textU n fs)) = endI n fs (B8 (textU n fs)) := by
 unfold parseI
 rw [B8_data, text_cut hn]
 simp only
 rw [(dig_num hn).2.1]
 simp only
 have hq : setsIn (Lib.join (fs.map word) [44]) = (fs, true) := by
  unfold setsIn
  by_cases he : fs = []
  ·subst he
   rw [if_pos ((join_empty hf).2 rfl)]
  ·rw [if_neg (fun e => he ((join_empty hf).1 e)), join_split hf he, setsGo_words fs [] hf]
   rfl
 rw [hq]
 unfold codeI
 rw [if_pos hn, if_pos rfl]

theorem read_yes (hn : 1 ≤ n ∧ n ≤ 6) (hf : ∀ f ∈ fs, 1 ≤ f ∧ f ≤ fullOf n) (h63 : fs.length ≤ 63) (s : ByteArray) : ∀ (d i k : Nat), fs.length - i = d → i ≤ fs.length → d + 80000 < k →
  spec_l01Read.l0 k s n (fs.take i) ((fs.map word).map B8) (i : Int) = some (n, madeL n fs, decide (B8 (textU n (facetsL (madeL n fs))) = s)) := by
 have hF := full_range n hn
 have hlen : ((fs.map word).map B8).length = fs.length := by rw [List.length_map, List.length_map]
 intro d
 induction d with
 | zero =>
  intro i k hd hi hk
  obtain ⟨k, rfl⟩ : ∃ m, k = m + 1 := ⟨k - 1, by omega⟩
  simp only [spec_l01Read.l0]
  obtain rfl : i = fs.length := by omega
  rw [hlen, if_neg (by omega), List.take_length, read_end n hn fs (fun x hx => by have := hf x hx; omega) (by omega) s k (by omega)]
 | succ d ih =>
  intro i k hd hi hk
  obtain ⟨k, rfl⟩ : ∃ m, k = m + 1 := ⟨k - 1, by omega⟩
  simp only [spec_l01Read.l0]
  have hil : i < fs.length := by omega
  have hx : rdOf ByteArray.empty ((fs.map word).map B8) (i : Int) = B8 (word fs[i]) := by simp [rdOf, hil]
  rw [hlen, if_pos (by omega), if_pos (by omega), hx, word_spec hn (hf _ (List.getElem_mem hil)) k (by omega)]
  simp only [Option.bind_some]
  have hw : wrap64 ((i : Int) + 1) = ((i + 1 : Nat) : Int) := by rw [w64 _ (by omega) (by omega)]; omega
  have hlt : (fs.take i).length < 17592186044416 := by rw [List.length_take]; omega
  rw [if_pos trivial, if_pos hlt, hw, ← List.take_succ_eq_append_getElem hil]
  exact ih (i + 1) k (by omega) (by omega) (by omega)
theorem specParse_yes (hn : 1 ≤ n ∧ n ≤ 6) (hf : ∀ f ∈ fs, 1 ≤ f ∧ f ≤ fullOf n) (h63 : fs.length ≤ 63) (k : Nat) (hk : 90000000 ≤ k) : spec_ParseComplex.f k (B8 (textU n fs)) = some (endI n fs (B8 (textU n fs))) := by
 have hF := full_range n hn
 have hf63 : ∀ f ∈ fs, 1 ≤ f ∧ f ≤ 63 := fun f h => by have := hf f h; omega
 have hjl := join_le fs
 have htl : (textU n fs).length ≤ 500 := by
  show (Lib.join (fs.map word) [44]).length + 1 + 1 ≤ 500
  omega
 have hsp := specSplit_is 58 (textU n fs) (by omega) k (by omega)
 rw [show ((58 : UInt8).toNat : Int) = 58 from rfl, text_split hn hf63] at hsp
 have h : spec_l01Read.f k (B8 (textU n fs)) = some (n, madeL n fs, decide (B8 (textU n (facetsL (madeL n fs))) = B8 (textU n fs))) := by
  unfold spec_l01Read.f
  rw [hsp]
  simp only [Option.bind_some]
  have e0 : rdOf ByteArray.empty ([[dig n], Lib.join (fs.map word) [44]].map B8) 0 = B8 [dig n] := rfl
  have e1 : rdOf ByteArray.empty ([[dig n], Lib.join (fs.map word) [44]].map B8) 1 = B8 (Lib.join (fs.map word) [44]) := rfl
  have e2 : ([[dig n], Lib.join (fs.map word) [44]].map B8).length = 2 := rfl
  rw [e2, if_pos (by omega), if_pos (by omega), e0, (dig_num hn).1 k (by omega)]
  simp only [Option.bind_some]
  rw [specIn_is]
  simp only [Option.bind_some]
  rw [decide_eq_true hn]
  obtain ⟨k, rfl⟩ : ∃ m, k = m + 1 := ⟨k - 1, by omega⟩
  simp only [spec_l01Read.j0, Bool.not_true, Bool.false_eq_true, if_false]
  rw [e0, (dig_num hn).1 k (by omega), e1, e2]
  simp only [Option.bind_some]
  rw [if_pos (by omega), if_pos (by omega)]
  by_cases he : fs = []
  ·have hj : Lib.join (fs.map word) [44] = [] := (join_empty hf63).2 he
   rw [if_pos (by rw [Lib.toList_data, B8_data]; exact hj)]
   have := read_end n hn [] (by simp) (by simp) (B8 (textU n fs)) k (by simp; omega)
   rw [this, he]
  ·rw [if_neg (by rw [Lib.toList_data, B8_data]; exact fun e => he ((join_empty hf63).1 e))]
   have hsp2 := specSplit_is 44 (Lib.join (fs.map word) [44]) (by omega) k (by omega)
   rw [show ((44 : UInt8).toNat : Int) = 44 from rfl, join_split hf63 he] at hsp2
   rw [hsp2]
   simp only [Option.bind_some]
   exact read_yes hn hf h63 (B8 (textU n fs)) fs.length 0 k (by omega) (by omega) (by omega)
 unfold spec_ParseComplex.f endI
 rw [h]
 simp only [Option.bind_some]
 by_cases hq : B8 (textU n (facetsL (madeL n fs))) = B8 (textU n fs)
 ·rw [if_pos (decide_eq_true hq), if_pos hq]
 ·rw [if_neg (by simpa using hq), if_neg hq]
end

theorem parse_is (s : ByteArray) (hs : s.size ≤ 1048576) (k : Nat) (hk : 90000000 ≤ k) : spec_ParseComplex.f k s = some (parseI s) := by
 by_cases h : goodT s
 ·obtain ⟨n, sets, hn, hr, rfl⟩ := h
  have hi := made_isC hn hr
  obtain ⟨_, _, hrg, h63⟩ := isC_faces hi
  have hfl := facets_len (madeL n sets)
  have hf : ∀ f ∈ facetsL (madeL n sets), 1 ≤ f ∧ f ≤ fullOf n := fun f hf => by have := hrg f (List.mem_filter.1 hf).1; omega
  have hf63 : ∀ f ∈ facetsL (madeL n sets), 1 ≤ f ∧ f ≤ 63 := fun f hf => by have := hrg f (List.mem_filter.1 hf).1; omega
  rw [specParse_yes hn hf (by omega) k hk, parseI_yes hn hf63]
 ·rw [parseI_no h]
  have := specParse_no s.data.toList (by rw [Lib.size_eq] at hs; exact hs) h k hk
  exact this
theorem endI_length (n : Int) (sets : List Int) (s : ByteArray) (hn : 1 ≤ n ∧ n ≤ 6) : (endI n sets s).2.1.length ≤ 1000000 := by
 unfold endI
 split
 ·have h1 := upTo_filter_length (fun f => sets.any (inB f)) (2 ^ n.toNat - 1)
  have h2 := full_nat n
  have hF := full_range n hn
  show ((upTo (2 ^ n.toNat - 1)).filter (fun f => sets.any (inB f))).length ≤ 1000000
  omega
 ·simp
theorem parseI_length (s : ByteArray) : (parseI s).2.1.length ≤ 1000000 := by
 unfold parseI
 split
 ·unfold codeI
  split
  ·split
   ·exact endI_length _ _ _ (by assumption)
   ·simp
  ·simp
 ·simp

end Go.Proofs.YtaeabbackmnioaaDoor.K
end

section
/- The shelf's contract of a function of the library, laid at this program. -/
namespace Go.Proofs.YtaeabbackmnioaaDoor.K
open Go.Shelf
def CutI_ren : Go.Shelf.Ren := {
 f := fun x =>
  match x with
  | 145 => 18
  | 220 => 40
  | 219 => 64
  | 217 => 86
  | 225 => 87
  | 224 => 88
  | 267 => 89
  | 266 => 108
  | 314 => 109
  | n => n,
 t := fun x =>
  match x with
  | 9 => 9
  | 4 => 4
  | 59 => 38
  | 3 => 3
  | 5 => 5
  | 46 => 84
  | 146 => 121
  | 51 => 120
  | n => n,
 g := fun x =>
  match x with
  | 1 => 0
  | n => n }
theorem CutI : Lays.n145 Tryd.prog CutI_ren := {
 mixed := by kernel_rfl,
 f145 := Tryd.func18.trans (congrArg some (by kernel_rfl)),
 f217 := Tryd.func86.trans (congrArg some (by kernel_rfl)),
 f219 := Tryd.func64.trans (congrArg some (by kernel_rfl)),
 f220 := Tryd.func40.trans (congrArg some (by kernel_rfl)),
 f224 := Tryd.func88.trans (congrArg some (by kernel_rfl)),
 f225 := Tryd.func87.trans (congrArg some (by kernel_rfl)),
 f266 := Tryd.func108.trans (congrArg some (by kernel_rfl)),
 f267 := Tryd.func89.trans (congrArg some (by kernel_rfl)),
 f314 := Tryd.func109.trans (congrArg some (by kernel_rfl)),
 t3 := Tryd.underlying3,
 a3 := Tryd.isAgg3,
 z3 := Tryd.sizeOf3,
 v3 := Tryd.zeroValue3,
 t4 := Tryd.underlying4,
 a4 := Tryd.isAgg4,
 z4 := Tryd.sizeOf4,
 v4 := Tryd.zeroValue4,
 t5 := Tryd.underlying5,
 a5 := Tryd.isAgg5,
 z5 := Tryd.sizeOf5,
 v5 := Tryd.zeroValue5,
 t9 := Tryd.underlying9,
 a9 := Tryd.isAgg9,
 z9 := Tryd.sizeOf9,
 v9 := Tryd.zeroValue9,
 t46 := Tryd.underlying84,
 a46 := Tryd.isAgg84,
 z46 := Tryd.sizeOf84,
 v46 := Tryd.zeroValue84,
 t51 := Tryd.underlying120,
 a51 := Tryd.isAgg120,
 z51 := Tryd.sizeOf120,
 v51 := Tryd.zeroValue120,
 t59 := Tryd.underlying38,
 a59 := Tryd.isAgg38,
 z59 := Tryd.sizeOf38,
 v59 := Tryd.zeroValue38,
 t146 := Tryd.underlying121,
 a146 := Tryd.isAgg121,
 z146 := Tryd.sizeOf121,
 v146 := Tryd.zeroValue121,
 g1 := by kernel_rfl }
end Go.Proofs.YtaeabbackmnioaaDoor.K
end

section
/- The shelf's contract of a function of the library, laid at this program. -/
namespace Go.Proofs.YtaeabbackmnioaaDoor.K
open Go.Shelf
def ParI_ren : Go.Shelf.Ren := {
 f := fun x =>
  match x with
  | 174 => 19
  | 247 => 41
  | 245 => 42
  | 287 => 65
  | 279 => 66
  | 280 => 67
  | 281 => 68
  | 282 => 69
  | 321 => 90
  | 322 => 91
  | 316 => 92
  | 171 => 94
  | 205 => 93
  | 243 => 110
  | 246 => 76
  | 283 => 98
  | 284 => 99
  | 285 => 100
  | 286 => 101
  | 129 => 115
  | 317 => 114
  | 318 => 116
  | 319 => 117
  | 320 => 118
  | 337 => 125
  | 338 => 126
  | n => n,
 t := fun x =>
  match x with
  | 9 => 9
  | 3 => 3
  | 2 => 2
  | 75 => 41
  | 85 => 42
  | 4 => 4
  | 167 => 81
  | 5 => 5
  | 53 => 79
  | 175 => 82
  | 46 => 84
  | 168 => 85
  | 37 => 89
  | 0 => 0
  | 210 => 105
  | 21 => 21
  | 127 => 114
  | 145 => 125
  | 143 => 123
  | 171 => 109
  | 173 => 112
  | 212 => 130
  | 51 => 120
  | 20 => 20
  | 213 => 131
  | 232 => 143
  | 233 => 144
  | 80 => 48
  | n => n,
 g := fun x =>
  match x with
  | 15 => 1
  | 16 => 2
  | 17 => 3
  | 18 => 6
  | 19 => 7
  | n => n }
theorem ParI : LaysC.n174 Tryd.prog ParI_ren := {
 mixed := by kernel_rfl,
 f129 := Tryd.func115.trans (congrArg some (by kernel_rfl)),
 f171 := Tryd.func94.trans (congrArg some (by kernel_rfl)),
 f174 := Tryd.func19.trans (congrArg some (by kernel_rfl)),
 f205 := Tryd.func93.trans (congrArg some (by kernel_rfl)),
 f243 := Tryd.func110.trans (congrArg some (by kernel_rfl)),
 f245 := Tryd.func42.trans (congrArg some (by kernel_rfl)),
 f246 := Tryd.func76.trans (congrArg some (by kernel_rfl)),
 f247 := Tryd.func41.trans (congrArg some (by kernel_rfl)),
 f279 := Tryd.func66.trans (congrArg some (by kernel_rfl)),
 f280 := Tryd.func67.trans (congrArg some (by kernel_rfl)),
 f281 := Tryd.func68.trans (congrArg some (by kernel_rfl)),
 f282 := Tryd.func69.trans (congrArg some (by kernel_rfl)),
 f283 := Tryd.func98.trans (congrArg some (by kernel_rfl)),
 f284 := Tryd.func99.trans (congrArg some (by kernel_rfl)),
 f285 := Tryd.func100.trans (congrArg some (by kernel_rfl)),
 f286 := Tryd.func101.trans (congrArg some (by kernel_rfl)),
 f287 := Tryd.func65.trans (congrArg some (by kernel_rfl)),
 f316 := Tryd.func92.trans (congrArg some (by kernel_rfl)),
 f317 := Tryd.func114.trans (congrArg some (by kernel_rfl)),
 f318 := Tryd.func116.trans (congrArg some (by kernel_rfl)),
 f319 := Tryd.func117.trans (congrArg some (by kernel_rfl)),
 f320 := Tryd.func118.trans (congrArg some (by kernel_rfl)),
 f321 := Tryd.func90.trans (congrArg some (by kernel_rfl)),
 f322 := Tryd.func91.trans (congrArg some (by kernel_rfl)),
 f337 := Tryd.func125.trans (congrArg some (by kernel_rfl)),
 f338 := Tryd.func126.trans (congrArg some (by kernel_rfl)),
 t0 := Tryd.underlying0,
 a0 := Tryd.isAgg0,
 z0 := Tryd.sizeOf0,
 v0 := Tryd.zeroValue0,
 t2 := Tryd.underlying2,
 a2 := Tryd.isAgg2,
 z2 := Tryd.sizeOf2,
 v2 := Tryd.zeroValue2,
 t3 := Tryd.underlying3,
 a3 := Tryd.isAgg3,
 z3 := Tryd.sizeOf3,
 v3 := Tryd.zeroValue3,
 t4 := Tryd.underlying4,
 a4 := Tryd.isAgg4,
 z4 := Tryd.sizeOf4,
 v4 := Tryd.zeroValue4,
 t5 := Tryd.underlying5,
 a5 := Tryd.isAgg5,
 z5 := Tryd.sizeOf5,
 v5 := Tryd.zeroValue5,
 t9 := Tryd.underlying9,
 a9 := Tryd.isAgg9,
 z9 := Tryd.sizeOf9,
 v9 := Tryd.zeroValue9,
 t20 := Tryd.underlying20,
 a20 := Tryd.isAgg20,
 z20 := Tryd.sizeOf20,
 v20 := Tryd.zeroValue20,
 t21 := Tryd.underlying21,
 a21 := Tryd.isAgg21,
 z21 := Tryd.sizeOf21,
 v21 := Tryd.zeroValue21,
 t37 := Tryd.underlying89,
 a37 := Tryd.isAgg89,
 z37 := Tryd.sizeOf89,
 v37 := Tryd.zeroValue89,
 t46 := Tryd.underlying84,
 a46 := Tryd.isAgg84,
 z46 := Tryd.sizeOf84,
 v46 := Tryd.zeroValue84,
 t51 := Tryd.underlying120,
 a51 := Tryd.isAgg120,
 z51 := Tryd.sizeOf120,
 v51 := Tryd.zeroValue120,
 t53 := Tryd.underlying79,
 a53 := Tryd.isAgg79,
 z53 := Tryd.sizeOf79,
 v53 := Tryd.zeroValue79,
 t75 := Tryd.underlying41,
 a75 := Tryd.isAgg41,
 z75 := Tryd.sizeOf41,
 v75 := Tryd.zeroValue41,
 t85 := Tryd.underlying42,
 a85 := Tryd.isAgg42,
 z85 := Tryd.sizeOf42,
 v85 := Tryd.zeroValue42,
 t127 := Tryd.underlying114,
 a127 := Tryd.isAgg114,
 z127 := Tryd.sizeOf114,
 v127 := Tryd.zeroValue114,
 t143 := Tryd.underlying123,
 a143 := Tryd.isAgg123,
 z143 := Tryd.sizeOf123,
 v143 := Tryd.zeroValue123,
 t145 := Tryd.underlying125,
 a145 := Tryd.isAgg125,
 z145 := Tryd.sizeOf125,
 v145 := Tryd.zeroValue125,
 t167 := Tryd.underlying81,
 a167 := Tryd.isAgg81,
 z167 := Tryd.sizeOf81,
 v167 := Tryd.zeroValue81,
 t168 := Tryd.underlying85,
 a168 := Tryd.isAgg85,
 z168 := Tryd.sizeOf85,
 v168 := Tryd.zeroValue85,
 t171 := Tryd.underlying109,
 a171 := Tryd.isAgg109,
 z171 := Tryd.sizeOf109,
 v171 := Tryd.zeroValue109,
 t173 := Tryd.underlying112,
 a173 := Tryd.isAgg112,
 z173 := Tryd.sizeOf112,
 v173 := Tryd.zeroValue112,
 t175 := Tryd.underlying82,
 a175 := Tryd.isAgg82,
 z175 := Tryd.sizeOf82,
 v175 := Tryd.zeroValue82,
 t210 := Tryd.underlying105,
 a210 := Tryd.isAgg105,
 z210 := Tryd.sizeOf105,
 v210 := Tryd.zeroValue105,
 t212 := Tryd.underlying130,
 a212 := Tryd.isAgg130,
 z212 := Tryd.sizeOf130,
 v212 := Tryd.zeroValue130,
 t213 := Tryd.underlying131,
 a213 := Tryd.isAgg131,
 z213 := Tryd.sizeOf131,
 t232 := Tryd.underlying143,
 a232 := Tryd.isAgg143,
 z232 := Tryd.sizeOf143,
 v232 := Tryd.zeroValue143,
 t233 := Tryd.underlying144,
 a233 := Tryd.isAgg144,
 z233 := Tryd.sizeOf144,
 v233 := Tryd.zeroValue144,
 g15 := by kernel_rfl,
 g16 := by kernel_rfl,
 g17 := by kernel_rfl,
 g18 := by kernel_rfl,
 g19 := by kernel_rfl,
 t80 := Tryd.underlying48,
 a80 := Tryd.isAgg48,
 z80 := Tryd.sizeOf48,
 v80 := Tryd.zeroValue48,
 i0 := by kernel_rfl,
 i2 := by kernel_rfl,
 i3 := by kernel_rfl,
 i4 := by kernel_rfl,
 i5 := by kernel_rfl,
 i9 := by kernel_rfl,
 i20 := by kernel_rfl,
 i21 := by kernel_rfl,
 i37 := by kernel_rfl,
 i46 := by kernel_rfl,
 i51 := by kernel_rfl,
 i53 := by kernel_rfl,
 i75 := by kernel_rfl,
 i80 := by kernel_rfl,
 i85 := by kernel_rfl,
 i127 := by kernel_rfl,
 i143 := by kernel_rfl,
 i145 := by kernel_rfl,
 i167 := by kernel_rfl,
 i168 := by kernel_rfl,
 i171 := by kernel_rfl,
 i173 := by kernel_rfl,
 i175 := by kernel_rfl,
 i210 := by kernel_rfl,
 i212 := by kernel_rfl,
 i232 := by kernel_rfl,
 i233 := by kernel_rfl,
 m15 := by kernel_rfl,
 m16 := by kernel_rfl,
 m17 := by kernel_rfl,
 m18 := by kernel_rfl,
 m19 := by kernel_rfl,
 c0 := by kernel_rfl,
 c2 := by kernel_rfl,
 c3 := by kernel_rfl,
 c4 := by kernel_rfl,
 c5 := by kernel_rfl,
 c9 := by kernel_rfl,
 c20 := by kernel_rfl,
 c21 := by kernel_rfl,
 c37 := by kernel_rfl,
 c46 := by kernel_rfl,
 c51 := by kernel_rfl,
 c53 := by kernel_rfl,
 c75 := by kernel_rfl,
 c80 := by kernel_rfl,
 c85 := by kernel_rfl,
 c127 := by kernel_rfl,
 c143 := by kernel_rfl,
 c145 := by kernel_rfl,
 c167 := by kernel_rfl,
 c168 := by kernel_rfl,
 c171 := by kernel_rfl,
 c173 := by kernel_rfl,
 c175 := by kernel_rfl,
 c210 := by kernel_rfl,
 c212 := by kernel_rfl,
 c213 := by kernel_rfl,
 c232 := by kernel_rfl,
 c233 := by kernel_rfl }
end Go.Proofs.YtaeabbackmnioaaDoor.K
end

section
/- strings.Cut at a separator of one byte; strconv.ParseInt at base 10. -/
namespace Go.Proofs.YtaeabbackmnioaaDoor.K
open Go.RowKit Go.Shelf Go.Proofs.YtaeabbackmnioaaDoorW.PrintWords Go.Proofs.YtaeabbackmnioaaDoorW.PrintLast Go.Proofs.YtaeabbackmnioaaDoorW.PrintMore
set_option linter.unusedVariables false
set_option linter.unusedSimpArgs false

theorem sIndex_calls (s : ByteArray) (c : UInt8) (w : World) :
  Calls Tryd.prog 64 #[.string s, .string ⟨#[c]⟩] w fun e w' => e = .returned (.int .i64 (Lib.indexB s ⟨#[c]⟩)) ∧ w' = w := by
 have L := CutI
 refine (Any.stringslite_Index_one { L with } s c w).mono fun e w' ⟨he, hw⟩ => ⟨?_, hw⟩
 rw [he]
 show _ = Ending.returned (Value.int .i64 (Lib.index s.data.toList [c]))
 rw [Lib.index_one]

set_option maxHeartbeats 2000000 in
set_option maxRecDepth 100000 in
theorem sCut_calls (s : ByteArray) (c : UInt8) (w : World) (hs : s.size ≤ 1000000000000) :
  Calls Tryd.prog 40 #[.string s, .string ⟨#[c]⟩] w fun e w' => e = .returned (.tuple #[.string ⟨(Lib.cut s.data.toList [c]).1.toArray⟩, .string ⟨(Lib.cut s.data.toList [c]).2.1.toArray⟩, .bool (Lib.cut s.data.toList [c]).2.2]) ∧ Grew w w' := by
 have H := Aside0.mk (sIndex_calls s c w)
 rcases Lib.indexB_cases s ⟨#[c]⟩ with hix | ⟨i, hix, hroom⟩
 ·obtain ⟨e1, e2, e3⟩ := Lib.cutB_miss s ⟨#[c]⟩ hix
  rw [show (⟨#[c]⟩ : ByteArray).data.toList = [c] from rfl] at e1 e2 e3
  rw [e1, e2, e3]
  rw [hix] at H
  clear e1 e2 e3 hix
  go_enter Tryd.func40, Tryd.ntmps40
  go_wp2_with fail
  refine H.out.mono ?_
  rintro e w1 ⟨rfl, rfl⟩
  go_wp2_with fail
  go_ret3
  exact ⟨rfl, Grew.refl _⟩
 ·obtain ⟨e1, e2, e3⟩ := Lib.cutB_hit s ⟨#[c]⟩ i hix
  rw [show (⟨#[c]⟩ : ByteArray).data.toList = [c] from rfl] at e1 e2 e3
  rw [e1, e2, e3]
  rw [hix] at H
  have hsz : (⟨#[c]⟩ : ByteArray).size = 1 := rfl
  rw [hsz] at hroom ⊢
  have c1 : (0 : Int) ≤ (i : Int) := by omega
  have c2 : (i : Int) ≤ (s.size : Int) := by omega
  have c3 : (0 : Int) ≤ (i : Int) + 1 := by omega
  have c4 : (i : Int) + 1 ≤ (s.size : Int) := by omega
  have hw : IntKind.wrap .i64 ((i : Int) + 1) = (i : Int) + 1 := by rw [IntKind.wrap_i64]; omega
  have hn : ((i : Int) + 1).toNat = i + 1 := by omega
  have mixed := CutI.mixed
  clear e1 e2 e3 hix
  go_enter Tryd.func40, Tryd.ntmps40
  go_wp2_with fail
  refine H.out.mono ?_
  rintro e w1 ⟨rfl, rfl⟩
  go_wp2_with fail
  go_region_o
  go_wp2
  go_ret3
  exact ⟨rfl, by repeat (first | exact Grew.refl _ | exact Below.refl _ _ | apply below_drew | apply pw_below_drewN)⟩

set_option maxHeartbeats 2000000 in
theorem Cut_calls (s : ByteArray) (c : UInt8) (w : World) (hs : s.size ≤ 1000000000000) :
  Calls Tryd.prog 18 #[.string s, .string ⟨#[c]⟩] w fun e w' => e = .returned (.tuple #[.string ⟨(Lib.cut s.data.toList [c]).1.toArray⟩, .string ⟨(Lib.cut s.data.toList [c]).2.1.toArray⟩, .bool (Lib.cut s.data.toList [c]).2.2]) ∧ Grew w w' := by
 have H := Aside0.mk (sCut_calls s c w hs)
 generalize (⟨(Lib.cut s.data.toList [c]).1.toArray⟩ : ByteArray) = x1 at H ⊢
 generalize (⟨(Lib.cut s.data.toList [c]).2.1.toArray⟩ : ByteArray) = x2 at H ⊢
 generalize (Lib.cut s.data.toList [c]).2.2 = x3 at H ⊢
 go_enter Tryd.func18, Tryd.ntmps18
 go_wp2_with fail
 refine H.out.mono ?_
 rintro e w1 ⟨rfl, hG1⟩
 go_wp2_with fail
 go_ret3
 exact ⟨rfl, hG1⟩

/-- The two errors of strconv lie in their variables. -/
def ErrsAt (w : World) : Prop := (∃ te pe, w.cell? ⟨ParI_ren.g 15, 0, none⟩ = some (.iface te pe)) ∧ (∃ te pe, w.cell? ⟨ParI_ren.g 16, 0, none⟩ = some (.iface te pe))
theorem ErrsAt.later {w w' : World} (h : ErrsAt w) (hg : Grew w w') : ErrsAt w' := by
 obtain ⟨⟨a, b, h1⟩, c, d, h2⟩ := h
 exact ⟨⟨a, b, (Below.cell hg (World.block_lt_of_cell? w _ h1)).trans h1⟩, c, d, (Below.cell hg (World.block_lt_of_cell? w _ h2)).trans h2⟩
theorem ParseInt_ok (s : ByteArray) (hs : s.size ≤ 281474976710656) (v : Int) (h : Lib.parseIntB 64 s.data.toList = .ok v) (w : World) :
  Calls Tryd.prog 19 #[.string s, .int .i64 10, .int .i64 64] w fun e w' => e = .returned (.tuple #[I v, .nilIface]) ∧ Grew w w' := by
 refine (Any.strconv_ParseInt_10_at64_ok ParI s (by omega) v h w).mono fun e w' ⟨he, hw⟩ => ⟨he, ?_⟩
 rcases hw with rfl | ⟨t, rfl⟩
 ·exact Grew.refl _
 ·exact Go.Joins.below_bytesWorld _ w _ t (Nat.le_refl _)
theorem ParseInt_bad (s : ByteArray) (hs : s.size ≤ 281474976710656) (h : ∀ v, Lib.parseIntB 64 s.data.toList ≠ .ok v) (w : World) (hE : ErrsAt w) :
  Calls Tryd.prog 19 #[.string s, .int .i64 10, .int .i64 64] w fun e w' => ∃ x N, e = .returned (.tuple #[I x, .iface 85 (.pointer (some ⟨N, 0, none⟩))]) ∧ Grew w w' := by
 obtain ⟨⟨a, b, h1⟩, c, d, h2⟩ := hE
 cases hp : Lib.parseIntB 64 s.data.toList
 ·exact absurd hp (h _)
 ·exact (Any.strconv_ParseInt_10_at64_syntax ParI s hs hp _ w h1 (.inr ⟨a, b, rfl⟩)).mono fun e w' ⟨N, he, _, _, hb⟩ => ⟨_, N, he, hb⟩
 ·exact (Any.strconv_ParseInt_10_at64_range ParI s hs hp _ w h2 (.inr ⟨c, d, rfl⟩)).mono fun e w' ⟨N, he, _, _, hb⟩ => ⟨_, N, he, hb⟩

end Go.Proofs.YtaeabbackmnioaaDoor.K
end

section
/- ComplexText: the program's and the reference's. -/
namespace Go.Proofs.YtaeabbackmnioaaDoor.K
open Go.RowKit Go.Shelf Go.Proofs.YtaeabbackmnioaaDoor.Q Go.Proofs.YtaeabbackmnioaaDoor.X Go.Proofs.YtaeabbackmnioaaDoor.D Go.Proofs.YtaeabbackmnioaaDoorW.PrintWords Go.Proofs.YtaeabbackmnioaaDoorW.PrintLast Go.Proofs.YtaeabbackmnioaaDoorW.PrintMore
set_option linter.unusedVariables false
set_option linter.unusedSimpArgs false

theorem text_calls {n : Int} {l : List Int} (hi : isC n l = true) (A : Option Addr) (c : Nat) (w : World) (hk : Kx w A c l) :
  Calls Tryd.prog 23 #[.agg #[I n, .slice A l.length c]] w fun e w' => e = .returned (.string (B8 (textU n (facetsL l)))) ∧ Grew w w' :=
 impl_Complex_text.calls 1400 n A c l _ w hk.r hk.c (textI_is hi 1400 (Nat.le_refl _))
end Go.Proofs.YtaeabbackmnioaaDoor.K
end

section
/- strings.Split, setOf, madeBy in the form that the printed texts take. -/
namespace Go.Proofs.YtaeabbackmnioaaDoor.X
open Go.RowKit Go.Shelf Go.Proofs.YtaeabbackmnioaaDoor.K Go.Proofs.YtaeabbackmnioaaDoorW.PrintWords Go.Proofs.YtaeabbackmnioaaDoorW.PrintLast Go.Proofs.YtaeabbackmnioaaDoorW.PrintMore
set_option linter.unusedVariables false
set_option linter.unusedSimpArgs false

def strings_Split.f (a0 : ByteArray) (a1 : ByteArray) : Option (List ByteArray) := if a0.size ≤ 4000000000 ∧ a1 = (⟨#[44]⟩ : ByteArray) then some (piecesB 44 a0) else none
theorem strings_Split.calls (a0 : ByteArray) (a1 : ByteArray) (r : List ByteArray) (w : World) (h : strings_Split.f a0 a1 = some r) :
  Calls Tryd.prog 44 #[.string a0, .string a1] w fun e w' => ∃ v0_ : Value, e = .returned (v0_) ∧ Kd.R Kd.string 9 w' w.heap.size (fun _ => True) v0_ r ∧ Below w.heap.size w w' := by
 unfold strings_Split.f at h
 by_cases hl : a0.size ≤ 4000000000 ∧ a1 = (⟨#[44]⟩ : ByteArray)
 ·rw [if_pos hl] at h
  injection h with h
  subst h
  obtain ⟨h1, rfl⟩ := hl
  exact Split_calls a0 44 w (by omega)
 ·rw [if_neg hl] at h
  cases h
def impl_setOf.f (a0 : ByteArray) : Option (Int × Bool) := if a0.size ≤ 1000000000000 then some (setB a0) else none
theorem impl_setOf.calls (a0 : ByteArray) (r1 : Int) (r2 : Bool) (w : World) (h : impl_setOf.f a0 = some (r1, r2)) :
  Calls Tryd.prog 45 #[.string a0] w fun e w' => e = .returned (.tuple #[.int .i64 r1, .bool r2]) ∧ Below w.heap.size w w' := by
 unfold impl_setOf.f at h
 by_cases hl : a0.size ≤ 1000000000000
 ·rw [if_pos hl] at h
  injection h with h
  have := setOf_calls a0 w hl
  rw [h] at this
  exact this
 ·rw [if_neg hl] at h
  cases h
end Go.Proofs.YtaeabbackmnioaaDoor.X
end

section
/- Written by a program of this session (myprint.py over the kit's print). -/
namespace Go.Proofs.YtaeabbackmnioaaDoor.C
open Go.RowKit Go.Proofs.YtaeabbackmnioaaDoor.Q Go.Proofs.YtaeabbackmnioaaDoor.X Go.Proofs.YtaeabbackmnioaaDoorW.PrintWords Go.Proofs.YtaeabbackmnioaaDoorW.PrintLast Go.Proofs.YtaeabbackmnioaaDoorW.PrintMore
attribute [local go_sem] max2_int min2_int max_two min_two max_three min_three max_four min_four   -- for this text's walks alone
set_option linter.unusedVariables false
set_option linter.unusedSimpArgs false



/-! ### impl_setsOf: function 21 -/
def impl_setsOf.l0 : Nat → List Int → List ByteArray → Int → Int → Option (List Int × Bool)
 | 0, _, _, _, _ => none
 | k + 1, x4, x10, x11, x12 => if x12 < x11 then (if 0 ≤ x12 then (if x12 < (x10.length : Int) then ((impl_setOf.f (rdOf ByteArray.empty x10 x12)).bind fun bt105 => (if bt105.2 = true then (if x4.length < 17592186044416 then (impl_setsOf.l0 k (x4 ++ [bt105.1]) x10 x11 (wrap64 (x12 + 1))) else (none)) else (some (([] : List Int), false)))) else (none)) else (none)) else (some (x4, true))
def impl_setsOf.f (k : Nat) (a0 : ByteArray) : Option (List Int × Bool) := (strings_Split.f a0 (⟨#[44]⟩ : ByteArray)).bind fun t101 => (impl_setsOf.l0 k ([] : List Int) t101 (t101.length : Int) 0)
theorem impl_setsOf.mono_l : ∀ k, (∀ y0 y1 y2 y3, LeO (impl_setsOf.l0 k y0 y1 y2 y3) (impl_setsOf.l0 (k + 1) y0 y1 y2 y3))
 | 0 => fun _ _ _ _ r h => by simp [impl_setsOf.l0] at h
 | k + 1 => by
  have ih0 := impl_setsOf.mono_l k
  ·intro y0 y1 y2 y3
   unfold impl_setsOf.l0
   repeat' first
   | (with_reducible exact ih0 _ _ _ _)
   | (with_reducible exact LeO.refl _)
   | (with_reducible exact LeO.none _)
   | (with_reducible refine LeO.ite ?_ ?_)
   | (with_reducible refine LeO.bind ?_ (fun _ => ?_))
   | exact ih0 _ _ _ _
   | exact LeO.none _
   | refine LeO.ite ?_ ?_
   | refine LeO.bind ?_ (fun _ => ?_)
theorem impl_setsOf.mono : ∀ a0 k, LeO (impl_setsOf.f k a0) (impl_setsOf.f (k + 1) a0) := by
 intro a0 k
 have ih0 := impl_setsOf.mono_l k
 unfold impl_setsOf.f
 repeat' first
   | (with_reducible exact ih0 _ _ _ _)
   | (with_reducible exact LeO.refl _)
   | (with_reducible exact LeO.none _)
   | (with_reducible refine LeO.ite ?_ ?_)
   | (with_reducible refine LeO.bind ?_ (fun _ => ?_))
   | exact ih0 _ _ _ _
   | exact LeO.none _
   | refine LeO.ite ?_ ?_
   | refine LeO.bind ?_ (fun _ => ?_)
set_option maxHeartbeats 8000000 in
set_option maxRecDepth 100000 in
theorem impl_setsOf.calls (k : Nat) (a0 : ByteArray) (r1 : List Int) (r2 : Bool) (w : World) (h : impl_setsOf.f k a0 = some (r1, r2)) :
  Calls Tryd.prog 21 #[.string a0] w fun e w' => ∃ v0_ : Value, e = .returned (.tuple #[v0_, .bool r2]) ∧ Kd.R (Kd.int .i64) 2 w' w.heap.size (fun _ => True) v0_ r1 ∧ Below w.heap.size w w' := by
 have HB := Aside0.mk (Below.refl w.heap.size w)
 have H : ((strings_Split.f a0 (⟨#[44]⟩ : ByteArray)).bind fun t101 => (impl_setsOf.l0 k ([] : List Int) t101 (t101.length : Int) 0)) = some (r1, r2) := h
 clear h
 replace H := Option.bind_eq_some_iff.mp H
 obtain ⟨t101, A20, H⟩ := H
 replace H : (impl_setsOf.l0 k ([] : List Int) t101 (t101.length : Int) 0) = some (r1, r2) := H
 have A2 := Aside0.mk A20
 clear A20
 have H' := Aside0.mk H
 clear H
 go_enter Tryd.func21, Tryd.ntmps21
 go_wp2_with (first | ((with_reducible refine gate_callee (f := 44) rfl ?_); refine goesL_ (some 10) rfl rfl Tryd.func44 (by kernel_rfl) rfl #[.string a0, .string (⟨#[44]⟩ : ByteArray)] rfl (by (try simp only [List.map_toArray, List.map_cons, List.map_nil]); first | done | rfl | (simp only [List.length_drop, List.length_take]; rfl)) ?_; (with_reducible refine (strings_Split.calls a0 (⟨#[44]⟩ : ByteArray) t101 _ A2.out).mono ?_); rintro e w3 ⟨v102, rfl, ho0, hb⟩; refine ⟨_, rfl, ?_⟩; have n0_ := Aside0.mk (Kd.R_lower ho0 (below_size (by repeat (first | (with_reducible first | exact HB.out | apply below_alloc | apply pw_below_drewN | apply below_drew1) | exact HB.out)))); have n1_ := Aside0.mk (below_step (by repeat (first | (with_reducible first | exact HB.out | apply below_alloc | apply pw_below_drewN | apply below_drew1) | exact HB.out)) hb); clear HB; have HO103 := n0_; have HB := n1_; clear n0_ n1_; (try clear hb); (try clear hb2); (try clear hk); (try clear hi); (try clear ho0); obtain ⟨Ao4, co4, eo4⟩ := Kd.R_slice HO103.out; subst eo4))
 go_loopg [4, 12] k (fun kq v4 v12 w' => ∃ (x4_1 : List Int) (x12_1 : Int), v12 = .int .i64 x12_1 ∧ Aside0 (impl_setsOf.l0 kq x4_1 t101 (t101.length : Int) x12_1 = some (r1, r2)) ∧ Aside0 (kq ≤ k) ∧ Aside0 (Kd.R (Kd.int .i64) 2 w' w.heap.size (fun _ => True) v4 x4_1) ∧ Aside0 (Kd.R Kd.string 9 w' w.heap.size (fun _ => True) (.slice Ao4 t101.length co4) t101) ∧ Aside0 (Below w.heap.size w w'))
 case atStart => exact ⟨(([] : List Int)), (0), (by first | rfl | (simp; done) | (simp [*]; done)), H', ⟨Nat.le_refl _⟩, ⟨by first | exact Kd.R_nil _ _ _ _ _ | exact Kd.N_nil _ _ _ _ _ | exact Kd.V_nil _ _ _ _ _ | exact Kd.Q_nil _ _ _ _ _ | exact Kd.S_nil _ _ _ _ _⟩, ⟨by (with_reducible repeat (first | apply Kd.R_alloc | apply Kd.R_drewN | apply Kd.R_drew)); exact HO103.out⟩, ⟨by repeat (first | (with_reducible first | exact HB.out | apply below_alloc | apply pw_below_drewN | apply below_drew1) | exact HB.out)⟩⟩
 case round =>
  clear H'
  try clear c2
  try clear p2
  try clear c4
  obtain ⟨x4_1, x12_1, rfl, HA, HK1, HO_4, HO_10, HB⟩ := hrel
  cases gk with
  | zero => exact absurd HA.out (by simp [impl_setsOf.l0])
  | succ k1 =>
   have H := HA.out
   clear HA
   simp only [impl_setsOf.l0] at H
   by_cases c5 : x12_1 < (t101.length : Int)
   ·rw [if_pos c5] at H
    have c5b0 : decide (x12_1 < (t101.length : Int)) = true := decide_eq_true c5
    clear c5
    by_cases c6 : 0 ≤ x12_1
    ·rw [if_pos c6] at H
     have c6b0 : decide (0 ≤ x12_1) = true := decide_eq_true c6
     clear c6
     by_cases c7 : x12_1 < (t101.length : Int)
     ·rw [if_pos c7] at H
      have c7b0 : decide (x12_1 < (t101.length : Int)) = true := decide_eq_true c7
      clear c7
      replace H := Option.bind_eq_some_iff.mp H
      obtain ⟨⟨t105, t106⟩, A80, H⟩ := H
      replace H : (if t106 = true then (if x4_1.length < 17592186044416 then (impl_setsOf.l0 k1 (x4_1 ++ [t105]) t101 (t101.length : Int) (wrap64 (x12_1 + 1))) else (none)) else (some (([] : List Int), false))) = some (r1, r2) := H
      have A8 := Aside0.mk A80
      clear A80
      by_cases c9 : t106 = true
      ·subst c9
       have H1 : (if x4_1.length < 17592186044416 then (impl_setsOf.l0 k1 (x4_1 ++ [t105]) t101 (t101.length : Int) (wrap64 (x12_1 + 1))) else (none)) = some (r1, r2) := by rw [if_pos rfl] at H; exact H
       clear H
       have H := H1
       clear H1
       by_cases c10 : x4_1.length < 17592186044416
       ·rw [if_pos c10] at H
        have LMc10 := Aside0.mk c10
        clear c10
        obtain ⟨y107, hy107⟩ : ∃ y_ : List Int, y_ = (x4_1 ++ [t105]) := ⟨_, rfl⟩
        replace H : (impl_setsOf.l0 k1 y107 t101 (t101.length : Int) (wrap64 (x12_1 + 1))) = some (r1, r2) := by first | (rw [hy107]; with_reducible exact H) | (have H2_ := (Option.bind_some _ _).symm.trans H; rw [hy107]; with_reducible exact H2_) | (have H2_ := (Option.bind_some _ _).symm.trans H; with_reducible exact H2_) | with_reducible exact H | (rw [hy107]; exact H) | exact H
        have Ny107 := Aside0.mk hy107
        clear hy107
        have H' := Aside0.mk H
        clear H
        have p104 : 0 ≤ (x12_1 : Int) := of_decide_eq_true (by first | (with_reducible assumption) | assumption)
        have q104 : x12_1 < (t101.length : Int) := of_decide_eq_true (by first | (with_reducible assumption) | assumption)
        obtain ⟨ad104, e104, hx104_0⟩ := Kd.at_string (Kd.R_reads' HO_10.out).2.2 x12_1 p104 q104
        cases e104
        replace p104 := eq_true p104
        replace q104 := eq_true q104
        go_wp2_with (first | ((with_reducible refine gate_callee (f := 45) rfl ?_); refine goesL_ (some 18) rfl rfl Tryd.func45 (by kernel_rfl) rfl #[.string (rdOf ByteArray.empty t101 x12_1)] rfl (by (try simp only [List.map_toArray, List.map_cons, List.map_nil]); first | done | rfl | (simp only [List.length_drop, List.length_take]; rfl)) ?_; (with_reducible refine (impl_setOf.calls (rdOf ByteArray.empty t101 x12_1) t105 true _ A8.out).mono ?_); rintro e w11 ⟨rfl, hb⟩; refine ⟨_, rfl, ?_⟩; have n0_ := Aside0.mk (Kd.R_below (by (with_reducible repeat (first | apply Kd.R_alloc | apply Kd.R_drewN | apply Kd.R_drew)); exact HO_4.out) hb); have n1_ := Aside0.mk (Kd.R_below (by (with_reducible repeat (first | apply Kd.R_alloc | apply Kd.R_drewN | apply Kd.R_drew)); exact HO_10.out) hb); have n2_ := Aside0.mk (below_step (by repeat (first | (with_reducible first | exact HB.out | apply below_alloc | apply pw_below_drewN | apply below_drew1) | exact HB.out)) hb); clear HO_4; clear HO_10; clear HB; have HO_4 := n0_; have HO_10 := n1_; have HB := n2_; clear n0_ n1_ n2_; (try clear hb); (try clear hb2); (try clear hk); (try clear hi)) | ((with_reducible refine gate_builtin (b := .append) (xs := #[.tmp 23, .tmp 25]) rfl ?_); at_builtin; refine Kd.R_append (Kd.int .i64) (w0 := w) w.heap.size rfl (.tmp 23) (.tmp 25) 22 2 (.int .i64 0) 8 rfl Tryd.underlying22 info2 rfl (by decide) (by omega) u4 x4_1 t105 [.int .i64 t105] (fun _ => True) (fun _ => False) rfl rfl ?aP (fun _ hk => hk.elim) ?aF ?aO ?aB ?aS ?aL ?_; (case aP => exact rfl); (case aB => exact (by repeat (first | (with_reducible first | exact HB.out | apply below_alloc | apply pw_below_drewN | apply below_drew1) | exact HB.out))); (case aF => exact (fun _ _ => trivial)); (case aO => exact (by (with_reducible repeat (first | apply Kd.R_alloc | apply Kd.R_drewN | apply Kd.R_drew)); exact HO_4.out)); (case aS => exact (below_size (by repeat (first | (with_reducible first | exact HB.out | apply below_alloc | apply pw_below_drewN | apply below_drew1) | exact HB.out)))); (case aL => have := LMc10.out; omega); intro v108 w12 ho hb hg hat; rw [← Ny107.out] at ho; have n0_ := Aside0.mk (Kd.R_over' (by (with_reducible repeat (first | apply Kd.R_alloc | apply Kd.R_drewN | apply Kd.R_drew)); exact HO_10.out) (Kd.R_typed (by (with_reducible repeat (first | apply Kd.R_alloc | apply Kd.R_drewN | apply Kd.R_drew)); exact HO_4.out)) (by decide) hg); have n1_ := Aside0.mk (hb); have n2_ := Aside0.mk (ho); clear HO_10; clear HB; clear HO_4; have HO_10 := n0_; have HB := n1_; have HO109 := n2_; clear n0_ n1_ n2_; clear ho hb hg hat))
        go_roundg k1
        case measure => have := HK1.out; omega
        case rel => exact ⟨(y107), (wrap64 (x12_1 + 1)), (by first | rfl | (simp; done) | (simp [*]; done)), H', ⟨by have := HK1.out; omega⟩, ⟨by (with_reducible repeat (first | apply Kd.R_alloc | apply Kd.R_drewN | apply Kd.R_drew)); exact HO109.out⟩, ⟨by (with_reducible repeat (first | apply Kd.R_alloc | apply Kd.R_drewN | apply Kd.R_drew)); exact HO_10.out⟩, ⟨by repeat (first | (with_reducible first | exact HB.out | apply below_alloc | apply pw_below_drewN | apply below_drew1) | exact HB.out)⟩⟩
       ·rw [if_neg c10] at H
        exact absurd H (by simp)
      ·replace c9 := Bool.eq_false_iff.mpr c9
       subst c9
       have H1 : (some (([] : List Int), false)) = some (r1, r2) := by rw [if_neg (show ¬ (false = true) by decide)] at H; exact H
       clear H
       have H := H1
       clear H1
       simp only [Option.some.injEq, Prod.mk.injEq] at H
       obtain ⟨rfl, rfl⟩ := H
       have p104 : 0 ≤ (x12_1 : Int) := of_decide_eq_true (by first | (with_reducible assumption) | assumption)
       have q104 : x12_1 < (t101.length : Int) := of_decide_eq_true (by first | (with_reducible assumption) | assumption)
       obtain ⟨ad104, e104, hx104_0⟩ := Kd.at_string (Kd.R_reads' HO_10.out).2.2 x12_1 p104 q104
       cases e104
       replace p104 := eq_true p104
       replace q104 := eq_true q104
       go_wp2_with (first | ((with_reducible refine gate_callee (f := 45) rfl ?_); refine goesL_ (some 18) rfl rfl Tryd.func45 (by kernel_rfl) rfl #[.string (rdOf ByteArray.empty t101 x12_1)] rfl (by (try simp only [List.map_toArray, List.map_cons, List.map_nil]); first | done | rfl | (simp only [List.length_drop, List.length_take]; rfl)) ?_; (with_reducible refine (impl_setOf.calls (rdOf ByteArray.empty t101 x12_1) t105 false _ A8.out).mono ?_); rintro e w13 ⟨rfl, hb⟩; refine ⟨_, rfl, ?_⟩; have n0_ := Aside0.mk (Kd.R_below (by (with_reducible repeat (first | apply Kd.R_alloc | apply Kd.R_drewN | apply Kd.R_drew)); exact HO_4.out) hb); have n1_ := Aside0.mk (Kd.R_below (by (with_reducible repeat (first | apply Kd.R_alloc | apply Kd.R_drewN | apply Kd.R_drew)); exact HO_10.out) hb); have n2_ := Aside0.mk (below_step (by repeat (first | (with_reducible first | exact HB.out | apply below_alloc | apply pw_below_drewN | apply below_drew1) | exact HB.out)) hb); clear HO_4; clear HO_10; clear HB; have HO_4 := n0_; have HO_10 := n1_; have HB := n2_; clear n0_ n1_ n2_; (try clear hb); (try clear hb2); (try clear hk); (try clear hi)))
       go_ret2
       exact ⟨_, by first | rfl | (simp [errW_none, errW_some] <;> rfl) | (simp [*, errW_none, errW_some] <;> rfl), by first | exact Kd.R_nil _ _ _ _ _ | exact Kd.N_nil _ _ _ _ _ | exact Kd.V_nil _ _ _ _ _ | exact Kd.Q_nil _ _ _ _ _ | exact Kd.S_nil _ _ _ _ _, by repeat (first | (with_reducible first | exact HB.out | apply below_alloc | apply pw_below_drewN | apply below_drew1) | exact HB.out)⟩
     ·rw [if_neg c7] at H
      exact absurd H (by simp)
    ·rw [if_neg c6] at H
     exact absurd H (by simp)
   ·rw [if_neg c5] at H
    have c5b0 : decide (x12_1 < (t101.length : Int)) = false := decide_eq_false c5
    clear c5
    simp only [Option.some.injEq, Prod.mk.injEq] at H
    obtain ⟨rfl, rfl⟩ := H
    go_wp2
    go_ret2
    exact ⟨_, by first | rfl | (simp [errW_none, errW_some] <;> rfl) | (simp [*, errW_none, errW_some] <;> rfl), by (with_reducible repeat (first | apply Kd.R_alloc | apply Kd.R_drewN | apply Kd.R_drew)); exact HO_4.out, by repeat (first | (with_reducible first | exact HB.out | apply below_alloc | apply pw_below_drewN | apply below_drew1) | exact HB.out)⟩



/-! ### impl_NamedComplex: function 12 -/
end Go.Proofs.YtaeabbackmnioaaDoor.C
end

section
/- ParseComplex: the program's. -/
namespace Go.Proofs.YtaeabbackmnioaaDoor.K
open Go.RowKit Go.Shelf Go.Proofs.YtaeabbackmnioaaDoor.Q Go.Proofs.YtaeabbackmnioaaDoor.X Go.Proofs.YtaeabbackmnioaaDoor.C Go.Proofs.YtaeabbackmnioaaDoorW.PrintWords Go.Proofs.YtaeabbackmnioaaDoorW.PrintLast Go.Proofs.YtaeabbackmnioaaDoorW.PrintMore
set_option linter.unusedVariables false
set_option linter.unusedSimpArgs false

theorem cut_le (l sep : List UInt8) : (Lib.cut l sep).1.length ≤ l.length ∧ (Lib.cut l sep).2.1.length ≤ l.length := by
 unfold Lib.cut
 split
 ·simp only [List.length_take, List.length_drop]; omega
 ·simp
/-- The sets of a text: what setsOf's print comes to. -/
theorem setsOf_loop (ps : List (List UInt8)) (hp : ps.length ≤ 2000000) (hl : ∀ x ∈ ps, x.length ≤ 1000000000) : ∀ (d i k : Nat) (acc : List Int), ps.length - i = d → i ≤ ps.length → acc.length ≤ i → d < k →
  impl_setsOf.l0 k acc (ps.map B8) ((ps.map B8).length : Int) (i : Int) = some (setsGo (ps.drop i) acc) := by
 have hlen : (ps.map B8).length = ps.length := List.length_map _
 intro d
 induction d with
 | zero =>
  intro i k acc hd hi ha hk
  obtain ⟨k, rfl⟩ : ∃ m, k = m + 1 := ⟨k - 1, by omega⟩
  simp only [impl_setsOf.l0]
  obtain rfl : i = ps.length := by omega
  rw [hlen, if_neg (by omega), List.drop_length]
  rfl
 | succ d ih =>
  intro i k acc hd hi ha hk
  obtain ⟨k, rfl⟩ : ∃ m, k = m + 1 := ⟨k - 1, by omega⟩
  simp only [impl_setsOf.l0]
  have hil : i < ps.length := by omega
  have hx : rdOf ByteArray.empty (ps.map B8) (i : Int) = B8 ps[i] := by simp [rdOf, hil]
  have hset : impl_setOf.f (B8 ps[i]) = some (setGo ps[i] 0) := by
   unfold impl_setOf.f
   rw [if_pos (by rw [B8_size]; have := hl _ (List.getElem_mem hil); omega)]
   rfl
  have hw : wrap64 ((i : Int) + 1) = ((i + 1 : Nat) : Int) := by rw [w64 _ (by omega) (by omega)]; omega
  have HI := ih (i + 1) k (acc ++ [(setGo ps[i] 0).1]) (by omega) (by omega) (by simp; omega) (by omega)
  rw [hlen] at HI ⊢
  rw [if_pos (by omega), if_pos (by omega), if_pos (by omega), hx, hset, List.drop_eq_getElem_cons hil, setsGo]
  simp only [Option.bind_some]
  split
  ·rw [if_pos (by omega), hw]
   exact HI
  ·rfl
theorem setsOf_is (l : List UInt8) (hl : l.length ≤ 1048576) (k : Nat) (hk : 1048580 ≤ k) : impl_setsOf.f k (B8 l) = some (setsGo (splitL 44 l) []) := by
 have h1 := splitL_length 44 l
 have h2 : strings_Split.f (B8 l) (⟨#[44]⟩ : ByteArray) = some ((splitL 44 l).map B8) := by
  unfold strings_Split.f
  rw [if_pos ⟨by rw [B8_size]; omega, rfl⟩, pieces_is]
  rfl
 unfold impl_setsOf.f
 rw [h2]
 simp only [Option.bind_some]
 exact setsOf_loop (splitL 44 l) (by omega) (fun x hx => by have := splitL_piece 44 l x hx; omega) (splitL 44 l).length 0 k [] (by omega) (by omega) (by simp) (by omega)

set_option maxRecDepth 100000 in
set_option maxHeartbeats 8000000 in
theorem ParseComplex_calls (s : ByteArray) (w : World) (hs : s.size ≤ 1048576) (hE : ErrsAt w) :
  Calls Tryd.prog 7 #[.string s] w fun e w' => ∃ v, e = .returned (.tuple #[.agg #[I (parseI s).1, v], I (parseI s).2.2]) ∧ Ki.R 2 w' w.heap.size (fun _ => True) v (parseI s).2.1 ∧ Grew w w' := by
 have hcl := cut_le s.data.toList [58]
 have hsl : s.data.toList.length = s.size := by rw [Lib.size_eq]
 rw [hsl] at hcl
 have HCut := Aside0.mk (Cut_calls s 58 (w.alloc (.cells #[I 0, .slice none 0 0] 24)) (by omega))
 have HG0 : Aside0 (Grew w (w.alloc (.cells #[I 0, .slice none 0 0] 24))) := ⟨below_alloc (Grew.refl w) _⟩
 have HB0 : Aside0 (CB (w.alloc (.cells #[I 0, .slice none 0 0] 24)) w.heap.size 0 (.slice none 0 0)) := ⟨blk_new w _⟩
 have HP0 : Aside0 (parseI s = match Lib.parseIntB 64 (Lib.cut s.data.toList [58]).1 with
  | .ok n => codeI n (setsIn (Lib.cut s.data.toList [58]).2.1) s
  | _ => (0, [], 6)) := ⟨rfl⟩
 have HEE := Aside0.mk hE
 have HSL := Aside0.mk hs
 clear hE hsl hs
 generalize (Lib.cut s.data.toList [58]).2.2 = x3 at HCut
 obtain ⟨x1, hx1⟩ : ∃ x1 : ByteArray, x1 = ⟨(Lib.cut s.data.toList [58]).1.toArray⟩ := ⟨_, rfl⟩
 obtain ⟨x2, hx2⟩ : ∃ x2 : ByteArray, x2 = ⟨(Lib.cut s.data.toList [58]).2.1.toArray⟩ := ⟨_, rfl⟩
 have hd1 : (Lib.cut s.data.toList [58]).1 = x1.data.toList := by rw [hx1]
 have hd2 : (Lib.cut s.data.toList [58]).2.1 = x2.data.toList := by rw [hx2]
 rw [← hx1, ← hx2] at HCut
 rw [hd1, hd2] at HP0 hcl
 clear hx1 hx2 hd1 hd2
 have hz1 : x1.size ≤ 1048576 := by rw [Lib.size_eq]; have := HSL.out; omega
 have HL2 : Aside0 (x2.data.toList.length ≤ 1048576) := ⟨by have := HSL.out; omega⟩
 clear hcl
 by_cases hok : ∃ v, Lib.parseIntB 64 x1.data.toList = .ok v
 ·obtain ⟨n, hn0⟩ := hok
  rw [hn0] at HP0
  have HPI := Aside0.mk (fun W => ParseInt_ok x1 (by omega) n hn0 W)
  clear hn0 hz1
  by_cases hn : 1 ≤ n ∧ n ≤ 6
  ·have HSZ := Aside0.mk (fun W => isSize_calls n true (decide_eq_true hn) W)
   have HS0 : Aside0 (parseI s = if (setsIn x2.data.toList).2 = true then endI n (setsIn x2.data.toList).1 s else (0, [], 6)) := ⟨by rw [HP0.out]; show codeI n _ s = _; unfold codeI; rw [if_pos hn]⟩
   clear HP0
   go_enter Tryd.func7, Tryd.ntmps7
   go_wp2_with fail
   refine HCut.out.mono ?_
   rintro e w1 ⟨rfl, hG1⟩
   have HG1 := Aside0.mk (Grew.trans HG0.out hG1)
   have HB1 : Aside0 (CB w1 w.heap.size 0 (.slice none 0 0)) := ⟨blk_below HB0.out hG1⟩
   clear hG1
   go_wp2_with fail
   refine (HPI.out w1).mono ?_
   rintro e w2 ⟨rfl, hG2⟩
   have HG2 := Aside0.mk (Grew.trans HG1.out hG2)
   have HB2 : Aside0 (CB w2 w.heap.size 0 (.slice none 0 0)) := ⟨blk_below HB1.out hG2⟩
   clear hG2
   go_wp2_with fail
   refine (HSZ.out _).mono ?_
   rintro e w3 ⟨rfl, hG3⟩
   have HG3 := Aside0.mk (Grew.trans HG2.out hG3)
   have HB3 : Aside0 (CB w3 w.heap.size 0 (.slice none 0 0)) := ⟨blk_below HB2.out hG3⟩
   clear hG3
   by_cases hx : x2.data.toList = []
   ·have hb : x2.toList.isEmpty = true := by rw [Lib.toList_data, hx]; rfl
    have HS : Aside0 (parseI s = endI n [] s) := ⟨by rw [HS0.out, setsIn, if_pos hx, if_pos rfl]⟩
    have HIS := Aside0.mk (made_isC hn (sets := []) (by simp))
    clear HS0 hx
    go_wp2_with fail
    refine (madeBy_calls n (by omega) none 0 [] w3 (Kd.C_nil _ _) (Nat.le_refl _)).mono ?_
    rintro e w4 ⟨v4, rfl, hR4, hG4⟩
    obtain ⟨A4, c4, rfl⟩ := Kd.R_slice hR4
    have HR4 := Aside0.mk hR4
    have HG4 := Aside0.mk (Grew.trans HG3.out hG4)
    have HB4 : Aside0 (CB w4 w.heap.size 0 (.slice none 0 0)) := ⟨blk_below HB3.out hG4⟩
    clear hR4
    clear hG4
    have hgm : Grew w4 (w4.alloc (.cells #[I n, .slice A4 (madeL n []).length c4] 24)) := below_alloc (Grew.refl w4) _
    have HM := Aside0.mk (show CB (w4.alloc (.cells #[I n, .slice A4 (madeL n []).length c4] 24)) w4.heap.size n (.slice A4 (madeL n []).length c4) from blk_new w4 _)
    have hml : (madeL n []).length ≤ 1000000 := by have := (isC_faces HIS.out).2.2.2; omega
    have hcr := Kd.R_reads HR4.out
    obtain ⟨Aq, cq, heq, hqc, hqr⟩ := hcr
    simp only [Value.slice.injEq, true_and] at heq
    obtain ⟨rfl, rfl⟩ := heq
    have H5 := Aside0.mk (text_calls HIS.out A4 c4 (w4.alloc (.cells #[I n, .slice A4 (madeL n []).length c4] 24)) ⟨Kd.C_below hqr hgm, hqc, by omega⟩)
    have HGM := Aside0.mk hgm
    have HML := Aside0.mk hml
    have q0 := HM.out.c0
    have q1 := HM.out.c1
    obtain ⟨T, hT⟩ : ∃ T, T = B8 (textU n (facetsL (madeL n []))) := ⟨_, rfl⟩
    rw [← hT] at H5
    have HT := Aside0.mk hT
    clear hqr hqc hgm hml hT
    go_wp2_with fail
    clear q0 q1
    refine H5.out.mono ?_
    rintro e w5 ⟨rfl, hG5⟩
    have hGm := Grew.trans HGM.out hG5
    have HG5 := Aside0.mk (Grew.trans HG4.out hGm)
    have HB5 : Aside0 (CB w5 w.heap.size 0 (.slice none 0 0)) := ⟨blk_below HB4.out hGm⟩
    have HM2 : Aside0 (CB w5 w4.heap.size n (.slice A4 (madeL n []).length c4)) := ⟨blk_below HM.out hG5⟩
    have HR5 : Aside0 (Ki.R 2 w5 w3.heap.size (fun _ => True) (.slice A4 (madeL n []).length c4) (madeL n [])) := ⟨Kd.R_below HR4.out hGm⟩
    have hsz := HG3.out.size
    clear hG5 hGm
    have k0 := (show CB w5 w.heap.size 0 (.slice none 0 0) from HB5.out).c0
    have k1 := (show CB w5 w.heap.size 0 (.slice none 0 0) from HB5.out).c1
    have f0 := blk_frozen HB5.out 0
    have f1 := blk_frozen HB5.out 1
    have q0 := HM2.out.c0
    have q1 := HM2.out.c1
    by_cases hq : T = s
    ·have HV : Aside0 (parseI s = (n, madeL n [], 0)) := ⟨by rw [HS.out]; unfold endI; rw [if_pos (HT.out.symm.trans hq)]⟩
     subst hq
     have hb0 : (T.toList != T.toList) = false := bne_eq_false_iff_eq.mpr rfl
     have hlt : w.heap.size < w4.heap.size := Nat.lt_of_lt_of_le (blk_lt HB4.out) (Nat.le_refl _)
     clear HS HT
     go_wp2_with fail
     refine bodyPost_ret (results_ct rfl _ _ w.heap.size 24 #[I n, _] (0, 0) _ rfl (show CB w5 w.heap.size 0 (.slice none 0 0) from HB5.out).set Tryd.underlying24 rfl (by kernel_rfl)) rfl ?_
     rw [HV.out]
     exact ⟨_, rfl, Kd.R_lower (Ri.setCB2 HR5.out HB5.out) (by omega), below_set (below_set HG5.out (Nat.le_refl _)) (Nat.le_refl _)⟩
    ·have HV : Aside0 (parseI s = (0, [], 6)) := ⟨by rw [HS.out]; unfold endI; rw [if_neg (fun e => hq (HT.out.trans e))]⟩
     have hb0 : (T.toList != s.toList) = true := bne_iff_ne.2 (fun e => hq (by rw [Lib.toList_data, Lib.toList_data] at e; rw [← B8_of T, ← B8_of s, e]))
     have hb1 : (T.toList == s.toList) = false := by rw [bne_eq] at hb0 <;> simpa using hb0
     have hb2 : ¬ (T.toList = s.toList) := by simpa using hb0
     clear HS HT
     go_wp2_with fail
     refine bodyPost_ret (results_ct rfl _ _ w.heap.size 24 #[I 0, .slice none 0 0] (0, 0) _ rfl (show CB w5 w.heap.size 0 (.slice none 0 0) from HB5.out).set Tryd.underlying24 rfl (by kernel_rfl)) rfl ?_
     rw [HV.out]
     exact ⟨_, rfl, Kd.R_nil _ _ _ _ _, below_set (below_set HG5.out (Nat.le_refl _)) (Nat.le_refl _)⟩
   ·have hb : x2.toList.isEmpty = false := by rw [Lib.toList_data]; simpa using hx
    have hsg : setsIn x2.data.toList = setsGo (splitL 44 x2.data.toList) [] := by rw [setsIn, if_neg hx]
    have HQ := Aside0.mk (fun W => impl_setsOf.calls 1048580 x2 _ _ W (setsOf_is x2.data.toList HL2.out 1048580 (Nat.le_refl _)))
    have hrg := setsIn_range x2.data.toList
    have HL3 := HL2.out
    rw [← hsg] at HQ
    clear hsg hx
    generalize setsIn x2.data.toList = q at HQ HS0 hrg
    obtain ⟨sets, ok⟩ := q
    have HRG := Aside0.mk hrg
    clear hrg
    go_wp2_with fail
    refine (HQ.out _).mono ?_
    rintro e w4 ⟨v4, rfl, hR4, hG4⟩
    obtain ⟨A4, c4, rfl⟩ := Kd.R_slice hR4
    have HR4 := Aside0.mk hR4
    have HG4 := Aside0.mk (Grew.trans HG3.out hG4)
    have HB4 : Aside0 (CB w4 w.heap.size 0 (.slice none 0 0)) := ⟨blk_below HB3.out hG4⟩
    clear hR4
    clear hG4
    cases ok with
    | false =>
     have HV : Aside0 (parseI s = (0, [], 6)) := ⟨by rw [HS0.out]; rfl⟩
     clear HS0
     have k0 := (show CB w4 w.heap.size 0 (.slice none 0 0) from HB4.out).c0
     have k1 := (show CB w4 w.heap.size 0 (.slice none 0 0) from HB4.out).c1
     have f0 := blk_frozen HB4.out 0
     have f1 := blk_frozen HB4.out 1
     go_wp2_with fail
     refine bodyPost_ret (results_ct rfl _ _ w.heap.size 24 #[I 0, .slice none 0 0] (0, 0) _ rfl (show CB w4 w.heap.size 0 (.slice none 0 0) from HB4.out).set Tryd.underlying24 rfl (by kernel_rfl)) rfl ?_
     rw [HV.out]
     exact ⟨_, rfl, Kd.R_nil _ _ _ _ _, below_set (below_set HG4.out (Nat.le_refl _)) (Nat.le_refl _)⟩
    | true =>
     have HS : Aside0 (parseI s = endI n sets s) := ⟨by rw [HS0.out]; rfl⟩
     have HIS := Aside0.mk (made_isC hn (sets := sets) HRG.out.1)
     obtain ⟨Ar, cr, her, hrc, hrr⟩ := Kd.R_reads HR4.out
     simp only [Value.slice.injEq, true_and] at her
     obtain ⟨rfl, rfl⟩ := her
     have HRR := Aside0.mk hrr
     have HRC := Aside0.mk hrc
     clear HS0 hrr hrc
     go_wp2_with fail
     refine (madeBy_calls n (by omega) A4 c4 sets w4 HRR.out HRC.out).mono ?_
     rintro e w5 ⟨v5, rfl, hR5, hG5⟩
     obtain ⟨A5, c5, rfl⟩ := Kd.R_slice hR5
     have HR5 := Aside0.mk hR5
     have HG5 := Aside0.mk (Grew.trans HG4.out hG5)
     have HB5 : Aside0 (CB w5 w.heap.size 0 (.slice none 0 0)) := ⟨blk_below HB4.out hG5⟩
     clear hR5
     clear hG5
     have hgm : Grew w5 (w5.alloc (.cells #[I n, .slice A5 (madeL n sets).length c5] 24)) := below_alloc (Grew.refl w5) _
     have HM := Aside0.mk (show CB (w5.alloc (.cells #[I n, .slice A5 (madeL n sets).length c5] 24)) w5.heap.size n (.slice A5 (madeL n sets).length c5) from blk_new w5 _)
     have hml : (madeL n sets).length ≤ 1000000 := by have := (isC_faces HIS.out).2.2.2; omega
     have hcr := Kd.R_reads HR5.out
     obtain ⟨Aq, cq, heq, hqc, hqr⟩ := hcr
     simp only [Value.slice.injEq, true_and] at heq
     obtain ⟨rfl, rfl⟩ := heq
     have H5 := Aside0.mk (text_calls HIS.out A5 c5 (w5.alloc (.cells #[I n, .slice A5 (madeL n sets).length c5] 24)) ⟨Kd.C_below hqr hgm, hqc, by omega⟩)
     have HGM := Aside0.mk hgm
     have HML := Aside0.mk hml
     have q0 := HM.out.c0
     have q1 := HM.out.c1
     obtain ⟨T, hT⟩ : ∃ T, T = B8 (textU n (facetsL (madeL n sets))) := ⟨_, rfl⟩
     rw [← hT] at H5
     have HT := Aside0.mk hT
     clear hqr hqc hgm hml hT
     go_wp2_with fail
     clear q0 q1
     refine H5.out.mono ?_
     rintro e w6 ⟨rfl, hG6⟩
     have hGm := Grew.trans HGM.out hG6
     have HG6 := Aside0.mk (Grew.trans HG5.out hGm)
     have HB6 : Aside0 (CB w6 w.heap.size 0 (.slice none 0 0)) := ⟨blk_below HB5.out hGm⟩
     have HM2 : Aside0 (CB w6 w5.heap.size n (.slice A5 (madeL n sets).length c5)) := ⟨blk_below HM.out hG6⟩
     have HR6 : Aside0 (Ki.R 2 w6 w4.heap.size (fun _ => True) (.slice A5 (madeL n sets).length c5) (madeL n sets)) := ⟨Kd.R_below HR5.out hGm⟩
     have hsz := HG4.out.size
     clear hG6 hGm
     have k0 := (show CB w6 w.heap.size 0 (.slice none 0 0) from HB6.out).c0
     have k1 := (show CB w6 w.heap.size 0 (.slice none 0 0) from HB6.out).c1
     have f0 := blk_frozen HB6.out 0
     have f1 := blk_frozen HB6.out 1
     have q0 := HM2.out.c0
     have q1 := HM2.out.c1
     by_cases hq : T = s
     ·have HV : Aside0 (parseI s = (n, madeL n sets, 0)) := ⟨by rw [HS.out]; unfold endI; rw [if_pos (HT.out.symm.trans hq)]⟩
      subst hq
      have hb0 : (T.toList != T.toList) = false := bne_eq_false_iff_eq.mpr rfl
      have hlt : w.heap.size < w5.heap.size := Nat.lt_of_lt_of_le (blk_lt HB5.out) (Nat.le_refl _)
      clear HS HT
      go_wp2_with fail
      refine bodyPost_ret (results_ct rfl _ _ w.heap.size 24 #[I n, _] (0, 0) _ rfl (show CB w6 w.heap.size 0 (.slice none 0 0) from HB6.out).set Tryd.underlying24 rfl (by kernel_rfl)) rfl ?_
      rw [HV.out]
      exact ⟨_, rfl, Kd.R_lower (Ri.setCB2 HR6.out HB6.out) (by omega), below_set (below_set HG6.out (Nat.le_refl _)) (Nat.le_refl _)⟩
     ·have HV : Aside0 (parseI s = (0, [], 6)) := ⟨by rw [HS.out]; unfold endI; rw [if_neg (fun e => hq (HT.out.trans e))]⟩
      have hb0 : (T.toList != s.toList) = true := bne_iff_ne.2 (fun e => hq (by rw [Lib.toList_data, Lib.toList_data] at e; rw [← B8_of T, ← B8_of s, e]))
      have hb1 : (T.toList == s.toList) = false := by rw [bne_eq] at hb0 <;> simpa using hb0
      have hb2 : ¬ (T.toList = s.toList) := by simpa using hb0
      clear HS HT
      go_wp2_with fail
      refine bodyPost_ret (results_ct rfl _ _ w.heap.size 24 #[I 0, .slice none 0 0] (0, 0) _ rfl (show CB w6 w.heap.size 0 (.slice none 0 0) from HB6.out).set Tryd.underlying24 rfl (by kernel_rfl)) rfl ?_
      rw [HV.out]
      exact ⟨_, rfl, Kd.R_nil _ _ _ _ _, below_set (below_set HG6.out (Nat.le_refl _)) (Nat.le_refl _)⟩
  ·have HSZ := Aside0.mk (fun W => isSize_calls n false (by simpa using hn) W)
   have HV : Aside0 (parseI s = (0, [], 6)) := ⟨by rw [HP0.out]; show codeI n _ s = _; unfold codeI; rw [if_neg hn]⟩
   clear HP0
   go_enter Tryd.func7, Tryd.ntmps7
   go_wp2_with fail
   refine HCut.out.mono ?_
   rintro e w1 ⟨rfl, hG1⟩
   have HG1 := Aside0.mk (Grew.trans HG0.out hG1)
   have HB1 : Aside0 (CB w1 w.heap.size 0 (.slice none 0 0)) := ⟨blk_below HB0.out hG1⟩
   clear hG1
   go_wp2_with fail
   refine (HPI.out w1).mono ?_
   rintro e w2 ⟨rfl, hG2⟩
   have HG2 := Aside0.mk (Grew.trans HG1.out hG2)
   have HB2 : Aside0 (CB w2 w.heap.size 0 (.slice none 0 0)) := ⟨blk_below HB1.out hG2⟩
   clear hG2
   go_wp2_with fail
   refine (HSZ.out _).mono ?_
   rintro e w3 ⟨rfl, hG3⟩
   have HG3 := Aside0.mk (Grew.trans HG2.out hG3)
   have HB3 : Aside0 (CB w3 w.heap.size 0 (.slice none 0 0)) := ⟨blk_below HB2.out hG3⟩
   clear hG3
   have k0 := (show CB w3 w.heap.size 0 (.slice none 0 0) from HB3.out).c0
   have k1 := (show CB w3 w.heap.size 0 (.slice none 0 0) from HB3.out).c1
   have f0 := blk_frozen HB3.out 0
   have f1 := blk_frozen HB3.out 1
   go_wp2_with fail
   refine bodyPost_ret (results_ct rfl _ _ w.heap.size 24 #[I 0, .slice none 0 0] (0, 0) _ rfl (show CB w3 w.heap.size 0 (.slice none 0 0) from HB3.out).set Tryd.underlying24 rfl (by kernel_rfl)) rfl ?_
   rw [HV.out]
   exact ⟨_, rfl, Kd.R_nil _ _ _ _ _, below_set (below_set HG3.out (Nat.le_refl _)) (Nat.le_refl _)⟩
 ·have HV : Aside0 (parseI s = (0, [], 6)) := ⟨by
   rw [HP0.out]
   split
   ·rename_i n hn
    exact absurd ⟨n, hn⟩ hok
   ·rfl⟩
  have HPI := Aside0.mk (fun W (h : ErrsAt W) => ParseInt_bad x1 (by omega) (fun v hv => hok ⟨v, hv⟩) W h)
  clear HP0 hok hz1
  go_enter Tryd.func7, Tryd.ntmps7
  go_wp2_with fail
  refine HCut.out.mono ?_
  rintro e w1 ⟨rfl, hG1⟩
  have HG1 := Aside0.mk (Grew.trans HG0.out hG1)
  have HB1 : Aside0 (CB w1 w.heap.size 0 (.slice none 0 0)) := ⟨blk_below HB0.out hG1⟩
  clear hG1
  go_wp2_with fail
  refine (HPI.out w1 (HEE.out.later HG1.out)).mono ?_
  rintro e w2 ⟨x, N, rfl, hG2⟩
  have HG2 := Aside0.mk (Grew.trans HG1.out hG2)
  have HB2 : Aside0 (CB w2 w.heap.size 0 (.slice none 0 0)) := ⟨blk_below HB1.out hG2⟩
  clear hG2
  have k0 := (show CB w2 w.heap.size 0 (.slice none 0 0) from HB2.out).c0
  have k1 := (show CB w2 w.heap.size 0 (.slice none 0 0) from HB2.out).c1
  have f0 := blk_frozen HB2.out 0
  have f1 := blk_frozen HB2.out 1
  go_wp2_with fail
  refine bodyPost_ret (results_ct rfl _ _ w.heap.size 24 #[I 0, .slice none 0 0] (0, 0) _ rfl (show CB w2 w.heap.size 0 (.slice none 0 0) from HB2.out).set Tryd.underlying24 rfl (by kernel_rfl)) rfl ?_
  rw [HV.out]
  exact ⟨_, rfl, Kd.R_nil _ _ _ _ _, below_set (below_set HG2.out (Nat.le_refl _)) (Nat.le_refl _)⟩

end Go.Proofs.YtaeabbackmnioaaDoor.K
end

section
/- The walk through the law FnExactParseComplex. -/
namespace Go.Proofs.YtaeabbackmnioaaDoor.K
open Go.RowKit Go.Shelf Go.Proofs.YtaeabbackmnioaaDoor.Q Go.Proofs.YtaeabbackmnioaaDoor.X Go.Proofs.YtaeabbackmnioaaDoor.C Go.Proofs.YtaeabbackmnioaaDoorW.PrintWords Go.Proofs.YtaeabbackmnioaaDoorW.PrintLast Go.Proofs.YtaeabbackmnioaaDoorW.PrintMore
set_option linter.unusedVariables false
set_option linter.unusedSimpArgs false

set_option maxRecDepth 100000 in
set_option maxHeartbeats 4000000 in
theorem LParseComplex_calls (s : ByteArray) (w : World) (hE : ErrsAt w) :
  Calls Tryd.prog 3 #[.string s] w fun e w' => e = .returned (.bool true) ∧ Grew w w' := by
 by_cases hl : 1048576 < (s.size : Int)
 ·go_enter Tryd.func3, Tryd.ntmps3
  go_wp2_with fail
  go_ret
  exact ⟨rfl, Grew.refl w⟩
 ·obtain ⟨r1, r2, r3, HS, HI, hr2⟩ : ∃ (r1 : Int) (r2 : List Int) (r3 : Int), Aside0 (∀ W, Calls Tryd.prog 6 #[.string s] W fun e w' => ∃ v, e = .returned (.tuple #[.agg #[I r1, v], I r3]) ∧ Ki.R 2 w' W.heap.size (fun _ => True) v r2 ∧ Grew W w') ∧
    Aside0 (∀ W, Grew w W → Calls Tryd.prog 7 #[.string s] W fun e w' => ∃ v, e = .returned (.tuple #[.agg #[I r1, v], I r3]) ∧ Ki.R 2 w' W.heap.size (fun _ => True) v r2 ∧ Grew W w') ∧ r2.length ≤ 1000000 := by
   have hs : s.size ≤ 1048576 := by omega
   obtain ⟨K, hK⟩ : ∃ K : Nat, 90000000 ≤ K := ⟨90000000, Nat.le_refl _⟩
   have hS := fun W => spec_ParseComplex.calls K s (parseI s).1 (parseI s).2.1 (parseI s).2.2 W (parse_is s hs K hK)
   have hI := fun (W : World) (hW : Grew w W) => ParseComplex_calls s W hs (hE.later hW)
   have hlen := parseI_length s
   generalize parseI s = r at hS hI hlen
   obtain ⟨r1, r2, r3⟩ := r
   exact ⟨r1, r2, r3, ⟨hS⟩, ⟨hI⟩, hlen⟩
  go_enter Tryd.func3, Tryd.ntmps3
  go_wp2_with fail
  have HM2 : Aside0 (Mem w []) := ⟨Mem.nil _⟩
  have HG2 : Aside0 (Grew w w) := ⟨Grew.refl w⟩
  refine (HS.out w).mono ?_
  rintro e w3 ⟨v3, rfl, hR3, hG3⟩
  obtain ⟨A3, c3, rfl⟩ := Kd.R_slice hR3
  have HM3 : Aside0 (Mem (w3.alloc (.cells #[I r1, .slice A3 r2.length c3] 24)) [.box w3.heap.size 24 #[I r1, .slice A3 r2.length c3], .row w.heap.size w3.heap.size (.slice A3 r2.length c3) r2]) := ⟨Mem.cons (putC_box w3 r1 _) (Mem.grew (Mem.cons (it := .row w.heap.size w3.heap.size (.slice A3 r2.length c3) r2) (Row.of_R hR3) (HM2.out.grew hG3)) (putC_grew w3 r1 _))⟩
  have HG3 : Aside0 (Grew w (w3.alloc (.cells #[I r1, .slice A3 r2.length c3] 24))) := ⟨Grew.trans (Grew.trans HG2.out hG3) (putC_grew w3 r1 _)⟩
  have hs3 := hG3.size
  have hS3 : (w3.alloc (.cells #[I r1, .slice A3 r2.length c3] 24)).heap.size = w3.heap.size + 1 := putC_size w3 r1 _
  clear hR3 hG3
  go_wp2_with fail
  generalize (w3.alloc (.cells #[I r1, .slice A3 r2.length c3] 24)) = W3 at HM3 HG3 hS3  ⊢
  refine (HI.out W3 HG3.out).mono ?_
  rintro e w5 ⟨v5, rfl, hR5, hG5⟩
  obtain ⟨A5, c5, rfl⟩ := Kd.R_slice hR5
  have HM5 : Aside0 (Mem (w5.alloc (.cells #[I r1, .slice A5 r2.length c5] 24)) [.box w5.heap.size 24 #[I r1, .slice A5 r2.length c5], .row W3.heap.size w5.heap.size (.slice A5 r2.length c5) r2, .box w3.heap.size 24 #[I r1, .slice A3 r2.length c3], .row w.heap.size w3.heap.size (.slice A3 r2.length c3) r2]) := ⟨Mem.cons (putC_box w5 r1 _) (Mem.grew (Mem.cons (it := .row W3.heap.size w5.heap.size (.slice A5 r2.length c5) r2) (Row.of_R hR5) (HM3.out.grew hG5)) (putC_grew w5 r1 _))⟩
  have HG5 : Aside0 (Grew w (w5.alloc (.cells #[I r1, .slice A5 r2.length c5] 24))) := ⟨Grew.trans (Grew.trans HG3.out hG5) (putC_grew w5 r1 _)⟩
  have hs5 := hG5.size
  have hS5 : (w5.alloc (.cells #[I r1, .slice A5 r2.length c5] 24)).heap.size = w5.heap.size + 1 := putC_size w5 r1 _
  clear hR5 hG5
  have b90 : (w5.alloc (.cells #[I r1, .slice A5 r2.length c5] 24)).cell? ⟨w5.heap.size, 0, none⟩ = some (I r1) := blk_cell HM5.out.head 0
  have b91 : (w5.alloc (.cells #[I r1, .slice A5 r2.length c5] 24)).cell? ⟨w5.heap.size, 1, none⟩ = some (.slice A5 r2.length c5) := blk_cell HM5.out.head 1
  have b60 : (w5.alloc (.cells #[I r1, .slice A5 r2.length c5] 24)).cell? ⟨w3.heap.size, 0, none⟩ = some (I r1) := blk_cell HM5.out.tail.tail.head 0
  have b61 : (w5.alloc (.cells #[I r1, .slice A5 r2.length c5] 24)).cell? ⟨w3.heap.size, 1, none⟩ = some (.slice A3 r2.length c3) := blk_cell HM5.out.tail.tail.head 1
  go_wp2_with fail
  generalize (w5.alloc (.cells #[I r1, .slice A5 r2.length c5] 24)) = W5 at HM5 HG5 hS5 b90 b91 b60 b61 ⊢
  clear b90 b91 b60 b61
  refine (eqC_calls r1 r2 A5 A3 c5 c3 _ _ _ _ _ _ W5 HM5.out.tail.head HM5.out.tail.tail.tail.head).mono ?_
  rintro e w6 ⟨rfl, hG6⟩
  have HM6 := Aside0.mk (HM5.out.grew hG6)
  have HG6 := Aside0.mk (Grew.trans HG5.out hG6)
  have hs6 := hG6.size
  clear hG6
  have b90 : w6.cell? ⟨w5.heap.size, 0, none⟩ = some (I r1) := blk_cell HM6.out.head 0
  have b91 : w6.cell? ⟨w5.heap.size, 1, none⟩ = some (.slice A5 r2.length c5) := blk_cell HM6.out.head 1
  go_wp2_with fail
  clear b90 b91
  refine (markC_calls r1 A5 r2.length c5 r2 1 (by omega) (by omega) _ _ w w6 HG6.out (by omega) HM6.out.tail.head).mono ?_
  rintro e w11 ⟨rfl, hX11, hB11, hK11⟩
  have HM11 : Aside0 (Mem w11 [.row W3.heap.size w5.heap.size (.slice A5 r2.length c5) (marks 1 r2.length), .box w5.heap.size 24 #[I r1, .slice A5 r2.length c5], .box w3.heap.size 24 #[I r1, .slice A3 r2.length c3], .row w.heap.size w3.heap.size (.slice A3 r2.length c3) r2]) := ⟨Mem.cons (it := .row W3.heap.size w5.heap.size (.slice A5 r2.length c5) (marks 1 r2.length)) hX11 (Mem.kept (Mem.cons (it := .box w5.heap.size 24 #[I r1, .slice A5 r2.length c5]) HM6.out.head (Mem.cons (it := .box w3.heap.size 24 #[I r1, .slice A3 r2.length c3]) HM6.out.tail.tail.head (Mem.cons (it := .row w.heap.size w3.heap.size (.slice A3 r2.length c3) r2) HM6.out.tail.tail.tail.head (Mem.nil _)))) hK11 (by intro it hit k hk; simp only [List.mem_cons, List.not_mem_nil, or_false] at hit; rcases hit with rfl | rfl | rfl <;> (simp only [Item.at_] at hk; omega)))⟩
  have HG11 := Aside0.mk hB11
  have hs11 := hK11.1
  clear hX11 hB11 hK11
  have hneg : ¬ (1 + (r2.length : Int) < 0) := by omega
  have b90 : w11.cell? ⟨w5.heap.size, 0, none⟩ = some (I r1) := blk_cell HM11.out.tail.head 0
  have b91 : w11.cell? ⟨w5.heap.size, 1, none⟩ = some (.slice A5 r2.length c5) := blk_cell HM11.out.tail.head 1
  go_wp2_with fail
  clear b90 b91
  refine (heldC_calls r1 A5 r2.length r2.length c5 _ _ 1 (by omega) (by omega) w11 HM11.out.head).mono ?_
  rintro e w12 ⟨rfl, hG12⟩
  have HM12 := Aside0.mk (HM11.out.grew hG12)
  have HG12 := Aside0.mk (Grew.trans HG11.out hG12)
  have hs12 := hG12.size
  clear hG12
  go_wp2_with fail
  refine (HI.out w12 HG12.out).mono ?_
  rintro e w14 ⟨v14, rfl, hR14, hG14⟩
  obtain ⟨A14, c14, rfl⟩ := Kd.R_slice hR14
  have HM14 : Aside0 (Mem (w14.alloc (.cells #[I r1, .slice A14 r2.length c14] 24)) [.box w14.heap.size 24 #[I r1, .slice A14 r2.length c14], .row w12.heap.size w14.heap.size (.slice A14 r2.length c14) r2, .row W3.heap.size w5.heap.size (.slice A5 r2.length c5) (marks 1 r2.length), .box w5.heap.size 24 #[I r1, .slice A5 r2.length c5], .box w3.heap.size 24 #[I r1, .slice A3 r2.length c3], .row w.heap.size w3.heap.size (.slice A3 r2.length c3) r2]) := ⟨Mem.cons (putC_box w14 r1 _) (Mem.grew (Mem.cons (it := .row w12.heap.size w14.heap.size (.slice A14 r2.length c14) r2) (Row.of_R hR14) (HM12.out.grew hG14)) (putC_grew w14 r1 _))⟩
  have HG14 : Aside0 (Grew w (w14.alloc (.cells #[I r1, .slice A14 r2.length c14] 24))) := ⟨Grew.trans (Grew.trans HG12.out hG14) (putC_grew w14 r1 _)⟩
  have hs14 := hG14.size
  have hS14 : (w14.alloc (.cells #[I r1, .slice A14 r2.length c14] 24)).heap.size = w14.heap.size + 1 := putC_size w14 r1 _
  clear hR14 hG14
  have b140 : (w14.alloc (.cells #[I r1, .slice A14 r2.length c14] 24)).cell? ⟨w14.heap.size, 0, none⟩ = some (I r1) := blk_cell HM14.out.head 0
  have b141 : (w14.alloc (.cells #[I r1, .slice A14 r2.length c14] 24)).cell? ⟨w14.heap.size, 1, none⟩ = some (.slice A14 r2.length c14) := blk_cell HM14.out.head 1
  have b60 : (w14.alloc (.cells #[I r1, .slice A14 r2.length c14] 24)).cell? ⟨w3.heap.size, 0, none⟩ = some (I r1) := blk_cell HM14.out.tail.tail.tail.tail.head 0
  have b61 : (w14.alloc (.cells #[I r1, .slice A14 r2.length c14] 24)).cell? ⟨w3.heap.size, 1, none⟩ = some (.slice A3 r2.length c3) := blk_cell HM14.out.tail.tail.tail.tail.head 1
  go_wp2_with fail
  generalize (w14.alloc (.cells #[I r1, .slice A14 r2.length c14] 24)) = W14 at HM14 HG14 hS14 b140 b141 b60 b61 ⊢
  clear b140 b141 b60 b61
  refine (eqC_calls r1 r2 A14 A3 c14 c3 _ _ _ _ _ _ W14 HM14.out.tail.head HM14.out.tail.tail.tail.tail.tail.head).mono ?_
  rintro e w15 ⟨rfl, hG15⟩
  have HM15 := Aside0.mk (HM14.out.grew hG15)
  have HG15 := Aside0.mk (Grew.trans HG14.out hG15)
  have hs15 := hG15.size
  clear hG15
  have b90 : w15.cell? ⟨w5.heap.size, 0, none⟩ = some (I r1) := blk_cell HM15.out.tail.tail.tail.head 0
  have b91 : w15.cell? ⟨w5.heap.size, 1, none⟩ = some (.slice A5 r2.length c5) := blk_cell HM15.out.tail.tail.tail.head 1
  go_wp2_with fail
  clear b90 b91
  refine (heldC_calls r1 A5 r2.length r2.length c5 _ _ 1 (by omega) (by omega) w15 HM15.out.tail.tail.head).mono ?_
  rintro e w16 ⟨rfl, hG16⟩
  have HM16 := Aside0.mk (HM15.out.grew hG16)
  have HG16 := Aside0.mk (Grew.trans HG15.out hG16)
  have hs16 := hG16.size
  clear hG16
  go_wp2_with fail
  go_ret
  exact ⟨rfl, HG16.out⟩

end Go.Proofs.YtaeabbackmnioaaDoor.K
end

section

namespace Go.Proofs.YtaeabbackmnioaaDoor.fnExactParseComplex
open Go.ChangeShapes Go.WideShapes Go.ChangeAt Go.RowKit Go.Joins Go.Proofs.YtaeabbackmnioaaDoor.K Go.Proofs.YtaeabbackmnioaaDoorW.PrintWords
open Go.ChangeMaps (open_string shut_string)
set_option linter.unusedVariables false
def laidL : List (String × DataW Unit) := [("math/bits.deBruijn32tab", Rows.laid_math_bits_deBruijn32tab), ("math/bits.deBruijn64tab", Rows.laid_math_bits_deBruijn64tab), ("internal/strconv.uint64pow10", Rows.laid_internal_strconv_uint64pow10), ("unicode/utf8.acceptRanges", Rows.laid_unicode_utf8_acceptRanges), ("strconv.ErrRange", Rows.laid_strconv_ErrRange), ("strconv.ErrSyntax", Rows.laid_strconv_ErrSyntax), ("unicode/utf8.first", Rows.laid_unicode_utf8_first)]
theorem errs {W : World} (hL0 : laidMetH Tryd.prog laidL W) : ErrsAt W := by
 have hL := hL0
 rw [MakeChecks.laidMetH_plain _ _ _ (by kernel_rfl)] at hL
 have h4 := hL.tail.tail.tail.tail
 have hrow : ∀ u, Tryd.prog.typeName? 3 u = some "*errors.errorString" → u = 123 := fun u hu => typeName_ptr_named (nm := "errors.errorString") (by kernel_rfl) (by kernel_rfl) (by decide) u hu
 have g1 : Tryd.prog.globalNamed "strconv.ErrRange" = some 2 := by kernel_rfl
 have g2 : Tryd.prog.globalNamed "strconv.ErrSyntax" = some 1 := by kernel_rfl
 obtain ⟨a1, s1, hv1, _⟩ := laid_sentinel h4 g1 (show _ = some 41 by kernel_rfl) Tryd.underlying41 hrow Tryd.underlying123 Tryd.underlying125 rfl rfl Tryd.underlying9 (by kernel_rfl) (by kernel_rfl)
 obtain ⟨a2, s2, hv2, _⟩ := laid_sentinel h4.tail g2 (show _ = some 41 by kernel_rfl) Tryd.underlying41 hrow Tryd.underlying123 Tryd.underlying125 rfl rfl Tryd.underlying9 (by kernel_rfl) (by kernel_rfl)
 exact ⟨⟨_, _, (World.var?_cell g2 hv2 0).trans rfl⟩, ⟨_, _, (World.var?_cell g1 hv1 0).trans rfl⟩⟩

set_option maxRecDepth 100000 in
theorem lifted (os : Os) (started : os.Started) (H : Type) (enc : TypeId × Value → H) :
  ReturnsInHanded {} Tryd.checked os 3 .any (fun w args => (Rows.fnExactParseComplexSpec.pre enc Tryd.prog Tryd.f3 Rows.fnExactParseComplexRow.domain false w args ∧ laidMetH Tryd.prog laidL w) ∧ sizedMet enc Tryd.prog Tryd.f3 (OpenSpec.ofChange Rows.fnExactParseComplexSpec) false w args) (Rows.fnExactParseComplexSpec.post enc Tryd.prog Tryd.f3 false true false false) := by
 refine returnsInHanded_of_change_and (C := Tryd.checked) (X := fun w _ => laidMetH Tryd.prog laidL w) (fun _ _ _ hh h => h.of_heap hh) ownKnob_none started (by kernel_rfl) Tryd.func3
  (ChangeSpec.witness_shaped (enc := enc) (C := Tryd.checked) (os := os) (X := fun w _ => laidMetH Tryd.prog laidL w) false (World.laidAll Tryd.prog os laidL) #[.string ByteArray.empty] 8 (World.laidAll_os _ _ _)
   (World.shaped_of_ZipB (by kernel_rfl) (by kernel_rfl)) (by kernel_rfl) (by kernel_rfl) (by kernel_rfl)
   (by rw [MakeChecks.laidMetH_plain _ _ _ (by kernel_rfl)]; exact laidMet_laidAll _ (by kernel_rfl) (by kernel_rfl))) ?_
 intro W base args ds gs before hval0 hW hcnd hsz0 hL _
 have hsz : (DataW.weightsEach Tryd.prog (Tryd.f3.params.toList ++ Rows.fnExactParseComplexSpec.plain.varTypes Tryd.prog) (ds ++ gs)).all (· ≤ reachBytes) = true := hsz0
 have hval : ∀ (j : Nat) t v, Tryd.f3.params[j]? = some t → args[j]? = some v → Value.okWide Tryd.prog W .any base t v := hval0
 have hW' := hW
 obtain ⟨p, q, hA0, hV, rfl, hfz, hnd⟩ := hW
 have hA : DataW.TrodAll enc Tryd.prog W 0 (fun _ => true) true Tryd.f3.params.toList args.toList ds p := hA0
 rw [Tryd.params3] at hA hval hsz
 obtain ⟨v0, vs0, d0, ds0, p0, q0, hargs, rfl, rfl, h0, r0⟩ := trodAll_cons hA
 obtain ⟨rfl, rfl, rfl⟩ := trodAll_nil r0
 obtain rfl : args = #[v0] := by cases args; simp_all
 obtain ⟨rfl, rfl⟩ := trodVars_none hV
 obtain ⟨s0, rfl, rfl, rfl, y0⟩ := open_string Tryd.underlying9 (hval 0 9 v0 rfl rfl) h0
 have w0 : s0.size ≤ 140737488351232 := by
  have z := sized_string hsz (j := 0) (t := 9) rfl rfl
  rw [Array.length_toList] at z
  exact z
 clear hA0 hval0 hsz0 hsz
 refine (K.LParseComplex_calls s0 W (errs hL)).mono fun e W' ⟨he, bel0⟩ => ?_
 have bel : Below W.heap.size W W' := bel0
 subst he
 exact ⟨_, rfl, _, _, _, [], _, [], hW', trodAll_mk1 (shut_bool Tryd.underlying4 _), (trodAll_cons_mk (shut_string Tryd.underlying9 y0) trodAll_mk0), rfl, bel.frame _, fun h => by cases h⟩
set_option maxRecDepth 100000 in
theorem starts : ∃ r, behindMainWord (wordsSigns Tryd.prog.initOrder.toList) = "cut".toList :: r := by
 have h : Tryd.prog.initOrder = String.ofList _ := rfl
 rw [h, String.toList_ofList, signs_take 7 _ rfl rfl, signs_take 64 _ rfl rfl, signs_take 3 _ rfl rfl]
 generalize wordsSigns _ = r
 exact ⟨r, by kernel_rfl⟩
set_option maxRecDepth 100000 in
theorem closed : joinedFacts Tryd.prog 3 Tryd.f3 Rows.fnExactParseComplexSpec Rows.fnExactParseComplexRow = true := by
 obtain ⟨r, h⟩ := starts
 unfold joinedFacts
 rw [cut_enter _ r h (by kernel_rfl) (by kernel_rfl) (by kernel_rfl), cut_make _ r h, cut_lifts _ r h]
 exact of_decide_eq_true (by kernel_rfl)
theorem over : Rows.fnExactParseComplexRow.holds Tryd.pinned (OpenSpec.ofChange Rows.fnExactParseComplexSpec) :=
 OpenClaim.holds_of_wide 3 Tryd.f3 rfl rfl rfl rfl rfl rfl rfl ⟨rfl, rfl, rfl, rfl, rfl⟩ rfl rfl rfl rfl rfl (by kernel_rfl) Tryd.func3 closed
  (of_decide_eq_true (by kernel_rfl)) (by unfold Func.isWrapper; first | (rw [if_pos (by decide +kernel)]; kernel_rfl) | (rw [if_neg (by decide +kernel)]; exact ⟨rfl, rfl⟩))
  (fun os started H enc _ => lifted os started H enc)
theorem proved : Rows.FnExactParseComplexSaid := over
#print axioms proved
end Go.Proofs.YtaeabbackmnioaaDoor.fnExactParseComplex
namespace Go.Proofs.YtaeabbackmnioaaDoor
/-- The card: the row, its listed variables tied to the program's text. -/
theorem fnExactParseComplexCard_holds : Rows.FnExactParseComplexCardSaid :=
 Claim7.holds_tied_plain_at .later [] [.data, .data, .data, .data, .sentinel, .sentinel, .pinned] true (true, "023d4715f29fe387ed6fd4a9caf20bc03ad98bbafaf158969a1b75aeccffe5e7") true fnExactParseComplex.over (fun _ h => by cases h) (by kernel_rfl) (fun _ h => by cases h) fnExactParseComplex_row_tie rfl ⟨rfl, rfl⟩ (by kernel_rfl) rfl
  (fun f fn hf hfn => by
   obtain rfl : f = 3 := Option.some.inj ((show Tryd.prog.funcNamed "loop.example/g01348/laws.FnExactParseComplex" = some 3 by kernel_rfl).symm.trans hf) |>.symm
   obtain rfl : fn = Tryd.f3 := (Option.some.inj (Tryd.func3.symm.trans hfn)).symm
   exact ⟨by kernel_rfl, fun j t ht => by
    rw [Tryd.params3] at ht
    have hm : t ∈ [9] := by simpa using Array.mem_of_getElem? ht
    have hall : ([9].all fun u => !Tryd.prog.wantsStandIn u) = true := by kernel_rfl
    exact (show Tryd.prog.wantsStandIn t = false by simpa using List.all_eq_true.1 hall t hm)⟩)
  (by kernel_rfl)
#print axioms fnExactParseComplexCard_holds
end Go.Proofs.YtaeabbackmnioaaDoor
end
