/- The row of the law FnExactComplexText: for every input the law answers true, and the arguments read as before. No conditions. -/
import Derived.Test.YtaeabbackmnioaaDoorJTxt2
import Derived.Below
import Derived.Deep.Draws
import Derived.Deep.AppendLies
import Derived.Maps.AppendAt
import Derived.OwnWalk
import Derived.Laws.BytesArg
import Derived.Laws.MakeOwn
import Derived.Laws.OwnMore
import Derived.Deep.OwnRows
import Derived.Tactics
import Derived.Lib.ConvBytes
import Derived.Laws.Slices
import Derived.WalkKit
import Derived.KernelRfl
import Derived.RowKit3
import Derived.Deep.LoopGhost
import Derived.Deep.QuietTactic
import Derived.BigQuiet
import Derived.WideLaws
import Derived.Deep.DeepCutAuto
import Derived.Deep.CutBlock
import Derived.Deep.RegionHeld3
import Derived.Laws.Rows
import Derived.Lib.AppendStr
import Derived.ArgAppend
import Derived.Laws.IdiomCopy
import Derived.RowKit
import Derived.OrdersHeld
import Derived.Laws.BitsLemmas
import Derived.Test.YtaeabbackmnioaaDoorProg
import Derived.Shelf.Abstract
import Derived.Laws.StructEq
import Derived.RangeFuncBox
import Derived.RangeFuncLeaves
import Derived.OwnWalkIn
import Derived.TacticsInMore
import Derived.LoopNIn
import Derived.LoopIn
import Derived.Lib.SliceRun
import Derived.Test.YtaeabbackmnioaaDoorChecked
import Derived.Shelf.Strings.OnBuilder
import Derived.Shelf.Strconv.Itoa4
import Derived.JoinedOf
import Derived.Test.YtaeabbackmnioaaDoorRows
import Derived.ProofKit
import Derived.OpenShut
import Derived.ShutString
import Derived.ChangeOld
import Derived.SizedLaws
import Derived.Lib.SmallJoins
import Derived.Test.YtaeabbackmnioaaDoorTie
import Derived.Test.YtaeabbackmnioaaDoorCards
import Derived.LaidMore
import Derived.Lay
import Derived.SevenTiedAt
import Derived.Stop.Joined
import Derived.HandedShaped
section
/- The text of a complex: what the program's and the reference's code come to. -/
namespace Go.Proofs.YtaeabbackmnioaaDoor.K
open Go.RowKit Go.Shelf Go.Proofs.YtaeabbackmnioaaDoor.Q Go.Proofs.YtaeabbackmnioaaDoor.X Go.Proofs.YtaeabbackmnioaaDoor.D Go.Proofs.YtaeabbackmnioaaDoorW.PrintWords Go.Proofs.YtaeabbackmnioaaDoorW.PrintLast Go.Proofs.YtaeabbackmnioaaDoorW.PrintMore
set_option linter.unusedVariables false
set_option linter.unusedSimpArgs false

theorem rounds_le {α : Type} {g : Nat → Option α} (h : ∀ k, LeO (g k) (g (k + 1))) {r : α} : ∀ (d k : Nat), g k = some r → g (k + d) = some r
 | 0, k, hk => hk
 | d + 1, k, hk => by
  have := rounds_le h d (k + 1) (h k r hk)
  rwa [Nat.add_right_comm] at this

/-- A digit, a word, the text. -/
def dig (v : Int) : UInt8 := UInt8.ofNat (48 + v.toNat)
def word (f : Int) : List UInt8 := (verts f).map dig
def B8 (l : List UInt8) : ByteArray := ⟨l.toArray⟩
def textU (n : Int) (fs : List Int) : List UInt8 := dig n :: 58 :: Lib.join (fs.map word) [44]
theorem B8_size (l : List UInt8) : (B8 l).size = l.length := by simp [B8, ByteArray.size]
theorem B8_append (a b : List UInt8) : B8 a ++ B8 b = B8 (a ++ b) := by
 apply ByteArray.ext
 simp [B8, ByteArray.data_append]
theorem verts_len6 (f : Int) : (verts f).length ≤ 6 := List.length_filter_le _ _
theorem word_length (f : Int) : (word f).length ≤ 6 := by
 unfold word
 rw [List.length_map]
 exact verts_len6 f
theorem lens_le {xs : List (List UInt8)} (h : ∀ x ∈ xs, x.length ≤ 6) : Lib.lens xs ≤ 6 * xs.length := by
 induction xs with
 | nil => simp [Lib.lens]
 | cons x r ih =>
  have h1 := h x List.mem_cons_self
  have h2 := ih (fun y hy => h y (List.mem_cons_of_mem _ hy))
  simp only [Lib.lens, List.map_cons, List.sum_cons, List.length_cons] at h2 ⊢
  omega
theorem tail_le {xs : List (List UInt8)} (h : ∀ x ∈ xs, x.length ≤ 6) : (Lib.joinTail [44] xs).length ≤ 7 * xs.length := by
 rw [Lib.joinTail_length]
 have := lens_le h
 simp only [List.length_cons, List.length_nil]
 omega
theorem words_le (fs : List Int) : ∀ x ∈ fs.map word, x.length ≤ 6 := by
 intro x hx
 obtain ⟨f, _, rfl⟩ := List.mem_map.1 hx
 exact word_length f
theorem join_le (fs : List Int) : (Lib.join (fs.map word) [44]).length ≤ 7 * fs.length := by
 cases fs with
 | nil => simp [Lib.join_nil]
 | cons f r =>
  rw [List.map_cons, Lib.join_cons, List.length_append, List.length_cons]
  have h1 := word_length f
  have h2 := tail_le (words_le r)
  rw [List.length_map] at h2
  omega

theorem vertices_at (f : Int) (k : Nat) (hk : 7 ≤ k) : impl_vertices.f k f = some (verts f) := by
 obtain ⟨d, rfl⟩ : ∃ d, k = 7 + d := ⟨k - 7, by omega⟩
 exact rounds_le (fun k => impl_vertices.mono f k) d 7 (verts_is f)
theorem fmt_is (v : Int) (h : 0 ≤ v ∧ v < 10) : strconv_FormatInt.f v 10 = some (B8 [dig v]) := by
 unfold strconv_FormatInt.f
 rw [if_pos ⟨h, rfl⟩]
 rfl

theorem textI_inner (ws : List ByteArray) (vs : List Int) (n : Int) (l fs : List Int) (len i : Int) (hv : ∀ v ∈ vs, 0 ≤ v ∧ v < 10) (hvs : vs.length ≤ 6) : ∀ (d j m : Nat) (acc : List UInt8), vs.length - j = d → j ≤ vs.length → acc.length ≤ j →
  impl_Complex_text.l1 (d + 1 + m) ws (B8 acc) fs len i vs (vs.length : Int) (j : Int) n l = (if ws.length < 8796093022208 then impl_Complex_text.l0 m (ws ++ [B8 (acc ++ (vs.drop j).map dig)]) fs len (wrap64 (i + 1)) n l else none) := by
 intro d
 induction d with
 | zero =>
  intro j m acc hd hj ha
  rw [Nat.zero_add, Nat.add_comm]
  simp only [impl_Complex_text.l1]
  rw [if_neg (by omega)]
  obtain rfl : j = vs.length := by omega
  rw [List.drop_length, List.map_nil, List.append_nil]
 | succ d ih =>
  intro j m acc hd hj ha
  rw [show d + 1 + 1 + m = (d + 1 + m) + 1 by omega]
  simp only [impl_Complex_text.l1]
  have hjl : j < vs.length := by omega
  have hx := hv _ (List.getElem_mem hjl)
  rw [if_pos (by omega), if_pos (by omega), if_pos (by omega), rd_nat vs j hjl, fmt_is _ hx]
  simp only [Option.bind_some]
  rw [if_pos (by rw [B8_size, B8_size, List.length_singleton]; omega), B8_append, w64 ((j : Int) + 1) (by omega) (by omega), nat_succ, ih (j + 1) m (acc ++ [dig vs[j]]) (by omega) (by omega) (by simp; omega)]
  rw [List.drop_eq_getElem_cons hjl, List.map_cons, List.append_assoc]
  rfl

theorem textI_outer (n : Int) (hn : 1 ≤ n ∧ n ≤ 6) (l fs : List Int) (hfs : fs.length ≤ 63) : ∀ (d i k : Nat), fs.length - i = d → i ≤ fs.length → 20 * d + 20 ≤ k →
  impl_Complex_text.l0 k ((fs.take i).map fun f => B8 (word f)) fs (fs.length : Int) (i : Int) n l = some (B8 (textU n fs)) := by
 intro d
 induction d with
 | zero =>
  intro i k hd hi hk
  obtain ⟨k, rfl⟩ : ∃ m, k = m + 1 := ⟨k - 1, by omega⟩
  simp only [impl_Complex_text.l0]
  obtain rfl : i = fs.length := by omega
  rw [if_neg (by omega), List.take_length, fmt_is n (by omega)]
  simp only [Option.bind_some]
  have hw : ((fs.map fun f => B8 (word f)).map fun s : ByteArray => s.data.toList) = fs.map word := by
   rw [List.map_map]
   rfl
  have hj : strings_Join.f (fs.map fun f => B8 (word f)) (⟨#[44]⟩ : ByteArray) = some (B8 (Lib.join (fs.map word) [44])) := by
   have hle := join_le fs
   unfold strings_Join.f joinB
   rw [hw, if_pos ⟨by rw [List.length_map]; omega, by show (Lib.join (fs.map word) [44]).length ≤ _; omega⟩]
   rfl
  have hle := join_le fs
  rw [if_pos (by rw [B8_size, List.length_singleton]; omega), hj]
  simp only [Option.bind_some]
  have e : B8 [dig n] ++ (⟨#[58]⟩ : ByteArray) = B8 [dig n, 58] := B8_append [dig n] [58]
  rw [e, if_pos (by rw [B8_size, B8_size]; simp only [List.length_cons, List.length_nil]; omega), B8_append]
  rfl
 | succ d ih =>
  intro i k hd hi hk
  obtain ⟨k, rfl⟩ : ∃ m, k = m + 1 := ⟨k - 1, by omega⟩
  simp only [impl_Complex_text.l0]
  have hil : i < fs.length := by omega
  have hv := verts_len6 fs[i]
  rw [if_pos (by omega), if_pos (by omega), if_pos (by omega), rd_nat fs i hil, vertices_at _ k (by omega)]
  simp only [Option.bind_some]
  have e0 : (⟨#[]⟩ : ByteArray) = B8 [] := rfl
  have hin := textI_inner ((fs.take i).map fun f => B8 (word f)) (verts fs[i]) n l fs (fs.length : Int) (i : Int) (fun v hv => by have := verts_range _ v hv; omega) hv (verts fs[i]).length 0 (k - (verts fs[i]).length - 1) [] (by omega) (by omega) (by simp)
  rw [show (verts fs[i]).length + 1 + (k - (verts fs[i]).length - 1) = k by omega] at hin
  rw [e0, show (0 : Int) = ((0 : Nat) : Int) from rfl, hin, if_pos (by simp; omega), List.nil_append, List.drop_zero, w64 ((i : Int) + 1) (by omega) (by omega), nat_succ]
  have := ih (i + 1) (k - (verts fs[i]).length - 1) (by omega) (by omega) (by omega)
  rw [List.take_succ_eq_append_getElem hil, List.map_append] at this
  exact this

theorem facets_len (l : List Int) : (facetsL l).length ≤ l.length := List.length_filter_le _ _
theorem textI_is {n : Int} {l : List Int} (hi : isC n l = true) (k : Nat) (hk : 1400 ≤ k) : impl_Complex_text.f k n l = some (B8 (textU n (facetsL l))) := by
 obtain ⟨hn, hs, hr, h63⟩ := isC_faces hi
 have hf := facets_len l
 unfold impl_Complex_text.f impl_Complex_facets.f
 rw [if_pos (by omega)]
 simp only [Option.bind_some]
 have := textI_outer n hn l (facetsL l) (by omega) (facetsL l).length 0 k (by omega) (by omega) (by omega)
 exact this

theorem dec_fin : ∀ n : Fin 10, spec_l01Dec.f 1 (n.val : Int) = some (B8 [dig (n.val : Int)]) := by decide +kernel
theorem dec_is (n : Int) (hn : 0 ≤ n ∧ n < 10) (k : Nat) (hk : 1 ≤ k) : spec_l01Dec.f k n = some (B8 [dig n]) := by
 obtain ⟨d, rfl⟩ : ∃ d, k = 1 + d := ⟨k - 1, by omega⟩
 have h := dec_fin ⟨n.toNat, by omega⟩
 have e : ((n.toNat : Nat) : Int) = n := by omega
 rw [e] at h
 exact rounds_le (fun k => spec_l01Dec.mono n k) d 1 h
theorem digits_fin : ∀ f : Fin 64, spec_l01Digits.f 13 (f.val : Int) = some (B8 (word (f.val : Int))) := by decide +kernel
theorem digits_is (f : Int) (hf : 0 ≤ f ∧ f ≤ 63) (k : Nat) (hk : 13 ≤ k) : spec_l01Digits.f k f = some (B8 (word f)) := by
 obtain ⟨d, rfl⟩ : ∃ d, k = 13 + d := ⟨k - 13, by omega⟩
 have h := digits_fin ⟨f.toNat, by omega⟩
 have e : ((f.toNat : Nat) : Int) = f := by omega
 rw [e] at h
 exact rounds_le (fun k => spec_l01Digits.mono f k) d 13 h

theorem textS_loop (fs : List Int) (hf : ∀ f ∈ fs, 0 ≤ f ∧ f ≤ 63) (hfs : fs.length ≤ 63) : ∀ (d i k : Nat) (acc : List UInt8), fs.length - i = d → 1 ≤ i → i ≤ fs.length → d + 14 < k → acc.length ≤ 10 + 7 * i →
  spec_l01Text.l0 k (B8 acc) fs (i : Int) = some (B8 (acc ++ Lib.joinTail [44] ((fs.drop i).map word))) := by
 intro d
 induction d with
 | zero =>
  intro i k acc hd h1 hi hk ha
  obtain ⟨k, rfl⟩ : ∃ m, k = m + 1 := ⟨k - 1, by omega⟩
  simp only [spec_l01Text.l0]
  obtain rfl : i = fs.length := by omega
  rw [if_neg (by omega), List.drop_length]
  simp [Lib.joinTail]
 | succ d ih =>
  intro i k acc hd h1 hi hk ha
  obtain ⟨k, rfl⟩ : ∃ m, k = m + 1 := ⟨k - 1, by omega⟩
  simp only [spec_l01Text.l0]
  have hil : i < fs.length := by omega
  have hw := word_length fs[i]
  have e1 : B8 acc ++ (⟨#[44]⟩ : ByteArray) = B8 (acc ++ [44]) := B8_append acc [44]
  rw [if_pos (by omega), if_pos (by omega), if_pos (by rw [B8_size]; omega), if_pos (by omega), rd_nat fs i hil, digits_is _ (hf _ (List.getElem_mem hil)) k (by omega)]
  simp only [Option.bind_some]
  rw [e1, if_pos (by rw [B8_size, B8_size, List.length_append, List.length_singleton]; omega), B8_append, w64 ((i : Int) + 1) (by omega) (by omega), nat_succ, ih (i + 1) k _ (by omega) (by omega) (by omega) (by omega) (by simp only [List.length_append, List.length_singleton]; omega)]
  rw [List.drop_eq_getElem_cons hil, List.map_cons]
  simp [Lib.joinTail, List.append_assoc]

theorem textS_is {n : Int} {l : List Int} (hi : isC n l = true) (k : Nat) (hk : 300 ≤ k) : spec_l01Text.f k n l = some (B8 (textU n (facetsL l))) := by
 obtain ⟨hn, hs, hr, h63⟩ := isC_faces hi
 have hlen := facets_len l
 unfold spec_l01Text.f
 rw [dec_is n (by omega) k (by omega), specFacetsL_is hi k (by omega)]
 simp only [Option.bind_some]
 rw [if_pos (by rw [B8_size, List.length_singleton]; omega)]
 have e1 : B8 [dig n] ++ (⟨#[58]⟩ : ByteArray) = B8 [dig n, 58] := B8_append [dig n] [58]
 rw [e1]
 have hf : ∀ f ∈ facetsL l, 0 ≤ f ∧ f ≤ 63 := fun f hf => by have := hr f (List.mem_filter.1 hf).1; omega
 unfold textU
 cases hfs : facetsL l with
 | nil =>
  obtain ⟨k, rfl⟩ : ∃ m, k = m + 1 := ⟨k - 1, by omega⟩
  simp only [spec_l01Text.l0]
  rw [if_neg (by simp)]
  rfl
 | cons f r =>
  obtain ⟨k, rfl⟩ : ∃ m, k = m + 1 := ⟨k - 1, by omega⟩
  have hw := word_length f
  rw [hfs] at hf hlen
  rw [List.length_cons] at hlen
  simp only [spec_l01Text.l0]
  have h0 : rd (f :: r) 0 = f := rd_nat (f :: r) 0 (by simp)
  rw [if_pos (by simp only [List.length_cons]; omega), if_neg (by omega), if_pos (by omega), h0, digits_is f (hf f List.mem_cons_self) k (by omega)]
  simp only [Option.bind_some]
  rw [if_pos (by rw [B8_size, B8_size]; simp only [List.length_cons, List.length_nil]; omega), B8_append]
  have := textS_loop (f :: r) hf (by simp; omega) r.length 1 k ([dig n, 58] ++ word f) (by simp) (by omega) (by simp) (by omega) (by simp only [List.length_append, List.length_cons, List.length_nil]; omega)
  rw [show wrap64 ((0 : Int) + 1) = ((1 : Nat) : Int) from w64 _ (by omega) (by omega), this]
  simp only [List.drop_succ_cons, List.drop_zero, List.map_cons, Lib.join_cons]
  simp

end Go.Proofs.YtaeabbackmnioaaDoor.K
end

section
/- Written by a program of this session (myprint.py over the kit's print). -/
namespace Go.Proofs.YtaeabbackmnioaaDoor.Q
open Go.RowKit Go.Proofs.YtaeabbackmnioaaDoorW.PrintWords Go.Proofs.YtaeabbackmnioaaDoorW.PrintLast Go.Proofs.YtaeabbackmnioaaDoorW.PrintMore
attribute [local go_sem] max2_int min2_int max_two min_two max_three min_three max_four min_four   -- for this text's walks alone
set_option linter.unusedVariables false
set_option linter.unusedSimpArgs false

/-! ### spec_ComplexText: function 14 -/
def spec_ComplexText.f (k : Nat) (a0_0 : Int) (l0_1 : List Int) : Option (ByteArray × Int) := (spec_l01Is.f k a0_0 l0_1).bind fun t224 => (if t224 = true then ((spec_l01Text.f k a0_0 l0_1).bind fun t225 => (some (t225, 0))) else (some ((⟨#[]⟩ : ByteArray), 1)))
theorem spec_ComplexText.mono : ∀ a0 a1 k, LeO (spec_ComplexText.f k a0 a1) (spec_ComplexText.f (k + 1) a0 a1) := by
 intro a0 a1 k
 unfold spec_ComplexText.f
 repeat' first
   | (with_reducible exact spec_l01Is.mono _ _ _)
   | (with_reducible exact spec_l01Text.mono _ _ _)
   | (with_reducible exact LeO.refl _)
   | (with_reducible exact LeO.none _)
   | (with_reducible refine LeO.ite ?_ ?_)
   | (with_reducible refine LeO.bind ?_ (fun _ => ?_))
   | exact spec_l01Is.mono _ _ _
   | exact spec_l01Text.mono _ _ _
   | exact LeO.none _
   | refine LeO.ite ?_ ?_
   | refine LeO.bind ?_ (fun _ => ?_)
set_option maxHeartbeats 8000000 in
set_option maxRecDepth 100000 in
theorem spec_ComplexText.calls (k : Nat) (a0_0 : Int) (A0_1 : Option Addr) (c0_1 : Nat) (l0_1 : List Int) (r1 : ByteArray) (r2 : Int) (w : World) (hr0_1 : Kd.C (Kd.int .i64) w A0_1 l0_1.length l0_1) (hc0_1 : l0_1.length ≤ c0_1) (h : spec_ComplexText.f k a0_0 l0_1 = some (r1, r2)) :
  Calls Tryd.prog 14 #[.agg #[.int .i64 a0_0, .slice A0_1 l0_1.length c0_1]] w fun e w' => e = .returned (.tuple #[.string r1, .int .i64 r2]) ∧ Below w.heap.size w w' := by
 have hu24 := Tryd.underlying24
 have HR0_1 := Aside0.mk hr0_1
 have HC0_1 := Aside0.mk hc0_1
 clear hr0_1 hc0_1
 have HB := Aside0.mk (Below.refl w.heap.size w)
 have H : ((spec_l01Is.f k a0_0 l0_1).bind fun t224 => (if t224 = true then ((spec_l01Text.f k a0_0 l0_1).bind fun t225 => (some (t225, 0))) else (some ((⟨#[]⟩ : ByteArray), 1)))) = some (r1, r2) := h
 clear h
 replace H := Option.bind_eq_some_iff.mp H
 obtain ⟨t224, A20, H⟩ := H
 replace H : (if t224 = true then ((spec_l01Text.f k a0_0 l0_1).bind fun t225 => (some (t225, 0))) else (some ((⟨#[]⟩ : ByteArray), 1))) = some (r1, r2) := H
 have A2 := Aside0.mk A20
 clear A20
 by_cases c3 : t224 = true
 ·subst c3
  have H1 : ((spec_l01Text.f k a0_0 l0_1).bind fun t225 => (some (t225, 0))) = some (r1, r2) := by rw [if_pos rfl] at H; exact H
  clear H
  have H := H1
  clear H1
  replace H := Option.bind_eq_some_iff.mp H
  obtain ⟨t225, A40, H⟩ := H
  replace H : (some (t225, 0)) = some (r1, r2) := H
  have A4 := Aside0.mk A40
  clear A40
  simp only [Option.some.injEq, Prod.mk.injEq] at H
  obtain ⟨rfl, rfl⟩ := H
  go_enter Tryd.func14, Tryd.ntmps14
  go_wp2_with (first | ((with_reducible refine gate_dst (N := 1) rfl ?_); refine box_event ?hg (N := 1) ?hd (cs := #[.int .i64 a0_0, .slice A0_1 l0_1.length c0_1]) (t := 24) ?hr ?_; (case hd => rfl); (case hg => rfl); (case hr => first | (go_simp; done) | (go_simp; rfl)); intro gb223 hg w5 hbox hb; have n0_ := Aside0.mk (below_step (by repeat (first | (with_reducible first | exact HB.out | apply below_alloc | apply pw_below_drewN | apply below_drew1) | exact HB.out)) hb); have n1_ := Aside0.mk (hbox); have n2_ := Aside0.mk ((by rw [hg]; exact (below_size (by repeat (first | (with_reducible first | exact HB.out | apply below_alloc | apply pw_below_drewN | apply below_drew1) | exact HB.out))) : w.heap.size ≤ gb223)); have n3_ := Aside0.mk ((by rw [hg]; exact (below_size (by repeat (first | (with_reducible first | exact HB.out | apply below_alloc | apply pw_below_drewN | apply below_drew1) | exact HB.out))) : w.heap.size ≤ gb223)); clear HB; have HB := n0_; have BK223 := n1_; have GW223 := n2_; have GE223 := n3_; clear n0_ n1_ n2_ n3_; clear hb hbox hg; have hcz6_0 : w5.cell? ⟨gb223, 0, none⟩ = some (.int .i64 a0_0) := (blk_cell BK223.out 0).trans rfl; have hcz6_1 : w5.cell? ⟨gb223, 1, none⟩ = some (.slice A0_1 l0_1.length c0_1) := (blk_cell BK223.out 1).trans rfl; have hfz6_0 := blk_frozen BK223.out 0; have hfz6_1 := blk_frozen BK223.out 1) | ((with_reducible refine gate_callee (f := 30) rfl ?_); refine goesL_ (some 5) rfl rfl Tryd.func30 (by kernel_rfl) rfl #[.agg #[.int .i64 a0_0, .slice A0_1 l0_1.length c0_1]] rfl (by (try simp only [List.map_toArray, List.map_cons, List.map_nil]); first | done | rfl | (simp only [List.length_drop, List.length_take]; rfl)) ?_; (with_reducible refine (spec_l01Is.calls k a0_0 _ _ l0_1 true _ ?side1 ?side2 A2.out).mono ?_); (case side1 => repeat (first | exact (Kd.C_below HR0_1.out HB.out) | (with_reducible refine Kd.C_alloc ?_ _) | (with_reducible refine Kd.C_drewN ?_ _) | (with_reducible refine Kd.C_drew ?_))); (case side2 => exact HC0_1.out); rintro e w7 ⟨rfl, hb⟩; refine ⟨_, rfl, ?_⟩; have n0_ := Aside0.mk (blk_below (g := gb223) (o := .cells #[.int .i64 a0_0, .slice A0_1 l0_1.length c0_1] 24 (0, 0)) (by (with_reducible repeat (first | refine blk_drewN ?_ _ | refine blk_drew ?_ | refine blk_alloc ?_ _)); exact BK223.out) hb); have n1_ := Aside0.mk (below_step (by repeat (first | (with_reducible first | exact HB.out | apply below_alloc | apply pw_below_drewN | apply below_drew1 | refine below_set ?_ GE223.out) | exact HB.out)) hb); clear BK223; clear HB; have BK223 := n0_; have HB := n1_; clear n0_ n1_; (try clear hb); (try clear hb2); (try clear hk); (try clear hi); have hcz8_0 : w7.cell? ⟨gb223, 0, none⟩ = some (.int .i64 a0_0) := (blk_cell BK223.out 0).trans rfl; have hcz8_1 : w7.cell? ⟨gb223, 1, none⟩ = some (.slice A0_1 l0_1.length c0_1) := (blk_cell BK223.out 1).trans rfl; have hfz8_0 := blk_frozen BK223.out 0; have hfz8_1 := blk_frozen BK223.out 1) | ((with_reducible refine gate_callee (f := 31) rfl ?_); refine goesL_ (some 8) rfl rfl Tryd.func31 (by kernel_rfl) rfl #[.agg #[.int .i64 a0_0, .slice A0_1 l0_1.length c0_1]] rfl (by (try simp only [List.map_toArray, List.map_cons, List.map_nil]); first | done | rfl | (simp only [List.length_drop, List.length_take]; rfl)) ?_; (with_reducible refine (spec_l01Text.calls k a0_0 _ _ l0_1 t225 _ ?side1 ?side2 A4.out).mono ?_); (case side1 => repeat (first | exact (Kd.C_below HR0_1.out HB.out) | (with_reducible refine Kd.C_alloc ?_ _) | (with_reducible refine Kd.C_drewN ?_ _) | (with_reducible refine Kd.C_drew ?_))); (case side2 => exact HC0_1.out); rintro e w9 ⟨rfl, hb⟩; refine ⟨_, rfl, ?_⟩; have n0_ := Aside0.mk (blk_below (g := gb223) (o := .cells #[.int .i64 a0_0, .slice A0_1 l0_1.length c0_1] 24 (0, 0)) (by (with_reducible repeat (first | refine blk_drewN ?_ _ | refine blk_drew ?_ | refine blk_alloc ?_ _)); exact BK223.out) hb); have n1_ := Aside0.mk (below_step (by repeat (first | (with_reducible first | exact HB.out | apply below_alloc | apply pw_below_drewN | apply below_drew1 | refine below_set ?_ GE223.out) | exact HB.out)) hb); clear BK223; clear HB; have BK223 := n0_; have HB := n1_; clear n0_ n1_; (try clear hb); (try clear hb2); (try clear hk); (try clear hi)))
  go_ret2
  exact ⟨by first | rfl | (simp [errW_none, errW_some] <;> rfl) | (simp [*, errW_none, errW_some] <;> rfl), by repeat (first | (with_reducible first | exact HB.out | apply below_alloc | apply pw_below_drewN | apply below_drew1 | refine below_set ?_ GE223.out) | exact HB.out)⟩
 ·replace c3 := Bool.eq_false_iff.mpr c3
  subst c3
  have H1 : (some ((⟨#[]⟩ : ByteArray), 1)) = some (r1, r2) := by rw [if_neg (show ¬ (false = true) by decide)] at H; exact H
  clear H
  have H := H1
  clear H1
  simp only [Option.some.injEq, Prod.mk.injEq] at H
  obtain ⟨rfl, rfl⟩ := H
  go_enter Tryd.func14, Tryd.ntmps14
  go_wp2_with (first | ((with_reducible refine gate_dst (N := 1) rfl ?_); refine box_event ?hg (N := 1) ?hd (cs := #[.int .i64 a0_0, .slice A0_1 l0_1.length c0_1]) (t := 24) ?hr ?_; (case hd => rfl); (case hg => rfl); (case hr => first | (go_simp; done) | (go_simp; rfl)); intro gb223 hg w10 hbox hb; have n0_ := Aside0.mk (below_step (by repeat (first | (with_reducible first | exact HB.out | apply below_alloc | apply pw_below_drewN | apply below_drew1) | exact HB.out)) hb); have n1_ := Aside0.mk (hbox); have n2_ := Aside0.mk ((by rw [hg]; exact (below_size (by repeat (first | (with_reducible first | exact HB.out | apply below_alloc | apply pw_below_drewN | apply below_drew1) | exact HB.out))) : w.heap.size ≤ gb223)); have n3_ := Aside0.mk ((by rw [hg]; exact (below_size (by repeat (first | (with_reducible first | exact HB.out | apply below_alloc | apply pw_below_drewN | apply below_drew1) | exact HB.out))) : w.heap.size ≤ gb223)); clear HB; have HB := n0_; have BK223 := n1_; have GW223 := n2_; have GE223 := n3_; clear n0_ n1_ n2_ n3_; clear hb hbox hg; have hcz11_0 : w10.cell? ⟨gb223, 0, none⟩ = some (.int .i64 a0_0) := (blk_cell BK223.out 0).trans rfl; have hcz11_1 : w10.cell? ⟨gb223, 1, none⟩ = some (.slice A0_1 l0_1.length c0_1) := (blk_cell BK223.out 1).trans rfl; have hfz11_0 := blk_frozen BK223.out 0; have hfz11_1 := blk_frozen BK223.out 1) | ((with_reducible refine gate_callee (f := 30) rfl ?_); refine goesL_ (some 5) rfl rfl Tryd.func30 (by kernel_rfl) rfl #[.agg #[.int .i64 a0_0, .slice A0_1 l0_1.length c0_1]] rfl (by (try simp only [List.map_toArray, List.map_cons, List.map_nil]); first | done | rfl | (simp only [List.length_drop, List.length_take]; rfl)) ?_; (with_reducible refine (spec_l01Is.calls k a0_0 _ _ l0_1 false _ ?side1 ?side2 A2.out).mono ?_); (case side1 => repeat (first | exact (Kd.C_below HR0_1.out HB.out) | (with_reducible refine Kd.C_alloc ?_ _) | (with_reducible refine Kd.C_drewN ?_ _) | (with_reducible refine Kd.C_drew ?_))); (case side2 => exact HC0_1.out); rintro e w12 ⟨rfl, hb⟩; refine ⟨_, rfl, ?_⟩; have n0_ := Aside0.mk (blk_below (g := gb223) (o := .cells #[.int .i64 a0_0, .slice A0_1 l0_1.length c0_1] 24 (0, 0)) (by (with_reducible repeat (first | refine blk_drewN ?_ _ | refine blk_drew ?_ | refine blk_alloc ?_ _)); exact BK223.out) hb); have n1_ := Aside0.mk (below_step (by repeat (first | (with_reducible first | exact HB.out | apply below_alloc | apply pw_below_drewN | apply below_drew1 | refine below_set ?_ GE223.out) | exact HB.out)) hb); clear BK223; clear HB; have BK223 := n0_; have HB := n1_; clear n0_ n1_; (try clear hb); (try clear hb2); (try clear hk); (try clear hi)))
  go_ret2
  exact ⟨by first | rfl | (simp [errW_none, errW_some] <;> rfl) | (simp [*, errW_none, errW_some] <;> rfl), by repeat (first | (with_reducible first | exact HB.out | apply below_alloc | apply pw_below_drewN | apply below_drew1 | refine below_set ?_ GE223.out) | exact HB.out)⟩

end Go.Proofs.YtaeabbackmnioaaDoor.Q
end

section
/- ComplexText: the program's and the reference's. -/
namespace Go.Proofs.YtaeabbackmnioaaDoor.K
open Go.RowKit Go.Shelf Go.Proofs.YtaeabbackmnioaaDoor.Q Go.Proofs.YtaeabbackmnioaaDoor.X Go.Proofs.YtaeabbackmnioaaDoor.D Go.Proofs.YtaeabbackmnioaaDoorW.PrintWords Go.Proofs.YtaeabbackmnioaaDoorW.PrintLast Go.Proofs.YtaeabbackmnioaaDoorW.PrintMore
set_option linter.unusedVariables false
set_option linter.unusedSimpArgs false

/-- What ComplexText answers. -/
def textOf (n : Int) (l : List Int) : ByteArray := if isC n l = true then B8 (textU n (facetsL l)) else ⟨#[]⟩
theorem text_calls {n : Int} {l : List Int} (hi : isC n l = true) (A : Option Addr) (c : Nat) (w : World) (hk : Kx w A c l) :
  Calls Tryd.prog 23 #[.agg #[I n, .slice A l.length c]] w fun e w' => e = .returned (.string (B8 (textU n (facetsL l)))) ∧ Grew w w' :=
 impl_Complex_text.calls 1400 n A c l _ w hk.r hk.c (textI_is hi 1400 (Nat.le_refl _))
set_option maxHeartbeats 2000000 in
theorem ComplexText_calls (n : Int) (A : Option Addr) (c : Nat) (l : List Int) (w : World) (hk : Kx w A c l) :
  Calls Tryd.prog 16 #[.agg #[I n, .slice A l.length c]] w fun e w' => e = .returned (.tuple #[.string (textOf n l), I (codeOf n l true)]) ∧ Grew w w' := by
 have hg : Grew w (w.alloc (.cells #[I n, .slice A l.length c] 24)) := below_alloc (Grew.refl w) _
 have hB : CB (w.alloc (.cells #[I n, .slice A l.length c] 24)) w.heap.size n (.slice A l.length c) := blk_new w _
 have H := Aside0.mk (complexCode_calls true n A c l 34 #[] #[] _ (hk.later hg) (enters_of Tryd.func34 (by kernel_rfl) rfl) (fun _ => always_answers _))
 have HK := Aside0.mk hk
 have HG := Aside0.mk hg
 have HB := Aside0.mk hB
 clear hk hg hB
 cases hi : isC n l with
 | false =>
  have HV : Aside0 (codeOf n l true = 1) := ⟨by simp [codeOf, hi]⟩
  have HT : Aside0 (textOf n l = ⟨#[]⟩) := ⟨by simp [textOf, hi]⟩
  rw [HV.out] at H ⊢
  rw [HT.out]
  clear hi
  go_enter Tryd.func16, Tryd.ntmps16
  go_wp2_with fail
  refine H.out.mono ?_
  rintro e w1 ⟨rfl, hG1⟩
  go_wp2_with fail
  go_ret2
  exact ⟨rfl, Grew.trans HG.out hG1⟩
 | true =>
  have HV : Aside0 (codeOf n l true = 0) := ⟨by simp [codeOf, hi]⟩
  have HT : Aside0 (textOf n l = B8 (textU n (facetsL l))) := ⟨by simp [textOf, hi]⟩
  have HI := Aside0.mk hi
  rw [HV.out] at H ⊢
  rw [HT.out]
  clear hi
  generalize hz : B8 (textU n (facetsL l)) = z
  have HZ := Aside0.mk hz
  clear hz
  go_enter Tryd.func16, Tryd.ntmps16
  go_wp2_with fail
  refine H.out.mono ?_
  rintro e w1 ⟨rfl, hG1⟩
  have HG1 := Aside0.mk (Grew.trans HG.out hG1)
  have k0 := (CB.later HB.out hG1).c0
  have k1 := (CB.later HB.out hG1).c1
  have H2 := Aside0.mk (text_calls HI.out A c w1 (HK.out.later HG1.out))
  rw [HZ.out] at H2
  clear hG1
  go_wp2_with fail
  refine H2.out.mono ?_
  rintro e w2 ⟨rfl, hG2⟩
  go_wp2_with fail
  go_ret2
  exact ⟨rfl, Grew.trans HG1.out hG2⟩

theorem specText_is (n : Int) (l : List Int) (hl : l.length ≤ 2097152) (k : Nat) (hk : isK l + 300 ≤ k) : spec_ComplexText.f k n l = some (textOf n l, codeOf n l true) := by
 unfold spec_ComplexText.f
 rw [specIs_is n l hl k (by omega)]
 simp only [Option.bind_some]
 cases hi : isC n l with
 | false => simp [codeOf, textOf, hi]
 | true =>
  rw [textS_is hi k (by omega)]
  simp [codeOf, textOf, hi]

end Go.Proofs.YtaeabbackmnioaaDoor.K
end

section
/- The walk through the law FnExactComplexText. -/
namespace Go.Proofs.YtaeabbackmnioaaDoor.K
open Go.RowKit Go.Shelf Go.Proofs.YtaeabbackmnioaaDoor.Q Go.Proofs.YtaeabbackmnioaaDoorW.PrintWords Go.Proofs.YtaeabbackmnioaaDoorW.PrintLast Go.Proofs.YtaeabbackmnioaaDoorW.PrintMore
set_option linter.unusedVariables false
set_option linter.unusedSimpArgs false

set_option maxRecDepth 100000 in
set_option maxHeartbeats 4000000 in
theorem LComplexText_calls (n0 : Int) (A0 : Option Addr) (c0 : Nat) (l0 : List Int) (w : World) (hr0 : Ki.C w A0 l0.length l0) (hc0 : l0.length ≤ c0) :
  Calls Tryd.prog 5 #[.agg #[I n0, .slice A0 l0.length c0]] w fun e w' => e = .returned (.bool true) ∧ Grew w w' := by
 have hbig0 := hr0.2.1
 have HR0 := Aside0.mk hr0
 have HC0 := Aside0.mk hc0
 clear hr0 hc0
 have hg0 : Grew w (w.alloc (.cells #[I n0, .slice A0 l0.length c0] 30)) := below_alloc (Grew.refl w) _
 have H0 := Aside0.mk (szC_calls n0 A0 c0 l0 1048576 (by omega) _ (Kd.C_below HR0.out hg0) HC0.out)
 have HM0 := Aside0.mk (Mem.cons (it := .box w.heap.size 30 #[I n0, .slice A0 l0.length c0]) (blk_new w _) (Mem.nil _))
 have HG0 := Aside0.mk hg0
 clear hg0
 by_cases hl0 : 1048576 < (l0.length : Int)
 ·rw [if_pos (by omega)] at H0
  go_enter Tryd.func5, Tryd.ntmps5
  go_wp2_with fail
  refine H0.out.mono ?_
  rintro e w1 ⟨rfl, hG1⟩
  go_wp2_with fail
  go_ret
  exact ⟨rfl, Grew.trans HG0.out hG1⟩
 ·rw [if_neg (by omega)] at H0
  have hcmp : ¬ ((1048576 : Int) - l0.length < 0) := by omega
  obtain ⟨r0, r1, HS, HI⟩ : ∃ (r0 : ByteArray) (r1 : Int), Aside0 (∀ W A0 c0, Ki.C W A0 l0.length l0 → l0.length ≤ c0 → Calls Tryd.prog 14 #[.agg #[I n0, .slice A0 l0.length c0]] W fun e w' => e = .returned (.tuple #[.string r0, I r1]) ∧ Grew W w') ∧ Aside0 (∀ W A0 c0, Ki.C W A0 l0.length l0 → l0.length ≤ c0 → Calls Tryd.prog 16 #[.agg #[I n0, .slice A0 l0.length c0]] W fun e w' => e = .returned (.tuple #[.string r0, I r1]) ∧ Grew W w') := by
   have hS := fun (W : World) (A0 : Option Addr) (c0 : Nat) => fun (hr0 : Ki.C W A0 l0.length l0) (hc0 : l0.length ≤ c0) => spec_ComplexText.calls (isK l0 + 300) n0 A0 c0 l0 _ _ W hr0 hc0 (specText_is n0 l0 (by omega) _ (Nat.le_refl _))
   have hI := fun (W : World) (A0 : Option Addr) (c0 : Nat) => fun (hr0 : Ki.C W A0 l0.length l0) (hc0 : l0.length ≤ c0) => ComplexText_calls n0 A0 c0 l0 W ⟨hr0, hc0, by omega⟩
   exact ⟨(textOf n0 l0), (codeOf n0 l0 true), ⟨hS⟩, ⟨hI⟩⟩
  go_enter Tryd.func5, Tryd.ntmps5
  go_wp2_with fail
  refine H0.out.mono ?_
  rintro e w1 ⟨rfl, hG1⟩
  clear H0
  have HM1 := Aside0.mk (HM0.out.grew hG1)
  have HG1 := Aside0.mk (Grew.trans HG0.out hG1)
  have hs0 : w.heap.size + 1 ≤ w1.heap.size := by have := hG1.size; simpa using this
  clear hG1 HM0 HG0
  have p0_0 : w1.cell? ⟨w.heap.size, 0, none⟩ = some (I n0) := blk_cell HM1.out.head 0
  have p0_1 : w1.cell? ⟨w.heap.size, 1, none⟩ = some (.slice A0 l0.length c0) := blk_cell HM1.out.head 1
  go_wp2_with fail
  clear p0_0 p0_1
  refine (toC_calls n0 A0 c0 l0 w1 (Kd.C_below HR0.out HG1.out) HC0.out (by omega)).mono ?_
  rintro e w2 ⟨AS0, cS0, rfl, hR2, hG2⟩
  have HM2 : Aside0 (Mem w2 [.row w1.heap.size w2.heap.size (.slice AS0 l0.length cS0) l0, .box w.heap.size 30 #[I n0, .slice A0 l0.length c0]]) := ⟨Mem.cons (it := .row w1.heap.size w2.heap.size (.slice AS0 l0.length cS0) l0) (hR2) (HM1.out.grew hG2)⟩
  have HG2 := Aside0.mk (Grew.trans HG1.out hG2)
  have hs2 := hG2.size
  clear hG2 
  go_wp2_with fail
  refine (HS.out w2 AS0 cS0 (Row.slice HM2.out.head).2.2 (Row.slice HM2.out.head).2.1).mono ?_
  rintro e w3 ⟨rfl, hG3⟩
  have HM3 := Aside0.mk (HM2.out.grew hG3)
  have HG3 := Aside0.mk (Grew.trans HG2.out hG3)
  have hs3 := hG3.size
  clear hG3
  have p0_0 : w3.cell? ⟨w.heap.size, 0, none⟩ = some (I n0) := blk_cell HM3.out.tail.head 0
  have p0_1 : w3.cell? ⟨w.heap.size, 1, none⟩ = some (.slice A0 l0.length c0) := blk_cell HM3.out.tail.head 1
  go_wp2_with fail
  clear p0_0 p0_1
  refine (toC_calls n0 A0 c0 l0 w3 (Kd.C_below HR0.out HG3.out) HC0.out (by omega)).mono ?_
  rintro e w4 ⟨Ax0, cx0, rfl, hR4, hG4⟩
  have HM4 : Aside0 (Mem w4 [.row w3.heap.size w4.heap.size (.slice Ax0 l0.length cx0) l0, .row w1.heap.size w2.heap.size (.slice AS0 l0.length cS0) l0, .box w.heap.size 30 #[I n0, .slice A0 l0.length c0]]) := ⟨Mem.cons (it := .row w3.heap.size w4.heap.size (.slice Ax0 l0.length cx0) l0) (hR4) (HM3.out.grew hG4)⟩
  have HG4 := Aside0.mk (Grew.trans HG3.out hG4)
  have hs4 := hG4.size
  clear hG4 
  have HM5 : Aside0 (Mem (w4.alloc (.cells #[I n0, .slice Ax0 l0.length cx0] 24)) [.box w4.heap.size 24 #[I n0, .slice Ax0 l0.length cx0], .row w3.heap.size w4.heap.size (.slice Ax0 l0.length cx0) l0, .row w1.heap.size w2.heap.size (.slice AS0 l0.length cS0) l0, .box w.heap.size 30 #[I n0, .slice A0 l0.length c0]]) := ⟨Mem.cons (blk_new w4 _) (HM4.out.grew (below_alloc (Grew.refl w4) _))⟩
  have HG5 : Aside0 (Grew w (w4.alloc (.cells #[I n0, .slice Ax0 l0.length cx0] 24))) := ⟨Grew.trans HG4.out (below_alloc (Grew.refl w4) _)⟩
  have hS5 : (w4.alloc (.cells #[I n0, .slice Ax0 l0.length cx0] 24)).heap.size = w4.heap.size + 1 := by simp
  have bx0_0 : (w4.alloc (.cells #[I n0, .slice Ax0 l0.length cx0] 24)).cell? ⟨w4.heap.size, 0, none⟩ = some (I n0) := blk_cell HM5.out.head 0
  have bx0_1 : (w4.alloc (.cells #[I n0, .slice Ax0 l0.length cx0] 24)).cell? ⟨w4.heap.size, 1, none⟩ = some (.slice Ax0 l0.length cx0) := blk_cell HM5.out.head 1
  go_wp2_with fail
  generalize (w4.alloc (.cells #[I n0, .slice Ax0 l0.length cx0] 24)) = W5 at HM5 HG5 hS5 bx0_0 bx0_1 ⊢
  clear bx0_0 bx0_1
  refine (HI.out W5 Ax0 cx0 (Row.slice HM5.out.tail.head).2.2 (Row.slice HM5.out.tail.head).2.1).mono ?_
  rintro e w6 ⟨rfl, hG6⟩
  have HM6 := Aside0.mk (HM5.out.grew hG6)
  have HG6 := Aside0.mk (Grew.trans HG5.out hG6)
  have hs6 := hG6.size
  clear hG6
  go_wp2_with fail
  have bx0_0 : w6.cell? ⟨w4.heap.size, 0, none⟩ = some (I n0) := blk_cell HM6.out.head 0
  have bx0_1 : w6.cell? ⟨w4.heap.size, 1, none⟩ = some (.slice Ax0 l0.length cx0) := blk_cell HM6.out.head 1
  have p0_0 : w6.cell? ⟨w.heap.size, 0, none⟩ = some (I n0) := blk_cell HM6.out.tail.tail.tail.head 0
  have p0_1 : w6.cell? ⟨w.heap.size, 1, none⟩ = some (.slice A0 l0.length c0) := blk_cell HM6.out.tail.tail.tail.head 1
  have hlx : w4.heap.size < w6.heap.size := World.block_lt_of_cell? w6 _ bx0_0
  have hlp : w.heap.size < w6.heap.size := World.block_lt_of_cell? w6 _ p0_0
  go_region_held3 (fun w' => w'.cell? ⟨w4.heap.size, 0, none⟩ = some (I n0) ∧ w'.cell? ⟨w4.heap.size, 1, none⟩ = some (.slice Ax0 l0.length cx0) ∧ w'.cell? ⟨w.heap.size, 0, none⟩ = some (I n0) ∧ w'.cell? ⟨w.heap.size, 1, none⟩ = some (.slice A0 l0.length c0))
   (first | exact ⟨(HDb.out.cell (p := ⟨w4.heap.size, 0, none⟩) hlx).trans bx0_0, (HDb.out.cell (p := ⟨w4.heap.size, 1, none⟩) hlx).trans bx0_1, (HDb.out.cell (p := ⟨w.heap.size, 0, none⟩) hlp).trans p0_0, (HDb.out.cell (p := ⟨w.heap.size, 1, none⟩) hlp).trans p0_1⟩ | exact ⟨(HDa.out.cell (p := ⟨w4.heap.size, 0, none⟩) hlx).trans bx0_0, (HDa.out.cell (p := ⟨w4.heap.size, 1, none⟩) hlx).trans bx0_1, (HDa.out.cell (p := ⟨w.heap.size, 0, none⟩) hlp).trans p0_0, (HDa.out.cell (p := ⟨w.heap.size, 1, none⟩) hlp).trans p0_1⟩ | go_keep)
   (first
    | (go_at_call 15; refine (toC_calls n0 A0 c0 l0 _ (Kd.C_below HR0.out (Below.trans HG6.out ((Below.refl _ w6).drew))) HC0.out (by omega)).mono ?_; rintro e w7 ⟨Aq0, cq0, rfl, hRa, hGa⟩; have HDa : Aside0 (Grew w6 w7) := ⟨Below.trans ((Below.refl _ w6).drew) hGa⟩; have HRa := Aside0.mk hRa; clear hRa hGa)
    | (go_at_call 8; refine (eqC_calls n0 l0 Ax0 Aq0 cx0 cq0 _ _ _ _ _ _ w7 (HM6.out.grew HDa.out).tail.head HRa.out).mono ?_; rintro e w8 ⟨rfl, hGb⟩; have HDb : Aside0 (Grew w6 w8) := ⟨Grew.trans HDa.out hGb⟩; clear hGb))
  clear bx0_0 bx0_1 p0_0 p0_1
  have hG8 := HDb.out
  clear hlx hlp HDa HDb HRa
  have HM8 := Aside0.mk (HM6.out.grew hG8)
  have HG8 := Aside0.mk (Grew.trans HG6.out hG8)
  have hs8 := hG8.size
  clear hG8
  go_wp2_with fail
  go_ret
  exact ⟨rfl, HG8.out⟩

end Go.Proofs.YtaeabbackmnioaaDoor.K
end

section

namespace Go.Proofs.YtaeabbackmnioaaDoor.fnExactComplexText
open Go.ChangeShapes Go.WideShapes Go.ChangeAt Go.RowKit Go.Joins Go.Proofs.YtaeabbackmnioaaDoor.K Go.Proofs.YtaeabbackmnioaaDoorW.PrintWords
open Go.ChangeMaps (open_string shut_string)
set_option linter.unusedVariables false
def laidL : List (String × DataW Unit) := [("math/bits.deBruijn32tab", Rows.laid_math_bits_deBruijn32tab), ("math/bits.deBruijn64tab", Rows.laid_math_bits_deBruijn64tab), ("internal/strconv.uint64pow10", Rows.laid_internal_strconv_uint64pow10)]
set_option maxRecDepth 100000 in
theorem lifted (os : Os) (started : os.Started) (H : Type) (enc : TypeId × Value → H) :
  ReturnsInHanded {} Tryd.checked os 5 .any (fun w args => (Rows.fnExactComplexTextSpec.pre enc Tryd.prog Tryd.f5 Rows.fnExactComplexTextRow.domain false w args ∧ laidMetH Tryd.prog laidL w) ∧ sizedMet enc Tryd.prog Tryd.f5 (OpenSpec.ofChange Rows.fnExactComplexTextSpec) false w args) (Rows.fnExactComplexTextSpec.post enc Tryd.prog Tryd.f5 false true false false) := by
 refine returnsInHanded_of_change_and (C := Tryd.checked) (X := fun w _ => laidMetH Tryd.prog laidL w) (fun _ _ _ hh h => h.of_heap hh) ownKnob_none started (by kernel_rfl) Tryd.func5
  (ChangeSpec.witness_shaped (enc := enc) (C := Tryd.checked) (os := os) (X := fun w _ => laidMetH Tryd.prog laidL w) false (World.laidAll Tryd.prog os laidL) #[.agg #[.int .i64 0, .slice none 0 0]] 8 (World.laidAll_os _ _ _)
   (World.shaped_of_ZipB (by kernel_rfl) (by kernel_rfl)) (by kernel_rfl) (by kernel_rfl) (by kernel_rfl)
   (by rw [MakeChecks.laidMetH_plain _ _ _ (by kernel_rfl)]; exact laidMet_laidAll _ (by kernel_rfl) (by kernel_rfl))) ?_
 intro W base args ds gs before hval0 hW hcnd hsz0 hL _
 have hsz : (DataW.weightsEach Tryd.prog (Tryd.f5.params.toList ++ Rows.fnExactComplexTextSpec.plain.varTypes Tryd.prog) (ds ++ gs)).all (· ≤ reachBytes) = true := hsz0
 have hval : ∀ (j : Nat) t v, Tryd.f5.params[j]? = some t → args[j]? = some v → Value.okWide Tryd.prog W .any base t v := hval0
 have hW' := hW
 obtain ⟨p, q, hA0, hV, rfl, hfz, hnd⟩ := hW
 have hA : DataW.TrodAll enc Tryd.prog W 0 (fun _ => true) true Tryd.f5.params.toList args.toList ds p := hA0
 rw [Tryd.params5] at hA hval hsz
 obtain ⟨v0, vs0, d0, ds0, p0, q0, hargs, rfl, rfl, h0, r0⟩ := trodAll_cons hA
 obtain ⟨rfl, rfl, rfl⟩ := trodAll_nil r0
 obtain rfl : args = #[v0] := by cases args; simp_all
 obtain ⟨rfl, rfl⟩ := trodVars_none hV
 have k0 := h0
 have lt0 : ∀ x ∈ p0, x.block < W.heap.size := by obtain ⟨m, hm⟩ := k0; exact DataW.trod_lt m _ _ _ hm
 obtain ⟨x0, z0, y0_0, y1_0, m0, hv0, hd0, hp0, hy0_0, hy1_0⟩ := open_agg2 Tryd.underlying30 (by kernel_rfl) (show Tryd.prog.cellsOf 30 = 2 by kernel_rfl) (hval 0 30 v0 rfl rfl) h0
 obtain ⟨n0, e0_0, _, w0⟩ := DataW.trod_int Tryd.underlying2 hy0_0
 obtain ⟨A0, c0, l0, e1_0, hc0, hr0, _⟩ := ints_open hy1_0
 simp only [List.cons.injEq, and_true] at e0_0
 subst e0_0 e1_0
 subst hv0
 clear hA0 hval0 hsz0 hsz
 refine (K.LComplexText_calls n0 A0 c0 l0 W hr0 hc0).mono fun e W' ⟨he, bel0⟩ => ?_
 have bel : Below W.heap.size W W' := bel0
 subst he
 exact ⟨_, rfl, _, _, _, [], _, [], hW', trodAll_mk1 (shut_bool Tryd.underlying4 _), (trodAll_cons_mk (Below.trod laidOut (by kernel_rfl) (of_decide_eq_true (by kernel_rfl)) k0 bel lt0) trodAll_mk0), rfl, bel.frame _, fun h => by cases h⟩
set_option maxRecDepth 100000 in
theorem starts : ∃ r, behindMainWord (wordsSigns Tryd.prog.initOrder.toList) = "cut".toList :: r := by
 have h : Tryd.prog.initOrder = String.ofList _ := rfl
 rw [h, String.toList_ofList, signs_take 7 _ rfl rfl, signs_take 64 _ rfl rfl, signs_take 3 _ rfl rfl]
 generalize wordsSigns _ = r
 exact ⟨r, by kernel_rfl⟩
set_option maxRecDepth 100000 in
theorem closed : joinedFacts Tryd.prog 5 Tryd.f5 Rows.fnExactComplexTextSpec Rows.fnExactComplexTextRow = true := by
 obtain ⟨r, h⟩ := starts
 unfold joinedFacts
 rw [cut_enter _ r h (by kernel_rfl) (by kernel_rfl) (by kernel_rfl), cut_make _ r h, cut_lifts _ r h]
 exact of_decide_eq_true (by kernel_rfl)
theorem over : Rows.fnExactComplexTextRow.holds Tryd.pinned (OpenSpec.ofChange Rows.fnExactComplexTextSpec) :=
 OpenClaim.holds_of_wide 5 Tryd.f5 rfl rfl rfl rfl rfl rfl rfl ⟨rfl, rfl, rfl, rfl, rfl⟩ rfl rfl rfl rfl rfl (by kernel_rfl) Tryd.func5 closed
  (of_decide_eq_true (by kernel_rfl)) (by unfold Func.isWrapper; first | (rw [if_pos (by decide +kernel)]; kernel_rfl) | (rw [if_neg (by decide +kernel)]; exact ⟨rfl, rfl⟩))
  (fun os started H enc _ => lifted os started H enc)
theorem proved : Rows.FnExactComplexTextSaid := over
#print axioms proved
end Go.Proofs.YtaeabbackmnioaaDoor.fnExactComplexText
namespace Go.Proofs.YtaeabbackmnioaaDoor
/-- The card: the row, its listed variables tied to the program's text. -/
theorem fnExactComplexTextCard_holds : Rows.FnExactComplexTextCardSaid :=
 Claim7.holds_tied_plain_at .later [] [.data, .data, .data] true (true, "023d4715f29fe387ed6fd4a9caf20bc03ad98bbafaf158969a1b75aeccffe5e7") true fnExactComplexText.over (fun _ h => by cases h) (by kernel_rfl) (fun _ h => by cases h) fnExactComplexText_row_tie rfl ⟨rfl, rfl⟩ (by kernel_rfl) rfl
  (fun f fn hf hfn => by
   obtain rfl : f = 5 := Option.some.inj ((show Tryd.prog.funcNamed "loop.example/g01348/laws.FnExactComplexText" = some 5 by kernel_rfl).symm.trans hf) |>.symm
   obtain rfl : fn = Tryd.f5 := (Option.some.inj (Tryd.func5.symm.trans hfn)).symm
   exact ⟨by kernel_rfl, fun j t ht => by
    rw [Tryd.params5] at ht
    have hm : t ∈ [30] := by simpa using Array.mem_of_getElem? ht
    have hall : ([30].all fun u => !Tryd.prog.wantsStandIn u) = true := by kernel_rfl
    exact (show Tryd.prog.wantsStandIn t = false by simpa using List.all_eq_true.1 hall t hm)⟩)
  (by kernel_rfl)
#print axioms fnExactComplexTextCard_holds
end Go.Proofs.YtaeabbackmnioaaDoor
end
