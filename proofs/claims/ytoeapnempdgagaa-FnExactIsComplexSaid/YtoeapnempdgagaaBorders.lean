/- borders: the sets with one vertex less than a face, ascending, without the empty one. -/
import Derived.Test.YtoeapnempdgagaaBw
import Derived.Test.YtoeapnempdgagaaVert
namespace Go.Proofs.Ytoeapnempdgagaa.K
open Go.RowKit Go.Shelf Go.Proofs.YtoeapnempdgagaaW.PrintWords Go.Proofs.YtoeapnempdgagaaW.PrintLast Go.Proofs.YtoeapnempdgagaaW.PrintMore
set_option linter.unusedVariables false
set_option linter.unusedSimpArgs false
attribute [local go_sem] Oper.semAt_some

/-- f without the vertex v. -/
def without (f v : Int) : Int := Go.bits .andNot .i64 f (IntKind.i64.wrap (2 ^ v.toNat))
def bordsOf (f : Int) (vs : List Int) : List Int := (vs.map (without f)).filter (· ≠ 0)
def bords (f : Int) : List Int := bordsOf f (verts f).reverse

theorem info2 : (Try.prog.info? 2).map (fun i => (i.zero, i.size, i.bytes)) = some (some (.int .i64 0), 1, 8) := by kernel_rfl

theorem bordsOf_snoc (f : Int) (vs : List Int) (v : Int) : bordsOf f (vs ++ [v]) = bordsOf f vs ++ if without f v = 0 then [] else [without f v] := by
  unfold bordsOf
  by_cases h : without f v = 0 <;> simp [List.filter_cons, h]
theorem bordsOf_length (f : Int) (vs : List Int) : (bordsOf f vs).length ≤ vs.length := by
  unfold bordsOf
  have := List.length_filter_le (fun x : Int => decide (x ≠ 0)) (vs.map (without f))
  simpa using this

theorem boxed_own' {β : Type} (B : Nat) (t : TypeId) (f : β → Value) : Own (fun s W => Boxed W B t (f s)) := fun s X Y row hs hg hrow =>
  hs.kept hg (fun e' => by
    obtain ⟨o, ho, hc⟩ := hrow B e'.symm
    rw [show X.heap[B]? = _ from hs] at ho
    cases ho
    cases hc)
theorem own_size {β : Type} (n B : Nat) : OwnFrom B (fun (_ : β) W => n ≤ W.heap.size) := fun _ _ _ _ hs hg _ => Nat.le_trans hs hg.size
def vxs (f : Int) : List Vx := (verts f).attach.map fun x => ⟨x.1, by have := verts_range f x.1 x.2; omega⟩
theorem vxs_val (f : Int) : (vxs f).map (·.val) = verts f := by simp [vxs]
theorem verts_length (f : Int) : (verts f).length ≤ 6 := by
  unfold verts
  have := List.length_filter_le (vbit f) [0, 1, 2, 3, 4, 5]
  simpa using this
theorem vxs_length (f : Int) : (vxs f).length ≤ 6 := by
  have := congrArg List.length (vxs_val f)
  have h := verts_length f
  simp at this; omega

theorem R_Vs {W : World} {base B n : Nat} {ok : Nat → Prop} {v : Value} {zs : List Vx} (h : Ki.R 2 W base ok v (zs.map (·.val))) (hB : B < base) (hn : W.heap.size ≤ n) : Vs B n W v zs := by
  have ho := Kd.own_of_R h
  rcases ho.2 with ⟨rfl, h0⟩ | ⟨g, cap, cur, rfl, hg, hh, r⟩
  · left
    simp at h0
    exact ⟨rfl, h0⟩
  · right
    refine ⟨g, cap, by simp, ?_, by omega, fun j hj => ?_⟩
    · have := (Array.getElem?_eq_some_iff.1 hh).1; omega
    · have := (Kd.R_cell (0 : Int) h (j : Int) (by omega) (by simpa using hj)).1
      simpa [rdOf, hj] using this

set_option maxRecDepth 100000 in
set_option maxHeartbeats 2000000 in
theorem borders_in (f : Int) (w : World) :
    CallsIn Fence.wide 3 Try.prog 58 #[I f] w fun e w' => ∃ v, e = .returned v ∧ Ki.R 2 w' w.heap.size (fun _ => True) v (bords f) ∧ Grew w w' := by
  obtain ⟨i0, hi, hz0, hz1, hz2⟩ := info_parts info2
  refine callsIn_of_wp_marks Try.func58 rfl trivial ?_ rfl
  simp only [Try.ntmps58, List.size_toArray, List.length_cons, List.length_nil, Nat.reduceAdd, Nat.reduceSub, Array.replicate_succ, Array.replicate_zero, List.push_toArray, List.append_toArray, List.nil_append, List.cons_append]
  gi_wp2
  refine ⟨trivial, ?_⟩
  refine (callsIn_wide.2 (vertices_calls f _)).mono ?_
  rintro e w1 ⟨v, rfl, hR, hG⟩
  have hz : w.heap.size + 2 ≤ w1.heap.size := by have := hG.size; simpa using this
  have hB1 : Grew w w1 := (below_alloc (below_alloc (Grew.refl w) _) _).trans (hG.mono (by simp; omega))
  obtain ⟨A, c, hv⟩ := Kd.R_slice hR
  subst hv
  have bF : Boxed w1 w.heap.size 2 (I f) := blk_below (blk_alloc (blk_new w _) _) hG
  have bO : Boxed w1 (w.heap.size + 1) 23 (.slice none 0 0) := by
    have := blk_new (w.alloc (.cells #[I f] 2)) (.cells #[.slice none 0 0] 23)
    rw [World.size_alloc] at this
    exact blk_below this hG
  have hVs : Vs (w.heap.size + 1) (w1.heap.size + 1) w1 (.slice A (verts f).length c) (vxs f) := R_Vs (base := w.heap.size + 2) (by rw [vxs_val]; simpa using hR) (by omega) (by omega)
  have HVs := Aside0.mk hVs
  have HB1 := Aside0.mk hB1
  have HBF := Aside0.mk bF
  have HBO := Aside0.mk bO
  clear hVs hB1 bF bO hR hG
  gi_wp2
  refine ⟨trivial, ?_⟩
  refine (Backward_in Fence.wide _ trivial rfl _ _ _ _).mono ?_
  rintro e w2 ⟨rfl, rfl⟩
  gi_wp2
  have hBo : Boxed (w1.alloc (.cells #[.slice A (verts f).length c] 23)) (w.heap.size + 1) 23 (.slice none 0 0) := HBO.out.alloc _
  refine wpIn_rangeFunc_ownG rfl (by omega) (gf := 104) (lb := #[.pointer (some ⟨w1.heap.size, 0, none⟩)]) rfl trivial (enters_of Try.func104 (by kernel_rfl) rfl)
    (Backward_stops Fence.wide _ trivial rfl (by omega) w1.heap.size (w.heap.size + 1) (w1.heap.size + 1) (.slice A (verts f).length c) (vxs f) (by have := vxs_length f; omega) _ (by omega) (by omega) (by simp) (Boxed.new w1 23 _).cell
      (by
        rcases HVs.out with h | ⟨b, cap, h1, h2, h3, h4⟩
        · exact .inl h
        · exact .inr ⟨b, cap, h1, h2, h3, fun j hj => by
            have h5 := h4 j hj
            have hlt : b < w1.heap.size := by
              unfold World.cell? at h5
              split at h5
              · rename_i he; exact (Array.getElem?_eq_some_iff.1 he).1
              · cases h5
            exact ((below_alloc (Grew.refl w1) _).cell (p := ⟨b, j, none⟩) hlt).trans h5⟩))
    (fun h k => KeptBut.t h k)
    (fun W l o o' hl ho _ _ k hk _ => by
      have := (grownBy_putObj' W l o').block k (by have := (Array.getElem?_eq_some_iff.1 ho).1; simp at hl; omega) (by intro e; cases e; simp at hl; omega)
      exact this)
    (Grew.refl _) (fun _ => rfl)
    (fun pre W => ((∃ v, Boxed W (w.heap.size + 1) 23 v ∧ W.ownsRow (w1.heap.size + 1) 2 1 v (bordsOf f (pre.map (·.2.val))).length ((bordsOf f (pre.map (·.2.val))).map (Value.int .i64)) ∧ True) ∧ Boxed W w.heap.size 2 (I f)) ∧ w1.heap.size + 1 ≤ W.heap.size ∧ Below w.heap.size w W)
    (fun _ _ _ => False)
    (OwnFrom.and (OwnFrom.and (Own.from (holdsRow_own (w1.heap.size + 1) (w.heap.size + 1) 23 2 1 (fun pre : List (Nat × Vx) => (bordsOf f (pre.map (·.2.val))).length) (fun pre => (bordsOf f (pre.map (·.2.val))).map (Value.int .i64)) (fun _ _ => True)) _) (Own.from (boxed_own' _ _ (fun _ => I f)) _)) (OwnFrom.and (own_size (w1.heap.size + 1) _) (ownFrom_below (Nat.le_refl _) (by simp; omega))))
    (fun _ _ _ _ _ hs _ _ => hs)
    ⟨⟨⟨_, hBo, World.ownsRow_nil _ _ _ _, trivial⟩, HBF.out.alloc _⟩, by simp, HB1.out.trans ((below_alloc (Grew.refl w1) _).mono (by omega))⟩
    (fun x => { tmps := #[I f, .pointer (some ⟨w.heap.size, 0, none⟩), .slice none 0 0, .pointer (some ⟨w.heap.size + 1, 0, none⟩), undef, I x.2.val, undef, I f, .slice A (verts f).length c, .func (.func 104) #[] #[.pointer (some ⟨w1.heap.size, 0, none⟩)], I x.1, I x.2.val, undef, undef, undef, undef, undef, undef, undef, undef, undef, undef, undef], defers := [] }) ?assign ?body ?done ?stop
  case assign =>
    intro l x W K hK
    gi_wp2
    exact hK
  case body =>
    rintro l pre x W ⟨⟨⟨v, hv, hrow, -⟩, hF⟩, hsz, hB⟩ hlt
    have hc := hv.cell
    have hcf := hF.cell
    have hx := x.2.property
    have hsn := bordsOf_snoc f (pre.map (·.2.val)) x.2.val
    have hln := bordsOf_length f (pre.map (·.2.val))
    have hvl := vxs_length f
    rw [List.length_map] at hln
    generalize hb : bordsOf f (pre.map (·.2.val)) = bs at hrow hsn hln
    have HSN := Aside0.mk hsn
    have HX := Aside0.mk hb
    clear hsn hb
    gi_wp2
    gi_region
    all_goals
      generalize hy : bits BinOp.andNot IntKind.i64 f (IntKind.i64.wrap (2 ^ x.snd.val.toNat)) = y
      have HY := Aside0.mk (show without f x.2.val = y from hy)
      clear hy
      obtain ⟨W2, hW2⟩ : ∃ W2, W2 = W.drew := ⟨_, rfl⟩
      have hv2 : Boxed W2 (w.heap.size + 1) 23 v := by rw [hW2]; exact hv
      have hF2 : Boxed W2 w.heap.size 2 (I f) := by rw [hW2]; exact hF
      have hrow2 : W2.ownsRow (w1.heap.size + 1) 2 1 v bs.length (bs.map (Value.int .i64)) := by rw [hW2]; exact hrow
      have hB2 : Below w.heap.size w W2 := by rw [hW2]; exact hB.drew
      have hs2 : w1.heap.size + 1 ≤ W2.heap.size := by rw [hW2]; exact hsz
      have hKO : KeepsFrom (w1.heap.size + 1) W W2 := by rw [hW2]; exact ⟨Nat.le_refl _, fun k o _ hk _ => hk⟩
      have hKB : KeptBut (w.heap.size + 1) (w1.heap.size + 1) W W2 := by rw [hW2]; exact fun _ _ _ => rfl
      have hc2 := hv2.cell
      rw [← hW2]
      clear hW2 hc hcf hv hF hrow hB
      have hm1 : bs.length + 1 ≤ maxLen := by unfold maxLen; omega
      have hm2 : (bs.length + 1) * 8 ≤ 140737488355328 := by omega
      by_cases h0 : y = 0
      · subst h0
        gi_wp2
        have HN : bordsOf f ((pre ++ [x]).map (·.2.val)) = bs := by
          have := HSN.out
          rw [HY.out] at this
          simpa using this
        refine ⟨by simpa using hKO, hKB, ⟨⟨v, hv2, ?_, trivial⟩, hF2⟩, hs2, hB2⟩
        rw [HN]
        exact hrow2
      · gi_wp2_with (gi_at_builtin; refine wpListIn_append_own _ rfl _ _ 23 rfl (w1.heap.size + 1) 2 i0 (.int .i64 0) 1 8 Try.underlying23 hi hz0 hz1 hz2 rfl (by decide) _ _ _ rfl (hrow2.alloc _) ⟨W2.heap.size, 0, none⟩ 1 1 [.int .i64 y] rfl rfl (cell_one_new _ _ _) (by simp [Value.oneCell']) hm1 hm2 (by simp; omega) ?_; intro v' w3 hown' hgrow _; obtain ⟨g', cap', rfl⟩ := ownsRow_succ hown'; obtain ⟨hv1, hv3, hr3, hk3, hb3⟩ := hv2.appended (n₀ := w.heap.size) (by decide) (own_weaken hrow2 (by omega)) hB2.size (by omega) (own_weaken hown' (by omega)) hgrow; have hc1 := hv1.cell; have hf1 := hv1.frozen)
        have HN : bordsOf f ((pre ++ [x]).map (·.2.val)) = bs ++ [y] := by
          have := HSN.out
          rw [HY.out, if_neg h0] at this
          simpa using this
        have hro : ∀ k, v.ownBlock = some k → w1.heap.size + 1 ≤ k := fun k hk => own_base hrow2 k hk
        refine ⟨by simpa using hKO.trans (hk3.from _), hKB.t (fun k h1 h2 => ?_), ⟨⟨_, hv3, ?_, trivial⟩, ?_⟩, Nat.le_trans hs2 hb3.size, hB2.trans hb3⟩
        · rw [Below.heap_setCell _ _ _ _ (by show k ≠ w.heap.size + 1; exact h2)]
          rw [hgrow.block k (by simp; omega) (fun e => by have := hro k e.symm; omega)]
          exact Below.heap_alloc _ _ _ (by omega)
        · rw [HN]
          have := hown'.kept (grownBy_setCell' w3 (w.heap.size + 1) (.slice (some ⟨g', 0, none⟩) (bs.length + 1) cap')) (.inr (hv1.not_row (by decide) hown').symm)
          simpa using this
        · show (w3.setCell _ _).heap[w.heap.size]? = _
          rw [Below.heap_setCell _ _ _ _ (by show w.heap.size ≠ w.heap.size + 1; omega)]
          rw [hgrow.block w.heap.size (by simp; omega) (fun e => by have := hro _ e.symm; omega)]
          exact (Below.heap_alloc _ _ _ (by omega)).trans hF2
  case done =>
    rintro D ys W hD rfl ⟨⟨⟨v, hv, hrow, -⟩, hF⟩, hsz, hB⟩ hK
    have hc := hv.cell
    have HV : (bwd (vxs f)).map (·.2.val) = (verts f).reverse := by
      have := congrArg (List.map Subtype.val) (bwd_snd (vxs f))
      rw [List.map_map, List.map_reverse, vxs_val] at this
      exact this
    have HVA := Aside0.mk HV
    clear HV
    gi_wp2
    refine ⟨by simp, .inl ⟨_, _, rfl, run_takeDeferred hK, ?_⟩⟩
    refine ⟨_, results_tmp rfl _ _ _, v, rfl, ?_, hB.trans (belowK_b (w := w) (Nat.le_refl _) W D _ _ (by simp at hD; omega) hK rfl rfl)⟩
    rw [HVA.out] at hrow
    exact Kd.R_lower (Kd.R_of_own (ownsRow_putObj hrow _ hK rfl) (fun _ _ => trivial)) (by omega)
  case stop =>
    rintro D c pre W _ _ h _
    exact h.elim

theorem borders_calls (f : Int) (w : World) :
    Calls Try.prog 58 #[I f] w fun e w' => ∃ v, e = .returned v ∧ Ki.R 2 w' w.heap.size (fun _ => True) v (bords f) ∧ Grew w w' :=
  callsIn_wide.1 (borders_in f w)

end Go.Proofs.Ytoeapnempdgagaa.K
