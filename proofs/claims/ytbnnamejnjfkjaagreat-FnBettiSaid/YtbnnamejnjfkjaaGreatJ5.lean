/- The row of the law FnBetti: for every input the law answers true, and the arguments read as before. No conditions. -/
import Derived.Test.YtbnnamejnjfkjaaGreatJ4
import Derived.Below
import Derived.Deep.Draws
import Derived.Deep.AppendLies
import Derived.Maps.AppendAt
import Derived.OwnWalk
import Derived.Laws.BytesArg
import Derived.Laws.MakeOwn
import Derived.Laws.OwnMore
import Derived.Deep.OwnRows
import Derived.Tactics
import Derived.Lib.ConvBytes
import Derived.Laws.Slices
import Derived.WalkKit
import Derived.KernelRfl
import Derived.RowKit3
import Derived.Deep.LoopGhost
import Derived.Deep.QuietTactic
import Derived.BigQuiet
import Derived.WideLaws
import Derived.Deep.DeepCutAuto
import Derived.Deep.CutBlock
import Derived.Deep.RegionHeld3
import Derived.Laws.Rows
import Derived.Lib.AppendStr
import Derived.ArgAppend
import Derived.Laws.IdiomCopy
import Derived.RowKit
import Derived.OrdersHeld
import Derived.Laws.BitsLemmas
import Derived.Laws.StructEq
import Derived.Test.YtbnnamejnjfkjaaGreatProg
import Derived.Shelf.Abstract
import Derived.RangeFuncBox
import Derived.RangeFuncLeaves
import Derived.OwnWalkIn
import Derived.TacticsInMore
import Derived.LoopNIn
import Derived.LoopIn
import Derived.Laws.Bits64b
import Derived.Lib.SliceRun
import Derived.Deep.CutRange
import Derived.JoinedOf
import Derived.Test.YtbnnamejnjfkjaaGreatRows
import Derived.ProofKit
import Derived.OpenShut
import Derived.ShutString
import Derived.ChangeOld
import Derived.SizedLaws
import Derived.Lib.SmallJoins
section
namespace Go.Proofs.YtbnnamejnjfkjaaGreat.R
open Go.RowKit Go.Proofs.YtbnnamejnjfkjaaGreat.Q Go.Proofs.YtbnnamejnjfkjaaGreat.X Go.Proofs.YtbnnamejnjfkjaaGreatW.PrintWords Go.Proofs.YtbnnamejnjfkjaaGreatW.PrintLast Go.Proofs.YtbnnamejnjfkjaaGreatW.PrintMore
attribute [local go_sem] max2_int min2_int max_two min_two max_three min_three max_four min_four
set_option linter.unusedVariables false
set_option linter.unusedSimpArgs false
def spec_DrawCountCycles.f (k:Nat) (l0:List Int):Option (Int×List Int×Int):=(spec_l01From.f k l0).bind fun bt176=>((spec_l01Spoil.f k bt176.1 bt176.2.1 bt176.2.2).bind fun bt180=>((spec_l01Near.f bt176.1 bt180.2.2.1 bt180.2.2.2 5).bind fun bt187=>((spec_l01Pick.f bt176.1 bt187.2.1 bt187.2.2 (([0,1,1,2,2,bt187.1]:List Int))).bind fun bt193=>(some (bt180.1,bt180.2.1,bt193.1)))))
theorem spec_DrawCountCycles.mono:∀ a0 k,LeO (spec_DrawCountCycles.f k a0) (spec_DrawCountCycles.f (k+1) a0):=by
 intro a0 k;unfold spec_DrawCountCycles.f;repeat' first
   |(with_reducible first|exact spec_l01From.mono _ _|exact spec_l01Spoil.mono _ _ _ _|exact LeO.refl _|exact LeO.none _|refine LeO.ite ?_ ?_|refine LeO.bind ?_ (fun _=>?_))
def spec_DrawCountCycles.T3:Bool×List (List Nat×List Nat):=(true,[([],[]),([],[]),([],[]),([2],[2]),([3],[3]),([1,4,3],[1,4]),([0,5,0],[0]),([5,6,0,1,2,3,4,5,6],[5])])
def spec_DrawCountCycles.B3:List Nat:= [0,0,0,4,12,30,63,127]
theorem spec_DrawCountCycles.tab3:rtab .any (opsOf Tryz.f46 3)=spec_DrawCountCycles.T3:=by kernel_rfl
theorem spec_DrawCountCycles.bits3:waitsOk spec_DrawCountCycles.T3.2 spec_DrawCountCycles.B3=true:=by kernel_rfl
set_option maxHeartbeats 8000000 in
set_option maxRecDepth 100000 in
theorem spec_DrawCountCycles.calls (k:Nat) (A0:Option Addr) (c0:Nat) (l0:List Int) (r1:Int) (r2:List Int) (r3:Int) (w:World) (hr0:Kd.C (Kd.int .u8) w A0 l0.length l0) (hc0:l0.length≤c0) (h:spec_DrawCountCycles.f k l0=some (r1,r2,r3)) :
  Calls Tryz.prog 46 #[.slice A0 l0.length c0] w fun e w'=>∃ v1_:Value,e = .returned (.tuple #[.agg #[.int .i64 r1,v1_],.int .i64 r3])∧Kd.R (Kd.int .i64) 2 w' w.heap.size (fun _=>True) v1_ r2∧Below w.heap.size w w':=by
 have hu26:=Tryz.underlying26;have HR0:=Aside0.mk hr0;have HC0:=Aside0.mk hc0;clear hr0 hc0;have HB:=Aside0.mk (Below.refl w.heap.size w);have H:((spec_l01From.f k l0).bind fun bt176=>((spec_l01Spoil.f k bt176.1 bt176.2.1 bt176.2.2).bind fun bt180=>((spec_l01Near.f bt176.1 bt180.2.2.1 bt180.2.2.2 5).bind fun bt187=>((spec_l01Pick.f bt176.1 bt187.2.1 bt187.2.2 (([0,1,1,2,2,bt187.1]:List Int))).bind fun bt193=>(some (bt180.1,bt180.2.1,bt193.1))))))=some (r1,r2,r3):=h;clear h;replace H:=Option.bind_eq_some_iff.mp H;obtain ⟨⟨t176,t177,t178⟩,A20,H⟩:=H;replace H:((spec_l01Spoil.f k t176 t177 t178).bind fun bt180=>((spec_l01Near.f t176 bt180.2.2.1 bt180.2.2.2 5).bind fun bt187=>((spec_l01Pick.f t176 bt187.2.1 bt187.2.2 (([0,1,1,2,2,bt187.1]:List Int))).bind fun bt193=>(some (bt180.1,bt180.2.1,bt193.1)))))=some (r1,r2,r3):=H;have A2:=Aside0.mk A20;clear A20;replace H:=Option.bind_eq_some_iff.mp H;obtain ⟨⟨t180,t181,t184,t185⟩,A30,H⟩:=H;replace H:((spec_l01Near.f t176 t184 t185 5).bind fun bt187=>((spec_l01Pick.f t176 bt187.2.1 bt187.2.2 (([0,1,1,2,2,bt187.1]:List Int))).bind fun bt193=>(some (t180,t181,bt193.1))))=some (r1,r2,r3):=H;have A3:=Aside0.mk A30;clear A30;replace H:=Option.bind_eq_some_iff.mp H;obtain ⟨⟨t187,t188,t189⟩,A40,H⟩:=H;replace H:((spec_l01Pick.f t176 t188 t189 (([0,1,1,2,2,t187]:List Int))).bind fun bt193=>(some (t180,t181,bt193.1)))=some (r1,r2,r3):=H;have A4:=Aside0.mk A40;clear A40;obtain ⟨y190,hy190⟩:∃ y_:List Int,y_=(([0,1,1,2,2,t187]:List Int)):=⟨_,rfl⟩
 replace H:((spec_l01Pick.f t176 t188 t189 y190).bind fun bt193=>(some (t180,t181,bt193.1)))=some (r1,r2,r3):=by first|(rw[hy190];with_reducible exact H)|(have H2_:=(Option.bind_some _ _).symm.trans H;rw[hy190];with_reducible exact H2_)|(have H2_:=(Option.bind_some _ _).symm.trans H;with_reducible exact H2_)|with_reducible exact H|(rw[hy190];exact H)|exact H
 have Ny190:=Aside0.mk hy190;clear hy190;replace H:=Option.bind_eq_some_iff.mp H;obtain ⟨⟨t193,t194,t195⟩,A50,H⟩:=H;replace H:(some (t180,t181,t193))=some (r1,r2,r3):=H;have A5:=Aside0.mk A50;clear A50;simp only [Option.some.injEq,Prod.mk.injEq] at H;obtain ⟨rfl,rfl,rfl⟩:=H;go_enter Tryz.func46,Tryz.ntmps46;try go_wp2_with (first|((with_reducible refine gate_dst (N:=2) rfl ?_);refine bx 2 #[.int .i64 0,.slice none 0 0] 26 ?_;intro gb175 hg w6 hbox hb;have BK175:=Aside0.mk (hbox);have GE175:=gzA hg HB;replace HB:=bsA HB hb;clear hb hbox hg)|((with_reducible refine gate_callee (f:=66) rfl ?_);refine gl (some 7) Tryz.func66 #[.slice A0 l0.length c0] ?_;(with_reducible refine(spec_l01From.calls k _ _ l0 t176 t177 t178 w _ (bl HB.out) HR0.out HC0.out A2.out).mono ?_);rintro e w7 ⟨g179,rfl,hi,hb,hb2⟩;refine⟨_,rfl,?_⟩;replace HB:=Aside0.mk (hb);have HI179:=Aside0.mk (hi);have NB179_175:=Aside0.mk (IsS92.ne_blk hi (blk_below (bk BK175.out) hb2) (by decide));have NB175_179:=Aside0.mk (Ne.symm (IsS92.ne_blk hi (blk_below (bk BK175.out) hb2) (by decide)));replace BK175:=bkA BK175 hb2;(try clear hb);(try clear hb2);(try clear hk);(try clear hi))|((with_reducible refine gate_callee (f:=68) rfl ?_);refine gl (some 9) Tryz.func68 #[.pointer (some ⟨g179,0,none⟩)] ?_;(with_reducible refine(spec_l01Spoil.calls k g179 t176 t177 t178 t180 t181 t184 t185 w _ (IsS92.ch HI179.out) (blg HB.out (IsS92.ge HI179.out)) A3.out).mono ?_);rintro e w8 ⟨v182,rfl,ho0,hi,hb,hk⟩;refine⟨_,rfl,?_⟩;replace BK175:=Aside0.mk (kbk hk (bk BK175.out) NB175_179.out);have HO183:=Aside0.mk (Kd.R_lower ho0 (below_size (blg HB.out (IsS92.ge HI179.out))));replace HB:=Aside0.mk (hb);replace HI179:=Aside0.mk (hi);(try clear hb);(try clear hb2);(try clear hk);(try clear hi);(try clear ho0))|((with_reducible refine gate_dst (N:=5) rfl ?_);refine bx 5 #[.int .i64 0,.slice none 0 0] 26 ?_;intro gb186 hg w9 hbox hb;replace HO183:=krA HO183 hb;have BK186:=Aside0.mk (hbox);have GW186:=Aside0.mk ((by rw[hg];exact(below_size (blg HB.out (IsS92.ge HI179.out))):w.heap.size≤gb186));have GE186:=Aside0.mk ((by rw[hg];exact(below_size (blg HB.out (IsS92.ge HI179.out))):w.heap.size≤gb186));replace HB:=Aside0.mk (below_step (blg HB.out (IsS92.ge HI179.out)) hb);have NB175_186:=nlA hg BK175;have NB186_175:=ngA hg BK175;replace BK175:=bkA BK175 hb;have NB179_186:=Aside0.mk ((by rw[hg];exact Nat.ne_of_lt (IsS92.lt (show IsS92 w _ g179 t176 t184 t185 from IsS92.ch HI179.out)):g179≠gb186));have NB186_179:=Aside0.mk ((by rw[hg];exact Nat.ne_of_gt (IsS92.lt (show IsS92 w _ g179 t176 t184 t185 from IsS92.ch HI179.out)):gb186≠g179));replace HI179:=Aside0.mk (IsS92.below (IsS92.ch HI179.out) hb);clear hb hbox hg;have hnb10:=NB186_175.out;have hnc10:=NB175_186.out;have hnb11:=NB186_179.out;have hnc11:=NB179_186.out;have hcz12_0:=z0_ BK186;have hcz12_1:=z1_ BK186;have hfz12_0:=hf_ BK186 0;have hfz12_1:=hf_ BK186 1;obtain ⟨Ao13,co13,eo13⟩:=Kd.R_slice HO183.out;subst eo13))
 have n0_:Aside0 (Kd.R (Kd.int .i64) 2 ((w9.setCell ⟨gb186,0,none⟩ (.int .i64 t180)).setCell ⟨gb186,1,none⟩ (.slice Ao13 t181.length co13)) w.heap.size (fun _=>True) (.slice Ao13 t181.length co13) t181):=⟨by(with_reducible repeat(first|apply Kd.R_alloc|apply Kd.R_drewN|apply Kd.R_drew));exact Kd.R_mono (Kd.R_far (p:=⟨gb186,1,none⟩) (Kd.R_far (p:=⟨gb186,0,none⟩) (Kd.R_types HO183.out BK186.out (by decide)) (fun _ hk=>hk.2) (.int .i64 t180)) (fun _ hk=>hk.2) (.slice Ao13 t181.length co13)) (fun _ hk=>trivial)⟩
 have n1_:Aside0 (((w9.setCell ⟨gb186,0,none⟩ (.int .i64 t180)).setCell ⟨gb186,1,none⟩ (.slice Ao13 t181.length co13)).heap[gb175]?=some (.cells #[.int .i64 0,.slice none 0 0] 26 (0,0))):=⟨bp BK175.out⟩
 have n2_:Aside0 (((w9.setCell ⟨gb186,0,none⟩ (.int .i64 t180)).setCell ⟨gb186,1,none⟩ (.slice Ao13 t181.length co13)).heap[gb186]?=some (.cells #[.int .i64 t180,.slice Ao13 t181.length co13] 26 (0,0))):=⟨bp BK186.out⟩
 have n3_:Aside0 (IsS92 w ((w9.setCell ⟨gb186,0,none⟩ (.int .i64 t180)).setCell ⟨gb186,1,none⟩ (.slice Ao13 t181.length co13)) g179 t176 t184 t185):=⟨IsS92.ch HI179.out⟩
 have n4_:Aside0 (Below w.heap.size w ((w9.setCell ⟨gb186,0,none⟩ (.int .i64 t180)).setCell ⟨gb186,1,none⟩ (.slice Ao13 t181.length co13))):=⟨blg HB.out (IsS92.ge HI179.out)⟩
 (try clear HO183)
 (try clear BK175)
 (try clear BK186)
 (try clear HI179)
 (try clear HB)
 generalize ((w9.setCell ⟨gb186,0,none⟩ (.int .i64 t180)).setCell ⟨gb186,1,none⟩ (.slice Ao13 t181.length co13))=w14 at n0_ n1_ n2_ n3_ n4_ ⊢;have HO183:=n0_;have BK175:=n1_;have BK186:=n2_;have HI179:=n3_;have HB:=n4_;clear n0_ n1_ n2_ n3_ n4_;replace HO183:=Aside0.mk (Kd.R_drew HO183.out);replace BK175:=Aside0.mk (blk_drew BK175.out);replace BK186:=Aside0.mk (blk_drew BK186.out);replace HI179:=Aside0.mk (IsS92.drew HI179.out);replace HB:=Aside0.mk (below_drew1 HB.out);refine start_ (n:=8) (S:=fun w'=>w'.cell? ⟨gb186,0,none⟩=some (.int .i64 t180)∧w'.cell? ⟨gb186,1,none⟩=some (.slice Ao13 t181.length co13)) (ds:= []) (ar 0 8) (by kernel_rfl) rfl rfl ⟨(blk_cell BK186.out 0).trans rfl,(blk_cell BK186.out 1).trans rfl⟩ (fun hHeld=>?_);refine with_tabW spec_DrawCountCycles.tab3 spec_DrawCountCycles.bits3 (fun HT_ HW_=>?_);generalize w14.drew=w15 at HO183 BK175 BK186 HI179 HB hHeld ⊢;refine pu 1 (some 11) #[O,U,O,O,O,O,O,O] HT_ ?_;refine pu 2 (some 12) #[O,U,U,O,O,O,O,O] HT_ ?_;refine tk 0 (some 10) (ar 3 5) HT_ HW_ hHeld ?_;refine on_ 3 (some 13) (ar 4 4) HT_ fun K hK=>?_;refine gr Tryz.func90 #[.pointer (some ⟨g179,0,none⟩),.int .i64 5] ?_;with_reducible refine(spec_l01Near.calls g179 t176 t184 t185 5 t187 t188 t189 w _ (IsS92.ch HI179.out) (blg HB.out (IsS92.ge HI179.out)) A4.out).mono ?_
 rintro e w16 ⟨rfl,hi,hb,hk⟩;refine⟨_,rfl,?_⟩;replace BK175:=Aside0.mk (kbk hk (bk BK175.out) NB175_179.out);replace HO183:=Aside0.mk (Kd.R_mono (Kd.R_keep (IsS92.apart (show IsS92 w _ g179 t176 t184 t185 from IsS92.ch HI179.out) (kr HO183.out) (by decide)) hk (fun _ h=>h.2)) (fun _ h=>h.1));replace BK186:=Aside0.mk (kbk hk (bk BK186.out) NB186_179.out);replace HB:=Aside0.mk (hb);replace HI179:=Aside0.mk (hi);(try clear hb)
 (try clear hb2)
 (try clear hk)
 (try clear hi)
 refine hK.out _ _ ⟨(blk_cell BK186.out 0).trans rfl,(blk_cell BK186.out 1).trans rfl⟩ (fun hHeld=>?_);clear hK K;refine nr 13 ?_;refine on_ 4 (some 14) (ar 5 3) HT_ fun K hK=>?_;refine Kd.R_lit_step (Kd.int .i64) _ 2 ?hg (N:=14) ?hd (xs:=([0,1,1,2,2,t187]:List Int)) (inner:= [.int .i64 0,.int .i64 1,.int .i64 1,.int .i64 2,.int .i64 2,.int .i64 t187]) (ok:=fun _=>True) (okp:=fun _=>True) ?hr ?hp (fun _ hk=>hk) trivial (Below.refl _ _) (Nat.le_refl _) (by simp) ?_;(case hd=>rfl);(case hg=>rfl);(case hr=>first|(go_simp;done)|(go_simp;rfl));(case hp=>exact(Reps.one (show Kd.M (Kd.int .i64) _ _ _ 0 [.int .i64 0] from rfl) (Reps.one (show Kd.M (Kd.int .i64) _ _ _ 1 [.int .i64 1] from rfl) (Reps.one (show Kd.M (Kd.int .i64) _ _ _ 1 [.int .i64 1] from rfl) (Reps.one (show Kd.M (Kd.int .i64) _ _ _ 2 [.int .i64 2] from rfl) (Reps.one (show Kd.M (Kd.int .i64) _ _ _ 2 [.int .i64 2] from rfl) (Reps.one (show Kd.M (Kd.int .i64) _ _ _ t187 [.int .i64 t187] from rfl) (Reps.none _ _))))))));intro v191 w17 ho18 hb hg_ hnew_;clear hg_ hnew_;(first|rw[← Ny190.out] at ho18|(simp only [Int.reduceToNat] at ho18;rw[← Ny190.out] at ho18))
 have HO192:=Aside0.mk (Kd.R_lower (Kd.R_new' ho18 (Kd.R_lt (kr HO183.out))) (below_size (blg HB.out (IsS92.ge HI179.out))));replace HO183:=Aside0.mk (Kd.R_elder' (kr HO183.out) (Kd.R_base ho18) hb);replace BK175:=bkA BK175 hb;replace BK186:=bkA BK186 hb;replace HB:=Aside0.mk (below_step (blg HB.out (IsS92.ge HI179.out)) hb);replace HI179:=Aside0.mk (IsS92.below (IsS92.ch HI179.out) hb);clear hb ho18;obtain ⟨Ao19,co19,eo19⟩:=Kd.R_slice HO192.out;(first|subst eo19|(injection eo19 with f1_ f2_ f3_;have f4_:=f1_.symm;have f5_:=f3_.symm;clear f1_ f2_ f3_;subst f4_;subst f5_))
 refine hK.out _ _ ⟨(blk_cell BK186.out 0).trans rfl,(blk_cell BK186.out 1).trans rfl⟩ (fun hHeld=>?_);clear hK K;refine nr 14 ?_;refine on_ 5 (some 15) (ar 6 2) HT_ fun K hK=>?_;refine gr Tryz.func81 #[.pointer (some ⟨g179,0,none⟩),.slice Ao19 y190.length co19] ?_;with_reducible refine(spec_l01Pick.calls g179 t176 t188 t189 _ _ y190 t193 t194 t195 w _ (IsS92.ch HI179.out) (blg HB.out (IsS92.ge HI179.out)) (cb (Kd.R_reads' HO192.out).2.2) ((Kd.R_reads' HO192.out).2.1) (far_slice (IsS92.own_ne HI179.out HO192.out (by decide))) A5.out).mono ?_
 rintro e w20 ⟨rfl,hi,hb,hk⟩;refine⟨_,rfl,?_⟩;replace BK175:=Aside0.mk (kbk hk (bk BK175.out) NB175_179.out);replace HO183:=Aside0.mk (Kd.R_mono (Kd.R_keep (IsS92.apart (show IsS92 w _ g179 t176 t188 t189 from IsS92.ch HI179.out) (kr HO183.out) (by decide)) hk (fun _ h=>h.2)) (fun _ h=>h.1));replace BK186:=Aside0.mk (kbk hk (bk BK186.out) NB186_179.out);replace HO192:=Aside0.mk (Kd.R_mono (Kd.R_keep (IsS92.apart (show IsS92 w _ g179 t176 t188 t189 from IsS92.ch HI179.out) (kr HO192.out) (by decide)) hk (fun _ h=>h.2)) (fun _ h=>h.1));replace HB:=Aside0.mk (hb);replace HI179:=Aside0.mk (hi);(try clear hb)
 (try clear hb2)
 (try clear hk)
 (try clear hi)
 refine hK.out _ _ ⟨(blk_cell BK186.out 0).trans rfl,(blk_cell BK186.out 1).trans rfl⟩ (fun hHeld=>?_);clear hK K;refine nr 15 ?_;refine on_ 6 (none) (ar 7 1) HT_ fun K hK=>?_;have hs21:w20.cell? ⟨gb175,0,none⟩=some (.int .i64 0):=(blk_cell BK175.out 0).trans rfl;have hfs21:=blk_frozen BK175.out 0;have hns21_1:=NB186_175.out;have hms21_1:=NB175_186.out;have hs22:w20.cell? ⟨gb175,1,none⟩=some (.slice none 0 0):=(blk_cell BK175.out 1).trans rfl;have hfs22:=blk_frozen BK175.out 1;have hns22_1:=NB186_175.out;have hms22_1:=NB175_186.out;refine skip_ (w1:=?_) (by rfl) rfl ?_ ?_;rotate_left
 ·go_simp;rfl
 refine hK.out _ _ ⟨((cell_far (p:=⟨gb175,_,none⟩) NB186_175.out _).trans (((cell_far (p:=⟨gb175,_,none⟩) NB186_175.out _).trans (hHeld.1)))),((cell_far (p:=⟨gb175,_,none⟩) NB186_175.out _).trans (((cell_far (p:=⟨gb175,_,none⟩) NB186_175.out _).trans (hHeld.2))))⟩ (fun hHeld=>?_);clear hK K;refine pu 7 (some 3) (ar 8 0) HT_ ?_;refine done_ (done_of HT_.out (by kernel_rfl)) ?_;try go_wp2
 refine bodyPost_ret (results_ct rfl _ _ gb175 26 #[.int .i64 t180,.slice Ao13 t181.length co13] (0,0) _ rfl (bp BK175.out) Tryz.underlying26 rfl (by kernel_rfl)) rfl ?_;exact⟨_,rr,by(with_reducible repeat(first|apply Kd.R_alloc|apply Kd.R_drewN|apply Kd.R_drew));exact Kd.R_mono (Kd.R_far (p:=⟨gb175,1,none⟩) (Kd.R_far (p:=⟨gb175,0,none⟩) (Kd.R_types HO183.out BK175.out (by decide)) (fun _ hk=>hk.2) (.int .i64 t180)) (fun _ hk=>hk.2) (.slice Ao13 t181.length co13)) (fun _ hk=>trivial),blg HB.out (IsS92.ge HI179.out)⟩
def spec_DrawSignsOf.f (k:Nat) (l0:List Int):Option (Int×List Int×Int):=(spec_l01With.f k l0).bind fun bt197=>(some (bt197.1,bt197.2.1,bt197.2.2))
theorem spec_DrawSignsOf.mono:∀ a0 k,LeO (spec_DrawSignsOf.f k a0) (spec_DrawSignsOf.f (k+1) a0):=by
 intro a0 k;unfold spec_DrawSignsOf.f;repeat' first
   |(with_reducible first|exact spec_l01With.mono _ _|exact LeO.refl _|exact LeO.none _|refine LeO.ite ?_ ?_|refine LeO.bind ?_ (fun _=>?_))
set_option maxHeartbeats 8000000 in
set_option maxRecDepth 100000 in
theorem spec_DrawSignsOf.calls (k:Nat) (A0:Option Addr) (c0:Nat) (l0:List Int) (r1:Int) (r2:List Int) (r3:Int) (w:World) (hr0:Kd.C (Kd.int .u8) w A0 l0.length l0) (hc0:l0.length≤c0) (h:spec_DrawSignsOf.f k l0=some (r1,r2,r3)) :
  Calls Tryz.prog 48 #[.slice A0 l0.length c0] w fun e w'=>∃ v1_:Value,e = .returned (.tuple #[.agg #[.int .i64 r1,v1_],.int .i64 r3])∧Kd.R (Kd.int .i64) 2 w' w.heap.size (fun _=>True) v1_ r2∧Below w.heap.size w w':=by
 have hu26:=Tryz.underlying26;have HR0:=Aside0.mk hr0;have HC0:=Aside0.mk hc0;clear hr0 hc0;have HB:=Aside0.mk (Below.refl w.heap.size w);have H:((spec_l01With.f k l0).bind fun bt197=>(some (bt197.1,bt197.2.1,bt197.2.2)))=some (r1,r2,r3):=h;clear h;replace H:=Option.bind_eq_some_iff.mp H;obtain ⟨⟨t197,t198,t201⟩,A20,H⟩:=H;replace H:(some (t197,t198,t201))=some (r1,r2,r3):=H;have A2:=Aside0.mk A20;clear A20;simp only [Option.some.injEq,Prod.mk.injEq] at H;obtain ⟨rfl,rfl,rfl⟩:=H;go_enter Tryz.func48,Tryz.ntmps48;go_wp2_with (first|((with_reducible refine gate_dst (N:=2) rfl ?_);refine bx 2 #[.int .i64 0,.slice none 0 0] 26 ?_;intro gb196 hg w3 hbox hb;have BK196:=Aside0.mk (hbox);have GE196:=gzA hg HB;replace HB:=bsA HB hb;clear hb hbox hg)|((with_reducible refine gate_callee (f:=51) rfl ?_);refine gl (some 8) Tryz.func51 #[.slice A0 l0.length c0] ?_;(with_reducible refine(spec_l01With.calls k _ _ l0 t197 t198 t201 _ (cb (Kd.C_below HR0.out HB.out)) HC0.out A2.out).mono ?_);rintro e w4 ⟨v199,rfl,ho0,hb⟩;refine⟨_,rfl,?_⟩;have HO200:=klA ho0 HB;replace BK196:=bkA BK196 hb;replace HB:=bsA HB hb;(try clear hb);(try clear hb2);(try clear hk);(try clear hi);(try clear ho0))|((with_reducible refine gate_dst (N:=4) rfl ?_);refine bx 4 #[.int .i64 0,.slice none 0 0] 26 ?_;intro gb202 hg w5 hbox hb;replace HO200:=krA HO200 hb;have BK202:=Aside0.mk (hbox);have GE202:=gzA hg HB;replace HB:=bsA HB hb;have NB196_202:=nlA hg BK196;have NB202_196:=ngA hg BK196;replace BK196:=bkA BK196 hb;clear hb hbox hg;have hnb6:=NB202_196.out;have hnc6:=NB196_202.out;have hcz7_0:=z0_ BK202;have hcz7_1:=z1_ BK202;have hfz7_0:=hf_ BK202 0;have hfz7_1:=hf_ BK202 1;obtain ⟨Ao8,co8,eo8⟩:=Kd.R_slice HO200.out;subst eo8;have hcz9_0:=z0_ BK196;have hcz9_1:=z1_ BK196;have hfz9_0:=hf_ BK196 0;have hfz9_1:=hf_ BK196 1))
 refine bodyPost_ret (results_ct rfl _ _ gb196 26 #[.int .i64 t197,.slice Ao8 t198.length co8] (0,0) _ rfl (bp BK196.out) Tryz.underlying26 rfl (by kernel_rfl)) rfl ?_;exact⟨_,rr,by(with_reducible repeat(first|apply Kd.R_alloc|apply Kd.R_drewN|apply Kd.R_drew));exact Kd.R_mono (Kd.R_far (p:=⟨gb196,1,none⟩) (Kd.R_far (p:=⟨gb196,0,none⟩) (Kd.R_far (p:=⟨gb202,1,none⟩) (Kd.R_far (p:=⟨gb202,0,none⟩) (Kd.R_types (Kd.R_types HO200.out BK202.out (by decide)) BK196.out (by decide)) (fun _ hk=>hk.1.2) (.int .i64 t197)) (fun _ hk=>hk.1.2) (.slice Ao8 t198.length co8)) (fun _ hk=>hk.2) (.int .i64 t197)) (fun _ hk=>hk.2) (.slice Ao8 t198.length co8)) (fun _ hk=>trivial),bl HB.out⟩
end Go.Proofs.YtbnnamejnjfkjaaGreat.R
end

section
namespace Go.Proofs.YtbnnamejnjfkjaaGreat.K
open Go.RowKit Go.Shelf Go.Proofs.YtbnnamejnjfkjaaGreat.Q Go.Proofs.YtbnnamejnjfkjaaGreat.R Go.Proofs.YtbnnamejnjfkjaaGreat.X Go.Proofs.YtbnnamejnjfkjaaGreatW.PrintWords Go.Proofs.YtbnnamejnjfkjaaGreatW.PrintLast Go.Proofs.YtbnnamejnjfkjaaGreatW.PrintMore
set_option linter.unusedVariables false
set_option linter.unusedSimpArgs false
theorem modulus_ok {s:List Int} {b:Int} (h:Src s b) (c:Int):∃ r b' c',spec_l03DrawP.f s b c=some (r,b',c'):=by
 unfold spec_l03DrawP.f
 obtain ⟨r,b1,c1,e,_,_⟩:=pick_ok h c [2,2,2,2,3,3,3,3,3,1,5] (by decide)
 rw[e]
 exact⟨_,_,_,rfl⟩
section
variable {code : List Int} (hl : code.length ≤ 4096) (hb : ∀ x ∈ code, 0 ≤ x ∧ x ≤ 255) (k : Nat) (hk : 30000 ≤ k)
include hl hb hk
theorem bettis_ok:∃ n l p,spec_DrawBettiNumbers.f k code=some (n,l,p)∧l.length≤1001:=by
 unfold spec_DrawBettiNumbers.f
 obtain ⟨c,e⟩:=from_ok code hl hb k (by omega)
 rw[e]
 simp only [Option.bind_some]
 obtain ⟨n,l,b2,c2,e2,hl2,h2⟩:=spoil_ok (src0 hl hb) c k (by omega)
 rw[e2]
 simp only [Option.bind_some]
 obtain ⟨p,b3,c3,e3⟩:=modulus_ok h2 c2
 rw[e3]
 exact⟨_,_,_,rfl,hl2⟩
theorem ranks_ok:∃ n l d p,spec_DrawRankOf.f k code=some (n,l,d,p)∧l.length≤1001:=by
 unfold spec_DrawRankOf.f
 obtain ⟨c,e⟩:=from_ok code hl hb k (by omega)
 rw[e]
 simp only [Option.bind_some]
 obtain ⟨n,l,b2,c2,e2,hl2,h2⟩:=spoil_ok (src0 hl hb) c k (by omega)
 rw[e2]
 simp only [Option.bind_some]
 obtain ⟨f,b3,c3,e3,h3⟩:=near_ok h2 c2 6
 rw[e3]
 simp only [Option.bind_some]
 obtain ⟨r,b4,c4,e4,h4,_⟩:=pick_ok h3 c3 [0,1,1,2,2,3,f] (by simp)
 rw[e4]
 simp only [Option.bind_some]
 obtain ⟨p,b5,c5,e5⟩:=modulus_ok h4 c4
 rw[e5]
 exact⟨_,_,_,_,rfl,hl2⟩
theorem cycles_ok:∃ n l d,spec_DrawCountCycles.f k code=some (n,l,d)∧l.length≤1001:=by
 unfold spec_DrawCountCycles.f
 obtain ⟨c,e⟩:=from_ok code hl hb k (by omega)
 rw[e]
 simp only [Option.bind_some]
 obtain ⟨n,l,b2,c2,e2,hl2,h2⟩:=spoil_ok (src0 hl hb) c k (by omega)
 rw[e2]
 simp only [Option.bind_some]
 obtain ⟨f,b3,c3,e3,h3⟩:=near_ok h2 c2 5
 rw[e3]
 simp only [Option.bind_some]
 obtain ⟨r,b4,c4,e4,h4,_⟩:=pick_ok h3 c3 [0,1,1,2,2,f] (by simp)
 rw[e4]
 exact⟨_,_,_,rfl,hl2⟩
theorem signs_ok:∃ n l f,spec_DrawSignsOf.f k code=some (n,l,f)∧l.length≤1001:=by
 have:=link_ok hl hb k hk
 unfold spec_DrawLinkOf.f at this
 unfold spec_DrawSignsOf.f
 exact this
theorem acyclics_ok (hk2:2000000≤k):∃ n l p,spec_DrawIsAcyclicComplex.f k code=some (n,l,p)∧l.length≤1001:=by
 unfold spec_DrawIsAcyclicComplex.f
 obtain ⟨c,e⟩:=from_ok code hl hb k (by omega)
 rw[e]
 simp only [Option.bind_some]
 obtain ⟨n,l,b2,c2,e2,hl2,h2⟩:=spoil_ok (src0 hl hb) c k (by omega)
 rw[e2]
 simp only [Option.bind_some]
 have hq:=Nat.mul_le_mul (show l.length+1≤1002 by omega) (show l.length+2≤1003 by omega)
 rw[specIs_is n l (by omega) k (by unfold isK;omega)]
 simp only [Option.bind_some]
 have hj:∀(q:Bool) (b c:Int),(q=true→isC n l=true)→Src code b→∃ n' l' p,spec_DrawIsAcyclicComplex.j0 k q code b c n l=some (n',l',p)∧l'.length≤1001:=by
  intro q b c hq h
  obtain ⟨k,rfl⟩:∃ m,k=m+1:=⟨k - 1,by omega⟩
  simp only [spec_DrawIsAcyclicComplex.j0]
  obtain ⟨p,b3,c3,e3⟩:=modulus_ok h c
  by_cases h0:q=true
  ·rw[if_pos h0]
   have hC:=hq h0
   have h63:=(isC_faces hC).2.2.2
   rw[specJoinL_is hC one_isC k (by omega)]
   simp only [Option.bind_some]
   rw[e3]
   refine⟨_,_,_,rfl,?_⟩
   simp [joinL,blkL]
   omega
  ·rw[if_neg h0,e3]
   exact⟨_,_,_,rfl,hl2⟩
 by_cases h0:isC n l=true
 ·rw[if_pos h0]
  by_cases h6:n<6
  ·rw[if_pos h6]
   obtain ⟨r,b3,c3,e3,h3,_,_⟩:=next_ok h2 c2 3
   rw[e3]
   simp only [Option.bind_some]
   exact hj _ _ _ (fun _=>h0) h3
  ·rw[if_neg h6]
   exact hj _ _ _ (fun h=>by cases h) h2
 ·rw[if_neg h0]
  exact hj _ _ _ (fun h=>by cases h) h2
end
end Go.Proofs.YtbnnamejnjfkjaaGreat.K
end

section
namespace Go.Proofs.YtbnnamejnjfkjaaGreat.K
open Go.RowKit Go.Shelf Go.Proofs.YtbnnamejnjfkjaaGreat.Q Go.Proofs.YtbnnamejnjfkjaaGreatW.PrintWords Go.Proofs.YtbnnamejnjfkjaaGreatW.PrintLast Go.Proofs.YtbnnamejnjfkjaaGreatW.PrintMore
set_option linter.unusedVariables false
set_option linter.unusedSimpArgs false
set_option maxHeartbeats 1000000 in
theorem RankOf1_calls (d p:Int) {Bd Bp:Nat} (w:World) (hd:w.cell? ⟨Bd,0,none⟩=some (I d)) (hp:w.cell? ⟨Bp,0,none⟩=some (I p)) :
  Calls Tryz.prog 113 #[.pointer (some ⟨Bd,0,none⟩),.pointer (some ⟨Bp,0,none⟩)] w fun e w'=>e = .returned (.bool (decide (0≤d∧d≤6) && decide (2≤p∧p≤3)))∧Grew w w':=by
 have hlt:=World.block_lt_of_cell? w _ hp
 have H:=Aside0.mk (within_calls d 0 6 _ rfl w)
 have H2:=Aside0.mk (fun w=>isMod_calls p w)
 generalize decide (0≤d∧d≤6)=r at H ⊢
 generalize decide (2≤p∧p≤3)=q at H2 ⊢
 cases r with
 |false=>
  go_enter Tryz.func113,Tryz.ntmps113
  go_wp2_with fail
  refine H.out.mono ?_
  rintro e w1 ⟨rfl,hG1⟩
  go_wp2_with fail
  go_ret
  exact⟨rfl,hG1⟩
 |true=>
  go_enter Tryz.func113,Tryz.ntmps113
  go_wp2_with fail
  refine H.out.mono ?_
  rintro e w1 ⟨rfl,hG1⟩
  have h1:w1.cell? ⟨Bp,0,none⟩=some (I p):=(Below.cell hG1 (p:=⟨Bp,0,none⟩) hlt).trans hp
  go_wp2_with fail
  refine(H2.out w1).mono ?_
  rintro e w2 ⟨rfl,hG2⟩
  go_wp2_with fail
  go_ret
  exact⟨rfl,Grew.trans hG1 hG2⟩
set_option maxRecDepth 100000 in
set_option maxHeartbeats 4000000 in
theorem RankOf_calls (n:Int) (A:Option Addr) (c:Nat) (l:List Int) (d:Int) (p:Int) (w:World) (hk:Kx w A c l) :
  Calls Tryz.prog 41 #[.agg #[I n,.slice A l.length c],I d,I p] w fun e w'=>e = .returned (.tuple #[I (if (codeOf n l (decide (0≤d∧d≤6) && decide (2≤p∧p≤3)))=0 then (rankL l d p) else 0),I (codeOf n l (decide (0≤d∧d≤6) && decide (2≤p∧p≤3)))])∧Grew w w':=by
 obtain ⟨W3,hW3⟩:∃ W3,W3=(((w.alloc (.cells #[I n,.slice A l.length c] 26)).alloc (.cells #[I d] 2)).alloc (.cells #[I p] 2)):=⟨_,rfl⟩
 have hB:CB W3 w.heap.size n (.slice A l.length c):=by rw[hW3];exact blk_alloc (blk_alloc (blk_new w _) _) _
 have hFd:W3.heap[w.heap.size+1]?=some (.cells #[I d] 2 (0,0)):=by
  rw[hW3]
  refine blk_alloc ?_ _
  have:=blk_new (w.alloc (.cells #[I n,.slice A l.length c] 26)) (.cells #[I d] 2)
  rwa [World.size_alloc] at this
 have hFp:W3.heap[w.heap.size+2]?=some (.cells #[I p] 2 (0,0)):=by
  rw[hW3]
  have:=blk_new ((w.alloc (.cells #[I n,.slice A l.length c] 26)).alloc (.cells #[I d] 2)) (.cells #[I p] 2)
  rwa [World.size_alloc,World.size_alloc] at this
 have hg:Grew w W3:=by rw[hW3];exact below_alloc (below_alloc (below_alloc (Grew.refl w) _) _) _
 have H:=Aside0.mk (complexCode_calls (decide (0≤d∧d≤6) && decide (2≤p∧p≤3)) n A c l 113 #[] #[.pointer (some ⟨w.heap.size+1,0,none⟩),.pointer (some ⟨w.heap.size+2,0,none⟩)] W3 (hk.later hg) (enters_of Tryz.func113 (by kernel_rfl) rfl)
  (fun hi W hW=>by
   have:=RankOf1_calls d p W (blk_cell (blk_below hFd hW) 0) (blk_cell (blk_below hFp hW) 0)
   rw[Array.empty_append]
   exact this))
 have k_0:=hB.c0
 have k_1:=hB.c1
 have d_0:W3.cell? ⟨w.heap.size+1,0,none⟩=some (I d):=blk_cell hFd 0
 have p_0:W3.cell? ⟨w.heap.size+2,0,none⟩=some (I p):=blk_cell hFp 0
 have HK:=Aside0.mk hk
 have HB:=Aside0.mk hB
 have HG:=Aside0.mk hg
 have HFd:=Aside0.mk hFd
 have HFp:=Aside0.mk hFp
 clear hk hB hg hFd hFp
 obtain ⟨cc,hcc⟩:∃ cc,cc=codeOf n l (decide (0≤d∧d≤6) && decide (2≤p∧p≤3)):=⟨_,rfl⟩
 rw[← hcc] at H ⊢
 by_cases hz:cc=0
 ·subst hz
  have hb:=codeOf_zero hcc.symm
  have HI:=Aside0.mk hb.1
  have HBt:Aside0 ((decide (0≤d∧d≤6) && decide (2≤p∧p≤3))=true):=⟨hb.2⟩
  have HZ:=Aside0.mk hcc
  have hx0:∀ {α:Type} (a b:α),(if (0:Int)=0 then a else b)=a:=fun a b=>if_pos rfl
  simp only [hx0]
  clear hcc hb hx0
  subst hW3
  go_enter Tryz.func41,Tryz.ntmps41
  go_wp2_with fail
  refine H.out.mono ?_
  rintro e w1 ⟨rfl,hG1⟩
  have HB1:Aside0 (CB w1 w.heap.size n (.slice A l.length c)):=⟨blk_below HB.out hG1⟩
  have HFd1:Aside0 (w1.heap[w.heap.size+1]?=some (.cells #[I d] 2 (0,0))):=⟨blk_below HFd.out hG1⟩
  have HFp1:Aside0 (w1.heap[w.heap.size+2]?=some (.cells #[I p] 2 (0,0))):=⟨blk_below HFp.out hG1⟩
  have HG1:=Aside0.mk (Grew.trans HG.out hG1)
  clear hG1 k_0 k_1 d_0 p_0
  have k_0:=HB1.out.c0
  have k_1:=HB1.out.c1
  have d_0:w1.cell? ⟨w.heap.size+1,0,none⟩=some (I d):=blk_cell HFd1.out 0
  have p_0:w1.cell? ⟨w.heap.size+2,0,none⟩=some (I p):=blk_cell HFp1.out 0
  have hb:=HBt.out
  rw[Bool.and_eq_true,decide_eq_true_eq,decide_eq_true_eq] at hb
  have H2:=Aside0.mk (rank_calls n A c l d p w1 (HK.out.later HG1.out) HI.out (by omega) hb.2)
  clear hb
  go_wp2_with fail
  refine H2.out.mono ?_
  rintro e w2 ⟨rfl,hG2⟩
  go_wp2_with fail
  go_ret2
  exact⟨rfl,Grew.trans HG1.out hG2⟩
 ·have HV:Aside0 (∀ {α:Type} (a b:α),(if cc=0 then a else b)=b):=⟨fun a b=>if_neg hz⟩
  simp only [HV.out]
  clear hcc
  subst hW3
  go_enter Tryz.func41,Tryz.ntmps41
  go_wp2_with fail
  refine H.out.mono ?_
  rintro e w1 ⟨rfl,hG1⟩
  have HG1:=Aside0.mk (Grew.trans HG.out hG1)
  clear hG1 k_0 k_1 d_0 p_0
  go_wp2_with fail
  go_ret2
  exact⟨rfl,HG1.out⟩
end Go.Proofs.YtbnnamejnjfkjaaGreat.K
end

section
namespace Go.Proofs.YtbnnamejnjfkjaaGreat.K
open Go.RowKit Go.Shelf Go.Proofs.YtbnnamejnjfkjaaGreatW.PrintWords Go.Proofs.YtbnnamejnjfkjaaGreatW.PrintLast Go.Proofs.YtbnnamejnjfkjaaGreatW.PrintMore
set_option linter.unusedVariables false
set_option linter.unusedSimpArgs false
theorem acy1_calls (x:Int) (w:World):Calls Tryz.prog 116 #[I x] w fun e w'=>e = .returned (.bool (x == 0))∧Grew w w':=by
 go_enter Tryz.func116,Tryz.ntmps116
 go_wp2_with fail
 go_ret
 exact⟨rfl,Grew.refl w⟩
set_option maxRecDepth 100000 in
set_option maxHeartbeats 4000000 in
theorem IsAcyclicComplex_calls (n:Int) (A:Option Addr) (c:Nat) (l:List Int) (p:Int) (w:World) (hk:Kx w A c l) :
  Calls Tryz.prog 44 #[.agg #[I n,.slice A l.length c],I p] w fun e w'=>e = .returned (.tuple #[.bool (if codeOf n l (decide (2≤p∧p≤3))=0 then acyB (bettiL l p) else false),I (codeOf n l (decide (2≤p∧p≤3)))])∧Grew w w':=by
 have hg:Grew w (w.alloc (.cells #[I n,.slice A l.length c] 26)):=below_alloc (Grew.refl w) _
 have hB:CB (w.alloc (.cells #[I n,.slice A l.length c] 26)) w.heap.size n (.slice A l.length c):=blk_new w _
 have H:=Aside0.mk (BettiNumbers_calls n A c l p _ (hk.later hg))
 have hb:=betti_length l p
 have HG:=Aside0.mk hg
 have k0:=hB.c0
 have k1:=hB.c1
 clear hk hg hB
 generalize codeOf n l (decide (2≤p∧p≤3))=cd at H ⊢
 generalize bettiL l p=x at H hb ⊢
 by_cases hz:cd=0
 ·subst hz
  simp only [if_true] at H ⊢
  cases x with
  |nil=>
   go_enter Tryz.func44,Tryz.ntmps44
   go_wp2_with fail
   refine H.out.mono ?_
   rintro e w1 ⟨v,rfl,hR1,hG1⟩
   obtain ⟨A1,c1,e1⟩:=Kd.R_slice hR1
   rw[List.length_nil] at e1
   subst e1
   have HG1:=Aside0.mk (Grew.trans HG.out hG1)
   clear hR1 hG1 k0 k1 H
   go_wp2_with fail
   go_ret2
   exact⟨rfl,HG1.out⟩
  |cons y r=>
   have hrl:r.length≤5:=by simp at hb;omega
   obtain ⟨q,hq⟩:∃ q,q=r.all (· == 0):=⟨_,rfl⟩
   have HAB:=Aside0.mk (show acyB (y :: r)=(y == 1 && q) by rw[hq];rfl)
   have HQ:=Aside0.mk hq
   clear hq
   rw[HAB.out]
   go_enter Tryz.func44,Tryz.ntmps44
   go_wp2_with fail
   refine H.out.mono ?_
   rintro e w1 ⟨v,rfl,hR1,hG1⟩
   obtain ⟨G,c1,e1,_,_,_⟩:=Kd.R_form hR1 (by simp)
   subst e1
   have hcc:=(Kd.R_reads' hR1).2.1
   have hcell:=fun(j:Nat) (hj:j<(y :: r).length)=>(Kd.R_celln 0 hR1 (j:Int) (by omega) (by omega)).1
   have hy:w1.cell? ⟨G,0,none⟩=some (I y):=hcell 0 (by simp)
   have HCL:Aside0 (∀ j (hj:j<r.length),w1.cell? ⟨G,j+1,none⟩=some (I r[j])):=⟨fun j hj=>by
    have h2:=hcell (j+1) (by simp;omega)
    rw[Int.toNat_natCast] at h2
    have h3:rdOf 0 (y :: r) ((j+1:Nat):Int)=r[j]:=by
     have h4:j+1<(y :: r).length:=by simp;omega
     have h5:rdOf 0 (y :: r) ((j+1:Nat):Int)=(y :: r).getD (j+1) 0:=rfl
     rw[h5]
     simp [hj]
    rw[h3] at h2
    exact h2⟩
   have HG1:=Aside0.mk (Grew.trans HG.out hG1)
   have hl1:(y :: r).length=r.length+1:=by simp
   rw[hl1] at hcc ⊢
   clear hR1 hG1 k0 k1 H hcell hl1
   have hpos:(0:Int)<((r.length+1:Nat):Int):=by omega
   by_cases hy1:y=1
   ·subst hy1
    have HC:=Aside0.mk (fun(A2:Option Addr) (c2:Nat) (h:r.length=0∨A2=some ⟨G,1,none⟩) (hc2:r.length≤c2)=>areAll_int (fun n=>n == 0) A2 c2 r 116 #[] #[] w1 (Kd.C_of_reads (d:=(0:Int)) ⟨rfl,by omega,fun h0=>by
      rcases h with h|h
      ·omega
      ·refine⟨⟨G,1,none⟩,h,fun j hj=>?_⟩
       have e1:Addr.add ⟨G,1,none⟩ j=⟨G,j+1,none⟩:=by rw[add_at2,Nat.add_comm]
       rw[e1,HCL.out j hj]
       simp [hj]⟩) hc2 (by omega) (enters_of Tryz.func116 (by kernel_rfl) rfl) (fun x _ W _=>acy1_calls x W))
    rw[← HQ.out] at HC
    by_cases h1c:1<c1
    ·go_wp2_with fail
     have H4:=Aside0.mk (HC.out (some ⟨G,1,none⟩) (c1 - 1) (.inr rfl) (by omega))
     refine H4.out.mono ?_
     rintro e w2 ⟨rfl,hG2⟩
     have HG2:=Aside0.mk (Grew.trans HG1.out hG2)
     clear hG2
     go_wp2_with fail
     go_ret2
     exact⟨by cases q <;> rfl,HG2.out⟩
    ·have hr0:r.length=0:=by omega
     go_wp2_with fail
     have H4:Aside0 (∀ A2 c2,Calls Tryz.prog 115 #[.slice A2 0 c2,.func (.func 116) #[] #[]] w1 fun e w'=>e = .returned (.bool q)∧Grew w1 w'):=⟨fun A2 c2=>by
      have h:=HC.out A2 c2 (.inl hr0) (by omega)
      rw[hr0] at h
      exact h⟩
     refine(H4.out _ _).mono ?_
     rintro e w2 ⟨rfl,hG2⟩
     have HG2:=Aside0.mk (Grew.trans HG1.out hG2)
     clear hG2
     go_wp2_with fail
     go_ret2
     exact⟨by cases q <;> rfl,HG2.out⟩
   ·have HF:Aside0 ((y == 1 && q)=false):=⟨by simp [hy1]⟩
    go_wp2_with fail
    go_ret2
    exact⟨by rw[HF.out];rfl,HG1.out⟩
 ·have HV:Aside0 (∀ {α:Type} (a b:α),(if cd=0 then a else b)=b):=⟨fun a b=>if_neg hz⟩
  simp only [HV.out] at H ⊢
  go_enter Tryz.func44,Tryz.ntmps44
  go_wp2_with fail
  refine H.out.mono ?_
  rintro e w1 ⟨v,rfl,hR1,hG1⟩
  have HG1:=Aside0.mk (Grew.trans HG.out hG1)
  clear hR1 hG1 k0 k1 H
  go_wp2_with fail
  go_ret2
  exact⟨rfl,HG1.out⟩
end Go.Proofs.YtbnnamejnjfkjaaGreat.K
end

section
namespace Go.Proofs.YtbnnamejnjfkjaaGreat.K
open Go.RowKit Go.Shelf Go.Proofs.YtbnnamejnjfkjaaGreat.Q Go.Proofs.YtbnnamejnjfkjaaGreatW.PrintWords Go.Proofs.YtbnnamejnjfkjaaGreatW.PrintLast Go.Proofs.YtbnnamejnjfkjaaGreatW.PrintMore
set_option linter.unusedVariables false
set_option linter.unusedSimpArgs false
set_option maxHeartbeats 1000000 in
theorem CountCycles1_calls (d:Int) {B:Nat} (w:World) (hb:w.cell? ⟨B,0,none⟩=some (I d)) :
  Calls Tryz.prog 108 #[.pointer (some ⟨B,0,none⟩)] w fun e w'=>e = .returned (.bool (decide (0≤d∧d≤5)))∧Grew w w':=by
 have H:=Aside0.mk (isDim_calls d w)
 generalize decide (0≤d∧d≤5)=r at H ⊢
 go_enter Tryz.func108,Tryz.ntmps108
 go_wp2_with fail
 refine H.out.mono ?_
 rintro e w1 ⟨rfl,hG1⟩
 go_wp2_with fail
 go_ret
 exact⟨rfl,hG1⟩
theorem length_calls (A:Option Addr) (c:Nat) (l:List Int) (w:World) (hr:Ki.C w A l.length l) (hc:l.length≤c) :
  Calls Tryz.prog 110 #[.slice A l.length c] w fun e w'=>e = .returned (I (l.length:Int))∧Grew w w':=
 (impl_length_int64.calls A c l _ w hr hc rfl).mono fun e w' ⟨he,hd⟩=>⟨he,hd.below⟩
set_option maxRecDepth 100000 in
set_option maxHeartbeats 4000000 in
theorem CountCycles_calls (n:Int) (A:Option Addr) (c:Nat) (l:List Int) (d:Int) (w:World) (hk:Kx w A c l) :
  Calls Tryz.prog 39 #[.agg #[I n,.slice A l.length c],I d] w fun e w'=>e = .returned (.tuple #[I (if (codeOf n l (decide (0≤d∧d≤5)))=0 then (shl .i64 1 (((ofL l d).length:Int) - rankL l d 2)) else 0),I (if (codeOf n l (decide (0≤d∧d≤5)))=0 then (shl .i64 1 (rankL l (d+1) 2)) else 0),I (codeOf n l (decide (0≤d∧d≤5)))])∧Grew w w':=by
 obtain ⟨W3,hW3⟩:∃ W3,W3=((w.alloc (.cells #[I n,.slice A l.length c] 26)).alloc (.cells #[I d] 2)):=⟨_,rfl⟩
 have hB:CB W3 w.heap.size n (.slice A l.length c):=by rw[hW3];exact blk_alloc (blk_new w _) _
 have hFd:W3.heap[w.heap.size+1]?=some (.cells #[I d] 2 (0,0)):=by
  rw[hW3]
  have:=blk_new (w.alloc (.cells #[I n,.slice A l.length c] 26)) (.cells #[I d] 2)
  rwa [World.size_alloc] at this
 have hg:Grew w W3:=by rw[hW3];exact below_alloc (below_alloc (Grew.refl w) _) _
 have H:=Aside0.mk (complexCode_calls (decide (0≤d∧d≤5)) n A c l 108 #[] #[.pointer (some ⟨w.heap.size+1,0,none⟩)] W3 (hk.later hg) (enters_of Tryz.func108 (by kernel_rfl) rfl)
  (fun hi W hW=>by
   have:=CountCycles1_calls d W (blk_cell (blk_below hFd hW) 0)
   rw[Array.empty_append]
   exact this))
 have k_0:=hB.c0
 have k_1:=hB.c1
 have d_0:W3.cell? ⟨w.heap.size+1,0,none⟩=some (I d):=blk_cell hFd 0
 have HK:=Aside0.mk hk
 have HB:=Aside0.mk hB
 have HG:=Aside0.mk hg
 have HFd:=Aside0.mk hFd
 clear hk hB hg hFd
 obtain ⟨cc,hcc⟩:∃ cc,cc=codeOf n l (decide (0≤d∧d≤5)):=⟨_,rfl⟩
 rw[← hcc] at H ⊢
 by_cases hz:cc=0
 ·subst hz
  have hb:=codeOf_zero hcc.symm
  have HI:=Aside0.mk hb.1
  have HBt:Aside0 ((decide (0≤d∧d≤5))=true):=⟨hb.2⟩
  have HZ:=Aside0.mk hcc
  have hx0:∀ {α:Type} (a b:α),(if (0:Int)=0 then a else b)=a:=fun a b=>if_pos rfl
  simp only [hx0]
  clear hcc hb hx0
  subst hW3
  go_enter Tryz.func39,Tryz.ntmps39
  go_wp2_with fail
  refine H.out.mono ?_
  rintro e w1 ⟨rfl,hG1⟩
  have HB1:Aside0 (CB w1 w.heap.size n (.slice A l.length c)):=⟨blk_below HB.out hG1⟩
  have HFd1:Aside0 (w1.heap[w.heap.size+1]?=some (.cells #[I d] 2 (0,0))):=⟨blk_below HFd.out hG1⟩
  have HG1:=Aside0.mk (Grew.trans HG.out hG1)
  clear hG1 k_0 k_1 d_0
  have k_0:=HB1.out.c0
  have k_1:=HB1.out.c1
  have d_0:w1.cell? ⟨w.heap.size+1,0,none⟩=some (I d):=blk_cell HFd1.out 0
  have hb:=HBt.out
  rw[decide_eq_true_eq] at hb
  have hf:=isC_faces HI.out
  have HF:=Aside0.mk (isC_of HI.out)
  have H1:=Aside0.mk (fun W (h:Kx W A c l)=>of_calls n A c l d W h (by omega) HF.out)
  obtain ⟨rk,hrk⟩:∃ rk:Int→Int,rk=fun x=>rankL l x 2:=⟨_,rfl⟩
  have HRK:=Aside0.mk (fun W x (h0:x=d∨x=d+1) (h:Kx W A c l)=>rank_calls n A c l x 2 W h HI.out (by omega) (by omega))
  have e1:∀ x,rankL l x 2=rk x:=fun x=>by rw[hrk]
  have hr1:=rankL_range l d 2 (by omega)
  have hr2:=betti_rng HI.out (d+1) 2 (by omega)
  have ho:=of_length l d
  have hl63:=hf.2.2.2
  simp only [e1] at HRK hr1 hr2
  have HE1:=Aside0.mk e1
  obtain ⟨F,hF⟩:∃ F,F=ofL l d:=⟨_,rfl⟩
  rw[← hF] at H1 hr1 ho
  have HF0:=Aside0.mk hF
  clear e1 hrk hf hF
  have hw1:IntKind.i64.wrap ((F.length:Int) - rk d)=(F.length:Int) - rk d:=i64w _ (by omega)
  have hw2:IntKind.i64.wrap (d+1)=d+1:=i64w _ (by omega)
  have hsh1:(0:Int)≤(F.length:Int) - rk d:=by omega
  have hsh1':¬ ((F.length:Int) - rk d<0):=by omega
  have hsh2:(0:Int)≤rk (d+1):=hr2.1
  have hsh2':¬ (rk (d+1)<0):=by omega
  have hs1:∀ W:World,(Op.shift .shl .i64 1 .i64 ((F.length:Int) - rk d)).run Tryz.prog W = .ok (.int .i64 (shl .i64 1 ((F.length:Int) - rk d))) W:=fun W=>by unfold Op.shift;rw[if_neg hsh1'];rfl
  have hs2:∀ W:World,(Op.shift .shl .i64 1 .i64 (rk (d+1))).run Tryz.prog W = .ok (.int .i64 (shl .i64 1 (rk (d+1)))) W:=fun W=>by unfold Op.shift;rw[if_neg hsh2'];rfl
  have hlk:w.heap.size<w1.heap.size:=World.block_lt_of_cell? w1 _ k_0
  have hld:w.heap.size+1<w1.heap.size:=World.block_lt_of_cell? w1 _ d_0
  clear hb hr1 hr2 ho hl63
  go_wp2_with fail
  go_region_held3 (fun w'=>w'.cell? ⟨w.heap.size,0,none⟩=some (I n)∧w'.cell? ⟨w.heap.size,1,none⟩=some (.slice A l.length c)∧w'.cell? ⟨w.heap.size+1,0,none⟩=some (I d))
   (first|exact⟨(HDc.out.cell (p:=⟨w.heap.size,0,none⟩) hlk).trans k_0,(HDc.out.cell (p:=⟨w.heap.size,1,none⟩) hlk).trans k_1,(HDc.out.cell (p:=⟨w.heap.size+1,0,none⟩) hld).trans d_0⟩|exact⟨(HDb.out.cell (p:=⟨w.heap.size,0,none⟩) hlk).trans k_0,(HDb.out.cell (p:=⟨w.heap.size,1,none⟩) hlk).trans k_1,(HDb.out.cell (p:=⟨w.heap.size+1,0,none⟩) hld).trans d_0⟩|exact⟨(HDa.out.cell (p:=⟨w.heap.size,0,none⟩) hlk).trans k_0,(HDa.out.cell (p:=⟨w.heap.size,1,none⟩) hlk).trans k_1,(HDa.out.cell (p:=⟨w.heap.size+1,0,none⟩) hld).trans d_0⟩|go_keep)
   (first
    |(go_at_call 111;refine(H1.out _ (HK.out.later (Below.trans HG1.out ((Below.refl _ w1).drew)))).mono ?_;rintro e w2 ⟨v2,rfl,hRa,hGa⟩;obtain ⟨A2,c2,e2,hc2,hr2'⟩:=Kd.R_reads hRa;subst e2;have HDa:Aside0 (Grew w1 w2):=⟨Below.trans ((Below.refl _ w1).drew) hGa⟩;have HRa:=Aside0.mk hr2';have HCa:=Aside0.mk hc2;clear hRa hGa hr2' hc2)
    |(go_at_call 110;refine(length_calls A2 c2 F _ HRa.out HCa.out).mono ?_;rintro e w3 ⟨rfl,hGb⟩;have HDb:Aside0 (Grew w1 w3):=⟨Grew.trans HDa.out hGb⟩;clear hGb)
    |(go_at_call 112;refine(HRK.out _ _ (by first|exact .inl rfl|exact .inr rfl) (HK.out.later (Grew.trans HG1.out (by first|exact HDc.out|exact HDb.out)))).mono ?_;rintro e w4 ⟨rfl,hGc⟩;have HDc:Aside0 (Grew w1 w4):=⟨by first|exact Grew.trans HDc.out hGc|exact Grew.trans HDb.out hGc⟩;clear hGc))
  have hsl:shl .i64 1 (rk (d+1))=IntKind.i64.wrap (2 ^ min (rk (d+1)).toNat 64):=by unfold shl;rw[Int.one_mul];rfl
  all_goals (go_wp2_with fail;go_ret3;exact⟨by rw[HE1.out,HE1.out,← HF0.out,hsl];rfl,Grew.trans HG1.out HDc.out⟩)
 ·have HV:Aside0 (∀ {α:Type} (a b:α),(if cc=0 then a else b)=b):=⟨fun a b=>if_neg hz⟩
  simp only [HV.out]
  clear hcc
  subst hW3
  go_enter Tryz.func39,Tryz.ntmps39
  go_wp2_with fail
  refine H.out.mono ?_
  rintro e w1 ⟨rfl,hG1⟩
  have HG1:=Aside0.mk (Grew.trans HG.out hG1)
  clear hG1 k_0 k_1 d_0
  go_wp2_with fail
  go_ret3
  exact⟨rfl,HG1.out⟩
end Go.Proofs.YtbnnamejnjfkjaaGreat.K
end

section
namespace Go.Proofs.YtbnnamejnjfkjaaGreat.K
open Go.RowKit Go.Shelf Go.Proofs.YtbnnamejnjfkjaaGreat.Q Go.Proofs.YtbnnamejnjfkjaaGreatW.PrintWords Go.Proofs.YtbnnamejnjfkjaaGreatW.PrintLast Go.Proofs.YtbnnamejnjfkjaaGreatW.PrintMore
set_option linter.unusedVariables false
set_option linter.unusedSimpArgs false
theorem specFace_is (n:Int) (l:List Int) (f:Int) (hl:l.length≤2097152) (k:Nat) (hk:isK l≤k):spec_l01Face.f k n l f=some (codeOf n l (decide (f ∈ l))):=by
 have hk2:l.length<k:=by unfold isK at hk;omega
 unfold spec_l01Face.f
 rw[specIs_is n l hl k hk]
 simp only [Option.bind_some]
 unfold codeOf
 cases isC n l
 ·simp
 ·rw[if_pos rfl,specHas_is n f l (by omega) k hk2]
  by_cases h:f ∈ l <;> simp [h]
end Go.Proofs.YtbnnamejnjfkjaaGreat.K
end

section
namespace Go.Proofs.YtbnnamejnjfkjaaGreat.K
open Go.RowKit Go.Shelf Go.Proofs.YtbnnamejnjfkjaaGreat.Q Go.Proofs.YtbnnamejnjfkjaaGreatW.PrintWords Go.Proofs.YtbnnamejnjfkjaaGreatW.PrintLast Go.Proofs.YtbnnamejnjfkjaaGreatW.PrintMore
set_option linter.unusedVariables false
set_option linter.unusedSimpArgs false
theorem specSignsOf_is (n:Int) (l:List Int) (f:Int) (hl:l.length≤2097152) (k:Nat) (hk:isK l+20≤k) :
  spec_SignsOf.f k n l f=some ((if codeOf n l (hasB l f)=0 then signsL f else []),codeOf n l (hasB l f)):=by
 unfold spec_SignsOf.f
 rw[specFace_is n l f hl k (by omega)]
 simp only [Option.bind_some]
 cases hi:isC n l with
 |false=>simp [codeOf,hi]
 |true=>
  obtain ⟨hn,hs,hr,h63⟩:=isC_faces hi
  rw[has_asc l f (by omega) hs]
  by_cases hf:f ∈ l
  ·have:=hr f hf
   rw[specSigns_is f (by omega) (by omega) k (by omega)]
   simp [codeOf,hi,hf]
  ·simp [codeOf,hi,hf]
theorem signs_len (f cd:Int):(if cd=0 then signsL f else []).length≤63:=by
 have:=signs_length f
 split
 ·omega
 ·simp
end Go.Proofs.YtbnnamejnjfkjaaGreat.K
end

section
namespace Go.Proofs.YtbnnamejnjfkjaaGreat.X
open Go.RowKit Go.Shelf Go.Proofs.YtbnnamejnjfkjaaGreat.K Go.Proofs.YtbnnamejnjfkjaaGreatW.PrintWords Go.Proofs.YtbnnamejnjfkjaaGreatW.PrintLast Go.Proofs.YtbnnamejnjfkjaaGreatW.PrintMore
set_option linter.unusedVariables false
set_option linter.unusedSimpArgs false
def impl_Complex_of.f (a0_0:Int) (l0_1:List Int) (a1:Int):Option (List Int):=if l0_1.length≤63∧∀ x ∈ l0_1,0≤x∧x≤63 then some (ofL l0_1 a1) else none
theorem impl_Complex_of.calls (a0_0:Int) (A0_1:Option Addr) (c0_1:Nat) (l0_1:List Int) (a1:Int) (r:List Int) (w:World) (hr0_1:Kd.C (Kd.int .i64) w A0_1 l0_1.length l0_1) (hc0_1:l0_1.length≤c0_1) (h:impl_Complex_of.f a0_0 l0_1 a1=some r) :
  Calls Tryz.prog 111 #[.agg #[.int .i64 a0_0,.slice A0_1 l0_1.length c0_1],.int .i64 a1] w fun e w'=>∃ v0_:Value,e = .returned (v0_)∧Kd.R (Kd.int .i64) 2 w' w.heap.size (fun _=>True) v0_ r∧Below w.heap.size w w':=by
 unfold impl_Complex_of.f at h
 by_cases hl:l0_1.length≤63∧∀ x ∈ l0_1,0≤x∧x≤63
 ·rw[if_pos hl] at h
  injection h with h
  subst h
  exact of_calls a0_0 A0_1 c0_1 l0_1 a1 w ⟨hr0_1,hc0_1,by omega⟩ (by omega) hl.2
 ·rw[if_neg hl] at h
  cases h
end Go.Proofs.YtbnnamejnjfkjaaGreat.X
end

section
namespace Go.Proofs.YtbnnamejnjfkjaaGreat.C
open Go.RowKit Go.Proofs.YtbnnamejnjfkjaaGreat.Q Go.Proofs.YtbnnamejnjfkjaaGreat.X Go.Proofs.YtbnnamejnjfkjaaGreatW.PrintWords Go.Proofs.YtbnnamejnjfkjaaGreatW.PrintLast Go.Proofs.YtbnnamejnjfkjaaGreatW.PrintMore
attribute [local go_sem] max2_int min2_int max_two min_two max_three min_three max_four min_four
set_option linter.unusedVariables false
set_option linter.unusedSimpArgs false
mutual
def impl_Complex_components.l0:Nat→List Int→Int→List Int→Int→Int→Int→List Int→Option (List Int)
 |0,_,_,_,_,_,_,_=>none
 |k+1,x3,x4,x12,x13,x14,x102000,x102001=>if x14<x13 then (if 0≤x14 then (if x14<(x12.length:Int) then ((impl_isIn.f (rd x12 x14) x4).bind fun t106=>(if t106=true then (impl_Complex_components.l0 k x3 x4 x12 x13 (wrap64 (x14+1)) x102000 x102001) else (impl_Complex_components.l1 k x3 x4 (rd x12 x14) true x12 x13 x14 x102000 x102001))) else (none)) else (none)) else (some x3)
def impl_Complex_components.l1:Nat→List Int→Int→Int→Bool→List Int→Int→Int→Int→List Int→Option (List Int)
 |0,_,_,_,_,_,_,_,_,_=>none
 |k+1,x3,x4,x7,x8,x12,x13,x14,x102000,x102001=>if x8=true then ((impl_Complex_of.f x102000 x102001 1).bind fun t110=>(impl_Complex_components.l2 k x3 x4 x7 false x12 x13 x14 t110 (t110.length:Int) 0 x102000 x102001)) else (if x3.length<17592186044416 then (impl_Complex_components.l0 k (x3 ++ [x7]) (Go.bits .or .i64 x4 x7) x12 x13 (wrap64 (x14+1)) x102000 x102001) else (none))
def impl_Complex_components.l2:Nat→List Int→Int→Int→Bool→List Int→Int→Int→List Int→Int→Int→Int→List Int→Option (List Int)
 |0,_,_,_,_,_,_,_,_,_,_,_,_=>none
 |k+1,x3,x4,x7,x8,x12,x13,x14,x24,x25,x26,x102000,x102001=>if x26<x25 then (if 0≤x26 then (if x26<(x24.length:Int) then (if (Go.bits .and .i64 (rd x24 x26) x7)=0 then (impl_Complex_components.l2 k x3 x4 x7 x8 x12 x13 x14 x24 x25 (wrap64 (x26+1)) x102000 x102001) else ((impl_isIn.f (rd x24 x26) x7).bind fun t114=>(if t114=true then (impl_Complex_components.l2 k x3 x4 x7 x8 x12 x13 x14 x24 x25 (wrap64 (x26+1)) x102000 x102001) else (impl_Complex_components.l2 k x3 x4 (Go.bits .or .i64 x7 (rd x24 x26)) true x12 x13 x14 x24 x25 (wrap64 (x26+1)) x102000 x102001)))) else (none)) else (none)) else (impl_Complex_components.l1 k x3 x4 x7 x8 x12 x13 x14 x102000 x102001)
end
def impl_Complex_components.f (k:Nat) (a0_0:Int) (l0_1:List Int):Option (List Int):=(impl_Complex_of.f a0_0 l0_1 0).bind fun t102=>(impl_Complex_components.l0 k ([]:List Int) 0 t102 (t102.length:Int) 0 a0_0 l0_1)
theorem impl_Complex_components.mono_l:∀ k,(∀ y0 y1 y2 y3 y4 y5 y6,LeO (impl_Complex_components.l0 k y0 y1 y2 y3 y4 y5 y6) (impl_Complex_components.l0 (k+1) y0 y1 y2 y3 y4 y5 y6))∧(∀ y0 y1 y2 y3 y4 y5 y6 y7 y8,LeO (impl_Complex_components.l1 k y0 y1 y2 y3 y4 y5 y6 y7 y8) (impl_Complex_components.l1 (k+1) y0 y1 y2 y3 y4 y5 y6 y7 y8))∧(∀ y0 y1 y2 y3 y4 y5 y6 y7 y8 y9 y10 y11,LeO (impl_Complex_components.l2 k y0 y1 y2 y3 y4 y5 y6 y7 y8 y9 y10 y11) (impl_Complex_components.l2 (k+1) y0 y1 y2 y3 y4 y5 y6 y7 y8 y9 y10 y11))
 |0=>⟨fun _ _ _ _ _ _ _ r h=>by simp [impl_Complex_components.l0] at h,fun _ _ _ _ _ _ _ _ _ r h=>by simp [impl_Complex_components.l1] at h,fun _ _ _ _ _ _ _ _ _ _ _ _ r h=>by simp [impl_Complex_components.l2] at h⟩
 |k+1=>by
  obtain ⟨ih0,ih1,ih2⟩:=impl_Complex_components.mono_l k;refine⟨?_,?_,?_⟩
  ·intro y0 y1 y2 y3 y4 y5 y6;unfold impl_Complex_components.l0;repeat' first
   |(with_reducible first|exact ih0 _ _ _ _ _ _ _|exact ih1 _ _ _ _ _ _ _ _ _|exact ih2 _ _ _ _ _ _ _ _ _ _ _ _|exact LeO.refl _|exact LeO.none _|refine LeO.ite ?_ ?_|refine LeO.bind ?_ (fun _=>?_))
  ·intro y0 y1 y2 y3 y4 y5 y6 y7 y8;unfold impl_Complex_components.l1;repeat' first
   |(with_reducible first|exact ih0 _ _ _ _ _ _ _|exact ih1 _ _ _ _ _ _ _ _ _|exact ih2 _ _ _ _ _ _ _ _ _ _ _ _|exact LeO.refl _|exact LeO.none _|refine LeO.ite ?_ ?_|refine LeO.bind ?_ (fun _=>?_))
  ·intro y0 y1 y2 y3 y4 y5 y6 y7 y8 y9 y10 y11;unfold impl_Complex_components.l2;repeat' first
   |(with_reducible first|exact ih0 _ _ _ _ _ _ _|exact ih1 _ _ _ _ _ _ _ _ _|exact ih2 _ _ _ _ _ _ _ _ _ _ _ _|exact LeO.refl _|exact LeO.none _|refine LeO.ite ?_ ?_|refine LeO.bind ?_ (fun _=>?_))
theorem impl_Complex_components.mono:∀ a0 a1 k,LeO (impl_Complex_components.f k a0 a1) (impl_Complex_components.f (k+1) a0 a1):=by
 intro a0 a1 k;obtain ⟨ih0,ih1,ih2⟩:=impl_Complex_components.mono_l k;unfold impl_Complex_components.f;repeat' first
   |(with_reducible first|exact ih0 _ _ _ _ _ _ _|exact ih1 _ _ _ _ _ _ _ _ _|exact ih2 _ _ _ _ _ _ _ _ _ _ _ _|exact LeO.refl _|exact LeO.none _|refine LeO.ite ?_ ?_|refine LeO.bind ?_ (fun _=>?_))
set_option maxHeartbeats 8000000 in
set_option maxRecDepth 100000 in
theorem impl_Complex_components.calls (k:Nat) (a0_0:Int) (A0_1:Option Addr) (c0_1:Nat) (l0_1:List Int) (r:List Int) (w:World) (hr0_1:Kd.C (Kd.int .i64) w A0_1 l0_1.length l0_1) (hc0_1:l0_1.length≤c0_1) (h:impl_Complex_components.f k a0_0 l0_1=some r) :
  Calls Tryz.prog 88 #[.agg #[.int .i64 a0_0,.slice A0_1 l0_1.length c0_1]] w fun e w'=>∃ v0_:Value,e = .returned (v0_)∧Kd.R (Kd.int .i64) 2 w' w.heap.size (fun _=>True) v0_ r∧Below w.heap.size w w':=by
 have hu26:=Tryz.underlying26;have HR0_1:=Aside0.mk hr0_1;have HC0_1:=Aside0.mk hc0_1;clear hr0_1 hc0_1;have HB:=Aside0.mk (Below.refl w.heap.size w);have H:((impl_Complex_of.f a0_0 l0_1 0).bind fun t102=>(impl_Complex_components.l0 k ([]:List Int) 0 t102 (t102.length:Int) 0 a0_0 l0_1))=some r:=h;clear h;replace H:=Option.bind_eq_some_iff.mp H;obtain ⟨t102,A20,H⟩:=H;replace H:(impl_Complex_components.l0 k ([]:List Int) 0 t102 (t102.length:Int) 0 a0_0 l0_1)=some r:=H;have A2:=Aside0.mk A20;clear A20;have H':=Aside0.mk H;clear H;go_enter Tryz.func88,Tryz.ntmps88;go_wp2_with (first|((with_reducible refine gate_dst (N:=1) rfl ?_);refine bx 1 #[.int .i64 a0_0,.slice A0_1 l0_1.length c0_1] 26 ?_;intro gb101 hg w3 hbox hb;have BK101:=Aside0.mk (hbox);have GE101:=gzA hg HB;replace HB:=bsA HB hb;clear hb hbox hg;have hcz4_0:=z0_ BK101;have hcz4_1:=z1_ BK101;have hfz4_0:=hf_ BK101 0;have hfz4_1:=hf_ BK101 1)|((with_reducible refine gate_callee (f:=111) rfl ?_);refine gl (some 12) Tryz.func111 #[.agg #[.int .i64 a0_0,.slice A0_1 l0_1.length c0_1],.int .i64 0] ?_;(with_reducible refine(impl_Complex_of.calls a0_0 _ _ l0_1 0 t102 _ (cb (Kd.C_below HR0_1.out HB.out)) HC0_1.out A2.out).mono ?_);rintro e w5 ⟨v103,rfl,ho0,hb⟩;refine⟨_,rfl,?_⟩;have HO104:=klA ho0 HB;replace BK101:=bkA BK101 hb;replace HB:=bsA HB hb;(try clear hb);(try clear hb2);(try clear hk);(try clear hi);(try clear ho0);obtain ⟨Ao6,co6,eo6⟩:=Kd.R_slice HO104.out;subst eo6))
 go_loopg [3,4,14] k (fun kq v3 v4 v14 w'=>∃(x3_1:List Int) (x4_1:Int) (x14_1:Int),v4 = .int .i64 x4_1∧v14 = .int .i64 x14_1∧Aside0 (impl_Complex_components.l0 kq x3_1 x4_1 t102 (t102.length:Int) x14_1 a0_0 l0_1=some r)∧Aside0 (kq≤k)∧Aside0 (Kd.R (Kd.int .i64) 2 w' w.heap.size (fun k_=>some k_≠((.slice Ao6 t102.length co6):Value).ownBlock) v3 x3_1)∧Aside0 (Kd.R (Kd.int .i64) 2 w' w.heap.size (fun k_=>some k_≠(v3:Value).ownBlock) (.slice Ao6 t102.length co6) t102)∧Aside0 (w'.heap[gb101]?=some (.cells #[.int .i64 a0_0,(.slice A0_1 l0_1.length c0_1)] 26 (0,0)))∧Aside0 (Below w.heap.size w w'))
 case atStart=>exact⟨(([]:List Int)),(0),(0),rs,rs,H',⟨Nat.le_refl _⟩,⟨by first|exact Kd.R_nil _ _ _ _ _|exact Kd.N_nil _ _ _ _ _|exact Kd.V_nil _ _ _ _ _|exact Kd.Q_nil _ _ _ _ _|exact Kd.S_nil _ _ _ _ _⟩,⟨by(with_reducible repeat(first|apply Kd.R_alloc|apply Kd.R_drewN|apply Kd.R_drew));exact Kd.R_mono HO104.out (fun _ hk=>(by simp [Value.ownBlock]))⟩,⟨bk BK101.out⟩,⟨bl HB.out⟩⟩
 case round=>
  clear H';try clear c1
  try clear p2
  try clear hcz4_0
  try clear hcz4_1
  try clear hfz4_0
  try clear hfz4_1
  obtain ⟨x3_1,x4_1,x14_1,rfl,rfl,HA,HK1,HO_3,HO_12,BK101,HB⟩:=hrel;cases gk with
  |zero=>exact absurd HA.out (by simp [impl_Complex_components.l0])
  |succ k1=>
   have H:=HA.out;clear HA;simp only [impl_Complex_components.l0] at H;by_cases c7:x14_1<(t102.length:Int)
   ·rw[if_pos c7] at H;have c7b0:decide (x14_1<(t102.length:Int))=true:=decide_eq_true c7;clear c7;by_cases c8:0≤x14_1
    ·rw[if_pos c8] at H;have c8b0:decide (0≤x14_1)=true:=decide_eq_true c8;clear c8;by_cases c9:x14_1<(t102.length:Int)
     ·rw[if_pos c9] at H;have c9b0:decide (x14_1<(t102.length:Int))=true:=decide_eq_true c9;clear c9;replace H:=Option.bind_eq_some_iff.mp H;obtain ⟨t106,A100,H⟩:=H;replace H:(if t106=true then (impl_Complex_components.l0 k1 x3_1 x4_1 t102 (t102.length:Int) (wrap64 (x14_1+1)) a0_0 l0_1) else (impl_Complex_components.l1 k1 x3_1 x4_1 (rd t102 x14_1) true t102 (t102.length:Int) x14_1 a0_0 l0_1))=some r:=H;have A10:=Aside0.mk A100;clear A100;by_cases c11:t106=true
      ·subst c11;have H1:(impl_Complex_components.l0 k1 x3_1 x4_1 t102 (t102.length:Int) (wrap64 (x14_1+1)) a0_0 l0_1)=some r:=by rw[if_pos rfl] at H;exact H
       clear H;have H:=H1;clear H1;have H':=Aside0.mk H;clear H;have p105:0≤(x14_1:Int):=dd;have q105:x14_1<(t102.length:Int):=dd;obtain ⟨ad105,e105,hx105_0⟩:=Kd.at_int (Kd.R_reads' HO_12.out).2.2 x14_1 p105 q105;cases e105;replace p105:=eq_true p105;replace q105:=eq_true q105;go_wp2_with (first|((with_reducible refine gate_callee (f:=64) rfl ?_);refine gl (some 20) Tryz.func64 #[.int .i64 (rd t102 x14_1),.int .i64 x4_1] ?_;(with_reducible refine(impl_isIn.calls (rd t102 x14_1) x4_1 true _ A10.out).mono ?_);rintro e w' ⟨rfl,⟨nd,rfl⟩⟩;refine⟨_,rfl,?_⟩))
       go_roundg k1
       case measure=>have:=HK1.out;omega
       case rel=>exact⟨(x3_1),(x4_1),(wrap64 (x14_1+1)),rs,rs,H',⟨by have:=HK1.out;omega⟩,⟨kr HO_3.out⟩,⟨kr HO_12.out⟩,⟨bk BK101.out⟩,⟨bl HB.out⟩⟩
      ·replace c11:=Bool.eq_false_iff.mpr c11;subst c11;have H1:(impl_Complex_components.l1 k1 x3_1 x4_1 (rd t102 x14_1) true t102 (t102.length:Int) x14_1 a0_0 l0_1)=some r:=by rw[if_neg (show ¬ (false=true) by decide)] at H;exact H
       clear H;have H:=H1;clear H1;have H':=Aside0.mk H;clear H;have p105:0≤(x14_1:Int):=dd;have q105:x14_1<(t102.length:Int):=dd;obtain ⟨ad105,e105,hx105_0⟩:=Kd.at_int (Kd.R_reads' HO_12.out).2.2 x14_1 p105 q105;cases e105;replace p105:=eq_true p105;replace q105:=eq_true q105;go_wp2_with (first|((with_reducible refine gate_callee (f:=64) rfl ?_);refine gl (some 20) Tryz.func64 #[.int .i64 (rd t102 x14_1),.int .i64 x4_1] ?_;(with_reducible refine(impl_isIn.calls (rd t102 x14_1) x4_1 false _ A10.out).mono ?_);rintro e w' ⟨rfl,⟨nd,rfl⟩⟩;refine⟨_,rfl,?_⟩))
       go_loopg [7,8] k1 (fun kq v7 v8 w'=>∃(x7_2:Int) (x8_2:Bool),v7 = .int .i64 x7_2∧v8 = .bool x8_2∧Aside0 (impl_Complex_components.l1 kq x3_1 x4_1 x7_2 x8_2 t102 (t102.length:Int) x14_1 a0_0 l0_1=some r)∧Aside0 (kq≤k1)∧Aside0 (Kd.R (Kd.int .i64) 2 w' w.heap.size (fun k_=>some k_≠((.slice (some ad105) t102.length co6):Value).ownBlock) u3 x3_1)∧Aside0 (Kd.R (Kd.int .i64) 2 w' w.heap.size (fun k_=>some k_≠(u3:Value).ownBlock) (.slice (some ad105) t102.length co6) t102)∧Aside0 (w'.heap[gb101]?=some (.cells #[.int .i64 a0_0,(.slice A0_1 l0_1.length c0_1)] 26 (0,0)))∧Aside0 (Below w.heap.size w w'))
       case atStart=>exact⟨(rd t102 x14_1),(true),rs,rs,H',⟨Nat.le_refl _⟩,⟨kr HO_3.out⟩,⟨kr HO_12.out⟩,⟨bk BK101.out⟩,⟨bl HB.out⟩⟩
       case round=>
        clear H';try clear c1
        try clear p1
        try clear q1
        try clear hx1
        try clear p2
        try clear c6
        try clear p6
        try clear c7
        try clear c7b0
        try clear c8
        try clear c8b0
        try clear c9
        try clear c9b0
        try clear p10
        try clear q10
        try clear hx10
        try clear c11
        try clear hcz4_0
        try clear hcz4_1
        try clear hfz4_0
        try clear hfz4_1
        try clear hx105_0
        try clear p105
        try clear p2
        try clear q105
        obtain ⟨x7_2,x8_2,rfl,rfl,HA,HK2,HO_3,HO_12,BK101,HB⟩:=hrel;cases gk with
        |zero=>exact absurd HA.out (by simp [impl_Complex_components.l1])
        |succ k2=>
         have H:=HA.out;clear HA;simp only [impl_Complex_components.l1] at H;by_cases c12:x8_2=true
         ·subst c12;have H1:((impl_Complex_of.f a0_0 l0_1 1).bind fun t110=>(impl_Complex_components.l2 k2 x3_1 x4_1 x7_2 false t102 (t102.length:Int) x14_1 t110 (t110.length:Int) 0 a0_0 l0_1))=some r:=by rw[if_pos rfl] at H;exact H
          clear H;have H:=H1;clear H1;replace H:=Option.bind_eq_some_iff.mp H;obtain ⟨t110,A130,H⟩:=H;replace H:(impl_Complex_components.l2 k2 x3_1 x4_1 x7_2 false t102 (t102.length:Int) x14_1 t110 (t110.length:Int) 0 a0_0 l0_1)=some r:=H;have A13:=Aside0.mk A130;clear A130;have H':=Aside0.mk H;clear H;have hcz14_0:=z0_ BK101;have hcz14_1:=z1_ BK101;have hfz14_0:=hf_ BK101 0;have hfz14_1:=hf_ BK101 1;go_wp2_with (first|((with_reducible refine gate_callee (f:=111) rfl ?_);refine gl (some 24) Tryz.func111 #[.agg #[.int .i64 a0_0,.slice A0_1 l0_1.length c0_1],.int .i64 1] ?_;(with_reducible refine(impl_Complex_of.calls a0_0 _ _ l0_1 1 t110 _ (cb (Kd.C_below HR0_1.out HB.out)) HC0_1.out A13.out).mono ?_);rintro e w15 ⟨v111,rfl,ho0,hb⟩;refine⟨_,rfl,?_⟩;have HO112:=Aside0.mk (Kd.R_lower (Kd.R_new' (Kd.R_new' ho0 (Kd.R_lt (kr HO_3.out))) (Kd.R_lt (kr HO_12.out))) (below_size (bl HB.out)));replace HO_3:=Aside0.mk (Kd.R_elder' (kr HO_3.out) (Kd.R_base ho0) hb);replace HO_12:=Aside0.mk (Kd.R_elder' (kr HO_12.out) (Kd.R_base ho0) hb);replace BK101:=bkA BK101 hb;replace HB:=bsA HB hb;(try clear hb);(try clear hb2);(try clear hk);(try clear hi);(try clear ho0);obtain ⟨Ao16,co16,eo16⟩:=Kd.R_slice HO112.out;subst eo16))
          go_loopg [7,8,26] k2 (fun kq v7 v8 v26 w'=>∃(x7_3:Int) (x8_3:Bool) (x26_3:Int),v7 = .int .i64 x7_3∧v8 = .bool x8_3∧v26 = .int .i64 x26_3∧Aside0 (impl_Complex_components.l2 kq x3_1 x4_1 x7_3 x8_3 t102 (t102.length:Int) x14_1 t110 (t110.length:Int) x26_3 a0_0 l0_1=some r)∧Aside0 (kq≤k2)∧Aside0 (Kd.R (Kd.int .i64) 2 w' w.heap.size (fun k_=>some k_≠((.slice (some ad105) t102.length co6):Value).ownBlock∧some k_≠((.slice Ao16 t110.length co16):Value).ownBlock) u3 x3_1)∧Aside0 (Kd.R (Kd.int .i64) 2 w' w.heap.size (fun k_=>some k_≠(u3:Value).ownBlock∧some k_≠((.slice Ao16 t110.length co16):Value).ownBlock) (.slice (some ad105) t102.length co6) t102)∧Aside0 (Kd.R (Kd.int .i64) 2 w' w.heap.size (fun k_=>some k_≠(u3:Value).ownBlock∧some k_≠((.slice (some ad105) t102.length co6):Value).ownBlock) (.slice Ao16 t110.length co16) t110)∧Aside0 (w'.heap[gb101]?=some (.cells #[.int .i64 a0_0,(.slice A0_1 l0_1.length c0_1)] 26 (0,0)))∧Aside0 (Below w.heap.size w w'))
          case atStart=>exact⟨(x7_2),(false),(0),rs,rs,rs,H',⟨Nat.le_refl _⟩,⟨kr HO_3.out⟩,⟨kr HO_12.out⟩,⟨by(with_reducible repeat(first|apply Kd.R_alloc|apply Kd.R_drewN|apply Kd.R_drew));exact Kd.R_mono HO112.out (fun _ hk=>⟨hk.1.2,hk.2⟩)⟩,⟨bk BK101.out⟩,⟨bl HB.out⟩⟩
          case round=>
           clear H';try clear c1
           try clear p1
           try clear q1
           try clear hx1
           try clear p2
           try clear c6
           try clear p6
           try clear c7
           try clear c7b0
           try clear c8
           try clear c8b0
           try clear c9
           try clear c9b0
           try clear p10
           try clear q10
           try clear hx10
           try clear c11
           try clear c12
           try clear hcz14_0
           try clear hcz14_1
           try clear hcz4_0
           try clear hcz4_1
           try clear hfz14_0
           try clear hfz14_1
           try clear hfz4_0
           try clear hfz4_1
           try clear hx105_0
           try clear p1
           try clear p10
           try clear p105
           try clear p2
           try clear p6
           try clear q1
           try clear q10
           try clear q105
           obtain ⟨x7_3,x8_3,x26_3,rfl,rfl,rfl,HA,HK3,HO_3,HO_12,HO_24,BK101,HB⟩:=hrel;cases gk with
           |zero=>exact absurd HA.out (by simp [impl_Complex_components.l2])
           |succ k3=>
            have H:=HA.out;clear HA;simp only [impl_Complex_components.l2] at H;by_cases c17:x26_3<(t110.length:Int)
            ·rw[if_pos c17] at H;have c17b0:decide (x26_3<(t110.length:Int))=true:=decide_eq_true c17;clear c17;by_cases c18:0≤x26_3
             ·rw[if_pos c18] at H;have c18b0:decide (0≤x26_3)=true:=decide_eq_true c18;clear c18;by_cases c19:x26_3<(t110.length:Int)
              ·rw[if_pos c19] at H;have c19b0:decide (x26_3<(t110.length:Int))=true:=decide_eq_true c19;clear c19;by_cases c20:(Go.bits .and .i64 (rd t110 x26_3) x7_3)=0
               ·rw[if_pos c20] at H;have c20b0:((Go.bits .and .i64 (rd t110 x26_3) x7_3) == 0)=true:=beq_iff_eq.mpr c20;have c20b1:((Go.bits .and .i64 (rd t110 x26_3) x7_3) != 0)=false:=bne_eq_false_iff_eq.mpr c20;clear c20;have H':=Aside0.mk H;clear H;have p113:0≤(x26_3:Int):=dd;have q113:x26_3<(t110.length:Int):=dd;obtain ⟨ad113,e113,hx113_0⟩:=Kd.at_int (Kd.R_reads' HO_24.out).2.2 x26_3 p113 q113;cases e113;replace p113:=eq_true p113;replace q113:=eq_true q113;go_wp2
                go_roundg k3
                case measure=>have:=HK1.out;have:=HK2.out;have:=HK3.out;omega
                case rel=>exact⟨(x7_3),(x8_3),(wrap64 (x26_3+1)),rs,rs,rs,H',⟨by have:=HK1.out;have:=HK2.out;have:=HK3.out;omega⟩,⟨kr HO_3.out⟩,⟨kr HO_12.out⟩,⟨kr HO_24.out⟩,⟨bk BK101.out⟩,⟨bl HB.out⟩⟩
               ·rw[if_neg c20] at H;have c20b0:((Go.bits .and .i64 (rd t110 x26_3) x7_3) == 0)=false:=beq_eq_false_iff_ne.mpr c20;have c20b1:((Go.bits .and .i64 (rd t110 x26_3) x7_3) != 0)=true:=bne_iff_ne.mpr c20;replace H:=Option.bind_eq_some_iff.mp H;obtain ⟨t114,A210,H⟩:=H;replace H:(if t114=true then (impl_Complex_components.l2 k3 x3_1 x4_1 x7_3 x8_3 t102 (t102.length:Int) x14_1 t110 (t110.length:Int) (wrap64 (x26_3+1)) a0_0 l0_1) else (impl_Complex_components.l2 k3 x3_1 x4_1 (Go.bits .or .i64 x7_3 (rd t110 x26_3)) true t102 (t102.length:Int) x14_1 t110 (t110.length:Int) (wrap64 (x26_3+1)) a0_0 l0_1))=some r:=H;have A21:=Aside0.mk A210;clear A210;by_cases c22:t114=true
                ·subst c22;have H1:(impl_Complex_components.l2 k3 x3_1 x4_1 x7_3 x8_3 t102 (t102.length:Int) x14_1 t110 (t110.length:Int) (wrap64 (x26_3+1)) a0_0 l0_1)=some r:=by rw[if_pos rfl] at H;exact H
                 clear H;have H:=H1;clear H1;have H':=Aside0.mk H;clear H;have p113:0≤(x26_3:Int):=dd;have q113:x26_3<(t110.length:Int):=dd;obtain ⟨ad113,e113,hx113_0⟩:=Kd.at_int (Kd.R_reads' HO_24.out).2.2 x26_3 p113 q113;cases e113;replace p113:=eq_true p113;replace q113:=eq_true q113;go_wp2_with (first|(go_at_call 64;(with_reducible refine(impl_isIn.calls (rd t110 x26_3) x7_3 true _ A21.out).mono ?_);rintro e w' ⟨rfl,⟨nd,rfl⟩⟩))
                 go_roundg k3
                 case measure=>have:=HK1.out;have:=HK2.out;have:=HK3.out;omega
                 case rel=>exact⟨(x7_3),(x8_3),(wrap64 (x26_3+1)),rs,rs,rs,H',⟨by have:=HK1.out;have:=HK2.out;have:=HK3.out;omega⟩,⟨kr HO_3.out⟩,⟨kr HO_12.out⟩,⟨kr HO_24.out⟩,⟨bk BK101.out⟩,⟨bl HB.out⟩⟩
                ·replace c22:=Bool.eq_false_iff.mpr c22;subst c22;have H1:(impl_Complex_components.l2 k3 x3_1 x4_1 (Go.bits .or .i64 x7_3 (rd t110 x26_3)) true t102 (t102.length:Int) x14_1 t110 (t110.length:Int) (wrap64 (x26_3+1)) a0_0 l0_1)=some r:=by rw[if_neg (show ¬ (false=true) by decide)] at H;exact H
                 clear H;have H:=H1;clear H1;have H':=Aside0.mk H;clear H;have p113:0≤(x26_3:Int):=dd;have q113:x26_3<(t110.length:Int):=dd;obtain ⟨ad113,e113,hx113_0⟩:=Kd.at_int (Kd.R_reads' HO_24.out).2.2 x26_3 p113 q113;cases e113;replace p113:=eq_true p113;replace q113:=eq_true q113;go_wp2_with (first|(go_at_call 64;(with_reducible refine(impl_isIn.calls (rd t110 x26_3) x7_3 false _ A21.out).mono ?_);rintro e w' ⟨rfl,⟨nd,rfl⟩⟩))
                 go_roundg k3
                 case measure=>have:=HK1.out;have:=HK2.out;have:=HK3.out;omega
                 case rel=>exact⟨(Go.bits .or .i64 x7_3 (rd t110 x26_3)),(true),(wrap64 (x26_3+1)),rs,rs,rs,H',⟨by have:=HK1.out;have:=HK2.out;have:=HK3.out;omega⟩,⟨kr HO_3.out⟩,⟨kr HO_12.out⟩,⟨kr HO_24.out⟩,⟨bk BK101.out⟩,⟨bl HB.out⟩⟩
              ·rw[if_neg c19] at H;exact absurd H (by simp)
             ·rw[if_neg c18] at H;exact absurd H (by simp)
            ·rw[if_neg c17] at H;have c17b0:decide (x26_3<(t110.length:Int))=false:=decide_eq_false c17;clear c17;have H':=Aside0.mk H;clear H;go_wp2
             go_roundg k3
             case measure=>have:=HK1.out;have:=HK2.out;have:=HK3.out;omega
             case rel=>exact⟨(x7_3),(x8_3),rs,rs,H',⟨by have:=HK1.out;have:=HK2.out;have:=HK3.out;omega⟩,⟨by(with_reducible repeat(first|apply Kd.R_alloc|apply Kd.R_drewN|apply Kd.R_drew));exact Kd.R_mono HO_3.out (fun _ hk=>hk.1)⟩,⟨by(with_reducible repeat(first|apply Kd.R_alloc|apply Kd.R_drewN|apply Kd.R_drew));exact Kd.R_mono HO_12.out (fun _ hk=>hk.1)⟩,⟨bk BK101.out⟩,⟨bl HB.out⟩⟩
         ·replace c12:=Bool.eq_false_iff.mpr c12;subst c12;have H1:(if x3_1.length<17592186044416 then (impl_Complex_components.l0 k2 (x3_1 ++ [x7_2]) (Go.bits .or .i64 x4_1 x7_2) t102 (t102.length:Int) (wrap64 (x14_1+1)) a0_0 l0_1) else (none))=some r:=by rw[if_neg (show ¬ (false=true) by decide)] at H;exact H
          clear H;have H:=H1;clear H1;by_cases c23:x3_1.length<17592186044416
          ·rw[if_pos c23] at H;have LMc23:=Aside0.mk c23;clear c23;obtain ⟨y107,hy107⟩:∃ y_:List Int,y_=(x3_1 ++ [x7_2]):=⟨_,rfl⟩
           replace H:(impl_Complex_components.l0 k2 y107 (Go.bits .or .i64 x4_1 x7_2) t102 (t102.length:Int) (wrap64 (x14_1+1)) a0_0 l0_1)=some r:=by first|(rw[hy107];with_reducible exact H)|(have H2_:=(Option.bind_some _ _).symm.trans H;rw[hy107];with_reducible exact H2_)|(have H2_:=(Option.bind_some _ _).symm.trans H;with_reducible exact H2_)|with_reducible exact H|(rw[hy107];exact H)|exact H
           have Ny107:=Aside0.mk hy107;clear hy107;have H':=Aside0.mk H;clear H;go_wp2_with (first|((with_reducible refine gate_builtin (b:= .append) (xs:=#[.tmp 47,.tmp 49]) rfl ?_);at_builtin;refine Kd.R_append (Kd.int .i64) (w0:=w) w.heap.size rfl (.tmp 47) (.tmp 49) 24 2 (.int .i64 0) 8 rfl Tryz.underlying24 info2 rfl (by decide) (by omega) u3 x3_1 x7_2 [.int .i64 x7_2] (fun k_=>some k_≠(.slice (some ad105) t102.length co6:Value).ownBlock) (fun _=>False) rfl rfl ?aP (fun _ hk=>hk.elim) ?aF ?aO ?aB ?aS ?aL ?_;(case aP=>exact rfl);(case aB=>exact(bl HB.out));(case aF=>exact(fun k_ hk=>Kd.fresh' (Kd.R_lt (kr HO_12.out)) k_ hk));(case aO=>exact(kr HO_3.out));(case aS=>exact(below_size (bl HB.out)));(case aL=>have:=LMc23.out;omega);intro v108 w24 ho hb hg hat;rw[← Ny107.out] at ho;have n0_:=Aside0.mk (Kd.R_after (ok:=(fun _=>True)) (by(with_reducible repeat(first|apply Kd.R_alloc|apply Kd.R_drewN|apply Kd.R_drew));exact Kd.R_mono HO_12.out (fun _ hk=>⟨trivial,hk⟩)) hg hat);have n1_:=Aside0.mk (blk_grown (bk BK101.out) hg (Kd.R_ne HO_3.out BK101.out (by decide)));have n2_:=Aside0.mk (hb);have n3_:=Aside0.mk (ho);clear HO_12;clear BK101;clear HB;clear HO_3;have HO_12:=n0_;have BK101:=n1_;have HB:=n2_;have HO109:=n3_;clear n0_ n1_ n2_ n3_;clear ho hb hg hat))
           go_roundg k2
           case measure=>have:=HK1.out;have:=HK2.out;omega
           case rel=>exact⟨(y107),(Go.bits .or .i64 x4_1 x7_2),(wrap64 (x14_1+1)),rs,rs,H',⟨by have:=HK1.out;have:=HK2.out;omega⟩,⟨kr HO109.out⟩,⟨by(with_reducible repeat(first|apply Kd.R_alloc|apply Kd.R_drewN|apply Kd.R_drew));exact Kd.R_mono HO_12.out (fun _ hk=>hk.2)⟩,⟨bk BK101.out⟩,⟨bl HB.out⟩⟩
          ·rw[if_neg c23] at H;exact absurd H (by simp)
     ·rw[if_neg c9] at H;exact absurd H (by simp)
    ·rw[if_neg c8] at H;exact absurd H (by simp)
   ·rw[if_neg c7] at H;have c7b0:decide (x14_1<(t102.length:Int))=false:=decide_eq_false c7;clear c7;obtain rfl:=Option.some.inj H;go_wp2
    go_ret;exact⟨_,rr,by(with_reducible repeat(first|apply Kd.R_alloc|apply Kd.R_drewN|apply Kd.R_drew));exact Kd.R_mono HO_3.out (fun _ hk=>trivial),bl HB.out⟩
end Go.Proofs.YtbnnamejnjfkjaaGreat.C
end

section
namespace Go.Proofs.YtbnnamejnjfkjaaGreat.K
open Go.RowKit Go.Shelf Go.Proofs.YtbnnamejnjfkjaaGreat.Q Go.Proofs.YtbnnamejnjfkjaaGreat.C Go.Proofs.YtbnnamejnjfkjaaGreat Go.Proofs.YtbnnamejnjfkjaaGreatW.PrintWords Go.Proofs.YtbnnamejnjfkjaaGreatW.PrintLast Go.Proofs.YtbnnamejnjfkjaaGreatW.PrintMore
set_option linter.unusedVariables false
set_option linter.unusedSimpArgs false
theorem isIn_is (a b:Int):impl_isIn.f a b=some (inB a b):=rfl
theorem X_of_is (n:Int) (l:List Int) (d:Int) (hl:l.length≤63) (hr:∀ x ∈ l,0≤x∧x≤63):X.impl_Complex_of.f n l d=some (ofL l d):=by
 unfold X.impl_Complex_of.f
 rw[if_pos ⟨hl,hr⟩]
theorem compI_l2 (n:Int) (l es V out:List Int) (seen i:Int) (he:es.length≤63) (R:Nat) (r:List Int) (s0:Int×Bool)
  (hnext:∀ k,R≤k→impl_Complex_components.l1 k out seen (passF es s0).1 (passF es s0).2 V (V.length:Int) i n l=some r):∀(d j k:Nat) (s:Int×Bool),es.length - j=d→j≤es.length→R+d+1≤k→passF (es.drop j) s=passF es s0 →
  impl_Complex_components.l2 k out seen s.1 s.2 V (V.length:Int) i es (es.length:Int) (j:Int) n l=some r:=by
 intro d
 induction d with
 |zero=>
  intro j k s hd hj hk hp
  obtain ⟨k,rfl⟩:∃ m,k=m+1:=⟨k - 1,by omega⟩
  obtain rfl:j=es.length:=by omega
  simp only [impl_Complex_components.l2]
  rw[List.drop_length] at hp
  have hp2:s=passF es s0:=hp
  rw[if_neg (by omega),hp2]
  exact hnext k (by omega)
 |succ d ih=>
  intro j k s hd hj hk hp
  obtain ⟨k,rfl⟩:∃ m,k=m+1:=⟨k - 1,by omega⟩
  have hjl:j<es.length:=by omega
  rw[List.drop_eq_getElem_cons hjl] at hp
  have hp2:passF (es.drop (j+1)) (stepF s es[j])=passF es s0:=hp
  simp only [impl_Complex_components.l2]
  rw[if_pos (by omega),if_pos (by omega),if_pos (by omega),rd_nat es j hjl,isIn_is,w64 ((j:Int)+1) (by omega) (by omega),nat_succ]
  simp only [Option.bind_some]
  unfold stepF at hp2
  by_cases h0:Go.bits .and .i64 es[j] s.1=0
  ·rw[if_pos h0] at hp2 ⊢
   exact ih (j+1) k s (by omega) (by omega) (by omega) hp2
  ·rw[if_neg h0] at hp2 ⊢
   by_cases h1:inB es[j] s.1=true
   ·rw[if_pos h1] at hp2 ⊢
    exact ih (j+1) k s (by omega) (by omega) (by omega) hp2
   ·rw[if_neg h1] at hp2 ⊢
    exact ih (j+1) k _ (by omega) (by omega) (by omega) hp2
theorem compI_l1 (n:Int) (l V out:List Int) (seen i:Int) (hl:l.length≤63) (hr:∀ x ∈ l,0≤x∧x≤63) (R:Nat) (r:List Int):∀(m k:Nat) (o:Int),0≤o∧o≤63→64 - o≤m→R+m*66≤k →
  (∀ k,R≤k→impl_Complex_components.l1 k out seen (growF (ofL l 1) o) false V (V.length:Int) i n l=some r)→impl_Complex_components.l1 k out seen o true V (V.length:Int) i n l=some r:=by
 have hes:∀ x ∈ ofL l 1,0≤x∧x≤63:=fun x hx=>hr x (List.mem_filter.1 hx).1
 have hel:=of_length l 1
 intro m
 induction m with
 |zero=>intro k o ho h1;omega
 |succ m ih=>
  intro k o ho h1 hk hnext
  obtain ⟨k,rfl⟩:∃ q,k=q+1:=⟨k - 1,by omega⟩
  simp only [impl_Complex_components.l1]
  rw[if_pos trivial,X_of_is n l 1 hl hr]
  simp only [Option.bind_some]
  obtain ⟨a1,a2,a3,a4,a5⟩:=pass_facts (ofL l 1) hes (o,false) ho
  simp only at a1 a4
  have hst:=grow_step (ofL l 1) hes o ho
  refine compI_l2 n l (ofL l 1) V out seen i (by omega) (R+m*66) r (o,false) ?_ (ofL l 1).length 0 k (o,false) (by omega) (by omega) (by omega) rfl
  intro k hk
  cases h:(passF (ofL l 1) (o,false)).2 with
  |true=>
   rw[if_pos h] at hst
   rcases a4 h with h4|h4
   ·cases h4
   ·exact ih k _ ⟨by omega,a1.2⟩ (by omega) hk (by rw[← hst];exact hnext)
  |false=>
   rw[if_neg (by rw[h];simp)] at hst
   rw[← hst]
   exact hnext k (by omega)
set_option maxRecDepth 100000 in
theorem compI_l0 (n:Int) (l V:List Int) (hl:l.length≤63) (hr:∀ x ∈ l,0≤x∧x≤63) (hV:V.length≤63) (hVr:∀ x ∈ V,0≤x∧x≤63):∀(d i k:Nat) (seen:Int) (out:List Int),V.length - i=d→i≤V.length→d*4300+1≤k→out.length≤i →
  impl_Complex_components.l0 k out seen V (V.length:Int) (i:Int) n l=some (compsI (ofL l 1) (V.drop i) seen out):=by
 intro d
 induction d with
 |zero=>
  intro i k seen out hd hi hk ho
  obtain ⟨k,rfl⟩:∃ m,k=m+1:=⟨k - 1,by omega⟩
  obtain rfl:i=V.length:=by omega
  simp only [impl_Complex_components.l0]
  rw[if_neg (by omega),List.drop_length]
  rfl
 |succ d ih=>
  intro i k seen out hd hi hk ho
  obtain ⟨k,rfl⟩:∃ m,k=m+1:=⟨k - 1,by omega⟩
  have hil:i<V.length:=by omega
  have hx:=hVr _ (List.getElem_mem hil)
  simp only [impl_Complex_components.l0]
  rw[if_pos (by omega),if_pos (by omega),if_pos (by omega),rd_nat V i hil,isIn_is,w64 ((i:Int)+1) (by omega) (by omega),nat_succ,List.drop_eq_getElem_cons hil]
  simp only [Option.bind_some,compsI]
  by_cases h:inB V[i] seen=true
  ·rw[if_pos h,if_pos h]
   exact ih (i+1) k seen out (by omega) (by omega) (by omega) (by omega)
  ·rw[if_neg h,if_neg h]
   refine compI_l1 n l V out seen i hl hr (d*4300+2) _ 64 k V[i] hx (by omega) (by omega) ?_
   intro k hk
   obtain ⟨k,rfl⟩:∃ m,k=m+1:=⟨k - 1,by omega⟩
   simp only [impl_Complex_components.l1]
   rw[if_neg (by simp),if_pos (by omega),w64 ((i:Int)+1) (by omega) (by omega),nat_succ]
   exact ih (i+1) k _ _ (by omega) (by omega) (by omega) (by rw[List.length_append];simp;omega)
theorem compI_is (n:Int) (l:List Int) (hl:l.length≤63) (hr:∀ x ∈ l,0≤x∧x≤63) (k:Nat) (hk:275000≤k):impl_Complex_components.f k n l=some (componentsL l):=by
 unfold impl_Complex_components.f
 rw[X_of_is n l 0 hl hr]
 simp only [Option.bind_some]
 have h0:=of_length l 0
 have:=compI_l0 n l (ofL l 0) hl hr (by omega) (fun x hx=>hr x (List.mem_filter.1 hx).1) (ofL l 0).length 0 k 0 [] (by omega) (by omega) (by omega) (by simp)
 rw[show ((0:Nat):Int)=0 from rfl,List.drop_zero] at this
 exact this
theorem components_calls (n:Int) (A:Option Addr) (c:Nat) (l:List Int) (w:World) (hk:Kx w A c l) (hl:l.length≤63) (hr:∀ x ∈ l,0≤x∧x≤63) :
  Calls Tryz.prog 88 #[.agg #[I n,.slice A l.length c]] w fun e w'=>∃ v,e = .returned v∧Ki.R 2 w' w.heap.size (fun _=>True) v (componentsL l)∧Grew w w':=
 impl_Complex_components.calls 275000 n A c l (componentsL l) w hk.r hk.c (compI_is n l hl hr 275000 (Nat.le_refl _))
set_option maxRecDepth 100000 in
set_option maxHeartbeats 4000000 in
theorem ComponentsOf_calls (n:Int) (A:Option Addr) (c:Nat) (l:List Int) (w:World) (hk:Kx w A c l) :
  Calls Tryz.prog 26 #[.agg #[I n,.slice A l.length c]] w fun e w'=>∃ v0,e = .returned (.tuple #[v0,I (codeOf n l (true))])∧Ki.R 2 w' w.heap.size (fun _=>True) v0 (if (codeOf n l (true))=0 then (componentsL l) else [])∧Grew w w':=by
 obtain ⟨W3,hW3⟩:∃ W3,W3=(w.alloc (.cells #[I n,.slice A l.length c] 26)):=⟨_,rfl⟩
 have hB:CB W3 w.heap.size n (.slice A l.length c):=by rw[hW3];exact blk_new w _
 have hg:Grew w W3:=by rw[hW3];exact below_alloc (Grew.refl w) _
 have H:=Aside0.mk (complexCode_calls true n A c l 73 #[] #[] W3 (hk.later hg) (enters_of Tryz.func73 (by kernel_rfl) rfl) (fun _=>always_answers _))
 have k_0:=hB.c0
 have k_1:=hB.c1
 have HK:=Aside0.mk hk
 have HB:=Aside0.mk hB
 have HG:=Aside0.mk hg
 clear hk hB hg
 obtain ⟨cc,hcc⟩:∃ cc,cc=codeOf n l (true):=⟨_,rfl⟩
 rw[← hcc] at H ⊢
 by_cases hz:cc=0
 ·subst hz
  have hb:=codeOf_zero hcc.symm
  have HI:=Aside0.mk hb.1
  have HBt:Aside0 ((true)=true):=⟨hb.2⟩
  have HZ:=Aside0.mk hcc
  have hx0:∀ {α:Type} (a b:α),(if (0:Int)=0 then a else b)=a:=fun a b=>if_pos rfl
  simp only [hx0]
  clear hcc hb hx0
  subst hW3
  go_enter Tryz.func26,Tryz.ntmps26
  go_wp2_with fail
  refine H.out.mono ?_
  rintro e w1 ⟨rfl,hG1⟩
  have HB1:Aside0 (CB w1 w.heap.size n (.slice A l.length c)):=⟨blk_below HB.out hG1⟩
  have HG1:=Aside0.mk (Grew.trans HG.out hG1)
  clear hG1 k_0 k_1
  have k_0:=HB1.out.c0
  have k_1:=HB1.out.c1
  have hb:=isC_faces HI.out
  have H2:=Aside0.mk (components_calls n A c l w1 (HK.out.later HG1.out) hb.2.2.2 (isC_of HI.out))
  clear hb
  go_wp2_with fail
  refine H2.out.mono ?_
  rintro e w2 ⟨v,rfl,hR2,hG2⟩
  go_wp2_with fail
  go_ret2
  exact⟨_,rfl,Kd.R_lower hR2 HG1.out.size,Grew.trans HG1.out hG2⟩
 ·have HV:Aside0 (∀ {α:Type} (a b:α),(if cc=0 then a else b)=b):=⟨fun a b=>if_neg hz⟩
  simp only [HV.out]
  clear hcc
  subst hW3
  go_enter Tryz.func26,Tryz.ntmps26
  go_wp2_with fail
  refine H.out.mono ?_
  rintro e w1 ⟨rfl,hG1⟩
  have HG1:=Aside0.mk (Grew.trans HG.out hG1)
  clear hG1 k_0 k_1
  go_wp2_with fail
  go_ret2
  exact⟨_,rfl,Kd.R_nil _ _ _ _ _,HG1.out⟩
end Go.Proofs.YtbnnamejnjfkjaaGreat.K
end

section
namespace Go.Proofs.YtbnnamejnjfkjaaGreat.K
open Go.RowKit Go.Shelf Go.Proofs.YtbnnamejnjfkjaaGreat.Q Go.Proofs.YtbnnamejnjfkjaaGreat.D Go.Proofs.YtbnnamejnjfkjaaGreat.R Go.Proofs.YtbnnamejnjfkjaaGreat Go.Proofs.YtbnnamejnjfkjaaGreatW.PrintWords Go.Proofs.YtbnnamejnjfkjaaGreatW.PrintLast Go.Proofs.YtbnnamejnjfkjaaGreatW.PrintMore
set_option linter.unusedVariables false
set_option linter.unusedSimpArgs false
set_option maxRecDepth 100000 in
set_option maxHeartbeats 4000000 in
theorem bigB_law (A0:Option Addr) (c0:Nat) (l0:List Int) (w:World) (hr:K8.C w A0 l0.length l0) (hc:l0.length≤c0) (hb:(4096:Int)<l0.length) :
  Calls Tryz.prog 4 #[.slice A0 l0.length c0] w fun e w'=>e = .returned (.bool true)∧Grew w w':=by
 have hd:decide ((4096:Int)<l0.length)=true:=decide_eq_true hb
 have HR:=Aside0.mk hr
 have HC:=Aside0.mk hc
 clear hr hc hb
 go_enter Tryz.func4,Tryz.ntmps4
 go_wp2_with fail
 refine(big_calls A0 c0 l0 w HR.out HC.out).mono ?_
 rintro e w1 ⟨rfl,hG⟩
 rw[hd]
 have HG:=Aside0.mk hG
 clear hG
 go_wp2_with fail
 go_ret
 exact⟨rfl,HG.out⟩
theorem code_true {n:Int} {l:List Int} (h:isC n l=true) {b:Bool} (hb:b=true):codeOf n l b=0:=by
 unfold codeOf
 rw[if_pos h,hb]
 rfl
theorem hpb {n p:Int} {l xl:List Int} (hl:l.length≤1001) (h:codeOf n l (decide (2≤p∧p≤3))=0) (hx:xl=bettiL l p) :
  Fv 18 l (fun v=>#[.agg #[I n,v]]) (.tuple #[I (eulerI l),I 0])∧Fn 26 l (fun v=>#[.agg #[I n,v]]) (fun v=> .tuple #[v,I 0]) (componentsL l)∧altTo xl xl.length=eulerI l∧(0<xl.length→rd xl 0=((componentsL l).length:Int))∧(xl.length≤6∧(componentsL l).length≤1000)∧(∀ j (h:j<xl.length),0≤xl[j]∧xl[j]≤62)∧(p=2→∀ j (h:j<xl.length),∃ y,Fv 39 l (fun v=>#[.agg #[I n,v],I (j:Int)]) (.tuple #[I (shl .i64 y xl[j]),I y,I 0])):=by
 subst hx
 obtain ⟨hi,h1,h2,h3,h4,h5⟩:=betti_facts h
 have hcl:(componentsL l).length≤1000:=by
  have e:=betti_zero hi p (code_mod h).2
  have e2:=rankL_range l 1 p (code_mod h).2
  have e3:=of_length l 0
  have e4:=(isC_faces hi).2.2.2
  omega
 refine⟨euler_fv hi hl,fun W A c hr hc=>?_,h1,h2,⟨h3,hcl⟩,h4,fun hp j hj=>⟨shl .i64 1 (rankL l ((j:Int)+1) 2),fun W A c hr hc=>?_⟩⟩
 ·have:=ComponentsOf_calls n A c l W (Kx.of hr hc hl)
  rw[code_true hi rfl,if_pos rfl] at this
  exact this
 ·have:=CountCycles_calls n A c l (j:Int) W (Kx.of hr hc hl)
  have hq:=h5 hp j hj
  rw[code_true hi (decide_eq_true hq.1),if_pos rfl,if_pos rfl,hq.2] at this
  exact this
theorem hpa {n p:Int} {l:List Int} (hl:l.length≤1001) (h:codeOf n l (decide (2≤p∧p≤3))=0) (ha:acyB (bettiL l p)=true):Fv 18 l (fun v=>#[.agg #[I n,v]]) (.tuple #[I 1,I 0]):=by
 have hf:=acy_facts h ha
 have:=euler_fv hf.1 hl
 rw[hf.2] at this
 exact this
theorem LBetti_calls (A0:Option Addr) (c0:Nat) (l0:List Int) (w:World) (hr:Kd.C (Kd.int .u8) w A0 l0.length l0) (hc:l0.length≤c0) (hw:∀ n ∈ l0,(Lit.int .u8 n).wf=true) :
  Calls Tryz.prog 4 #[.slice A0 l0.length c0] w fun e w'=>e = .returned (.bool true)∧Grew w w':=by
 by_cases hb:(4096:Int)<l0.length
 ·exact bigB_law A0 c0 l0 w hr hc hb
 have hl:l0.length≤4096:=by omega
 have hy:∀ x ∈ l0,0≤x∧x≤255:=fun x hx=>by
  have:=hw x hx
  simp [Lit.wf,IntKind.min,IntKind.max,IntKind.signed,IntKind.bits] at this
  omega
 clear hw
 obtain ⟨K,hK,hK2⟩:∃ K:Nat,30000≤K∧2000000≤K:=⟨2000000,by omega,Nat.le_refl _⟩
 obtain ⟨bn,bl,bp,eb,hbl⟩:=bettis_ok hl hy K hK
 obtain ⟨kn,kl,kd,kp,ek,hkl⟩:=ranks_ok hl hy K hK
 obtain ⟨an,al,ap,ea,hal⟩:=acyclics_ok hl hy K hK hK2
 obtain ⟨zn,zl,zd,ez,hzl⟩:=cycles_ok hl hy K hK
 obtain ⟨sn,sl,sf,es,hsl⟩:=signs_ok hl hy K hK
 clear hK hK2
 have PB:=Aside0.mk (hpb (n:=bn) (p:=bp) (xl:=if codeOf bn bl (decide (2≤bp∧bp≤3))=0 then bettiL bl bp else []) hbl)
 have PA:=Aside0.mk (hpa (n:=an) (p:=ap) hal)
 refine LBetti_main l0 bl _ (componentsL bl) kl al zl sl _ bn bp _ (eulerI bl) kn kd kp _ _ an ap _ zn zd _ _ _ sn sf _ _ A0 c0 w hr hc hb
  ⟨fun W A c hr hc=>spec_DrawBettiNumbers.calls K A c l0 bn bl bp W hr hc eb⟩
  ⟨fun W A c hr hc=>BettiNumbers_calls bn A c bl bp W (Kx.of hr hc hbl)⟩ ⟨fun W A c hr hc=>spec_BettiNumbers.calls (isK bl+100) bn A c bl bp _ _ W hr hc (specBettiNumbers_is bn bl bp (by omega) _ (Nat.le_refl _))⟩
  ⟨fun h=>PB.out h (if_pos h)⟩
  ⟨fun W A c hr hc=>spec_DrawRankOf.calls K A c l0 kn kl kd kp W hr hc ek⟩
  ⟨fun W A c hr hc=>RankOf_calls kn A c kl kd kp W (Kx.of hr hc hkl)⟩ ⟨fun W A c hr hc=>spec_RankOf.calls (isK kl+2) kn A c kl kd kp _ _ W hr hc (specRankOf_is kn kl kd kp (by omega) _ (Nat.le_refl _))⟩
  ⟨fun W A c hr hc=>spec_DrawIsAcyclicComplex.calls K A c l0 an al ap W hr hc ea⟩
  ⟨fun W A c hr hc=>IsAcyclicComplex_calls an A c al ap W (Kx.of hr hc hal)⟩ ⟨fun W A c hr hc=>spec_IsAcyclicComplex.calls (isK al+100) an A c al ap _ _ W hr hc (specIsAcyclicComplex_is an al ap (by omega) _ (Nat.le_refl _))⟩
  ⟨fun h ha=>PA.out h (by rw[if_pos h] at ha;exact ha)⟩
  ⟨fun W A c hr hc=>spec_DrawCountCycles.calls K A c l0 zn zl zd W hr hc ez⟩
  ⟨fun W A c hr hc=>CountCycles_calls zn A c zl zd W (Kx.of hr hc hzl)⟩ ⟨fun W A c hr hc=>spec_CountCycles.calls (isK zl+100) zn A c zl zd _ _ _ W hr hc (specCountCycles_is zn zl zd (by omega) _ (Nat.le_refl _))⟩
  ⟨fun W A c hr hc=>spec_DrawSignsOf.calls K A c l0 sn sl sf W hr hc es⟩
  ⟨fun W A c hr hc=>SignsOf_calls sn A c sl sf W (Kx.of hr hc hsl)⟩ ⟨fun W A c hr hc=>spec_SignsOf.calls (isK sl+20) sn A c sl sf _ _ W hr hc (specSignsOf_is sn sl sf (by omega) _ (Nat.le_refl _))⟩
  ⟨?_⟩
 have h1:=betti_len bl bp (codeOf bn bl (decide (2≤bp∧bp≤3)))
 have h2:=signs_len sf (codeOf sn sl (hasB sl sf))
 exact⟨by omega,by omega⟩
end Go.Proofs.YtbnnamejnjfkjaaGreat.K
end

section

namespace Go.Proofs.YtbnnamejnjfkjaaGreat.fnBetti
open Go.ChangeShapes Go.WideShapes Go.ChangeAt Go.RowKit Go.Joins Go.Proofs.YtbnnamejnjfkjaaGreat.K Go.Proofs.YtbnnamejnjfkjaaGreatW.PrintWords
open Go.ChangeMaps (open_string shut_string)
set_option linter.unusedVariables false
set_option maxRecDepth 100000 in
theorem lifted (os : Os) (started : os.Started) (H : Type) (enc : TypeId × Value → H) :
  ReturnsInHanded {} Tryz.checked os 4 .any (Rows.fnBettiSpec.pre6 enc Tryz.prog Tryz.f4 Rows.fnBettiRow.domain false) (Rows.fnBettiSpec.post enc Tryz.prog Tryz.f4 false true false false) := by
 refine returnsInHanded_of_change_sized (C := Tryz.checked) ownKnob_none started (by kernel_rfl) Tryz.func4
  (ChangeSpec.witness6 (enc := enc) (C := Tryz.checked) false ⟨#[], #[.slice none 0 0], []⟩ 8 (by kernel_rfl) (by kernel_rfl) (by kernel_rfl) (by kernel_rfl)) ?_
 intro W base args ds gs before hval0 hW hcnd hsz0 _
 have hsz : (DataW.weightsEach Tryz.prog (Tryz.f4.params.toList ++ Rows.fnBettiSpec.plain.varTypes Tryz.prog) (ds ++ gs)).all (· ≤ reachBytes) = true := hsz0
 have hval : ∀ (j : Nat) t v, Tryz.f4.params[j]? = some t → args[j]? = some v → Value.okWide Tryz.prog W .any base t v := hval0
 have hW' := hW
 obtain ⟨p, q, hA0, hV, rfl, hfz, hnd⟩ := hW
 have hA : DataW.TrodAll enc Tryz.prog W 0 (fun _ => true) true Tryz.f4.params.toList args.toList ds p := hA0
 rw [Tryz.params4] at hA hval hsz
 obtain ⟨v0, vs0, d0, ds0, p0, q0, hargs, rfl, rfl, h0, r0⟩ := trodAll_cons hA
 obtain ⟨rfl, rfl, rfl⟩ := trodAll_nil r0
 obtain rfl : args = #[v0] := by cases args; simp_all
 obtain ⟨rfl, rfl⟩ := trodVars_none hV
 have k0 := h0
 have lt0 : ∀ x ∈ p0, x.block < W.heap.size := by obtain ⟨m, hm⟩ := k0; exact DataW.trod_lt m _ _ _ hm
 obtain ⟨a0, len0, cap0, hv0⟩ := okWide_slice Tryz.underlying22 (hval 0 22 v0 rfl rfl)
 obtain ⟨A0, c0, l0, e0, hc0, hr0, hw0⟩ : ∃ A c l, v0 = .slice A l.length c ∧ l.length ≤ c ∧ Kd.C (Kd.int .u8) W A l.length l ∧ ∀ n ∈ l, (Lit.int .u8 n).wf = true := by
  obtain ⟨fuel, hf⟩ := h0
  subst hv0
  exact bytes_open hf
 subst e0
 clear hA0 hval0 hsz0 hsz
 refine (K.LBetti_calls A0 c0 l0 W hr0 hc0 hw0).mono fun e W' ⟨he, bel0⟩ => ?_
 have bel : Below W.heap.size W W' := bel0
 subst he
 exact ⟨_, rfl, _, _, _, [], _, [], hW', trodAll_mk1 (shut_bool Tryz.underlying4 _), (trodAll_cons_mk (Below.trod laidOut (by kernel_rfl) (of_decide_eq_true (by kernel_rfl)) k0 bel lt0) trodAll_mk0), rfl, bel.frame _, fun h => by cases h⟩
set_option maxRecDepth 100000 in
theorem starts : ∃ r, behindMainWord (wordsSigns Tryz.prog.initOrder.toList) = "cut".toList :: r := by
 have h : Tryz.prog.initOrder = String.ofList _ := rfl
 rw [h, String.toList_ofList, signs_take 7 _ rfl rfl, signs_take 64 _ rfl rfl, signs_take 3 _ rfl rfl]
 generalize wordsSigns _ = r
 exact ⟨r, by kernel_rfl⟩
set_option maxRecDepth 100000 in
theorem closed : joinedFacts Tryz.prog 4 Tryz.f4 Rows.fnBettiSpec Rows.fnBettiRow = true := by
 obtain ⟨r, h⟩ := starts
 unfold joinedFacts
 rw [cut_enter _ r h (by kernel_rfl) (by kernel_rfl) (by kernel_rfl), cut_make _ r h, cut_lifts _ r h]
 exact of_decide_eq_true (by kernel_rfl)
theorem over : Rows.fnBettiRow.holds Tryz.pinned (OpenSpec.ofChange Rows.fnBettiSpec) :=
 OpenClaim.holds_of_wide 4 Tryz.f4 rfl rfl rfl rfl rfl rfl rfl ⟨rfl, rfl, rfl, rfl, rfl⟩ rfl rfl rfl rfl rfl (by kernel_rfl) Tryz.func4 closed
  (of_decide_eq_true (by kernel_rfl)) (by unfold Func.isWrapper; first | (rw [if_pos (by decide +kernel)]; kernel_rfl) | (rw [if_neg (by decide +kernel)]; exact ⟨rfl, rfl⟩))
  (fun os started H enc _ => lifted os started H enc)
theorem proved : Rows.FnBettiSaid := over
#print axioms proved
end Go.Proofs.YtbnnamejnjfkjaaGreat.fnBetti
namespace Go.Proofs.YtbnnamejnjfkjaaGreat
theorem fnBetti_holds : Rows.FnBettiSaid := fnBetti.proved
end Go.Proofs.YtbnnamejnjfkjaaGreat
end
