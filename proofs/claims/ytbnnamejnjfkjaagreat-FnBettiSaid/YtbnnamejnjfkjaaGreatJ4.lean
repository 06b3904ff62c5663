/- Texts of this work, put together by its pack.py. No conditions. -/
import Derived.Test.YtbnnamejnjfkjaaGreatJ3
import Derived.Below
import Derived.Deep.Draws
import Derived.Deep.AppendLies
import Derived.Maps.AppendAt
import Derived.OwnWalk
import Derived.Laws.BytesArg
import Derived.Laws.MakeOwn
import Derived.Laws.OwnMore
import Derived.Deep.OwnRows
import Derived.Tactics
import Derived.Lib.ConvBytes
import Derived.Laws.Slices
import Derived.WalkKit
import Derived.KernelRfl
import Derived.RowKit3
import Derived.Deep.LoopGhost
import Derived.Deep.QuietTactic
import Derived.BigQuiet
import Derived.WideLaws
import Derived.Deep.DeepCutAuto
import Derived.Deep.CutBlock
import Derived.Deep.RegionHeld3
import Derived.Laws.Rows
import Derived.Lib.AppendStr
import Derived.ArgAppend
import Derived.Laws.IdiomCopy
import Derived.RowKit
import Derived.OrdersHeld
import Derived.Laws.BitsLemmas
import Derived.Laws.StructEq
import Derived.Test.YtbnnamejnjfkjaaGreatProg
import Derived.Shelf.Abstract
import Derived.RangeFuncBox
import Derived.RangeFuncLeaves
import Derived.OwnWalkIn
import Derived.TacticsInMore
import Derived.LoopNIn
import Derived.LoopIn
import Derived.Laws.Bits64b
section
namespace Go.Proofs.YtbnnamejnjfkjaaGreat.Q
open Go.RowKit Go.Proofs.YtbnnamejnjfkjaaGreatW.PrintWords Go.Proofs.YtbnnamejnjfkjaaGreatW.PrintLast Go.Proofs.YtbnnamejnjfkjaaGreatW.PrintMore
attribute [local go_sem] max2_int min2_int max_two min_two max_three min_three max_four min_four
set_option linter.unusedVariables false
set_option linter.unusedSimpArgs false
def spec_l01Bad.f (s0_0:List Int) (s0_1:Int) (s0_2:Int) (a1_0:Int) (l1_1:List Int):Option (Int×List Int×Int×Int):=(spec_l01Next.f s0_0 s0_1 s0_2 50).bind fun bt310=>(if bt310.1=0 then ((spec_l01Pick.f s0_0 bt310.2.1 bt310.2.2 (([0,7,(-1)]:List Int))).bind fun bt316=>((spec_l01Own.f l1_1).bind fun t319=>(some (bt316.1,t319,bt316.2.1,bt316.2.2)))) else (if bt310.1=1 then (if (l1_1.length:Int)>0 then (if 1≤(l1_1.length:Int) then ((spec_l01Own.f (l1_1.drop 1)).bind fun t326=>(some (a1_0,t326,bt310.2.1,bt310.2.2))) else (none)) else (some (a1_0,l1_1,bt310.2.1,bt310.2.2))) else (if bt310.1=2 then ((spec_l01Own.f l1_1).bind fun t329=>((spec_l01All.f a1_0).bind fun t332=>((spec_l01All.f a1_0).bind fun t333=>((spec_l01Pick.f s0_0 bt310.2.1 bt310.2.2 (([0,wrap64 (t332+1),t333,1]:List Int))).bind fun bt337=>(if t329.length<17592186044416 then (some (a1_0,(t329 ++ [bt337.1]),bt337.2.1,bt337.2.2)) else (none)))))) else (some (a1_0,l1_1,bt310.2.1,bt310.2.2)))))
def spec_l01Bad.T3:Bool×List (List Nat×List Nat):=(true,[([],[]),([],[]),([0,1],[0,1]),([],[]),([3],[3]),([4,2],[4]),([2,5],[2,5]),([6,5,0,1,2,3,4,5,6],[6])])
def spec_l01Bad.B3:List Nat:= [0,0,3,0,8,31,63,127]
theorem spec_l01Bad.tab3:rtab .any (opsOf Tryz.f69 3)=spec_l01Bad.T3:=by kernel_rfl
theorem spec_l01Bad.bits3:waitsOk spec_l01Bad.T3.2 spec_l01Bad.B3=true:=by kernel_rfl
def spec_l01Bad.T6:Bool×List (List Nat×List Nat):=(true,[([],[]),([0],[0]),([],[]),([2],[2]),([3],[3]),([4],[4]),([1,5],[1,5]),([6,5,0,1,2,3,4,5,6],[6])])
def spec_l01Bad.B6:List Nat:= [0,1,0,4,12,28,63,127]
theorem spec_l01Bad.tab6:rtab .any (opsOf Tryz.f69 6)=spec_l01Bad.T6:=by kernel_rfl
theorem spec_l01Bad.bits6:waitsOk spec_l01Bad.T6.2 spec_l01Bad.B6=true:=by kernel_rfl
def spec_l01Bad.T8:Bool×List (List Nat×List Nat):=(true,[([],[]),([0],[0]),([],[]),([2],[2]),([3],[3]),([],[]),([],[]),([6],[6]),([7,4],[7]),([8],[8]),([],[]),([10],[10]),([11,8],[11]),([9,12],[9,12]),([5,13,12],[5,13]),([14],[14]),([4,15,14],[4,15]),([1,16],[1,16]),([17,16,0,1,2,3,4,5,6,7,8,9,10,11,12,13,14,15,16,17],[17])])
def spec_l01Bad.B8:List Nat:= [0,1,0,4,12,0,0,64,220,476,0,1024,3548,8156,16380,32764,65532,131071,262143]
theorem spec_l01Bad.tab8:rtab .any (opsOf Tryz.f69 8)=spec_l01Bad.T8:=by kernel_rfl
theorem spec_l01Bad.bits8:waitsOk spec_l01Bad.T8.2 spec_l01Bad.B8=true:=by kernel_rfl
set_option maxHeartbeats 8000000 in
set_option maxRecDepth 100000 in
theorem spec_l01Bad.calls (g:Nat) (s0_0:List Int) (s0_1:Int) (s0_2:Int) (a1_0:Int) (P1_1_:Nat→Prop) (u9000_:Value) (l1_1:List Int) (r1:Int) (r2:List Int) (r3:Int) (r4:Int) (w0 w:World) (hI:IsS92 w0 w g s0_0 s0_1 s0_2) (hB:Below w0.heap.size w0 w) (ho1_1:Kd.R (Kd.int .i64) 2 w w0.heap.size P1_1_ u9000_ l1_1) (h:spec_l01Bad.f s0_0 s0_1 s0_2 a1_0 l1_1=some (r1,r2,r3,r4)) :
  Calls Tryz.prog 69 #[.pointer (some ⟨g,0,none⟩),.agg #[.int .i64 a1_0,u9000_]] w fun e w'=>∃ v1_:Value,e = .returned (.agg #[.int .i64 r1,v1_])∧Kd.R (Kd.int .i64) 2 w' w0.heap.size (fun k_=>(P1_1_ k_∨w.heap.size≤k_)) v1_ r2∧IsS92 w0 w' g s0_0 r3 r4∧Below w0.heap.size w0 w'∧Kept w w' (fun k_=>(P1_1_ k_)∨k_=g):=by
 have hu26:=Tryz.underlying26;have HO1_1:=Aside0.mk (show Kd.R (Kd.int .i64) 2 w w0.heap.size (fun k_=>(P1_1_ k_∨w.heap.size≤k_)) u9000_ l1_1 from Kd.R_mono ho1_1 (fun k_ hk=>(.inl hk)));have HI0:=Aside0.mk hI;have HL:=Aside0.mk hB.size;clear hI;have HK:=Aside0.mk (Kept.refl w (fun k_=>(P1_1_ k_)∨k_=g));have HW0:=Aside0.mk hB.size;have HB:=Aside0.mk hB;clear hB;have H:((spec_l01Next.f s0_0 s0_1 s0_2 50).bind fun bt310=>(if bt310.1=0 then ((spec_l01Pick.f s0_0 bt310.2.1 bt310.2.2 (([0,7,(-1)]:List Int))).bind fun bt316=>((spec_l01Own.f l1_1).bind fun t319=>(some (bt316.1,t319,bt316.2.1,bt316.2.2)))) else (if bt310.1=1 then (if (l1_1.length:Int)>0 then (if 1≤(l1_1.length:Int) then ((spec_l01Own.f (l1_1.drop 1)).bind fun t326=>(some (a1_0,t326,bt310.2.1,bt310.2.2))) else (none)) else (some (a1_0,l1_1,bt310.2.1,bt310.2.2))) else (if bt310.1=2 then ((spec_l01Own.f l1_1).bind fun t329=>((spec_l01All.f a1_0).bind fun t332=>((spec_l01All.f a1_0).bind fun t333=>((spec_l01Pick.f s0_0 bt310.2.1 bt310.2.2 (([0,wrap64 (t332+1),t333,1]:List Int))).bind fun bt337=>(if t329.length<17592186044416 then (some (a1_0,(t329 ++ [bt337.1]),bt337.2.1,bt337.2.2)) else (none)))))) else (some (a1_0,l1_1,bt310.2.1,bt310.2.2))))))=some (r1,r2,r3,r4):=h;clear h;replace H:=Option.bind_eq_some_iff.mp H;obtain ⟨⟨t310,t311,t312⟩,A30,H⟩:=H;replace H:(if t310=0 then ((spec_l01Pick.f s0_0 t311 t312 (([0,7,(-1)]:List Int))).bind fun bt316=>((spec_l01Own.f l1_1).bind fun t319=>(some (bt316.1,t319,bt316.2.1,bt316.2.2)))) else (if t310=1 then (if (l1_1.length:Int)>0 then (if 1≤(l1_1.length:Int) then ((spec_l01Own.f (l1_1.drop 1)).bind fun t326=>(some (a1_0,t326,t311,t312))) else (none)) else (some (a1_0,l1_1,t311,t312))) else (if t310=2 then ((spec_l01Own.f l1_1).bind fun t329=>((spec_l01All.f a1_0).bind fun t332=>((spec_l01All.f a1_0).bind fun t333=>((spec_l01Pick.f s0_0 t311 t312 (([0,wrap64 (t332+1),t333,1]:List Int))).bind fun bt337=>(if t329.length<17592186044416 then (some (a1_0,(t329 ++ [bt337.1]),bt337.2.1,bt337.2.2)) else (none)))))) else (some (a1_0,l1_1,t311,t312)))))=some (r1,r2,r3,r4):=H;have A3:=Aside0.mk A30;clear A30;by_cases c4:t310=0
 ·rw[if_pos c4] at H;have c4b0:(t310 == 0)=true:=beq_iff_eq.mpr c4;have c4b1:(t310 != 0)=false:=bne_eq_false_iff_eq.mpr c4;clear c4;obtain ⟨y313,hy313⟩:∃ y_:List Int,y_=(([0,7,(-1)]:List Int)):=⟨_,rfl⟩
  replace H:((spec_l01Pick.f s0_0 t311 t312 y313).bind fun bt316=>((spec_l01Own.f l1_1).bind fun t319=>(some (bt316.1,t319,bt316.2.1,bt316.2.2))))=some (r1,r2,r3,r4):=by first|(rw[hy313];with_reducible exact H)|(have H2_:=(Option.bind_some _ _).symm.trans H;rw[hy313];with_reducible exact H2_)|(have H2_:=(Option.bind_some _ _).symm.trans H;with_reducible exact H2_)|with_reducible exact H|(rw[hy313];exact H)|exact H
  have Ny313:=Aside0.mk hy313;clear hy313;replace H:=Option.bind_eq_some_iff.mp H;obtain ⟨⟨t316,t317,t318⟩,A50,H⟩:=H;replace H:((spec_l01Own.f l1_1).bind fun t319=>(some (t316,t319,t317,t318)))=some (r1,r2,r3,r4):=H;have A5:=Aside0.mk A50;clear A50;replace H:=Option.bind_eq_some_iff.mp H;obtain ⟨t319,A60,H⟩:=H;replace H:(some (t316,t319,t317,t318))=some (r1,r2,r3,r4):=H;have A6:=Aside0.mk A60;clear A60;simp only [Option.some.injEq,Prod.mk.injEq] at H;obtain ⟨rfl,rfl,rfl,rfl⟩:=H;obtain ⟨Ao7,co7,eo7⟩:=Kd.R_slice HO1_1.out;subst eo7;go_enter Tryz.func69,Tryz.ntmps69;try go_wp2_with (first|((with_reducible refine gate_dst (N:=3) rfl ?_);refine bx 3 #[.int .i64 a1_0,.slice Ao7 l1_1.length co7] 26 ?_;intro gb308 hg w8 hbox hb;replace HO1_1:=krA HO1_1 hb;have BK308:=Aside0.mk (hbox);have GW308:=Aside0.mk ((by rw[hg];exact(by first|exact HK.out.1|exact(show Kept w _ (fun k_=>(P1_1_ k_)∨k_=g) from kt HK.out).1):w.heap.size≤gb308));replace HK:=Aside0.mk (Kept.below (S:=(fun k_=>(P1_1_ k_)∨k_=g)) (kt HK.out) hb);have GE308:=Aside0.mk ((by rw[hg];exact(below_size (blg HB.out (IsS92.ge HI0.out))):w0.heap.size≤gb308));replace HB:=Aside0.mk (below_step (blg HB.out (IsS92.ge HI0.out)) hb);have NB0_308:=Aside0.mk ((by rw[hg];exact Nat.ne_of_lt (IsS92.lt (show IsS92 w0 _ g s0_0 s0_1 s0_2 from IsS92.ch HI0.out)):g≠gb308));have NB308_0:=Aside0.mk ((by rw[hg];exact Nat.ne_of_gt (IsS92.lt (show IsS92 w0 _ g s0_0 s0_1 s0_2 from IsS92.ch HI0.out)):gb308≠g));replace HI0:=Aside0.mk (IsS92.below (IsS92.ch HI0.out) hb);clear hb hbox hg)|((with_reducible refine gate_dst (N:=4) rfl ?_);refine bx 4 #[.int .i64 0,.slice none 0 0] 26 ?_;intro gb309 hg w9 hbox hb;replace HO1_1:=krA HO1_1 hb;have BK309:=Aside0.mk (hbox);have GW309:=Aside0.mk ((by rw[hg];exact(by first|exact HK.out.1|exact(show Kept w _ (fun k_=>(P1_1_ k_)∨k_=g) from kt HK.out).1):w.heap.size≤gb309));replace HK:=Aside0.mk (Kept.below (S:=(fun k_=>(P1_1_ k_)∨k_=g)) (kt HK.out) hb);have GE309:=Aside0.mk ((by rw[hg];exact(below_size (blg HB.out (IsS92.ge HI0.out))):w0.heap.size≤gb309));replace HB:=Aside0.mk (below_step (blg HB.out (IsS92.ge HI0.out)) hb);have NB308_309:=nlA hg BK308;have NB309_308:=ngA hg BK308;replace BK308:=bkA BK308 hb;have NB0_309:=Aside0.mk ((by rw[hg];exact Nat.ne_of_lt (IsS92.lt (show IsS92 w0 _ g s0_0 s0_1 s0_2 from IsS92.ch HI0.out)):g≠gb309));have NB309_0:=Aside0.mk ((by rw[hg];exact Nat.ne_of_gt (IsS92.lt (show IsS92 w0 _ g s0_0 s0_1 s0_2 from IsS92.ch HI0.out)):gb309≠g));replace HI0:=Aside0.mk (IsS92.below (IsS92.ch HI0.out) hb);clear hb hbox hg)|((with_reducible refine gate_callee (f:=67) rfl ?_);refine gl (some 6) Tryz.func67 #[.pointer (some ⟨g,0,none⟩),.int .i64 50] ?_;(with_reducible refine(spec_l01Next.calls g s0_0 s0_1 s0_2 50 t310 t311 t312 w0 _ (IsS92.ch HI0.out) (blg HB.out (IsS92.ge HI0.out)) A3.out).mono ?_);rintro e w10 ⟨rfl,hi,hb,hk⟩;refine⟨_,rfl,?_⟩;replace HO1_1:=Aside0.mk (Kd.R_mono (Kd.R_keep (IsS92.apart (show IsS92 w0 _ g s0_0 s0_1 s0_2 from IsS92.ch HI0.out) (kr HO1_1.out) (by decide)) hk (fun _ h=>h.2)) (fun _ h=>h.1));replace BK308:=Aside0.mk (kbk hk (bk BK308.out) NB308_0.out);replace BK309:=Aside0.mk (kbk hk (bk BK309.out) NB309_0.out);replace HK:=Aside0.mk (Kept.of_keep (S:=(fun k_=>(P1_1_ k_)∨k_=g)) (kt HK.out) hk (.inl (.inr rfl)));replace HB:=Aside0.mk (hb);replace HI0:=Aside0.mk (hi);(try clear hb);(try clear hb2);(try clear hk);(try clear hi)))
  replace HO1_1:=Aside0.mk (Kd.R_drew HO1_1.out);replace BK308:=Aside0.mk (blk_drew BK308.out);replace BK309:=Aside0.mk (blk_drew BK309.out);replace HI0:=Aside0.mk (IsS92.drew HI0.out);replace HK:=Aside0.mk (Kept.drew HK.out);replace HB:=Aside0.mk (below_drew1 HB.out);refine start_ (n:=8) (S:=fun w'=>w'.cell? ⟨gb308,0,none⟩=some (.int .i64 a1_0)∧w'.cell? ⟨gb308,1,none⟩=some (.slice Ao7 l1_1.length co7)) (ds:= []) (ar 0 8) (by kernel_rfl) rfl rfl ⟨(blk_cell BK308.out 0).trans rfl,(blk_cell BK308.out 1).trans rfl⟩ (fun hHeld=>?_);refine with_tabW spec_l01Bad.tab3 spec_l01Bad.bits3 (fun HT_ HW_=>?_);generalize w10.drew=w11 at HO1_1 BK308 BK309 HI0 HK HB hHeld ⊢;refine pu 0 (some 9) (ar 1 7) HT_ ?_;refine pu 3 (some 12) #[U,O,O,U,O,O,O,O] HT_ ?_;refine tk 4 (some 13) #[U,O,O,U,U,O,O,O] HT_ HW_ hHeld ?_;refine on_ 1 (some 10) #[U,U,O,U,U,O,O,O] HT_ fun K hK=>?_;refine Kd.R_lit_step (Kd.int .i64) _ 2 ?hg (N:=10) ?hd (xs:=([0,7,(-1)]:List Int)) (inner:= [.int .i64 0,.int .i64 7,.int .i64 (-1)]) (ok:=fun _=>True) (okp:=fun _=>True) ?hr ?hp (fun _ hk=>hk) trivial (Below.refl _ _) (Nat.le_refl _) (by simp) ?_;(case hd=>rfl);(case hg=>rfl);(case hr=>first|(go_simp;done)|(go_simp;rfl));(case hp=>exact(Reps.one (show Kd.M (Kd.int .i64) _ _ _ 0 [.int .i64 0] from rfl) (Reps.one (show Kd.M (Kd.int .i64) _ _ _ 7 [.int .i64 7] from rfl) (Reps.one (show Kd.M (Kd.int .i64) _ _ _ (-1) [.int .i64 (-1)] from rfl) (Reps.none _ _)))));intro v314 w12 ho13 hb hg_ hnew_;clear hg_ hnew_;(first|rw[← Ny313.out] at ho13|(simp only [Int.reduceToNat] at ho13;rw[← Ny313.out] at ho13))
  have HO315:=Aside0.mk (Kd.R_lower (Kd.R_new' (Kd.R_newM (M:=fun k_=>(P1_1_ k_∨w.heap.size≤k_)) ho13 (by first|exact HK.out.1|exact(show Kept w _ (fun k_=>(P1_1_ k_)∨k_=g) from kt HK.out).1) (fun k_ h_=> .inr h_)) (Kd.R_lt (kr HO1_1.out))) (below_size (blg HB.out (IsS92.ge HI0.out))));replace HO1_1:=Aside0.mk (Kd.R_elder' (kr HO1_1.out) (Kd.R_base ho13) hb);replace BK308:=bkA BK308 hb;replace BK309:=bkA BK309 hb;replace HK:=Aside0.mk (Kept.below (S:=(fun k_=>(P1_1_ k_)∨k_=g)) (kt HK.out) hb);replace HB:=Aside0.mk (below_step (blg HB.out (IsS92.ge HI0.out)) hb);replace HI0:=Aside0.mk (IsS92.below (IsS92.ch HI0.out) hb);clear hb ho13;obtain ⟨Ao14,co14,eo14⟩:=Kd.R_slice HO315.out;(first|subst eo14|(injection eo14 with f1_ f2_ f3_;have f4_:=f1_.symm;have f5_:=f3_.symm;clear f1_ f2_ f3_;subst f4_;subst f5_))
  refine hK.out _ _ ⟨(blk_cell BK308.out 0).trans rfl,(blk_cell BK308.out 1).trans rfl⟩ (fun hHeld=>?_);clear hK K;refine nr 10 ?_;refine on_ 2 (some 11) (ar 5 3) HT_ fun K hK=>?_;refine gr Tryz.func81 #[.pointer (some ⟨g,0,none⟩),.slice Ao14 y313.length co14] ?_;with_reducible refine(spec_l01Pick.calls g s0_0 t311 t312 _ _ y313 t316 t317 t318 w0 _ (IsS92.ch HI0.out) (blg HB.out (IsS92.ge HI0.out)) (cb (Kd.R_reads' HO315.out).2.2) ((Kd.R_reads' HO315.out).2.1) (far_slice (IsS92.own_ne HI0.out HO315.out (by decide))) A5.out).mono ?_
  rintro e w15 ⟨rfl,hi,hb,hk⟩;refine⟨_,rfl,?_⟩;replace HO1_1:=Aside0.mk (Kd.R_mono (Kd.R_keep (IsS92.apart (show IsS92 w0 _ g s0_0 t311 t312 from IsS92.ch HI0.out) (kr HO1_1.out) (by decide)) hk (fun _ h=>h.2)) (fun _ h=>h.1));replace BK308:=Aside0.mk (kbk hk (bk BK308.out) NB308_0.out);replace BK309:=Aside0.mk (kbk hk (bk BK309.out) NB309_0.out);replace HO315:=Aside0.mk (Kd.R_mono (Kd.R_keep (IsS92.apart (show IsS92 w0 _ g s0_0 t311 t312 from IsS92.ch HI0.out) (kr HO315.out) (by decide)) hk (fun _ h=>h.2)) (fun _ h=>h.1));replace HK:=Aside0.mk (Kept.of_keep (S:=(fun k_=>(P1_1_ k_)∨k_=g)) (kt HK.out) hk (.inl (.inr rfl)));replace HB:=Aside0.mk (hb);replace HI0:=Aside0.mk (hi);(try clear hb)
  (try clear hb2)
  (try clear hk)
  (try clear hi)
  refine hK.out _ _ ⟨(blk_cell BK308.out 0).trans rfl,(blk_cell BK308.out 1).trans rfl⟩ (fun hHeld=>?_);clear hK K;refine nr 11 ?_;refine on_ 5 (some 14) (ar 6 2) HT_ fun K hK=>?_;refine gr Tryz.func123 #[.slice Ao7 l1_1.length co7] ?_;with_reducible refine(spec_l01Own.calls _ _ l1_1 t319 _ (cb (Kd.R_reads' HO1_1.out).2.2) ((Kd.R_reads' HO1_1.out).2.1) A6.out).mono ?_
  rintro e w16 ⟨v320,rfl,ho0,hb⟩;refine⟨_,rfl,?_⟩;have HO321:=Aside0.mk (Kd.R_lower (Kd.R_new' (Kd.R_new' (Kd.R_newM (M:=fun k_=>(P1_1_ k_∨w.heap.size≤k_)) ho0 (by first|exact HK.out.1|exact(show Kept w _ (fun k_=>(P1_1_ k_)∨k_=g) from kt HK.out).1) (fun k_ h_=> .inr h_)) (Kd.R_lt (kr HO1_1.out))) (Kd.R_lt (kr HO315.out))) (below_size (blg HB.out (IsS92.ge HI0.out))));replace HO1_1:=Aside0.mk (Kd.R_elder' (kr HO1_1.out) (Kd.R_base ho0) hb);replace HO315:=Aside0.mk (Kd.R_elder' (kr HO315.out) (Kd.R_base ho0) hb);replace BK308:=bkA BK308 hb;replace BK309:=bkA BK309 hb;replace HK:=Aside0.mk (Kept.below (S:=(fun k_=>(P1_1_ k_)∨k_=g)) (kt HK.out) hb);replace HB:=Aside0.mk (below_step (blg HB.out (IsS92.ge HI0.out)) hb);replace HI0:=Aside0.mk (IsS92.below (IsS92.ch HI0.out) hb);(try clear hb)
  (try clear hb2)
  (try clear hk)
  (try clear hi)
  (try clear ho0)
  obtain ⟨Ao17,co17,eo17⟩:=Kd.R_slice HO321.out;(first|subst eo17|(injection eo17 with f1_ f2_ f3_;have f4_:=f1_.symm;have f5_:=f3_.symm;clear f1_ f2_ f3_;subst f4_;subst f5_))
  refine hK.out _ _ ⟨(blk_cell BK308.out 0).trans rfl,(blk_cell BK308.out 1).trans rfl⟩ (fun hHeld=>?_);clear hK K;refine nr 14 ?_;refine pu 6 (some 15) (ar 7 1) HT_ ?_;refine on_ 7 (none) (ar 8 0) HT_ fun K hK=>?_;have hs18:w16.cell? ⟨gb309,0,none⟩=some (.int .i64 0):=(blk_cell BK309.out 0).trans rfl;have hfs18:=blk_frozen BK309.out 0;have hns18_0:=NB308_309.out;have hms18_0:=NB309_308.out;have hs19:w16.cell? ⟨gb309,1,none⟩=some (.slice none 0 0):=(blk_cell BK309.out 1).trans rfl;have hfs19:=blk_frozen BK309.out 1;have hns19_0:=NB308_309.out;have hms19_0:=NB309_308.out;refine skip_ (w1:=?_) (by rfl) rfl ?_ ?_;rotate_left
  ·go_simp;rfl
  refine hK.out _ _ ⟨((cell_far (p:=⟨gb309,_,none⟩) NB308_309.out _).trans (((cell_far (p:=⟨gb309,_,none⟩) NB308_309.out _).trans (hHeld.1)))),((cell_far (p:=⟨gb309,_,none⟩) NB308_309.out _).trans (((cell_far (p:=⟨gb309,_,none⟩) NB308_309.out _).trans (hHeld.2))))⟩ (fun hHeld=>?_);clear hK K;refine done_ (done_of HT_.out (by kernel_rfl)) ?_;try go_wp2
  refine bodyPost_ret (results_cell_row rfl _ _ gb309 26 #[.int .i64 t316,.slice Ao17 t319.length co17] (0,0) _ rfl (by(with_reducible repeat(first|refine blk_drewN ?_ _|refine blk_drew ?_|refine blk_alloc ?_ _));refine blk_put (cs:=#[.int .i64 t316,.slice none 0 0]) ?_ 1 _ rfl;(with_reducible repeat(first|refine blk_drewN ?_ _|refine blk_drew ?_|refine blk_alloc ?_ _));refine blk_put (cs:=#[.int .i64 0,.slice none 0 0]) ?_ 0 _ rfl;(with_reducible repeat(first|refine blk_drewN ?_ _|refine blk_drew ?_|refine blk_alloc ?_ _));exact BK309.out) Tryz.underlying26 rfl (by kernel_rfl)) rfl ?_;exact⟨_,rr,by(with_reducible repeat(first|apply Kd.R_alloc|apply Kd.R_drewN|apply Kd.R_drew));exact Kd.R_mono (Kd.R_far (p:=⟨gb309,1,none⟩) (Kd.R_far (p:=⟨gb309,0,none⟩) (Kd.R_types HO321.out BK309.out (by decide)) (fun _ hk=>hk.2) (.int .i64 t316)) (fun _ hk=>hk.2) (.slice Ao17 t319.length co17)) (fun _ hk=>hk.1.1.1.1),IsS92.ch HI0.out,blg HB.out (IsS92.ge HI0.out),kt HK.out⟩
 ·rw[if_neg c4] at H;have c4b0:(t310 == 0)=false:=beq_eq_false_iff_ne.mpr c4;have c4b1:(t310 != 0)=true:=bne_iff_ne.mpr c4;by_cases c20:t310=1
  ·rw[if_pos c20] at H;have c20b0:(t310 == 1)=true:=beq_iff_eq.mpr c20;have c20b1:(t310 != 1)=false:=bne_eq_false_iff_eq.mpr c20;clear c20;by_cases c21:(l1_1.length:Int)>0
   ·rw[if_pos c21] at H;have c21b0:decide (0<(l1_1.length:Int))=true:=decide_eq_true c21;have c21b1:decide (0<l1_1.length)=true:=decide_eq_true (by omega);clear c21;by_cases c22:1≤(l1_1.length:Int)
    ·rw[if_pos c22] at H;have c22b0:=eq_true c22;have c22b1:decide (1≤(l1_1.length:Int))=true:=decide_eq_true c22;clear c22;obtain ⟨y322,hy322⟩:∃ y_:List Int,y_=(l1_1.drop 1):=⟨_,rfl⟩
     replace H:((spec_l01Own.f y322).bind fun t326=>(some (a1_0,t326,t311,t312)))=some (r1,r2,r3,r4):=by first|(rw[hy322];with_reducible exact H)|(have H2_:=(Option.bind_some _ _).symm.trans H;rw[hy322];with_reducible exact H2_)|(have H2_:=(Option.bind_some _ _).symm.trans H;with_reducible exact H2_)|with_reducible exact H|(rw[hy322];exact H)|exact H
     have Ny322:=Aside0.mk hy322;clear hy322;replace H:=Option.bind_eq_some_iff.mp H;obtain ⟨t326,A230,H⟩:=H;replace H:(some (a1_0,t326,t311,t312))=some (r1,r2,r3,r4):=H;have A23:=Aside0.mk A230;clear A230;simp only [Option.some.injEq,Prod.mk.injEq] at H;obtain ⟨rfl,rfl,rfl,rfl⟩:=H;obtain ⟨Ao24,co24,eo24⟩:=Kd.R_slice HO1_1.out;subst eo24;go_enter Tryz.func69,Tryz.ntmps69;try go_wp2_with (first|((with_reducible refine gate_dst (N:=3) rfl ?_);refine bx 3 #[.int .i64 a1_0,.slice Ao24 l1_1.length co24] 26 ?_;intro gb308 hg w25 hbox hb;replace HO1_1:=krA HO1_1 hb;have BK308:=Aside0.mk (hbox);have GW308:=Aside0.mk ((by rw[hg];exact(by first|exact HK.out.1|exact(show Kept w _ (fun k_=>(P1_1_ k_)∨k_=g) from kt HK.out).1):w.heap.size≤gb308));replace HK:=Aside0.mk (Kept.below (S:=(fun k_=>(P1_1_ k_)∨k_=g)) (kt HK.out) hb);have GE308:=Aside0.mk ((by rw[hg];exact(below_size (blg HB.out (IsS92.ge HI0.out))):w0.heap.size≤gb308));replace HB:=Aside0.mk (below_step (blg HB.out (IsS92.ge HI0.out)) hb);have NB0_308:=Aside0.mk ((by rw[hg];exact Nat.ne_of_lt (IsS92.lt (show IsS92 w0 _ g s0_0 s0_1 s0_2 from IsS92.ch HI0.out)):g≠gb308));have NB308_0:=Aside0.mk ((by rw[hg];exact Nat.ne_of_gt (IsS92.lt (show IsS92 w0 _ g s0_0 s0_1 s0_2 from IsS92.ch HI0.out)):gb308≠g));replace HI0:=Aside0.mk (IsS92.below (IsS92.ch HI0.out) hb);clear hb hbox hg)|((with_reducible refine gate_dst (N:=4) rfl ?_);refine bx 4 #[.int .i64 0,.slice none 0 0] 26 ?_;intro gb309 hg w26 hbox hb;replace HO1_1:=krA HO1_1 hb;have BK309:=Aside0.mk (hbox);have GW309:=Aside0.mk ((by rw[hg];exact(by first|exact HK.out.1|exact(show Kept w _ (fun k_=>(P1_1_ k_)∨k_=g) from kt HK.out).1):w.heap.size≤gb309));replace HK:=Aside0.mk (Kept.below (S:=(fun k_=>(P1_1_ k_)∨k_=g)) (kt HK.out) hb);have GE309:=Aside0.mk ((by rw[hg];exact(below_size (blg HB.out (IsS92.ge HI0.out))):w0.heap.size≤gb309));replace HB:=Aside0.mk (below_step (blg HB.out (IsS92.ge HI0.out)) hb);have NB308_309:=nlA hg BK308;have NB309_308:=ngA hg BK308;replace BK308:=bkA BK308 hb;have NB0_309:=Aside0.mk ((by rw[hg];exact Nat.ne_of_lt (IsS92.lt (show IsS92 w0 _ g s0_0 s0_1 s0_2 from IsS92.ch HI0.out)):g≠gb309));have NB309_0:=Aside0.mk ((by rw[hg];exact Nat.ne_of_gt (IsS92.lt (show IsS92 w0 _ g s0_0 s0_1 s0_2 from IsS92.ch HI0.out)):gb309≠g));replace HI0:=Aside0.mk (IsS92.below (IsS92.ch HI0.out) hb);clear hb hbox hg)|((with_reducible refine gate_callee (f:=67) rfl ?_);refine gl (some 6) Tryz.func67 #[.pointer (some ⟨g,0,none⟩),.int .i64 50] ?_;(with_reducible refine(spec_l01Next.calls g s0_0 s0_1 s0_2 50 t310 t311 t312 w0 _ (IsS92.ch HI0.out) (blg HB.out (IsS92.ge HI0.out)) A3.out).mono ?_);rintro e w27 ⟨rfl,hi,hb,hk⟩;refine⟨_,rfl,?_⟩;replace HO1_1:=Aside0.mk (Kd.R_mono (Kd.R_keep (IsS92.apart (show IsS92 w0 _ g s0_0 s0_1 s0_2 from IsS92.ch HI0.out) (kr HO1_1.out) (by decide)) hk (fun _ h=>h.2)) (fun _ h=>h.1));replace BK308:=Aside0.mk (kbk hk (bk BK308.out) NB308_0.out);replace BK309:=Aside0.mk (kbk hk (bk BK309.out) NB309_0.out);replace HK:=Aside0.mk (Kept.of_keep (S:=(fun k_=>(P1_1_ k_)∨k_=g)) (kt HK.out) hk (.inl (.inr rfl)));replace HB:=Aside0.mk (hb);replace HI0:=Aside0.mk (hi);(try clear hb);(try clear hb2);(try clear hk);(try clear hi);have hnb28:=NB308_309.out;have hnc28:=NB309_308.out;have hnb29:=NB308_0.out;have hnc29:=NB0_308.out;have hcz30_0:=z0_ BK308;have hcz30_1:=z1_ BK308;have hfz30_0:=hf_ BK308 0;have hfz30_1:=hf_ BK308 1))
     replace HO1_1:=Aside0.mk (Kd.R_drew HO1_1.out);replace BK308:=Aside0.mk (blk_drew BK308.out);replace BK309:=Aside0.mk (blk_drew BK309.out);replace HI0:=Aside0.mk (IsS92.drew HI0.out);replace HK:=Aside0.mk (Kept.drew HK.out);replace HB:=Aside0.mk (below_drew1 HB.out);have q32:(1:Int)≤((l1_1.length:Int):Int):=dd;obtain ⟨i032,hi032,_,hsz32,_⟩:=info_parts info2;have hroom32:l1_1.length≤co24:=(Kd.R_reads' HO1_1.out).2.1;have hC32:Kd.C (Kd.int .i64) _ Ao24 l1_1.length l1_1:=(Kd.R_reads' HO1_1.out).2.2;have hcut32:=cut_from (P:=Tryz.prog) 24 2 .i64 Tryz.underlying24 hi032 1 hsz32 Ao24 l1_1.length co24 1 (by omega) q32;have hr32:=Kd.C_drop (m:=(1:Int).toNat) (c:=co24) hC32 (by omega) hroom32;obtain ⟨A32,hA32⟩:∃ A1_,A1_=(if co24=(1:Int).toNat then Ao24 else (Ao24:Option Addr).map (·.add ((1:Int).toNat*1))):=⟨_,rfl⟩
     obtain ⟨c32,hc32⟩:∃ c1_,c1_=co24 - (1:Int).toNat:=⟨_,rfl⟩
     have hy32:y322.length=l1_1.length - (1:Int).toNat:=(by rw[Ny322.out,List.length_drop] <;> omega)
     rw[show (l1_1).drop (1:Int).toNat=y322 from Ny322.out.symm] at hr32;replace hr32:Kd.C (Kd.int .i64) _ A32 y322.length y322:=(by rw[hA32];exact hr32)
     rw[← hy32,← hA32,← hc32] at hcut32;have HR325:=Aside0.mk hr32;have HC325:=Aside0.mk (show y322.length≤c32 from by rw[hy32,hc32];exact Nat.sub_le_sub_right hroom32 _);clear hr32 hC32 hroom32 hi032 hsz32 hc32;have KY32:=Aside0.mk hy32;have KA32:=Aside0.mk hA32;clear hy32 hA32;have KL32:=Aside0.mk (show 1≤l1_1.length from by omega);replace q32:=eq_true q32;refine start_ (n:=8) (S:=fun w'=>w'.cell? ⟨gb308,0,none⟩=some (.int .i64 a1_0)∧w'.cell? ⟨gb308,1,none⟩=some (.slice Ao24 l1_1.length co24)) (ds:= []) (ar 0 8) (by kernel_rfl) rfl rfl ⟨(blk_cell BK308.out 0).trans rfl,(blk_cell BK308.out 1).trans rfl⟩ (fun hHeld=>?_);refine with_tabW spec_l01Bad.tab6 spec_l01Bad.bits6 (fun HT_ HW_=>?_);generalize w27.drew=w31 at HO1_1 BK308 BK309 HI0 HK HB HR325 hHeld ⊢;refine pu 0 (some 22) (ar 1 7) HT_ ?_;refine pu 2 (some 24) #[U,O,U,O,O,O,O,O] HT_ ?_;refine tk 1 (some 23) (ar 3 5) HT_ HW_ hHeld ?_;refine tk 3 (some 25) (ar 4 4) HT_ HW_ hHeld ?_;refine pu 4 (some 26) (ar 5 3) HT_ ?_;refine on_ 5 (some 27) (ar 6 2) HT_ fun K hK=>?_;refine gr Tryz.func123 #[.slice A32 y322.length c32] ?_;with_reducible refine(spec_l01Own.calls _ _ y322 t326 _ ?side1 ?side2 A23.out).mono ?_
     (case side1=>repeat(first|exact(by repeat(first|(with_reducible exact HR325.out)|(with_reducible refine Kd.C_alloc ?_ _)|(with_reducible refine Kd.C_drewN ?_ _)|(with_reducible refine Kd.C_drew ?_)|exact HR325.out))|(with_reducible refine Kd.C_alloc ?_ _)|(with_reducible refine Kd.C_drewN ?_ _)|(with_reducible refine Kd.C_drew ?_)))
     (case side2=>exact HC325.out)
     rintro e w33 ⟨v327,rfl,ho0,hb⟩;refine⟨_,rfl,?_⟩;have HO328:=Aside0.mk (Kd.R_lower (Kd.R_new' (Kd.R_newM (M:=fun k_=>(P1_1_ k_∨w.heap.size≤k_)) ho0 (by first|exact HK.out.1|exact(show Kept w _ (fun k_=>(P1_1_ k_)∨k_=g) from kt HK.out).1) (fun k_ h_=> .inr h_)) (Kd.R_lt (kr HO1_1.out))) (below_size (blg HB.out (IsS92.ge HI0.out))));replace HO1_1:=Aside0.mk (Kd.R_elder' (kr HO1_1.out) (Kd.R_base ho0) hb);replace BK308:=bkA BK308 hb;replace BK309:=bkA BK309 hb;replace HR325:=Aside0.mk (Kd.C_below (by repeat(first|(with_reducible exact HR325.out)|(with_reducible refine Kd.C_alloc ?_ _)|(with_reducible refine Kd.C_drewN ?_ _)|(with_reducible refine Kd.C_drew ?_)|exact HR325.out)) hb);replace HK:=Aside0.mk (Kept.below (S:=(fun k_=>(P1_1_ k_)∨k_=g)) (kt HK.out) hb);replace HB:=Aside0.mk (below_step (blg HB.out (IsS92.ge HI0.out)) hb);replace HI0:=Aside0.mk (IsS92.below (IsS92.ch HI0.out) hb);(try clear hb)
     (try clear hb2)
     (try clear hk)
     (try clear hi)
     (try clear ho0)
     obtain ⟨Ao34,co34,eo34⟩:=Kd.R_slice HO328.out;(first|subst eo34|(injection eo34 with f1_ f2_ f3_;have f4_:=f1_.symm;have f5_:=f3_.symm;clear f1_ f2_ f3_;subst f4_;subst f5_))
     refine hK.out _ _ ⟨(blk_cell BK308.out 0).trans rfl,(blk_cell BK308.out 1).trans rfl⟩ (fun hHeld=>?_);clear hK K;refine nr 27 ?_;refine pu 6 (some 28) (ar 7 1) HT_ ?_;refine on_ 7 (none) (ar 8 0) HT_ fun K hK=>?_;have hs35:w33.cell? ⟨gb309,0,none⟩=some (.int .i64 0):=(blk_cell BK309.out 0).trans rfl;have hfs35:=blk_frozen BK309.out 0;have hns35_0:=NB308_309.out;have hms35_0:=NB309_308.out;have hs36:w33.cell? ⟨gb309,1,none⟩=some (.slice none 0 0):=(blk_cell BK309.out 1).trans rfl;have hfs36:=blk_frozen BK309.out 1;have hns36_0:=NB308_309.out;have hms36_0:=NB309_308.out;refine skip_ (w1:=?_) (by rfl) rfl ?_ ?_;rotate_left
     ·go_simp;rfl
     refine hK.out _ _ ⟨((cell_far (p:=⟨gb309,_,none⟩) NB308_309.out _).trans (((cell_far (p:=⟨gb309,_,none⟩) NB308_309.out _).trans (hHeld.1)))),((cell_far (p:=⟨gb309,_,none⟩) NB308_309.out _).trans (((cell_far (p:=⟨gb309,_,none⟩) NB308_309.out _).trans (hHeld.2))))⟩ (fun hHeld=>?_);clear hK K;refine done_ (done_of HT_.out (by kernel_rfl)) ?_;try go_wp2
     refine bodyPost_ret (results_cell_row rfl _ _ gb309 26 #[.int .i64 a1_0,.slice Ao34 t326.length co34] (0,0) _ rfl (by(with_reducible repeat(first|refine blk_drewN ?_ _|refine blk_drew ?_|refine blk_alloc ?_ _));refine blk_put (cs:=#[.int .i64 a1_0,.slice none 0 0]) ?_ 1 _ rfl;(with_reducible repeat(first|refine blk_drewN ?_ _|refine blk_drew ?_|refine blk_alloc ?_ _));refine blk_put (cs:=#[.int .i64 0,.slice none 0 0]) ?_ 0 _ rfl;(with_reducible repeat(first|refine blk_drewN ?_ _|refine blk_drew ?_|refine blk_alloc ?_ _));exact BK309.out) Tryz.underlying26 rfl (by kernel_rfl)) rfl ?_;exact⟨_,rr,by(with_reducible repeat(first|apply Kd.R_alloc|apply Kd.R_drewN|apply Kd.R_drew));exact Kd.R_mono (Kd.R_far (p:=⟨gb309,1,none⟩) (Kd.R_far (p:=⟨gb309,0,none⟩) (Kd.R_types HO328.out BK309.out (by decide)) (fun _ hk=>hk.2) (.int .i64 a1_0)) (fun _ hk=>hk.2) (.slice Ao34 t326.length co34)) (fun _ hk=>hk.1.1.1),IsS92.ch HI0.out,blg HB.out (IsS92.ge HI0.out),kt HK.out⟩
    ·rw[if_neg c22] at H;exact absurd H (by simp)
   ·rw[if_neg c21] at H;have c21b0:decide (0<(l1_1.length:Int))=false:=decide_eq_false c21;have c21b1:decide (0<l1_1.length)=false:=decide_eq_false (by omega);clear c21;simp only [Option.some.injEq,Prod.mk.injEq] at H;obtain ⟨rfl,rfl,rfl,rfl⟩:=H;obtain ⟨Ao37,co37,eo37⟩:=Kd.R_slice HO1_1.out;subst eo37;go_enter Tryz.func69,Tryz.ntmps69;go_wp2_with (first|((with_reducible refine gate_dst (N:=3) rfl ?_);refine bx 3 #[.int .i64 a1_0,.slice Ao37 l1_1.length co37] 26 ?_;intro gb308 hg w38 hbox hb;replace HO1_1:=krA HO1_1 hb;have BK308:=Aside0.mk (hbox);have GW308:=Aside0.mk ((by rw[hg];exact(by first|exact HK.out.1|exact(show Kept w _ (fun k_=>(P1_1_ k_)∨k_=g) from kt HK.out).1):w.heap.size≤gb308));replace HK:=Aside0.mk (Kept.below (S:=(fun k_=>(P1_1_ k_)∨k_=g)) (kt HK.out) hb);have GE308:=Aside0.mk ((by rw[hg];exact(below_size (blg HB.out (IsS92.ge HI0.out))):w0.heap.size≤gb308));replace HB:=Aside0.mk (below_step (blg HB.out (IsS92.ge HI0.out)) hb);have NB0_308:=Aside0.mk ((by rw[hg];exact Nat.ne_of_lt (IsS92.lt (show IsS92 w0 _ g s0_0 s0_1 s0_2 from IsS92.ch HI0.out)):g≠gb308));have NB308_0:=Aside0.mk ((by rw[hg];exact Nat.ne_of_gt (IsS92.lt (show IsS92 w0 _ g s0_0 s0_1 s0_2 from IsS92.ch HI0.out)):gb308≠g));replace HI0:=Aside0.mk (IsS92.below (IsS92.ch HI0.out) hb);clear hb hbox hg)|((with_reducible refine gate_dst (N:=4) rfl ?_);refine bx 4 #[.int .i64 0,.slice none 0 0] 26 ?_;intro gb309 hg w39 hbox hb;replace HO1_1:=krA HO1_1 hb;have BK309:=Aside0.mk (hbox);have GW309:=Aside0.mk ((by rw[hg];exact(by first|exact HK.out.1|exact(show Kept w _ (fun k_=>(P1_1_ k_)∨k_=g) from kt HK.out).1):w.heap.size≤gb309));replace HK:=Aside0.mk (Kept.below (S:=(fun k_=>(P1_1_ k_)∨k_=g)) (kt HK.out) hb);have GE309:=Aside0.mk ((by rw[hg];exact(below_size (blg HB.out (IsS92.ge HI0.out))):w0.heap.size≤gb309));replace HB:=Aside0.mk (below_step (blg HB.out (IsS92.ge HI0.out)) hb);have NB308_309:=nlA hg BK308;have NB309_308:=ngA hg BK308;replace BK308:=bkA BK308 hb;have NB0_309:=Aside0.mk ((by rw[hg];exact Nat.ne_of_lt (IsS92.lt (show IsS92 w0 _ g s0_0 s0_1 s0_2 from IsS92.ch HI0.out)):g≠gb309));have NB309_0:=Aside0.mk ((by rw[hg];exact Nat.ne_of_gt (IsS92.lt (show IsS92 w0 _ g s0_0 s0_1 s0_2 from IsS92.ch HI0.out)):gb309≠g));replace HI0:=Aside0.mk (IsS92.below (IsS92.ch HI0.out) hb);clear hb hbox hg)|((with_reducible refine gate_callee (f:=67) rfl ?_);refine gl (some 6) Tryz.func67 #[.pointer (some ⟨g,0,none⟩),.int .i64 50] ?_;(with_reducible refine(spec_l01Next.calls g s0_0 s0_1 s0_2 50 t310 t311 t312 w0 _ (IsS92.ch HI0.out) (blg HB.out (IsS92.ge HI0.out)) A3.out).mono ?_);rintro e w40 ⟨rfl,hi,hb,hk⟩;refine⟨_,rfl,?_⟩;replace HO1_1:=Aside0.mk (Kd.R_mono (Kd.R_keep (IsS92.apart (show IsS92 w0 _ g s0_0 s0_1 s0_2 from IsS92.ch HI0.out) (kr HO1_1.out) (by decide)) hk (fun _ h=>h.2)) (fun _ h=>h.1));replace BK308:=Aside0.mk (kbk hk (bk BK308.out) NB308_0.out);replace BK309:=Aside0.mk (kbk hk (bk BK309.out) NB309_0.out);replace HK:=Aside0.mk (Kept.of_keep (S:=(fun k_=>(P1_1_ k_)∨k_=g)) (kt HK.out) hk (.inl (.inr rfl)));replace HB:=Aside0.mk (hb);replace HI0:=Aside0.mk (hi);(try clear hb);(try clear hb2);(try clear hk);(try clear hi);have hnb41:=NB308_309.out;have hnc41:=NB309_308.out;have hnb42:=NB308_0.out;have hnc42:=NB0_308.out;have hcz43_0:=z0_ BK308;have hcz43_1:=z1_ BK308;have hfz43_0:=hf_ BK308 0;have hfz43_1:=hf_ BK308 1;have hnb44:=NB309_0.out;have hnc44:=NB0_309.out;have hcz45_0:=z0_ BK309;have hcz45_1:=z1_ BK309;have hfz45_0:=hf_ BK309 0;have hfz45_1:=hf_ BK309 1))
    refine bodyPost_ret (results_cell_row rfl _ _ gb309 26 #[.int .i64 a1_0,.slice Ao37 l1_1.length co37] (0,0) _ rfl (by(with_reducible repeat(first|refine blk_drewN ?_ _|refine blk_drew ?_|refine blk_alloc ?_ _));refine blk_put (cs:=#[.int .i64 a1_0,.slice none 0 0]) ?_ 1 _ rfl;(with_reducible repeat(first|refine blk_drewN ?_ _|refine blk_drew ?_|refine blk_alloc ?_ _));refine blk_put (cs:=#[.int .i64 0,.slice none 0 0]) ?_ 0 _ rfl;(with_reducible repeat(first|refine blk_drewN ?_ _|refine blk_drew ?_|refine blk_alloc ?_ _));exact BK309.out) Tryz.underlying26 rfl (by kernel_rfl)) rfl ?_;exact⟨_,rr,by(with_reducible repeat(first|apply Kd.R_alloc|apply Kd.R_drewN|apply Kd.R_drew));exact Kd.R_mono (Kd.R_far (p:=⟨gb309,1,none⟩) (Kd.R_far (p:=⟨gb309,0,none⟩) (Kd.R_types HO1_1.out BK309.out (by decide)) (fun _ hk=>hk.2) (.int .i64 a1_0)) (fun _ hk=>hk.2) (.slice Ao37 l1_1.length co37)) (fun _ hk=>hk.1),IsS92.ch HI0.out,blg HB.out (IsS92.ge HI0.out),kt HK.out⟩
  ·rw[if_neg c20] at H;have c20b0:(t310 == 1)=false:=beq_eq_false_iff_ne.mpr c20;have c20b1:(t310 != 1)=true:=bne_iff_ne.mpr c20;by_cases c46:t310=2
   ·rw[if_pos c46] at H;have c46b0:(t310 == 2)=true:=beq_iff_eq.mpr c46;have c46b1:(t310 != 2)=false:=bne_eq_false_iff_eq.mpr c46;clear c46;replace H:=Option.bind_eq_some_iff.mp H;obtain ⟨t329,A470,H⟩:=H;replace H:((spec_l01All.f a1_0).bind fun t332=>((spec_l01All.f a1_0).bind fun t333=>((spec_l01Pick.f s0_0 t311 t312 (([0,wrap64 (t332+1),t333,1]:List Int))).bind fun bt337=>(if t329.length<17592186044416 then (some (a1_0,(t329 ++ [bt337.1]),bt337.2.1,bt337.2.2)) else (none)))))=some (r1,r2,r3,r4):=H;have A47:=Aside0.mk A470;clear A470;replace H:=Option.bind_eq_some_iff.mp H;obtain ⟨t332,A480,H⟩:=H;replace H:((spec_l01All.f a1_0).bind fun t333=>((spec_l01Pick.f s0_0 t311 t312 (([0,wrap64 (t332+1),t333,1]:List Int))).bind fun bt337=>(if t329.length<17592186044416 then (some (a1_0,(t329 ++ [bt337.1]),bt337.2.1,bt337.2.2)) else (none))))=some (r1,r2,r3,r4):=H;have A48:=Aside0.mk A480;clear A480;replace H:=Option.bind_eq_some_iff.mp H;obtain ⟨t333,A490,H⟩:=H;replace H:((spec_l01Pick.f s0_0 t311 t312 (([0,wrap64 (t332+1),t333,1]:List Int))).bind fun bt337=>(if t329.length<17592186044416 then (some (a1_0,(t329 ++ [bt337.1]),bt337.2.1,bt337.2.2)) else (none)))=some (r1,r2,r3,r4):=H;have A49:=Aside0.mk A490;clear A490;obtain ⟨y334,hy334⟩:∃ y_:List Int,y_=(([0,wrap64 (t332+1),t333,1]:List Int)):=⟨_,rfl⟩
    replace H:((spec_l01Pick.f s0_0 t311 t312 y334).bind fun bt337=>(if t329.length<17592186044416 then (some (a1_0,(t329 ++ [bt337.1]),bt337.2.1,bt337.2.2)) else (none)))=some (r1,r2,r3,r4):=by first|(rw[hy334];with_reducible exact H)|(have H2_:=(Option.bind_some _ _).symm.trans H;rw[hy334];with_reducible exact H2_)|(have H2_:=(Option.bind_some _ _).symm.trans H;with_reducible exact H2_)|with_reducible exact H|(rw[hy334];exact H)|exact H
    have Ny334:=Aside0.mk hy334;clear hy334;replace H:=Option.bind_eq_some_iff.mp H;obtain ⟨⟨t337,t338,t339⟩,A500,H⟩:=H;replace H:(if t329.length<17592186044416 then (some (a1_0,(t329 ++ [t337]),t338,t339)) else (none))=some (r1,r2,r3,r4):=H;have A50:=Aside0.mk A500;clear A500;by_cases c51:t329.length<17592186044416
    ·rw[if_pos c51] at H;have LMc51:=Aside0.mk c51;clear c51;obtain ⟨y340,hy340⟩:∃ y_:List Int,y_=(t329 ++ [t337]):=⟨_,rfl⟩
     replace H:(some (a1_0,y340,t338,t339))=some (r1,r2,r3,r4):=by first|(rw[hy340];with_reducible exact H)|(have H2_:=(Option.bind_some _ _).symm.trans H;rw[hy340];with_reducible exact H2_)|(have H2_:=(Option.bind_some _ _).symm.trans H;with_reducible exact H2_)|with_reducible exact H|(rw[hy340];exact H)|exact H
     have Ny340:=Aside0.mk hy340;clear hy340;simp only [Option.some.injEq,Prod.mk.injEq] at H;obtain ⟨rfl,rfl,rfl,rfl⟩:=H;obtain ⟨Ao52,co52,eo52⟩:=Kd.R_slice HO1_1.out;subst eo52;go_enter Tryz.func69,Tryz.ntmps69;try go_wp2_with (first|((with_reducible refine gate_dst (N:=3) rfl ?_);refine bx 3 #[.int .i64 a1_0,.slice Ao52 l1_1.length co52] 26 ?_;intro gb308 hg w53 hbox hb;replace HO1_1:=krA HO1_1 hb;have BK308:=Aside0.mk (hbox);have GW308:=Aside0.mk ((by rw[hg];exact(by first|exact HK.out.1|exact(show Kept w _ (fun k_=>(P1_1_ k_)∨k_=g) from kt HK.out).1):w.heap.size≤gb308));replace HK:=Aside0.mk (Kept.below (S:=(fun k_=>(P1_1_ k_)∨k_=g)) (kt HK.out) hb);have GE308:=Aside0.mk ((by rw[hg];exact(below_size (blg HB.out (IsS92.ge HI0.out))):w0.heap.size≤gb308));replace HB:=Aside0.mk (below_step (blg HB.out (IsS92.ge HI0.out)) hb);have NB0_308:=Aside0.mk ((by rw[hg];exact Nat.ne_of_lt (IsS92.lt (show IsS92 w0 _ g s0_0 s0_1 s0_2 from IsS92.ch HI0.out)):g≠gb308));have NB308_0:=Aside0.mk ((by rw[hg];exact Nat.ne_of_gt (IsS92.lt (show IsS92 w0 _ g s0_0 s0_1 s0_2 from IsS92.ch HI0.out)):gb308≠g));replace HI0:=Aside0.mk (IsS92.below (IsS92.ch HI0.out) hb);clear hb hbox hg)|((with_reducible refine gate_dst (N:=4) rfl ?_);refine bx 4 #[.int .i64 0,.slice none 0 0] 26 ?_;intro gb309 hg w54 hbox hb;replace HO1_1:=krA HO1_1 hb;have BK309:=Aside0.mk (hbox);have GW309:=Aside0.mk ((by rw[hg];exact(by first|exact HK.out.1|exact(show Kept w _ (fun k_=>(P1_1_ k_)∨k_=g) from kt HK.out).1):w.heap.size≤gb309));replace HK:=Aside0.mk (Kept.below (S:=(fun k_=>(P1_1_ k_)∨k_=g)) (kt HK.out) hb);have GE309:=Aside0.mk ((by rw[hg];exact(below_size (blg HB.out (IsS92.ge HI0.out))):w0.heap.size≤gb309));replace HB:=Aside0.mk (below_step (blg HB.out (IsS92.ge HI0.out)) hb);have NB308_309:=nlA hg BK308;have NB309_308:=ngA hg BK308;replace BK308:=bkA BK308 hb;have NB0_309:=Aside0.mk ((by rw[hg];exact Nat.ne_of_lt (IsS92.lt (show IsS92 w0 _ g s0_0 s0_1 s0_2 from IsS92.ch HI0.out)):g≠gb309));have NB309_0:=Aside0.mk ((by rw[hg];exact Nat.ne_of_gt (IsS92.lt (show IsS92 w0 _ g s0_0 s0_1 s0_2 from IsS92.ch HI0.out)):gb309≠g));replace HI0:=Aside0.mk (IsS92.below (IsS92.ch HI0.out) hb);clear hb hbox hg)|((with_reducible refine gate_callee (f:=67) rfl ?_);refine gl (some 6) Tryz.func67 #[.pointer (some ⟨g,0,none⟩),.int .i64 50] ?_;(with_reducible refine(spec_l01Next.calls g s0_0 s0_1 s0_2 50 t310 t311 t312 w0 _ (IsS92.ch HI0.out) (blg HB.out (IsS92.ge HI0.out)) A3.out).mono ?_);rintro e w55 ⟨rfl,hi,hb,hk⟩;refine⟨_,rfl,?_⟩;replace HO1_1:=Aside0.mk (Kd.R_mono (Kd.R_keep (IsS92.apart (show IsS92 w0 _ g s0_0 s0_1 s0_2 from IsS92.ch HI0.out) (kr HO1_1.out) (by decide)) hk (fun _ h=>h.2)) (fun _ h=>h.1));replace BK308:=Aside0.mk (kbk hk (bk BK308.out) NB308_0.out);replace BK309:=Aside0.mk (kbk hk (bk BK309.out) NB309_0.out);replace HK:=Aside0.mk (Kept.of_keep (S:=(fun k_=>(P1_1_ k_)∨k_=g)) (kt HK.out) hk (.inl (.inr rfl)));replace HB:=Aside0.mk (hb);replace HI0:=Aside0.mk (hi);(try clear hb);(try clear hb2);(try clear hk);(try clear hi)))
     replace HO1_1:=Aside0.mk (Kd.R_drew HO1_1.out);replace BK308:=Aside0.mk (blk_drew BK308.out);replace BK309:=Aside0.mk (blk_drew BK309.out);replace HI0:=Aside0.mk (IsS92.drew HI0.out);replace HK:=Aside0.mk (Kept.drew HK.out);replace HB:=Aside0.mk (below_drew1 HB.out);refine start_ (n:=19) (S:=fun w'=>w'.cell? ⟨gb308,0,none⟩=some (.int .i64 a1_0)∧w'.cell? ⟨gb308,1,none⟩=some (.slice Ao52 l1_1.length co52)) (ds:= []) (ar 0 19) (by kernel_rfl) rfl rfl ⟨(blk_cell BK308.out 0).trans rfl,(blk_cell BK308.out 1).trans rfl⟩ (fun hHeld=>?_);refine with_tabW spec_l01Bad.tab8 spec_l01Bad.bits8 (fun HT_ HW_=>?_);generalize w55.drew=w56 at HO1_1 BK308 BK309 HI0 HK HB hHeld ⊢;refine pu 0 (some 31) (ar 1 18) HT_ ?_;refine pu 2 (some 33) #[U,O,U,O,O,O,O,O,O,O,O,O,O,O,O,O,O,O,O] HT_ ?_;refine pu 5 (some 36) #[U,O,U,O,O,U,O,O,O,O,O,O,O,O,O,O,O,O,O] HT_ ?_;refine pu 6 (some 37) #[U,O,U,O,O,U,U,O,O,O,O,O,O,O,O,O,O,O,O] HT_ ?_;refine pu 10 (some 41) #[U,O,U,O,O,U,U,O,O,O,U,O,O,O,O,O,O,O,O] HT_ ?_;refine tk 1 (some 32) #[U,U,U,O,O,U,U,O,O,O,U,O,O,O,O,O,O,O,O] HT_ HW_ hHeld ?_;refine tk 3 (some 34) #[U,U,U,U,O,U,U,O,O,O,U,O,O,O,O,O,O,O,O] HT_ HW_ hHeld ?_;refine tk 7 (some 38) #[U,U,U,U,O,U,U,U,O,O,U,O,O,O,O,O,O,O,O] HT_ HW_ hHeld ?_;refine tk 11 (some 42) #[U,U,U,U,O,U,U,U,O,O,U,U,O,O,O,O,O,O,O] HT_ HW_ hHeld ?_;refine on_ 4 (some 35) #[U,U,U,U,U,U,U,U,O,O,U,U,O,O,O,O,O,O,O] HT_ fun K hK=>?_;refine gr Tryz.func123 #[.slice Ao52 l1_1.length co52] ?_;with_reducible refine(spec_l01Own.calls _ _ l1_1 t329 _ (cb (Kd.R_reads' HO1_1.out).2.2) ((Kd.R_reads' HO1_1.out).2.1) A47.out).mono ?_
     rintro e w57 ⟨v330,rfl,ho0,hb⟩;refine⟨_,rfl,?_⟩;have HO331:=Aside0.mk (Kd.R_lower (Kd.R_new' (Kd.R_newM (M:=fun k_=>(P1_1_ k_∨w.heap.size≤k_)) ho0 (by first|exact HK.out.1|exact(show Kept w _ (fun k_=>(P1_1_ k_)∨k_=g) from kt HK.out).1) (fun k_ h_=> .inr h_)) (Kd.R_lt (kr HO1_1.out))) (below_size (blg HB.out (IsS92.ge HI0.out))));replace HO1_1:=Aside0.mk (Kd.R_elder' (kr HO1_1.out) (Kd.R_base ho0) hb);replace BK308:=bkA BK308 hb;replace BK309:=bkA BK309 hb;replace HK:=Aside0.mk (Kept.below (S:=(fun k_=>(P1_1_ k_)∨k_=g)) (kt HK.out) hb);replace HB:=Aside0.mk (below_step (blg HB.out (IsS92.ge HI0.out)) hb);replace HI0:=Aside0.mk (IsS92.below (IsS92.ch HI0.out) hb);(try clear hb)
     (try clear hb2)
     (try clear hk)
     (try clear hi)
     (try clear ho0)
     refine hK.out _ _ ⟨(blk_cell BK308.out 0).trans rfl,(blk_cell BK308.out 1).trans rfl⟩ (fun hHeld=>?_);clear hK K;refine nr 35 ?_;refine on_ 8 (some 39) #[U,U,U,U,U,U,U,U,U,O,U,U,O,O,O,O,O,O,O] HT_ fun K hK=>?_;refine gr Tryz.func91 #[.int .i64 a1_0] ?_;with_reducible refine(spec_l01All.calls a1_0 t332 _ A48.out).mono ?_
     rintro e w' ⟨rfl,⟨nd,rfl⟩⟩;refine⟨_,rfl,?_⟩;refine hK.out _ _ ⟨(blk_cell BK308.out 0).trans rfl,(blk_cell BK308.out 1).trans rfl⟩ (fun hHeld=>?_);clear hK K;refine nr 39 ?_;refine pu 9 (some 40) (ar 12 7) HT_ ?_;refine on_ 12 (some 43) (ar 13 6) HT_ fun K hK=>?_;refine gr Tryz.func91 #[.int .i64 a1_0] ?_;with_reducible refine(spec_l01All.calls a1_0 t333 _ A49.out).mono ?_
     rintro e w' ⟨rfl,⟨nd,rfl⟩⟩;refine⟨_,rfl,?_⟩;refine hK.out _ _ ⟨(blk_cell BK308.out 0).trans rfl,(blk_cell BK308.out 1).trans rfl⟩ (fun hHeld=>?_);clear hK K;refine nr 43 ?_;refine on_ 13 (some 44) (ar 14 5) HT_ fun K hK=>?_;refine Kd.R_lit_step (Kd.int .i64) _ 2 ?hg (N:=44) ?hd (xs:=([0,wrap64 (t332+1),t333,1]:List Int)) (inner:= [.int .i64 0,.int .i64 (wrap64 (t332+1)),.int .i64 t333,.int .i64 1]) (ok:=fun _=>True) (okp:=fun _=>True) ?hr ?hp (fun _ hk=>hk) trivial (Below.refl _ _) (Nat.le_refl _) (by simp) ?_;(case hd=>rfl);(case hg=>rfl);(case hr=>first|(go_simp;done)|(go_simp;rfl));(case hp=>exact(Reps.one (show Kd.M (Kd.int .i64) _ _ _ 0 [.int .i64 0] from rfl) (Reps.one (show Kd.M (Kd.int .i64) _ _ _ (wrap64 (t332+1)) [.int .i64 (wrap64 (t332+1))] from rfl) (Reps.one (show Kd.M (Kd.int .i64) _ _ _ t333 [.int .i64 t333] from rfl) (Reps.one (show Kd.M (Kd.int .i64) _ _ _ 1 [.int .i64 1] from rfl) (Reps.none _ _))))));intro v335 w58 ho59 hb hg_ hnew_;clear hg_ hnew_;(first|rw[← Ny334.out] at ho59|(simp only [Int.reduceToNat] at ho59;rw[← Ny334.out] at ho59))
     have HO336:=Aside0.mk (Kd.R_lower (Kd.R_new' (Kd.R_new' (Kd.R_newM (M:=fun k_=>(P1_1_ k_∨w.heap.size≤k_)) ho59 (by first|exact HK.out.1|exact(show Kept w _ (fun k_=>(P1_1_ k_)∨k_=g) from kt HK.out).1) (fun k_ h_=> .inr h_)) (Kd.R_lt (kr HO1_1.out))) (Kd.R_lt (kr HO331.out))) (below_size (blg HB.out (IsS92.ge HI0.out))));replace HO1_1:=Aside0.mk (Kd.R_elder' (kr HO1_1.out) (Kd.R_base ho59) hb);replace HO331:=Aside0.mk (Kd.R_elder' (kr HO331.out) (Kd.R_base ho59) hb);replace BK308:=bkA BK308 hb;replace BK309:=bkA BK309 hb;replace HK:=Aside0.mk (Kept.below (S:=(fun k_=>(P1_1_ k_)∨k_=g)) (kt HK.out) hb);replace HB:=Aside0.mk (below_step (blg HB.out (IsS92.ge HI0.out)) hb);replace HI0:=Aside0.mk (IsS92.below (IsS92.ch HI0.out) hb);clear hb ho59;obtain ⟨Ao60,co60,eo60⟩:=Kd.R_slice HO336.out;(first|subst eo60|(injection eo60 with f1_ f2_ f3_;have f4_:=f1_.symm;have f5_:=f3_.symm;clear f1_ f2_ f3_;subst f4_;subst f5_))
     refine hK.out _ _ ⟨(blk_cell BK308.out 0).trans rfl,(blk_cell BK308.out 1).trans rfl⟩ (fun hHeld=>?_);clear hK K;refine nr 44 ?_;refine on_ 14 (some 45) (ar 15 4) HT_ fun K hK=>?_;refine gr Tryz.func81 #[.pointer (some ⟨g,0,none⟩),.slice Ao60 y334.length co60] ?_;with_reducible refine(spec_l01Pick.calls g s0_0 t311 t312 _ _ y334 t337 t338 t339 w0 _ (IsS92.ch HI0.out) (blg HB.out (IsS92.ge HI0.out)) (cb (Kd.R_reads' HO336.out).2.2) ((Kd.R_reads' HO336.out).2.1) (far_slice (IsS92.own_ne HI0.out HO336.out (by decide))) A50.out).mono ?_
     rintro e w61 ⟨rfl,hi,hb,hk⟩;refine⟨_,rfl,?_⟩;replace HO1_1:=Aside0.mk (Kd.R_mono (Kd.R_keep (IsS92.apart (show IsS92 w0 _ g s0_0 t311 t312 from IsS92.ch HI0.out) (kr HO1_1.out) (by decide)) hk (fun _ h=>h.2)) (fun _ h=>h.1));replace BK308:=Aside0.mk (kbk hk (bk BK308.out) NB308_0.out);replace BK309:=Aside0.mk (kbk hk (bk BK309.out) NB309_0.out);replace HO331:=Aside0.mk (Kd.R_mono (Kd.R_keep (IsS92.apart (show IsS92 w0 _ g s0_0 t311 t312 from IsS92.ch HI0.out) (kr HO331.out) (by decide)) hk (fun _ h=>h.2)) (fun _ h=>h.1));replace HO336:=Aside0.mk (Kd.R_mono (Kd.R_keep (IsS92.apart (show IsS92 w0 _ g s0_0 t311 t312 from IsS92.ch HI0.out) (kr HO336.out) (by decide)) hk (fun _ h=>h.2)) (fun _ h=>h.1));replace HK:=Aside0.mk (Kept.of_keep (S:=(fun k_=>(P1_1_ k_)∨k_=g)) (kt HK.out) hk (.inl (.inr rfl)));replace HB:=Aside0.mk (hb);replace HI0:=Aside0.mk (hi);(try clear hb)
     (try clear hb2)
     (try clear hk)
     (try clear hi)
     refine hK.out _ _ ⟨(blk_cell BK308.out 0).trans rfl,(blk_cell BK308.out 1).trans rfl⟩ (fun hHeld=>?_);clear hK K;refine nr 45 ?_;refine on_ 15 (some 46) (ar 16 3) HT_ fun K hK=>?_;refine value_ (w1:=?_) (v:=?_) (by rfl) rfl ?_ ?_;rotate_left 2
     ·go_simp;constructor
      ·rfl
      ·rfl
     refine hK.out _ _ ⟨(blk_cell (blk_alloc BK308.out _) 0).trans rfl,(blk_cell (blk_alloc BK308.out _) 1).trans rfl⟩ (fun hHeld=>?_);clear hK K;refine nr 46 ?_;refine on_ 16 (some 47) (ar 17 2) HT_ fun K hK=>?_;refine Kd.R_append_step (Kd.int .i64) (w0:=w0) w0.heap.size (by rfl) (.tmp 35) (.tmp 46) 24 2 (.int .i64 0) 8 rfl Tryz.underlying24 info2 rfl (by decide) (by omega) v330 t329 t337 [.int .i64 t337] (fun k_=>(P1_1_ k_∨w.heap.size≤k_)∧some k_≠(.slice Ao52 l1_1.length co52:Value).ownBlock∧some k_≠(.slice Ao60 y334.length co60:Value).ownBlock) (fun _=>False) rfl rfl ?aP (fun _ hk=>hk.elim) ?aF ?aO ?aB ?aS ?aL ?_;(case aP=>exact rfl)
     (case aB=>exact(blg HB.out (IsS92.ge HI0.out)))
     (case aF=>exact(fun k_ hk=>⟨(.inr (Nat.le_trans (by first|exact HK.out.1|exact(show Kept w _ (fun k_=>(P1_1_ k_)∨k_=g) from kt HK.out).1) hk)),Kd.fresh' (Kd.R_lt (kr HO1_1.out)) k_ hk,Kd.fresh' (Kd.R_lt (kr HO336.out)) k_ hk⟩))
     (case aO=>exact(by(with_reducible repeat(first|apply Kd.R_alloc|apply Kd.R_drewN|apply Kd.R_drew));exact Kd.R_mono HO331.out (fun _ hk=>⟨hk.1.1.1,⟨hk.1.2,hk.2⟩⟩)))
     (case aS=>exact(below_size (blg HB.out (IsS92.ge HI0.out))))
     (case aL=>have:=LMc51.out;omega)
     intro v341 w62 ho hb hg hat;rw[← Ny340.out] at ho;have n0_:=Aside0.mk (IsS92.grown (IsS92.ch HI0.out) hg (IsS92.own_ne HI0.out HO331.out (by decide)));have n1_:=Aside0.mk (Kd.R_after (ok:=(fun k_=>(P1_1_ k_∨w.heap.size≤k_)∧some k_≠(.slice Ao60 y334.length co60:Value).ownBlock)) (by(with_reducible repeat(first|apply Kd.R_alloc|apply Kd.R_drewN|apply Kd.R_drew));exact Kd.R_mono HO1_1.out (fun _ hk=>⟨⟨hk.1.1,hk.2⟩,hk.1.2⟩)) hg hat);have n2_:=Aside0.mk (blk_grown (bk BK308.out) hg (Kd.R_ne HO331.out BK308.out (by decide)));have n3_:=Aside0.mk (blk_grown (bk BK309.out) hg (Kd.R_ne HO331.out BK309.out (by decide)));have n4_:=Aside0.mk (Kd.R_after (ok:=(fun k_=>(P1_1_ k_∨w.heap.size≤k_)∧some k_≠(.slice Ao52 l1_1.length co52:Value).ownBlock)) (by(with_reducible repeat(first|apply Kd.R_alloc|apply Kd.R_drewN|apply Kd.R_drew));exact Kd.R_mono HO336.out (fun _ hk=>⟨⟨hk.1.1.1,hk.1.2⟩,hk.2⟩)) hg hat);have n5_:=Aside0.mk (hb);have n6_:=Aside0.mk (Kept.of_grown (S:=(fun k_=>(P1_1_ k_)∨k_=g)) hg (kt HK.out) (fun k_ e_=>Or.imp_left Or.inl ((HO331.out.1 k_ e_).1.1.1)));have n7_:=Aside0.mk (ho);clear HI0;clear HO1_1;clear BK308;clear BK309;clear HO336;clear HB;clear HK;clear HO331;have HI0:=n0_;have HO1_1:=n1_;have BK308:=n2_;have BK309:=n3_;have HO336:=n4_;have HB:=n5_;have HK:=n6_;have HO342:=n7_;clear n0_ n1_ n2_ n3_ n4_ n5_ n6_ n7_;clear ho hb hg hat;obtain ⟨Ao63,co63,eo63⟩:=Kd.R_slice HO342.out;(first|subst eo63|(injection eo63 with f1_ f2_ f3_;have f4_:=f1_.symm;have f5_:=f3_.symm;clear f1_ f2_ f3_;subst f4_;subst f5_))
     refine hK.out _ _ ⟨(blk_cell BK308.out 0).trans rfl,(blk_cell BK308.out 1).trans rfl⟩ (fun hHeld=>?_);clear hK K;refine nr 47 ?_;refine pu 17 (some 48) (ar 18 1) HT_ ?_;refine on_ 18 (none) (ar 19 0) HT_ fun K hK=>?_;have hs64:w62.cell? ⟨gb309,0,none⟩=some (.int .i64 0):=(blk_cell BK309.out 0).trans rfl;have hfs64:=blk_frozen BK309.out 0;have hns64_0:=NB308_309.out;have hms64_0:=NB309_308.out;have hs65:w62.cell? ⟨gb309,1,none⟩=some (.slice none 0 0):=(blk_cell BK309.out 1).trans rfl;have hfs65:=blk_frozen BK309.out 1;have hns65_0:=NB308_309.out;have hms65_0:=NB309_308.out;refine skip_ (w1:=?_) (by rfl) rfl ?_ ?_;rotate_left
     ·go_simp;rfl
     refine hK.out _ _ ⟨((cell_far (p:=⟨gb309,_,none⟩) NB308_309.out _).trans (((cell_far (p:=⟨gb309,_,none⟩) NB308_309.out _).trans (hHeld.1)))),((cell_far (p:=⟨gb309,_,none⟩) NB308_309.out _).trans (((cell_far (p:=⟨gb309,_,none⟩) NB308_309.out _).trans (hHeld.2))))⟩ (fun hHeld=>?_);clear hK K;refine done_ (done_of HT_.out (by kernel_rfl)) ?_;try go_wp2
     refine bodyPost_ret (results_cell_row rfl _ _ gb309 26 #[.int .i64 a1_0,.slice Ao63 y340.length co63] (0,0) _ rfl (by(with_reducible repeat(first|refine blk_drewN ?_ _|refine blk_drew ?_|refine blk_alloc ?_ _));refine blk_put (cs:=#[.int .i64 a1_0,.slice none 0 0]) ?_ 1 _ rfl;(with_reducible repeat(first|refine blk_drewN ?_ _|refine blk_drew ?_|refine blk_alloc ?_ _));refine blk_put (cs:=#[.int .i64 0,.slice none 0 0]) ?_ 0 _ rfl;(with_reducible repeat(first|refine blk_drewN ?_ _|refine blk_drew ?_|refine blk_alloc ?_ _));exact BK309.out) Tryz.underlying26 rfl (by kernel_rfl)) rfl ?_;exact⟨_,rr,by(with_reducible repeat(first|apply Kd.R_alloc|apply Kd.R_drewN|apply Kd.R_drew));exact Kd.R_mono (Kd.R_far (p:=⟨gb309,1,none⟩) (Kd.R_far (p:=⟨gb309,0,none⟩) (Kd.R_types HO342.out BK309.out (by decide)) (fun _ hk=>hk.2) (.int .i64 a1_0)) (fun _ hk=>hk.2) (.slice Ao63 y340.length co63)) (fun _ hk=>hk.1.1),IsS92.ch HI0.out,blg HB.out (IsS92.ge HI0.out),kt HK.out⟩
    ·rw[if_neg c51] at H;exact absurd H (by simp)
   ·rw[if_neg c46] at H;have c46b0:(t310 == 2)=false:=beq_eq_false_iff_ne.mpr c46;have c46b1:(t310 != 2)=true:=bne_iff_ne.mpr c46;simp only [Option.some.injEq,Prod.mk.injEq] at H;obtain ⟨rfl,rfl,rfl,rfl⟩:=H;obtain ⟨Ao66,co66,eo66⟩:=Kd.R_slice HO1_1.out;subst eo66;go_enter Tryz.func69,Tryz.ntmps69;go_wp2_with (first|((with_reducible refine gate_dst (N:=3) rfl ?_);refine bx 3 #[.int .i64 a1_0,.slice Ao66 l1_1.length co66] 26 ?_;intro gb308 hg w67 hbox hb;replace HO1_1:=krA HO1_1 hb;have BK308:=Aside0.mk (hbox);have GW308:=Aside0.mk ((by rw[hg];exact(by first|exact HK.out.1|exact(show Kept w _ (fun k_=>(P1_1_ k_)∨k_=g) from kt HK.out).1):w.heap.size≤gb308));replace HK:=Aside0.mk (Kept.below (S:=(fun k_=>(P1_1_ k_)∨k_=g)) (kt HK.out) hb);have GE308:=Aside0.mk ((by rw[hg];exact(below_size (blg HB.out (IsS92.ge HI0.out))):w0.heap.size≤gb308));replace HB:=Aside0.mk (below_step (blg HB.out (IsS92.ge HI0.out)) hb);have NB0_308:=Aside0.mk ((by rw[hg];exact Nat.ne_of_lt (IsS92.lt (show IsS92 w0 _ g s0_0 s0_1 s0_2 from IsS92.ch HI0.out)):g≠gb308));have NB308_0:=Aside0.mk ((by rw[hg];exact Nat.ne_of_gt (IsS92.lt (show IsS92 w0 _ g s0_0 s0_1 s0_2 from IsS92.ch HI0.out)):gb308≠g));replace HI0:=Aside0.mk (IsS92.below (IsS92.ch HI0.out) hb);clear hb hbox hg)|((with_reducible refine gate_dst (N:=4) rfl ?_);refine bx 4 #[.int .i64 0,.slice none 0 0] 26 ?_;intro gb309 hg w68 hbox hb;replace HO1_1:=krA HO1_1 hb;have BK309:=Aside0.mk (hbox);have GW309:=Aside0.mk ((by rw[hg];exact(by first|exact HK.out.1|exact(show Kept w _ (fun k_=>(P1_1_ k_)∨k_=g) from kt HK.out).1):w.heap.size≤gb309));replace HK:=Aside0.mk (Kept.below (S:=(fun k_=>(P1_1_ k_)∨k_=g)) (kt HK.out) hb);have GE309:=Aside0.mk ((by rw[hg];exact(below_size (blg HB.out (IsS92.ge HI0.out))):w0.heap.size≤gb309));replace HB:=Aside0.mk (below_step (blg HB.out (IsS92.ge HI0.out)) hb);have NB308_309:=nlA hg BK308;have NB309_308:=ngA hg BK308;replace BK308:=bkA BK308 hb;have NB0_309:=Aside0.mk ((by rw[hg];exact Nat.ne_of_lt (IsS92.lt (show IsS92 w0 _ g s0_0 s0_1 s0_2 from IsS92.ch HI0.out)):g≠gb309));have NB309_0:=Aside0.mk ((by rw[hg];exact Nat.ne_of_gt (IsS92.lt (show IsS92 w0 _ g s0_0 s0_1 s0_2 from IsS92.ch HI0.out)):gb309≠g));replace HI0:=Aside0.mk (IsS92.below (IsS92.ch HI0.out) hb);clear hb hbox hg)|((with_reducible refine gate_callee (f:=67) rfl ?_);refine gl (some 6) Tryz.func67 #[.pointer (some ⟨g,0,none⟩),.int .i64 50] ?_;(with_reducible refine(spec_l01Next.calls g s0_0 s0_1 s0_2 50 t310 t311 t312 w0 _ (IsS92.ch HI0.out) (blg HB.out (IsS92.ge HI0.out)) A3.out).mono ?_);rintro e w69 ⟨rfl,hi,hb,hk⟩;refine⟨_,rfl,?_⟩;replace HO1_1:=Aside0.mk (Kd.R_mono (Kd.R_keep (IsS92.apart (show IsS92 w0 _ g s0_0 s0_1 s0_2 from IsS92.ch HI0.out) (kr HO1_1.out) (by decide)) hk (fun _ h=>h.2)) (fun _ h=>h.1));replace BK308:=Aside0.mk (kbk hk (bk BK308.out) NB308_0.out);replace BK309:=Aside0.mk (kbk hk (bk BK309.out) NB309_0.out);replace HK:=Aside0.mk (Kept.of_keep (S:=(fun k_=>(P1_1_ k_)∨k_=g)) (kt HK.out) hk (.inl (.inr rfl)));replace HB:=Aside0.mk (hb);replace HI0:=Aside0.mk (hi);(try clear hb);(try clear hb2);(try clear hk);(try clear hi);have hnb70:=NB308_309.out;have hnc70:=NB309_308.out;have hnb71:=NB308_0.out;have hnc71:=NB0_308.out;have hcz72_0:=z0_ BK308;have hcz72_1:=z1_ BK308;have hfz72_0:=hf_ BK308 0;have hfz72_1:=hf_ BK308 1;have hnb73:=NB309_0.out;have hnc73:=NB0_309.out;have hcz74_0:=z0_ BK309;have hcz74_1:=z1_ BK309;have hfz74_0:=hf_ BK309 0;have hfz74_1:=hf_ BK309 1))
    refine bodyPost_ret (results_cell_row rfl _ _ gb309 26 #[.int .i64 a1_0,.slice Ao66 l1_1.length co66] (0,0) _ rfl (by(with_reducible repeat(first|refine blk_drewN ?_ _|refine blk_drew ?_|refine blk_alloc ?_ _));refine blk_put (cs:=#[.int .i64 a1_0,.slice none 0 0]) ?_ 1 _ rfl;(with_reducible repeat(first|refine blk_drewN ?_ _|refine blk_drew ?_|refine blk_alloc ?_ _));refine blk_put (cs:=#[.int .i64 0,.slice none 0 0]) ?_ 0 _ rfl;(with_reducible repeat(first|refine blk_drewN ?_ _|refine blk_drew ?_|refine blk_alloc ?_ _));exact BK309.out) Tryz.underlying26 rfl (by kernel_rfl)) rfl ?_;exact⟨_,rr,by(with_reducible repeat(first|apply Kd.R_alloc|apply Kd.R_drewN|apply Kd.R_drew));exact Kd.R_mono (Kd.R_far (p:=⟨gb309,1,none⟩) (Kd.R_far (p:=⟨gb309,0,none⟩) (Kd.R_types HO1_1.out BK309.out (by decide)) (fun _ hk=>hk.2) (.int .i64 a1_0)) (fun _ hk=>hk.2) (.slice Ao66 l1_1.length co66)) (fun _ hk=>hk.1),IsS92.ch HI0.out,blg HB.out (IsS92.ge HI0.out),kt HK.out⟩
end Go.Proofs.YtbnnamejnjfkjaaGreat.Q
end

section
namespace Go.Proofs.YtbnnamejnjfkjaaGreat.Q
open Go.RowKit Go.Proofs.YtbnnamejnjfkjaaGreatW.PrintWords Go.Proofs.YtbnnamejnjfkjaaGreatW.PrintLast Go.Proofs.YtbnnamejnjfkjaaGreatW.PrintMore
attribute [local go_sem] max2_int min2_int max_two min_two max_three min_three max_four min_four
set_option linter.unusedVariables false
set_option linter.unusedSimpArgs false
mutual
def spec_l01DrawOf.l0:Nat→Int→List Int→Int→Int→List Int→Int→Int→Option (Int×List Int×Int×Int)
 |0,_,_,_,_,_,_,_=>none
 |k+1,x1,x5,x6,x7,x1000,x1001,x1002=>if x7>0 then ((spec_l01All.f x1).bind fun t366=>((spec_l01Next.f x1000 x1001 x1002 t366).bind fun bt367=>(spec_l01DrawOf.l1 k x1 x5 x6 x7 (wrap64 (1+bt367.1)) x1000 bt367.2.1 bt367.2.2))) else ((spec_l01Made.f k x1 x5).bind fun bt362=>(some (bt362.1,bt362.2,x1001,x1002)))
def spec_l01DrawOf.l1:Nat→Int→List Int→Int→Int→Int→List Int→Int→Int→Option (Int×List Int×Int×Int)
 |0,_,_,_,_,_,_,_,_=>none
 |k+1,x1,x5,x6,x7,x8,x1000,x1001,x1002=>(spec_l01Ones.f k x8).bind fun t370=>(if t370>x6 then (spec_l01DrawOf.l1 k x1 x5 x6 x7 (Go.bits .and .i64 x8 (wrap64 (x8 - 1))) x1000 x1001 x1002) else (if x5.length<17592186044416 then (spec_l01DrawOf.l0 k x1 (x5 ++ [x8]) x6 (wrap64 (x7 - 1)) x1000 x1001 x1002) else (none)))
end
def spec_l01DrawOf.f (k:Nat) (s0_0:List Int) (s0_1:Int) (s0_2:Int) (a1:Int):Option (Int×List Int×Int×Int):=(spec_l01Pick.f s0_0 s0_1 s0_2 (([2,3,3,4]:List Int))).bind fun bt350=>((spec_l01Pick.f s0_0 bt350.2.1 bt350.2.2 (([3,7,12]:List Int))).bind fun bt356=>((spec_l01Next.f s0_0 bt356.2.1 bt356.2.2 bt356.1).bind fun bt359=>(spec_l01DrawOf.l0 k a1 (([]:List Int)) bt350.1 bt359.1 s0_0 bt359.2.1 bt359.2.2)))
theorem spec_l01DrawOf.mono_l:∀ k,(∀ y0 y1 y2 y3 y4 y5 y6,LeO (spec_l01DrawOf.l0 k y0 y1 y2 y3 y4 y5 y6) (spec_l01DrawOf.l0 (k+1) y0 y1 y2 y3 y4 y5 y6))∧(∀ y0 y1 y2 y3 y4 y5 y6 y7,LeO (spec_l01DrawOf.l1 k y0 y1 y2 y3 y4 y5 y6 y7) (spec_l01DrawOf.l1 (k+1) y0 y1 y2 y3 y4 y5 y6 y7))
 |0=>⟨fun _ _ _ _ _ _ _ r h=>by simp [spec_l01DrawOf.l0] at h,fun _ _ _ _ _ _ _ _ r h=>by simp [spec_l01DrawOf.l1] at h⟩
 |k+1=>by
  obtain ⟨ih0,ih1⟩:=spec_l01DrawOf.mono_l k;refine⟨?_,?_⟩
  ·intro y0 y1 y2 y3 y4 y5 y6;unfold spec_l01DrawOf.l0;repeat' first
   |(with_reducible first|exact ih0 _ _ _ _ _ _ _|exact ih1 _ _ _ _ _ _ _ _|exact spec_l01Made.mono _ _ _|exact spec_l01Ones.mono _ _|exact LeO.refl _|exact LeO.none _|refine LeO.ite ?_ ?_|refine LeO.bind ?_ (fun _=>?_))
  ·intro y0 y1 y2 y3 y4 y5 y6 y7;unfold spec_l01DrawOf.l1;repeat' first
   |(with_reducible first|exact ih0 _ _ _ _ _ _ _|exact ih1 _ _ _ _ _ _ _ _|exact spec_l01Made.mono _ _ _|exact spec_l01Ones.mono _ _|exact LeO.refl _|exact LeO.none _|refine LeO.ite ?_ ?_|refine LeO.bind ?_ (fun _=>?_))
theorem spec_l01DrawOf.mono:∀ a0 a1 a2 a3 k,LeO (spec_l01DrawOf.f k a0 a1 a2 a3) (spec_l01DrawOf.f (k+1) a0 a1 a2 a3):=by
 intro a0 a1 a2 a3 k;obtain ⟨ih0,ih1⟩:=spec_l01DrawOf.mono_l k;unfold spec_l01DrawOf.f;repeat' first
   |(with_reducible first|exact ih0 _ _ _ _ _ _ _|exact ih1 _ _ _ _ _ _ _ _|exact spec_l01Made.mono _ _ _|exact spec_l01Ones.mono _ _|exact LeO.refl _|exact LeO.none _|refine LeO.ite ?_ ?_|refine LeO.bind ?_ (fun _=>?_))
set_option maxHeartbeats 8000000 in
set_option maxRecDepth 100000 in
theorem spec_l01DrawOf.calls (k:Nat) (g:Nat) (s0_0:List Int) (s0_1:Int) (s0_2:Int) (a1:Int) (r1:Int) (r2:List Int) (r3:Int) (r4:Int) (w0 w:World) (hI:IsS92 w0 w g s0_0 s0_1 s0_2) (hB:Below w0.heap.size w0 w) (h:spec_l01DrawOf.f k s0_0 s0_1 s0_2 a1=some (r1,r2,r3,r4)) :
  Calls Tryz.prog 70 #[.pointer (some ⟨g,0,none⟩),.int .i64 a1] w fun e w'=>∃ v1_:Value,e = .returned (.agg #[.int .i64 r1,v1_])∧Kd.R (Kd.int .i64) 2 w' w.heap.size (fun _=>True) v1_ r2∧IsS92 w0 w' g s0_0 r3 r4∧Below w0.heap.size w0 w'∧KeepBut w w' g none:=by
 have hu26:=Tryz.underlying26;have HI0:=Aside0.mk hI;have HK:=Aside0.mk (KeepBut.refl w g none);have HL:=Aside0.mk hB.size;clear hI;have HW0:=Aside0.mk hB.size;have HB:=Aside0.mk hB;clear hB;have H:((spec_l01Pick.f s0_0 s0_1 s0_2 (([2,3,3,4]:List Int))).bind fun bt350=>((spec_l01Pick.f s0_0 bt350.2.1 bt350.2.2 (([3,7,12]:List Int))).bind fun bt356=>((spec_l01Next.f s0_0 bt356.2.1 bt356.2.2 bt356.1).bind fun bt359=>(spec_l01DrawOf.l0 k a1 (([]:List Int)) bt350.1 bt359.1 s0_0 bt359.2.1 bt359.2.2))))=some (r1,r2,r3,r4):=h;clear h;obtain ⟨y344,hy344⟩:∃ y_:List Int,y_=(([]:List Int)):=⟨_,rfl⟩
 replace H:((spec_l01Pick.f s0_0 s0_1 s0_2 (([2,3,3,4]:List Int))).bind fun bt350=>((spec_l01Pick.f s0_0 bt350.2.1 bt350.2.2 (([3,7,12]:List Int))).bind fun bt356=>((spec_l01Next.f s0_0 bt356.2.1 bt356.2.2 bt356.1).bind fun bt359=>(spec_l01DrawOf.l0 k a1 y344 bt350.1 bt359.1 s0_0 bt359.2.1 bt359.2.2))))=some (r1,r2,r3,r4):=by first|(rw[hy344];with_reducible exact H)|(have H2_:=(Option.bind_some _ _).symm.trans H;rw[hy344];with_reducible exact H2_)|(have H2_:=(Option.bind_some _ _).symm.trans H;with_reducible exact H2_)|with_reducible exact H|(rw[hy344];exact H)|exact H
 have Ny344:=Aside0.mk hy344;clear hy344;obtain ⟨y347,hy347⟩:∃ y_:List Int,y_=(([2,3,3,4]:List Int)):=⟨_,rfl⟩
 replace H:((spec_l01Pick.f s0_0 s0_1 s0_2 y347).bind fun bt350=>((spec_l01Pick.f s0_0 bt350.2.1 bt350.2.2 (([3,7,12]:List Int))).bind fun bt356=>((spec_l01Next.f s0_0 bt356.2.1 bt356.2.2 bt356.1).bind fun bt359=>(spec_l01DrawOf.l0 k a1 y344 bt350.1 bt359.1 s0_0 bt359.2.1 bt359.2.2))))=some (r1,r2,r3,r4):=by first|(rw[hy347];with_reducible exact H)|(have H2_:=(Option.bind_some _ _).symm.trans H;rw[hy347];with_reducible exact H2_)|(have H2_:=(Option.bind_some _ _).symm.trans H;with_reducible exact H2_)|with_reducible exact H|(rw[hy347];exact H)|exact H
 have Ny347:=Aside0.mk hy347;clear hy347;replace H:=Option.bind_eq_some_iff.mp H;obtain ⟨⟨t350,t351,t352⟩,A30,H⟩:=H;replace H:((spec_l01Pick.f s0_0 t351 t352 (([3,7,12]:List Int))).bind fun bt356=>((spec_l01Next.f s0_0 bt356.2.1 bt356.2.2 bt356.1).bind fun bt359=>(spec_l01DrawOf.l0 k a1 y344 t350 bt359.1 s0_0 bt359.2.1 bt359.2.2)))=some (r1,r2,r3,r4):=H;have A3:=Aside0.mk A30;clear A30;obtain ⟨y353,hy353⟩:∃ y_:List Int,y_=(([3,7,12]:List Int)):=⟨_,rfl⟩
 replace H:((spec_l01Pick.f s0_0 t351 t352 y353).bind fun bt356=>((spec_l01Next.f s0_0 bt356.2.1 bt356.2.2 bt356.1).bind fun bt359=>(spec_l01DrawOf.l0 k a1 y344 t350 bt359.1 s0_0 bt359.2.1 bt359.2.2)))=some (r1,r2,r3,r4):=by first|(rw[hy353];with_reducible exact H)|(have H2_:=(Option.bind_some _ _).symm.trans H;rw[hy353];with_reducible exact H2_)|(have H2_:=(Option.bind_some _ _).symm.trans H;with_reducible exact H2_)|with_reducible exact H|(rw[hy353];exact H)|exact H
 have Ny353:=Aside0.mk hy353;clear hy353;replace H:=Option.bind_eq_some_iff.mp H;obtain ⟨⟨t356,t357,t358⟩,A40,H⟩:=H;replace H:((spec_l01Next.f s0_0 t357 t358 t356).bind fun bt359=>(spec_l01DrawOf.l0 k a1 y344 t350 bt359.1 s0_0 bt359.2.1 bt359.2.2))=some (r1,r2,r3,r4):=H;have A4:=Aside0.mk A40;clear A40;replace H:=Option.bind_eq_some_iff.mp H;obtain ⟨⟨t359,t360,t361⟩,A50,H⟩:=H;replace H:(spec_l01DrawOf.l0 k a1 y344 t350 t359 s0_0 t360 t361)=some (r1,r2,r3,r4):=H;have A5:=Aside0.mk A50;clear A50;have H':=Aside0.mk H;clear H;go_enter Tryz.func70,Tryz.ntmps70;go_wp2_with (first|((with_reducible refine gate_dst (N:=4) rfl ?_);refine bx 4 #[.int .i64 0,.slice none 0 0] 26 ?_;intro gb343 hg w6 hbox hb;replace HB:=Aside0.mk (below_step (blg HB.out (IsS92.ge HI0.out)) hb);have BK343:=Aside0.mk (hbox);have GW343:=Aside0.mk ((by rw[hg];exact(keep_size (w:=w) (g:=g) (row:=none) (kp HK.out)):w.heap.size≤gb343));have GE343:=Aside0.mk ((Nat.le_trans HW0.out (by rw[hg];exact(keep_size (w:=w) (g:=g) (row:=none) (kp HK.out)):w.heap.size≤gb343):w0.heap.size≤gb343));replace HK:=Aside0.mk (KeepBut.trans (kp HK.out) (KeepBut.of_below hb g none) (.inl rfl));have NB0_343:=Aside0.mk ((by rw[hg];exact Nat.ne_of_lt (IsS92.lt (show IsS92 w0 _ g s0_0 s0_1 s0_2 from IsS92.ch HI0.out)):g≠gb343));have NB343_0:=Aside0.mk ((by rw[hg];exact Nat.ne_of_gt (IsS92.lt (show IsS92 w0 _ g s0_0 s0_1 s0_2 from IsS92.ch HI0.out)):gb343≠g));replace HI0:=Aside0.mk (IsS92.below (IsS92.ch HI0.out) hb);clear hb hbox hg)|((with_reducible refine gate_dst (N:=9) rfl ?_);refine Kd.R_lit (Kd.int .i64) _ 2 ?hg (N:=9) ?hd (xs:=([]:List Int)) (inner:= []) (ok:=fun _=>True) (okp:=fun _=>True) ?hr ?hp (fun _ hk=>hk) trivial (Below.refl _ _) (Nat.le_refl _) (by simp) ?_;(case hd=>rfl);(case hg=>rfl);(case hr=>first|(go_simp;done)|(go_simp;rfl));(case hp=>exact(Reps.none _ _));intro v345 w7 ho8 hb hg_ hnew_;clear hg_ hnew_;(first|rw[← Ny344.out] at ho8|(simp only [Int.reduceToNat] at ho8;rw[← Ny344.out] at ho8));have HO346:=Aside0.mk (Kd.R_lower ho8 (keep_size (w:=w) (g:=g) (row:=none) (kp HK.out)));replace BK343:=bkA BK343 hb;replace HK:=Aside0.mk (KeepBut.trans (kp HK.out) (KeepBut.of_below hb g none) (.inl rfl));replace HB:=Aside0.mk (below_step (blg HB.out (IsS92.ge HI0.out)) hb);replace HI0:=Aside0.mk (IsS92.below (IsS92.ch HI0.out) hb);clear hb ho8)|((with_reducible refine gate_dst (N:=11) rfl ?_);refine Kd.R_lit (Kd.int .i64) _ 2 ?hg (N:=11) ?hd (xs:=([2,3,3,4]:List Int)) (inner:= [.int .i64 2,.int .i64 3,.int .i64 3,.int .i64 4]) (ok:=fun _=>True) (okp:=fun _=>True) ?hr ?hp (fun _ hk=>hk) trivial (Below.refl _ _) (Nat.le_refl _) (by simp) ?_;(case hd=>rfl);(case hg=>rfl);(case hr=>first|(go_simp;done)|(go_simp;rfl));(case hp=>exact(Reps.one (show Kd.M (Kd.int .i64) _ _ _ 2 [.int .i64 2] from rfl) (Reps.one (show Kd.M (Kd.int .i64) _ _ _ 3 [.int .i64 3] from rfl) (Reps.one (show Kd.M (Kd.int .i64) _ _ _ 3 [.int .i64 3] from rfl) (Reps.one (show Kd.M (Kd.int .i64) _ _ _ 4 [.int .i64 4] from rfl) (Reps.none _ _))))));intro v348 w9 ho10 hb hg_ hnew_;clear hg_ hnew_;(first|rw[← Ny347.out] at ho10|(simp only [Int.reduceToNat] at ho10;rw[← Ny347.out] at ho10));have HO349:=Aside0.mk (Kd.R_lower (Kd.R_new' ho10 (Kd.R_lt (kr HO346.out))) (keep_size (w:=w) (g:=g) (row:=none) (kp HK.out)));replace HO346:=Aside0.mk (Kd.R_elder' (kr HO346.out) (Kd.R_base ho10) hb);replace BK343:=bkA BK343 hb;replace HK:=Aside0.mk (KeepBut.trans (kp HK.out) (KeepBut.of_below hb g none) (.inl rfl));replace HB:=Aside0.mk (below_step (blg HB.out (IsS92.ge HI0.out)) hb);replace HI0:=Aside0.mk (IsS92.below (IsS92.ch HI0.out) hb);clear hb ho10;obtain ⟨Ao11,co11,eo11⟩:=Kd.R_slice HO349.out;subst eo11)|((with_reducible refine gate_callee (f:=81) rfl ?_);refine gl (some 12) Tryz.func81 #[.pointer (some ⟨g,0,none⟩),.slice Ao11 y347.length co11] ?_;(with_reducible refine(spec_l01Pick.calls g s0_0 s0_1 s0_2 _ _ y347 t350 t351 t352 w0 _ (IsS92.ch HI0.out) (blg HB.out (IsS92.ge HI0.out)) (cb (Kd.R_reads' HO349.out).2.2) ((Kd.R_reads' HO349.out).2.1) (far_slice (IsS92.own_ne HI0.out HO349.out (by decide))) A3.out).mono ?_);rintro e w12 ⟨rfl,hi,hb,hk⟩;refine⟨_,rfl,?_⟩;replace BK343:=Aside0.mk (kbk hk (bk BK343.out) NB343_0.out);replace HO346:=Aside0.mk (Kd.R_mono (Kd.R_keep (IsS92.apart (show IsS92 w0 _ g s0_0 s0_1 s0_2 from IsS92.ch HI0.out) (kr HO346.out) (by decide)) hk (fun _ h=>h.2)) (fun _ h=>h.1));replace HO349:=Aside0.mk (Kd.R_mono (Kd.R_keep (IsS92.apart (show IsS92 w0 _ g s0_0 s0_1 s0_2 from IsS92.ch HI0.out) (kr HO349.out) (by decide)) hk (fun _ h=>h.2)) (fun _ h=>h.1));replace HK:=Aside0.mk (KeepBut.trans (kp HK.out) hk (.inl rfl));replace HB:=Aside0.mk (hb);replace HI0:=Aside0.mk (hi);(try clear hb);(try clear hb2);(try clear hk);(try clear hi))|((with_reducible refine gate_dst (N:=15) rfl ?_);refine Kd.R_lit (Kd.int .i64) _ 2 ?hg (N:=15) ?hd (xs:=([3,7,12]:List Int)) (inner:= [.int .i64 3,.int .i64 7,.int .i64 12]) (ok:=fun _=>True) (okp:=fun _=>True) ?hr ?hp (fun _ hk=>hk) trivial (Below.refl _ _) (Nat.le_refl _) (by simp) ?_;(case hd=>rfl);(case hg=>rfl);(case hr=>first|(go_simp;done)|(go_simp;rfl));(case hp=>exact(Reps.one (show Kd.M (Kd.int .i64) _ _ _ 3 [.int .i64 3] from rfl) (Reps.one (show Kd.M (Kd.int .i64) _ _ _ 7 [.int .i64 7] from rfl) (Reps.one (show Kd.M (Kd.int .i64) _ _ _ 12 [.int .i64 12] from rfl) (Reps.none _ _)))));intro v354 w13 ho14 hb hg_ hnew_;clear hg_ hnew_;(first|rw[← Ny353.out] at ho14|(simp only [Int.reduceToNat] at ho14;rw[← Ny353.out] at ho14));have HO355:=Aside0.mk (Kd.R_lower (Kd.R_new' (Kd.R_new' ho14 (Kd.R_lt (kr HO346.out))) (Kd.R_lt (kr HO349.out))) (keep_size (w:=w) (g:=g) (row:=none) (kp HK.out)));replace HO346:=Aside0.mk (Kd.R_elder' (kr HO346.out) (Kd.R_base ho14) hb);replace HO349:=Aside0.mk (Kd.R_elder' (kr HO349.out) (Kd.R_base ho14) hb);replace BK343:=bkA BK343 hb;replace HK:=Aside0.mk (KeepBut.trans (kp HK.out) (KeepBut.of_below hb g none) (.inl rfl));replace HB:=Aside0.mk (below_step (blg HB.out (IsS92.ge HI0.out)) hb);replace HI0:=Aside0.mk (IsS92.below (IsS92.ch HI0.out) hb);clear hb ho14;obtain ⟨Ao15,co15,eo15⟩:=Kd.R_slice HO355.out;subst eo15)|((with_reducible refine gate_callee (f:=81) rfl ?_);refine gl (some 16) Tryz.func81 #[.pointer (some ⟨g,0,none⟩),.slice Ao15 y353.length co15] ?_;(with_reducible refine(spec_l01Pick.calls g s0_0 t351 t352 _ _ y353 t356 t357 t358 w0 _ (IsS92.ch HI0.out) (blg HB.out (IsS92.ge HI0.out)) (cb (Kd.R_reads' HO355.out).2.2) ((Kd.R_reads' HO355.out).2.1) (far_slice (IsS92.own_ne HI0.out HO355.out (by decide))) A4.out).mono ?_);rintro e w16 ⟨rfl,hi,hb,hk⟩;refine⟨_,rfl,?_⟩;replace BK343:=Aside0.mk (kbk hk (bk BK343.out) NB343_0.out);replace HO346:=Aside0.mk (Kd.R_mono (Kd.R_keep (IsS92.apart (show IsS92 w0 _ g s0_0 t351 t352 from IsS92.ch HI0.out) (kr HO346.out) (by decide)) hk (fun _ h=>h.2)) (fun _ h=>h.1));replace HO349:=Aside0.mk (Kd.R_mono (Kd.R_keep (IsS92.apart (show IsS92 w0 _ g s0_0 t351 t352 from IsS92.ch HI0.out) (kr HO349.out) (by decide)) hk (fun _ h=>h.2)) (fun _ h=>h.1));replace HO355:=Aside0.mk (Kd.R_mono (Kd.R_keep (IsS92.apart (show IsS92 w0 _ g s0_0 t351 t352 from IsS92.ch HI0.out) (kr HO355.out) (by decide)) hk (fun _ h=>h.2)) (fun _ h=>h.1));replace HK:=Aside0.mk (KeepBut.trans (kp HK.out) hk (.inl rfl));replace HB:=Aside0.mk (hb);replace HI0:=Aside0.mk (hi);(try clear hb);(try clear hb2);(try clear hk);(try clear hi))|((with_reducible refine gate_callee (f:=67) rfl ?_);refine gl (some 17) Tryz.func67 #[.pointer (some ⟨g,0,none⟩),.int .i64 t356] ?_;(with_reducible refine(spec_l01Next.calls g s0_0 t357 t358 t356 t359 t360 t361 w0 _ (IsS92.ch HI0.out) (blg HB.out (IsS92.ge HI0.out)) A5.out).mono ?_);rintro e w17 ⟨rfl,hi,hb,hk⟩;refine⟨_,rfl,?_⟩;replace BK343:=Aside0.mk (kbk hk (bk BK343.out) NB343_0.out);replace HO346:=Aside0.mk (Kd.R_mono (Kd.R_keep (IsS92.apart (show IsS92 w0 _ g s0_0 t357 t358 from IsS92.ch HI0.out) (kr HO346.out) (by decide)) hk (fun _ h=>h.2)) (fun _ h=>h.1));replace HO349:=Aside0.mk (Kd.R_mono (Kd.R_keep (IsS92.apart (show IsS92 w0 _ g s0_0 t357 t358 from IsS92.ch HI0.out) (kr HO349.out) (by decide)) hk (fun _ h=>h.2)) (fun _ h=>h.1));replace HO355:=Aside0.mk (Kd.R_mono (Kd.R_keep (IsS92.apart (show IsS92 w0 _ g s0_0 t357 t358 from IsS92.ch HI0.out) (kr HO355.out) (by decide)) hk (fun _ h=>h.2)) (fun _ h=>h.1));replace HK:=Aside0.mk (KeepBut.trans (kp HK.out) hk (.inl rfl));replace HB:=Aside0.mk (hb);replace HI0:=Aside0.mk (hi);(try clear hb);(try clear hb2);(try clear hk);(try clear hi)))
 go_loopg [5,7] k (fun kq v5 v7 w'=>∃(x5_1:List Int) (x7_1:Int) (x1001_1:Int) (x1002_1:Int),v7 = .int .i64 x7_1∧Aside0 (spec_l01DrawOf.l0 kq a1 x5_1 t350 x7_1 s0_0 x1001_1 x1002_1=some (r1,r2,r3,r4))∧Aside0 (kq≤k)∧Aside0 (Kd.R (Kd.int .i64) 2 w' w.heap.size (fun _=>True) v5 x5_1)∧Aside0 (w'.heap[gb343]?=some (.cells #[.int .i64 0,(.slice none 0 0)] 26 (0,0)))∧Aside0 (IsS92 w0 w' g s0_0 x1001_1 x1002_1)∧Aside0 (KeepBut w w' g none)∧Aside0 (Below w0.heap.size w0 w'))
 case atStart=>exact⟨(y344),(t359),(t360),(t361),rs,H',⟨Nat.le_refl _⟩,⟨by(with_reducible repeat(first|apply Kd.R_alloc|apply Kd.R_drewN|apply Kd.R_drew));exact Kd.R_mono HO346.out (fun _ hk=>trivial)⟩,⟨bk BK343.out⟩,⟨IsS92.ch HI0.out⟩,⟨kp HK.out⟩,⟨blg HB.out (IsS92.ge HI0.out)⟩⟩
 case round=>
  clear H';try clear p2
  try clear c6
  try clear c7
  try clear c8
  obtain ⟨x5_1,x7_1,x1001_1,x1002_1,rfl,HA,HK1,HO_5,BK343,HI0,HK,HB⟩:=hrel;cases gk with
  |zero=>exact absurd HA.out (by simp [spec_l01DrawOf.l0])
  |succ k1=>
   have H:=HA.out;clear HA;simp only [spec_l01DrawOf.l0] at H;by_cases c18:x7_1>0
   ·rw[if_pos c18] at H;have c18b0:decide (0<x7_1)=true:=decide_eq_true c18;clear c18;replace H:=Option.bind_eq_some_iff.mp H;obtain ⟨t366,A190,H⟩:=H;replace H:((spec_l01Next.f s0_0 x1001_1 x1002_1 t366).bind fun bt367=>(spec_l01DrawOf.l1 k1 a1 x5_1 t350 x7_1 (wrap64 (1+bt367.1)) s0_0 bt367.2.1 bt367.2.2))=some (r1,r2,r3,r4):=H;have A19:=Aside0.mk A190;clear A190;replace H:=Option.bind_eq_some_iff.mp H;obtain ⟨⟨t367,t368,t369⟩,A200,H⟩:=H;replace H:(spec_l01DrawOf.l1 k1 a1 x5_1 t350 x7_1 (wrap64 (1+t367)) s0_0 t368 t369)=some (r1,r2,r3,r4):=H;have A20:=Aside0.mk A200;clear A200;have H':=Aside0.mk H;clear H;go_wp2_with (first|((with_reducible refine gate_callee (f:=91) rfl ?_);refine gl (some 24) Tryz.func91 #[.int .i64 a1] ?_;(with_reducible refine(spec_l01All.calls a1 t366 _ A19.out).mono ?_);rintro e w' ⟨rfl,⟨nd,rfl⟩⟩;refine⟨_,rfl,?_⟩)|((with_reducible refine gate_callee (f:=67) rfl ?_);refine gl (some 25) Tryz.func67 #[.pointer (some ⟨g,0,none⟩),.int .i64 t366] ?_;(with_reducible refine(spec_l01Next.calls g s0_0 x1001_1 x1002_1 t366 t367 t368 t369 w0 _ (IsS92.ch HI0.out) (blg HB.out (IsS92.ge HI0.out)) A20.out).mono ?_);rintro e w21 ⟨rfl,hi,hb,hk⟩;refine⟨_,rfl,?_⟩;replace HO_5:=Aside0.mk (Kd.R_mono (Kd.R_keep (IsS92.apart (show IsS92 w0 _ g s0_0 x1001_1 x1002_1 from IsS92.ch HI0.out) (kr HO_5.out) (by decide)) hk (fun _ h=>h.2)) (fun _ h=>h.1));replace BK343:=Aside0.mk (kbk hk (bk BK343.out) NB343_0.out);replace HK:=Aside0.mk (KeepBut.trans (kp HK.out) hk (.inl rfl));replace HB:=Aside0.mk (hb);replace HI0:=Aside0.mk (hi);(try clear hb);(try clear hb2);(try clear hk);(try clear hi)))
    go_loopg [8] k1 (fun kq v8 w'=>∃(x8_2:Int),v8 = .int .i64 x8_2∧Aside0 (spec_l01DrawOf.l1 kq a1 x5_1 t350 x7_1 x8_2 s0_0 t368 t369=some (r1,r2,r3,r4))∧Aside0 (kq≤k1)∧Aside0 (Kd.R (Kd.int .i64) 2 w' w.heap.size (fun _=>True) u5 x5_1)∧Aside0 (w'.heap[gb343]?=some (.cells #[.int .i64 0,(.slice none 0 0)] 26 (0,0)))∧Aside0 (IsS92 w0 w' g s0_0 t368 t369)∧Aside0 (KeepBut w w' g none)∧Aside0 (Below w0.heap.size w0 w'))
    case atStart=>exact⟨(wrap64 (1+t367)),rs,H',⟨Nat.le_refl _⟩,⟨kr HO_5.out⟩,⟨bk BK343.out⟩,⟨IsS92.ch HI0.out⟩,⟨kp HK.out⟩,⟨blg HB.out (IsS92.ge HI0.out)⟩⟩
    case round=>
     clear H';try clear c1
     try clear p2
     try clear c6
     try clear p6
     try clear c7
     try clear c8
     try clear c9
     try clear c18
     try clear c18b0
     try clear p2
     obtain ⟨x8_2,rfl,HA,HK2,HO_5,BK343,HI0,HK,HB⟩:=hrel;cases gk with
     |zero=>exact absurd HA.out (by simp [spec_l01DrawOf.l1])
     |succ k2=>
      have H:=HA.out;clear HA;simp only [spec_l01DrawOf.l1] at H;replace H:=Option.bind_eq_some_iff.mp H;obtain ⟨t370,A220,H⟩:=H;replace H:(if t370>t350 then (spec_l01DrawOf.l1 k2 a1 x5_1 t350 x7_1 (Go.bits .and .i64 x8_2 (wrap64 (x8_2 - 1))) s0_0 t368 t369) else (if x5_1.length<17592186044416 then (spec_l01DrawOf.l0 k2 a1 (x5_1 ++ [x8_2]) t350 (wrap64 (x7_1 - 1)) s0_0 t368 t369) else (none)))=some (r1,r2,r3,r4):=H;have A22:=Aside0.mk A220;clear A220;by_cases c23:t370>t350
      ·rw[if_pos c23] at H;have c23b0:decide (t350<t370)=true:=decide_eq_true c23;clear c23;have H':=Aside0.mk H;clear H;go_wp2_with (first|((with_reducible refine gate_callee (f:=100) rfl ?_);refine gl (some 28) Tryz.func100 #[.int .i64 x8_2] ?_;(with_reducible refine(spec_l01Ones.calls k2 x8_2 t370 _ A22.out).mono ?_);rintro e w' ⟨rfl,⟨nd,rfl⟩⟩;refine⟨_,rfl,?_⟩))
       go_roundg k2
       case measure=>have:=HK1.out;have:=HK2.out;omega
       case rel=>exact⟨(Go.bits .and .i64 x8_2 (wrap64 (x8_2 - 1))),rs,H',⟨by have:=HK1.out;have:=HK2.out;omega⟩,⟨kr HO_5.out⟩,⟨bk BK343.out⟩,⟨IsS92.ch HI0.out⟩,⟨kp HK.out⟩,⟨blg HB.out (IsS92.ge HI0.out)⟩⟩
      ·rw[if_neg c23] at H;have c23b0:decide (t350<t370)=false:=decide_eq_false c23;clear c23;by_cases c24:x5_1.length<17592186044416
       ·rw[if_pos c24] at H;have LMc24:=Aside0.mk c24;clear c24;obtain ⟨y371,hy371⟩:∃ y_:List Int,y_=(x5_1 ++ [x8_2]):=⟨_,rfl⟩
        replace H:(spec_l01DrawOf.l0 k2 a1 y371 t350 (wrap64 (x7_1 - 1)) s0_0 t368 t369)=some (r1,r2,r3,r4):=by first|(rw[hy371];with_reducible exact H)|(have H2_:=(Option.bind_some _ _).symm.trans H;rw[hy371];with_reducible exact H2_)|(have H2_:=(Option.bind_some _ _).symm.trans H;with_reducible exact H2_)|with_reducible exact H|(rw[hy371];exact H)|exact H
        have Ny371:=Aside0.mk hy371;clear hy371;have H':=Aside0.mk H;clear H;go_wp2_with (first|((with_reducible refine gate_callee (f:=100) rfl ?_);refine gl (some 28) Tryz.func100 #[.int .i64 x8_2] ?_;(with_reducible refine(spec_l01Ones.calls k2 x8_2 t370 _ A22.out).mono ?_);rintro e w' ⟨rfl,⟨nd,rfl⟩⟩;refine⟨_,rfl,?_⟩)|((with_reducible refine gate_builtin (b:= .append) (xs:=#[.tmp 35,.tmp 37]) rfl ?_);at_builtin;refine Kd.R_append (Kd.int .i64) w.heap.size rfl (.tmp 35) (.tmp 37) 24 2 (.int .i64 0) 8 rfl Tryz.underlying24 info2 rfl (by decide) (by omega) u5 x5_1 x8_2 [.int .i64 x8_2] (fun _=>True) (fun _=>False) rfl rfl ?aP (fun _ hk=>hk.elim) ?aF ?aO (Below.refl _ _) ?aS ?aL ?_;(case aP=>exact rfl);(case aF=>exact(fun _ _=>trivial));(case aO=>exact(kr HO_5.out));(case aS=>exact(keep_size (w:=w) (g:=g) (row:=none) (kp HK.out)));(case aL=>have:=LMc24.out;omega);intro v372 w25 ho hb hg hat;rw[← Ny371.out] at ho;have n0_:=Aside0.mk (blk_grown (bk BK343.out) hg (Kd.R_ne HO_5.out BK343.out (by decide)));have n1_:=Aside0.mk (IsS92.grown (IsS92.ch HI0.out) hg (IsS92.own_ne HI0.out HO_5.out (by decide)));have n2_:=Aside0.mk (below_weaken (blg HB.out (IsS92.ge HI0.out)) HL.out hb);have n3_:=Aside0.mk (KeepBut.trans (kp HK.out) (KeepBut.of_grown hg g) (Kd.R_base2 HO_5.out));have n4_:=Aside0.mk (ho);clear BK343;clear HI0;clear HB;clear HK;clear HO_5;have BK343:=n0_;have HI0:=n1_;have HB:=n2_;have HK:=n3_;have HO373:=n4_;clear n0_ n1_ n2_ n3_ n4_;clear ho hb hg hat))
        go_roundg k2
        case measure=>have:=HK1.out;have:=HK2.out;omega
        case rel=>exact⟨(y371),(wrap64 (x7_1 - 1)),(t368),(t369),rs,H',⟨by have:=HK1.out;have:=HK2.out;omega⟩,⟨kr HO373.out⟩,⟨bk BK343.out⟩,⟨IsS92.ch HI0.out⟩,⟨kp HK.out⟩,⟨blg HB.out (IsS92.ge HI0.out)⟩⟩
       ·rw[if_neg c24] at H;exact absurd H (by simp)
   ·rw[if_neg c18] at H;have c18b0:decide (0<x7_1)=false:=decide_eq_false c18;clear c18;replace H:=Option.bind_eq_some_iff.mp H;obtain ⟨⟨t362,t363⟩,A260,H⟩:=H;replace H:(some (t362,t363,x1001_1,x1002_1))=some (r1,r2,r3,r4):=H;have A26:=Aside0.mk A260;clear A260;simp only [Option.some.injEq,Prod.mk.injEq] at H;obtain ⟨rfl,rfl,rfl,rfl⟩:=H;obtain ⟨Ao27,co27,eo27⟩:=Kd.R_slice HO_5.out;subst eo27;go_wp2_with (first|((with_reducible refine gate_callee (f:=124) rfl ?_);refine gl (some 41) Tryz.func124 #[.int .i64 a1,.slice Ao27 x5_1.length co27] ?_;(with_reducible refine(spec_l01Made.calls k1 a1 _ _ x5_1 t362 t363 _ (cb (Kd.R_reads' HO_5.out).2.2) ((Kd.R_reads' HO_5.out).2.1) A26.out).mono ?_);rintro e w28 ⟨v364,rfl,ho0,hb⟩;refine⟨_,rfl,?_⟩;have HO365:=Aside0.mk (Kd.R_lower (Kd.R_new' ho0 (Kd.R_lt (kr HO_5.out))) (keep_size (w:=w) (g:=g) (row:=none) (kp HK.out)));replace HO_5:=Aside0.mk (Kd.R_elder' (kr HO_5.out) (Kd.R_base ho0) hb);replace BK343:=bkA BK343 hb;replace HK:=Aside0.mk (KeepBut.trans (kp HK.out) (KeepBut.of_below hb g none) (.inl rfl));replace HB:=Aside0.mk (below_step (blg HB.out (IsS92.ge HI0.out)) hb);replace HI0:=Aside0.mk (IsS92.below (IsS92.ch HI0.out) hb);(try clear hb);(try clear hb2);(try clear hk);(try clear hi);(try clear ho0);have hnb29:=NB343_0.out;have hnc29:=NB0_343.out;have hcz30_0:=z0_ BK343;have hcz30_1:=z1_ BK343;have hfz30_0:=hf_ BK343 0;have hfz30_1:=hf_ BK343 1;obtain ⟨Ao31,co31,eo31⟩:=Kd.R_slice HO365.out;subst eo31))
    refine bodyPost_ret (results_cell_row rfl _ _ gb343 26 #[.int .i64 t362,.slice Ao31 t363.length co31] (0,0) _ rfl (bp BK343.out) Tryz.underlying26 rfl (by kernel_rfl)) rfl ?_;exact⟨_,rr,by(with_reducible repeat(first|apply Kd.R_alloc|apply Kd.R_drewN|apply Kd.R_drew));exact Kd.R_mono (Kd.R_far (p:=⟨gb343,1,none⟩) (Kd.R_far (p:=⟨gb343,0,none⟩) (Kd.R_types HO365.out BK343.out (by decide)) (fun _ hk=>hk.2) (.int .i64 t362)) (fun _ hk=>hk.2) (.slice Ao31 t363.length co31)) (fun _ hk=>trivial),IsS92.ch HI0.out,blg HB.out (IsS92.ge HI0.out),kp HK.out⟩
def spec_l01Names.f  : Option (List ByteArray):=some (([(⟨#[112,111,105,110,116]⟩:ByteArray),(⟨#[99,105,114,99,108,101]⟩:ByteArray),(⟨#[115,113,117,97,114,101]⟩:ByteArray),(⟨#[115,112,104,101,114,101]⟩:ByteArray),(⟨#[98,97,108,108]⟩:ByteArray),(⟨#[98,105,112,121,114,97,109,105,100]⟩:ByteArray),(⟨#[111,99,116,97,104,101,100,114,111,110]⟩:ByteArray),(⟨#[109,111,101,98,105,117,115]⟩:ByteArray),(⟨#[112,114,111,106,101,99,116,105,118,101]⟩:ByteArray),(⟨#[119,101,100,103,101]⟩:ByteArray),(⟨#[116,114,101,101]⟩:ByteArray)]:List ByteArray))
set_option maxHeartbeats 8000000 in
set_option maxRecDepth 100000 in
theorem spec_l01Names.calls  (r:List ByteArray) (w:World) (h:spec_l01Names.f  = some r) :
  Calls Tryz.prog 126 #[] w fun e w'=>∃ v0_:Value,e = .returned (v0_)∧Kd.R Kd.string 9 w' w.heap.size (fun _=>True) v0_ r∧Below w.heap.size w w':=by
 have HB:=Aside0.mk (Below.refl w.heap.size w);have H:(some (([(⟨#[112,111,105,110,116]⟩:ByteArray),(⟨#[99,105,114,99,108,101]⟩:ByteArray),(⟨#[115,113,117,97,114,101]⟩:ByteArray),(⟨#[115,112,104,101,114,101]⟩:ByteArray),(⟨#[98,97,108,108]⟩:ByteArray),(⟨#[98,105,112,121,114,97,109,105,100]⟩:ByteArray),(⟨#[111,99,116,97,104,101,100,114,111,110]⟩:ByteArray),(⟨#[109,111,101,98,105,117,115]⟩:ByteArray),(⟨#[112,114,111,106,101,99,116,105,118,101]⟩:ByteArray),(⟨#[119,101,100,103,101]⟩:ByteArray),(⟨#[116,114,101,101]⟩:ByteArray)]:List ByteArray)))=some r:=h;clear h;obtain ⟨y400,hy400⟩:∃ y_:List ByteArray,y_=(([(⟨#[112,111,105,110,116]⟩:ByteArray),(⟨#[99,105,114,99,108,101]⟩:ByteArray),(⟨#[115,113,117,97,114,101]⟩:ByteArray),(⟨#[115,112,104,101,114,101]⟩:ByteArray),(⟨#[98,97,108,108]⟩:ByteArray),(⟨#[98,105,112,121,114,97,109,105,100]⟩:ByteArray),(⟨#[111,99,116,97,104,101,100,114,111,110]⟩:ByteArray),(⟨#[109,111,101,98,105,117,115]⟩:ByteArray),(⟨#[112,114,111,106,101,99,116,105,118,101]⟩:ByteArray),(⟨#[119,101,100,103,101]⟩:ByteArray),(⟨#[116,114,101,101]⟩:ByteArray)]:List ByteArray)):=⟨_,rfl⟩
 replace H:(some y400)=some r:=by first|(rw[hy400];with_reducible exact H)|(have H2_:=(Option.bind_some _ _).symm.trans H;rw[hy400];with_reducible exact H2_)|(have H2_:=(Option.bind_some _ _).symm.trans H;with_reducible exact H2_)|with_reducible exact H|(rw[hy400];exact H)|exact H
 have Ny400:=Aside0.mk hy400;clear hy400;obtain rfl:=Option.some.inj H;go_enter Tryz.func126,Tryz.ntmps126;go_wp2_with (first|((with_reducible refine gate_dst (N:=1) rfl ?_);refine Kd.R_lit Kd.string _ 9 ?hg (N:=1) ?hd (xs:=([(⟨#[112,111,105,110,116]⟩:ByteArray),(⟨#[99,105,114,99,108,101]⟩:ByteArray),(⟨#[115,113,117,97,114,101]⟩:ByteArray),(⟨#[115,112,104,101,114,101]⟩:ByteArray),(⟨#[98,97,108,108]⟩:ByteArray),(⟨#[98,105,112,121,114,97,109,105,100]⟩:ByteArray),(⟨#[111,99,116,97,104,101,100,114,111,110]⟩:ByteArray),(⟨#[109,111,101,98,105,117,115]⟩:ByteArray),(⟨#[112,114,111,106,101,99,116,105,118,101]⟩:ByteArray),(⟨#[119,101,100,103,101]⟩:ByteArray),(⟨#[116,114,101,101]⟩:ByteArray)]:List ByteArray)) (inner:= [.string (⟨#[112,111,105,110,116]⟩:ByteArray),.string (⟨#[99,105,114,99,108,101]⟩:ByteArray),.string (⟨#[115,113,117,97,114,101]⟩:ByteArray),.string (⟨#[115,112,104,101,114,101]⟩:ByteArray),.string (⟨#[98,97,108,108]⟩:ByteArray),.string (⟨#[98,105,112,121,114,97,109,105,100]⟩:ByteArray),.string (⟨#[111,99,116,97,104,101,100,114,111,110]⟩:ByteArray),.string (⟨#[109,111,101,98,105,117,115]⟩:ByteArray),.string (⟨#[112,114,111,106,101,99,116,105,118,101]⟩:ByteArray),.string (⟨#[119,101,100,103,101]⟩:ByteArray),.string (⟨#[116,114,101,101]⟩:ByteArray)]) (ok:=fun _=>True) (okp:=fun _=>True) ?hr ?hp (fun _ hk=>hk) trivial (Below.refl _ _) (Nat.le_refl _) (by simp) ?_;(case hd=>rfl);(case hg=>rfl);(case hr=>first|(go_simp;done)|(go_simp;rfl));(case hp=>exact(Reps.one (show Kd.M Kd.string _ _ _ (⟨#[112,111,105,110,116]⟩:ByteArray) [.string (⟨#[112,111,105,110,116]⟩:ByteArray)] from rfl) (Reps.one (show Kd.M Kd.string _ _ _ (⟨#[99,105,114,99,108,101]⟩:ByteArray) [.string (⟨#[99,105,114,99,108,101]⟩:ByteArray)] from rfl) (Reps.one (show Kd.M Kd.string _ _ _ (⟨#[115,113,117,97,114,101]⟩:ByteArray) [.string (⟨#[115,113,117,97,114,101]⟩:ByteArray)] from rfl) (Reps.one (show Kd.M Kd.string _ _ _ (⟨#[115,112,104,101,114,101]⟩:ByteArray) [.string (⟨#[115,112,104,101,114,101]⟩:ByteArray)] from rfl) (Reps.one (show Kd.M Kd.string _ _ _ (⟨#[98,97,108,108]⟩:ByteArray) [.string (⟨#[98,97,108,108]⟩:ByteArray)] from rfl) (Reps.one (show Kd.M Kd.string _ _ _ (⟨#[98,105,112,121,114,97,109,105,100]⟩:ByteArray) [.string (⟨#[98,105,112,121,114,97,109,105,100]⟩:ByteArray)] from rfl) (Reps.one (show Kd.M Kd.string _ _ _ (⟨#[111,99,116,97,104,101,100,114,111,110]⟩:ByteArray) [.string (⟨#[111,99,116,97,104,101,100,114,111,110]⟩:ByteArray)] from rfl) (Reps.one (show Kd.M Kd.string _ _ _ (⟨#[109,111,101,98,105,117,115]⟩:ByteArray) [.string (⟨#[109,111,101,98,105,117,115]⟩:ByteArray)] from rfl) (Reps.one (show Kd.M Kd.string _ _ _ (⟨#[112,114,111,106,101,99,116,105,118,101]⟩:ByteArray) [.string (⟨#[112,114,111,106,101,99,116,105,118,101]⟩:ByteArray)] from rfl) (Reps.one (show Kd.M Kd.string _ _ _ (⟨#[119,101,100,103,101]⟩:ByteArray) [.string (⟨#[119,101,100,103,101]⟩:ByteArray)] from rfl) (Reps.one (show Kd.M Kd.string _ _ _ (⟨#[116,114,101,101]⟩:ByteArray) [.string (⟨#[116,114,101,101]⟩:ByteArray)] from rfl) (Reps.none _ _)))))))))))));intro v401 w1 ho2 hb hg_ hnew_;clear hg_ hnew_;(first|rw[← Ny400.out] at ho2|(simp only [Int.reduceToNat] at ho2;rw[← Ny400.out] at ho2));have HO402:=klA ho2 HB;replace HB:=bsA HB hb;clear hb ho2))
 go_ret;exact⟨_,rr,by(with_reducible repeat(first|apply Kd.R_alloc|apply Kd.R_drewN|apply Kd.R_drew));exact HO402.out,bl HB.out⟩
def spec_l01Known.f  : Option (List ByteArray):=some (([(⟨#[49,58,48]⟩:ByteArray),(⟨#[51,58,48,49,44,48,50,44,49,50]⟩:ByteArray),(⟨#[52,58,48,49,44,49,50,44,50,51,44,48,51]⟩:ByteArray),(⟨#[52,58,48,49,50,44,48,49,51,44,48,50,51,44,49,50,51]⟩:ByteArray),(⟨#[52,58,48,49,50,51]⟩:ByteArray),(⟨#[53,58,48,49,51,44,48,49,52,44,48,50,51,44,48,50,52,44,49,50,51,44,49,50,52]⟩:ByteArray),(⟨#[54,58,48,50,52,44,48,50,53,44,48,51,52,44,48,51,53,44,49,50,52,44,49,50,53,44,49,51,52,44,49,51,53]⟩:ByteArray),(⟨#[53,58,48,49,50,44,49,50,51,44,50,51,52,44,48,51,52,44,48,49,52]⟩:ByteArray),(⟨#[54,58,48,49,50,44,48,50,51,44,48,51,52,44,48,52,53,44,48,49,53,44,49,50,52,44,50,51,53,44,49,51,52,44,50,52,53,44,49,51,53]⟩:ByteArray),(⟨#[53,58,48,49,44,48,50,44,49,50,44,48,51,44,48,52,44,51,52]⟩:ByteArray),(⟨#[54,58,48,49,44,49,50,44,49,51,44,51,52,44,51,53]⟩:ByteArray)]:List ByteArray))
set_option maxHeartbeats 8000000 in
set_option maxRecDepth 100000 in
theorem spec_l01Known.calls  (r:List ByteArray) (w:World) (h:spec_l01Known.f  = some r) :
  Calls Tryz.prog 149 #[] w fun e w'=>∃ v0_:Value,e = .returned (v0_)∧Kd.R Kd.string 9 w' w.heap.size (fun _=>True) v0_ r∧Below w.heap.size w w':=by
 have HB:=Aside0.mk (Below.refl w.heap.size w);have H:(some (([(⟨#[49,58,48]⟩:ByteArray),(⟨#[51,58,48,49,44,48,50,44,49,50]⟩:ByteArray),(⟨#[52,58,48,49,44,49,50,44,50,51,44,48,51]⟩:ByteArray),(⟨#[52,58,48,49,50,44,48,49,51,44,48,50,51,44,49,50,51]⟩:ByteArray),(⟨#[52,58,48,49,50,51]⟩:ByteArray),(⟨#[53,58,48,49,51,44,48,49,52,44,48,50,51,44,48,50,52,44,49,50,51,44,49,50,52]⟩:ByteArray),(⟨#[54,58,48,50,52,44,48,50,53,44,48,51,52,44,48,51,53,44,49,50,52,44,49,50,53,44,49,51,52,44,49,51,53]⟩:ByteArray),(⟨#[53,58,48,49,50,44,49,50,51,44,50,51,52,44,48,51,52,44,48,49,52]⟩:ByteArray),(⟨#[54,58,48,49,50,44,48,50,51,44,48,51,52,44,48,52,53,44,48,49,53,44,49,50,52,44,50,51,53,44,49,51,52,44,50,52,53,44,49,51,53]⟩:ByteArray),(⟨#[53,58,48,49,44,48,50,44,49,50,44,48,51,44,48,52,44,51,52]⟩:ByteArray),(⟨#[54,58,48,49,44,49,50,44,49,51,44,51,52,44,51,53]⟩:ByteArray)]:List ByteArray)))=some r:=h;clear h;obtain ⟨y403,hy403⟩:∃ y_:List ByteArray,y_=(([(⟨#[49,58,48]⟩:ByteArray),(⟨#[51,58,48,49,44,48,50,44,49,50]⟩:ByteArray),(⟨#[52,58,48,49,44,49,50,44,50,51,44,48,51]⟩:ByteArray),(⟨#[52,58,48,49,50,44,48,49,51,44,48,50,51,44,49,50,51]⟩:ByteArray),(⟨#[52,58,48,49,50,51]⟩:ByteArray),(⟨#[53,58,48,49,51,44,48,49,52,44,48,50,51,44,48,50,52,44,49,50,51,44,49,50,52]⟩:ByteArray),(⟨#[54,58,48,50,52,44,48,50,53,44,48,51,52,44,48,51,53,44,49,50,52,44,49,50,53,44,49,51,52,44,49,51,53]⟩:ByteArray),(⟨#[53,58,48,49,50,44,49,50,51,44,50,51,52,44,48,51,52,44,48,49,52]⟩:ByteArray),(⟨#[54,58,48,49,50,44,48,50,51,44,48,51,52,44,48,52,53,44,48,49,53,44,49,50,52,44,50,51,53,44,49,51,52,44,50,52,53,44,49,51,53]⟩:ByteArray),(⟨#[53,58,48,49,44,48,50,44,49,50,44,48,51,44,48,52,44,51,52]⟩:ByteArray),(⟨#[54,58,48,49,44,49,50,44,49,51,44,51,52,44,51,53]⟩:ByteArray)]:List ByteArray)):=⟨_,rfl⟩
 replace H:(some y403)=some r:=by first|(rw[hy403];with_reducible exact H)|(have H2_:=(Option.bind_some _ _).symm.trans H;rw[hy403];with_reducible exact H2_)|(have H2_:=(Option.bind_some _ _).symm.trans H;with_reducible exact H2_)|with_reducible exact H|(rw[hy403];exact H)|exact H
 have Ny403:=Aside0.mk hy403;clear hy403;obtain rfl:=Option.some.inj H;go_enter Tryz.func149,Tryz.ntmps149;go_wp2_with (first|((with_reducible refine gate_dst (N:=1) rfl ?_);refine Kd.R_lit Kd.string _ 9 ?hg (N:=1) ?hd (xs:=([(⟨#[49,58,48]⟩:ByteArray),(⟨#[51,58,48,49,44,48,50,44,49,50]⟩:ByteArray),(⟨#[52,58,48,49,44,49,50,44,50,51,44,48,51]⟩:ByteArray),(⟨#[52,58,48,49,50,44,48,49,51,44,48,50,51,44,49,50,51]⟩:ByteArray),(⟨#[52,58,48,49,50,51]⟩:ByteArray),(⟨#[53,58,48,49,51,44,48,49,52,44,48,50,51,44,48,50,52,44,49,50,51,44,49,50,52]⟩:ByteArray),(⟨#[54,58,48,50,52,44,48,50,53,44,48,51,52,44,48,51,53,44,49,50,52,44,49,50,53,44,49,51,52,44,49,51,53]⟩:ByteArray),(⟨#[53,58,48,49,50,44,49,50,51,44,50,51,52,44,48,51,52,44,48,49,52]⟩:ByteArray),(⟨#[54,58,48,49,50,44,48,50,51,44,48,51,52,44,48,52,53,44,48,49,53,44,49,50,52,44,50,51,53,44,49,51,52,44,50,52,53,44,49,51,53]⟩:ByteArray),(⟨#[53,58,48,49,44,48,50,44,49,50,44,48,51,44,48,52,44,51,52]⟩:ByteArray),(⟨#[54,58,48,49,44,49,50,44,49,51,44,51,52,44,51,53]⟩:ByteArray)]:List ByteArray)) (inner:= [.string (⟨#[49,58,48]⟩:ByteArray),.string (⟨#[51,58,48,49,44,48,50,44,49,50]⟩:ByteArray),.string (⟨#[52,58,48,49,44,49,50,44,50,51,44,48,51]⟩:ByteArray),.string (⟨#[52,58,48,49,50,44,48,49,51,44,48,50,51,44,49,50,51]⟩:ByteArray),.string (⟨#[52,58,48,49,50,51]⟩:ByteArray),.string (⟨#[53,58,48,49,51,44,48,49,52,44,48,50,51,44,48,50,52,44,49,50,51,44,49,50,52]⟩:ByteArray),.string (⟨#[54,58,48,50,52,44,48,50,53,44,48,51,52,44,48,51,53,44,49,50,52,44,49,50,53,44,49,51,52,44,49,51,53]⟩:ByteArray),.string (⟨#[53,58,48,49,50,44,49,50,51,44,50,51,52,44,48,51,52,44,48,49,52]⟩:ByteArray),.string (⟨#[54,58,48,49,50,44,48,50,51,44,48,51,52,44,48,52,53,44,48,49,53,44,49,50,52,44,50,51,53,44,49,51,52,44,50,52,53,44,49,51,53]⟩:ByteArray),.string (⟨#[53,58,48,49,44,48,50,44,49,50,44,48,51,44,48,52,44,51,52]⟩:ByteArray),.string (⟨#[54,58,48,49,44,49,50,44,49,51,44,51,52,44,51,53]⟩:ByteArray)]) (ok:=fun _=>True) (okp:=fun _=>True) ?hr ?hp (fun _ hk=>hk) trivial (Below.refl _ _) (Nat.le_refl _) (by simp) ?_;(case hd=>rfl);(case hg=>rfl);(case hr=>first|(go_simp;done)|(go_simp;rfl));(case hp=>exact(Reps.one (show Kd.M Kd.string _ _ _ (⟨#[49,58,48]⟩:ByteArray) [.string (⟨#[49,58,48]⟩:ByteArray)] from rfl) (Reps.one (show Kd.M Kd.string _ _ _ (⟨#[51,58,48,49,44,48,50,44,49,50]⟩:ByteArray) [.string (⟨#[51,58,48,49,44,48,50,44,49,50]⟩:ByteArray)] from rfl) (Reps.one (show Kd.M Kd.string _ _ _ (⟨#[52,58,48,49,44,49,50,44,50,51,44,48,51]⟩:ByteArray) [.string (⟨#[52,58,48,49,44,49,50,44,50,51,44,48,51]⟩:ByteArray)] from rfl) (Reps.one (show Kd.M Kd.string _ _ _ (⟨#[52,58,48,49,50,44,48,49,51,44,48,50,51,44,49,50,51]⟩:ByteArray) [.string (⟨#[52,58,48,49,50,44,48,49,51,44,48,50,51,44,49,50,51]⟩:ByteArray)] from rfl) (Reps.one (show Kd.M Kd.string _ _ _ (⟨#[52,58,48,49,50,51]⟩:ByteArray) [.string (⟨#[52,58,48,49,50,51]⟩:ByteArray)] from rfl) (Reps.one (show Kd.M Kd.string _ _ _ (⟨#[53,58,48,49,51,44,48,49,52,44,48,50,51,44,48,50,52,44,49,50,51,44,49,50,52]⟩:ByteArray) [.string (⟨#[53,58,48,49,51,44,48,49,52,44,48,50,51,44,48,50,52,44,49,50,51,44,49,50,52]⟩:ByteArray)] from rfl) (Reps.one (show Kd.M Kd.string _ _ _ (⟨#[54,58,48,50,52,44,48,50,53,44,48,51,52,44,48,51,53,44,49,50,52,44,49,50,53,44,49,51,52,44,49,51,53]⟩:ByteArray) [.string (⟨#[54,58,48,50,52,44,48,50,53,44,48,51,52,44,48,51,53,44,49,50,52,44,49,50,53,44,49,51,52,44,49,51,53]⟩:ByteArray)] from rfl) (Reps.one (show Kd.M Kd.string _ _ _ (⟨#[53,58,48,49,50,44,49,50,51,44,50,51,52,44,48,51,52,44,48,49,52]⟩:ByteArray) [.string (⟨#[53,58,48,49,50,44,49,50,51,44,50,51,52,44,48,51,52,44,48,49,52]⟩:ByteArray)] from rfl) (Reps.one (show Kd.M Kd.string _ _ _ (⟨#[54,58,48,49,50,44,48,50,51,44,48,51,52,44,48,52,53,44,48,49,53,44,49,50,52,44,50,51,53,44,49,51,52,44,50,52,53,44,49,51,53]⟩:ByteArray) [.string (⟨#[54,58,48,49,50,44,48,50,51,44,48,51,52,44,48,52,53,44,48,49,53,44,49,50,52,44,50,51,53,44,49,51,52,44,50,52,53,44,49,51,53]⟩:ByteArray)] from rfl) (Reps.one (show Kd.M Kd.string _ _ _ (⟨#[53,58,48,49,44,48,50,44,49,50,44,48,51,44,48,52,44,51,52]⟩:ByteArray) [.string (⟨#[53,58,48,49,44,48,50,44,49,50,44,48,51,44,48,52,44,51,52]⟩:ByteArray)] from rfl) (Reps.one (show Kd.M Kd.string _ _ _ (⟨#[54,58,48,49,44,49,50,44,49,51,44,51,52,44,51,53]⟩:ByteArray) [.string (⟨#[54,58,48,49,44,49,50,44,49,51,44,51,52,44,51,53]⟩:ByteArray)] from rfl) (Reps.none _ _)))))))))))));intro v404 w1 ho2 hb hg_ hnew_;clear hg_ hnew_;(first|rw[← Ny403.out] at ho2|(simp only [Int.reduceToNat] at ho2;rw[← Ny403.out] at ho2));have HO405:=klA ho2 HB;replace HB:=bsA HB hb;clear hb ho2))
 go_ret;exact⟨_,rr,by(with_reducible repeat(first|apply Kd.R_alloc|apply Kd.R_drewN|apply Kd.R_drew));exact HO405.out,bl HB.out⟩
end Go.Proofs.YtbnnamejnjfkjaaGreat.Q
end

section
namespace Go.Proofs.YtbnnamejnjfkjaaGreat.Q
open Go.RowKit Go.Proofs.YtbnnamejnjfkjaaGreatW.PrintWords Go.Proofs.YtbnnamejnjfkjaaGreatW.PrintLast Go.Proofs.YtbnnamejnjfkjaaGreatW.PrintMore
attribute [local go_sem] max2_int min2_int max_two min_two max_three min_three max_four min_four
set_option linter.unusedVariables false
set_option linter.unusedSimpArgs false
def spec_l01Split.l0:Nat→ByteArray→Int→List ByteArray→Int→Int→Option (List ByteArray)
 |0,_,_,_,_,_=>none
 |k+1,x0,x1,x5,x6,x7=>if x7<(x0.size:Int) then (if 0≤x7 then (if (bt x0 x7)=x1 then (if 0≤x6 then (if x6≤x7 then (if x7≤(x0.size:Int) then (if x5.length<8796093022208 then (spec_l01Split.l0 k x0 x1 (x5 ++ [x0.extract (x6:Int).toNat (x7:Int).toNat]) (wrap64 (x7+1)) (wrap64 (x7+1))) else (none)) else (none)) else (none)) else (none)) else (spec_l01Split.l0 k x0 x1 x5 x6 (wrap64 (x7+1)))) else (none)) else (if 0≤x6 then (if x6≤(x0.size:Int) then (if x5.length<8796093022208 then (some (x5 ++ [x0.extract (x6:Int).toNat x0.size])) else (none)) else (none)) else (none))
def spec_l01Split.f (k:Nat) (a0:ByteArray) (a1:Int):Option (List ByteArray):=spec_l01Split.l0 k a0 a1 (([]:List ByteArray)) 0 0
theorem spec_l01Split.mono_l:∀ k,(∀ y0 y1 y2 y3 y4,LeO (spec_l01Split.l0 k y0 y1 y2 y3 y4) (spec_l01Split.l0 (k+1) y0 y1 y2 y3 y4))
 |0=>fun _ _ _ _ _ r h=>by simp [spec_l01Split.l0] at h
 |k+1=>by
  have ih0:=spec_l01Split.mono_l k
  ·intro y0 y1 y2 y3 y4;unfold spec_l01Split.l0;repeat' first
   |(with_reducible first|exact ih0 _ _ _ _ _|exact LeO.refl _|exact LeO.none _|refine LeO.ite ?_ ?_|refine LeO.bind ?_ (fun _=>?_))
theorem spec_l01Split.mono:∀ a0 a1 k,LeO (spec_l01Split.f k a0 a1) (spec_l01Split.f (k+1) a0 a1):=by
 intro a0 a1 k;have ih0:=spec_l01Split.mono_l k;unfold spec_l01Split.f;repeat' first
   |(with_reducible first|exact ih0 _ _ _ _ _|exact LeO.refl _|exact LeO.none _|refine LeO.ite ?_ ?_|refine LeO.bind ?_ (fun _=>?_))
set_option maxHeartbeats 8000000 in
set_option maxRecDepth 100000 in
theorem spec_l01Split.calls (k:Nat) (a0:ByteArray) (a1:Int) (r:List ByteArray) (w:World) (h:spec_l01Split.f k a0 a1=some r) :
  Calls Tryz.prog 150 #[.string a0,.int .u8 a1] w fun e w'=>∃ v0_:Value,e = .returned (v0_)∧Kd.R Kd.string 9 w' w.heap.size (fun _=>True) v0_ r∧Below w.heap.size w w':=by
 have HB:=Aside0.mk (Below.refl w.heap.size w);have H:(spec_l01Split.l0 k a0 a1 (([]:List ByteArray)) 0 0)=some r:=h;clear h;obtain ⟨y406,hy406⟩:∃ y_:List ByteArray,y_=(([]:List ByteArray)):=⟨_,rfl⟩
 replace H:(spec_l01Split.l0 k a0 a1 y406 0 0)=some r:=by first|(rw[hy406];with_reducible exact H)|(have H2_:=(Option.bind_some _ _).symm.trans H;rw[hy406];with_reducible exact H2_)|(have H2_:=(Option.bind_some _ _).symm.trans H;with_reducible exact H2_)|with_reducible exact H|(rw[hy406];exact H)|exact H
 have Ny406:=Aside0.mk hy406;clear hy406;have H':=Aside0.mk H;clear H;go_enter Tryz.func150,Tryz.ntmps150;go_wp2_with (first|((with_reducible refine gate_dst (N:=8) rfl ?_);refine Kd.R_lit Kd.string _ 9 ?hg (N:=8) ?hd (xs:=([]:List ByteArray)) (inner:= []) (ok:=fun _=>True) (okp:=fun _=>True) ?hr ?hp (fun _ hk=>hk) trivial (Below.refl _ _) (Nat.le_refl _) (by simp) ?_;(case hd=>rfl);(case hg=>rfl);(case hr=>first|(go_simp;done)|(go_simp;rfl));(case hp=>exact(Reps.none _ _));intro v407 w3 ho4 hb hg_ hnew_;clear hg_ hnew_;(first|rw[← Ny406.out] at ho4|(simp only [Int.reduceToNat] at ho4;rw[← Ny406.out] at ho4));have HO408:=klA ho4 HB;replace HB:=bsA HB hb;clear hb ho4))
 go_loopg [5,6,7] k (fun kq v5 v6 v7 w'=>∃(x5_1:List ByteArray) (x6_1:Int) (x7_1:Int),v6 = .int .i64 x6_1∧v7 = .int .i64 x7_1∧Aside0 (spec_l01Split.l0 kq a0 a1 x5_1 x6_1 x7_1=some r)∧Aside0 (kq≤k)∧Aside0 (Kd.R Kd.string 9 w' w.heap.size (fun _=>True) v5 x5_1)∧Aside0 (Below w.heap.size w w'))
 case atStart=>exact⟨(y406),(0),(0),rs,rs,H',⟨Nat.le_refl _⟩,⟨kr HO408.out⟩,⟨bl HB.out⟩⟩
 case round=>
  clear H';try clear c1
  try clear p2
  obtain ⟨x5_1,x6_1,x7_1,rfl,rfl,HA,HK1,HO_5,HB⟩:=hrel;cases gk with
  |zero=>exact absurd HA.out (by simp [spec_l01Split.l0])
  |succ k1=>
   have H:=HA.out;clear HA;simp only [spec_l01Split.l0] at H;by_cases c5:x7_1<(a0.size:Int)
   ·rw[if_pos c5] at H;have c5b0:decide (x7_1<(a0.size:Int))=true:=decide_eq_true c5;clear c5;by_cases c6:0≤x7_1
    ·rw[if_pos c6] at H;have c6b0:decide (0≤x7_1)=true:=decide_eq_true c6;clear c6;by_cases c8:(bt a0 x7_1)=a1
     ·rw[if_pos c8] at H;have c8b0:((bt a0 x7_1) == a1)=true:=beq_iff_eq.mpr c8;have c8b1:((bt a0 x7_1) != a1)=false:=bne_eq_false_iff_eq.mpr c8;clear c8;by_cases c9:0≤x6_1
      ·rw[if_pos c9] at H;have c9b0:=eq_true c9;have c9b1:decide (0≤x6_1)=true:=decide_eq_true c9;clear c9;by_cases c10:x6_1≤x7_1
       ·rw[if_pos c10] at H;have c10b0:=eq_true c10;have c10b1:decide (x6_1≤x7_1)=true:=decide_eq_true c10;clear c10;by_cases c11:x7_1≤(a0.size:Int)
        ·rw[if_pos c11] at H;have c11b0:=eq_true c11;have c11b1:decide (x7_1≤(a0.size:Int))=true:=decide_eq_true c11;clear c11;by_cases c12:x5_1.length<8796093022208
         ·rw[if_pos c12] at H;have LMc12:=Aside0.mk c12;clear c12;obtain ⟨y409,hy409⟩:∃ y_:List ByteArray,y_=(x5_1 ++ [a0.extract (x6_1:Int).toNat (x7_1:Int).toNat]):=⟨_,rfl⟩
          replace H:(spec_l01Split.l0 k1 a0 a1 y409 (wrap64 (x7_1+1)) (wrap64 (x7_1+1)))=some r:=by first|(rw[hy409];with_reducible exact H)|(have H2_:=(Option.bind_some _ _).symm.trans H;rw[hy409];with_reducible exact H2_)|(have H2_:=(Option.bind_some _ _).symm.trans H;with_reducible exact H2_)|with_reducible exact H|(rw[hy409];exact H)|exact H
          have Ny409:=Aside0.mk hy409;clear hy409;have H':=Aside0.mk H;clear H;have p7:0≤(x7_1:Int):=dd;have q7:x7_1<(a0.size:Int):=dd;have hx7:=bt_at a0 x7_1;replace p7:=eq_true p7;replace q7:=eq_true q7;go_wp2_with (first|((with_reducible refine gate_builtin (b:= .append) (xs:=#[.tmp 20,.tmp 25]) rfl ?_);at_builtin;refine Kd.R_append Kd.string (w0:=w) w.heap.size rfl (.tmp 20) (.tmp 25) 95 9 (.string ⟨#[]⟩) 16 rfl Tryz.underlying95 info9 rfl (by decide) (by omega) u5 x5_1 (a0.extract (x6_1:Int).toNat (x7_1:Int).toNat) [.string (a0.extract (x6_1:Int).toNat (x7_1:Int).toNat)] (fun _=>True) (fun _=>False) rfl rfl ?aP (fun _ hk=>hk.elim) ?aF ?aO ?aB ?aS ?aL ?_;(case aP=>exact rfl);(case aB=>exact(bl HB.out));(case aF=>exact(fun _ _=>trivial));(case aO=>exact(kr HO_5.out));(case aS=>exact(below_size (bl HB.out)));(case aL=>have:=LMc12.out;omega);intro v410 w13 ho hb hg hat;rw[← Ny409.out] at ho;have n0_:=Aside0.mk (hb);have n1_:=Aside0.mk (ho);clear HB;clear HO_5;have HB:=n0_;have HO411:=n1_;clear n0_ n1_;clear ho hb hg hat))
          go_roundg k1
          case measure=>have:=HK1.out;omega
          case rel=>exact⟨(y409),(wrap64 (x7_1+1)),(wrap64 (x7_1+1)),rs,rs,H',⟨by have:=HK1.out;omega⟩,⟨kr HO411.out⟩,⟨bl HB.out⟩⟩
         ·rw[if_neg c12] at H;exact absurd H (by simp)
        ·rw[if_neg c11] at H;exact absurd H (by simp)
       ·rw[if_neg c10] at H;exact absurd H (by simp)
      ·rw[if_neg c9] at H;exact absurd H (by simp)
     ·rw[if_neg c8] at H;have c8b0:((bt a0 x7_1) == a1)=false:=beq_eq_false_iff_ne.mpr c8;have c8b1:((bt a0 x7_1) != a1)=true:=bne_iff_ne.mpr c8;have H':=Aside0.mk H;clear H;have p7:0≤(x7_1:Int):=dd;have q7:x7_1<(a0.size:Int):=dd;have hx7:=bt_at a0 x7_1;replace p7:=eq_true p7;replace q7:=eq_true q7;go_wp2
      go_roundg k1
      case measure=>have:=HK1.out;omega
      case rel=>exact⟨(x5_1),(x6_1),(wrap64 (x7_1+1)),rs,rs,H',⟨by have:=HK1.out;omega⟩,⟨kr HO_5.out⟩,⟨bl HB.out⟩⟩
    ·rw[if_neg c6] at H;exact absurd H (by simp)
   ·rw[if_neg c5] at H;have c5b0:decide (x7_1<(a0.size:Int))=false:=decide_eq_false c5;clear c5;by_cases c14:0≤x6_1
    ·rw[if_pos c14] at H;have c14b0:=eq_true c14;have c14b1:decide (0≤x6_1)=true:=decide_eq_true c14;clear c14;by_cases c15:x6_1≤(a0.size:Int)
     ·rw[if_pos c15] at H;have c15b0:=eq_true c15;have c15b1:decide (x6_1≤(a0.size:Int))=true:=decide_eq_true c15;clear c15;by_cases c16:x5_1.length<8796093022208
      ·rw[if_pos c16] at H;have LMc16:=Aside0.mk c16;clear c16;obtain ⟨y412,hy412⟩:∃ y_:List ByteArray,y_=(x5_1 ++ [a0.extract (x6_1:Int).toNat a0.size]):=⟨_,rfl⟩
       replace H:(some y412)=some r:=by first|(rw[hy412];with_reducible exact H)|(have H2_:=(Option.bind_some _ _).symm.trans H;rw[hy412];with_reducible exact H2_)|(have H2_:=(Option.bind_some _ _).symm.trans H;with_reducible exact H2_)|with_reducible exact H|(rw[hy412];exact H)|exact H
       have Ny412:=Aside0.mk hy412;clear hy412;obtain rfl:=Option.some.inj H;go_wp2_with (first|((with_reducible refine gate_builtin (b:= .append) (xs:=#[.tmp 29,.tmp 33]) rfl ?_);at_builtin;refine Kd.R_append Kd.string (w0:=w) w.heap.size rfl (.tmp 29) (.tmp 33) 95 9 (.string ⟨#[]⟩) 16 rfl Tryz.underlying95 info9 rfl (by decide) (by omega) u5 x5_1 (a0.extract (x6_1:Int).toNat a0.size) [.string (a0.extract (x6_1:Int).toNat a0.size)] (fun _=>True) (fun _=>False) rfl rfl ?aP (fun _ hk=>hk.elim) ?aF ?aO ?aB ?aS ?aL ?_;(case aP=>exact rfl);(case aB=>exact(bl HB.out));(case aF=>exact(fun _ _=>trivial));(case aO=>exact(kr HO_5.out));(case aS=>exact(below_size (bl HB.out)));(case aL=>have:=LMc16.out;omega);intro v413 w17 ho hb hg hat;rw[← Ny412.out] at ho;have n0_:=Aside0.mk (hb);have n1_:=Aside0.mk (ho);clear HB;clear HO_5;have HB:=n0_;have HO414:=n1_;clear n0_ n1_;clear ho hb hg hat))
       go_ret;exact⟨_,rr,by(with_reducible repeat(first|apply Kd.R_alloc|apply Kd.R_drewN|apply Kd.R_drew));exact HO414.out,bl HB.out⟩
      ·rw[if_neg c16] at H;exact absurd H (by simp)
     ·rw[if_neg c15] at H;exact absurd H (by simp)
    ·rw[if_neg c14] at H;exact absurd H (by simp)
def spec_l01Set.l0:Nat→ByteArray→Int→Int→Int→Int→Option (Int×Bool)
 |0,_,_,_,_,_=>none
 |k+1,x0,x1,x6,x7,x8=>if x8<(x0.size:Int) then (if 0≤x8 then ((spec_l01In.f (wrap64 ((wrap64 (bt x0 x8)) - 48)) (wrap64 (x7+1)) (wrap64 (x1 - 1))).bind fun t415=>(if t415=true then (if 0≤(IntKind.u64.wrap (wrap64 ((wrap64 (bt x0 x8)) - 48))) then (spec_l01Set.l0 k x0 x1 (Go.bits .or .i64 x6 (shl .i64 1 (IntKind.u64.wrap (wrap64 ((wrap64 (bt x0 x8)) - 48))))) (wrap64 ((wrap64 (bt x0 x8)) - 48)) (wrap64 (x8+1))) else (none)) else (some (0,false)))) else (none)) else (some (x6,decide (x6>0)))
def spec_l01Set.f (k:Nat) (a0:ByteArray) (a1:Int):Option (Int×Bool):=spec_l01Set.l0 k a0 a1 0 (-1) 0
theorem spec_l01Set.mono_l:∀ k,(∀ y0 y1 y2 y3 y4,LeO (spec_l01Set.l0 k y0 y1 y2 y3 y4) (spec_l01Set.l0 (k+1) y0 y1 y2 y3 y4))
 |0=>fun _ _ _ _ _ r h=>by simp [spec_l01Set.l0] at h
 |k+1=>by
  have ih0:=spec_l01Set.mono_l k
  ·intro y0 y1 y2 y3 y4;unfold spec_l01Set.l0;repeat' first
   |(with_reducible first|exact ih0 _ _ _ _ _|exact LeO.refl _|exact LeO.none _|refine LeO.ite ?_ ?_|refine LeO.bind ?_ (fun _=>?_))
theorem spec_l01Set.mono:∀ a0 a1 k,LeO (spec_l01Set.f k a0 a1) (spec_l01Set.f (k+1) a0 a1):=by
 intro a0 a1 k;have ih0:=spec_l01Set.mono_l k;unfold spec_l01Set.f;repeat' first
   |(with_reducible first|exact ih0 _ _ _ _ _|exact LeO.refl _|exact LeO.none _|refine LeO.ite ?_ ?_|refine LeO.bind ?_ (fun _=>?_))
set_option maxHeartbeats 8000000 in
set_option maxRecDepth 100000 in
theorem spec_l01Set.calls (k:Nat) (a0:ByteArray) (a1:Int) (r1:Int) (r2:Bool) (w:World) (h:spec_l01Set.f k a0 a1=some (r1,r2)) :
  Calls Tryz.prog 151 #[.string a0,.int .i64 a1] w fun e w'=>e = .returned (.tuple #[.int .i64 r1,.bool r2])∧Drawn0 w w':=by
 have H:(spec_l01Set.l0 k a0 a1 0 (-1) 0)=some (r1,r2):=h;clear h;have H':=Aside0.mk H;clear H;go_enter Tryz.func151,Tryz.ntmps151;go_wp2
 go_loopg [6,7,8] k (fun kq v6 v7 v8 w'=>∃(x6_1:Int) (x7_1:Int) (x8_1:Int),v6 = .int .i64 x6_1∧v7 = .int .i64 x7_1∧v8 = .int .i64 x8_1∧Aside0 (spec_l01Set.l0 kq a0 a1 x6_1 x7_1 x8_1=some (r1,r2))∧Aside0 (kq≤k)∧Drawn0 w w')
 case atStart=>exact⟨(0),((-1)),(0),rs,rs,rs,H',⟨Nat.le_refl _⟩,by repeat(first|exact Drawn0.refl _|apply Drawn0.step)⟩
 case round=>
  clear H';try clear c1
  try clear p2
  obtain ⟨x6_1,x7_1,x8_1,rfl,rfl,rfl,HA,HK1,⟨m1,rfl⟩⟩:=hrel;cases gk with
  |zero=>exact absurd HA.out (by simp [spec_l01Set.l0])
  |succ k1=>
   have H:=HA.out;clear HA;simp only [spec_l01Set.l0] at H;by_cases c3:x8_1<(a0.size:Int)
   ·rw[if_pos c3] at H;have c3b0:decide (x8_1<(a0.size:Int))=true:=decide_eq_true c3;clear c3;by_cases c4:0≤x8_1
    ·rw[if_pos c4] at H;have c4b0:decide (0≤x8_1)=true:=decide_eq_true c4;clear c4;replace H:=Option.bind_eq_some_iff.mp H;obtain ⟨t415,A60,H⟩:=H;replace H:(if t415=true then (if 0≤(IntKind.u64.wrap (wrap64 ((wrap64 (bt a0 x8_1)) - 48))) then (spec_l01Set.l0 k1 a0 a1 (Go.bits .or .i64 x6_1 (shl .i64 1 (IntKind.u64.wrap (wrap64 ((wrap64 (bt a0 x8_1)) - 48))))) (wrap64 ((wrap64 (bt a0 x8_1)) - 48)) (wrap64 (x8_1+1))) else (none)) else (some (0,false)))=some (r1,r2):=H;have A6:=Aside0.mk A60;clear A60;by_cases c7:t415=true
     ·subst c7;have H1:(if 0≤(IntKind.u64.wrap (wrap64 ((wrap64 (bt a0 x8_1)) - 48))) then (spec_l01Set.l0 k1 a0 a1 (Go.bits .or .i64 x6_1 (shl .i64 1 (IntKind.u64.wrap (wrap64 ((wrap64 (bt a0 x8_1)) - 48))))) (wrap64 ((wrap64 (bt a0 x8_1)) - 48)) (wrap64 (x8_1+1))) else (none))=some (r1,r2):=by rw[if_pos rfl] at H;exact H
      clear H;have H:=H1;clear H1;obtain ⟨ji8,hji8⟩:∃ j_:Int,(IntKind.u64.wrap (wrap64 ((wrap64 (bt a0 x8_1)) - 48)))=j_:=⟨_,rfl⟩
      replace H:(if 0≤(ji8) then (spec_l01Set.l0 k1 a0 a1 (Go.bits .or .i64 x6_1 (shl .i64 1 (ji8))) (wrap64 ((wrap64 (bt a0 x8_1)) - 48)) (wrap64 (x8_1+1))) else (none))=some (r1,r2):=by first|(rw[hji8] at H;exact H)|(simp only [hji8] at H ⊢;exact H)
      (try rw[hji8] at A6)
      by_cases c9:0≤(ji8)
      ·rw[if_pos c9] at H;have c9b0:=eq_true c9;have c9b1:decide (0≤(ji8))=true:=decide_eq_true c9;clear c9;obtain ⟨ji10,hji10⟩:∃ j_:Int,(shl .i64 1 (ji8))=j_:=⟨_,rfl⟩
       replace H:(spec_l01Set.l0 k1 a0 a1 (Go.bits .or .i64 x6_1 (ji10)) (wrap64 ((wrap64 (bt a0 x8_1)) - 48)) (wrap64 (x8_1+1)))=some (r1,r2):=by first|(rw[hji10] at H;exact H)|(simp only [hji10] at H ⊢;exact H)
       (try rw[hji10] at A6)
       have hji10_:(IntKind.i64.wrap (1*2 ^ min (ji8).toNat 64))=ji10:=hji10;have hji10z:(ji8)≤64→(IntKind.i64.wrap (1*2 ^ (ji8).toNat))=ji10:=shl_small hji10;have hji10u:(IntKind.i64.wrap (2 ^ min (ji8).toNat 64))=ji10:=by have h_:=hji10_;rw[Int.one_mul] at h_;exact h_
       have hji10v:(ji8)≤64→(IntKind.i64.wrap (2 ^ (ji8).toNat))=ji10:=fun hle_=>by have h_:=hji10z hle_;rw[Int.one_mul] at h_;exact h_
       have hji10y:(wrap64 (1*2 ^ min (ji8).toNat 64))=ji10:=(i64_w _).symm.trans hji10_;have hji10x:(ji8)≤64→(wrap64 (1*2 ^ (ji8).toNat))=ji10:=fun h_=>(i64_w _).symm.trans (hji10z h_)
       have H':=Aside0.mk H;clear H;have p5:0≤(x8_1:Int):=dd;have q5:x8_1<(a0.size:Int):=dd;have hx5:=bt_at a0 x8_1;replace p5:=eq_true p5;replace q5:=eq_true q5;go_wp2_with (first|((with_reducible refine gate_callee (f:=95) rfl ?_);refine gl (some 26) Tryz.func95 #[.int .i64 (wrap64 ((wrap64 (bt a0 x8_1)) - 48)),.int .i64 (wrap64 (x7_1+1)),.int .i64 (wrap64 (a1 - 1))] ?_;(with_reducible refine(spec_l01In.calls (wrap64 ((wrap64 (bt a0 x8_1)) - 48)) (wrap64 (x7_1+1)) (wrap64 (a1 - 1)) true _ A6.out).mono ?_);rintro e w' ⟨rfl,⟨nd,rfl⟩⟩;refine⟨_,rfl,?_⟩))
       go_roundg k1
       case measure=>have:=HK1.out;omega
       case rel=>exact⟨(Go.bits .or .i64 x6_1 (ji10)),(wrap64 ((wrap64 (bt a0 x8_1)) - 48)),(wrap64 (x8_1+1)),(by first|rfl|(simp;done)|(simp only [← hji10] <;> (first|rfl|simp))|(simp [*];done)),rs,rs,H',⟨by have:=HK1.out;omega⟩,by repeat(first|exact Drawn0.refl _|apply Drawn0.step)⟩
      ·rw[if_neg c9] at H;exact absurd H (by simp)
     ·replace c7:=Bool.eq_false_iff.mpr c7;subst c7;have H1:(some (0,false))=some (r1,r2):=by rw[if_neg (show ¬ (false=true) by decide)] at H;exact H
      clear H;have H:=H1;clear H1;simp only [Option.some.injEq,Prod.mk.injEq] at H;obtain ⟨rfl,rfl⟩:=H;have p5:0≤(x8_1:Int):=dd;have q5:x8_1<(a0.size:Int):=dd;have hx5:=bt_at a0 x8_1;replace p5:=eq_true p5;replace q5:=eq_true q5;go_wp2_with (first|((with_reducible refine gate_callee (f:=95) rfl ?_);refine gl (some 26) Tryz.func95 #[.int .i64 (wrap64 ((wrap64 (bt a0 x8_1)) - 48)),.int .i64 (wrap64 (x7_1+1)),.int .i64 (wrap64 (a1 - 1))] ?_;(with_reducible refine(spec_l01In.calls (wrap64 ((wrap64 (bt a0 x8_1)) - 48)) (wrap64 (x7_1+1)) (wrap64 (a1 - 1)) false _ A6.out).mono ?_);rintro e w' ⟨rfl,⟨nd,rfl⟩⟩;refine⟨_,rfl,?_⟩))
      go_ret2;exact⟨rs,by repeat(first|exact Drawn0.refl _|apply Drawn0.step)⟩
    ·rw[if_neg c4] at H;exact absurd H (by simp)
   ·rw[if_neg c3] at H;have c3b0:decide (x8_1<(a0.size:Int))=false:=decide_eq_false c3;clear c3;simp only [Option.some.injEq,Prod.mk.injEq] at H;obtain ⟨rfl,rfl⟩:=H;go_wp2
    go_ret2;exact⟨rs,by repeat(first|exact Drawn0.refl _|apply Drawn0.step)⟩
end Go.Proofs.YtbnnamejnjfkjaaGreat.Q
end

section
namespace Go.Proofs.YtbnnamejnjfkjaaGreat.Q
open Go.RowKit Go.Proofs.YtbnnamejnjfkjaaGreatW.PrintWords Go.Proofs.YtbnnamejnjfkjaaGreatW.PrintLast Go.Proofs.YtbnnamejnjfkjaaGreatW.PrintMore
attribute [local go_sem] max2_int min2_int max_two min_two max_three min_three max_four min_four
set_option linter.unusedVariables false
set_option linter.unusedSimpArgs false
mutual
def spec_l01Named.l0:Nat→ByteArray→List ByteArray→List ByteArray→Int→Option (Int×List Int×Bool)
 |0,_,_,_,_=>none
 |k+1,x0,x4,x5,x6=>if x6<(x4.length:Int) then (if 0≤x6 then (if (rdOf ByteArray.empty x4 x6).toList=x0.toList then (if x6<(x5.length:Int) then (if 0<((rdOf ByteArray.empty x5 x6).size:Int) then (if 2≤((rdOf ByteArray.empty x5 x6).size:Int) then ((spec_l01Split.f k ((rdOf ByteArray.empty x5 x6).extract 2 (rdOf ByteArray.empty x5 x6).size) 44).bind fun t429=>(spec_l01Named.l1 k (wrap64 ((wrap64 (bt (rdOf ByteArray.empty x5 x6) 0)) - 48)) (([]:List Int)) t429 0)) else (none)) else (none)) else (none)) else (spec_l01Named.l0 k x0 x4 x5 (wrap64 (x6+1)))) else (none)) else (some (0,([]:List Int),false))
def spec_l01Named.l1:Nat→Int→List Int→List ByteArray→Int→Option (Int×List Int×Bool)
 |0,_,_,_,_=>none
 |k+1,x7,x8,x9,x10=>if x10<(x9.length:Int) then (if 0≤x10 then ((spec_l01Set.f k (rdOf ByteArray.empty x9 x10) x7).bind fun bt433=>(if x8.length<17592186044416 then (spec_l01Named.l1 k x7 (x8 ++ [bt433.1]) x9 (wrap64 (x10+1))) else (none))) else (none)) else ((spec_l01Made.f k x7 x8).bind fun bt438=>(some (bt438.1,bt438.2,true)))
end
def spec_l01Named.f (k:Nat) (a0:ByteArray):Option (Int×List Int×Bool):=(spec_l01Names.f).bind fun t417=>((spec_l01Known.f).bind fun t420=>(spec_l01Named.l0 k a0 t417 t420 0))
theorem spec_l01Named.mono_l:∀ k,(∀ y0 y1 y2 y3,LeO (spec_l01Named.l0 k y0 y1 y2 y3) (spec_l01Named.l0 (k+1) y0 y1 y2 y3))∧(∀ y0 y1 y2 y3,LeO (spec_l01Named.l1 k y0 y1 y2 y3) (spec_l01Named.l1 (k+1) y0 y1 y2 y3))
 |0=>⟨fun _ _ _ _ r h=>by simp [spec_l01Named.l0] at h,fun _ _ _ _ r h=>by simp [spec_l01Named.l1] at h⟩
 |k+1=>by
  obtain ⟨ih0,ih1⟩:=spec_l01Named.mono_l k;refine⟨?_,?_⟩
  ·intro y0 y1 y2 y3;unfold spec_l01Named.l0;repeat' first
   |(with_reducible first|exact ih0 _ _ _ _|exact ih1 _ _ _ _|exact spec_l01Made.mono _ _ _|exact spec_l01Set.mono _ _ _|exact spec_l01Split.mono _ _ _|exact LeO.refl _|exact LeO.none _|refine LeO.ite ?_ ?_|refine LeO.bind ?_ (fun _=>?_))
  ·intro y0 y1 y2 y3;unfold spec_l01Named.l1;repeat' first
   |(with_reducible first|exact ih0 _ _ _ _|exact ih1 _ _ _ _|exact spec_l01Made.mono _ _ _|exact spec_l01Set.mono _ _ _|exact spec_l01Split.mono _ _ _|exact LeO.refl _|exact LeO.none _|refine LeO.ite ?_ ?_|refine LeO.bind ?_ (fun _=>?_))
theorem spec_l01Named.mono:∀ a0 k,LeO (spec_l01Named.f k a0) (spec_l01Named.f (k+1) a0):=by
 intro a0 k;obtain ⟨ih0,ih1⟩:=spec_l01Named.mono_l k;unfold spec_l01Named.f;repeat' first
   |(with_reducible first|exact ih0 _ _ _ _|exact ih1 _ _ _ _|exact spec_l01Made.mono _ _ _|exact spec_l01Set.mono _ _ _|exact spec_l01Split.mono _ _ _|exact LeO.refl _|exact LeO.none _|refine LeO.ite ?_ ?_|refine LeO.bind ?_ (fun _=>?_))
set_option maxHeartbeats 8000000 in
set_option maxRecDepth 100000 in
theorem spec_l01Named.calls (k:Nat) (a0:ByteArray) (r1:Int) (r2:List Int) (r3:Bool) (w:World) (h:spec_l01Named.f k a0=some (r1,r2,r3)) :
  Calls Tryz.prog 127 #[.string a0] w fun e w'=>∃ v1_:Value,e = .returned (.tuple #[.agg #[.int .i64 r1,v1_],.bool r3])∧Kd.R (Kd.int .i64) 2 w' w.heap.size (fun _=>True) v1_ r2∧Below w.heap.size w w':=by
 have hu26:=Tryz.underlying26;have HB:=Aside0.mk (Below.refl w.heap.size w);have H:((spec_l01Names.f).bind fun t417=>((spec_l01Known.f).bind fun t420=>(spec_l01Named.l0 k a0 t417 t420 0)))=some (r1,r2,r3):=h;clear h;replace H:=Option.bind_eq_some_iff.mp H;obtain ⟨t417,A20,H⟩:=H;replace H:((spec_l01Known.f).bind fun t420=>(spec_l01Named.l0 k a0 t417 t420 0))=some (r1,r2,r3):=H;have A2:=Aside0.mk A20;clear A20;replace H:=Option.bind_eq_some_iff.mp H;obtain ⟨t420,A30,H⟩:=H;replace H:(spec_l01Named.l0 k a0 t417 t420 0)=some (r1,r2,r3):=H;have A3:=Aside0.mk A30;clear A30;have H':=Aside0.mk H;clear H;go_enter Tryz.func127,Tryz.ntmps127;go_wp2_with (first|((with_reducible refine gate_dst (N:=2) rfl ?_);refine bx 2 #[.int .i64 0,.slice none 0 0] 26 ?_;intro gb416 hg w4 hbox hb;have BK416:=Aside0.mk (hbox);have GE416:=gzA hg HB;replace HB:=bsA HB hb;clear hb hbox hg)|((with_reducible refine gate_callee (f:=126) rfl ?_);refine gl (some 13) Tryz.func126 #[] ?_;(with_reducible refine(spec_l01Names.calls  t417 _ A2.out).mono ?_);rintro e w5 ⟨v418,rfl,ho0,hb⟩;refine⟨_,rfl,?_⟩;have HO419:=klA ho0 HB;replace BK416:=bkA BK416 hb;replace HB:=bsA HB hb;(try clear hb);(try clear hb2);(try clear hk);(try clear hi);(try clear ho0))|((with_reducible refine gate_callee (f:=149) rfl ?_);refine gl (some 14) Tryz.func149 #[] ?_;(with_reducible refine(spec_l01Known.calls  t420 _ A3.out).mono ?_);rintro e w6 ⟨v421,rfl,ho0,hb⟩;refine⟨_,rfl,?_⟩;have HO422:=Aside0.mk (Kd.R_lower (Kd.R_new' ho0 (Kd.R_lt (kr HO419.out))) (below_size (bl HB.out)));replace HO419:=Aside0.mk (Kd.R_elder' (kr HO419.out) (Kd.R_base ho0) hb);replace BK416:=bkA BK416 hb;replace HB:=bsA HB hb;(try clear hb);(try clear hb2);(try clear hk);(try clear hi);(try clear ho0)))
 go_loopg [6] k (fun kq v6 w'=>∃(x6_1:Int) (x417000_1:Int),v6 = .int .i64 x6_1∧Aside0 (spec_l01Named.l0 kq a0 t417 t420 x6_1=some (r1,r2,r3))∧Aside0 (kq≤k)∧Aside0 (Kd.R Kd.string 9 w' w.heap.size (fun k_=>some k_≠(v421:Value).ownBlock) v418 t417)∧Aside0 (Kd.R Kd.string 9 w' w.heap.size (fun k_=>some k_≠(v418:Value).ownBlock) v421 t420)∧Aside0 (w'.heap[gb416]?=some (.cells #[.int .i64 x417000_1,(.slice none 0 0)] 26 (0,0)))∧Aside0 (Below w.heap.size w w'))
 case atStart=>exact⟨(0),(0),rs,H',⟨Nat.le_refl _⟩,⟨by(with_reducible repeat(first|apply Kd.R_alloc|apply Kd.R_drewN|apply Kd.R_drew));exact Kd.R_mono HO419.out (fun _ hk=>hk.2)⟩,⟨by(with_reducible repeat(first|apply Kd.R_alloc|apply Kd.R_drewN|apply Kd.R_drew));exact Kd.R_mono HO422.out (fun _ hk=>hk.2)⟩,⟨bk BK416.out⟩,⟨bl HB.out⟩⟩
 case round=>
  clear H';try clear c1
  try clear p2
  obtain ⟨x6_1,x417000_1,rfl,HA,HK1,HO_4,HO_5,BK416,HB⟩:=hrel;cases gk with
  |zero=>exact absurd HA.out (by simp [spec_l01Named.l0])
  |succ k1=>
   have H:=HA.out;clear HA;simp only [spec_l01Named.l0] at H;by_cases c7:x6_1<(t417.length:Int)
   ·rw[if_pos c7] at H;have c7b0:decide (x6_1<(t417.length:Int))=true:=decide_eq_true c7;clear c7;by_cases c8:0≤x6_1
    ·rw[if_pos c8] at H;have c8b0:decide (0≤x6_1)=true:=decide_eq_true c8;clear c8;by_cases c9:(rdOf ByteArray.empty t417 x6_1).toList=a0.toList
     ·rw[if_pos c9] at H;have c9b0:((rdOf ByteArray.empty t417 x6_1).toList == a0.toList)=true:=beq_iff_eq.mpr c9;have c9b1:((rdOf ByteArray.empty t417 x6_1).toList != a0.toList)=false:=bne_eq_false_iff_eq.mpr c9;clear c9;by_cases c10:x6_1<(t420.length:Int)
      ·rw[if_pos c10] at H;have c10b0:decide (x6_1<(t420.length:Int))=true:=decide_eq_true c10;clear c10;by_cases c11:0<((rdOf ByteArray.empty t420 x6_1).size:Int)
       ·rw[if_pos c11] at H;have c11b0:decide (0<((rdOf ByteArray.empty t420 x6_1).size:Int))=true:=decide_eq_true c11;have c11b1:decide (0<(rdOf ByteArray.empty t420 x6_1).size)=true:=decide_eq_true (by omega);clear c11;obtain ⟨y425,hy425⟩:∃ y_:List Int,y_=(([]:List Int)):=⟨_,rfl⟩
        replace H:(if 2≤((rdOf ByteArray.empty t420 x6_1).size:Int) then ((spec_l01Split.f k1 ((rdOf ByteArray.empty t420 x6_1).extract 2 (rdOf ByteArray.empty t420 x6_1).size) 44).bind fun t429=>(spec_l01Named.l1 k1 (wrap64 ((wrap64 (bt (rdOf ByteArray.empty t420 x6_1) 0)) - 48)) y425 t429 0)) else (none))=some (r1,r2,r3):=by first|(rw[hy425];with_reducible exact H)|(have H2_:=(Option.bind_some _ _).symm.trans H;rw[hy425];with_reducible exact H2_)|(have H2_:=(Option.bind_some _ _).symm.trans H;with_reducible exact H2_)|with_reducible exact H|(rw[hy425];exact H)|exact H
        have Ny425:=Aside0.mk hy425;clear hy425;by_cases c13:2≤((rdOf ByteArray.empty t420 x6_1).size:Int)
        ·rw[if_pos c13] at H;have c13b0:=eq_true c13;have c13b1:decide (2≤((rdOf ByteArray.empty t420 x6_1).size:Int))=true:=decide_eq_true c13;clear c13;replace H:=Option.bind_eq_some_iff.mp H;obtain ⟨t429,A140,H⟩:=H;replace H:(spec_l01Named.l1 k1 (wrap64 ((wrap64 (bt (rdOf ByteArray.empty t420 x6_1) 0)) - 48)) y425 t429 0)=some (r1,r2,r3):=H;have A14:=Aside0.mk A140;clear A140;have H':=Aside0.mk H;clear H;obtain ⟨Ao15,co15,eo15⟩:=Kd.R_slice HO_4.out;subst eo15;have p423:0≤(x6_1:Int):=dd;have q423:x6_1<(t417.length:Int):=dd;obtain ⟨ad423,e423,hx423_0⟩:=Kd.at_string (Kd.R_reads' HO_4.out).2.2 x6_1 p423 q423;cases e423;replace p423:=eq_true p423;replace q423:=eq_true q423;obtain ⟨Ao16,co16,eo16⟩:=Kd.R_slice HO_5.out;subst eo16;have p424:0≤(x6_1:Int):=dd;have q424:x6_1<(t420.length:Int):=dd;obtain ⟨ad424,e424,hx424_0⟩:=Kd.at_string (Kd.R_reads' HO_5.out).2.2 x6_1 p424 q424;cases e424;replace p424:=eq_true p424;replace q424:=eq_true q424;have p12:0≤(0:Int):=(by omega)
         have q12:0<(rdOf ByteArray.empty t420 x6_1).size:=(by have:(0:Int)<((rdOf ByteArray.empty t420 x6_1).size:Int):=dd;omega)
         have hx12:∀ h:0<(rdOf ByteArray.empty t420 x6_1).size,(((rdOf ByteArray.empty t420 x6_1)[0]'h).toNat:Int)=bt (rdOf ByteArray.empty t420 x6_1) 0:=bt_at (rdOf ByteArray.empty t420 x6_1) 0;clear p12;have qi12:(0<((rdOf ByteArray.empty t420 x6_1).size:Int))=True:=eq_true (dd);replace q12:=eq_true q12;go_wp2_with (first|((with_reducible refine gate_dst (N:=34) rfl ?_);refine Kd.R_lit (Kd.int .i64) _ 2 ?hg (N:=34) ?hd (xs:=([]:List Int)) (inner:= []) (ok:=fun _=>True) (okp:=fun _=>True) ?hr ?hp (fun _ hk=>hk) trivial (Below.refl _ _) (Nat.le_refl _) (by simp) ?_;(case hd=>rfl);(case hg=>rfl);(case hr=>first|(go_simp;done)|(go_simp;rfl));(case hp=>exact(Reps.none _ _));intro v426 w17 ho18 hb hg_ hnew_;clear hg_ hnew_;(first|rw[← Ny425.out] at ho18|(simp only [Int.reduceToNat] at ho18;rw[← Ny425.out] at ho18));replace HO_4:=krA HO_4 hb;replace HO_5:=krA HO_5 hb;have HO427:=klA ho18 HB;replace BK416:=bkA BK416 hb;replace HB:=bsA HB hb;clear hb ho18;have p428:0≤(x6_1:Int):=dd;have q428:x6_1<(t420.length:Int):=dd;obtain ⟨ad428,e428,hx428_0⟩:=Kd.at_string (Kd.R_reads' HO_5.out).2.2 x6_1 p428 q428;obtain rfl:ad424=ad428:=(by injection e428);replace p428:=eq_true p428;replace q428:=eq_true q428)|((with_reducible refine gate_callee (f:=150) rfl ?_);refine gl (some 40) Tryz.func150 #[.string ((rdOf ByteArray.empty t420 x6_1).extract 2 (rdOf ByteArray.empty t420 x6_1).size),.int .u8 44] ?_;(with_reducible refine(spec_l01Split.calls k1 ((rdOf ByteArray.empty t420 x6_1).extract 2 (rdOf ByteArray.empty t420 x6_1).size) 44 t429 _ A14.out).mono ?_);rintro e w19 ⟨v430,rfl,ho0,hb⟩;refine⟨_,rfl,?_⟩;replace HO427:=krA HO427 hb;have HO431:=Aside0.mk (Kd.R_lower (Kd.R_new' (Kd.R_new' ho0 (Kd.R_lt (kr HO_4.out))) (Kd.R_lt (kr HO_5.out))) (below_size (bl HB.out)));replace HO_4:=Aside0.mk (Kd.R_elder' (kr HO_4.out) (Kd.R_base ho0) hb);replace HO_5:=Aside0.mk (Kd.R_elder' (kr HO_5.out) (Kd.R_base ho0) hb);replace BK416:=bkA BK416 hb;replace HB:=bsA HB hb;(try clear hb);(try clear hb2);(try clear hk);(try clear hi);(try clear ho0)))
         go_loopg [8,10] k1 (fun kq v8 v10 w'=>∃(x8_2:List Int) (x10_2:Int),v10 = .int .i64 x10_2∧Aside0 (spec_l01Named.l1 kq (wrap64 ((wrap64 (bt (rdOf ByteArray.empty t420 x6_1) 0)) - 48)) x8_2 t429 x10_2=some (r1,r2,r3))∧Aside0 (kq≤k1)∧Aside0 (Kd.R (Kd.int .i64) 2 w' w.heap.size (fun _=>True) v8 x8_2)∧Aside0 (Kd.R Kd.string 9 w' w.heap.size (fun _=>True) v430 t429)∧Aside0 (w'.heap[gb416]?=some (.cells #[.int .i64 x417000_1,(.slice none 0 0)] 26 (0,0)))∧Aside0 (Below w.heap.size w w'))
         case atStart=>exact⟨(y425),(0),rs,H',⟨Nat.le_refl _⟩,⟨kr HO427.out⟩,⟨by(with_reducible repeat(first|apply Kd.R_alloc|apply Kd.R_drewN|apply Kd.R_drew));exact Kd.R_mono HO431.out (fun _ hk=>trivial)⟩,⟨bk BK416.out⟩,⟨bl HB.out⟩⟩
         case round=>
          clear H';try clear c1
          try clear p1
          try clear q1
          try clear hx1
          try clear qi1
          try clear p2
          try clear p4
          try clear q4
          try clear hx4
          try clear p6
          try clear c7
          try clear c7b0
          try clear c8
          try clear c8b0
          try clear c9
          try clear c9b0
          try clear c9b1
          try clear c10
          try clear c10b0
          try clear c11
          try clear c11b0
          try clear c11b1
          try clear c12
          try clear p12
          try clear q12
          try clear hx12
          try clear qi12
          try clear c13
          try clear c13b0
          try clear c13b1
          try clear c14
          try clear c15
          try clear hx423_0
          try clear hx424_0
          try clear hx428_0
          try clear p12
          try clear p2
          try clear p423
          try clear p424
          try clear p428
          try clear q12
          try clear q423
          try clear q424
          try clear q428
          obtain ⟨x8_2,x10_2,rfl,HA,HK2,HO_8,HO_9,BK416,HB⟩:=hrel;cases gk with
          |zero=>exact absurd HA.out (by simp [spec_l01Named.l1])
          |succ k2=>
           have H:=HA.out;clear HA;simp only [spec_l01Named.l1] at H;by_cases c20:x10_2<(t429.length:Int)
           ·rw[if_pos c20] at H;have c20b0:decide (x10_2<(t429.length:Int))=true:=decide_eq_true c20;clear c20;by_cases c21:0≤x10_2
            ·rw[if_pos c21] at H;have c21b0:decide (0≤x10_2)=true:=decide_eq_true c21;clear c21;replace H:=Option.bind_eq_some_iff.mp H;obtain ⟨⟨t433,t434⟩,A220,H⟩:=H;replace H:(if x8_2.length<17592186044416 then (spec_l01Named.l1 k2 (wrap64 ((wrap64 (bt (rdOf ByteArray.empty t420 x6_1) 0)) - 48)) (x8_2 ++ [t433]) t429 (wrap64 (x10_2+1))) else (none))=some (r1,r2,r3):=H;have A22:=Aside0.mk A220;clear A220;by_cases c23:x8_2.length<17592186044416
             ·rw[if_pos c23] at H;have LMc23:=Aside0.mk c23;clear c23;obtain ⟨y435,hy435⟩:∃ y_:List Int,y_=(x8_2 ++ [t433]):=⟨_,rfl⟩
              replace H:(spec_l01Named.l1 k2 (wrap64 ((wrap64 (bt (rdOf ByteArray.empty t420 x6_1) 0)) - 48)) y435 t429 (wrap64 (x10_2+1)))=some (r1,r2,r3):=by first|(rw[hy435];with_reducible exact H)|(have H2_:=(Option.bind_some _ _).symm.trans H;rw[hy435];with_reducible exact H2_)|(have H2_:=(Option.bind_some _ _).symm.trans H;with_reducible exact H2_)|with_reducible exact H|(rw[hy435];exact H)|exact H
              have Ny435:=Aside0.mk hy435;clear hy435;have H':=Aside0.mk H;clear H;obtain ⟨Ao24,co24,eo24⟩:=Kd.R_slice HO_9.out;subst eo24;have p432:0≤(x10_2:Int):=dd;have q432:x10_2<(t429.length:Int):=dd;obtain ⟨ad432,e432,hx432_0⟩:=Kd.at_string (Kd.R_reads' HO_9.out).2.2 x10_2 p432 q432;cases e432;replace p432:=eq_true p432;replace q432:=eq_true q432;go_wp2_with (first|((with_reducible refine gate_callee (f:=151) rfl ?_);refine gl (some 53) Tryz.func151 #[.string (rdOf ByteArray.empty t429 x10_2),.int .i64 (wrap64 ((wrap64 (bt (rdOf ByteArray.empty t420 x6_1) 0)) - 48))] ?_;(with_reducible refine(spec_l01Set.calls k2 (rdOf ByteArray.empty t429 x10_2) (wrap64 ((wrap64 (bt (rdOf ByteArray.empty t420 x6_1) 0)) - 48)) t433 t434 _ A22.out).mono ?_);rintro e w' ⟨rfl,⟨nd,rfl⟩⟩;refine⟨_,rfl,?_⟩)|((with_reducible refine gate_builtin (b:= .append) (xs:=#[.tmp 56,.tmp 58]) rfl ?_);at_builtin;refine Kd.R_append (Kd.int .i64) (w0:=w) w.heap.size rfl (.tmp 56) (.tmp 58) 24 2 (.int .i64 0) 8 rfl Tryz.underlying24 info2 rfl (by decide) (by omega) u8 x8_2 t433 [.int .i64 t433] (fun _=>True) (fun _=>False) rfl rfl ?aP (fun _ hk=>hk.elim) ?aF ?aO ?aB ?aS ?aL ?_;(case aP=>exact rfl);(case aB=>exact(bl HB.out));(case aF=>exact(fun _ _=>trivial));(case aO=>exact(kr HO_8.out));(case aS=>exact(below_size (bl HB.out)));(case aL=>have:=LMc23.out;omega);intro v436 w25 ho hb hg hat;rw[← Ny435.out] at ho;have n0_:=Aside0.mk (Kd.R_over' (kr HO_9.out) (Kd.R_typed (kr HO_8.out)) (by decide) hg);have n1_:=Aside0.mk (blk_grown (bk BK416.out) hg (Kd.R_ne HO_8.out BK416.out (by decide)));have n2_:=Aside0.mk (hb);have n3_:=Aside0.mk (ho);clear HO_9;clear BK416;clear HB;clear HO_8;have HO_9:=n0_;have BK416:=n1_;have HB:=n2_;have HO437:=n3_;clear n0_ n1_ n2_ n3_;clear ho hb hg hat))
              go_roundg k2
              case measure=>have:=HK1.out;have:=HK2.out;omega
              case rel=>exact⟨(y435),(wrap64 (x10_2+1)),rs,H',⟨by have:=HK1.out;have:=HK2.out;omega⟩,⟨kr HO437.out⟩,⟨kr HO_9.out⟩,⟨bk BK416.out⟩,⟨bl HB.out⟩⟩
             ·rw[if_neg c23] at H;exact absurd H (by simp)
            ·rw[if_neg c21] at H;exact absurd H (by simp)
           ·rw[if_neg c20] at H;have c20b0:decide (x10_2<(t429.length:Int))=false:=decide_eq_false c20;clear c20;replace H:=Option.bind_eq_some_iff.mp H;obtain ⟨⟨t438,t439⟩,A260,H⟩:=H;replace H:(some (t438,t439,true))=some (r1,r2,r3):=H;have A26:=Aside0.mk A260;clear A260;simp only [Option.some.injEq,Prod.mk.injEq] at H;obtain ⟨rfl,rfl,rfl⟩:=H;obtain ⟨Ao27,co27,eo27⟩:=Kd.R_slice HO_9.out;subst eo27;obtain ⟨Ao28,co28,eo28⟩:=Kd.R_slice HO_8.out;subst eo28;go_wp2_with (first|((with_reducible refine gate_callee (f:=124) rfl ?_);refine gl (some 62) Tryz.func124 #[.int .i64 (wrap64 ((wrap64 (bt (rdOf ByteArray.empty t420 x6_1) 0)) - 48)),.slice Ao28 x8_2.length co28] ?_;(with_reducible refine(spec_l01Made.calls k2 (wrap64 ((wrap64 (bt (rdOf ByteArray.empty t420 x6_1) 0)) - 48)) _ _ x8_2 t438 t439 _ (cb (Kd.R_reads' HO_8.out).2.2) ((Kd.R_reads' HO_8.out).2.1) A26.out).mono ?_);rintro e w29 ⟨v440,rfl,ho0,hb⟩;refine⟨_,rfl,?_⟩;replace HO_9:=krA HO_9 hb;have HO441:=Aside0.mk (Kd.R_lower (Kd.R_new' ho0 (Kd.R_lt (kr HO_8.out))) (below_size (bl HB.out)));replace HO_8:=Aside0.mk (Kd.R_elder' (kr HO_8.out) (Kd.R_base ho0) hb);replace BK416:=bkA BK416 hb;replace HB:=bsA HB hb;(try clear hb);(try clear hb2);(try clear hk);(try clear hi);(try clear ho0);have hcz30_0:=z0_ BK416;have hcz30_1:=z1_ BK416;have hfz30_0:=hf_ BK416 0;have hfz30_1:=hf_ BK416 1;obtain ⟨Ao31,co31,eo31⟩:=Kd.R_slice HO441.out;subst eo31))
            refine bodyPost_ret (results_ct rfl _ _ gb416 26 #[.int .i64 t438,.slice Ao31 t439.length co31] (0,0) _ rfl (bp BK416.out) Tryz.underlying26 rfl (by kernel_rfl)) rfl ?_;exact⟨_,rr,by(with_reducible repeat(first|apply Kd.R_alloc|apply Kd.R_drewN|apply Kd.R_drew));exact Kd.R_mono (Kd.R_far (p:=⟨gb416,1,none⟩) (Kd.R_far (p:=⟨gb416,0,none⟩) (Kd.R_types HO441.out BK416.out (by decide)) (fun _ hk=>hk.2) (.int .i64 t438)) (fun _ hk=>hk.2) (.slice Ao31 t439.length co31)) (fun _ hk=>trivial),bl HB.out⟩
        ·rw[if_neg c13] at H;exact absurd H (by simp)
       ·rw[if_neg c11] at H;exact absurd H (by simp)
      ·rw[if_neg c10] at H;exact absurd H (by simp)
     ·rw[if_neg c9] at H;have c9b0:((rdOf ByteArray.empty t417 x6_1).toList == a0.toList)=false:=beq_eq_false_iff_ne.mpr c9;have c9b1:((rdOf ByteArray.empty t417 x6_1).toList != a0.toList)=true:=bne_iff_ne.mpr c9;have H':=Aside0.mk H;clear H;obtain ⟨Ao32,co32,eo32⟩:=Kd.R_slice HO_4.out;subst eo32;have p423:0≤(x6_1:Int):=dd;have q423:x6_1<(t417.length:Int):=dd;obtain ⟨ad423,e423,hx423_0⟩:=Kd.at_string (Kd.R_reads' HO_4.out).2.2 x6_1 p423 q423;cases e423;replace p423:=eq_true p423;replace q423:=eq_true q423;go_wp2
      go_roundg k1
      case measure=>have:=HK1.out;omega
      case rel=>exact⟨(wrap64 (x6_1+1)),(x417000_1),rs,H',⟨by have:=HK1.out;omega⟩,⟨kr HO_4.out⟩,⟨kr HO_5.out⟩,⟨bk BK416.out⟩,⟨bl HB.out⟩⟩
    ·rw[if_neg c8] at H;exact absurd H (by simp)
   ·rw[if_neg c7] at H;have c7b0:decide (x6_1<(t417.length:Int))=false:=decide_eq_false c7;clear c7;simp only [Option.some.injEq,Prod.mk.injEq] at H;obtain ⟨rfl,rfl,rfl⟩:=H;obtain ⟨Ao33,co33,eo33⟩:=Kd.R_slice HO_4.out;subst eo33;have hcz34_0:=z0_ BK416;have hcz34_1:=z1_ BK416;have hfz34_0:=hf_ BK416 0;have hfz34_1:=hf_ BK416 1;go_wp2
    refine bodyPost_ret (results_ct rfl _ _ gb416 26 #[.int .i64 0,.slice none 0 0] (0,0) _ rfl (bp BK416.out) Tryz.underlying26 rfl (by kernel_rfl)) rfl ?_;exact⟨_,rr,by first|exact Kd.R_nil _ _ _ _ _|exact Kd.N_nil _ _ _ _ _|exact Kd.V_nil _ _ _ _ _|exact Kd.Q_nil _ _ _ _ _|exact Kd.S_nil _ _ _ _ _,bl HB.out⟩
end Go.Proofs.YtbnnamejnjfkjaaGreat.Q
end

section
namespace Go.Proofs.YtbnnamejnjfkjaaGreat.R
open Go.RowKit Go.Proofs.YtbnnamejnjfkjaaGreat.Q Go.Proofs.YtbnnamejnjfkjaaGreat.X Go.Proofs.YtbnnamejnjfkjaaGreatW.PrintWords Go.Proofs.YtbnnamejnjfkjaaGreatW.PrintLast Go.Proofs.YtbnnamejnjfkjaaGreatW.PrintMore
attribute [local go_sem] max2_int min2_int max_two min_two max_three min_three max_four min_four
set_option linter.unusedVariables false
set_option linter.unusedSimpArgs false
def spec_l01Draw.f (k:Nat) (s0_0:List Int) (s0_1:Int) (s0_2:Int):Option (Int×List Int×Int×Int):=(spec_l01Next.f s0_0 s0_1 s0_2 3).bind fun bt102=>(if bt102.1=0 then ((spec_l01Names.f).bind fun t105=>((spec_l01Next.f s0_0 bt102.2.1 bt102.2.2 (t105.length:Int)).bind fun bt108=>(if 0≤bt108.1 then (if bt108.1<(t105.length:Int) then ((spec_l01Named.f k (rdOf ByteArray.empty t105 bt108.1)).bind fun bt112=>((spec_l01DrawOrder.f s0_0 bt108.2.1 bt108.2.2 bt112.1).bind fun bt118=>((spec_l01Renamed.f k bt112.1 bt112.2.1 bt118.1).bind fun bt123=>(some (bt123.1,bt123.2,bt118.2.1,bt118.2.2))))) else (none)) else (none)))) else ((spec_l01Pick.f s0_0 bt102.2.1 bt102.2.2 (([1,2,3,4,4,5,5,6,6]:List Int))).bind fun bt130=>((spec_l01DrawOf.f k s0_0 bt130.2.1 bt130.2.2 bt130.1).bind fun bt133=>(some (bt133.1,bt133.2.1,bt133.2.2.1,bt133.2.2.2)))))
theorem spec_l01Draw.mono:∀ a0 a1 a2 k,LeO (spec_l01Draw.f k a0 a1 a2) (spec_l01Draw.f (k+1) a0 a1 a2):=by
 intro a0 a1 a2 k;unfold spec_l01Draw.f;repeat' first
   |(with_reducible first|exact spec_l01DrawOf.mono _ _ _ _ _|exact spec_l01Named.mono _ _|exact spec_l01Renamed.mono _ _ _ _|exact LeO.refl _|exact LeO.none _|refine LeO.ite ?_ ?_|refine LeO.bind ?_ (fun _=>?_))
set_option maxHeartbeats 8000000 in
set_option maxRecDepth 100000 in
theorem spec_l01Draw.calls (k:Nat) (g:Nat) (s0_0:List Int) (s0_1:Int) (s0_2:Int) (r1:Int) (r2:List Int) (r3:Int) (r4:Int) (w0 w:World) (hI:IsS92 w0 w g s0_0 s0_1 s0_2) (hB:Below w0.heap.size w0 w) (h:spec_l01Draw.f k s0_0 s0_1 s0_2=some (r1,r2,r3,r4)) :
  Calls Tryz.prog 75 #[.pointer (some ⟨g,0,none⟩)] w fun e w'=>∃ v1_:Value,e = .returned (.agg #[.int .i64 r1,v1_])∧Kd.R (Kd.int .i64) 2 w' w.heap.size (fun _=>True) v1_ r2∧IsS92 w0 w' g s0_0 r3 r4∧Below w0.heap.size w0 w'∧KeepBut w w' g none:=by
 have hu26:=Tryz.underlying26;have HI0:=Aside0.mk hI;have HK:=Aside0.mk (KeepBut.refl w g none);have HL:=Aside0.mk hB.size;clear hI;have HW0:=Aside0.mk hB.size;have HB:=Aside0.mk hB;clear hB;have H:((spec_l01Next.f s0_0 s0_1 s0_2 3).bind fun bt102=>(if bt102.1=0 then ((spec_l01Names.f).bind fun t105=>((spec_l01Next.f s0_0 bt102.2.1 bt102.2.2 (t105.length:Int)).bind fun bt108=>(if 0≤bt108.1 then (if bt108.1<(t105.length:Int) then ((spec_l01Named.f k (rdOf ByteArray.empty t105 bt108.1)).bind fun bt112=>((spec_l01DrawOrder.f s0_0 bt108.2.1 bt108.2.2 bt112.1).bind fun bt118=>((spec_l01Renamed.f k bt112.1 bt112.2.1 bt118.1).bind fun bt123=>(some (bt123.1,bt123.2,bt118.2.1,bt118.2.2))))) else (none)) else (none)))) else ((spec_l01Pick.f s0_0 bt102.2.1 bt102.2.2 (([1,2,3,4,4,5,5,6,6]:List Int))).bind fun bt130=>((spec_l01DrawOf.f k s0_0 bt130.2.1 bt130.2.2 bt130.1).bind fun bt133=>(some (bt133.1,bt133.2.1,bt133.2.2.1,bt133.2.2.2))))))=some (r1,r2,r3,r4):=h;clear h;replace H:=Option.bind_eq_some_iff.mp H;obtain ⟨⟨t102,t103,t104⟩,A20,H⟩:=H;replace H:(if t102=0 then ((spec_l01Names.f).bind fun t105=>((spec_l01Next.f s0_0 t103 t104 (t105.length:Int)).bind fun bt108=>(if 0≤bt108.1 then (if bt108.1<(t105.length:Int) then ((spec_l01Named.f k (rdOf ByteArray.empty t105 bt108.1)).bind fun bt112=>((spec_l01DrawOrder.f s0_0 bt108.2.1 bt108.2.2 bt112.1).bind fun bt118=>((spec_l01Renamed.f k bt112.1 bt112.2.1 bt118.1).bind fun bt123=>(some (bt123.1,bt123.2,bt118.2.1,bt118.2.2))))) else (none)) else (none)))) else ((spec_l01Pick.f s0_0 t103 t104 (([1,2,3,4,4,5,5,6,6]:List Int))).bind fun bt130=>((spec_l01DrawOf.f k s0_0 bt130.2.1 bt130.2.2 bt130.1).bind fun bt133=>(some (bt133.1,bt133.2.1,bt133.2.2.1,bt133.2.2.2)))))=some (r1,r2,r3,r4):=H;have A2:=Aside0.mk A20;clear A20;by_cases c3:t102=0
 ·rw[if_pos c3] at H;have c3b0:(t102 == 0)=true:=beq_iff_eq.mpr c3;have c3b1:(t102 != 0)=false:=bne_eq_false_iff_eq.mpr c3;clear c3;replace H:=Option.bind_eq_some_iff.mp H;obtain ⟨t105,A40,H⟩:=H;replace H:((spec_l01Next.f s0_0 t103 t104 (t105.length:Int)).bind fun bt108=>(if 0≤bt108.1 then (if bt108.1<(t105.length:Int) then ((spec_l01Named.f k (rdOf ByteArray.empty t105 bt108.1)).bind fun bt112=>((spec_l01DrawOrder.f s0_0 bt108.2.1 bt108.2.2 bt112.1).bind fun bt118=>((spec_l01Renamed.f k bt112.1 bt112.2.1 bt118.1).bind fun bt123=>(some (bt123.1,bt123.2,bt118.2.1,bt118.2.2))))) else (none)) else (none)))=some (r1,r2,r3,r4):=H;have A4:=Aside0.mk A40;clear A40;replace H:=Option.bind_eq_some_iff.mp H;obtain ⟨⟨t108,t109,t110⟩,A50,H⟩:=H;replace H:(if 0≤t108 then (if t108<(t105.length:Int) then ((spec_l01Named.f k (rdOf ByteArray.empty t105 t108)).bind fun bt112=>((spec_l01DrawOrder.f s0_0 t109 t110 bt112.1).bind fun bt118=>((spec_l01Renamed.f k bt112.1 bt112.2.1 bt118.1).bind fun bt123=>(some (bt123.1,bt123.2,bt118.2.1,bt118.2.2))))) else (none)) else (none))=some (r1,r2,r3,r4):=H;have A5:=Aside0.mk A50;clear A50;by_cases c6:0≤t108
  ·rw[if_pos c6] at H;have c6b0:decide (0≤t108)=true:=decide_eq_true c6;clear c6;by_cases c7:t108<(t105.length:Int)
   ·rw[if_pos c7] at H;have c7b0:decide (t108<(t105.length:Int))=true:=decide_eq_true c7;clear c7;replace H:=Option.bind_eq_some_iff.mp H;obtain ⟨⟨t112,t113,t116⟩,A80,H⟩:=H;replace H:((spec_l01DrawOrder.f s0_0 t109 t110 t112).bind fun bt118=>((spec_l01Renamed.f k t112 t113 bt118.1).bind fun bt123=>(some (bt123.1,bt123.2,bt118.2.1,bt118.2.2))))=some (r1,r2,r3,r4):=H;have A8:=Aside0.mk A80;clear A80;replace H:=Option.bind_eq_some_iff.mp H;obtain ⟨⟨t118,t121,t122⟩,A90,H⟩:=H;replace H:((spec_l01Renamed.f k t112 t113 t118).bind fun bt123=>(some (bt123.1,bt123.2,t121,t122)))=some (r1,r2,r3,r4):=H;have A9:=Aside0.mk A90;clear A90;replace H:=Option.bind_eq_some_iff.mp H;obtain ⟨⟨t123,t124⟩,A100,H⟩:=H;replace H:(some (t123,t124,t121,t122))=some (r1,r2,r3,r4):=H;have A10:=Aside0.mk A100;clear A100;simp only [Option.some.injEq,Prod.mk.injEq] at H;obtain ⟨rfl,rfl,rfl,rfl⟩:=H;go_enter Tryz.func75,Tryz.ntmps75;try go_wp2_with (first|((with_reducible refine gate_dst (N:=2) rfl ?_);refine bx 2 #[.int .i64 0,.slice none 0 0] 26 ?_;intro gb101 hg w11 hbox hb;replace HB:=Aside0.mk (below_step (blg HB.out (IsS92.ge HI0.out)) hb);have BK101:=Aside0.mk (hbox);have GW101:=Aside0.mk ((by rw[hg];exact(keep_size (w:=w) (g:=g) (row:=none) (kp HK.out)):w.heap.size≤gb101));have GE101:=Aside0.mk ((Nat.le_trans HW0.out (by rw[hg];exact(keep_size (w:=w) (g:=g) (row:=none) (kp HK.out)):w.heap.size≤gb101):w0.heap.size≤gb101));replace HK:=Aside0.mk (KeepBut.trans (kp HK.out) (KeepBut.of_below hb g none) (.inl rfl));have NB0_101:=Aside0.mk ((by rw[hg];exact Nat.ne_of_lt (IsS92.lt (show IsS92 w0 _ g s0_0 s0_1 s0_2 from IsS92.ch HI0.out)):g≠gb101));have NB101_0:=Aside0.mk ((by rw[hg];exact Nat.ne_of_gt (IsS92.lt (show IsS92 w0 _ g s0_0 s0_1 s0_2 from IsS92.ch HI0.out)):gb101≠g));replace HI0:=Aside0.mk (IsS92.below (IsS92.ch HI0.out) hb);clear hb hbox hg)|((with_reducible refine gate_callee (f:=67) rfl ?_);refine gl (some 7) Tryz.func67 #[.pointer (some ⟨g,0,none⟩),.int .i64 3] ?_;(with_reducible refine(spec_l01Next.calls g s0_0 s0_1 s0_2 3 t102 t103 t104 w0 _ (IsS92.ch HI0.out) (blg HB.out (IsS92.ge HI0.out)) A2.out).mono ?_);rintro e w12 ⟨rfl,hi,hb,hk⟩;refine⟨_,rfl,?_⟩;replace BK101:=Aside0.mk (kbk hk (bk BK101.out) NB101_0.out);replace HK:=Aside0.mk (KeepBut.trans (kp HK.out) hk (.inl rfl));replace HB:=Aside0.mk (hb);replace HI0:=Aside0.mk (hi);(try clear hb);(try clear hb2);(try clear hk);(try clear hi))|((with_reducible refine gate_callee (f:=126) rfl ?_);refine gl (some 9) Tryz.func126 #[] ?_;(with_reducible refine(spec_l01Names.calls  t105 _ A4.out).mono ?_);rintro e w13 ⟨v106,rfl,ho0,hb⟩;refine⟨_,rfl,?_⟩;have HO107:=Aside0.mk (Kd.R_lower ho0 (keep_size (w:=w) (g:=g) (row:=none) (kp HK.out)));replace BK101:=bkA BK101 hb;replace HK:=Aside0.mk (KeepBut.trans (kp HK.out) (KeepBut.of_below hb g none) (.inl rfl));replace HB:=Aside0.mk (below_step (blg HB.out (IsS92.ge HI0.out)) hb);replace HI0:=Aside0.mk (IsS92.below (IsS92.ch HI0.out) hb);(try clear hb);(try clear hb2);(try clear hk);(try clear hi);(try clear ho0);obtain ⟨Ao14,co14,eo14⟩:=Kd.R_slice HO107.out;subst eo14)|((with_reducible refine gate_callee (f:=67) rfl ?_);refine gl (some 15) Tryz.func67 #[.pointer (some ⟨g,0,none⟩),.int .i64 (t105.length:Int)] ?_;(with_reducible refine(spec_l01Next.calls g s0_0 t103 t104 (t105.length:Int) t108 t109 t110 w0 _ (IsS92.ch HI0.out) (blg HB.out (IsS92.ge HI0.out)) A5.out).mono ?_);rintro e w15 ⟨rfl,hi,hb,hk⟩;refine⟨_,rfl,?_⟩;replace BK101:=Aside0.mk (kbk hk (bk BK101.out) NB101_0.out);replace HO107:=Aside0.mk (Kd.R_mono (Kd.R_keep (IsS92.apart (show IsS92 w0 _ g s0_0 t103 t104 from IsS92.ch HI0.out) (kr HO107.out) (by decide)) hk (fun _ h=>h.2)) (fun _ h=>h.1));replace HK:=Aside0.mk (KeepBut.trans (kp HK.out) hk (.inl rfl));replace HB:=Aside0.mk (hb);replace HI0:=Aside0.mk (hi);(try clear hb);(try clear hb2);(try clear hk);(try clear hi);have p111:0≤(t108:Int):=dd;have q111:t108<(t105.length:Int):=dd;obtain ⟨ad111,e111,hx111_0⟩:=Kd.at_string (Kd.R_reads' HO107.out).2.2 t108 p111 q111;cases e111;replace p111:=eq_true p111;replace q111:=eq_true q111)|((with_reducible refine gate_callee (f:=127) rfl ?_);refine gl (some 18) Tryz.func127 #[.string (rdOf ByteArray.empty t105 t108)] ?_;(with_reducible refine(spec_l01Named.calls k (rdOf ByteArray.empty t105 t108) t112 t113 t116 _ A8.out).mono ?_);rintro e w16 ⟨v114,rfl,ho0,hb⟩;refine⟨_,rfl,?_⟩;replace HO107:=krA HO107 hb;have HO115:=Aside0.mk (Kd.R_lower ho0 (keep_size (w:=w) (g:=g) (row:=none) (kp HK.out)));replace BK101:=bkA BK101 hb;replace HK:=Aside0.mk (KeepBut.trans (kp HK.out) (KeepBut.of_below hb g none) (.inl rfl));replace HB:=Aside0.mk (below_step (blg HB.out (IsS92.ge HI0.out)) hb);replace HI0:=Aside0.mk (IsS92.below (IsS92.ch HI0.out) hb);(try clear hb);(try clear hb2);(try clear hk);(try clear hi);(try clear ho0))|((with_reducible refine gate_dst (N:=4) rfl ?_);refine bx 4 #[.int .i64 0,.slice none 0 0] 26 ?_;intro gb117 hg w17 hbox hb;replace HO107:=krA HO107 hb;replace HO115:=krA HO115 hb;replace HB:=Aside0.mk (below_step (blg HB.out (IsS92.ge HI0.out)) hb);have BK117:=Aside0.mk (hbox);have GW117:=Aside0.mk ((by rw[hg];exact(keep_size (w:=w) (g:=g) (row:=none) (kp HK.out)):w.heap.size≤gb117));have GE117:=Aside0.mk ((Nat.le_trans HW0.out (by rw[hg];exact(keep_size (w:=w) (g:=g) (row:=none) (kp HK.out)):w.heap.size≤gb117):w0.heap.size≤gb117));replace HK:=Aside0.mk (KeepBut.trans (kp HK.out) (KeepBut.of_below hb g none) (.inl rfl));have NB101_117:=nlA hg BK101;have NB117_101:=ngA hg BK101;replace BK101:=bkA BK101 hb;have NB0_117:=Aside0.mk ((by rw[hg];exact Nat.ne_of_lt (IsS92.lt (show IsS92 w0 _ g s0_0 t109 t110 from IsS92.ch HI0.out)):g≠gb117));have NB117_0:=Aside0.mk ((by rw[hg];exact Nat.ne_of_gt (IsS92.lt (show IsS92 w0 _ g s0_0 t109 t110 from IsS92.ch HI0.out)):gb117≠g));replace HI0:=Aside0.mk (IsS92.below (IsS92.ch HI0.out) hb);clear hb hbox hg;have hnb18:=NB117_101.out;have hnc18:=NB101_117.out;have hnb19:=NB117_0.out;have hnc19:=NB0_117.out;have hcz20_0:=z0_ BK117;have hcz20_1:=z1_ BK117;have hfz20_0:=hf_ BK117 0;have hfz20_1:=hf_ BK117 1;obtain ⟨Ao21,co21,eo21⟩:=Kd.R_slice HO115.out;subst eo21))
    have n0_:Aside0 (Kd.R Kd.string 9 ((w17.setCell ⟨gb117,0,none⟩ (.int .i64 t112)).setCell ⟨gb117,1,none⟩ (.slice Ao21 t113.length co21)) w.heap.size (fun _=>True) (.slice (some ad111) t105.length co14) t105):=⟨by(with_reducible repeat(first|apply Kd.R_alloc|apply Kd.R_drewN|apply Kd.R_drew));exact Kd.R_mono (Kd.R_far (p:=⟨gb117,1,none⟩) (Kd.R_far (p:=⟨gb117,0,none⟩) (Kd.R_types HO107.out BK117.out (by decide)) (fun _ hk=>hk.2) (.int .i64 t112)) (fun _ hk=>hk.2) (.slice Ao21 t113.length co21)) (fun _ hk=>trivial)⟩
    have n1_:Aside0 (Kd.R (Kd.int .i64) 2 ((w17.setCell ⟨gb117,0,none⟩ (.int .i64 t112)).setCell ⟨gb117,1,none⟩ (.slice Ao21 t113.length co21)) w.heap.size (fun _=>True) (.slice Ao21 t113.length co21) t113):=⟨by(with_reducible repeat(first|apply Kd.R_alloc|apply Kd.R_drewN|apply Kd.R_drew));exact Kd.R_mono (Kd.R_far (p:=⟨gb117,1,none⟩) (Kd.R_far (p:=⟨gb117,0,none⟩) (Kd.R_types HO115.out BK117.out (by decide)) (fun _ hk=>hk.2) (.int .i64 t112)) (fun _ hk=>hk.2) (.slice Ao21 t113.length co21)) (fun _ hk=>trivial)⟩
    have n2_:Aside0 (((w17.setCell ⟨gb117,0,none⟩ (.int .i64 t112)).setCell ⟨gb117,1,none⟩ (.slice Ao21 t113.length co21)).heap[gb101]?=some (.cells #[.int .i64 0,.slice none 0 0] 26 (0,0))):=⟨bp BK101.out⟩
    have n3_:Aside0 (((w17.setCell ⟨gb117,0,none⟩ (.int .i64 t112)).setCell ⟨gb117,1,none⟩ (.slice Ao21 t113.length co21)).heap[gb117]?=some (.cells #[.int .i64 t112,.slice Ao21 t113.length co21] 26 (0,0))):=⟨bp BK117.out⟩
    have n4_:Aside0 (IsS92 w0 ((w17.setCell ⟨gb117,0,none⟩ (.int .i64 t112)).setCell ⟨gb117,1,none⟩ (.slice Ao21 t113.length co21)) g s0_0 t109 t110):=⟨IsS92.ch HI0.out⟩
    have n5_:Aside0 (KeepBut w ((w17.setCell ⟨gb117,0,none⟩ (.int .i64 t112)).setCell ⟨gb117,1,none⟩ (.slice Ao21 t113.length co21)) g none):=⟨kp HK.out⟩
    have n6_:Aside0 (Below w0.heap.size w0 ((w17.setCell ⟨gb117,0,none⟩ (.int .i64 t112)).setCell ⟨gb117,1,none⟩ (.slice Ao21 t113.length co21))):=⟨blg HB.out (IsS92.ge HI0.out)⟩
    (try clear HO107)
    (try clear HO115)
    (try clear BK101)
    (try clear BK117)
    (try clear HI0)
    (try clear HK)
    (try clear HB)
    generalize ((w17.setCell ⟨gb117,0,none⟩ (.int .i64 t112)).setCell ⟨gb117,1,none⟩ (.slice Ao21 t113.length co21))=w22 at n0_ n1_ n2_ n3_ n4_ n5_ n6_ ⊢;have HO107:=n0_;have HO115:=n1_;have BK101:=n2_;have BK117:=n3_;have HI0:=n4_;have HK:=n5_;have HB:=n6_;clear n0_ n1_ n2_ n3_ n4_ n5_ n6_;replace HO107:=Aside0.mk (Kd.R_drew HO107.out);replace HO115:=Aside0.mk (Kd.R_drew HO115.out);replace BK101:=Aside0.mk (blk_drew BK101.out);replace BK117:=Aside0.mk (blk_drew BK117.out);replace HI0:=Aside0.mk (IsS92.drew HI0.out);replace HK:=Aside0.mk (keep_drew HK.out);replace HB:=Aside0.mk (below_drew1 HB.out);refine start_ (n:=7) (S:=fun w'=>w'.cell? ⟨gb117,0,none⟩=some (.int .i64 t112)∧w'.cell? ⟨gb117,1,none⟩=some (.slice Ao21 t113.length co21)) (ds:= []) (ar 0 7) (by kernel_rfl) rfl rfl ⟨(blk_cell BK117.out 0).trans rfl,(blk_cell BK117.out 1).trans rfl⟩ (fun hHeld=>?_);generalize w22.drew=w23 at HO107 HO115 BK101 BK117 HI0 HK HB hHeld ⊢;refine pure_ (i:=1) (N:=some 22) (v:=?_) (a':=?_) #[O,U,O,O,O,O,O] rfl rfl (by kernel_rfl) hh_ (Or.inl ⟨by rfl,?_⟩) ?_ ?_;rotate_left
    ·intro w';go_simp;with_reducible rfl
    rotate_left
    ·simp only [nm_];rfl
    refine pure_ (i:=2) (N:=some 23) (v:=?_) (a':=?_) #[O,U,U,O,O,O,O] rfl rfl (by kernel_rfl) hh_ (Or.inl ⟨by rfl,?_⟩) ?_ ?_;rotate_left
    ·intro w';go_simp;with_reducible rfl
    rotate_left
    ·simp only [nm_];rfl
    refine take_ (i:=0) (N:=some 21) (v:=?_) (a':=?_) (ar 3 4) rfl rfl (by kernel_rfl) hh_ (Or.inl ⟨by rfl,?_⟩) hHeld ?_ ?_;rotate_left
    ·rintro w' ⟨s0,s1⟩;go_simp;with_reducible rfl
    rotate_left
    ·simp only [nm_];rfl
    refine take_ (i:=3) (N:=some 24) (v:=?_) (a':=?_) (ar 4 3) rfl rfl (by kernel_rfl) hh_ (Or.inl ⟨by rfl,?_⟩) hHeld ?_ ?_;rotate_left
    ·rintro w' ⟨s0,s1⟩;go_simp;with_reducible rfl
    rotate_left
    ·simp only [nm_];rfl
    refine one_ (i:=4) (N:=some 25) (ar 5 2) rfl rfl (by kernel_rfl) (by decide) (fun K hK=>?_);refine gr Tryz.func80 #[.pointer (some ⟨g,0,none⟩),.int .i64 t112] ?_;with_reducible refine(spec_l01DrawOrder.calls g s0_0 t109 t110 t112 t118 t121 t122 w0 _ (IsS92.ch HI0.out) (blg HB.out (IsS92.ge HI0.out)) A9.out).mono ?_
    rintro e w24 ⟨v119,rfl,ho0,hi,hb,hk⟩;refine⟨_,rfl,?_⟩;replace BK101:=Aside0.mk (kbk hk (bk BK101.out) NB101_0.out);replace HO107:=Aside0.mk (Kd.R_mono (Kd.R_keep (IsS92.apart (show IsS92 w0 _ g s0_0 t109 t110 from IsS92.ch HI0.out) (kr HO107.out) (by decide)) hk (fun _ h=>h.2)) (fun _ h=>h.1));replace BK117:=Aside0.mk (kbk hk (bk BK117.out) NB117_0.out);have HO120:=Aside0.mk (Kd.R_lower (Kd.R_new' ho0 (Kd.R_lt (kr HO115.out))) (keep_size (w:=w) (g:=g) (row:=none) (kp HK.out)));replace HO115:=Aside0.mk (Kd.R_mono (Kd.R_told (Kd.R_oldK (IsS92.apart (show IsS92 w0 _ g s0_0 t109 t110 from IsS92.ch HI0.out) (kr HO115.out) (by decide)) hk) (Kd.R_base ho0)) (fun _ h_=>h_.1));replace HK:=Aside0.mk (KeepBut.trans (kp HK.out) hk (.inl rfl));replace HB:=Aside0.mk (hb);replace HI0:=Aside0.mk (hi);(try clear hb)
    (try clear hb2)
    (try clear hk)
    (try clear hi)
    (try clear ho0)
    obtain ⟨Ao25,co25,eo25⟩:=Kd.R_slice HO120.out;(first|subst eo25|(injection eo25 with f1_ f2_ f3_;have f4_:=f1_.symm;have f5_:=f3_.symm;clear f1_ f2_ f3_;subst f4_;subst f5_))
    refine hK.out _ _ ⟨(blk_cell BK117.out 0).trans rfl,(blk_cell BK117.out 1).trans rfl⟩ (fun hHeld=>?_);clear hK K;refine nr 25 ?_;refine one_ (i:=5) (N:=some 26) (ar 6 1) rfl rfl (by kernel_rfl) (by decide) (fun K hK=>?_);refine gr Tryz.func87 #[.agg #[.int .i64 t112,.slice Ao21 t113.length co21],.slice Ao25 t118.length co25] ?_;with_reducible refine(spec_l01Renamed.calls k t112 _ _ t113 _ _ t118 t123 t124 _ (cb (Kd.R_reads' HO115.out).2.2) ((Kd.R_reads' HO115.out).2.1) (cb (Kd.R_reads' HO120.out).2.2) ((Kd.R_reads' HO120.out).2.1) A10.out).mono ?_
    rintro e w26 ⟨v125,rfl,ho0,hb⟩;refine⟨_,rfl,?_⟩;replace HO107:=krA HO107 hb;have HO126:=Aside0.mk (Kd.R_lower (Kd.R_new' (Kd.R_new' ho0 (Kd.R_lt (kr HO115.out))) (Kd.R_lt (kr HO120.out))) (keep_size (w:=w) (g:=g) (row:=none) (kp HK.out)));replace HO115:=Aside0.mk (Kd.R_elder' (kr HO115.out) (Kd.R_base ho0) hb);replace HO120:=Aside0.mk (Kd.R_elder' (kr HO120.out) (Kd.R_base ho0) hb);replace BK101:=bkA BK101 hb;replace BK117:=bkA BK117 hb;replace HK:=Aside0.mk (KeepBut.trans (kp HK.out) (KeepBut.of_below hb g none) (.inl rfl));replace HB:=Aside0.mk (below_step (blg HB.out (IsS92.ge HI0.out)) hb);replace HI0:=Aside0.mk (IsS92.below (IsS92.ch HI0.out) hb);(try clear hb)
    (try clear hb2)
    (try clear hk)
    (try clear hi)
    (try clear ho0)
    obtain ⟨Ao28,co28,eo28⟩:=Kd.R_slice HO126.out;(first|subst eo28|(injection eo28 with f1_ f2_ f3_;have f4_:=f1_.symm;have f5_:=f3_.symm;clear f1_ f2_ f3_;subst f4_;subst f5_))
    refine hK.out _ _ ⟨(blk_cell BK117.out 0).trans rfl,(blk_cell BK117.out 1).trans rfl⟩ (fun hHeld=>?_);clear hK K;refine nr 26 ?_;refine one_ (i:=6) (N:=none) (ar 7 0) rfl rfl (by kernel_rfl) (by decide) (fun K hK=>?_);have hs27:w26.cell? ⟨gb101,0,none⟩=some (.int .i64 0):=(blk_cell BK101.out 0).trans rfl;have hfs27:=blk_frozen BK101.out 0;have hns27_1:=NB117_101.out;have hms27_1:=NB101_117.out;have hs29:w26.cell? ⟨gb101,1,none⟩=some (.slice none 0 0):=(blk_cell BK101.out 1).trans rfl;have hfs29:=blk_frozen BK101.out 1;have hns29_1:=NB117_101.out;have hms29_1:=NB101_117.out;refine skip_ (w1:=?_) (by rfl) rfl ?_ ?_;rotate_left
    ·go_simp;rfl
    refine hK.out _ _ ⟨((cell_far (p:=⟨gb101,_,none⟩) NB117_101.out _).trans (((cell_far (p:=⟨gb101,_,none⟩) NB117_101.out _).trans (hHeld.1)))),((cell_far (p:=⟨gb101,_,none⟩) NB117_101.out _).trans (((cell_far (p:=⟨gb101,_,none⟩) NB117_101.out _).trans (hHeld.2))))⟩ (fun hHeld=>?_);clear hK K;refine done_ (by kernel_rfl) ?_;try go_wp2
    refine bodyPost_ret (results_cell_row rfl _ _ gb101 26 #[.int .i64 t123,.slice Ao28 t124.length co28] (0,0) _ rfl (bp BK101.out) Tryz.underlying26 rfl (by kernel_rfl)) rfl ?_;exact⟨_,rr,by(with_reducible repeat(first|apply Kd.R_alloc|apply Kd.R_drewN|apply Kd.R_drew));exact Kd.R_mono (Kd.R_far (p:=⟨gb101,1,none⟩) (Kd.R_far (p:=⟨gb101,0,none⟩) (Kd.R_types HO126.out BK101.out (by decide)) (fun _ hk=>hk.2) (.int .i64 t123)) (fun _ hk=>hk.2) (.slice Ao28 t124.length co28)) (fun _ hk=>trivial),IsS92.ch HI0.out,blg HB.out (IsS92.ge HI0.out),kp HK.out⟩
   ·rw[if_neg c7] at H;exact absurd H (by simp)
  ·rw[if_neg c6] at H;exact absurd H (by simp)
 ·rw[if_neg c3] at H;have c3b0:(t102 == 0)=false:=beq_eq_false_iff_ne.mpr c3;have c3b1:(t102 != 0)=true:=bne_iff_ne.mpr c3;obtain ⟨y127,hy127⟩:∃ y_:List Int,y_=(([1,2,3,4,4,5,5,6,6]:List Int)):=⟨_,rfl⟩
  replace H:((spec_l01Pick.f s0_0 t103 t104 y127).bind fun bt130=>((spec_l01DrawOf.f k s0_0 bt130.2.1 bt130.2.2 bt130.1).bind fun bt133=>(some (bt133.1,bt133.2.1,bt133.2.2.1,bt133.2.2.2))))=some (r1,r2,r3,r4):=by first|(rw[hy127];with_reducible exact H)|(have H2_:=(Option.bind_some _ _).symm.trans H;rw[hy127];with_reducible exact H2_)|(have H2_:=(Option.bind_some _ _).symm.trans H;with_reducible exact H2_)|with_reducible exact H|(rw[hy127];exact H)|exact H
  have Ny127:=Aside0.mk hy127;clear hy127;replace H:=Option.bind_eq_some_iff.mp H;obtain ⟨⟨t130,t131,t132⟩,A300,H⟩:=H;replace H:((spec_l01DrawOf.f k s0_0 t131 t132 t130).bind fun bt133=>(some (bt133.1,bt133.2.1,bt133.2.2.1,bt133.2.2.2)))=some (r1,r2,r3,r4):=H;have A30:=Aside0.mk A300;clear A300;replace H:=Option.bind_eq_some_iff.mp H;obtain ⟨⟨t133,t134,t137,t138⟩,A310,H⟩:=H;replace H:(some (t133,t134,t137,t138))=some (r1,r2,r3,r4):=H;have A31:=Aside0.mk A310;clear A310;simp only [Option.some.injEq,Prod.mk.injEq] at H;obtain ⟨rfl,rfl,rfl,rfl⟩:=H;go_enter Tryz.func75,Tryz.ntmps75;go_wp2_with (first|((with_reducible refine gate_dst (N:=2) rfl ?_);refine bx 2 #[.int .i64 0,.slice none 0 0] 26 ?_;intro gb101 hg w32 hbox hb;replace HB:=Aside0.mk (below_step (blg HB.out (IsS92.ge HI0.out)) hb);have BK101:=Aside0.mk (hbox);have GW101:=Aside0.mk ((by rw[hg];exact(keep_size (w:=w) (g:=g) (row:=none) (kp HK.out)):w.heap.size≤gb101));have GE101:=Aside0.mk ((Nat.le_trans HW0.out (by rw[hg];exact(keep_size (w:=w) (g:=g) (row:=none) (kp HK.out)):w.heap.size≤gb101):w0.heap.size≤gb101));replace HK:=Aside0.mk (KeepBut.trans (kp HK.out) (KeepBut.of_below hb g none) (.inl rfl));have NB0_101:=Aside0.mk ((by rw[hg];exact Nat.ne_of_lt (IsS92.lt (show IsS92 w0 _ g s0_0 s0_1 s0_2 from IsS92.ch HI0.out)):g≠gb101));have NB101_0:=Aside0.mk ((by rw[hg];exact Nat.ne_of_gt (IsS92.lt (show IsS92 w0 _ g s0_0 s0_1 s0_2 from IsS92.ch HI0.out)):gb101≠g));replace HI0:=Aside0.mk (IsS92.below (IsS92.ch HI0.out) hb);clear hb hbox hg)|((with_reducible refine gate_callee (f:=67) rfl ?_);refine gl (some 7) Tryz.func67 #[.pointer (some ⟨g,0,none⟩),.int .i64 3] ?_;(with_reducible refine(spec_l01Next.calls g s0_0 s0_1 s0_2 3 t102 t103 t104 w0 _ (IsS92.ch HI0.out) (blg HB.out (IsS92.ge HI0.out)) A2.out).mono ?_);rintro e w33 ⟨rfl,hi,hb,hk⟩;refine⟨_,rfl,?_⟩;replace BK101:=Aside0.mk (kbk hk (bk BK101.out) NB101_0.out);replace HK:=Aside0.mk (KeepBut.trans (kp HK.out) hk (.inl rfl));replace HB:=Aside0.mk (hb);replace HI0:=Aside0.mk (hi);(try clear hb);(try clear hb2);(try clear hk);(try clear hi))|((with_reducible refine gate_dst (N:=29) rfl ?_);refine Kd.R_lit (Kd.int .i64) _ 2 ?hg (N:=29) ?hd (xs:=([1,2,3,4,4,5,5,6,6]:List Int)) (inner:= [.int .i64 1,.int .i64 2,.int .i64 3,.int .i64 4,.int .i64 4,.int .i64 5,.int .i64 5,.int .i64 6,.int .i64 6]) (ok:=fun _=>True) (okp:=fun _=>True) ?hr ?hp (fun _ hk=>hk) trivial (Below.refl _ _) (Nat.le_refl _) (by simp) ?_;(case hd=>rfl);(case hg=>rfl);(case hr=>first|(go_simp;done)|(go_simp;rfl));(case hp=>exact(Reps.one (show Kd.M (Kd.int .i64) _ _ _ 1 [.int .i64 1] from rfl) (Reps.one (show Kd.M (Kd.int .i64) _ _ _ 2 [.int .i64 2] from rfl) (Reps.one (show Kd.M (Kd.int .i64) _ _ _ 3 [.int .i64 3] from rfl) (Reps.one (show Kd.M (Kd.int .i64) _ _ _ 4 [.int .i64 4] from rfl) (Reps.one (show Kd.M (Kd.int .i64) _ _ _ 4 [.int .i64 4] from rfl) (Reps.one (show Kd.M (Kd.int .i64) _ _ _ 5 [.int .i64 5] from rfl) (Reps.one (show Kd.M (Kd.int .i64) _ _ _ 5 [.int .i64 5] from rfl) (Reps.one (show Kd.M (Kd.int .i64) _ _ _ 6 [.int .i64 6] from rfl) (Reps.one (show Kd.M (Kd.int .i64) _ _ _ 6 [.int .i64 6] from rfl) (Reps.none _ _)))))))))));intro v128 w34 ho35 hb hg_ hnew_;clear hg_ hnew_;(first|rw[← Ny127.out] at ho35|(simp only [Int.reduceToNat] at ho35;rw[← Ny127.out] at ho35));have HO129:=Aside0.mk (Kd.R_lower ho35 (keep_size (w:=w) (g:=g) (row:=none) (kp HK.out)));replace BK101:=bkA BK101 hb;replace HK:=Aside0.mk (KeepBut.trans (kp HK.out) (KeepBut.of_below hb g none) (.inl rfl));replace HB:=Aside0.mk (below_step (blg HB.out (IsS92.ge HI0.out)) hb);replace HI0:=Aside0.mk (IsS92.below (IsS92.ch HI0.out) hb);clear hb ho35;obtain ⟨Ao36,co36,eo36⟩:=Kd.R_slice HO129.out;subst eo36)|((with_reducible refine gate_callee (f:=81) rfl ?_);refine gl (some 30) Tryz.func81 #[.pointer (some ⟨g,0,none⟩),.slice Ao36 y127.length co36] ?_;(with_reducible refine(spec_l01Pick.calls g s0_0 t103 t104 _ _ y127 t130 t131 t132 w0 _ (IsS92.ch HI0.out) (blg HB.out (IsS92.ge HI0.out)) (cb (Kd.R_reads' HO129.out).2.2) ((Kd.R_reads' HO129.out).2.1) (far_slice (IsS92.own_ne HI0.out HO129.out (by decide))) A30.out).mono ?_);rintro e w37 ⟨rfl,hi,hb,hk⟩;refine⟨_,rfl,?_⟩;replace BK101:=Aside0.mk (kbk hk (bk BK101.out) NB101_0.out);replace HO129:=Aside0.mk (Kd.R_mono (Kd.R_keep (IsS92.apart (show IsS92 w0 _ g s0_0 t103 t104 from IsS92.ch HI0.out) (kr HO129.out) (by decide)) hk (fun _ h=>h.2)) (fun _ h=>h.1));replace HK:=Aside0.mk (KeepBut.trans (kp HK.out) hk (.inl rfl));replace HB:=Aside0.mk (hb);replace HI0:=Aside0.mk (hi);(try clear hb);(try clear hb2);(try clear hk);(try clear hi))|((with_reducible refine gate_callee (f:=70) rfl ?_);refine gl (some 31) Tryz.func70 #[.pointer (some ⟨g,0,none⟩),.int .i64 t130] ?_;(with_reducible refine(spec_l01DrawOf.calls k g s0_0 t131 t132 t130 t133 t134 t137 t138 w0 _ (IsS92.ch HI0.out) (blg HB.out (IsS92.ge HI0.out)) A31.out).mono ?_);rintro e w38 ⟨v135,rfl,ho0,hi,hb,hk⟩;refine⟨_,rfl,?_⟩;replace BK101:=Aside0.mk (kbk hk (bk BK101.out) NB101_0.out);have HO136:=Aside0.mk (Kd.R_lower (Kd.R_new' ho0 (Kd.R_lt (kr HO129.out))) (keep_size (w:=w) (g:=g) (row:=none) (kp HK.out)));replace HO129:=Aside0.mk (Kd.R_mono (Kd.R_told (Kd.R_oldK (IsS92.apart (show IsS92 w0 _ g s0_0 t131 t132 from IsS92.ch HI0.out) (kr HO129.out) (by decide)) hk) (Kd.R_base ho0)) (fun _ h_=>h_.1));replace HK:=Aside0.mk (KeepBut.trans (kp HK.out) hk (.inl rfl));replace HB:=Aside0.mk (hb);replace HI0:=Aside0.mk (hi);(try clear hb);(try clear hb2);(try clear hk);(try clear hi);(try clear ho0);have hnb39:=NB101_0.out;have hnc39:=NB0_101.out;have hcz40_0:=z0_ BK101;have hcz40_1:=z1_ BK101;have hfz40_0:=hf_ BK101 0;have hfz40_1:=hf_ BK101 1;obtain ⟨Ao41,co41,eo41⟩:=Kd.R_slice HO136.out;subst eo41))
  refine bodyPost_ret (results_cell_row rfl _ _ gb101 26 #[.int .i64 t133,.slice Ao41 t134.length co41] (0,0) _ rfl (bp BK101.out) Tryz.underlying26 rfl (by kernel_rfl)) rfl ?_;exact⟨_,rr,by(with_reducible repeat(first|apply Kd.R_alloc|apply Kd.R_drewN|apply Kd.R_drew));exact Kd.R_mono (Kd.R_far (p:=⟨gb101,1,none⟩) (Kd.R_far (p:=⟨gb101,0,none⟩) (Kd.R_types HO136.out BK101.out (by decide)) (fun _ hk=>hk.2) (.int .i64 t133)) (fun _ hk=>hk.2) (.slice Ao41 t134.length co41)) (fun _ hk=>trivial),IsS92.ch HI0.out,blg HB.out (IsS92.ge HI0.out),kp HK.out⟩
end Go.Proofs.YtbnnamejnjfkjaaGreat.R
end

section
namespace Go.Proofs.YtbnnamejnjfkjaaGreat.R
open Go.RowKit Go.Proofs.YtbnnamejnjfkjaaGreat.Q Go.Proofs.YtbnnamejnjfkjaaGreat.X Go.Proofs.YtbnnamejnjfkjaaGreatW.PrintWords Go.Proofs.YtbnnamejnjfkjaaGreatW.PrintLast Go.Proofs.YtbnnamejnjfkjaaGreatW.PrintMore
attribute [local go_sem] max2_int min2_int max_two min_two max_three min_three max_four min_four
set_option linter.unusedVariables false
set_option linter.unusedSimpArgs false
def spec_l01With.j0:Nat→Int→Bool→List Int→Int→Int→Int→List Int→Option (Int×List Int×Int)
 |0,_,_,_,_,_,_,_=>none
 |k+1,x6,x24,x144000,x144001,x144002,x151000,x151001=>if x24=true then ((spec_l01Next.f x144000 x144001 x144002 (x151001.length:Int)).bind fun bt158=>(if 0≤bt158.1 then (if bt158.1<(x151001.length:Int) then ((spec_l01Bad.f x144000 bt158.2.1 bt158.2.2 x151000 x151001).bind fun bt162=>(some (bt162.1,bt162.2.1,rd x151001 bt158.1))) else (none)) else (none))) else ((spec_l01Bad.f x144000 x144001 x144002 x151000 x151001).bind fun bt168=>(some (bt168.1,bt168.2.1,x6)))
def spec_l01With.f (k:Nat) (l0:List Int):Option (Int×List Int×Int):=(spec_l01From.f k l0).bind fun bt140=>((spec_l01Draw.f k bt140.1 bt140.2.1 bt140.2.2).bind fun bt144=>((spec_l01All.f bt144.1).bind fun t151=>((spec_l01Near.f bt140.1 bt144.2.2.1 bt144.2.2.2 t151).bind fun bt152=>(if (bt144.2.1.length:Int)>0 then ((spec_l01Next.f bt140.1 bt152.2.1 bt152.2.2 8).bind fun bt155=>(spec_l01With.j0 k bt152.1 (decide (bt155.1>0)) bt140.1 bt155.2.1 bt155.2.2 bt144.1 bt144.2.1)) else (spec_l01With.j0 k bt152.1 false bt140.1 bt152.2.1 bt152.2.2 bt144.1 bt144.2.1)))))
theorem spec_l01With.mono_l:∀ k,(∀ y0 y1 y2 y3 y4 y5 y6,LeO (spec_l01With.j0 k y0 y1 y2 y3 y4 y5 y6) (spec_l01With.j0 (k+1) y0 y1 y2 y3 y4 y5 y6))
 |0=>fun _ _ _ _ _ _ _ r h=>by simp [spec_l01With.j0] at h
 |k+1=>by
  have ih0:=spec_l01With.mono_l k
  ·intro y0 y1 y2 y3 y4 y5 y6;unfold spec_l01With.j0;repeat' first
   |(with_reducible first|exact ih0 _ _ _ _ _ _ _|exact spec_l01Draw.mono _ _ _ _|exact spec_l01From.mono _ _|exact LeO.refl _|exact LeO.none _|refine LeO.ite ?_ ?_|refine LeO.bind ?_ (fun _=>?_))
theorem spec_l01With.mono:∀ a0 k,LeO (spec_l01With.f k a0) (spec_l01With.f (k+1) a0):=by
 intro a0 k;have ih0:=spec_l01With.mono_l k;unfold spec_l01With.f;repeat' first
   |(with_reducible first|exact ih0 _ _ _ _ _ _ _|exact spec_l01Draw.mono _ _ _ _|exact spec_l01From.mono _ _|exact LeO.refl _|exact LeO.none _|refine LeO.ite ?_ ?_|refine LeO.bind ?_ (fun _=>?_))
def spec_l01With.T5:Bool×List (List Nat×List Nat):=(true,[([],[]),([0],[0]),([],[]),([],[]),([3],[3]),([4],[4]),([2,5],[2,5]),([1,6],[1,6]),([7],[7]),([8,6,0,1,2,3,4,5,6,7,8],[8])])
def spec_l01With.B5:List Nat:= [0,1,0,0,8,24,60,127,255,511]
theorem spec_l01With.tab5:rtab .any (opsOf Tryz.f51 5)=spec_l01With.T5:=by kernel_rfl
theorem spec_l01With.bits5:waitsOk spec_l01With.T5.2 spec_l01With.B5=true:=by kernel_rfl
set_option maxHeartbeats 8000000 in
set_option maxRecDepth 100000 in
theorem spec_l01With.calls (k:Nat) (A0:Option Addr) (c0:Nat) (l0:List Int) (r1:Int) (r2:List Int) (r3:Int) (w:World) (hr0:Kd.C (Kd.int .u8) w A0 l0.length l0) (hc0:l0.length≤c0) (h:spec_l01With.f k l0=some (r1,r2,r3)) :
  Calls Tryz.prog 51 #[.slice A0 l0.length c0] w fun e w'=>∃ v1_:Value,e = .returned (.tuple #[.agg #[.int .i64 r1,v1_],.int .i64 r3])∧Kd.R (Kd.int .i64) 2 w' w.heap.size (fun _=>True) v1_ r2∧Below w.heap.size w w':=by
 have hu26:=Tryz.underlying26;have HR0:=Aside0.mk hr0;have HC0:=Aside0.mk hc0;clear hr0 hc0;have HB:=Aside0.mk (Below.refl w.heap.size w);have H:((spec_l01From.f k l0).bind fun bt140=>((spec_l01Draw.f k bt140.1 bt140.2.1 bt140.2.2).bind fun bt144=>((spec_l01All.f bt144.1).bind fun t151=>((spec_l01Near.f bt140.1 bt144.2.2.1 bt144.2.2.2 t151).bind fun bt152=>(if (bt144.2.1.length:Int)>0 then ((spec_l01Next.f bt140.1 bt152.2.1 bt152.2.2 8).bind fun bt155=>(spec_l01With.j0 k bt152.1 (decide (bt155.1>0)) bt140.1 bt155.2.1 bt155.2.2 bt144.1 bt144.2.1)) else (spec_l01With.j0 k bt152.1 false bt140.1 bt152.2.1 bt152.2.2 bt144.1 bt144.2.1))))))=some (r1,r2,r3):=h;clear h;replace H:=Option.bind_eq_some_iff.mp H;obtain ⟨⟨t140,t141,t142⟩,A20,H⟩:=H;replace H:((spec_l01Draw.f k t140 t141 t142).bind fun bt144=>((spec_l01All.f bt144.1).bind fun t151=>((spec_l01Near.f t140 bt144.2.2.1 bt144.2.2.2 t151).bind fun bt152=>(if (bt144.2.1.length:Int)>0 then ((spec_l01Next.f t140 bt152.2.1 bt152.2.2 8).bind fun bt155=>(spec_l01With.j0 k bt152.1 (decide (bt155.1>0)) t140 bt155.2.1 bt155.2.2 bt144.1 bt144.2.1)) else (spec_l01With.j0 k bt152.1 false t140 bt152.2.1 bt152.2.2 bt144.1 bt144.2.1)))))=some (r1,r2,r3):=H;have A2:=Aside0.mk A20;clear A20;replace H:=Option.bind_eq_some_iff.mp H;obtain ⟨⟨t144,t145,t148,t149⟩,A30,H⟩:=H;replace H:((spec_l01All.f t144).bind fun t151=>((spec_l01Near.f t140 t148 t149 t151).bind fun bt152=>(if (t145.length:Int)>0 then ((spec_l01Next.f t140 bt152.2.1 bt152.2.2 8).bind fun bt155=>(spec_l01With.j0 k bt152.1 (decide (bt155.1>0)) t140 bt155.2.1 bt155.2.2 t144 t145)) else (spec_l01With.j0 k bt152.1 false t140 bt152.2.1 bt152.2.2 t144 t145))))=some (r1,r2,r3):=H;have A3:=Aside0.mk A30;clear A30;replace H:=Option.bind_eq_some_iff.mp H;obtain ⟨t151,A40,H⟩:=H;replace H:((spec_l01Near.f t140 t148 t149 t151).bind fun bt152=>(if (t145.length:Int)>0 then ((spec_l01Next.f t140 bt152.2.1 bt152.2.2 8).bind fun bt155=>(spec_l01With.j0 k bt152.1 (decide (bt155.1>0)) t140 bt155.2.1 bt155.2.2 t144 t145)) else (spec_l01With.j0 k bt152.1 false t140 bt152.2.1 bt152.2.2 t144 t145)))=some (r1,r2,r3):=H;have A4:=Aside0.mk A40;clear A40;replace H:=Option.bind_eq_some_iff.mp H;obtain ⟨⟨t152,t153,t154⟩,A50,H⟩:=H;replace H:(if (t145.length:Int)>0 then ((spec_l01Next.f t140 t153 t154 8).bind fun bt155=>(spec_l01With.j0 k t152 (decide (bt155.1>0)) t140 bt155.2.1 bt155.2.2 t144 t145)) else (spec_l01With.j0 k t152 false t140 t153 t154 t144 t145))=some (r1,r2,r3):=H;have A5:=Aside0.mk A50;clear A50;have HC6:=Aside0.mk H;clear H;go_enter Tryz.func51,Tryz.ntmps51;go_upto_region 4 with (first|((with_reducible refine gate_dst (N:=2) rfl ?_);refine bx 2 #[.int .i64 0,.slice none 0 0] 26 ?_;intro gb139 hg w7 hbox hb;have BK139:=Aside0.mk (hbox);have GE139:=gzA hg HB;replace HB:=bsA HB hb;clear hb hbox hg)|((with_reducible refine gate_callee (f:=66) rfl ?_);refine gl (some 8) Tryz.func66 #[.slice A0 l0.length c0] ?_;(with_reducible refine(spec_l01From.calls k _ _ l0 t140 t141 t142 w _ (bl HB.out) HR0.out HC0.out A2.out).mono ?_);rintro e w8 ⟨g143,rfl,hi,hb,hb2⟩;refine⟨_,rfl,?_⟩;replace HB:=Aside0.mk (hb);have HI143:=Aside0.mk (hi);have NB143_139:=Aside0.mk (IsS92.ne_blk hi (blk_below (bk BK139.out) hb2) (by decide));have NB139_143:=Aside0.mk (Ne.symm (IsS92.ne_blk hi (blk_below (bk BK139.out) hb2) (by decide)));replace BK139:=bkA BK139 hb2;(try clear hb);(try clear hb2);(try clear hk);(try clear hi))|((with_reducible refine gate_callee (f:=75) rfl ?_);refine gl (some 10) Tryz.func75 #[.pointer (some ⟨g143,0,none⟩)] ?_;(with_reducible refine(spec_l01Draw.calls k g143 t140 t141 t142 t144 t145 t148 t149 w _ (IsS92.ch HI143.out) (blg HB.out (IsS92.ge HI143.out)) A3.out).mono ?_);rintro e w9 ⟨v146,rfl,ho0,hi,hb,hk⟩;refine⟨_,rfl,?_⟩;replace BK139:=Aside0.mk (kbk hk (bk BK139.out) NB139_143.out);have HO147:=Aside0.mk (Kd.R_lower ho0 (below_size (blg HB.out (IsS92.ge HI143.out))));replace HB:=Aside0.mk (hb);replace HI143:=Aside0.mk (hi);(try clear hb);(try clear hb2);(try clear hk);(try clear hi);(try clear ho0))|((with_reducible refine gate_dst (N:=5) rfl ?_);refine bx 5 #[.int .i64 0,.slice none 0 0] 26 ?_;intro gb150 hg w10 hbox hb;replace HO147:=krA HO147 hb;have BK150:=Aside0.mk (hbox);have GW150:=Aside0.mk ((by rw[hg];exact(below_size (blg HB.out (IsS92.ge HI143.out))):w.heap.size≤gb150));have GE150:=Aside0.mk ((by rw[hg];exact(below_size (blg HB.out (IsS92.ge HI143.out))):w.heap.size≤gb150));replace HB:=Aside0.mk (below_step (blg HB.out (IsS92.ge HI143.out)) hb);have NB139_150:=nlA hg BK139;have NB150_139:=ngA hg BK139;replace BK139:=bkA BK139 hb;have NB143_150:=Aside0.mk ((by rw[hg];exact Nat.ne_of_lt (IsS92.lt (show IsS92 w _ g143 t140 t148 t149 from IsS92.ch HI143.out)):g143≠gb150));have NB150_143:=Aside0.mk ((by rw[hg];exact Nat.ne_of_gt (IsS92.lt (show IsS92 w _ g143 t140 t148 t149 from IsS92.ch HI143.out)):gb150≠g143));replace HI143:=Aside0.mk (IsS92.below (IsS92.ch HI143.out) hb);clear hb hbox hg;have hnb11:=NB150_139.out;have hnc11:=NB139_150.out;have hnb12:=NB150_143.out;have hnc12:=NB143_150.out;have hcz13_0:=z0_ BK150;have hcz13_1:=z1_ BK150;have hfz13_0:=hf_ BK150 0;have hfz13_1:=hf_ BK150 1;obtain ⟨Ao14,co14,eo14⟩:=Kd.R_slice HO147.out;subst eo14)|((with_reducible refine gate_callee (f:=91) rfl ?_);refine gl (some 14) Tryz.func91 #[.int .i64 t144] ?_;(with_reducible refine(spec_l01All.calls t144 t151 _ A4.out).mono ?_);rintro e w' ⟨rfl,⟨nd,rfl⟩⟩;refine⟨_,rfl,?_⟩)|((with_reducible refine gate_callee (f:=90) rfl ?_);refine gl (some 15) Tryz.func90 #[.pointer (some ⟨g143,0,none⟩),.int .i64 t151] ?_;(with_reducible refine(spec_l01Near.calls g143 t140 t148 t149 t151 t152 t153 t154 w _ (IsS92.ch HI143.out) (blg HB.out (IsS92.ge HI143.out)) A5.out).mono ?_);rintro e w15 ⟨rfl,hi,hb,hk⟩;refine⟨_,rfl,?_⟩;replace BK139:=Aside0.mk (KeepBut.blk hk (g':=gb139) (o:= .cells #[.int .i64 0,.slice none 0 0] 26 (0,0)) (bp BK139.out) NB139_143.out (by simp));replace HO147:=Aside0.mk (Kd.R_mono (Kd.R_keep (IsS92.apart (show IsS92 w _ g143 t140 t148 t149 from IsS92.ch HI143.out) (by(with_reducible repeat(first|apply Kd.R_alloc|apply Kd.R_drewN|apply Kd.R_drew));exact(Kd.R_mono (Kd.R_far (p:=⟨gb150,1,none⟩) (Kd.R_far (p:=⟨gb150,0,none⟩) (Kd.R_types HO147.out BK150.out (by decide)) (fun _ hk=>hk.2) (.int .i64 t144)) (fun _ hk=>hk.2) (.slice Ao14 t145.length co14)) (fun _ h_=>h_.1))) (by decide)) hk (fun _ h=>h.2)) (fun _ h=>h.1));replace BK150:=Aside0.mk (KeepBut.blk hk (g':=gb150) (o:= .cells #[.int .i64 t144,.slice Ao14 t145.length co14] 26 (0,0)) (bp BK150.out) NB150_143.out (by simp));replace HB:=Aside0.mk (hb);replace HI143:=Aside0.mk (hi);(try clear hb);(try clear hb2);(try clear hk);(try clear hi)))
 (try simp only [Act.put,List.setIfInBounds_toArray,List.set_cons_zero,List.set_cons_succ])
 go_cut [24] (fun v24 wc=>∃(kq:Nat) (x24_5:Bool) (x144001_5:Int) (x144002_5:Int),v24 = .bool x24_5∧Aside0 (spec_l01With.j0 kq t152 x24_5 t140 x144001_5 x144002_5 t144 t145=some (r1,r2,r3))∧Aside0 (kq≤k)∧Aside0 (Kd.R (Kd.int .i64) 2 wc w.heap.size (fun _=>True) (.slice Ao14 t145.length co14) t145)∧Aside0 (wc.heap[gb139]?=some (.cells #[.int .i64 0,(.slice none 0 0)] 26 (0,0)))∧Aside0 (wc.heap[gb150]?=some (.cells #[.int .i64 t144,(.slice Ao14 t145.length co14)] 26 (0,0)))∧Aside0 (IsS92 w wc g143 t140 x144001_5 x144002_5)∧Aside0 (Below w.heap.size w wc))
 case first=>
  have H:=HC6.out;clear HC6;by_cases c16:(t145.length:Int)>0
  ·rw[if_pos c16] at H;have c16b0:decide (0<(t145.length:Int))=true:=decide_eq_true c16;have c16b1:decide (0<t145.length)=true:=decide_eq_true (by omega);clear c16;(first|rw[c16b0]|(simp only [i64_w,i32_w];rw[c16b0])|skip)
   replace H:=Option.bind_eq_some_iff.mp H;obtain ⟨⟨t155,t156,t157⟩,A170,H⟩:=H;replace H:(spec_l01With.j0 k t152 (decide (t155>0)) t140 t156 t157 t144 t145)=some (r1,r2,r3):=H;have A17:=Aside0.mk A170;clear A170;have H':=Aside0.mk H;clear H;have hnb18:=NB150_139.out;have hnc18:=NB139_150.out;have hnb19:=NB150_143.out;have hnc19:=NB143_150.out;have hcz20_0:=z0_ BK150;have hcz20_1:=z1_ BK150;have hfz20_0:=hf_ BK150 0;have hfz20_1:=hf_ BK150 1;go_wp2_with (first|(go_at_call 67;(with_reducible refine(spec_l01Next.calls g143 t140 t153 t154 8 t155 t156 t157 w _ (IsS92.ch HI143.out) (blg HB.out (IsS92.ge HI143.out)) A17.out).mono ?_);rintro e w21 ⟨rfl,hi,hb,hk⟩;replace BK139:=Aside0.mk (kbk hk (bk BK139.out) NB139_143.out);replace HO147:=Aside0.mk (Kd.R_mono (Kd.R_keep (IsS92.apart (show IsS92 w _ g143 t140 t153 t154 from IsS92.ch HI143.out) (kr HO147.out) (by decide)) hk (fun _ h=>h.2)) (fun _ h=>h.1));replace BK150:=Aside0.mk (kbk hk (bk BK150.out) NB150_143.out);replace HB:=Aside0.mk (hb);replace HI143:=Aside0.mk (hi);(try clear hb);(try clear hb2);(try clear hk);(try clear hi)))
   go_meet
   case rel=>exact⟨_,(decide (t155>0)),(t156),(t157),rs,H',⟨by first|omega|exact Nat.le_refl _⟩,⟨kr HO147.out⟩,⟨bk BK139.out⟩,⟨bk BK150.out⟩,⟨IsS92.ch HI143.out⟩,⟨blg HB.out (IsS92.ge HI143.out)⟩⟩
  ·rw[if_neg c16] at H;have c16b0:decide (0<(t145.length:Int))=false:=decide_eq_false c16;have c16b1:decide (0<t145.length)=false:=decide_eq_false (by omega);clear c16;(first|rw[c16b0]|(simp only [i64_w,i32_w];rw[c16b0])|skip)
   have H':=Aside0.mk H;clear H;have hnb22:=NB150_139.out;have hnc22:=NB139_150.out;have hnb23:=NB150_143.out;have hnc23:=NB143_150.out;have hcz24_0:=z0_ BK150;have hcz24_1:=z1_ BK150;have hfz24_0:=hf_ BK150 0;have hfz24_1:=hf_ BK150 1;go_wp2
   go_meet
   case rel=>exact⟨_,(false),(t153),(t154),rs,H',⟨by first|omega|exact Nat.le_refl _⟩,⟨kr HO147.out⟩,⟨bk BK139.out⟩,⟨bk BK150.out⟩,⟨IsS92.ch HI143.out⟩,⟨blg HB.out (IsS92.ge HI143.out)⟩⟩
 case rest=>
  clear HC6;try clear c1
  try clear c2
  try clear p2
  try clear c5
  try clear c6
  try clear c7
  try clear c9
  try clear c11
  try clear c12
  try clear c16
  try clear c16b0
  try clear c16b1
  try clear c18
  try clear c19
  try clear c22
  try clear c23
  try clear hcz13_0
  try clear hcz13_1
  try clear hcz20_0
  try clear hcz20_1
  try clear hcz24_0
  try clear hcz24_1
  try clear hfz13_0
  try clear hfz13_1
  try clear hfz20_0
  try clear hfz20_1
  try clear hfz24_0
  try clear hfz24_1
  obtain ⟨kq,x24_5,x144001_5,x144002_5,rfl,HA,HJ5,HO_151001,BK139,BK150,HI143,HB⟩:=hcut;cases kq with
  |zero=>exact absurd HA.out (by simp [spec_l01With.j0])
  |succ kj5=>
   have H:=HA.out;clear HA;simp only [spec_l01With.j0] at H;by_cases c25:x24_5=true
   ·subst c25;have H1:((spec_l01Next.f t140 x144001_5 x144002_5 (t145.length:Int)).bind fun bt158=>(if 0≤bt158.1 then (if bt158.1<(t145.length:Int) then ((spec_l01Bad.f t140 bt158.2.1 bt158.2.2 t144 t145).bind fun bt162=>(some (bt162.1,bt162.2.1,rd t145 bt158.1))) else (none)) else (none)))=some (r1,r2,r3):=by rw[if_pos rfl] at H;exact H
    clear H;have H:=H1;clear H1;replace H:=Option.bind_eq_some_iff.mp H;obtain ⟨⟨t158,t159,t160⟩,A260,H⟩:=H;replace H:(if 0≤t158 then (if t158<(t145.length:Int) then ((spec_l01Bad.f t140 t159 t160 t144 t145).bind fun bt162=>(some (bt162.1,bt162.2.1,rd t145 t158))) else (none)) else (none))=some (r1,r2,r3):=H;have A26:=Aside0.mk A260;clear A260;by_cases c27:0≤t158
    ·rw[if_pos c27] at H;have c27b0:decide (0≤t158)=true:=decide_eq_true c27;clear c27;by_cases c28:t158<(t145.length:Int)
     ·rw[if_pos c28] at H;have c28b0:decide (t158<(t145.length:Int))=true:=decide_eq_true c28;clear c28;replace H:=Option.bind_eq_some_iff.mp H;obtain ⟨⟨t162,t163,t166,t167⟩,A290,H⟩:=H;replace H:(some (t162,t163,rd t145 t158))=some (r1,r2,r3):=H;have A29:=Aside0.mk A290;clear A290;simp only [Option.some.injEq,Prod.mk.injEq] at H;obtain ⟨rfl,rfl,rfl⟩:=H;try go_wp2
      replace HO_151001:=Aside0.mk (Kd.R_drew HO_151001.out);replace BK139:=Aside0.mk (blk_drew BK139.out);replace BK150:=Aside0.mk (blk_drew BK150.out);replace HI143:=Aside0.mk (IsS92.drew HI143.out);replace HB:=Aside0.mk (below_drew1 HB.out);have p161:0≤(t158:Int):=dd;have q161:t158<(t145.length:Int):=dd;obtain ⟨ad161,e161,hx161_0⟩:=Kd.at_int (Kd.R_reads' HO_151001.out).2.2 t158 p161 q161;cases e161;replace p161:=eq_true p161;replace q161:=eq_true q161;refine start_ (n:=10) (S:=fun w'=>w'.cell? ⟨gb150,0,none⟩=some (.int .i64 t144)∧w'.cell? ⟨gb150,1,none⟩=some (.slice (some ad161) t145.length co14)∧w'.cell? (ad161.add (t158).toNat)=some (.int .i64 (rd t145 t158))) (ds:= []) (ar 0 10) (by kernel_rfl) rfl rfl ⟨(blk_cell BK150.out 0).trans rfl,(blk_cell BK150.out 1).trans rfl,hx161_0⟩ (fun hHeld=>?_);refine with_tabW spec_l01With.tab5 spec_l01With.bits5 (fun HT_ HW_=>?_);generalize wc.drew=w30 at HO_151001 BK139 BK150 HI143 HB hx161_0 hHeld ⊢;refine pu 0 (some 25) (ar 1 9) HT_ ?_;refine pu 2 (some 27) #[U,O,U,O,O,O,O,O,O,O] HT_ ?_;refine pu 3 (some 28) #[U,O,U,U,O,O,O,O,O,O] HT_ ?_;refine tk 1 (some 26) (ar 4 6) HT_ HW_ hHeld ?_;refine tk 4 (some 29) (ar 5 5) HT_ HW_ hHeld ?_;refine pu 5 (some 30) (ar 6 4) HT_ ?_;refine on_ 6 (some 31) (ar 7 3) HT_ fun K hK=>?_;refine gr Tryz.func67 #[.pointer (some ⟨g143,0,none⟩),.int .i64 (t145.length:Int)] ?_;with_reducible refine(spec_l01Next.calls g143 t140 x144001_5 x144002_5 (t145.length:Int) t158 t159 t160 w _ (IsS92.ch HI143.out) (blg HB.out (IsS92.ge HI143.out)) A26.out).mono ?_
      rintro e w31 ⟨rfl,hi,hb,hk⟩;have HS2_:=keep_cell hk (hHeld.2.2) (by first|(rw[add_block];exact Kd.own_blk (IsS92.own_ne HI143.out HO_151001.out (by decide)))|(show (Addr.add _ _).block≠_;rw[add_block];exact Kd.own_blk (IsS92.own_ne HI143.out HO_151001.out (by decide)))|exact Kd.own_blk (IsS92.own_ne HI143.out HO_151001.out (by decide)));refine⟨_,rfl,?_⟩;replace HO_151001:=Aside0.mk (Kd.R_mono (Kd.R_keep (IsS92.apart (show IsS92 w _ g143 t140 x144001_5 x144002_5 from IsS92.ch HI143.out) (kr HO_151001.out) (by decide)) hk (fun _ h=>h.2)) (fun _ h=>h.1));replace BK139:=Aside0.mk (kbk hk (bk BK139.out) NB139_143.out);replace BK150:=Aside0.mk (kbk hk (bk BK150.out) NB150_143.out);replace HB:=Aside0.mk (hb);replace HI143:=Aside0.mk (hi);(try clear hb)
      (try clear hb2)
      (try clear hk)
      (try clear hi)
      refine hK.out _ _ ⟨(blk_cell BK150.out 0).trans rfl,(blk_cell BK150.out 1).trans rfl,HS2_⟩ (fun hHeld=>?_);clear hK K;refine nr 31 ?_;refine pu 7 (some 32) (ar 8 2) HT_ ?_;refine tk 8 (some 33) (ar 9 1) HT_ HW_ hHeld ?_;refine pu 9 (some 6) (ar 10 0) HT_ ?_;refine done_ (done_of HT_.out (by kernel_rfl)) ?_;have hnb32:=NB150_139.out;have hnc32:=NB139_150.out;have hnb33:=NB150_143.out;have hnc33:=NB143_150.out;have hcz34_0:=z0_ BK150;have hcz34_1:=z1_ BK150;have hfz34_0:=hf_ BK150 0;have hfz34_1:=hf_ BK150 1;try go_wp2_with (first|((with_reducible refine gate_callee (f:=69) rfl ?_);refine gl (some 36) Tryz.func69 #[.pointer (some ⟨g143,0,none⟩),.agg #[.int .i64 t144,.slice (some ad161) t145.length co14]] ?_;(with_reducible refine(spec_l01Bad.calls g143 t140 t159 t160 t144 (fun k_=>some k_=(.slice (some ad161) t145.length co14:Value).ownBlock) (.slice (some ad161) t145.length co14) t145 t162 t163 t166 t167 w _ (IsS92.ch HI143.out) (blg HB.out (IsS92.ge HI143.out)) (Kd.R_tight rfl HO_151001.out) A29.out).mono ?_);rintro e w35 ⟨v164,rfl,ho0,hi,hb,hkp⟩;refine⟨_,rfl,?_⟩;have n0_:=Aside0.mk (blk_kept (bk BK139.out) hkp (fun hs_=>Or.elim hs_ (fun hs_=>(fun e_=>(Kd.R_ne HO_151001.out BK139.out (by decide)) e_) hs_) (fun e_=>NB139_143.out e_)));have n1_:=Aside0.mk (blk_kept (bk BK150.out) hkp (fun hs_=>Or.elim hs_ (fun hs_=>(fun e_=>(Kd.R_ne HO_151001.out BK150.out (by decide)) e_) hs_) (fun e_=>NB150_143.out e_)));have n2_:=Aside0.mk (hi);have n3_:=Aside0.mk (Kd.R_mono (ok':=fun k_=>True) ho0 (fun k_ hk_=>trivial));have n4_:=Aside0.mk (hb);clear BK139;clear BK150;clear HI143;clear HB;clear HO_151001;have BK139:=n0_;have BK150:=n1_;have HI143:=n2_;have HO165:=n3_;have HB:=n4_;clear n0_ n1_ n2_ n3_ n4_;(try clear hb);(try clear hkp);(try clear ho0);have hnb36:=NB139_143.out;have hnc36:=NB143_139.out;have hcz37_0:=z0_ BK139;have hcz37_1:=z1_ BK139;have hfz37_0:=hf_ BK139 0;have hfz37_1:=hf_ BK139 1;obtain ⟨Ao38,co38,eo38⟩:=Kd.R_slice HO165.out;subst eo38))
      refine bodyPost_ret (results_ct rfl _ _ gb139 26 #[.int .i64 t162,.slice Ao38 t163.length co38] (0,0) _ rfl (bp BK139.out) Tryz.underlying26 rfl (by kernel_rfl)) rfl ?_;exact⟨_,rr,by(with_reducible repeat(first|apply Kd.R_alloc|apply Kd.R_drewN|apply Kd.R_drew));exact Kd.R_mono (Kd.R_far (p:=⟨gb139,1,none⟩) (Kd.R_far (p:=⟨gb139,0,none⟩) (Kd.R_types HO165.out BK139.out (by decide)) (fun _ hk=>hk.2) (.int .i64 t162)) (fun _ hk=>hk.2) (.slice Ao38 t163.length co38)) (fun _ hk=>trivial),blg HB.out (IsS92.ge HI143.out)⟩
     ·rw[if_neg c28] at H;exact absurd H (by simp)
    ·rw[if_neg c27] at H;exact absurd H (by simp)
   ·replace c25:=Bool.eq_false_iff.mpr c25;subst c25;have H1:((spec_l01Bad.f t140 x144001_5 x144002_5 t144 t145).bind fun bt168=>(some (bt168.1,bt168.2.1,t152)))=some (r1,r2,r3):=by rw[if_neg (show ¬ (false=true) by decide)] at H;exact H
    clear H;have H:=H1;clear H1;replace H:=Option.bind_eq_some_iff.mp H;obtain ⟨⟨t168,t169,t172,t173⟩,A390,H⟩:=H;replace H:(some (t168,t169,t152))=some (r1,r2,r3):=H;have A39:=Aside0.mk A390;clear A390;simp only [Option.some.injEq,Prod.mk.injEq] at H;obtain ⟨rfl,rfl,rfl⟩:=H;have hnb40:=NB150_139.out;have hnc40:=NB139_150.out;have hnb41:=NB150_143.out;have hnc41:=NB143_150.out;have hcz42_0:=z0_ BK150;have hcz42_1:=z1_ BK150;have hfz42_0:=hf_ BK150 0;have hfz42_1:=hf_ BK150 1;go_wp2_with (first|((with_reducible refine gate_callee (f:=69) rfl ?_);refine gl (some 36) Tryz.func69 #[.pointer (some ⟨g143,0,none⟩),.agg #[.int .i64 t144,.slice Ao14 t145.length co14]] ?_;(with_reducible refine(spec_l01Bad.calls g143 t140 x144001_5 x144002_5 t144 (fun k_=>some k_=(.slice Ao14 t145.length co14:Value).ownBlock) (.slice Ao14 t145.length co14) t145 t168 t169 t172 t173 w _ (IsS92.ch HI143.out) (blg HB.out (IsS92.ge HI143.out)) (Kd.R_tight rfl HO_151001.out) A39.out).mono ?_);rintro e w43 ⟨v170,rfl,ho0,hi,hb,hkp⟩;refine⟨_,rfl,?_⟩;have n0_:=Aside0.mk (blk_kept (bk BK139.out) hkp (fun hs_=>Or.elim hs_ (fun hs_=>(fun e_=>(Kd.R_ne HO_151001.out BK139.out (by decide)) e_) hs_) (fun e_=>NB139_143.out e_)));have n1_:=Aside0.mk (blk_kept (bk BK150.out) hkp (fun hs_=>Or.elim hs_ (fun hs_=>(fun e_=>(Kd.R_ne HO_151001.out BK150.out (by decide)) e_) hs_) (fun e_=>NB150_143.out e_)));have n2_:=Aside0.mk (hi);have n3_:=Aside0.mk (Kd.R_mono (ok':=fun k_=>True) ho0 (fun k_ hk_=>trivial));have n4_:=Aside0.mk (hb);clear BK139;clear BK150;clear HI143;clear HB;clear HO_151001;have BK139:=n0_;have BK150:=n1_;have HI143:=n2_;have HO171:=n3_;have HB:=n4_;clear n0_ n1_ n2_ n3_ n4_;(try clear hb);(try clear hkp);(try clear ho0);have hnb44:=NB139_143.out;have hnc44:=NB143_139.out;have hcz45_0:=z0_ BK139;have hcz45_1:=z1_ BK139;have hfz45_0:=hf_ BK139 0;have hfz45_1:=hf_ BK139 1;obtain ⟨Ao46,co46,eo46⟩:=Kd.R_slice HO171.out;subst eo46))
    refine bodyPost_ret (results_ct rfl _ _ gb139 26 #[.int .i64 t168,.slice Ao46 t169.length co46] (0,0) _ rfl (bp BK139.out) Tryz.underlying26 rfl (by kernel_rfl)) rfl ?_;exact⟨_,rr,by(with_reducible repeat(first|apply Kd.R_alloc|apply Kd.R_drewN|apply Kd.R_drew));exact Kd.R_mono (Kd.R_far (p:=⟨gb139,1,none⟩) (Kd.R_far (p:=⟨gb139,0,none⟩) (Kd.R_types HO171.out BK139.out (by decide)) (fun _ hk=>hk.2) (.int .i64 t168)) (fun _ hk=>hk.2) (.slice Ao46 t169.length co46)) (fun _ hk=>trivial),blg HB.out (IsS92.ge HI143.out)⟩
end Go.Proofs.YtbnnamejnjfkjaaGreat.R
end

section
namespace Go.Proofs.YtbnnamejnjfkjaaGreat.R
open Go.RowKit Go.Proofs.YtbnnamejnjfkjaaGreat.Q Go.Proofs.YtbnnamejnjfkjaaGreat.X Go.Proofs.YtbnnamejnjfkjaaGreatW.PrintWords Go.Proofs.YtbnnamejnjfkjaaGreatW.PrintLast Go.Proofs.YtbnnamejnjfkjaaGreatW.PrintMore
attribute [local go_sem] max2_int min2_int max_two min_two max_three min_three max_four min_four
set_option linter.unusedVariables false
set_option linter.unusedSimpArgs false
def spec_DrawLinkOf.f (k:Nat) (l0:List Int):Option (Int×List Int×Int):=(spec_l01With.f k l0).bind fun bt175=>(some (bt175.1,bt175.2.1,bt175.2.2))
theorem spec_DrawLinkOf.mono:∀ a0 k,LeO (spec_DrawLinkOf.f k a0) (spec_DrawLinkOf.f (k+1) a0):=by
 intro a0 k;unfold spec_DrawLinkOf.f;repeat' first
   |(with_reducible first|exact spec_l01With.mono _ _|exact LeO.refl _|exact LeO.none _|refine LeO.ite ?_ ?_|refine LeO.bind ?_ (fun _=>?_))
set_option maxHeartbeats 8000000 in
set_option maxRecDepth 100000 in
theorem spec_DrawLinkOf.calls (k:Nat) (A0:Option Addr) (c0:Nat) (l0:List Int) (r1:Int) (r2:List Int) (r3:Int) (w:World) (hr0:Kd.C (Kd.int .u8) w A0 l0.length l0) (hc0:l0.length≤c0) (h:spec_DrawLinkOf.f k l0=some (r1,r2,r3)) :
  Calls Tryz.prog 6 #[.slice A0 l0.length c0] w fun e w'=>∃ v1_:Value,e = .returned (.tuple #[.agg #[.int .i64 r1,v1_],.int .i64 r3])∧Kd.R (Kd.int .i64) 2 w' w.heap.size (fun _=>True) v1_ r2∧Below w.heap.size w w':=by
 have hu26:=Tryz.underlying26;have HR0:=Aside0.mk hr0;have HC0:=Aside0.mk hc0;clear hr0 hc0;have HB:=Aside0.mk (Below.refl w.heap.size w);have H:((spec_l01With.f k l0).bind fun bt175=>(some (bt175.1,bt175.2.1,bt175.2.2)))=some (r1,r2,r3):=h;clear h;replace H:=Option.bind_eq_some_iff.mp H;obtain ⟨⟨t175,t176,t179⟩,A20,H⟩:=H;replace H:(some (t175,t176,t179))=some (r1,r2,r3):=H;have A2:=Aside0.mk A20;clear A20;simp only [Option.some.injEq,Prod.mk.injEq] at H;obtain ⟨rfl,rfl,rfl⟩:=H;go_enter Tryz.func6,Tryz.ntmps6;go_wp2_with (first|((with_reducible refine gate_dst (N:=2) rfl ?_);refine bx 2 #[.int .i64 0,.slice none 0 0] 26 ?_;intro gb174 hg w3 hbox hb;have BK174:=Aside0.mk (hbox);have GE174:=gzA hg HB;replace HB:=bsA HB hb;clear hb hbox hg)|((with_reducible refine gate_callee (f:=51) rfl ?_);refine gl (some 8) Tryz.func51 #[.slice A0 l0.length c0] ?_;(with_reducible refine(spec_l01With.calls k _ _ l0 t175 t176 t179 _ (cb (Kd.C_below HR0.out HB.out)) HC0.out A2.out).mono ?_);rintro e w4 ⟨v177,rfl,ho0,hb⟩;refine⟨_,rfl,?_⟩;have HO178:=klA ho0 HB;replace BK174:=bkA BK174 hb;replace HB:=bsA HB hb;(try clear hb);(try clear hb2);(try clear hk);(try clear hi);(try clear ho0))|((with_reducible refine gate_dst (N:=4) rfl ?_);refine bx 4 #[.int .i64 0,.slice none 0 0] 26 ?_;intro gb180 hg w5 hbox hb;replace HO178:=krA HO178 hb;have BK180:=Aside0.mk (hbox);have GE180:=gzA hg HB;replace HB:=bsA HB hb;have NB174_180:=nlA hg BK174;have NB180_174:=ngA hg BK174;replace BK174:=bkA BK174 hb;clear hb hbox hg;have hnb6:=NB180_174.out;have hnc6:=NB174_180.out;have hcz7_0:=z0_ BK180;have hcz7_1:=z1_ BK180;have hfz7_0:=hf_ BK180 0;have hfz7_1:=hf_ BK180 1;obtain ⟨Ao8,co8,eo8⟩:=Kd.R_slice HO178.out;subst eo8;have hcz9_0:=z0_ BK174;have hcz9_1:=z1_ BK174;have hfz9_0:=hf_ BK174 0;have hfz9_1:=hf_ BK174 1))
 refine bodyPost_ret (results_ct rfl _ _ gb174 26 #[.int .i64 t175,.slice Ao8 t176.length co8] (0,0) _ rfl (bp BK174.out) Tryz.underlying26 rfl (by kernel_rfl)) rfl ?_;exact⟨_,rr,by(with_reducible repeat(first|apply Kd.R_alloc|apply Kd.R_drewN|apply Kd.R_drew));exact Kd.R_mono (Kd.R_far (p:=⟨gb174,1,none⟩) (Kd.R_far (p:=⟨gb174,0,none⟩) (Kd.R_far (p:=⟨gb180,1,none⟩) (Kd.R_far (p:=⟨gb180,0,none⟩) (Kd.R_types (Kd.R_types HO178.out BK180.out (by decide)) BK174.out (by decide)) (fun _ hk=>hk.1.2) (.int .i64 t175)) (fun _ hk=>hk.1.2) (.slice Ao8 t176.length co8)) (fun _ hk=>hk.2) (.int .i64 t175)) (fun _ hk=>hk.2) (.slice Ao8 t176.length co8)) (fun _ hk=>trivial),bl HB.out⟩
def spec_l01Spoil.f (k:Nat) (s0_0:List Int) (s0_1:Int) (s0_2:Int):Option (Int×List Int×Int×Int):=(spec_l01Draw.f k s0_0 s0_1 s0_2).bind fun bt182=>((spec_l01Bad.f s0_0 bt182.2.2.1 bt182.2.2.2 bt182.1 bt182.2.1).bind fun bt188=>(some (bt188.1,bt188.2.1,bt188.2.2.1,bt188.2.2.2)))
theorem spec_l01Spoil.mono:∀ a0 a1 a2 k,LeO (spec_l01Spoil.f k a0 a1 a2) (spec_l01Spoil.f (k+1) a0 a1 a2):=by
 intro a0 a1 a2 k;unfold spec_l01Spoil.f;repeat' first
   |(with_reducible first|exact spec_l01Draw.mono _ _ _ _|exact LeO.refl _|exact LeO.none _|refine LeO.ite ?_ ?_|refine LeO.bind ?_ (fun _=>?_))
set_option maxHeartbeats 8000000 in
set_option maxRecDepth 100000 in
theorem spec_l01Spoil.calls (k:Nat) (g:Nat) (s0_0:List Int) (s0_1:Int) (s0_2:Int) (r1:Int) (r2:List Int) (r3:Int) (r4:Int) (w0 w:World) (hI:IsS92 w0 w g s0_0 s0_1 s0_2) (hB:Below w0.heap.size w0 w) (h:spec_l01Spoil.f k s0_0 s0_1 s0_2=some (r1,r2,r3,r4)) :
  Calls Tryz.prog 68 #[.pointer (some ⟨g,0,none⟩)] w fun e w'=>∃ v1_:Value,e = .returned (.agg #[.int .i64 r1,v1_])∧Kd.R (Kd.int .i64) 2 w' w.heap.size (fun _=>True) v1_ r2∧IsS92 w0 w' g s0_0 r3 r4∧Below w0.heap.size w0 w'∧KeepBut w w' g none:=by
 have hu26:=Tryz.underlying26;have HI0:=Aside0.mk hI;have HK:=Aside0.mk (KeepBut.refl w g none);have HL:=Aside0.mk hB.size;clear hI;have HW0:=Aside0.mk hB.size;have HB:=Aside0.mk hB;clear hB;have H:((spec_l01Draw.f k s0_0 s0_1 s0_2).bind fun bt182=>((spec_l01Bad.f s0_0 bt182.2.2.1 bt182.2.2.2 bt182.1 bt182.2.1).bind fun bt188=>(some (bt188.1,bt188.2.1,bt188.2.2.1,bt188.2.2.2))))=some (r1,r2,r3,r4):=h;clear h;replace H:=Option.bind_eq_some_iff.mp H;obtain ⟨⟨t182,t183,t186,t187⟩,A20,H⟩:=H;replace H:((spec_l01Bad.f s0_0 t186 t187 t182 t183).bind fun bt188=>(some (bt188.1,bt188.2.1,bt188.2.2.1,bt188.2.2.2)))=some (r1,r2,r3,r4):=H;have A2:=Aside0.mk A20;clear A20;replace H:=Option.bind_eq_some_iff.mp H;obtain ⟨⟨t188,t189,t192,t193⟩,A30,H⟩:=H;replace H:(some (t188,t189,t192,t193))=some (r1,r2,r3,r4):=H;have A3:=Aside0.mk A30;clear A30;simp only [Option.some.injEq,Prod.mk.injEq] at H;obtain ⟨rfl,rfl,rfl,rfl⟩:=H;go_enter Tryz.func68,Tryz.ntmps68;go_wp2_with (first|((with_reducible refine gate_dst (N:=2) rfl ?_);refine bx 2 #[.int .i64 0,.slice none 0 0] 26 ?_;intro gb181 hg w4 hbox hb;replace HB:=Aside0.mk (below_step (blg HB.out (IsS92.ge HI0.out)) hb);have BK181:=Aside0.mk (hbox);have GW181:=Aside0.mk ((by rw[hg];exact(keep_size (w:=w) (g:=g) (row:=none) (kp HK.out)):w.heap.size≤gb181));have GE181:=Aside0.mk ((Nat.le_trans HW0.out (by rw[hg];exact(keep_size (w:=w) (g:=g) (row:=none) (kp HK.out)):w.heap.size≤gb181):w0.heap.size≤gb181));replace HK:=Aside0.mk (KeepBut.trans (kp HK.out) (KeepBut.of_below hb g none) (.inl rfl));have NB0_181:=Aside0.mk ((by rw[hg];exact Nat.ne_of_lt (IsS92.lt (show IsS92 w0 _ g s0_0 s0_1 s0_2 from IsS92.ch HI0.out)):g≠gb181));have NB181_0:=Aside0.mk ((by rw[hg];exact Nat.ne_of_gt (IsS92.lt (show IsS92 w0 _ g s0_0 s0_1 s0_2 from IsS92.ch HI0.out)):gb181≠g));replace HI0:=Aside0.mk (IsS92.below (IsS92.ch HI0.out) hb);clear hb hbox hg)|((with_reducible refine gate_callee (f:=75) rfl ?_);refine gl (some 5) Tryz.func75 #[.pointer (some ⟨g,0,none⟩)] ?_;(with_reducible refine(spec_l01Draw.calls k g s0_0 s0_1 s0_2 t182 t183 t186 t187 w0 _ (IsS92.ch HI0.out) (blg HB.out (IsS92.ge HI0.out)) A2.out).mono ?_);rintro e w5 ⟨v184,rfl,ho0,hi,hb,hk⟩;refine⟨_,rfl,?_⟩;replace BK181:=Aside0.mk (kbk hk (bk BK181.out) NB181_0.out);have HO185:=Aside0.mk (Kd.R_lower ho0 (keep_size (w:=w) (g:=g) (row:=none) (kp HK.out)));replace HK:=Aside0.mk (KeepBut.trans (kp HK.out) hk (.inl rfl));replace HB:=Aside0.mk (hb);replace HI0:=Aside0.mk (hi);(try clear hb);(try clear hb2);(try clear hk);(try clear hi);(try clear ho0);obtain ⟨Ao6,co6,eo6⟩:=Kd.R_slice HO185.out;subst eo6)|((with_reducible refine gate_callee (f:=69) rfl ?_);refine gl (some 6) Tryz.func69 #[.pointer (some ⟨g,0,none⟩),.agg #[.int .i64 t182,.slice Ao6 t183.length co6]] ?_;(with_reducible refine(spec_l01Bad.calls g s0_0 t186 t187 t182 (fun k_=>some k_=(.slice Ao6 t183.length co6:Value).ownBlock) (.slice Ao6 t183.length co6) t183 t188 t189 t192 t193 w0 _ (IsS92.ch HI0.out) (blg HB.out (IsS92.ge HI0.out)) (Kd.R_lower (Kd.R_tight rfl HO185.out) HL.out) A3.out).mono ?_);rintro e w7 ⟨v190,rfl,ho0,hi,hb,hkp⟩;refine⟨_,rfl,?_⟩;have n0_:=Aside0.mk (hi);have n1_:=Aside0.mk (blk_kept (bk BK181.out) hkp (fun hs_=>Or.elim hs_ (fun hs_=>(fun e_=>(Kd.R_ne HO185.out BK181.out (by decide)) e_) hs_) (fun e_=>NB181_0.out e_)));have n2_:=Aside0.mk (Kd.R_mono (ok':=fun k_=>True) (Kd.R_raise (d:=(Kd.int .i64)) (b:=w0.heap.size) (b':=w.heap.size) (fun _ _ _ _ h_=>h_) ho0 (fun k_ e_=>Or.elim (ho0.1 k_ e_) (fun hs_=>(fun e_=>Kd.R_base HO185.out k_ e_.symm) hs_) (fun hn_=>Nat.le_trans (keep_size (w:=w) (g:=g) (row:=none) (kp HK.out)) hn_))) (fun k_ hk_=>trivial));have n3_:=Aside0.mk (Kept.keepG (kp HK.out) hkp (fun k_ hs_=>Or.elim hs_ (fun hs_=>(fun e_=> .inr (Kd.R_base HO185.out k_ e_.symm)) hs_) (fun e_=> .inl e_)));have n4_:=Aside0.mk (hb);clear HI0;clear BK181;clear HK;clear HB;clear HO185;have HI0:=n0_;have BK181:=n1_;have HO191:=n2_;have HK:=n3_;have HB:=n4_;clear n0_ n1_ n2_ n3_ n4_;(try clear hb);(try clear hkp);(try clear ho0);have hnb8:=NB181_0.out;have hnc8:=NB0_181.out;have hcz9_0:=z0_ BK181;have hcz9_1:=z1_ BK181;have hfz9_0:=hf_ BK181 0;have hfz9_1:=hf_ BK181 1;obtain ⟨Ao10,co10,eo10⟩:=Kd.R_slice HO191.out;subst eo10))
 refine bodyPost_ret (results_cell_row rfl _ _ gb181 26 #[.int .i64 t188,.slice Ao10 t189.length co10] (0,0) _ rfl (bp BK181.out) Tryz.underlying26 rfl (by kernel_rfl)) rfl ?_;exact⟨_,rr,by(with_reducible repeat(first|apply Kd.R_alloc|apply Kd.R_drewN|apply Kd.R_drew));exact Kd.R_mono (Kd.R_far (p:=⟨gb181,1,none⟩) (Kd.R_far (p:=⟨gb181,0,none⟩) (Kd.R_types HO191.out BK181.out (by decide)) (fun _ hk=>hk.2) (.int .i64 t188)) (fun _ hk=>hk.2) (.slice Ao10 t189.length co10)) (fun _ hk=>trivial),IsS92.ch HI0.out,blg HB.out (IsS92.ge HI0.out),kp HK.out⟩
end Go.Proofs.YtbnnamejnjfkjaaGreat.R
end

section
namespace Go.Proofs.YtbnnamejnjfkjaaGreat.K
open Go.RowKit Go.Shelf Go.Proofs.YtbnnamejnjfkjaaGreat.Q Go.Proofs.YtbnnamejnjfkjaaGreat.R Go.Proofs.YtbnnamejnjfkjaaGreat.X Go.Proofs.YtbnnamejnjfkjaaGreatW.PrintWords Go.Proofs.YtbnnamejnjfkjaaGreatW.PrintLast Go.Proofs.YtbnnamejnjfkjaaGreatW.PrintMore
set_option linter.unusedVariables false
set_option linter.unusedSimpArgs false
structure Src (s:List Int) (b:Int):Prop where
 h0:0≤b
 h1:b≤s.length
 h2:s.length≤4096
 h3:∀ x ∈ s,0≤x∧x≤255
theorem and24 (E:Int) (h0:0≤E) (h1:E≤18446744073709551615):0≤Go.bits .and .u64 E 16777215∧Go.bits .and .u64 E 16777215≤16777215:=by
 have h:=bits_and_u64_nat E.toNat 16777215 (by omega) (by omega)
 rw[show ((E.toNat:Nat):Int)=E by omega] at h
 have h2:(E.toNat &&& 16777215)≤16777215:=Nat.and_le_right
 have e:Go.bits .and .u64 E 16777215=((E.toNat &&& 16777215:Nat):Int):=by simpa using h
 rw[e]
 omega
theorem u64_range (x:Int):0≤IntKind.u64.wrap x∧IntKind.u64.wrap x≤18446744073709551615:=by
 have h:IntKind.u64.wrap x=x % 18446744073709551616:=by simp [IntKind.wrap,IntKind.bits,IntKind.signed]
 rw[h]
 omega
theorem next_ok {s:List Int} {b:Int} (h:Src s b) (c n:Int):∃ r b' c',spec_l01Next.f s b c n=some (r,b',c')∧Src s b'∧0≤r∧(1≤n→r<n):=by
 unfold spec_l01Next.f
 have hb:=h.h0
 have hb1:=h.h1
 have hl:=h.h2
 by_cases hn:n<1
 ·exact⟨0,b,c,by rw[if_pos hn],h,by omega,fun h=>by omega⟩
 ·rw[if_neg hn]
  have hw:=u64_range ((IntKind.u64.wrap (c*6364136223846793005))+1442695040888963407)
  have ha:=and24 ((IntKind.u64.wrap ((IntKind.u64.wrap (c*6364136223846793005))+1442695040888963407)) / 8589934592) (by omega) (by omega)
  generalize Go.bits .and .u64 ((IntKind.u64.wrap ((IntKind.u64.wrap (c*6364136223846793005))+1442695040888963407)) / 8589934592) 16777215=A at ha ⊢
  have hm:∀ x:Int,0≤x→0≤Int.tmod x n∧Int.tmod x n<n:=fun x hx=>⟨Int.tmod_nonneg n hx,Int.tmod_lt_of_pos x (by omega)⟩
  by_cases hlt:b<(s.length:Int)
  ·rw[if_pos hlt,if_pos hb,if_neg (by omega)]
   obtain ⟨i,rfl⟩:=Int.eq_ofNat_of_zero_le hb
   have hr:=h.h3 _ (List.getElem_mem (show i<s.length by omega))
   have hrd:rd s (i:Int)=s[i]'(by omega):=by simp [rd,show i<s.length by omega]
   have e1:wrap64 (wrap64 A+wrap64 (rd s (i:Int)))=A+s[i]'(by omega):=by rw[hrd];unfold wrap64;omega
   have e2:wrap64 ((i:Int)+1)=(i:Int)+1:=by unfold wrap64;omega
   rw[e1,e2]
   exact⟨_,_,_,rfl,⟨by omega,by omega,hl,h.h3⟩,(hm _ (by omega)).1,fun _=>(hm _ (by omega)).2⟩
  ·rw[if_neg hlt,if_neg (by omega)]
   have e1:wrap64 A=A:=by unfold wrap64;omega
   rw[e1]
   exact⟨_,_,_,rfl,h,(hm _ (by omega)).1,fun _=>(hm _ (by omega)).2⟩
theorem pick_ok {s:List Int} {b:Int} (h:Src s b) (c:Int) (l:List Int) (hl:1≤(l.length:Int)):∃ r b' c',spec_l01Pick.f s b c l=some (r,b',c')∧Src s b'∧r ∈ l:=by
 obtain ⟨r,b',c',e,h',h0,h1⟩:=next_ok h c (l.length:Int)
 unfold spec_l01Pick.f
 rw[e]
 simp only [Option.bind_some]
 have:=h1 hl
 rw[if_pos h0,if_pos this]
 obtain ⟨i,rfl⟩:=Int.eq_ofNat_of_zero_le h0
 exact⟨_,_,_,rfl,h',by
  have:rd l (i:Int)=l[i]'(by omega):=by simp [rd,show i<l.length by omega]
  rw[this]
  exact List.getElem_mem _⟩
theorem own_ok (l:List Int) (h:l.length≤1000000):spec_l01Own.f l=some l:=by
 unfold spec_l01Own.f
 simp only [Option.bind_some]
 rw[if_pos (by simp;omega)]
 simp
theorem all_ok (n:Int):∃ r,spec_l01All.f n=some r:=by
 unfold spec_l01All.f
 rw[if_pos (u64_range n).1]
 exact⟨_,rfl⟩
theorem bad_ok {s:List Int} {b:Int} (h:Src s b) (c n:Int) (l:List Int) (hl:l.length≤1000):∃ n' l' b' c',spec_l01Bad.f s b c n l=some (n',l',b',c')∧Src s b'∧l'.length≤1001:=by
 obtain ⟨r,b1,c1,e,h1,_,_⟩:=next_ok h c 50
 unfold spec_l01Bad.f
 rw[e]
 simp only [Option.bind_some]
 by_cases h0:r=0
 ·rw[if_pos h0]
  obtain ⟨r2,b2,c2,e2,h2,_⟩:=pick_ok h1 c1 [0,7,-1] (by decide)
  rw[e2]
  simp only [Option.bind_some]
  rw[own_ok l (by omega)]
  exact⟨_,_,_,_,rfl,h2,by omega⟩
 ·rw[if_neg h0]
  by_cases h0:r=1
  ·rw[if_pos h0]
   by_cases hp:(l.length:Int)>0
   ·rw[if_pos hp,if_pos (by omega),own_ok (l.drop 1) (by simp;omega)]
    exact⟨_,_,_,_,rfl,h1,by simp;omega⟩
   ·rw[if_neg hp]
    exact⟨_,_,_,_,rfl,h1,by omega⟩
  ·rw[if_neg h0]
   by_cases h0:r=2
   ·rw[if_pos h0,own_ok l (by omega)]
    obtain ⟨a,ea⟩:=all_ok n
    simp only [Option.bind_some,ea]
    obtain ⟨r2,b2,c2,e2,h2,_⟩:=pick_ok h1 c1 [0,wrap64 (a+1),a,1] (by simp)
    rw[e2]
    simp only [Option.bind_some]
    rw[if_pos (by omega)]
    exact⟨_,_,_,_,rfl,h2,by simp;omega⟩
   ·rw[if_neg h0]
    exact⟨_,_,_,_,rfl,h1,by omega⟩
theorem near_ok {s:List Int} {b:Int} (h:Src s b) (c n:Int):∃ r b' c',spec_l01Near.f s b c n=some (r,b',c')∧Src s b':=by
 obtain ⟨r,b1,c1,e,h1,_,_⟩:=next_ok h c 14
 unfold spec_l01Near.f
 rw[e]
 simp only [Option.bind_some]
 by_cases h0:r=0
 ·rw[if_pos h0]
  obtain ⟨r2,b2,c2,e2,h2,_⟩:=pick_ok h1 c1 [-1,wrap64 (n+1),1099511627776,-4611686018427387904] (by simp)
  rw[e2]
  exact⟨_,_,_,rfl,h2⟩
 ·rw[if_neg h0]
  obtain ⟨r2,b2,c2,e2,h2,_⟩:=next_ok h1 c1 (wrap64 (n+1))
  rw[e2]
  exact⟨_,_,_,rfl,h2⟩
theorem made_ok (n:Int) (hn:1≤n∧n≤6) (sets:List Int) (hs:sets.length≤100) (k:Nat) (hk:10000≤k):∃ l,spec_l01Made.f k n sets=some (n,l)∧l.length≤63:=by
 have h:=specMade_g0 n hn sets (by omega) 106 (by omega) (fun x=>sets.any fun s=>decide (Go.bits .and .i64 x s=x)) (fun _ _ _=>rfl) (2 ^ n.toNat - 1) 0 k (by omega) (by omega) (by
  have:2 ^ n.toNat≤2 ^ 6:=Nat.pow_le_pow_right (by omega) (by omega)
  omega)
 refine⟨_,h,?_⟩
 have h1:=upTo_filter_length (fun x=>sets.any fun s=>decide (Go.bits .and .i64 x s=x)) (2 ^ n.toNat - 1)
 have:2 ^ n.toNat≤2 ^ 6:=Nat.pow_le_pow_right (by omega) (by omega)
 unfold thoseL
 omega
theorem less1_64:∀ f:Fin 64,f.val≠0→(0≤Go.bits .and .i64 (f.val:Int) (wrap64 ((f.val:Int) - 1))∧Go.bits .and .i64 (f.val:Int) (wrap64 ((f.val:Int) - 1))≤63)∧onesI (Go.bits .and .i64 (f.val:Int) (wrap64 ((f.val:Int) - 1)))=onesI (f.val:Int) - 1:=by decide +kernel
theorem less1 (f:Int) (h:1≤f∧f≤63):(0≤Go.bits .and .i64 f (wrap64 (f - 1))∧Go.bits .and .i64 f (wrap64 (f - 1))≤63)∧onesI (Go.bits .and .i64 f (wrap64 (f - 1)))=onesI f - 1:=by
 obtain ⟨m,rfl⟩:=Int.eq_ofNat_of_zero_le (show 0≤f by omega)
 exact less1_64 ⟨m,by omega⟩ (by show m≠0;omega)
theorem drawOf_l1 (n:Int) {s:List Int} (sets:List Int) (hs:sets.length≤100) (sz t b c:Int) (hz:2≤sz) (R:Nat) (P:Int×List Int×Int×Int→Prop)
  (hR:∀(f:Int) (k:Nat),R≤k→∃ r,spec_l01DrawOf.l0 k n (sets ++ [f]) sz (wrap64 (t - 1)) s b c=some r∧P r) :
  ∀(d:Nat) (f:Int) (k:Nat),0≤f∧f≤63→onesI f≤d→R+d+10≤k→∃ r,spec_l01DrawOf.l1 k n sets sz t f s b c=some r∧P r:=by
 intro d
 induction d with
 |zero=>
  intro f k hf hd hk
  obtain ⟨k,rfl⟩:∃ m,k=m+1:=⟨k - 1,by omega⟩
  simp only [spec_l01DrawOf.l1]
  rw[specOnes_is f hf.1 hf.2 k (by omega)]
  simp only [Option.bind_some]
  rw[if_neg (by omega),if_pos (by omega)]
  exact hR f k (by omega)
 |succ d ih=>
  intro f k hf hd hk
  obtain ⟨k,rfl⟩:∃ m,k=m+1:=⟨k - 1,by omega⟩
  simp only [spec_l01DrawOf.l1]
  rw[specOnes_is f hf.1 hf.2 k (by omega)]
  simp only [Option.bind_some]
  by_cases hg:onesI f>sz
  ·rw[if_pos hg]
   have hf1:1≤f:=by
    apply Classical.byContradiction
    intro h
    have:f=0:=by omega
    subst this
    have:onesI 0=0:=by decide
    omega
   have h:=less1 f ⟨hf1,hf.2⟩
   exact ih _ k h.1 (by omega) (by omega)
  ·rw[if_neg hg,if_pos (by omega)]
   exact hR f k (by omega)
theorem drawOf_l0 (n:Int) (hn:1≤n∧n≤6) (sz:Int) (hz:2≤sz) {s:List Int}:∀(d:Nat) (t:Int) (sets:List Int) (b c:Int) (k:Nat),t≤d→d≤20→sets.length+d≤50→Src s b→10001+20*d≤k →
  ∃ n' l b' c',spec_l01DrawOf.l0 k n sets sz t s b c=some (n',l,b',c')∧n'=n∧l.length≤63∧Src s b':=by
 intro d
 induction d with
 |zero=>
  intro t sets b c k ht hd hs h hk
  obtain ⟨k,rfl⟩:∃ m,k=m+1:=⟨k - 1,by omega⟩
  simp only [spec_l01DrawOf.l0]
  rw[if_neg (by omega)]
  obtain ⟨l,e,hl⟩:=made_ok n hn sets (by omega) k (by omega)
  rw[e]
  exact⟨_,_,_,_,rfl,rfl,hl,h⟩
 |succ d ih=>
  intro t sets b c k ht hd hs h hk
  obtain ⟨k,rfl⟩:∃ m,k=m+1:=⟨k - 1,by omega⟩
  simp only [spec_l01DrawOf.l0]
  by_cases h0:t>0
  ·rw[if_pos h0,specAll_is n (by omega) (by omega)]
   simp only [Option.bind_some]
   have hF:=full_range n hn
   obtain ⟨r,b1,c1,e,h1,hr0,hr1⟩:=next_ok h c (fullOf n)
   rw[e]
   simp only [Option.bind_some]
   have hr:=hr1 hF.1
   have ew:wrap64 (1+r)=1+r:=by unfold wrap64;omega
   have et:wrap64 (t - 1)=t - 1:=by unfold wrap64;omega
   rw[ew]
   have ho:=ones_le (1+r)
   obtain ⟨q,hq,P⟩:=drawOf_l1 n sets (by omega) sz t b1 c1 hz (10001+20*d) (fun q=>∃ l b' c',q=(n,l,b',c')∧l.length≤63∧Src s b') (fun f k' hk'=>by
    rw[et]
    obtain ⟨n',l,b',c',e',en,hl,hsrc⟩:=ih (t - 1) (sets ++ [f]) b1 c1 k' (by omega) (by omega) (by simp;omega) h1 hk'
    subst en
    exact⟨_,e',l,b',c',rfl,hl,hsrc⟩) 6 (1+r) k ⟨by omega,by omega⟩ (by have:=ho.2;omega) (by omega)
   obtain ⟨l,b',c',rfl,hl,hsrc⟩:=P
   exact⟨_,_,_,_,hq,rfl,hl,hsrc⟩
  ·rw[if_neg h0]
   obtain ⟨l,e,hl⟩:=made_ok n hn sets (by omega) k (by omega)
   rw[e]
   exact⟨_,_,_,_,rfl,rfl,hl,h⟩
theorem drawOf_ok {s:List Int} {b:Int} (h:Src s b) (c n:Int) (hn:1≤n∧n≤6) (k:Nat) (hk:20000≤k):∃ n' l b' c',spec_l01DrawOf.f k s b c n=some (n',l,b',c')∧n'=n∧l.length≤63∧Src s b':=by
 unfold spec_l01DrawOf.f
 obtain ⟨r,b1,c1,e,h1,hr⟩:=pick_ok h c [2,3,3,4] (by decide)
 rw[e]
 simp only [Option.bind_some]
 obtain ⟨r2,b2,c2,e2,h2,hr2⟩:=pick_ok h1 c1 [3,7,12] (by decide)
 rw[e2]
 simp only [Option.bind_some]
 obtain ⟨r3,b3,c3,e3,h3,h30,h31⟩:=next_ok h2 c2 r2
 rw[e3]
 simp only [Option.bind_some]
 simp only [List.mem_cons,List.not_mem_nil,or_false] at hr hr2
 have:=h31 (by omega)
 exact drawOf_l0 n hn r (by omega) 15 r3 [] b3 c3 k (by omega) (by omega) (by simp) h3 (by omega)
theorem ordN_ok {s:List Int}:∀(d:Nat) (i:Int) (xs:List Int) (b c:Int),Src s b→i=xs.length→∃ l b' c',ordN s d i xs b c=some (l,b',c')∧Src s b'∧l.length=xs.length+d:=by
 intro d
 induction d with
 |zero=>intro i xs b c h hi;exact⟨xs,b,c,rfl,h,rfl⟩
 |succ d ih=>
  intro i xs b c h hi
  simp only [ordN]
  obtain ⟨r,b1,c1,e,h1,h0,h2⟩:=next_ok h c (i+1)
  rw[e]
  simp only [Option.bind_some]
  have:=h2 (by omega)
  rw[if_pos ⟨h0,by omega⟩]
  obtain ⟨l,b',c',e',h',hl⟩:=ih (i+1) (xs.take r.toNat ++ [i] ++ xs.drop r.toNat) b1 c1 h1 (by simp;omega)
  exact⟨l,b',c',e',h',by rw[hl];simp;omega⟩
theorem order_ok {s:List Int} {b:Int} (h:Src s b) (c n:Int) (hn:0≤n∧n≤6):∃ l b' c',spec_l01DrawOrder.f s b c n=some (l,b',c')∧Src s b'∧(l.length:Int)=n:=by
 unfold spec_l01DrawOrder.f
 rw[if_pos ⟨hn.1,by omega⟩]
 obtain ⟨l,b',c',e,h',hl⟩:=ordN_ok n.toNat 0 [] b c h rfl
 exact⟨l,b',c',e,h',by rw[hl];simp;omega⟩
theorem moved_ok (x:Int) (p:List Int) (hp:p.length≤1000):∀(d i:Nat) (a:Int) (k:Nat),p.length - i=d→i≤p.length→d<k→∃ r,spec_l01Moved.l0 k x p a (i:Int)=some r:=by
 intro d
 induction d with
 |zero=>
  intro i a k hd hi hk
  obtain ⟨k,rfl⟩:∃ m,k=m+1:=⟨k - 1,by omega⟩
  simp only [spec_l01Moved.l0]
  rw[if_neg (by omega)]
  exact⟨_,rfl⟩
 |succ d ih=>
  intro i a k hd hi hk
  obtain ⟨k,rfl⟩:∃ m,k=m+1:=⟨k - 1,by omega⟩
  simp only [spec_l01Moved.l0]
  rw[if_pos (by omega),if_pos (u64_range _).1]
  have e:wrap64 ((i:Int)+1)=((i+1:Nat):Int):=by unfold wrap64;omega
  rw[e]
  by_cases hb:Go.bits .and .i64 (shr .i64 x (IntKind.u64.wrap (i:Int))) 1=1
  ·rw[if_pos hb,if_pos (by omega),if_pos (u64_range _).1]
   exact ih (i+1) _ k (by omega) (by omega) (by omega)
  ·rw[if_neg hb]
   exact ih (i+1) _ k (by omega) (by omega) (by omega)
theorem renamed_ok (n:Int) (hn:1≤n∧n≤6) (l p:List Int) (hl:l.length≤63) (hp:p.length≤1000):∀(d i:Nat) (out:List Int) (k:Nat),l.length - i=d→i≤l.length→out.length+d≤100→10001+d≤k →
  ∃ r,spec_l01Renamed.l0 k p out (i:Int) n l=some (n,r)∧r.length≤63:=by
 intro d
 induction d with
 |zero=>
  intro i out k hd hi ho hk
  obtain ⟨k,rfl⟩:∃ m,k=m+1:=⟨k - 1,by omega⟩
  simp only [spec_l01Renamed.l0]
  rw[if_neg (by omega)]
  obtain ⟨r,e,hr⟩:=made_ok n hn out (by omega) k (by omega)
  rw[e]
  exact⟨_,rfl,hr⟩
 |succ d ih=>
  intro i out k hd hi ho hk
  obtain ⟨k,rfl⟩:∃ m,k=m+1:=⟨k - 1,by omega⟩
  simp only [spec_l01Renamed.l0]
  rw[if_pos (by omega),if_pos (by omega)]
  have e:wrap64 ((i:Int)+1)=((i+1:Nat):Int):=by unfold wrap64;omega
  obtain ⟨r,er⟩:=moved_ok (rd l (i:Int)) p hp p.length 0 0 k (by omega) (by omega) (by omega)
  have er':spec_l01Moved.f k (rd l (i:Int)) p=some r:=er
  rw[er',e]
  simp only [Option.bind_some]
  rw[if_pos (by omega)]
  exact ih (i+1) _ k (by omega) (by omega) (by simp;omega) (by omega)
def namedOk (s:ByteArray):Bool:=match spec_l01Named.f 4000 s with
 |some (n,l,_)=>decide (1≤n∧n≤6) && decide (l.length≤63)
 |none=>false
theorem named_11:∀ i:Fin 11,namedOk (((spec_l01Names.f).getD []).getD i.val ByteArray.empty)=true:=by decide +kernel
theorem named_ok (i:Nat) (hi:i<11) (k:Nat) (hk:4000≤k):∃ n l q,spec_l01Named.f k (((spec_l01Names.f).getD []).getD i ByteArray.empty)=some (n,l,q)∧(1≤n∧n≤6)∧l.length≤63:=by
 have h:=named_11 ⟨i,hi⟩
 simp only at h
 generalize ((spec_l01Names.f).getD []).getD i ByteArray.empty=s at h ⊢
 unfold namedOk at h
 cases e:spec_l01Named.f 4000 s with
 |none=>rw[e] at h;cases h
 |some q=>
  obtain ⟨n,l,q⟩:=q
  rw[e] at h
  simp only [Bool.and_eq_true,decide_eq_true_eq] at h
  have hm:∀ j,spec_l01Named.f (4000+j) s=some (n,l,q):=by
   intro j
   induction j with
   |zero=>exact e
   |succ j ih=>exact spec_l01Named.mono _ _ _ ih
  have:=hm (k - 4000)
  rw[show 4000+(k - 4000)=k by omega] at this
  exact⟨n,l,q,this,h.1,h.2⟩
theorem draw_ok {s:List Int} {b:Int} (h:Src s b) (c:Int) (k:Nat) (hk:20000≤k):∃ n l b' c',spec_l01Draw.f k s b c=some (n,l,b',c')∧(1≤n∧n≤6)∧l.length≤63∧Src s b':=by
 unfold spec_l01Draw.f
 obtain ⟨r,b1,c1,e,h1,_,_⟩:=next_ok h c 3
 rw[e]
 simp only [Option.bind_some]
 by_cases h0:r=0
 ·rw[if_pos h0]
  obtain ⟨T,hT⟩:∃ T,spec_l01Names.f=some T:=⟨_,rfl⟩
  have hT11:T.length=11:=by
   have:(spec_l01Names.f).getD []=T:=by rw[hT];rfl
   rw[← this]
   decide +kernel
  rw[hT]
  simp only [Option.bind_some]
  obtain ⟨r2,b2,c2,e2,h2,h20,h21⟩:=next_ok h1 c1 (T.length:Int)
  have hr2:=h21 (by omega)
  rw[e2]
  simp only [Option.bind_some]
  rw[if_pos h20,if_pos hr2]
  obtain ⟨i,rfl⟩:=Int.eq_ofNat_of_zero_le h20
  have en:rdOf ByteArray.empty T (i:Int)=((spec_l01Names.f).getD []).getD i ByteArray.empty:=by
   rw[hT]
   simp [rdOf]
  obtain ⟨n,l,q,e3,hn,hl⟩:=named_ok i (by omega) k (by omega)
  rw[en,e3]
  simp only [Option.bind_some]
  obtain ⟨p,b4,c4,e4,h4,hp⟩:=order_ok h2 c2 n ⟨by omega,by omega⟩
  rw[e4]
  simp only [Option.bind_some]
  obtain ⟨m,e5,hm⟩:=renamed_ok n hn l p hl (by omega) l.length 0 [] k (by omega) (by omega) (by simp;omega) (by omega)
  have e5':spec_l01Renamed.f k n l p=some (n,m):=e5
  rw[e5']
  exact⟨_,_,_,_,rfl,hn,hm,h4⟩
 ·rw[if_neg h0]
  obtain ⟨r2,b2,c2,e2,h2,hr2⟩:=pick_ok h1 c1 [1,2,3,4,4,5,5,6,6] (by decide)
  rw[e2]
  simp only [Option.bind_some]
  simp only [List.mem_cons,List.not_mem_nil,or_false] at hr2
  obtain ⟨n',l,b',c',e3,en,hl,h3⟩:=drawOf_ok h2 c2 r2 (by omega) k hk
  rw[e3]
  exact⟨_,_,_,_,rfl,by subst en;omega,hl,h3⟩
theorem spoil_ok {s:List Int} {b:Int} (h:Src s b) (c:Int) (k:Nat) (hk:20000≤k):∃ n l b' c',spec_l01Spoil.f k s b c=some (n,l,b',c')∧l.length≤1001∧Src s b':=by
 unfold spec_l01Spoil.f
 obtain ⟨n,l,b1,c1,e,hn,hl,h1⟩:=draw_ok h c k hk
 rw[e]
 simp only [Option.bind_some]
 obtain ⟨n2,l2,b2,c2,e2,h2,hl2⟩:=bad_ok h1 c1 n l (by omega)
 rw[e2]
 exact⟨_,_,_,_,rfl,hl2,h2⟩
theorem from_ok (code:List Int) (hl:code.length≤4096) (hb:∀ x ∈ code,0≤x∧x≤255) (k:Nat) (hk:20000≤k):∃ c,spec_l01From.f k code=some (code,0,c):=by
 have:∀(d i:Nat) (c:Int) (k:Nat),code.length - i=d→i≤code.length→d<k→∃ c',spec_l01From.l0 k code (i:Int) code 0 c=some (code,0,c'):=by
  intro d
  induction d with
  |zero=>
   intro i c k hd hi hk
   obtain ⟨k,rfl⟩:∃ m,k=m+1:=⟨k - 1,by omega⟩
   simp only [spec_l01From.l0]
   rw[if_neg (by omega)]
   exact⟨_,rfl⟩
  |succ d ih=>
   intro i c k hd hi hk
   obtain ⟨k,rfl⟩:∃ m,k=m+1:=⟨k - 1,by omega⟩
   simp only [spec_l01From.l0]
   rw[if_pos (by omega),if_pos (by omega),if_pos (by omega)]
   have e:wrap64 ((i:Int)+1)=((i+1:Nat):Int):=by unfold wrap64;omega
   rw[e]
   exact ih (i+1) _ k (by omega) (by omega) (by omega)
 unfold spec_l01From.f
 exact this code.length 0 _ k (by omega) (by omega) (by omega)
theorem src0 {code:List Int} (hl:code.length≤4096) (hb:∀ x ∈ code,0≤x∧x≤255):Src code 0:=⟨Int.le_refl _,by omega,hl,hb⟩
section
variable {code : List Int} (hl : code.length ≤ 4096) (hb : ∀ x ∈ code, 0 ≤ x ∧ x ≤ 255) (k : Nat) (hk : 30000 ≤ k)
include hl hb hk
theorem link_ok:∃ n l f,spec_DrawLinkOf.f k code=some (n,l,f)∧l.length≤1001:=by
 unfold spec_DrawLinkOf.f spec_l01With.f
 obtain ⟨c,e⟩:=from_ok code hl hb k (by omega)
 rw[e]
 simp only [Option.bind_some]
 obtain ⟨n,l,b1,c1,e1,hn,hl1,h1⟩:=draw_ok (src0 hl hb) c k (by omega)
 rw[e1]
 simp only [Option.bind_some]
 obtain ⟨a,ea⟩:=all_ok n
 rw[ea]
 simp only [Option.bind_some]
 obtain ⟨f,b2,c2,e2,h2⟩:=near_ok h1 c1 a
 rw[e2]
 simp only [Option.bind_some]
 have hj:∀(q:Bool) (b c:Int),(q=true→1≤(l.length:Int))→Src code b→∃ n' l' f',spec_l01With.j0 k f q code b c n l=some (n',l',f')∧l'.length≤1001:=by
  intro q b c hq h
  obtain ⟨k,rfl⟩:∃ m,k=m+1:=⟨k - 1,by omega⟩
  simp only [spec_l01With.j0]
  by_cases h0:q=true
  ·rw[if_pos h0]
   obtain ⟨r,b3,c3,e3,h3,h30,h31⟩:=next_ok h c (l.length:Int)
   rw[e3]
   simp only [Option.bind_some]
   rw[if_pos h30,if_pos (h31 (hq h0))]
   obtain ⟨n4,l4,b4,c4,e4,h4,hl4⟩:=bad_ok h3 c3 n l (by omega)
   rw[e4]
   exact⟨_,_,_,rfl,hl4⟩
  ·rw[if_neg h0]
   obtain ⟨n4,l4,b4,c4,e4,h4,hl4⟩:=bad_ok h c n l (by omega)
   rw[e4]
   exact⟨_,_,_,rfl,hl4⟩
 by_cases hp:(l.length:Int)>0
 ·rw[if_pos hp]
  obtain ⟨r,b3,c3,e3,h3,_,_⟩:=next_ok h2 c2 8
  rw[e3]
  simp only [Option.bind_some]
  obtain ⟨n',l',f',e4,hl4⟩:=hj (decide (r>0)) b3 c3 (fun _=>by omega) h3
  rw[e4]
  exact⟨_,_,_,rfl,hl4⟩
 ·rw[if_neg hp]
  obtain ⟨n',l',f',e4,hl4⟩:=hj false b2 c2 (fun h=>by cases h) h2
  rw[e4]
  exact⟨_,_,_,rfl,hl4⟩
end
end Go.Proofs.YtbnnamejnjfkjaaGreat.K
end

section
namespace Go.Proofs.YtbnnamejnjfkjaaGreat.R
open Go.RowKit Go.Proofs.YtbnnamejnjfkjaaGreat.Q Go.Proofs.YtbnnamejnjfkjaaGreat.X Go.Proofs.YtbnnamejnjfkjaaGreatW.PrintWords Go.Proofs.YtbnnamejnjfkjaaGreatW.PrintLast Go.Proofs.YtbnnamejnjfkjaaGreatW.PrintMore
attribute [local go_sem] max2_int min2_int max_two min_two max_three min_three max_four min_four
set_option linter.unusedVariables false
set_option linter.unusedSimpArgs false
def spec_l03DrawP.f (s0_0:List Int) (s0_1:Int) (s0_2:Int):Option (Int×Int×Int):=(spec_l01Pick.f s0_0 s0_1 s0_2 (([2,2,2,2,3,3,3,3,3,1,5]:List Int))).bind fun bt104=>(some (bt104.1,bt104.2.1,bt104.2.2))
set_option maxHeartbeats 8000000 in
set_option maxRecDepth 100000 in
theorem spec_l03DrawP.calls (g:Nat) (s0_0:List Int) (s0_1:Int) (s0_2:Int) (r1:Int) (r2:Int) (r3:Int) (w0 w:World) (hI:IsS92 w0 w g s0_0 s0_1 s0_2) (hB:Below w0.heap.size w0 w) (h:spec_l03DrawP.f s0_0 s0_1 s0_2=some (r1,r2,r3)) :
  Calls Tryz.prog 102 #[.pointer (some ⟨g,0,none⟩)] w fun e w'=>e = .returned (.int .i64 r1)∧IsS92 w0 w' g s0_0 r2 r3∧Below w0.heap.size w0 w'∧KeepBut w w' g none:=by
 have HI0:=Aside0.mk hI;have HK:=Aside0.mk (KeepBut.refl w g none);have HL:=Aside0.mk hB.size;clear hI;have HW0:=Aside0.mk hB.size;have HB:=Aside0.mk hB;clear hB;have H:((spec_l01Pick.f s0_0 s0_1 s0_2 (([2,2,2,2,3,3,3,3,3,1,5]:List Int))).bind fun bt104=>(some (bt104.1,bt104.2.1,bt104.2.2)))=some (r1,r2,r3):=h;clear h;obtain ⟨y101,hy101⟩:∃ y_:List Int,y_=(([2,2,2,2,3,3,3,3,3,1,5]:List Int)):=⟨_,rfl⟩
 replace H:((spec_l01Pick.f s0_0 s0_1 s0_2 y101).bind fun bt104=>(some (bt104.1,bt104.2.1,bt104.2.2)))=some (r1,r2,r3):=by first|(rw[hy101];with_reducible exact H)|(have H2_:=(Option.bind_some _ _).symm.trans H;rw[hy101];with_reducible exact H2_)|(have H2_:=(Option.bind_some _ _).symm.trans H;with_reducible exact H2_)|with_reducible exact H|(rw[hy101];exact H)|exact H
 have Ny101:=Aside0.mk hy101;clear hy101;replace H:=Option.bind_eq_some_iff.mp H;obtain ⟨⟨t104,t105,t106⟩,A20,H⟩:=H;replace H:(some (t104,t105,t106))=some (r1,r2,r3):=H;have A2:=Aside0.mk A20;clear A20;simp only [Option.some.injEq,Prod.mk.injEq] at H;obtain ⟨rfl,rfl,rfl⟩:=H;go_enter Tryz.func102,Tryz.ntmps102;go_wp2_with (first|((with_reducible refine gate_dst (N:=4) rfl ?_);refine Kd.R_lit (Kd.int .i64) _ 2 ?hg (N:=4) ?hd (xs:=([2,2,2,2,3,3,3,3,3,1,5]:List Int)) (inner:= [.int .i64 2,.int .i64 2,.int .i64 2,.int .i64 2,.int .i64 3,.int .i64 3,.int .i64 3,.int .i64 3,.int .i64 3,.int .i64 1,.int .i64 5]) (ok:=fun _=>True) (okp:=fun _=>True) ?hr ?hp (fun _ hk=>hk) trivial (Below.refl _ _) (Nat.le_refl _) (by simp) ?_;(case hd=>rfl);(case hg=>rfl);(case hr=>first|(go_simp;done)|(go_simp;rfl));(case hp=>exact(Reps.one (show Kd.M (Kd.int .i64) _ _ _ 2 [.int .i64 2] from rfl) (Reps.one (show Kd.M (Kd.int .i64) _ _ _ 2 [.int .i64 2] from rfl) (Reps.one (show Kd.M (Kd.int .i64) _ _ _ 2 [.int .i64 2] from rfl) (Reps.one (show Kd.M (Kd.int .i64) _ _ _ 2 [.int .i64 2] from rfl) (Reps.one (show Kd.M (Kd.int .i64) _ _ _ 3 [.int .i64 3] from rfl) (Reps.one (show Kd.M (Kd.int .i64) _ _ _ 3 [.int .i64 3] from rfl) (Reps.one (show Kd.M (Kd.int .i64) _ _ _ 3 [.int .i64 3] from rfl) (Reps.one (show Kd.M (Kd.int .i64) _ _ _ 3 [.int .i64 3] from rfl) (Reps.one (show Kd.M (Kd.int .i64) _ _ _ 3 [.int .i64 3] from rfl) (Reps.one (show Kd.M (Kd.int .i64) _ _ _ 1 [.int .i64 1] from rfl) (Reps.one (show Kd.M (Kd.int .i64) _ _ _ 5 [.int .i64 5] from rfl) (Reps.none _ _)))))))))))));intro v102 w3 ho4 hb hg_ hnew_;clear hg_ hnew_;(first|rw[← Ny101.out] at ho4|(simp only [Int.reduceToNat] at ho4;rw[← Ny101.out] at ho4));have HO103:=Aside0.mk (Kd.R_lower ho4 (keep_size (w:=w) (g:=g) (row:=none) (kp HK.out)));replace HK:=Aside0.mk (KeepBut.trans (kp HK.out) (KeepBut.of_below hb g none) (.inl rfl));replace HB:=Aside0.mk (below_step (blg HB.out (IsS92.ge HI0.out)) hb);replace HI0:=Aside0.mk (IsS92.below (IsS92.ch HI0.out) hb);clear hb ho4;obtain ⟨Ao5,co5,eo5⟩:=Kd.R_slice HO103.out;subst eo5)|((with_reducible refine gate_callee (f:=81) rfl ?_);refine gl (some 5) Tryz.func81 #[.pointer (some ⟨g,0,none⟩),.slice Ao5 y101.length co5] ?_;(with_reducible refine(spec_l01Pick.calls g s0_0 s0_1 s0_2 _ _ y101 t104 t105 t106 w0 _ (IsS92.ch HI0.out) (blg HB.out (IsS92.ge HI0.out)) (cb (Kd.R_reads' HO103.out).2.2) ((Kd.R_reads' HO103.out).2.1) (far_slice (IsS92.own_ne HI0.out HO103.out (by decide))) A2.out).mono ?_);rintro e w6 ⟨rfl,hi,hb,hk⟩;refine⟨_,rfl,?_⟩;replace HO103:=Aside0.mk (Kd.R_mono (Kd.R_keep (IsS92.apart (show IsS92 w0 _ g s0_0 s0_1 s0_2 from IsS92.ch HI0.out) (kr HO103.out) (by decide)) hk (fun _ h=>h.2)) (fun _ h=>h.1));replace HK:=Aside0.mk (KeepBut.trans (kp HK.out) hk (.inl rfl));replace HB:=Aside0.mk (hb);replace HI0:=Aside0.mk (hi);(try clear hb);(try clear hb2);(try clear hk);(try clear hi)))
 go_ret;exact⟨rr,IsS92.ch HI0.out,blg HB.out (IsS92.ge HI0.out),kp HK.out⟩
def spec_DrawBettiNumbers.f (k:Nat) (l0:List Int):Option (Int×List Int×Int):=(spec_l01From.f k l0).bind fun bt108=>((spec_l01Spoil.f k bt108.1 bt108.2.1 bt108.2.2).bind fun bt112=>((spec_l03DrawP.f bt108.1 bt112.2.2.1 bt112.2.2.2).bind fun bt119=>(some (bt112.1,bt112.2.1,bt119.1))))
theorem spec_DrawBettiNumbers.mono:∀ a0 k,LeO (spec_DrawBettiNumbers.f k a0) (spec_DrawBettiNumbers.f (k+1) a0):=by
 intro a0 k;unfold spec_DrawBettiNumbers.f;repeat' first
   |(with_reducible first|exact spec_l01From.mono _ _|exact spec_l01Spoil.mono _ _ _ _|exact LeO.refl _|exact LeO.none _|refine LeO.ite ?_ ?_|refine LeO.bind ?_ (fun _=>?_))
set_option maxHeartbeats 8000000 in
set_option maxRecDepth 100000 in
theorem spec_DrawBettiNumbers.calls (k:Nat) (A0:Option Addr) (c0:Nat) (l0:List Int) (r1:Int) (r2:List Int) (r3:Int) (w:World) (hr0:Kd.C (Kd.int .u8) w A0 l0.length l0) (hc0:l0.length≤c0) (h:spec_DrawBettiNumbers.f k l0=some (r1,r2,r3)) :
  Calls Tryz.prog 36 #[.slice A0 l0.length c0] w fun e w'=>∃ v1_:Value,e = .returned (.tuple #[.agg #[.int .i64 r1,v1_],.int .i64 r3])∧Kd.R (Kd.int .i64) 2 w' w.heap.size (fun _=>True) v1_ r2∧Below w.heap.size w w':=by
 have hu26:=Tryz.underlying26;have HR0:=Aside0.mk hr0;have HC0:=Aside0.mk hc0;clear hr0 hc0;have HB:=Aside0.mk (Below.refl w.heap.size w);have H:((spec_l01From.f k l0).bind fun bt108=>((spec_l01Spoil.f k bt108.1 bt108.2.1 bt108.2.2).bind fun bt112=>((spec_l03DrawP.f bt108.1 bt112.2.2.1 bt112.2.2.2).bind fun bt119=>(some (bt112.1,bt112.2.1,bt119.1)))))=some (r1,r2,r3):=h;clear h;replace H:=Option.bind_eq_some_iff.mp H;obtain ⟨⟨t108,t109,t110⟩,A20,H⟩:=H;replace H:((spec_l01Spoil.f k t108 t109 t110).bind fun bt112=>((spec_l03DrawP.f t108 bt112.2.2.1 bt112.2.2.2).bind fun bt119=>(some (bt112.1,bt112.2.1,bt119.1))))=some (r1,r2,r3):=H;have A2:=Aside0.mk A20;clear A20;replace H:=Option.bind_eq_some_iff.mp H;obtain ⟨⟨t112,t113,t116,t117⟩,A30,H⟩:=H;replace H:((spec_l03DrawP.f t108 t116 t117).bind fun bt119=>(some (t112,t113,bt119.1)))=some (r1,r2,r3):=H;have A3:=Aside0.mk A30;clear A30;replace H:=Option.bind_eq_some_iff.mp H;obtain ⟨⟨t119,t120,t121⟩,A40,H⟩:=H;replace H:(some (t112,t113,t119))=some (r1,r2,r3):=H;have A4:=Aside0.mk A40;clear A40;simp only [Option.some.injEq,Prod.mk.injEq] at H;obtain ⟨rfl,rfl,rfl⟩:=H;go_enter Tryz.func36,Tryz.ntmps36;try go_wp2_with (first|((with_reducible refine gate_dst (N:=2) rfl ?_);refine bx 2 #[.int .i64 0,.slice none 0 0] 26 ?_;intro gb107 hg w5 hbox hb;have BK107:=Aside0.mk (hbox);have GE107:=gzA hg HB;replace HB:=bsA HB hb;clear hb hbox hg)|((with_reducible refine gate_callee (f:=66) rfl ?_);refine gl (some 7) Tryz.func66 #[.slice A0 l0.length c0] ?_;(with_reducible refine(spec_l01From.calls k _ _ l0 t108 t109 t110 w _ (bl HB.out) HR0.out HC0.out A2.out).mono ?_);rintro e w6 ⟨g111,rfl,hi,hb,hb2⟩;refine⟨_,rfl,?_⟩;replace HB:=Aside0.mk (hb);have HI111:=Aside0.mk (hi);have NB111_107:=Aside0.mk (IsS92.ne_blk hi (blk_below (bk BK107.out) hb2) (by decide));have NB107_111:=Aside0.mk (Ne.symm (IsS92.ne_blk hi (blk_below (bk BK107.out) hb2) (by decide)));replace BK107:=bkA BK107 hb2;(try clear hb);(try clear hb2);(try clear hk);(try clear hi))|((with_reducible refine gate_callee (f:=68) rfl ?_);refine gl (some 9) Tryz.func68 #[.pointer (some ⟨g111,0,none⟩)] ?_;(with_reducible refine(spec_l01Spoil.calls k g111 t108 t109 t110 t112 t113 t116 t117 w _ (IsS92.ch HI111.out) (blg HB.out (IsS92.ge HI111.out)) A3.out).mono ?_);rintro e w7 ⟨v114,rfl,ho0,hi,hb,hk⟩;refine⟨_,rfl,?_⟩;replace BK107:=Aside0.mk (kbk hk (bk BK107.out) NB107_111.out);have HO115:=Aside0.mk (Kd.R_lower ho0 (below_size (blg HB.out (IsS92.ge HI111.out))));replace HB:=Aside0.mk (hb);replace HI111:=Aside0.mk (hi);(try clear hb);(try clear hb2);(try clear hk);(try clear hi);(try clear ho0))|((with_reducible refine gate_dst (N:=5) rfl ?_);refine bx 5 #[.int .i64 0,.slice none 0 0] 26 ?_;intro gb118 hg w8 hbox hb;replace HO115:=krA HO115 hb;have BK118:=Aside0.mk (hbox);have GW118:=Aside0.mk ((by rw[hg];exact(below_size (blg HB.out (IsS92.ge HI111.out))):w.heap.size≤gb118));have GE118:=Aside0.mk ((by rw[hg];exact(below_size (blg HB.out (IsS92.ge HI111.out))):w.heap.size≤gb118));replace HB:=Aside0.mk (below_step (blg HB.out (IsS92.ge HI111.out)) hb);have NB107_118:=nlA hg BK107;have NB118_107:=ngA hg BK107;replace BK107:=bkA BK107 hb;have NB111_118:=Aside0.mk ((by rw[hg];exact Nat.ne_of_lt (IsS92.lt (show IsS92 w _ g111 t108 t116 t117 from IsS92.ch HI111.out)):g111≠gb118));have NB118_111:=Aside0.mk ((by rw[hg];exact Nat.ne_of_gt (IsS92.lt (show IsS92 w _ g111 t108 t116 t117 from IsS92.ch HI111.out)):gb118≠g111));replace HI111:=Aside0.mk (IsS92.below (IsS92.ch HI111.out) hb);clear hb hbox hg;have hnb9:=NB118_107.out;have hnc9:=NB107_118.out;have hnb10:=NB118_111.out;have hnc10:=NB111_118.out;have hcz11_0:=z0_ BK118;have hcz11_1:=z1_ BK118;have hfz11_0:=hf_ BK118 0;have hfz11_1:=hf_ BK118 1;obtain ⟨Ao12,co12,eo12⟩:=Kd.R_slice HO115.out;subst eo12))
 have n0_:Aside0 (Kd.R (Kd.int .i64) 2 ((w8.setCell ⟨gb118,0,none⟩ (.int .i64 t112)).setCell ⟨gb118,1,none⟩ (.slice Ao12 t113.length co12)) w.heap.size (fun _=>True) (.slice Ao12 t113.length co12) t113):=⟨by(with_reducible repeat(first|apply Kd.R_alloc|apply Kd.R_drewN|apply Kd.R_drew));exact Kd.R_mono (Kd.R_far (p:=⟨gb118,1,none⟩) (Kd.R_far (p:=⟨gb118,0,none⟩) (Kd.R_types HO115.out BK118.out (by decide)) (fun _ hk=>hk.2) (.int .i64 t112)) (fun _ hk=>hk.2) (.slice Ao12 t113.length co12)) (fun _ hk=>trivial)⟩
 have n1_:Aside0 (((w8.setCell ⟨gb118,0,none⟩ (.int .i64 t112)).setCell ⟨gb118,1,none⟩ (.slice Ao12 t113.length co12)).heap[gb107]?=some (.cells #[.int .i64 0,.slice none 0 0] 26 (0,0))):=⟨bp BK107.out⟩
 have n2_:Aside0 (((w8.setCell ⟨gb118,0,none⟩ (.int .i64 t112)).setCell ⟨gb118,1,none⟩ (.slice Ao12 t113.length co12)).heap[gb118]?=some (.cells #[.int .i64 t112,.slice Ao12 t113.length co12] 26 (0,0))):=⟨bp BK118.out⟩
 have n3_:Aside0 (IsS92 w ((w8.setCell ⟨gb118,0,none⟩ (.int .i64 t112)).setCell ⟨gb118,1,none⟩ (.slice Ao12 t113.length co12)) g111 t108 t116 t117):=⟨IsS92.ch HI111.out⟩
 have n4_:Aside0 (Below w.heap.size w ((w8.setCell ⟨gb118,0,none⟩ (.int .i64 t112)).setCell ⟨gb118,1,none⟩ (.slice Ao12 t113.length co12))):=⟨blg HB.out (IsS92.ge HI111.out)⟩
 (try clear HO115)
 (try clear BK107)
 (try clear BK118)
 (try clear HI111)
 (try clear HB)
 generalize ((w8.setCell ⟨gb118,0,none⟩ (.int .i64 t112)).setCell ⟨gb118,1,none⟩ (.slice Ao12 t113.length co12))=w13 at n0_ n1_ n2_ n3_ n4_ ⊢;have HO115:=n0_;have BK107:=n1_;have BK118:=n2_;have HI111:=n3_;have HB:=n4_;clear n0_ n1_ n2_ n3_ n4_;replace HO115:=Aside0.mk (Kd.R_drew HO115.out);replace BK107:=Aside0.mk (blk_drew BK107.out);replace BK118:=Aside0.mk (blk_drew BK118.out);replace HI111:=Aside0.mk (IsS92.drew HI111.out);replace HB:=Aside0.mk (below_drew1 HB.out);refine start_ (n:=5) (S:=fun w'=>w'.cell? ⟨gb118,0,none⟩=some (.int .i64 t112)∧w'.cell? ⟨gb118,1,none⟩=some (.slice Ao12 t113.length co12)) (ds:= []) #[O,O,O,O,O] (by kernel_rfl) rfl rfl ⟨(blk_cell BK118.out 0).trans rfl,(blk_cell BK118.out 1).trans rfl⟩ (fun hHeld=>?_);generalize w13.drew=w14 at HO115 BK107 BK118 HI111 HB hHeld ⊢;refine pure_ (i:=1) (N:=some 11) (v:=?_) (a':=?_) #[O,U,O,O,O] rfl rfl (by kernel_rfl) hh_ (Or.inl ⟨by rfl,?_⟩) ?_ ?_;rotate_left
 ·intro w';go_simp;with_reducible rfl
 rotate_left
 ·simp only [nm_];rfl
 refine take_ (i:=0) (N:=some 10) (v:=?_) (a':=?_) #[U,U,O,O,O] rfl rfl (by kernel_rfl) hh_ (Or.inl ⟨by rfl,?_⟩) hHeld ?_ ?_;rotate_left
 ·rintro w' ⟨s0,s1⟩;go_simp;with_reducible rfl
 rotate_left
 ·simp only [nm_];rfl
 refine one_ (i:=2) (N:=some 12) #[U,U,U,O,O] rfl rfl (by kernel_rfl) (by decide) (fun K hK=>?_);refine gr Tryz.func102 #[.pointer (some ⟨g111,0,none⟩)] ?_;with_reducible refine(spec_l03DrawP.calls g111 t108 t116 t117 t119 t120 t121 w _ (IsS92.ch HI111.out) (blg HB.out (IsS92.ge HI111.out)) A4.out).mono ?_
 rintro e w15 ⟨rfl,hi,hb,hk⟩;refine⟨_,rfl,?_⟩;replace BK107:=Aside0.mk (kbk hk (bk BK107.out) NB107_111.out);replace HO115:=Aside0.mk (Kd.R_mono (Kd.R_keep (IsS92.apart (show IsS92 w _ g111 t108 t116 t117 from IsS92.ch HI111.out) (kr HO115.out) (by decide)) hk (fun _ h=>h.2)) (fun _ h=>h.1));replace BK118:=Aside0.mk (kbk hk (bk BK118.out) NB118_111.out);replace HB:=Aside0.mk (hb);replace HI111:=Aside0.mk (hi);(try clear hb)
 (try clear hb2)
 (try clear hk)
 (try clear hi)
 refine hK.out _ _ ⟨(blk_cell BK118.out 0).trans rfl,(blk_cell BK118.out 1).trans rfl⟩ (fun hHeld=>?_);clear hK K;refine nr 12 ?_;refine one_ (i:=3) (N:=none) #[U,U,U,U,O] rfl rfl (by kernel_rfl) (by decide) (fun K hK=>?_);have hs16:w15.cell? ⟨gb107,0,none⟩=some (.int .i64 0):=(blk_cell BK107.out 0).trans rfl;have hfs16:=blk_frozen BK107.out 0;have hns16_1:=NB118_107.out;have hms16_1:=NB107_118.out;have hs17:w15.cell? ⟨gb107,1,none⟩=some (.slice none 0 0):=(blk_cell BK107.out 1).trans rfl;have hfs17:=blk_frozen BK107.out 1;have hns17_1:=NB118_107.out;have hms17_1:=NB107_118.out;refine skip_ (w1:=?_) (by rfl) rfl ?_ ?_;rotate_left
 ·go_simp;rfl
 refine hK.out _ _ ⟨((cell_far (p:=⟨gb107,_,none⟩) NB118_107.out _).trans (((cell_far (p:=⟨gb107,_,none⟩) NB118_107.out _).trans (hHeld.1)))),((cell_far (p:=⟨gb107,_,none⟩) NB118_107.out _).trans (((cell_far (p:=⟨gb107,_,none⟩) NB118_107.out _).trans (hHeld.2))))⟩ (fun hHeld=>?_);clear hK K;refine pure_ (i:=4) (N:=some 3) (v:=?_) (a':=?_) #[U,U,U,U,U] rfl rfl (by kernel_rfl) hh_ (Or.inl ⟨by rfl,?_⟩) ?_ ?_;rotate_left
 ·intro w';go_simp;with_reducible rfl
 rotate_left
 ·simp only [nm_];rfl
 refine done_ (by kernel_rfl) ?_;try go_wp2
 refine bodyPost_ret (results_ct rfl _ _ gb107 26 #[.int .i64 t112,.slice Ao12 t113.length co12] (0,0) _ rfl (bp BK107.out) Tryz.underlying26 rfl (by kernel_rfl)) rfl ?_;exact⟨_,rr,by(with_reducible repeat(first|apply Kd.R_alloc|apply Kd.R_drewN|apply Kd.R_drew));exact Kd.R_mono (Kd.R_far (p:=⟨gb107,1,none⟩) (Kd.R_far (p:=⟨gb107,0,none⟩) (Kd.R_types HO115.out BK107.out (by decide)) (fun _ hk=>hk.2) (.int .i64 t112)) (fun _ hk=>hk.2) (.slice Ao12 t113.length co12)) (fun _ hk=>trivial),blg HB.out (IsS92.ge HI111.out)⟩
end Go.Proofs.YtbnnamejnjfkjaaGreat.R
end

section
namespace Go.Proofs.YtbnnamejnjfkjaaGreat.R
open Go.RowKit Go.Proofs.YtbnnamejnjfkjaaGreat.Q Go.Proofs.YtbnnamejnjfkjaaGreat.X Go.Proofs.YtbnnamejnjfkjaaGreatW.PrintWords Go.Proofs.YtbnnamejnjfkjaaGreatW.PrintLast Go.Proofs.YtbnnamejnjfkjaaGreatW.PrintMore
attribute [local go_sem] max2_int min2_int max_two min_two max_three min_three max_four min_four
set_option linter.unusedVariables false
set_option linter.unusedSimpArgs false
def spec_DrawRankOf.f (k:Nat) (l0:List Int):Option (Int×List Int×Int×Int):=(spec_l01From.f k l0).bind fun bt123=>((spec_l01Spoil.f k bt123.1 bt123.2.1 bt123.2.2).bind fun bt127=>((spec_l01Near.f bt123.1 bt127.2.2.1 bt127.2.2.2 6).bind fun bt134=>((spec_l01Pick.f bt123.1 bt134.2.1 bt134.2.2 (([0,1,1,2,2,3,bt134.1]:List Int))).bind fun bt140=>((spec_l03DrawP.f bt123.1 bt140.2.1 bt140.2.2).bind fun bt143=>(some (bt127.1,bt127.2.1,bt140.1,bt143.1))))))
theorem spec_DrawRankOf.mono:∀ a0 k,LeO (spec_DrawRankOf.f k a0) (spec_DrawRankOf.f (k+1) a0):=by
 intro a0 k;unfold spec_DrawRankOf.f;repeat' first
   |(with_reducible first|exact spec_l01From.mono _ _|exact spec_l01Spoil.mono _ _ _ _|exact LeO.refl _|exact LeO.none _|refine LeO.ite ?_ ?_|refine LeO.bind ?_ (fun _=>?_))
set_option maxHeartbeats 8000000 in
set_option maxRecDepth 100000 in
theorem spec_DrawRankOf.calls (k:Nat) (A0:Option Addr) (c0:Nat) (l0:List Int) (r1:Int) (r2:List Int) (r3:Int) (r4:Int) (w:World) (hr0:Kd.C (Kd.int .u8) w A0 l0.length l0) (hc0:l0.length≤c0) (h:spec_DrawRankOf.f k l0=some (r1,r2,r3,r4)) :
  Calls Tryz.prog 40 #[.slice A0 l0.length c0] w fun e w'=>∃ v1_:Value,e = .returned (.tuple #[.agg #[.int .i64 r1,v1_],.int .i64 r3,.int .i64 r4])∧Kd.R (Kd.int .i64) 2 w' w.heap.size (fun _=>True) v1_ r2∧Below w.heap.size w w':=by
 have hu26:=Tryz.underlying26;have HR0:=Aside0.mk hr0;have HC0:=Aside0.mk hc0;clear hr0 hc0;have HB:=Aside0.mk (Below.refl w.heap.size w);have H:((spec_l01From.f k l0).bind fun bt123=>((spec_l01Spoil.f k bt123.1 bt123.2.1 bt123.2.2).bind fun bt127=>((spec_l01Near.f bt123.1 bt127.2.2.1 bt127.2.2.2 6).bind fun bt134=>((spec_l01Pick.f bt123.1 bt134.2.1 bt134.2.2 (([0,1,1,2,2,3,bt134.1]:List Int))).bind fun bt140=>((spec_l03DrawP.f bt123.1 bt140.2.1 bt140.2.2).bind fun bt143=>(some (bt127.1,bt127.2.1,bt140.1,bt143.1)))))))=some (r1,r2,r3,r4):=h;clear h;replace H:=Option.bind_eq_some_iff.mp H;obtain ⟨⟨t123,t124,t125⟩,A20,H⟩:=H;replace H:((spec_l01Spoil.f k t123 t124 t125).bind fun bt127=>((spec_l01Near.f t123 bt127.2.2.1 bt127.2.2.2 6).bind fun bt134=>((spec_l01Pick.f t123 bt134.2.1 bt134.2.2 (([0,1,1,2,2,3,bt134.1]:List Int))).bind fun bt140=>((spec_l03DrawP.f t123 bt140.2.1 bt140.2.2).bind fun bt143=>(some (bt127.1,bt127.2.1,bt140.1,bt143.1))))))=some (r1,r2,r3,r4):=H;have A2:=Aside0.mk A20;clear A20;replace H:=Option.bind_eq_some_iff.mp H;obtain ⟨⟨t127,t128,t131,t132⟩,A30,H⟩:=H;replace H:((spec_l01Near.f t123 t131 t132 6).bind fun bt134=>((spec_l01Pick.f t123 bt134.2.1 bt134.2.2 (([0,1,1,2,2,3,bt134.1]:List Int))).bind fun bt140=>((spec_l03DrawP.f t123 bt140.2.1 bt140.2.2).bind fun bt143=>(some (t127,t128,bt140.1,bt143.1)))))=some (r1,r2,r3,r4):=H;have A3:=Aside0.mk A30;clear A30;replace H:=Option.bind_eq_some_iff.mp H;obtain ⟨⟨t134,t135,t136⟩,A40,H⟩:=H;replace H:((spec_l01Pick.f t123 t135 t136 (([0,1,1,2,2,3,t134]:List Int))).bind fun bt140=>((spec_l03DrawP.f t123 bt140.2.1 bt140.2.2).bind fun bt143=>(some (t127,t128,bt140.1,bt143.1))))=some (r1,r2,r3,r4):=H;have A4:=Aside0.mk A40;clear A40;obtain ⟨y137,hy137⟩:∃ y_:List Int,y_=(([0,1,1,2,2,3,t134]:List Int)):=⟨_,rfl⟩
 replace H:((spec_l01Pick.f t123 t135 t136 y137).bind fun bt140=>((spec_l03DrawP.f t123 bt140.2.1 bt140.2.2).bind fun bt143=>(some (t127,t128,bt140.1,bt143.1))))=some (r1,r2,r3,r4):=by first|(rw[hy137];with_reducible exact H)|(have H2_:=(Option.bind_some _ _).symm.trans H;rw[hy137];with_reducible exact H2_)|(have H2_:=(Option.bind_some _ _).symm.trans H;with_reducible exact H2_)|with_reducible exact H|(rw[hy137];exact H)|exact H
 have Ny137:=Aside0.mk hy137;clear hy137;replace H:=Option.bind_eq_some_iff.mp H;obtain ⟨⟨t140,t141,t142⟩,A50,H⟩:=H;replace H:((spec_l03DrawP.f t123 t141 t142).bind fun bt143=>(some (t127,t128,t140,bt143.1)))=some (r1,r2,r3,r4):=H;have A5:=Aside0.mk A50;clear A50;replace H:=Option.bind_eq_some_iff.mp H;obtain ⟨⟨t143,t144,t145⟩,A60,H⟩:=H;replace H:(some (t127,t128,t140,t143))=some (r1,r2,r3,r4):=H;have A6:=Aside0.mk A60;clear A60;simp only [Option.some.injEq,Prod.mk.injEq] at H;obtain ⟨rfl,rfl,rfl,rfl⟩:=H;go_enter Tryz.func40,Tryz.ntmps40;try go_wp2_with (first|((with_reducible refine gate_dst (N:=2) rfl ?_);refine bx 2 #[.int .i64 0,.slice none 0 0] 26 ?_;intro gb122 hg w7 hbox hb;have BK122:=Aside0.mk (hbox);have GE122:=gzA hg HB;replace HB:=bsA HB hb;clear hb hbox hg)|((with_reducible refine gate_callee (f:=66) rfl ?_);refine gl (some 9) Tryz.func66 #[.slice A0 l0.length c0] ?_;(with_reducible refine(spec_l01From.calls k _ _ l0 t123 t124 t125 w _ (bl HB.out) HR0.out HC0.out A2.out).mono ?_);rintro e w8 ⟨g126,rfl,hi,hb,hb2⟩;refine⟨_,rfl,?_⟩;replace HB:=Aside0.mk (hb);have HI126:=Aside0.mk (hi);have NB126_122:=Aside0.mk (IsS92.ne_blk hi (blk_below (bk BK122.out) hb2) (by decide));have NB122_126:=Aside0.mk (Ne.symm (IsS92.ne_blk hi (blk_below (bk BK122.out) hb2) (by decide)));replace BK122:=bkA BK122 hb2;(try clear hb);(try clear hb2);(try clear hk);(try clear hi))|((with_reducible refine gate_callee (f:=68) rfl ?_);refine gl (some 11) Tryz.func68 #[.pointer (some ⟨g126,0,none⟩)] ?_;(with_reducible refine(spec_l01Spoil.calls k g126 t123 t124 t125 t127 t128 t131 t132 w _ (IsS92.ch HI126.out) (blg HB.out (IsS92.ge HI126.out)) A3.out).mono ?_);rintro e w9 ⟨v129,rfl,ho0,hi,hb,hk⟩;refine⟨_,rfl,?_⟩;replace BK122:=Aside0.mk (kbk hk (bk BK122.out) NB122_126.out);have HO130:=Aside0.mk (Kd.R_lower ho0 (below_size (blg HB.out (IsS92.ge HI126.out))));replace HB:=Aside0.mk (hb);replace HI126:=Aside0.mk (hi);(try clear hb);(try clear hb2);(try clear hk);(try clear hi);(try clear ho0))|((with_reducible refine gate_dst (N:=6) rfl ?_);refine bx 6 #[.int .i64 0,.slice none 0 0] 26 ?_;intro gb133 hg w10 hbox hb;replace HO130:=krA HO130 hb;have BK133:=Aside0.mk (hbox);have GW133:=Aside0.mk ((by rw[hg];exact(below_size (blg HB.out (IsS92.ge HI126.out))):w.heap.size≤gb133));have GE133:=Aside0.mk ((by rw[hg];exact(below_size (blg HB.out (IsS92.ge HI126.out))):w.heap.size≤gb133));replace HB:=Aside0.mk (below_step (blg HB.out (IsS92.ge HI126.out)) hb);have NB122_133:=nlA hg BK122;have NB133_122:=ngA hg BK122;replace BK122:=bkA BK122 hb;have NB126_133:=Aside0.mk ((by rw[hg];exact Nat.ne_of_lt (IsS92.lt (show IsS92 w _ g126 t123 t131 t132 from IsS92.ch HI126.out)):g126≠gb133));have NB133_126:=Aside0.mk ((by rw[hg];exact Nat.ne_of_gt (IsS92.lt (show IsS92 w _ g126 t123 t131 t132 from IsS92.ch HI126.out)):gb133≠g126));replace HI126:=Aside0.mk (IsS92.below (IsS92.ch HI126.out) hb);clear hb hbox hg;have hnb11:=NB133_122.out;have hnc11:=NB122_133.out;have hnb12:=NB133_126.out;have hnc12:=NB126_133.out;have hcz13_0:=z0_ BK133;have hcz13_1:=z1_ BK133;have hfz13_0:=hf_ BK133 0;have hfz13_1:=hf_ BK133 1;obtain ⟨Ao14,co14,eo14⟩:=Kd.R_slice HO130.out;subst eo14)|((with_reducible refine gate_callee (f:=90) rfl ?_);refine gl (some 14) Tryz.func90 #[.pointer (some ⟨g126,0,none⟩),.int .i64 6] ?_;(with_reducible refine(spec_l01Near.calls g126 t123 t131 t132 6 t134 t135 t136 w _ (IsS92.ch HI126.out) (blg HB.out (IsS92.ge HI126.out)) A4.out).mono ?_);rintro e w15 ⟨rfl,hi,hb,hk⟩;refine⟨_,rfl,?_⟩;replace BK122:=Aside0.mk (KeepBut.blk hk (g':=gb122) (o:= .cells #[.int .i64 0,.slice none 0 0] 26 (0,0)) (bp BK122.out) NB122_126.out (by simp));replace HO130:=Aside0.mk (Kd.R_mono (Kd.R_keep (IsS92.apart (show IsS92 w _ g126 t123 t131 t132 from IsS92.ch HI126.out) (by(with_reducible repeat(first|apply Kd.R_alloc|apply Kd.R_drewN|apply Kd.R_drew));exact(Kd.R_mono (Kd.R_far (p:=⟨gb133,1,none⟩) (Kd.R_far (p:=⟨gb133,0,none⟩) (Kd.R_types HO130.out BK133.out (by decide)) (fun _ hk=>hk.2) (.int .i64 t127)) (fun _ hk=>hk.2) (.slice Ao14 t128.length co14)) (fun _ h_=>h_.1))) (by decide)) hk (fun _ h=>h.2)) (fun _ h=>h.1));replace BK133:=Aside0.mk (KeepBut.blk hk (g':=gb133) (o:= .cells #[.int .i64 t127,.slice Ao14 t128.length co14] 26 (0,0)) (bp BK133.out) NB133_126.out (by simp));replace HB:=Aside0.mk (hb);replace HI126:=Aside0.mk (hi);(try clear hb);(try clear hb2);(try clear hk);(try clear hi))|((with_reducible refine gate_dst (N:=15) rfl ?_);refine Kd.R_lit (Kd.int .i64) _ 2 ?hg (N:=15) ?hd (xs:=([0,1,1,2,2,3,t134]:List Int)) (inner:= [.int .i64 0,.int .i64 1,.int .i64 1,.int .i64 2,.int .i64 2,.int .i64 3,.int .i64 t134]) (ok:=fun _=>True) (okp:=fun _=>True) ?hr ?hp (fun _ hk=>hk) trivial (Below.refl _ _) (Nat.le_refl _) (by simp) ?_;(case hd=>rfl);(case hg=>rfl);(case hr=>first|(go_simp;done)|(go_simp;rfl));(case hp=>exact(Reps.one (show Kd.M (Kd.int .i64) _ _ _ 0 [.int .i64 0] from rfl) (Reps.one (show Kd.M (Kd.int .i64) _ _ _ 1 [.int .i64 1] from rfl) (Reps.one (show Kd.M (Kd.int .i64) _ _ _ 1 [.int .i64 1] from rfl) (Reps.one (show Kd.M (Kd.int .i64) _ _ _ 2 [.int .i64 2] from rfl) (Reps.one (show Kd.M (Kd.int .i64) _ _ _ 2 [.int .i64 2] from rfl) (Reps.one (show Kd.M (Kd.int .i64) _ _ _ 3 [.int .i64 3] from rfl) (Reps.one (show Kd.M (Kd.int .i64) _ _ _ t134 [.int .i64 t134] from rfl) (Reps.none _ _)))))))));intro v138 w16 ho17 hb hg_ hnew_;clear hg_ hnew_;(first|rw[← Ny137.out] at ho17|(simp only [Int.reduceToNat] at ho17;rw[← Ny137.out] at ho17));have HO139:=Aside0.mk (Kd.R_lower (Kd.R_new' ho17 (Kd.R_lt (kr HO130.out))) (below_size (blg HB.out (IsS92.ge HI126.out))));replace HO130:=Aside0.mk (Kd.R_elder' (kr HO130.out) (Kd.R_base ho17) hb);replace BK122:=bkA BK122 hb;replace BK133:=bkA BK133 hb;replace HB:=Aside0.mk (below_step (blg HB.out (IsS92.ge HI126.out)) hb);replace HI126:=Aside0.mk (IsS92.below (IsS92.ch HI126.out) hb);clear hb ho17;obtain ⟨Ao18,co18,eo18⟩:=Kd.R_slice HO139.out;subst eo18)|((with_reducible refine gate_callee (f:=81) rfl ?_);refine gl (some 16) Tryz.func81 #[.pointer (some ⟨g126,0,none⟩),.slice Ao18 y137.length co18] ?_;(with_reducible refine(spec_l01Pick.calls g126 t123 t135 t136 _ _ y137 t140 t141 t142 w _ (IsS92.ch HI126.out) (blg HB.out (IsS92.ge HI126.out)) (cb (Kd.R_reads' HO139.out).2.2) ((Kd.R_reads' HO139.out).2.1) (far_slice (IsS92.own_ne HI126.out HO139.out (by decide))) A5.out).mono ?_);rintro e w19 ⟨rfl,hi,hb,hk⟩;refine⟨_,rfl,?_⟩;replace BK122:=Aside0.mk (kbk hk (bk BK122.out) NB122_126.out);replace HO130:=Aside0.mk (Kd.R_mono (Kd.R_keep (IsS92.apart (show IsS92 w _ g126 t123 t135 t136 from IsS92.ch HI126.out) (kr HO130.out) (by decide)) hk (fun _ h=>h.2)) (fun _ h=>h.1));replace BK133:=Aside0.mk (kbk hk (bk BK133.out) NB133_126.out);replace HO139:=Aside0.mk (Kd.R_mono (Kd.R_keep (IsS92.apart (show IsS92 w _ g126 t123 t135 t136 from IsS92.ch HI126.out) (kr HO139.out) (by decide)) hk (fun _ h=>h.2)) (fun _ h=>h.1));replace HB:=Aside0.mk (hb);replace HI126:=Aside0.mk (hi);(try clear hb);(try clear hb2);(try clear hk);(try clear hi)))
 replace HO130:=Aside0.mk (Kd.R_drew HO130.out);replace HO139:=Aside0.mk (Kd.R_drew HO139.out);replace BK122:=Aside0.mk (blk_drew BK122.out);replace BK133:=Aside0.mk (blk_drew BK133.out);replace HI126:=Aside0.mk (IsS92.drew HI126.out);replace HB:=Aside0.mk (below_drew1 HB.out);refine start_ (n:=7) (S:=fun w'=>w'.cell? ⟨gb133,0,none⟩=some (.int .i64 t127)∧w'.cell? ⟨gb133,1,none⟩=some (.slice Ao14 t128.length co14)) (ds:= []) (ar 0 7) (by kernel_rfl) rfl rfl ⟨(blk_cell BK133.out 0).trans rfl,(blk_cell BK133.out 1).trans rfl⟩ (fun hHeld=>?_);generalize w19.drew=w20 at HO130 HO139 BK122 BK133 HI126 HB hHeld ⊢;refine pure_ (i:=1) (N:=some 18) (v:=?_) (a':=?_) #[O,U,O,O,O,O,O] rfl rfl (by kernel_rfl) hh_ (Or.inl ⟨by rfl,?_⟩) ?_ ?_;rotate_left
 ·intro w';go_simp;with_reducible rfl
 rotate_left
 ·simp only [nm_];rfl
 refine pure_ (i:=2) (N:=some 19) (v:=?_) (a':=?_) #[O,U,U,O,O,O,O] rfl rfl (by kernel_rfl) hh_ (Or.inl ⟨by rfl,?_⟩) ?_ ?_;rotate_left
 ·intro w';go_simp;with_reducible rfl
 rotate_left
 ·simp only [nm_];rfl
 refine take_ (i:=0) (N:=some 17) (v:=?_) (a':=?_) (ar 3 4) rfl rfl (by kernel_rfl) hh_ (Or.inl ⟨by rfl,?_⟩) hHeld ?_ ?_;rotate_left
 ·rintro w' ⟨s0,s1⟩;go_simp;with_reducible rfl
 rotate_left
 ·simp only [nm_];rfl
 refine one_ (i:=3) (N:=some 20) (ar 4 3) rfl rfl (by kernel_rfl) (by decide) (fun K hK=>?_);refine gr Tryz.func102 #[.pointer (some ⟨g126,0,none⟩)] ?_;with_reducible refine(spec_l03DrawP.calls g126 t123 t141 t142 t143 t144 t145 w _ (IsS92.ch HI126.out) (blg HB.out (IsS92.ge HI126.out)) A6.out).mono ?_
 rintro e w21 ⟨rfl,hi,hb,hk⟩;refine⟨_,rfl,?_⟩;replace BK122:=Aside0.mk (kbk hk (bk BK122.out) NB122_126.out);replace HO130:=Aside0.mk (Kd.R_mono (Kd.R_keep (IsS92.apart (show IsS92 w _ g126 t123 t141 t142 from IsS92.ch HI126.out) (kr HO130.out) (by decide)) hk (fun _ h=>h.2)) (fun _ h=>h.1));replace BK133:=Aside0.mk (kbk hk (bk BK133.out) NB133_126.out);replace HO139:=Aside0.mk (Kd.R_mono (Kd.R_keep (IsS92.apart (show IsS92 w _ g126 t123 t141 t142 from IsS92.ch HI126.out) (kr HO139.out) (by decide)) hk (fun _ h=>h.2)) (fun _ h=>h.1));replace HB:=Aside0.mk (hb);replace HI126:=Aside0.mk (hi);(try clear hb)
 (try clear hb2)
 (try clear hk)
 (try clear hi)
 refine hK.out _ _ ⟨(blk_cell BK133.out 0).trans rfl,(blk_cell BK133.out 1).trans rfl⟩ (fun hHeld=>?_);clear hK K;refine nr 20 ?_;refine one_ (i:=4) (N:=none) (ar 5 2) rfl rfl (by kernel_rfl) (by decide) (fun K hK=>?_);have hs22:w21.cell? ⟨gb122,0,none⟩=some (.int .i64 0):=(blk_cell BK122.out 0).trans rfl;have hfs22:=blk_frozen BK122.out 0;have hns22_1:=NB133_122.out;have hms22_1:=NB122_133.out;have hs23:w21.cell? ⟨gb122,1,none⟩=some (.slice none 0 0):=(blk_cell BK122.out 1).trans rfl;have hfs23:=blk_frozen BK122.out 1;have hns23_1:=NB133_122.out;have hms23_1:=NB122_133.out;refine skip_ (w1:=?_) (by rfl) rfl ?_ ?_;rotate_left
 ·go_simp;rfl
 refine hK.out _ _ ⟨((cell_far (p:=⟨gb122,_,none⟩) NB133_122.out _).trans (((cell_far (p:=⟨gb122,_,none⟩) NB133_122.out _).trans (hHeld.1)))),((cell_far (p:=⟨gb122,_,none⟩) NB133_122.out _).trans (((cell_far (p:=⟨gb122,_,none⟩) NB133_122.out _).trans (hHeld.2))))⟩ (fun hHeld=>?_);clear hK K;refine pure_ (i:=5) (N:=some 3) (v:=?_) (a':=?_) (ar 6 1) rfl rfl (by kernel_rfl) hh_ (Or.inl ⟨by rfl,?_⟩) ?_ ?_;rotate_left
 ·intro w';go_simp;with_reducible rfl
 rotate_left
 ·simp only [nm_];rfl
 refine pure_ (i:=6) (N:=some 4) (v:=?_) (a':=?_) (ar 7 0) rfl rfl (by kernel_rfl) hh_ (Or.inl ⟨by rfl,?_⟩) ?_ ?_;rotate_left
 ·intro w';go_simp;with_reducible rfl
 rotate_left
 ·simp only [nm_];rfl
 refine done_ (by kernel_rfl) ?_;try go_wp2
 refine bodyPost_ret (results_ctt rfl _ _ gb122 26 #[.int .i64 t127,.slice Ao14 t128.length co14] (0,0) _ rfl (bp BK122.out) Tryz.underlying26 rfl (by kernel_rfl)) rfl ?_;exact⟨_,rr,by(with_reducible repeat(first|apply Kd.R_alloc|apply Kd.R_drewN|apply Kd.R_drew));exact Kd.R_mono (Kd.R_far (p:=⟨gb122,1,none⟩) (Kd.R_far (p:=⟨gb122,0,none⟩) (Kd.R_types HO130.out BK122.out (by decide)) (fun _ hk=>hk.2) (.int .i64 t127)) (fun _ hk=>hk.2) (.slice Ao14 t128.length co14)) (fun _ hk=>trivial),blg HB.out (IsS92.ge HI126.out)⟩
end Go.Proofs.YtbnnamejnjfkjaaGreat.R
end

section
namespace Go.Proofs.YtbnnamejnjfkjaaGreat.R
open Go.RowKit Go.Proofs.YtbnnamejnjfkjaaGreat.Q Go.Proofs.YtbnnamejnjfkjaaGreat.X Go.Proofs.YtbnnamejnjfkjaaGreatW.PrintWords Go.Proofs.YtbnnamejnjfkjaaGreatW.PrintLast Go.Proofs.YtbnnamejnjfkjaaGreatW.PrintMore
attribute [local go_sem] max2_int min2_int max_two min_two max_three min_three max_four min_four
set_option linter.unusedVariables false
set_option linter.unusedSimpArgs false
def spec_DrawIsAcyclicComplex.j0:Nat→Bool→List Int→Int→Int→Int→List Int→Option (Int×List Int×Int)
 |0,_,_,_,_,_,_=>none
 |k+1,x21,x151000,x151001,x151002,x158000,x158001=>if x21=true then ((spec_l01Join.f k x158000 x158001 1 (([1]:List Int))).bind fun bt165=>((spec_l03DrawP.f x151000 x151001 x151002).bind fun bt169=>(some (bt165.1,bt165.2,bt169.1)))) else ((spec_l03DrawP.f x151000 x151001 x151002).bind fun bt172=>(some (x158000,x158001,bt172.1)))
def spec_DrawIsAcyclicComplex.f (k:Nat) (l0:List Int):Option (Int×List Int×Int):=(spec_l01From.f k l0).bind fun bt147=>((spec_l01Spoil.f k bt147.1 bt147.2.1 bt147.2.2).bind fun bt151=>((spec_l01Is.f k bt151.1 bt151.2.1).bind fun t158=>(if t158=true then (if bt151.1<6 then ((spec_l01Next.f bt147.1 bt151.2.2.1 bt151.2.2.2 3).bind fun bt159=>(spec_DrawIsAcyclicComplex.j0 k (bt159.1 == 0) bt147.1 bt159.2.1 bt159.2.2 bt151.1 bt151.2.1)) else (spec_DrawIsAcyclicComplex.j0 k false bt147.1 bt151.2.2.1 bt151.2.2.2 bt151.1 bt151.2.1)) else (spec_DrawIsAcyclicComplex.j0 k false bt147.1 bt151.2.2.1 bt151.2.2.2 bt151.1 bt151.2.1))))
theorem spec_DrawIsAcyclicComplex.mono_l:∀ k,(∀ y0 y1 y2 y3 y4 y5,LeO (spec_DrawIsAcyclicComplex.j0 k y0 y1 y2 y3 y4 y5) (spec_DrawIsAcyclicComplex.j0 (k+1) y0 y1 y2 y3 y4 y5))
 |0=>fun _ _ _ _ _ _ r h=>by simp [spec_DrawIsAcyclicComplex.j0] at h
 |k+1=>by
  have ih0:=spec_DrawIsAcyclicComplex.mono_l k
  ·intro y0 y1 y2 y3 y4 y5;unfold spec_DrawIsAcyclicComplex.j0;repeat' first
   |(with_reducible first|exact ih0 _ _ _ _ _ _|exact spec_l01From.mono _ _|exact spec_l01Is.mono _ _ _|exact spec_l01Join.mono _ _ _ _ _|exact spec_l01Spoil.mono _ _ _ _|exact LeO.refl _|exact LeO.none _|refine LeO.ite ?_ ?_|refine LeO.bind ?_ (fun _=>?_))
theorem spec_DrawIsAcyclicComplex.mono:∀ a0 k,LeO (spec_DrawIsAcyclicComplex.f k a0) (spec_DrawIsAcyclicComplex.f (k+1) a0):=by
 intro a0 k;have ih0:=spec_DrawIsAcyclicComplex.mono_l k;unfold spec_DrawIsAcyclicComplex.f;repeat' first
   |(with_reducible first|exact ih0 _ _ _ _ _ _|exact spec_l01From.mono _ _|exact spec_l01Is.mono _ _ _|exact spec_l01Join.mono _ _ _ _ _|exact spec_l01Spoil.mono _ _ _ _|exact LeO.refl _|exact LeO.none _|refine LeO.ite ?_ ?_|refine LeO.bind ?_ (fun _=>?_))
set_option maxHeartbeats 8000000 in
set_option maxRecDepth 100000 in
theorem spec_DrawIsAcyclicComplex.calls (k:Nat) (A0:Option Addr) (c0:Nat) (l0:List Int) (r1:Int) (r2:List Int) (r3:Int) (w:World) (hr0:Kd.C (Kd.int .u8) w A0 l0.length l0) (hc0:l0.length≤c0) (h:spec_DrawIsAcyclicComplex.f k l0=some (r1,r2,r3)) :
  Calls Tryz.prog 43 #[.slice A0 l0.length c0] w fun e w'=>∃ v1_:Value,e = .returned (.tuple #[.agg #[.int .i64 r1,v1_],.int .i64 r3])∧Kd.R (Kd.int .i64) 2 w' w.heap.size (fun _=>True) v1_ r2∧Below w.heap.size w w':=by
 have hu26:=Tryz.underlying26;have HR0:=Aside0.mk hr0;have HC0:=Aside0.mk hc0;clear hr0 hc0;have HB:=Aside0.mk (Below.refl w.heap.size w);have H:((spec_l01From.f k l0).bind fun bt147=>((spec_l01Spoil.f k bt147.1 bt147.2.1 bt147.2.2).bind fun bt151=>((spec_l01Is.f k bt151.1 bt151.2.1).bind fun t158=>(if t158=true then (if bt151.1<6 then ((spec_l01Next.f bt147.1 bt151.2.2.1 bt151.2.2.2 3).bind fun bt159=>(spec_DrawIsAcyclicComplex.j0 k (bt159.1 == 0) bt147.1 bt159.2.1 bt159.2.2 bt151.1 bt151.2.1)) else (spec_DrawIsAcyclicComplex.j0 k false bt147.1 bt151.2.2.1 bt151.2.2.2 bt151.1 bt151.2.1)) else (spec_DrawIsAcyclicComplex.j0 k false bt147.1 bt151.2.2.1 bt151.2.2.2 bt151.1 bt151.2.1)))))=some (r1,r2,r3):=h;clear h;replace H:=Option.bind_eq_some_iff.mp H;obtain ⟨⟨t147,t148,t149⟩,A20,H⟩:=H;replace H:((spec_l01Spoil.f k t147 t148 t149).bind fun bt151=>((spec_l01Is.f k bt151.1 bt151.2.1).bind fun t158=>(if t158=true then (if bt151.1<6 then ((spec_l01Next.f t147 bt151.2.2.1 bt151.2.2.2 3).bind fun bt159=>(spec_DrawIsAcyclicComplex.j0 k (bt159.1 == 0) t147 bt159.2.1 bt159.2.2 bt151.1 bt151.2.1)) else (spec_DrawIsAcyclicComplex.j0 k false t147 bt151.2.2.1 bt151.2.2.2 bt151.1 bt151.2.1)) else (spec_DrawIsAcyclicComplex.j0 k false t147 bt151.2.2.1 bt151.2.2.2 bt151.1 bt151.2.1))))=some (r1,r2,r3):=H;have A2:=Aside0.mk A20;clear A20;replace H:=Option.bind_eq_some_iff.mp H;obtain ⟨⟨t151,t152,t155,t156⟩,A30,H⟩:=H;replace H:((spec_l01Is.f k t151 t152).bind fun t158=>(if t158=true then (if t151<6 then ((spec_l01Next.f t147 t155 t156 3).bind fun bt159=>(spec_DrawIsAcyclicComplex.j0 k (bt159.1 == 0) t147 bt159.2.1 bt159.2.2 t151 t152)) else (spec_DrawIsAcyclicComplex.j0 k false t147 t155 t156 t151 t152)) else (spec_DrawIsAcyclicComplex.j0 k false t147 t155 t156 t151 t152)))=some (r1,r2,r3):=H;have A3:=Aside0.mk A30;clear A30;have HC4:=Aside0.mk H;clear H;go_enter Tryz.func43,Tryz.ntmps43;go_upto_region 3 with (first|((with_reducible refine gate_dst (N:=2) rfl ?_);refine bx 2 #[.int .i64 0,.slice none 0 0] 26 ?_;intro gb146 hg w5 hbox hb;have BK146:=Aside0.mk (hbox);have GE146:=gzA hg HB;replace HB:=bsA HB hb;clear hb hbox hg)|((with_reducible refine gate_callee (f:=66) rfl ?_);refine gl (some 7) Tryz.func66 #[.slice A0 l0.length c0] ?_;(with_reducible refine(spec_l01From.calls k _ _ l0 t147 t148 t149 w _ (bl HB.out) HR0.out HC0.out A2.out).mono ?_);rintro e w6 ⟨g150,rfl,hi,hb,hb2⟩;refine⟨_,rfl,?_⟩;replace HB:=Aside0.mk (hb);have HI150:=Aside0.mk (hi);have NB150_146:=Aside0.mk (IsS92.ne_blk hi (blk_below (bk BK146.out) hb2) (by decide));have NB146_150:=Aside0.mk (Ne.symm (IsS92.ne_blk hi (blk_below (bk BK146.out) hb2) (by decide)));replace BK146:=bkA BK146 hb2;(try clear hb);(try clear hb2);(try clear hk);(try clear hi))|((with_reducible refine gate_callee (f:=68) rfl ?_);refine gl (some 9) Tryz.func68 #[.pointer (some ⟨g150,0,none⟩)] ?_;(with_reducible refine(spec_l01Spoil.calls k g150 t147 t148 t149 t151 t152 t155 t156 w _ (IsS92.ch HI150.out) (blg HB.out (IsS92.ge HI150.out)) A3.out).mono ?_);rintro e w7 ⟨v153,rfl,ho0,hi,hb,hk⟩;refine⟨_,rfl,?_⟩;replace BK146:=Aside0.mk (kbk hk (bk BK146.out) NB146_150.out);have HO154:=Aside0.mk (Kd.R_lower ho0 (below_size (blg HB.out (IsS92.ge HI150.out))));replace HB:=Aside0.mk (hb);replace HI150:=Aside0.mk (hi);(try clear hb);(try clear hb2);(try clear hk);(try clear hi);(try clear ho0))|((with_reducible refine gate_dst (N:=5) rfl ?_);refine bx 5 #[.int .i64 0,.slice none 0 0] 26 ?_;intro gb157 hg w8 hbox hb;replace HO154:=krA HO154 hb;have BK157:=Aside0.mk (hbox);have GW157:=Aside0.mk ((by rw[hg];exact(below_size (blg HB.out (IsS92.ge HI150.out))):w.heap.size≤gb157));have GE157:=Aside0.mk ((by rw[hg];exact(below_size (blg HB.out (IsS92.ge HI150.out))):w.heap.size≤gb157));replace HB:=Aside0.mk (below_step (blg HB.out (IsS92.ge HI150.out)) hb);have NB146_157:=nlA hg BK146;have NB157_146:=ngA hg BK146;replace BK146:=bkA BK146 hb;have NB150_157:=Aside0.mk ((by rw[hg];exact Nat.ne_of_lt (IsS92.lt (show IsS92 w _ g150 t147 t155 t156 from IsS92.ch HI150.out)):g150≠gb157));have NB157_150:=Aside0.mk ((by rw[hg];exact Nat.ne_of_gt (IsS92.lt (show IsS92 w _ g150 t147 t155 t156 from IsS92.ch HI150.out)):gb157≠g150));replace HI150:=Aside0.mk (IsS92.below (IsS92.ch HI150.out) hb);clear hb hbox hg;have hnb9:=NB157_146.out;have hnc9:=NB146_157.out;have hnb10:=NB157_150.out;have hnc10:=NB150_157.out;have hcz11_0:=z0_ BK157;have hcz11_1:=z1_ BK157;have hfz11_0:=hf_ BK157 0;have hfz11_1:=hf_ BK157 1;obtain ⟨Ao12,co12,eo12⟩:=Kd.R_slice HO154.out;subst eo12))
 (try simp only [Act.put,List.setIfInBounds_toArray,List.set_cons_zero,List.set_cons_succ])
 go_cut [21] (fun v21 wc=>∃(kq:Nat) (x21_3:Bool) (x151001_3:Int) (x151002_3:Int),v21 = .bool x21_3∧Aside0 (spec_DrawIsAcyclicComplex.j0 kq x21_3 t147 x151001_3 x151002_3 t151 t152=some (r1,r2,r3))∧Aside0 (kq≤k)∧Aside0 (Kd.R (Kd.int .i64) 2 wc w.heap.size (fun _=>True) (.slice Ao12 t152.length co12) t152)∧Aside0 (wc.heap[gb146]?=some (.cells #[.int .i64 0,(.slice none 0 0)] 26 (0,0)))∧Aside0 (wc.heap[gb157]?=some (.cells #[.int .i64 t151,(.slice Ao12 t152.length co12)] 26 (0,0)))∧Aside0 (IsS92 w wc g150 t147 x151001_3 x151002_3)∧Aside0 (Below w.heap.size w wc))
 case first=>
  have H:=HC4.out;clear HC4;replace H:=Option.bind_eq_some_iff.mp H;obtain ⟨t158,A130,H⟩:=H;replace H:(if t158=true then (if t151<6 then ((spec_l01Next.f t147 t155 t156 3).bind fun bt159=>(spec_DrawIsAcyclicComplex.j0 k (bt159.1 == 0) t147 bt159.2.1 bt159.2.2 t151 t152)) else (spec_DrawIsAcyclicComplex.j0 k false t147 t155 t156 t151 t152)) else (spec_DrawIsAcyclicComplex.j0 k false t147 t155 t156 t151 t152))=some (r1,r2,r3):=H;have A13:=Aside0.mk A130;clear A130;by_cases c14:t158=true
  ·subst c14;have H1:(if t151<6 then ((spec_l01Next.f t147 t155 t156 3).bind fun bt159=>(spec_DrawIsAcyclicComplex.j0 k (bt159.1 == 0) t147 bt159.2.1 bt159.2.2 t151 t152)) else (spec_DrawIsAcyclicComplex.j0 k false t147 t155 t156 t151 t152))=some (r1,r2,r3):=by rw[if_pos rfl] at H;exact H
   clear H;have H:=H1;clear H1;by_cases c15:t151<6
   ·rw[if_pos c15] at H;have c15b0:decide (t151<6)=true:=decide_eq_true c15;clear c15;(first|rw[c15b0]|(simp only [i64_w,i32_w];rw[c15b0])|skip)
    replace H:=Option.bind_eq_some_iff.mp H;obtain ⟨⟨t159,t160,t161⟩,A160,H⟩:=H;replace H:(spec_DrawIsAcyclicComplex.j0 k (t159 == 0) t147 t160 t161 t151 t152)=some (r1,r2,r3):=H;have A16:=Aside0.mk A160;clear A160;have H':=Aside0.mk H;clear H;have hnb17:=NB157_146.out;have hnc17:=NB146_157.out;have hnb18:=NB157_150.out;have hnc18:=NB150_157.out;have hcz19_0:=z0_ BK157;have hcz19_1:=z1_ BK157;have hfz19_0:=hf_ BK157 0;have hfz19_1:=hf_ BK157 1;go_wp2_with (first|((with_reducible refine gate_callee (f:=71) rfl ?_);refine gl (some 11) Tryz.func71 #[.agg #[.int .i64 t151,.slice Ao12 t152.length co12]] ?_;(with_reducible refine(spec_l01Is.calls k t151 _ _ t152 true _ ?side1 ?side2 A13.out).mono ?_);(case side1=>refine(Kd.R_reads' (e:=2) (base:=w.heap.size) (ok:=fun k_=>True) (n:=t152.length) (c:=co12) ?_).2.2;exact(by(with_reducible repeat(first|apply Kd.R_alloc|apply Kd.R_drewN|apply Kd.R_drew));exact(Kd.R_mono (Kd.R_far (p:=⟨gb157,1,none⟩) (Kd.R_far (p:=⟨gb157,0,none⟩) (Kd.R_types HO154.out BK157.out (by decide)) (fun _ hk=>hk.2) (.int .i64 t151)) (fun _ hk=>hk.2) (.slice Ao12 t152.length co12)) (fun _ h_=>h_.1))));(case side2=>exact(Kd.R_reads' HO154.out).2.1);rintro e w20 ⟨rfl,hb⟩;refine⟨_,rfl,?_⟩;replace HO154:=Aside0.mk (Kd.R_below (by(with_reducible repeat(first|apply Kd.R_alloc|apply Kd.R_drewN|apply Kd.R_drew));exact(Kd.R_mono (Kd.R_far (p:=⟨gb157,1,none⟩) (Kd.R_far (p:=⟨gb157,0,none⟩) (Kd.R_types HO154.out BK157.out (by decide)) (fun _ hk=>hk.2) (.int .i64 t151)) (fun _ hk=>hk.2) (.slice Ao12 t152.length co12)) (fun _ h_=>h_.1))) hb);replace BK146:=Aside0.mk (blk_below (g:=gb146) (o:= .cells #[.int .i64 0,.slice none 0 0] 26 (0,0)) (bp BK146.out) hb);replace BK157:=Aside0.mk (blk_below (g:=gb157) (o:= .cells #[.int .i64 t151,.slice Ao12 t152.length co12] 26 (0,0)) (bp BK157.out) hb);replace HB:=Aside0.mk (below_step (blg HB.out (IsS92.ge HI150.out)) hb);replace HI150:=Aside0.mk (IsS92.below (show IsS92 w ((w8.setCell ⟨gb157,0,none⟩ (.int .i64 t151)).setCell ⟨gb157,1,none⟩ (.slice Ao12 t152.length co12)) g150 t147 t155 t156 from IsS92.ch HI150.out) hb);(try clear hb);(try clear hb2);(try clear hk);(try clear hi);have hcz21_0:=z0_ BK157;have hcz21_1:=z1_ BK157;have hfz21_0:=hf_ BK157 0;have hfz21_1:=hf_ BK157 1)|(go_at_call 67;(with_reducible refine(spec_l01Next.calls g150 t147 t155 t156 3 t159 t160 t161 w _ (IsS92.ch HI150.out) (blg HB.out (IsS92.ge HI150.out)) A16.out).mono ?_);rintro e w22 ⟨rfl,hi,hb,hk⟩;replace BK146:=Aside0.mk (kbk hk (bk BK146.out) NB146_150.out);replace HO154:=Aside0.mk (Kd.R_mono (Kd.R_keep (IsS92.apart (show IsS92 w _ g150 t147 t155 t156 from IsS92.ch HI150.out) (kr HO154.out) (by decide)) hk (fun _ h=>h.2)) (fun _ h=>h.1));replace BK157:=Aside0.mk (kbk hk (bk BK157.out) NB157_150.out);replace HB:=Aside0.mk (hb);replace HI150:=Aside0.mk (hi);(try clear hb);(try clear hb2);(try clear hk);(try clear hi)))
    go_meet
    case rel=>exact⟨_,((t159 == 0)),(t160),(t161),rs,H',⟨by first|omega|exact Nat.le_refl _⟩,⟨kr HO154.out⟩,⟨bk BK146.out⟩,⟨bk BK157.out⟩,⟨IsS92.ch HI150.out⟩,⟨blg HB.out (IsS92.ge HI150.out)⟩⟩
   ·rw[if_neg c15] at H;have c15b0:decide (t151<6)=false:=decide_eq_false c15;clear c15;(first|rw[c15b0]|(simp only [i64_w,i32_w];rw[c15b0])|skip)
    have H':=Aside0.mk H;clear H;have hnb23:=NB157_146.out;have hnc23:=NB146_157.out;have hnb24:=NB157_150.out;have hnc24:=NB150_157.out;have hcz25_0:=z0_ BK157;have hcz25_1:=z1_ BK157;have hfz25_0:=hf_ BK157 0;have hfz25_1:=hf_ BK157 1;go_wp2_with (first|((with_reducible refine gate_callee (f:=71) rfl ?_);refine gl (some 11) Tryz.func71 #[.agg #[.int .i64 t151,.slice Ao12 t152.length co12]] ?_;(with_reducible refine(spec_l01Is.calls k t151 _ _ t152 true _ ?side1 ?side2 A13.out).mono ?_);(case side1=>refine(Kd.R_reads' (e:=2) (base:=w.heap.size) (ok:=fun k_=>True) (n:=t152.length) (c:=co12) ?_).2.2;exact(by(with_reducible repeat(first|apply Kd.R_alloc|apply Kd.R_drewN|apply Kd.R_drew));exact(Kd.R_mono (Kd.R_far (p:=⟨gb157,1,none⟩) (Kd.R_far (p:=⟨gb157,0,none⟩) (Kd.R_types HO154.out BK157.out (by decide)) (fun _ hk=>hk.2) (.int .i64 t151)) (fun _ hk=>hk.2) (.slice Ao12 t152.length co12)) (fun _ h_=>h_.1))));(case side2=>exact(Kd.R_reads' HO154.out).2.1);rintro e w26 ⟨rfl,hb⟩;refine⟨_,rfl,?_⟩;replace HO154:=Aside0.mk (Kd.R_below (by(with_reducible repeat(first|apply Kd.R_alloc|apply Kd.R_drewN|apply Kd.R_drew));exact(Kd.R_mono (Kd.R_far (p:=⟨gb157,1,none⟩) (Kd.R_far (p:=⟨gb157,0,none⟩) (Kd.R_types HO154.out BK157.out (by decide)) (fun _ hk=>hk.2) (.int .i64 t151)) (fun _ hk=>hk.2) (.slice Ao12 t152.length co12)) (fun _ h_=>h_.1))) hb);replace BK146:=Aside0.mk (blk_below (g:=gb146) (o:= .cells #[.int .i64 0,.slice none 0 0] 26 (0,0)) (bp BK146.out) hb);replace BK157:=Aside0.mk (blk_below (g:=gb157) (o:= .cells #[.int .i64 t151,.slice Ao12 t152.length co12] 26 (0,0)) (bp BK157.out) hb);replace HB:=Aside0.mk (below_step (blg HB.out (IsS92.ge HI150.out)) hb);replace HI150:=Aside0.mk (IsS92.below (show IsS92 w ((w8.setCell ⟨gb157,0,none⟩ (.int .i64 t151)).setCell ⟨gb157,1,none⟩ (.slice Ao12 t152.length co12)) g150 t147 t155 t156 from IsS92.ch HI150.out) hb);(try clear hb);(try clear hb2);(try clear hk);(try clear hi);have hcz27_0:=z0_ BK157;have hcz27_1:=z1_ BK157;have hfz27_0:=hf_ BK157 0;have hfz27_1:=hf_ BK157 1))
    go_meet
    case rel=>exact⟨_,(false),(t155),(t156),rs,H',⟨by first|omega|exact Nat.le_refl _⟩,⟨kr HO154.out⟩,⟨bk BK146.out⟩,⟨bk BK157.out⟩,⟨IsS92.ch HI150.out⟩,⟨blg HB.out (IsS92.ge HI150.out)⟩⟩
  ·replace c14:=Bool.eq_false_iff.mpr c14;subst c14;have H1:(spec_DrawIsAcyclicComplex.j0 k false t147 t155 t156 t151 t152)=some (r1,r2,r3):=by rw[if_neg (show ¬ (false=true) by decide)] at H;exact H
   clear H;have H:=H1;clear H1;have H':=Aside0.mk H;clear H;have hnb28:=NB157_146.out;have hnc28:=NB146_157.out;have hnb29:=NB157_150.out;have hnc29:=NB150_157.out;have hcz30_0:=z0_ BK157;have hcz30_1:=z1_ BK157;have hfz30_0:=hf_ BK157 0;have hfz30_1:=hf_ BK157 1;go_wp2_with (first|((with_reducible refine gate_callee (f:=71) rfl ?_);refine gl (some 11) Tryz.func71 #[.agg #[.int .i64 t151,.slice Ao12 t152.length co12]] ?_;(with_reducible refine(spec_l01Is.calls k t151 _ _ t152 false _ ?side1 ?side2 A13.out).mono ?_);(case side1=>refine(Kd.R_reads' (e:=2) (base:=w.heap.size) (ok:=fun k_=>True) (n:=t152.length) (c:=co12) ?_).2.2;exact(by(with_reducible repeat(first|apply Kd.R_alloc|apply Kd.R_drewN|apply Kd.R_drew));exact(Kd.R_mono (Kd.R_far (p:=⟨gb157,1,none⟩) (Kd.R_far (p:=⟨gb157,0,none⟩) (Kd.R_types HO154.out BK157.out (by decide)) (fun _ hk=>hk.2) (.int .i64 t151)) (fun _ hk=>hk.2) (.slice Ao12 t152.length co12)) (fun _ h_=>h_.1))));(case side2=>exact(Kd.R_reads' HO154.out).2.1);rintro e w31 ⟨rfl,hb⟩;refine⟨_,rfl,?_⟩;replace HO154:=Aside0.mk (Kd.R_below (by(with_reducible repeat(first|apply Kd.R_alloc|apply Kd.R_drewN|apply Kd.R_drew));exact(Kd.R_mono (Kd.R_far (p:=⟨gb157,1,none⟩) (Kd.R_far (p:=⟨gb157,0,none⟩) (Kd.R_types HO154.out BK157.out (by decide)) (fun _ hk=>hk.2) (.int .i64 t151)) (fun _ hk=>hk.2) (.slice Ao12 t152.length co12)) (fun _ h_=>h_.1))) hb);replace BK146:=Aside0.mk (blk_below (g:=gb146) (o:= .cells #[.int .i64 0,.slice none 0 0] 26 (0,0)) (bp BK146.out) hb);replace BK157:=Aside0.mk (blk_below (g:=gb157) (o:= .cells #[.int .i64 t151,.slice Ao12 t152.length co12] 26 (0,0)) (bp BK157.out) hb);replace HB:=Aside0.mk (below_step (blg HB.out (IsS92.ge HI150.out)) hb);replace HI150:=Aside0.mk (IsS92.below (show IsS92 w ((w8.setCell ⟨gb157,0,none⟩ (.int .i64 t151)).setCell ⟨gb157,1,none⟩ (.slice Ao12 t152.length co12)) g150 t147 t155 t156 from IsS92.ch HI150.out) hb);(try clear hb);(try clear hb2);(try clear hk);(try clear hi)))
   go_meet
   case rel=>exact⟨_,(false),(t155),(t156),rs,H',⟨by first|omega|exact Nat.le_refl _⟩,⟨kr HO154.out⟩,⟨bk BK146.out⟩,⟨bk BK157.out⟩,⟨IsS92.ch HI150.out⟩,⟨blg HB.out (IsS92.ge HI150.out)⟩⟩
 case rest=>
  clear HC4;try clear c1
  try clear c2
  try clear p2
  try clear c4
  try clear c6
  try clear c7
  try clear c9
  try clear c10
  try clear c14
  try clear c15
  try clear c15b0
  try clear c17
  try clear c18
  try clear c23
  try clear c24
  try clear c28
  try clear c29
  try clear hcz11_0
  try clear hcz11_1
  try clear hcz19_0
  try clear hcz19_1
  try clear hcz21_0
  try clear hcz21_1
  try clear hcz25_0
  try clear hcz25_1
  try clear hcz27_0
  try clear hcz27_1
  try clear hcz30_0
  try clear hcz30_1
  try clear hfz11_0
  try clear hfz11_1
  try clear hfz19_0
  try clear hfz19_1
  try clear hfz21_0
  try clear hfz21_1
  try clear hfz25_0
  try clear hfz25_1
  try clear hfz27_0
  try clear hfz27_1
  try clear hfz30_0
  try clear hfz30_1
  obtain ⟨kq,x21_3,x151001_3,x151002_3,rfl,HA,HJ3,HO_158001,BK146,BK157,HI150,HB⟩:=hcut;cases kq with
  |zero=>exact absurd HA.out (by simp [spec_DrawIsAcyclicComplex.j0])
  |succ kj3=>
   have H:=HA.out;clear HA;simp only [spec_DrawIsAcyclicComplex.j0] at H;by_cases c32:x21_3=true
   ·subst c32;have H1:((spec_l01Join.f kj3 t151 t152 1 (([1]:List Int))).bind fun bt165=>((spec_l03DrawP.f t147 x151001_3 x151002_3).bind fun bt169=>(some (bt165.1,bt165.2,bt169.1))))=some (r1,r2,r3):=by rw[if_pos rfl] at H;exact H
    clear H;have H:=H1;clear H1;obtain ⟨y162,hy162⟩:∃ y_:List Int,y_=(([1]:List Int)):=⟨_,rfl⟩
    replace H:((spec_l01Join.f kj3 t151 t152 1 y162).bind fun bt165=>((spec_l03DrawP.f t147 x151001_3 x151002_3).bind fun bt169=>(some (bt165.1,bt165.2,bt169.1))))=some (r1,r2,r3):=by first|(rw[hy162];with_reducible exact H)|(have H2_:=(Option.bind_some _ _).symm.trans H;rw[hy162];with_reducible exact H2_)|(have H2_:=(Option.bind_some _ _).symm.trans H;with_reducible exact H2_)|with_reducible exact H|(rw[hy162];exact H)|exact H
    have Ny162:=Aside0.mk hy162;clear hy162;replace H:=Option.bind_eq_some_iff.mp H;obtain ⟨⟨t165,t166⟩,A330,H⟩:=H;replace H:((spec_l03DrawP.f t147 x151001_3 x151002_3).bind fun bt169=>(some (t165,t166,bt169.1)))=some (r1,r2,r3):=H;have A33:=Aside0.mk A330;clear A330;replace H:=Option.bind_eq_some_iff.mp H;obtain ⟨⟨t169,t170,t171⟩,A340,H⟩:=H;replace H:(some (t165,t166,t169))=some (r1,r2,r3):=H;have A34:=Aside0.mk A340;clear A340;simp only [Option.some.injEq,Prod.mk.injEq] at H;obtain ⟨rfl,rfl,rfl⟩:=H;have hnb35:=NB157_146.out;have hnc35:=NB146_157.out;have hnb36:=NB157_150.out;have hnc36:=NB150_157.out;have hcz37_0:=z0_ BK157;have hcz37_1:=z1_ BK157;have hfz37_0:=hf_ BK157 0;have hfz37_1:=hf_ BK157 1;try go_wp2_with (first|((with_reducible refine gate_dst (N:=23) rfl ?_);refine Kd.R_lit (Kd.int .i64) _ 2 ?hg (N:=23) ?hd (xs:=([1]:List Int)) (inner:= [.int .i64 1]) (ok:=fun _=>True) (okp:=fun _=>True) ?hr ?hp (fun _ hk=>hk) trivial (Below.refl _ _) (Nat.le_refl _) (by simp) ?_;(case hd=>rfl);(case hg=>rfl);(case hr=>first|(go_simp;done)|(go_simp;rfl));(case hp=>exact(Reps.one (show Kd.M (Kd.int .i64) _ _ _ 1 [.int .i64 1] from rfl) (Reps.none _ _)));intro v163 w38 ho39 hb hg_ hnew_;clear hg_ hnew_;(first|rw[← Ny162.out] at ho39|(simp only [Int.reduceToNat] at ho39;rw[← Ny162.out] at ho39));have HO164:=Aside0.mk (Kd.R_lower (Kd.R_new' ho39 (Kd.R_lt (kr HO_158001.out))) (below_size (blg HB.out (IsS92.ge HI150.out))));replace HO_158001:=Aside0.mk (Kd.R_elder' (kr HO_158001.out) (Kd.R_base ho39) hb);replace BK146:=bkA BK146 hb;replace BK157:=bkA BK157 hb;replace HB:=Aside0.mk (below_step (blg HB.out (IsS92.ge HI150.out)) hb);replace HI150:=Aside0.mk (IsS92.below (IsS92.ch HI150.out) hb);clear hb ho39;obtain ⟨Ao40,co40,eo40⟩:=Kd.R_slice HO164.out;subst eo40)|((with_reducible refine gate_callee (f:=72) rfl ?_);refine gl (some 25) Tryz.func72 #[.agg #[.int .i64 t151,.slice Ao12 t152.length co12],.agg #[.int .i64 1,.slice Ao40 y162.length co40]] ?_;(with_reducible refine(spec_l01Join.calls kj3 t151 _ _ t152 1 _ _ y162 t165 t166 _ (cb (Kd.R_reads' HO_158001.out).2.2) ((Kd.R_reads' HO_158001.out).2.1) (cb (Kd.R_reads' HO164.out).2.2) ((Kd.R_reads' HO164.out).2.1) A33.out).mono ?_);rintro e w41 ⟨v167,rfl,ho0,hb⟩;refine⟨_,rfl,?_⟩;have HO168:=Aside0.mk (Kd.R_lower (Kd.R_new' (Kd.R_new' ho0 (Kd.R_lt (kr HO_158001.out))) (Kd.R_lt (kr HO164.out))) (below_size (blg HB.out (IsS92.ge HI150.out))));replace HO_158001:=Aside0.mk (Kd.R_elder' (kr HO_158001.out) (Kd.R_base ho0) hb);replace HO164:=Aside0.mk (Kd.R_elder' (kr HO164.out) (Kd.R_base ho0) hb);replace BK146:=bkA BK146 hb;replace BK157:=bkA BK157 hb;replace HB:=Aside0.mk (below_step (blg HB.out (IsS92.ge HI150.out)) hb);replace HI150:=Aside0.mk (IsS92.below (IsS92.ch HI150.out) hb);(try clear hb);(try clear hb2);(try clear hk);(try clear hi);(try clear ho0);have hcz42_0:=z0_ BK157;have hcz42_1:=z1_ BK157;have hfz42_0:=hf_ BK157 0;have hfz42_1:=hf_ BK157 1;obtain ⟨Ao43,co43,eo43⟩:=Kd.R_slice HO168.out;subst eo43))
    have n0_:Aside0 (Kd.R (Kd.int .i64) 2 ((w41.setCell ⟨gb157,0,none⟩ (.int .i64 t165)).setCell ⟨gb157,1,none⟩ (.slice Ao43 t166.length co43)) w.heap.size (fun k_=>some k_≠(.slice Ao40 y162.length co40:Value).ownBlock∧some k_≠(.slice Ao43 t166.length co43:Value).ownBlock) (.slice Ao12 t152.length co12) t152):=⟨by(with_reducible repeat(first|apply Kd.R_alloc|apply Kd.R_drewN|apply Kd.R_drew));exact Kd.R_mono (Kd.R_far (p:=⟨gb157,1,none⟩) (Kd.R_far (p:=⟨gb157,0,none⟩) (Kd.R_types HO_158001.out BK157.out (by decide)) (fun _ hk=>hk.2) (.int .i64 t165)) (fun _ hk=>hk.2) (.slice Ao43 t166.length co43)) (fun _ hk=>⟨hk.1.1.2,hk.1.2⟩)⟩
    have n1_:Aside0 (Kd.R (Kd.int .i64) 2 ((w41.setCell ⟨gb157,0,none⟩ (.int .i64 t165)).setCell ⟨gb157,1,none⟩ (.slice Ao43 t166.length co43)) w.heap.size (fun k_=>some k_≠(.slice Ao12 t152.length co12:Value).ownBlock∧some k_≠(.slice Ao43 t166.length co43:Value).ownBlock) (.slice Ao40 y162.length co40) y162):=⟨by(with_reducible repeat(first|apply Kd.R_alloc|apply Kd.R_drewN|apply Kd.R_drew));exact Kd.R_mono (Kd.R_far (p:=⟨gb157,1,none⟩) (Kd.R_far (p:=⟨gb157,0,none⟩) (Kd.R_types HO164.out BK157.out (by decide)) (fun _ hk=>hk.2) (.int .i64 t165)) (fun _ hk=>hk.2) (.slice Ao43 t166.length co43)) (fun _ hk=>⟨hk.1.1.2,hk.1.2⟩)⟩
    have n2_:Aside0 (Kd.R (Kd.int .i64) 2 ((w41.setCell ⟨gb157,0,none⟩ (.int .i64 t165)).setCell ⟨gb157,1,none⟩ (.slice Ao43 t166.length co43)) w.heap.size (fun k_=>some k_≠(.slice Ao12 t152.length co12:Value).ownBlock∧some k_≠(.slice Ao40 y162.length co40:Value).ownBlock) (.slice Ao43 t166.length co43) t166):=⟨by(with_reducible repeat(first|apply Kd.R_alloc|apply Kd.R_drewN|apply Kd.R_drew));exact Kd.R_mono (Kd.R_far (p:=⟨gb157,1,none⟩) (Kd.R_far (p:=⟨gb157,0,none⟩) (Kd.R_types HO168.out BK157.out (by decide)) (fun _ hk=>hk.2) (.int .i64 t165)) (fun _ hk=>hk.2) (.slice Ao43 t166.length co43)) (fun _ hk=>⟨hk.1.1.2,hk.1.2⟩)⟩
    have n3_:Aside0 (((w41.setCell ⟨gb157,0,none⟩ (.int .i64 t165)).setCell ⟨gb157,1,none⟩ (.slice Ao43 t166.length co43)).heap[gb146]?=some (.cells #[.int .i64 0,.slice none 0 0] 26 (0,0))):=⟨bp BK146.out⟩
    have n4_:Aside0 (((w41.setCell ⟨gb157,0,none⟩ (.int .i64 t165)).setCell ⟨gb157,1,none⟩ (.slice Ao43 t166.length co43)).heap[gb157]?=some (.cells #[.int .i64 t165,.slice Ao43 t166.length co43] 26 (0,0))):=⟨bp BK157.out⟩
    have n5_:Aside0 (IsS92 w ((w41.setCell ⟨gb157,0,none⟩ (.int .i64 t165)).setCell ⟨gb157,1,none⟩ (.slice Ao43 t166.length co43)) g150 t147 x151001_3 x151002_3):=⟨IsS92.ch HI150.out⟩
    have n6_:Aside0 (Below w.heap.size w ((w41.setCell ⟨gb157,0,none⟩ (.int .i64 t165)).setCell ⟨gb157,1,none⟩ (.slice Ao43 t166.length co43))):=⟨blg HB.out (IsS92.ge HI150.out)⟩
    (try clear HO_158001)
    (try clear HO164)
    (try clear HO168)
    (try clear BK146)
    (try clear BK157)
    (try clear HI150)
    (try clear HB)
    generalize ((w41.setCell ⟨gb157,0,none⟩ (.int .i64 t165)).setCell ⟨gb157,1,none⟩ (.slice Ao43 t166.length co43))=w44 at n0_ n1_ n2_ n3_ n4_ n5_ n6_ ⊢;have HO_158001:=n0_;have HO164:=n1_;have HO168:=n2_;have BK146:=n3_;have BK157:=n4_;have HI150:=n5_;have HB:=n6_;clear n0_ n1_ n2_ n3_ n4_ n5_ n6_;replace HO_158001:=Aside0.mk (Kd.R_drew HO_158001.out);replace HO164:=Aside0.mk (Kd.R_drew HO164.out);replace HO168:=Aside0.mk (Kd.R_drew HO168.out);replace BK146:=Aside0.mk (blk_drew BK146.out);replace BK157:=Aside0.mk (blk_drew BK157.out);replace HI150:=Aside0.mk (IsS92.drew HI150.out);replace HB:=Aside0.mk (below_drew1 HB.out);refine start_ (n:=5) (S:=fun w'=>w'.cell? ⟨gb157,0,none⟩=some (.int .i64 t165)∧w'.cell? ⟨gb157,1,none⟩=some (.slice Ao43 t166.length co43)) (ds:= []) #[O,O,O,O,O] (by kernel_rfl) rfl rfl ⟨(blk_cell BK157.out 0).trans rfl,(blk_cell BK157.out 1).trans rfl⟩ (fun hHeld=>?_);generalize w44.drew=w45 at HO_158001 HO164 HO168 BK146 BK157 HI150 HB hHeld ⊢;refine pure_ (i:=1) (N:=some 27) (v:=?_) (a':=?_) #[O,U,O,O,O] rfl rfl (by kernel_rfl) hh_ (Or.inl ⟨by rfl,?_⟩) ?_ ?_;rotate_left
    ·intro w';go_simp;with_reducible rfl
    rotate_left
    ·simp only [nm_];rfl
    refine take_ (i:=0) (N:=some 26) (v:=?_) (a':=?_) #[U,U,O,O,O] rfl rfl (by kernel_rfl) hh_ (Or.inl ⟨by rfl,?_⟩) hHeld ?_ ?_;rotate_left
    ·rintro w' ⟨s0,s1⟩;go_simp;with_reducible rfl
    rotate_left
    ·simp only [nm_];rfl
    refine one_ (i:=2) (N:=some 28) #[U,U,U,O,O] rfl rfl (by kernel_rfl) (by decide) (fun K hK=>?_);refine gr Tryz.func102 #[.pointer (some ⟨g150,0,none⟩)] ?_;with_reducible refine(spec_l03DrawP.calls g150 t147 x151001_3 x151002_3 t169 t170 t171 w _ (IsS92.ch HI150.out) (blg HB.out (IsS92.ge HI150.out)) A34.out).mono ?_
    rintro e w46 ⟨rfl,hi,hb,hk⟩;refine⟨_,rfl,?_⟩;replace HO_158001:=Aside0.mk (Kd.R_mono (Kd.R_keep (IsS92.apart (show IsS92 w _ g150 t147 x151001_3 x151002_3 from IsS92.ch HI150.out) (kr HO_158001.out) (by decide)) hk (fun _ h=>h.2)) (fun _ h=>h.1));replace BK146:=Aside0.mk (kbk hk (bk BK146.out) NB146_150.out);replace BK157:=Aside0.mk (kbk hk (bk BK157.out) NB157_150.out);replace HO164:=Aside0.mk (Kd.R_mono (Kd.R_keep (IsS92.apart (show IsS92 w _ g150 t147 x151001_3 x151002_3 from IsS92.ch HI150.out) (kr HO164.out) (by decide)) hk (fun _ h=>h.2)) (fun _ h=>h.1));replace HO168:=Aside0.mk (Kd.R_mono (Kd.R_keep (IsS92.apart (show IsS92 w _ g150 t147 x151001_3 x151002_3 from IsS92.ch HI150.out) (kr HO168.out) (by decide)) hk (fun _ h=>h.2)) (fun _ h=>h.1));replace HB:=Aside0.mk (hb);replace HI150:=Aside0.mk (hi);(try clear hb)
    (try clear hb2)
    (try clear hk)
    (try clear hi)
    refine hK.out _ _ ⟨(blk_cell BK157.out 0).trans rfl,(blk_cell BK157.out 1).trans rfl⟩ (fun hHeld=>?_);clear hK K;refine nr 28 ?_;refine one_ (i:=3) (N:=none) #[U,U,U,U,O] rfl rfl (by kernel_rfl) (by decide) (fun K hK=>?_);have hs47:w46.cell? ⟨gb146,0,none⟩=some (.int .i64 0):=(blk_cell BK146.out 0).trans rfl;have hfs47:=blk_frozen BK146.out 0;have hns47_1:=NB157_146.out;have hms47_1:=NB146_157.out;have hs48:w46.cell? ⟨gb146,1,none⟩=some (.slice none 0 0):=(blk_cell BK146.out 1).trans rfl;have hfs48:=blk_frozen BK146.out 1;have hns48_1:=NB157_146.out;have hms48_1:=NB146_157.out;refine skip_ (w1:=?_) (by rfl) rfl ?_ ?_;rotate_left
    ·go_simp;rfl
    refine hK.out _ _ ⟨((cell_far (p:=⟨gb146,_,none⟩) NB157_146.out _).trans (((cell_far (p:=⟨gb146,_,none⟩) NB157_146.out _).trans (hHeld.1)))),((cell_far (p:=⟨gb146,_,none⟩) NB157_146.out _).trans (((cell_far (p:=⟨gb146,_,none⟩) NB157_146.out _).trans (hHeld.2))))⟩ (fun hHeld=>?_);clear hK K;refine pure_ (i:=4) (N:=some 3) (v:=?_) (a':=?_) #[U,U,U,U,U] rfl rfl (by kernel_rfl) hh_ (Or.inl ⟨by rfl,?_⟩) ?_ ?_;rotate_left
    ·intro w';go_simp;with_reducible rfl
    rotate_left
    ·simp only [nm_];rfl
    refine done_ (by kernel_rfl) ?_;try go_wp2
    refine bodyPost_ret (results_ct rfl _ _ gb146 26 #[.int .i64 t165,.slice Ao43 t166.length co43] (0,0) _ rfl (bp BK146.out) Tryz.underlying26 rfl (by kernel_rfl)) rfl ?_;exact⟨_,rr,by(with_reducible repeat(first|apply Kd.R_alloc|apply Kd.R_drewN|apply Kd.R_drew));exact Kd.R_mono (Kd.R_far (p:=⟨gb146,1,none⟩) (Kd.R_far (p:=⟨gb146,0,none⟩) (Kd.R_types HO168.out BK146.out (by decide)) (fun _ hk=>hk.2) (.int .i64 t165)) (fun _ hk=>hk.2) (.slice Ao43 t166.length co43)) (fun _ hk=>trivial),blg HB.out (IsS92.ge HI150.out)⟩
   ·replace c32:=Bool.eq_false_iff.mpr c32;subst c32;have H1:((spec_l03DrawP.f t147 x151001_3 x151002_3).bind fun bt172=>(some (t151,t152,bt172.1)))=some (r1,r2,r3):=by rw[if_neg (show ¬ (false=true) by decide)] at H;exact H
    clear H;have H:=H1;clear H1;replace H:=Option.bind_eq_some_iff.mp H;obtain ⟨⟨t172,t173,t174⟩,A490,H⟩:=H;replace H:(some (t151,t152,t172))=some (r1,r2,r3):=H;have A49:=Aside0.mk A490;clear A490;simp only [Option.some.injEq,Prod.mk.injEq] at H;obtain ⟨rfl,rfl,rfl⟩:=H;try go_wp2
    replace HO_158001:=Aside0.mk (Kd.R_drew HO_158001.out);replace BK146:=Aside0.mk (blk_drew BK146.out);replace BK157:=Aside0.mk (blk_drew BK157.out);replace HI150:=Aside0.mk (IsS92.drew HI150.out);replace HB:=Aside0.mk (below_drew1 HB.out);refine start_ (n:=5) (S:=fun w'=>w'.cell? ⟨gb157,0,none⟩=some (.int .i64 t151)∧w'.cell? ⟨gb157,1,none⟩=some (.slice Ao12 t152.length co12)) (ds:= []) #[O,O,O,O,O] (by kernel_rfl) rfl rfl ⟨(blk_cell BK157.out 0).trans rfl,(blk_cell BK157.out 1).trans rfl⟩ (fun hHeld=>?_);generalize wc.drew=w50 at HO_158001 BK146 BK157 HI150 HB hHeld ⊢;refine pure_ (i:=1) (N:=some 27) (v:=?_) (a':=?_) #[O,U,O,O,O] rfl rfl (by kernel_rfl) hh_ (Or.inl ⟨by rfl,?_⟩) ?_ ?_;rotate_left
    ·intro w';go_simp;with_reducible rfl
    rotate_left
    ·simp only [nm_];rfl
    refine take_ (i:=0) (N:=some 26) (v:=?_) (a':=?_) #[U,U,O,O,O] rfl rfl (by kernel_rfl) hh_ (Or.inl ⟨by rfl,?_⟩) hHeld ?_ ?_;rotate_left
    ·rintro w' ⟨s0,s1⟩;go_simp;with_reducible rfl
    rotate_left
    ·simp only [nm_];rfl
    refine one_ (i:=2) (N:=some 28) #[U,U,U,O,O] rfl rfl (by kernel_rfl) (by decide) (fun K hK=>?_);refine gr Tryz.func102 #[.pointer (some ⟨g150,0,none⟩)] ?_;with_reducible refine(spec_l03DrawP.calls g150 t147 x151001_3 x151002_3 t172 t173 t174 w _ (IsS92.ch HI150.out) (blg HB.out (IsS92.ge HI150.out)) A49.out).mono ?_
    rintro e w51 ⟨rfl,hi,hb,hk⟩;refine⟨_,rfl,?_⟩;replace HO_158001:=Aside0.mk (Kd.R_mono (Kd.R_keep (IsS92.apart (show IsS92 w _ g150 t147 x151001_3 x151002_3 from IsS92.ch HI150.out) (kr HO_158001.out) (by decide)) hk (fun _ h=>h.2)) (fun _ h=>h.1));replace BK146:=Aside0.mk (kbk hk (bk BK146.out) NB146_150.out);replace BK157:=Aside0.mk (kbk hk (bk BK157.out) NB157_150.out);replace HB:=Aside0.mk (hb);replace HI150:=Aside0.mk (hi);(try clear hb)
    (try clear hb2)
    (try clear hk)
    (try clear hi)
    refine hK.out _ _ ⟨(blk_cell BK157.out 0).trans rfl,(blk_cell BK157.out 1).trans rfl⟩ (fun hHeld=>?_);clear hK K;refine nr 28 ?_;refine one_ (i:=3) (N:=none) #[U,U,U,U,O] rfl rfl (by kernel_rfl) (by decide) (fun K hK=>?_);have hs52:w51.cell? ⟨gb146,0,none⟩=some (.int .i64 0):=(blk_cell BK146.out 0).trans rfl;have hfs52:=blk_frozen BK146.out 0;have hns52_1:=NB157_146.out;have hms52_1:=NB146_157.out;have hs53:w51.cell? ⟨gb146,1,none⟩=some (.slice none 0 0):=(blk_cell BK146.out 1).trans rfl;have hfs53:=blk_frozen BK146.out 1;have hns53_1:=NB157_146.out;have hms53_1:=NB146_157.out;refine skip_ (w1:=?_) (by rfl) rfl ?_ ?_;rotate_left
    ·go_simp;rfl
    refine hK.out _ _ ⟨((cell_far (p:=⟨gb146,_,none⟩) NB157_146.out _).trans (((cell_far (p:=⟨gb146,_,none⟩) NB157_146.out _).trans (hHeld.1)))),((cell_far (p:=⟨gb146,_,none⟩) NB157_146.out _).trans (((cell_far (p:=⟨gb146,_,none⟩) NB157_146.out _).trans (hHeld.2))))⟩ (fun hHeld=>?_);clear hK K;refine pure_ (i:=4) (N:=some 3) (v:=?_) (a':=?_) #[U,U,U,U,U] rfl rfl (by kernel_rfl) hh_ (Or.inl ⟨by rfl,?_⟩) ?_ ?_;rotate_left
    ·intro w';go_simp;with_reducible rfl
    rotate_left
    ·simp only [nm_];rfl
    refine done_ (by kernel_rfl) ?_;try go_wp2
    refine bodyPost_ret (results_ct rfl _ _ gb146 26 #[.int .i64 t151,.slice Ao12 t152.length co12] (0,0) _ rfl (bp BK146.out) Tryz.underlying26 rfl (by kernel_rfl)) rfl ?_;exact⟨_,rr,by(with_reducible repeat(first|apply Kd.R_alloc|apply Kd.R_drewN|apply Kd.R_drew));exact Kd.R_mono (Kd.R_far (p:=⟨gb146,1,none⟩) (Kd.R_far (p:=⟨gb146,0,none⟩) (Kd.R_types HO_158001.out BK146.out (by decide)) (fun _ hk=>hk.2) (.int .i64 t151)) (fun _ hk=>hk.2) (.slice Ao12 t152.length co12)) (fun _ hk=>trivial),blg HB.out (IsS92.ge HI150.out)⟩
end Go.Proofs.YtbnnamejnjfkjaaGreat.R
end
