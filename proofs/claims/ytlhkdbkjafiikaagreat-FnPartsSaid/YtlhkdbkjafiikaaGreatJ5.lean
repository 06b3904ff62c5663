/- The row of the law FnParts: for every input the law answers true, and the arguments read as before. No conditions. -/
import Derived.Test.YtlhkdbkjafiikaaGreatJ4
import Derived.Below
import Derived.Deep.Draws
import Derived.Deep.AppendLies
import Derived.Maps.AppendAt
import Derived.OwnWalk
import Derived.Laws.BytesArg
import Derived.Laws.MakeOwn
import Derived.Laws.OwnMore
import Derived.Deep.OwnRows
import Derived.Tactics
import Derived.Lib.ConvBytes
import Derived.Laws.Slices
import Derived.WalkKit
import Derived.KernelRfl
import Derived.RowKit3
import Derived.Deep.LoopGhost
import Derived.Deep.QuietTactic
import Derived.BigQuiet
import Derived.WideLaws
import Derived.Deep.DeepCutAuto
import Derived.Deep.CutBlock
import Derived.Deep.RegionHeld3
import Derived.Laws.Rows
import Derived.Lib.AppendStr
import Derived.ArgAppend
import Derived.Laws.IdiomCopy
import Derived.RowKit
import Derived.OrdersHeld
import Derived.Laws.BitsLemmas
import Derived.Laws.StructEq
import Derived.Test.YtlhkdbkjafiikaaGreatProg
import Derived.Shelf.Abstract
import Derived.RangeFuncBox
import Derived.RangeFuncLeaves
import Derived.OwnWalkIn
import Derived.TacticsInMore
import Derived.LoopNIn
import Derived.LoopIn
import Derived.Lib.SliceRun
import Derived.Test.YtlhkdbkjafiikaaGreatChecked
import Derived.Shelf.SortM.SortNone
import Derived.Shelf.SortM.Plain
import Derived.Lib.SortBridge
import Derived.Lib.RowBridge
import Derived.Lib.Small
import Derived.Deep.CutRange
import Derived.Laws.Bits64b
import Derived.JoinedOf
import Derived.Test.YtlhkdbkjafiikaaGreatRows
import Derived.ProofKit
import Derived.OpenShut
import Derived.ShutString
import Derived.ChangeOld
import Derived.SizedLaws
import Derived.Lib.SmallJoins
section
namespace Go.Proofs.YtlhkdbkjafiikaaGreat.Q
open Go.RowKit Go.Proofs.YtlhkdbkjafiikaaGreatW.PrintWords Go.Proofs.YtlhkdbkjafiikaaGreatW.PrintLast Go.Proofs.YtlhkdbkjafiikaaGreatW.PrintMore
attribute [local go_sem] max2_int min2_int max_two min_two max_three min_three max_four min_four
set_option linter.unusedVariables false
set_option linter.unusedSimpArgs false
def spec_StarOf.l0:Nat→Int→Int→Int→List Int→Int→List Int→Option (Int×List Int×Int)
 |0,_,_,_,_,_,_=>none
 |k+1,x1,x8,x146000,x146001,x152000,x152001=>if x8<(x146001.length:Int) then (if 0≤x8 then ((spec_l01Has.f k x146000 x146001 (Go.bits .or .i64 (rd x146001 x8) x1)).bind fun t153=>(if t153=true then (if x152001.length<17592186044416 then (spec_StarOf.l0 k x1 (wrap64 (x8+1)) x146000 x146001 x152000 (x152001 ++ [rd x146001 x8])) else (none)) else (spec_StarOf.l0 k x1 (wrap64 (x8+1)) x146000 x146001 x152000 x152001))) else (none)) else (some (x152000,x152001,0))
def spec_StarOf.f (k:Nat) (a0_0:Int) (l0_1:List Int) (a1:Int):Option (Int×List Int×Int):=(spec_l01Face.f k a0_0 l0_1 a1).bind fun t147=>(if t147=0 then (spec_StarOf.l0 k a1 0 a0_0 l0_1 a0_0 (([]:List Int))) else (some (0,([]:List Int),t147)))
theorem spec_StarOf.mono_l:∀ k,(∀ y0 y1 y2 y3 y4 y5,LeO (spec_StarOf.l0 k y0 y1 y2 y3 y4 y5) (spec_StarOf.l0 (k+1) y0 y1 y2 y3 y4 y5))
 |0=>fun _ _ _ _ _ _ r h=>by simp [spec_StarOf.l0] at h
 |k+1=>by
  have ih0:=spec_StarOf.mono_l k
  ·intro y0 y1 y2 y3 y4 y5;unfold spec_StarOf.l0;repeat' first
   |(with_reducible first|exact ih0 _ _ _ _ _ _|exact spec_l01Face.mono _ _ _ _|exact spec_l01Has.mono _ _ _ _|exact LeO.refl _|exact LeO.none _|refine LeO.ite ?_ ?_|refine LeO.bind ?_ (fun _=>?_))
theorem spec_StarOf.mono:∀ a0 a1 a2 k,LeO (spec_StarOf.f k a0 a1 a2) (spec_StarOf.f (k+1) a0 a1 a2):=by
 intro a0 a1 a2 k;have ih0:=spec_StarOf.mono_l k;unfold spec_StarOf.f;repeat' first
   |(with_reducible first|exact ih0 _ _ _ _ _ _|exact spec_l01Face.mono _ _ _ _|exact spec_l01Has.mono _ _ _ _|exact LeO.refl _|exact LeO.none _|refine LeO.ite ?_ ?_|refine LeO.bind ?_ (fun _=>?_))
def spec_StarOf.T8:Bool×List (List Nat×List Nat):=(true,[([],[]),([],[]),([1],[1]),([],[]),([2,3],[2,3]),([4],[4]),([],[]),([5,6],[5,6]),([0,7],[0,7])])
def spec_StarOf.B8:List Nat:= [0,0,2,0,14,30,0,126,255]
theorem spec_StarOf.tab8:rtab .any (opsOf Tryz.f10 8)=spec_StarOf.T8:=by kernel_rfl
theorem spec_StarOf.bits8:waitsOk spec_StarOf.T8.2 spec_StarOf.B8=true:=by kernel_rfl
def spec_StarOf.T9:Bool×List (List Nat×List Nat):=(true,[([],[]),([0],[0]),([],[]),([2],[2]),([],[]),([3,4],[3,4]),([5],[5]),([6],[6]),([1,7],[1,7]),([0,1,2,3,4,5,6,7,8],[]),([9,8,8,0,1,2,3,4,5,6,7,8],[8,9])])
def spec_StarOf.B9:List Nat:= [0,1,0,4,0,28,60,124,255,511,1023]
theorem spec_StarOf.tab9:rtab .any (opsOf Tryz.f10 9)=spec_StarOf.T9:=by kernel_rfl
theorem spec_StarOf.bits9:waitsOk spec_StarOf.T9.2 spec_StarOf.B9=true:=by kernel_rfl
set_option maxHeartbeats 8000000 in
set_option maxRecDepth 100000 in
theorem spec_StarOf.calls (k:Nat) (a0_0:Int) (A0_1:Option Addr) (c0_1:Nat) (l0_1:List Int) (a1:Int) (r1:Int) (r2:List Int) (r3:Int) (w:World) (hr0_1:Kd.C (Kd.int .i64) w A0_1 l0_1.length l0_1) (hc0_1:l0_1.length≤c0_1) (h:spec_StarOf.f k a0_0 l0_1 a1=some (r1,r2,r3)) :
  Calls Tryz.prog 10 #[.agg #[.int .i64 a0_0,.slice A0_1 l0_1.length c0_1],.int .i64 a1] w fun e w'=>∃ v1_:Value,e = .returned (.tuple #[.agg #[.int .i64 r1,v1_],.int .i64 r3])∧Kd.R (Kd.int .i64) 2 w' w.heap.size (fun _=>True) v1_ r2∧Below w.heap.size w w':=by
 have hu26:=Tryz.underlying26;have HR0_1:=Aside0.mk hr0_1;have HC0_1:=Aside0.mk hc0_1;clear hr0_1 hc0_1;have HB:=Aside0.mk (Below.refl w.heap.size w);have H:((spec_l01Face.f k a0_0 l0_1 a1).bind fun t147=>(if t147=0 then (spec_StarOf.l0 k a1 0 a0_0 l0_1 a0_0 (([]:List Int))) else (some (0,([]:List Int),t147))))=some (r1,r2,r3):=h;clear h;replace H:=Option.bind_eq_some_iff.mp H;obtain ⟨t147,A30,H⟩:=H;replace H:(if t147=0 then (spec_StarOf.l0 k a1 0 a0_0 l0_1 a0_0 (([]:List Int))) else (some (0,([]:List Int),t147)))=some (r1,r2,r3):=H;have A3:=Aside0.mk A30;clear A30;by_cases c4:t147=0
 ·rw[if_pos c4] at H;have c4b0:(t147 == 0)=true:=beq_iff_eq.mpr c4;have c4b1:(t147 != 0)=false:=bne_eq_false_iff_eq.mpr c4;clear c4;obtain ⟨y148,hy148⟩:∃ y_:List Int,y_=(([]:List Int)):=⟨_,rfl⟩
  replace H:(spec_StarOf.l0 k a1 0 a0_0 l0_1 a0_0 y148)=some (r1,r2,r3):=by first|(rw[hy148];with_reducible exact H)|(have H2_:=(Option.bind_some _ _).symm.trans H;rw[hy148];with_reducible exact H2_)|(have H2_:=(Option.bind_some _ _).symm.trans H;with_reducible exact H2_)|with_reducible exact H|(rw[hy148];exact H)|exact H
  have Ny148:=Aside0.mk hy148;clear hy148;have H':=Aside0.mk H;clear H;go_enter Tryz.func10,Tryz.ntmps10;go_wp2_with (first|((with_reducible refine gate_dst (N:=2) rfl ?_);refine bx 2 #[.int .i64 a0_0,.slice A0_1 l0_1.length c0_1] 26 ?_;intro gb145 hg w5 hbox hb;have BK145:=Aside0.mk (hbox);have GE145:=gzA hg HB;replace HB:=bsA HB hb;clear hb hbox hg)|((with_reducible refine gate_dst (N:=4) rfl ?_);refine bx 4 #[.int .i64 0,.slice none 0 0] 26 ?_;intro gb146 hg w6 hbox hb;have BK146:=Aside0.mk (hbox);have GE146:=gzA hg HB;replace HB:=bsA HB hb;have NB145_146:=nlA hg BK145;have NB146_145:=ngA hg BK145;replace BK145:=bkA BK145 hb;clear hb hbox hg;have hnb7:=NB145_146.out;have hnc7:=NB146_145.out;have hcz8_0:=z0_ BK145;have hcz8_1:=z1_ BK145;have hfz8_0:=hf_ BK145 0;have hfz8_1:=hf_ BK145 1)|((with_reducible refine gate_callee (f:=57) rfl ?_);refine gl (some 11) Tryz.func57 #[.agg #[.int .i64 a0_0,.slice A0_1 l0_1.length c0_1],.int .i64 a1] ?_;(with_reducible refine(spec_l01Face.calls k a0_0 _ _ l0_1 a1 t147 _ (cb (Kd.C_below HR0_1.out HB.out)) HC0_1.out A3.out).mono ?_);rintro e w9 ⟨rfl,hb⟩;refine⟨_,rfl,?_⟩;replace BK145:=bkA BK145 hb;replace BK146:=bkA BK146 hb;replace HB:=bsA HB hb;(try clear hb);(try clear hb2);(try clear hk);(try clear hi);have hcz10_0:=z0_ BK145;have hcz10_1:=z1_ BK145;have hfz10_0:=hf_ BK145 0;have hfz10_1:=hf_ BK145 1)|((with_reducible refine gate_dst (N:=18) rfl ?_);refine Kd.R_lit (Kd.int .i64) _ 2 ?hg (N:=18) ?hd (xs:=([]:List Int)) (inner:= []) (ok:=fun _=>True) (okp:=fun _=>True) ?hr ?hp (fun _ hk=>hk) trivial (Below.refl _ _) (Nat.le_refl _) (by simp) ?_;(case hd=>rfl);(case hg=>rfl);(case hr=>first|(go_simp;done)|(go_simp;rfl));(case hp=>exact(Reps.none _ _));intro v149 w11 ho12 hb hg_ hnew_;clear hg_ hnew_;(first|rw[← Ny148.out] at ho12|(simp only [Int.reduceToNat] at ho12;rw[← Ny148.out] at ho12));have HO150:=klA ho12 HB;replace BK145:=bkA BK145 hb;replace BK146:=bkA BK146 hb;replace HB:=bsA HB hb;clear hb ho12;obtain ⟨Ao13,co13,eo13⟩:=Kd.R_slice HO150.out;subst eo13)|((with_reducible refine gate_dst (N:=7) rfl ?_);refine bx 7 #[.int .i64 0,.slice none 0 0] 26 ?_;intro gb151 hg w14 hbox hb;replace HO150:=krA HO150 hb;have BK151:=Aside0.mk (hbox);have GE151:=gzA hg HB;replace HB:=bsA HB hb;have NB145_151:=nlA hg BK145;have NB151_145:=ngA hg BK145;replace BK145:=bkA BK145 hb;have NB146_151:=nlA hg BK146;have NB151_146:=ngA hg BK146;replace BK146:=bkA BK146 hb;clear hb hbox hg;have hnb15:=NB151_145.out;have hnc15:=NB145_151.out;have hnb16:=NB151_146.out;have hnc16:=NB146_151.out;have hcz17_0:=z0_ BK151;have hcz17_1:=z1_ BK151;have hfz17_0:=hf_ BK151 0;have hfz17_1:=hf_ BK151 1))
  go_loopg [8] k (fun kq v8 w'=>∃(x8_1:Int) (x152001_1:List Int) (u152001:Value),v8 = .int .i64 x8_1∧Aside0 (spec_StarOf.l0 kq a1 x8_1 a0_0 l0_1 a0_0 x152001_1=some (r1,r2,r3))∧Aside0 (kq≤k)∧Aside0 (Kd.R (Kd.int .i64) 2 w' w.heap.size (fun _=>True) u152001 x152001_1)∧Aside0 (w'.heap[gb145]?=some (.cells #[.int .i64 a0_0,(.slice A0_1 l0_1.length c0_1)] 26 (0,0)))∧Aside0 (w'.heap[gb146]?=some (.cells #[.int .i64 0,(.slice none 0 0)] 26 (0,0)))∧Aside0 (w'.heap[gb151]?=some (.cells #[.int .i64 a0_0,u152001] 26 (0,0)))∧Aside0 (Below w.heap.size w w'))
  case atStart=>exact⟨(0),(y148),(.slice Ao13 y148.length co13),rs,H',⟨Nat.le_refl _⟩,⟨by(with_reducible repeat(first|apply Kd.R_alloc|apply Kd.R_drewN|apply Kd.R_drew));exact Kd.R_mono (Kd.R_far (p:=⟨gb151,1,none⟩) (Kd.R_far (p:=⟨gb151,0,none⟩) (Kd.R_types HO150.out BK151.out (by decide)) (fun _ hk=>hk.2) (.int .i64 a0_0)) (fun _ hk=>hk.2) (.slice Ao13 y148.length co13)) (fun _ hk=>trivial)⟩,⟨bp BK145.out⟩,⟨bp BK146.out⟩,⟨bp BK151.out⟩,⟨bl HB.out⟩⟩
  case round=>
   clear H';try clear c1
   try clear p2
   try clear c4
   try clear c4b0
   try clear c4b1
   try clear c5
   try clear c7
   try clear c10
   try clear c15
   try clear c16
   try clear hcz10_0
   try clear hcz10_1
   try clear hcz17_0
   try clear hcz17_1
   try clear hcz8_0
   try clear hcz8_1
   try clear hfz10_0
   try clear hfz10_1
   try clear hfz17_0
   try clear hfz17_1
   try clear hfz8_0
   try clear hfz8_1
   obtain ⟨x8_1,x152001_1,u152001,rfl,HA,HK1,HO_152001,BK145,BK146,BK151,HB⟩:=hrel;cases gk with
   |zero=>exact absurd HA.out (by simp [spec_StarOf.l0])
   |succ k1=>
    have H:=HA.out;clear HA;simp only [spec_StarOf.l0] at H;by_cases c18:x8_1<(l0_1.length:Int)
    ·rw[if_pos c18] at H;have c18b0:decide (x8_1<(l0_1.length:Int))=true:=decide_eq_true c18;clear c18;by_cases c19:0≤x8_1
     ·rw[if_pos c19] at H;have c19b0:decide (0≤x8_1)=true:=decide_eq_true c19;clear c19;replace H:=Option.bind_eq_some_iff.mp H;obtain ⟨t153,A200,H⟩:=H;replace H:(if t153=true then (if x152001_1.length<17592186044416 then (spec_StarOf.l0 k1 a1 (wrap64 (x8_1+1)) a0_0 l0_1 a0_0 (x152001_1 ++ [rd l0_1 x8_1])) else (none)) else (spec_StarOf.l0 k1 a1 (wrap64 (x8_1+1)) a0_0 l0_1 a0_0 x152001_1))=some (r1,r2,r3):=H;have A20:=Aside0.mk A200;clear A200;by_cases c21:t153=true
      ·subst c21;have H1:(if x152001_1.length<17592186044416 then (spec_StarOf.l0 k1 a1 (wrap64 (x8_1+1)) a0_0 l0_1 a0_0 (x152001_1 ++ [rd l0_1 x8_1])) else (none))=some (r1,r2,r3):=by rw[if_pos rfl] at H;exact H
       clear H;have H:=H1;clear H1;by_cases c22:x152001_1.length<17592186044416
       ·rw[if_pos c22] at H;have LMc22:=Aside0.mk c22;clear c22;obtain ⟨y155,hy155⟩:∃ y_:List Int,y_=(x152001_1 ++ [rd l0_1 x8_1]):=⟨_,rfl⟩
        replace H:(spec_StarOf.l0 k1 a1 (wrap64 (x8_1+1)) a0_0 l0_1 a0_0 y155)=some (r1,r2,r3):=by first|(rw[hy155];with_reducible exact H)|(have H2_:=(Option.bind_some _ _).symm.trans H;rw[hy155];with_reducible exact H2_)|(have H2_:=(Option.bind_some _ _).symm.trans H;with_reducible exact H2_)|with_reducible exact H|(rw[hy155];exact H)|exact H
        have Ny155:=Aside0.mk hy155;clear hy155;have H':=Aside0.mk H;clear H;have hnb23:=NB145_146.out;have hnc23:=NB146_145.out;have hnb24:=NB145_151.out;have hnc24:=NB151_145.out;have hcz25_0:=z0_ BK145;have hcz25_1:=z1_ BK145;have hfz25_0:=hf_ BK145 0;have hfz25_1:=hf_ BK145 1;try go_wp2
        replace HO_152001:=Aside0.mk (Kd.R_drew HO_152001.out);replace BK145:=Aside0.mk (blk_drew BK145.out);replace BK146:=Aside0.mk (blk_drew BK146.out);replace BK151:=Aside0.mk (blk_drew BK151.out);replace HB:=Aside0.mk (below_drew1 HB.out);have p152:0≤(x8_1:Int):=dd;have q152:x8_1<(l0_1.length:Int):=dd;obtain ⟨ad152,e152,hx152_0⟩:=Kd.at_int HR0_1.out x8_1 p152 q152;have hw152_0:=hx152_0;cases e152;replace hx152_0:=hx_ HB hx152_0;replace p152:=eq_true p152;replace q152:=eq_true q152;refine start_ (n:=9) (S:=fun w'=>w'.cell? ⟨gb145,0,none⟩=some (.int .i64 a0_0)∧w'.cell? ⟨gb145,1,none⟩=some (.slice (some ad152) l0_1.length c0_1)∧w'.cell? (ad152.add (x8_1).toNat)=some (.int .i64 (rd l0_1 x8_1))) (ds:= []) (ar 0 9) (by kernel_rfl) rfl rfl ⟨(blk_cell BK145.out 0).trans rfl,(blk_cell BK145.out 1).trans rfl,hx_ HB hw152_0⟩ (fun hHeld=>?_);refine with_tabW spec_StarOf.tab8 spec_StarOf.bits8 (fun HT_ HW_=>?_);generalize wr.drew=w26 at HO_152001 BK145 BK146 BK151 HB hx152_0 hHeld ⊢;refine pu 1 (some 28) #[O,U,O,O,O,O,O,O,O] HT_ ?_;refine pu 3 (some 30) #[O,U,O,U,O,O,O,O,O] HT_ ?_;refine pu 6 (some 33) #[O,U,O,U,O,O,U,O,O] HT_ ?_;refine tk 0 (some 27) #[U,U,O,U,O,O,U,O,O] HT_ HW_ hHeld ?_;refine tk 2 (some 29) #[U,U,U,U,O,O,U,O,O] HT_ HW_ hHeld ?_;refine pu 4 (some 31) #[U,U,U,U,U,O,U,O,O] HT_ ?_;refine tk 5 (some 32) (ar 7 2) HT_ HW_ hHeld ?_;refine pu 7 (some 34) (ar 8 1) HT_ ?_;refine on_ 8 (some 35) (ar 9 0) HT_ fun K hK=>?_;refine gr Tryz.func61 #[.agg #[.int .i64 a0_0,.slice (some ad152) l0_1.length c0_1],.int .i64 (Go.bits .or .i64 (rd l0_1 x8_1) a1)] ?_;with_reducible refine(spec_l01Has.calls k1 a0_0 _ _ l0_1 (Go.bits .or .i64 (rd l0_1 x8_1) a1) true _ (cb (Kd.C_below HR0_1.out HB.out)) HC0_1.out A20.out).mono ?_
        rintro e w27 ⟨rfl,hb⟩;refine⟨_,rfl,?_⟩;replace HO_152001:=krA HO_152001 hb;replace BK145:=bkA BK145 hb;replace BK146:=bkA BK146 hb;replace BK151:=bkA BK151 hb;replace HB:=bsA HB hb;(try clear hb)
        (try clear hb2)
        (try clear hk)
        (try clear hi)
        refine hK.out _ _ ⟨(blk_cell BK145.out 0).trans rfl,(blk_cell BK145.out 1).trans rfl,hx_ HB hw152_0⟩ (fun hHeld=>?_);clear hK K;refine nr 35 ?_;refine done_ (done_of HT_.out (by kernel_rfl)) ?_;try go_wp2
        replace HO_152001:=Aside0.mk (Kd.R_drew HO_152001.out);replace BK145:=Aside0.mk (blk_drew BK145.out);replace BK146:=Aside0.mk (blk_drew BK146.out);replace BK151:=Aside0.mk (blk_drew BK151.out);replace HB:=Aside0.mk (below_drew1 HB.out);have p154:0≤(x8_1:Int):=dd;have q154:x8_1<(l0_1.length:Int):=dd;obtain ⟨ad154,e154,hx154_0⟩:=Kd.at_int HR0_1.out x8_1 p154 q154;have hw154_0:=hx154_0;obtain rfl:ad152=ad154:=(by injection e154)
        replace hx154_0:=hx_ HB hx154_0;replace p154:=eq_true p154;replace q154:=eq_true q154;refine start_ (n:=11) (S:=fun w'=>w'.cell? ⟨gb151,0,none⟩=some (.int .i64 a0_0)∧w'.cell? ⟨gb151,1,none⟩=some (u152001)∧w'.cell? ⟨gb145,0,none⟩=some (.int .i64 a0_0)∧w'.cell? ⟨gb145,1,none⟩=some (.slice (some ad152) l0_1.length c0_1)∧w'.cell? (ad152.add (x8_1).toNat)=some (.int .i64 (rd l0_1 x8_1))) (ds:= [10]) (ar 0 11) (by kernel_rfl) rfl rfl ⟨(blk_cell BK151.out 0).trans rfl,(blk_cell BK151.out 1).trans rfl,(blk_cell BK145.out 0).trans rfl,(blk_cell BK145.out 1).trans rfl,hx_ HB hw154_0⟩ (fun hHeld=>?_);refine with_tabW spec_StarOf.tab9 spec_StarOf.bits9 (fun HT_ HW_=>?_);generalize w27.drew=w28 at HO_152001 BK145 BK146 BK151 HB hx154_0 hHeld ⊢;refine pu 0 (some 36) (ar 1 10) HT_ ?_;refine pu 2 (some 38) #[U,O,U,O,O,O,O,O,O,O,O] HT_ ?_;refine pu 4 (some 40) #[U,O,U,O,U,O,O,O,O,O,O] HT_ ?_;refine tk 1 (some 37) #[U,U,U,O,U,O,O,O,O,O,O] HT_ HW_ hHeld ?_;refine tk 3 (some 39) (ar 5 6) HT_ HW_ hHeld ?_;refine pu 5 (some 41) (ar 6 5) HT_ ?_;refine tk 6 (some 42) (ar 7 4) HT_ HW_ hHeld ?_;refine on_ 7 (some 43) (ar 8 3) HT_ fun K hK=>?_;refine value_ (w1:=?_) (v:=?_) (by rfl) rfl ?_ ?_;rotate_left 2
        ·go_simp;constructor
         ·rfl
         ·rfl
        refine hK.out _ _ ⟨(blk_cell (blk_alloc BK151.out _) 0).trans rfl,(blk_cell (blk_alloc BK151.out _) 1).trans rfl,(blk_cell (blk_alloc BK145.out _) 0).trans rfl,(blk_cell (blk_alloc BK145.out _) 1).trans rfl,(World.cell?_alloc_lt _ _ _ (World.block_lt_of_cell? _ _ ((hx_ HB hw154_0)))).trans ((hx_ HB hw154_0))⟩ (fun hHeld=>?_);clear hK K;refine nr 43 ?_;refine on_ 8 (some 44) (ar 9 2) HT_ fun K hK=>?_;refine Kd.R_append_step (Kd.int .i64) (w0:=w) w.heap.size (by rfl) (.tmp 37) (.tmp 43) 24 2 (.int .i64 0) 8 rfl Tryz.underlying24 info2 rfl (by decide) (by omega) u152001 x152001_1 (rd l0_1 x8_1) [.int .i64 (rd l0_1 x8_1)] (fun _=>True) (fun _=>False) rfl rfl ?aP (fun _ hk=>hk.elim) ?aF ?aO ?aB ?aS ?aL ?_;(case aP=>exact rfl)
        (case aB=>exact(bl HB.out))
        (case aF=>exact(fun _ _=>trivial))
        (case aO=>exact(kr HO_152001.out))
        (case aS=>exact(below_size (bl HB.out)))
        (case aL=>have:=LMc22.out;omega)
        intro v156 w29 ho hb hg hat;rw[← Ny155.out] at ho;have n0_:=Aside0.mk (blk_grown (bk BK145.out) hg (Kd.R_ne HO_152001.out BK145.out (by decide)));have n1_:=Aside0.mk (blk_grown (bk BK146.out) hg (Kd.R_ne HO_152001.out BK146.out (by decide)));have n2_:=Aside0.mk (blk_grown (bk BK151.out) hg (Kd.R_ne HO_152001.out BK151.out (by decide)));have n3_:=Aside0.mk (hb);have n4_:=Aside0.mk (ho);clear BK145;clear BK146;clear BK151;clear HB;clear HO_152001;have BK145:=n0_;have BK146:=n1_;have BK151:=n2_;have HB:=n3_;have HO157:=n4_;clear n0_ n1_ n2_ n3_ n4_;clear ho hb hg hat;obtain ⟨Ao30,co30,eo30⟩:=Kd.R_slice HO157.out;(first|subst eo30|(injection eo30 with f1_ f2_ f3_;have f4_:=f1_.symm;have f5_:=f3_.symm;clear f1_ f2_ f3_;subst f4_;subst f5_))
        refine hK.out _ _ ⟨(blk_cell BK151.out 0).trans rfl,(blk_cell BK151.out 1).trans rfl,(blk_cell BK145.out 0).trans rfl,(blk_cell BK145.out 1).trans rfl,hx_ HB hw154_0⟩ (fun hHeld=>?_);clear hK K;refine nr 44 ?_;refine pu 9 (some 45) (ar 10 1) HT_ ?_;refine last_ (i:=10) (N:=none) (ar 11 0) rfl rfl (one_of HT_.out (by kernel_rfl)) (by decide) (fun K hK=>?_);have hs31:w29.cell? ⟨gb151,1,none⟩=some (u152001):=(blk_cell BK151.out 1).trans rfl;have hfs31:=blk_frozen BK151.out 1;have hns31_0:=NB145_151.out;have hns31_1:=NB146_151.out;have hms31_0:=NB151_145.out;have hms31_1:=NB151_146.out;refine skip_ (w1:=?_) (by rfl) rfl ?_ ?_;rotate_left
        ·go_simp;rfl
        refine hK.out _ _ ?_;clear hK K;refine done_ (done_of HT_.out (by kernel_rfl)) ?_;try go_wp2
        go_roundg k1
        case measure=>have:=HK1.out;omega
        case rel=>exact⟨(wrap64 (x8_1+1)),(y155),(.slice Ao30 y155.length co30),rs,H',⟨by have:=HK1.out;omega⟩,⟨by(with_reducible repeat(first|apply Kd.R_alloc|apply Kd.R_drewN|apply Kd.R_drew));exact Kd.R_mono (Kd.R_far (p:=⟨gb151,1,none⟩) (Kd.R_types HO157.out BK151.out (by decide)) (fun _ hk=>hk.2) (.slice Ao30 y155.length co30)) (fun _ hk=>trivial)⟩,⟨bp BK145.out⟩,⟨bp BK146.out⟩,⟨bp BK151.out⟩,⟨bl HB.out⟩⟩
       ·rw[if_neg c22] at H;exact absurd H (by simp)
      ·replace c21:=Bool.eq_false_iff.mpr c21;subst c21;have H1:(spec_StarOf.l0 k1 a1 (wrap64 (x8_1+1)) a0_0 l0_1 a0_0 x152001_1)=some (r1,r2,r3):=by rw[if_neg (show ¬ (false=true) by decide)] at H;exact H
       clear H;have H:=H1;clear H1;have H':=Aside0.mk H;clear H;have hnb32:=NB145_146.out;have hnc32:=NB146_145.out;have hnb33:=NB145_151.out;have hnc33:=NB151_145.out;have hcz34_0:=z0_ BK145;have hcz34_1:=z1_ BK145;have hfz34_0:=hf_ BK145 0;have hfz34_1:=hf_ BK145 1;try go_wp2
       replace HO_152001:=Aside0.mk (Kd.R_drew HO_152001.out);replace BK145:=Aside0.mk (blk_drew BK145.out);replace BK146:=Aside0.mk (blk_drew BK146.out);replace BK151:=Aside0.mk (blk_drew BK151.out);replace HB:=Aside0.mk (below_drew1 HB.out);have p152:0≤(x8_1:Int):=dd;have q152:x8_1<(l0_1.length:Int):=dd;obtain ⟨ad152,e152,hx152_0⟩:=Kd.at_int HR0_1.out x8_1 p152 q152;have hw152_0:=hx152_0;cases e152;replace hx152_0:=hx_ HB hx152_0;replace p152:=eq_true p152;replace q152:=eq_true q152;refine start_ (n:=9) (S:=fun w'=>w'.cell? ⟨gb145,0,none⟩=some (.int .i64 a0_0)∧w'.cell? ⟨gb145,1,none⟩=some (.slice (some ad152) l0_1.length c0_1)∧w'.cell? (ad152.add (x8_1).toNat)=some (.int .i64 (rd l0_1 x8_1))) (ds:= []) (ar 0 9) (by kernel_rfl) rfl rfl ⟨(blk_cell BK145.out 0).trans rfl,(blk_cell BK145.out 1).trans rfl,hx_ HB hw152_0⟩ (fun hHeld=>?_);refine with_tabW spec_StarOf.tab8 spec_StarOf.bits8 (fun HT_ HW_=>?_);generalize wr.drew=w35 at HO_152001 BK145 BK146 BK151 HB hx152_0 hHeld ⊢;refine pu 1 (some 28) #[O,U,O,O,O,O,O,O,O] HT_ ?_;refine pu 3 (some 30) #[O,U,O,U,O,O,O,O,O] HT_ ?_;refine pu 6 (some 33) #[O,U,O,U,O,O,U,O,O] HT_ ?_;refine tk 0 (some 27) #[U,U,O,U,O,O,U,O,O] HT_ HW_ hHeld ?_;refine tk 2 (some 29) #[U,U,U,U,O,O,U,O,O] HT_ HW_ hHeld ?_;refine pu 4 (some 31) #[U,U,U,U,U,O,U,O,O] HT_ ?_;refine tk 5 (some 32) (ar 7 2) HT_ HW_ hHeld ?_;refine pu 7 (some 34) (ar 8 1) HT_ ?_;refine on_ 8 (some 35) (ar 9 0) HT_ fun K hK=>?_;refine gr Tryz.func61 #[.agg #[.int .i64 a0_0,.slice (some ad152) l0_1.length c0_1],.int .i64 (Go.bits .or .i64 (rd l0_1 x8_1) a1)] ?_;with_reducible refine(spec_l01Has.calls k1 a0_0 _ _ l0_1 (Go.bits .or .i64 (rd l0_1 x8_1) a1) false _ (cb (Kd.C_below HR0_1.out HB.out)) HC0_1.out A20.out).mono ?_
       rintro e w36 ⟨rfl,hb⟩;refine⟨_,rfl,?_⟩;replace HO_152001:=krA HO_152001 hb;replace BK145:=bkA BK145 hb;replace BK146:=bkA BK146 hb;replace BK151:=bkA BK151 hb;replace HB:=bsA HB hb;(try clear hb)
       (try clear hb2)
       (try clear hk)
       (try clear hi)
       refine hK.out _ _ ⟨(blk_cell BK145.out 0).trans rfl,(blk_cell BK145.out 1).trans rfl,hx_ HB hw152_0⟩ (fun hHeld=>?_);clear hK K;refine nr 35 ?_;refine done_ (done_of HT_.out (by kernel_rfl)) ?_;try go_wp2
       go_roundg k1
       case measure=>have:=HK1.out;omega
       case rel=>exact⟨(wrap64 (x8_1+1)),(x152001_1),(u152001),rs,H',⟨by have:=HK1.out;omega⟩,⟨kr HO_152001.out⟩,⟨bk BK145.out⟩,⟨bk BK146.out⟩,⟨bk BK151.out⟩,⟨bl HB.out⟩⟩
     ·rw[if_neg c19] at H;exact absurd H (by simp)
    ·rw[if_neg c18] at H;have c18b0:decide (x8_1<(l0_1.length:Int))=false:=decide_eq_false c18;clear c18;simp only [Option.some.injEq,Prod.mk.injEq] at H;obtain ⟨rfl,rfl,rfl⟩:=H;have hnb37:=NB145_146.out;have hnc37:=NB146_145.out;have hnb38:=NB145_151.out;have hnc38:=NB151_145.out;have hcz39_0:=z0_ BK145;have hcz39_1:=z1_ BK145;have hfz39_0:=hf_ BK145 0;have hfz39_1:=hf_ BK145 1;have hnb40:=NB151_146.out;have hnc40:=NB146_151.out;have hcz41_0:=z0_ BK151;have hcz41_1:=z1_ BK151;have hfz41_0:=hf_ BK151 0;have hfz41_1:=hf_ BK151 1;have hcz42_0:=z0_ BK146;have hcz42_1:=z1_ BK146;have hfz42_0:=hf_ BK146 0;have hfz42_1:=hf_ BK146 1;obtain ⟨Ao43,co43,eo43⟩:=Kd.R_slice HO_152001.out;subst eo43;go_wp2
     refine bodyPost_ret (results_ct rfl _ _ gb146 26 #[.int .i64 a0_0,.slice Ao43 x152001_1.length co43] (0,0) _ rfl (bp BK146.out) Tryz.underlying26 rfl (by kernel_rfl)) rfl ?_;exact⟨_,rr,by(with_reducible repeat(first|apply Kd.R_alloc|apply Kd.R_drewN|apply Kd.R_drew));exact Kd.R_mono (Kd.R_far (p:=⟨gb146,1,none⟩) (Kd.R_far (p:=⟨gb146,0,none⟩) (Kd.R_types HO_152001.out BK146.out (by decide)) (fun _ hk=>hk.2) (.int .i64 a0_0)) (fun _ hk=>hk.2) (.slice Ao43 x152001_1.length co43)) (fun _ hk=>trivial),bl HB.out⟩
 ·rw[if_neg c4] at H;have c4b0:(t147 == 0)=false:=beq_eq_false_iff_ne.mpr c4;have c4b1:(t147 != 0)=true:=bne_iff_ne.mpr c4;simp only [Option.some.injEq,Prod.mk.injEq] at H;obtain ⟨rfl,rfl,rfl⟩:=H;go_enter Tryz.func10,Tryz.ntmps10;go_wp2_with (first|((with_reducible refine gate_dst (N:=2) rfl ?_);refine bx 2 #[.int .i64 a0_0,.slice A0_1 l0_1.length c0_1] 26 ?_;intro gb145 hg w44 hbox hb;have BK145:=Aside0.mk (hbox);have GE145:=gzA hg HB;replace HB:=bsA HB hb;clear hb hbox hg)|((with_reducible refine gate_dst (N:=4) rfl ?_);refine bx 4 #[.int .i64 0,.slice none 0 0] 26 ?_;intro gb146 hg w45 hbox hb;have BK146:=Aside0.mk (hbox);have GE146:=gzA hg HB;replace HB:=bsA HB hb;have NB145_146:=nlA hg BK145;have NB146_145:=ngA hg BK145;replace BK145:=bkA BK145 hb;clear hb hbox hg;have hnb46:=NB145_146.out;have hnc46:=NB146_145.out;have hcz47_0:=z0_ BK145;have hcz47_1:=z1_ BK145;have hfz47_0:=hf_ BK145 0;have hfz47_1:=hf_ BK145 1)|((with_reducible refine gate_callee (f:=57) rfl ?_);refine gl (some 11) Tryz.func57 #[.agg #[.int .i64 a0_0,.slice A0_1 l0_1.length c0_1],.int .i64 a1] ?_;(with_reducible refine(spec_l01Face.calls k a0_0 _ _ l0_1 a1 t147 _ (cb (Kd.C_below HR0_1.out HB.out)) HC0_1.out A3.out).mono ?_);rintro e w48 ⟨rfl,hb⟩;refine⟨_,rfl,?_⟩;replace BK145:=bkA BK145 hb;replace BK146:=bkA BK146 hb;replace HB:=bsA HB hb;(try clear hb);(try clear hb2);(try clear hk);(try clear hi);have hcz49_0:=z0_ BK146;have hcz49_1:=z1_ BK146;have hfz49_0:=hf_ BK146 0;have hfz49_1:=hf_ BK146 1))
  refine bodyPost_ret (results_ct rfl _ _ gb146 26 #[.int .i64 0,.slice none 0 0] (0,0) _ rfl (bp BK146.out) Tryz.underlying26 rfl (by kernel_rfl)) rfl ?_;exact⟨_,rr,by first|exact Kd.R_nil _ _ _ _ _|exact Kd.N_nil _ _ _ _ _|exact Kd.V_nil _ _ _ _ _|exact Kd.Q_nil _ _ _ _ _|exact Kd.S_nil _ _ _ _ _,bl HB.out⟩
end Go.Proofs.YtlhkdbkjafiikaaGreat.Q
end

section
namespace Go.Proofs.YtlhkdbkjafiikaaGreat.K
open Go.RowKit Go.Shelf Go.Proofs.YtlhkdbkjafiikaaGreat.Q Go.Proofs.YtlhkdbkjafiikaaGreatW.PrintWords Go.Proofs.YtlhkdbkjafiikaaGreatW.PrintLast Go.Proofs.YtlhkdbkjafiikaaGreatW.PrintMore
set_option linter.unusedVariables false
set_option linter.unusedSimpArgs false
theorem specStar_loop (n f m:Int) (l:List Int) (hl:l.length≤2097152):∀(d i k:Nat) (acc:List Int),l.length - i=d→i≤l.length→d+l.length+1<k→acc.length≤i →
  spec_StarOf.l0 k f (i:Int) n l m acc=some (m,acc ++ (l.drop i).filter (fun x=>decide (Go.bits .or .i64 x f ∈ l)),0):=by
 intro d
 induction d with
 |zero=>
  intro i k acc hd hi hk ha
  obtain ⟨k,rfl⟩:∃ m,k=m+1:=⟨k - 1,by omega⟩
  obtain rfl:i=l.length:=by omega
  simp only [spec_StarOf.l0]
  rw[if_neg (by omega)]
  simp
 |succ d ih=>
  intro i k acc hd hi hk ha
  obtain ⟨k,rfl⟩:∃ m,k=m+1:=⟨k - 1,by omega⟩
  simp only [spec_StarOf.l0]
  have hil:i<l.length:=by omega
  have hin:=fun acc' (h:acc'.length≤i+1)=>ih (i+1) k acc' (by omega) (by omega) (by omega) h
  rw[if_pos (by omega),if_pos (by omega),rd_nat l i hil,w64 _ (by omega) (by omega),nat_succ,List.drop_eq_getElem_cons hil,List.filter_cons]
  rw[specHas_is n _ l (by omega) k (by omega)]
  simp only [Option.bind_some]
  by_cases h:Go.bits .or .i64 l[i] f ∈ l
  ·simp only [h,decide_true,if_true]
   rw[if_pos (show acc.length<17592186044416 by omega),hin _ (by simp;omega),List.append_assoc]
   rfl
  ·simp only [h,decide_false,Bool.false_eq_true,if_false]
   exact hin _ (by omega)
theorem specStarOf_is (n f:Int) (l:List Int) (hl:l.length≤2097152) (k:Nat) (hk:isK l+2≤k):spec_StarOf.f k n l f=some (partOf n l (StarOf_b n l f) (StarOf_p l f)):=by
 have hk2:l.length+l.length+1<k:=by unfold isK at hk;omega
 unfold spec_StarOf.f
 rw[specFace_is n l f hl k (by omega)]
 simp only [Option.bind_some]
 have hb:StarOf_b n l f=hasB l f:=rfl
 cases hi:isC n l with
 |false=>
  have hc:∀ b,codeOf n l b=1:=fun b=>by simp [codeOf,hi]
  unfold partOf
  rw[hc,hc]
  rfl
 |true=>
  obtain ⟨hn,hs,hr,h63⟩:=isC_faces hi
  rw[hb,has_asc l f (by omega) hs]
  by_cases hf:f ∈ l
  ·have hfr:=hr f hf
   have hc:codeOf n l true=0:=by simp [codeOf,hi]
   have e1:decide (f ∈ l)=true:=decide_eq_true hf
   rw[e1,hc,if_pos rfl,part_filter hi]
   have:=specStar_loop n f n l hl l.length 0 k [] (by omega) (by omega) (by omega) (by simp)
   rw[show ((0:Nat):Int)=0 from rfl,List.nil_append,List.drop_zero] at this
   have e2:l.filter (fun x=>decide (Go.bits .or .i64 x f ∈ l))=l.filter (StarOf_p l f):=by
    refine List.filter_congr fun x hx=>?_
    have hxr:=hr x hx
    show _=hasB l (Go.bits .or .i64 f x)
    rw[has_asc l _ (by omega) hs,or_comm' x f (by omega) (by omega)]
   rw[e2] at this
   exact this
  ·have e1:decide (f ∈ l)=false:=decide_eq_false hf
   have hc:codeOf n l false=2:=by simp [codeOf,hi]
   unfold partOf
   rw[e1,hc]
   rfl
end Go.Proofs.YtlhkdbkjafiikaaGreat.K
end

section
namespace Go.Proofs.YtlhkdbkjafiikaaGreat.Q
open Go.RowKit Go.Proofs.YtlhkdbkjafiikaaGreatW.PrintWords Go.Proofs.YtlhkdbkjafiikaaGreatW.PrintLast Go.Proofs.YtlhkdbkjafiikaaGreatW.PrintMore
attribute [local go_sem] max2_int min2_int max_two min_two max_three min_three max_four min_four
set_option linter.unusedVariables false
set_option linter.unusedSimpArgs false
def spec_l01Link.l0:Nat→Int→Int→Int→List Int→Int→List Int→Option (Int×List Int)
 |0,_,_,_,_,_,_=>none
 |k+1,x1,x6,x126000,x126001,x131000,x131001=>if x6<(x126001.length:Int) then (if 0≤x6 then (if (Go.bits .and .i64 (rd x126001 x6) x1)=0 then ((spec_l01Has.f k x126000 x126001 (Go.bits .or .i64 (rd x126001 x6) x1)).bind fun t133=>(if t133=true then (if x131001.length<17592186044416 then (spec_l01Link.l0 k x1 (wrap64 (x6+1)) x126000 x126001 x131000 (x131001 ++ [rd x126001 x6])) else (none)) else (spec_l01Link.l0 k x1 (wrap64 (x6+1)) x126000 x126001 x131000 x131001))) else (spec_l01Link.l0 k x1 (wrap64 (x6+1)) x126000 x126001 x131000 x131001)) else (none)) else (some (x131000,x131001))
def spec_l01Link.f (k:Nat) (a0_0:Int) (l0_1:List Int) (a1:Int):Option (Int×List Int):=spec_l01Link.l0 k a1 0 a0_0 l0_1 a0_0 (([]:List Int))
theorem spec_l01Link.mono_l:∀ k,(∀ y0 y1 y2 y3 y4 y5,LeO (spec_l01Link.l0 k y0 y1 y2 y3 y4 y5) (spec_l01Link.l0 (k+1) y0 y1 y2 y3 y4 y5))
 |0=>fun _ _ _ _ _ _ r h=>by simp [spec_l01Link.l0] at h
 |k+1=>by
  have ih0:=spec_l01Link.mono_l k
  ·intro y0 y1 y2 y3 y4 y5;unfold spec_l01Link.l0;repeat' first
   |(with_reducible first|exact ih0 _ _ _ _ _ _|exact spec_l01Has.mono _ _ _ _|exact LeO.refl _|exact LeO.none _|refine LeO.ite ?_ ?_|refine LeO.bind ?_ (fun _=>?_))
theorem spec_l01Link.mono:∀ a0 a1 a2 k,LeO (spec_l01Link.f k a0 a1 a2) (spec_l01Link.f (k+1) a0 a1 a2):=by
 intro a0 a1 a2 k;have ih0:=spec_l01Link.mono_l k;unfold spec_l01Link.f;repeat' first
   |(with_reducible first|exact ih0 _ _ _ _ _ _|exact spec_l01Has.mono _ _ _ _|exact LeO.refl _|exact LeO.none _|refine LeO.ite ?_ ?_|refine LeO.bind ?_ (fun _=>?_))
def spec_l01Link.T5:Bool×List (List Nat×List Nat):=(true,[([],[]),([0],[0]),([],[]),([1,2],[1,2]),([3],[3]),([],[]),([4,5],[4,5]),([6],[6]),([7],[7]),([8],[8]),([8],[8]),([10,8],[8,10]),([8],[8]),([11,12,8],[8,11,12]),([13,8],[8,13]),([8],[8]),([14,15,8],[8,14,15]),([9,16,8,8],[8,9,16]),([8,17],[8,17])])
def spec_l01Link.B5:List Nat:= [0,1,0,7,15,0,63,127,255,511,511,1535,511,7679,15871,511,65023,131071,262143]
theorem spec_l01Link.tab5:rtab .any (opsOf Tryz.f58 5)=spec_l01Link.T5:=by kernel_rfl
theorem spec_l01Link.bits5:waitsOk spec_l01Link.T5.2 spec_l01Link.B5=true:=by kernel_rfl
def spec_l01Link.T6:Bool×List (List Nat×List Nat):=(true,[([],[]),([0],[0]),([],[]),([2],[2]),([],[]),([3,4],[3,4]),([5],[5]),([6],[6]),([1,7],[1,7]),([0,1,2,3,4,5,6,7,8],[]),([9,8,8,0,1,2,3,4,5,6,7,8],[8,9])])
def spec_l01Link.B6:List Nat:= [0,1,0,4,0,28,60,124,255,511,1023]
theorem spec_l01Link.tab6:rtab .any (opsOf Tryz.f58 6)=spec_l01Link.T6:=by kernel_rfl
theorem spec_l01Link.bits6:waitsOk spec_l01Link.T6.2 spec_l01Link.B6=true:=by kernel_rfl
set_option maxHeartbeats 8000000 in
set_option maxRecDepth 100000 in
theorem spec_l01Link.calls (k:Nat) (a0_0:Int) (A0_1:Option Addr) (c0_1:Nat) (l0_1:List Int) (a1:Int) (r1:Int) (r2:List Int) (w:World) (hr0_1:Kd.C (Kd.int .i64) w A0_1 l0_1.length l0_1) (hc0_1:l0_1.length≤c0_1) (h:spec_l01Link.f k a0_0 l0_1 a1=some (r1,r2)) :
  Calls Tryz.prog 58 #[.agg #[.int .i64 a0_0,.slice A0_1 l0_1.length c0_1],.int .i64 a1] w fun e w'=>∃ v1_:Value,e = .returned (.agg #[.int .i64 r1,v1_])∧Kd.R (Kd.int .i64) 2 w' w.heap.size (fun _=>True) v1_ r2∧Below w.heap.size w w':=by
 have hu26:=Tryz.underlying26;have HR0_1:=Aside0.mk hr0_1;have HC0_1:=Aside0.mk hc0_1;clear hr0_1 hc0_1;have HB:=Aside0.mk (Below.refl w.heap.size w);have H:(spec_l01Link.l0 k a1 0 a0_0 l0_1 a0_0 (([]:List Int)))=some (r1,r2):=h;clear h;obtain ⟨y127,hy127⟩:∃ y_:List Int,y_=(([]:List Int)):=⟨_,rfl⟩
 replace H:(spec_l01Link.l0 k a1 0 a0_0 l0_1 a0_0 y127)=some (r1,r2):=by first|(rw[hy127];with_reducible exact H)|(have H2_:=(Option.bind_some _ _).symm.trans H;rw[hy127];with_reducible exact H2_)|(have H2_:=(Option.bind_some _ _).symm.trans H;with_reducible exact H2_)|with_reducible exact H|(rw[hy127];exact H)|exact H
 have Ny127:=Aside0.mk hy127;clear hy127;have H':=Aside0.mk H;clear H;go_enter Tryz.func58,Tryz.ntmps58;go_wp2_with (first|((with_reducible refine gate_dst (N:=2) rfl ?_);refine bx 2 #[.int .i64 a0_0,.slice A0_1 l0_1.length c0_1] 26 ?_;intro gb125 hg w3 hbox hb;have BK125:=Aside0.mk (hbox);have GE125:=gzA hg HB;replace HB:=bsA HB hb;clear hb hbox hg)|((with_reducible refine gate_dst (N:=4) rfl ?_);refine bx 4 #[.int .i64 0,.slice none 0 0] 26 ?_;intro gb126 hg w4 hbox hb;have BK126:=Aside0.mk (hbox);have GE126:=gzA hg HB;replace HB:=bsA HB hb;have NB125_126:=nlA hg BK125;have NB126_125:=ngA hg BK125;replace BK125:=bkA BK125 hb;clear hb hbox hg;have hnb5:=NB125_126.out;have hnc5:=NB126_125.out;have hcz6_0:=z0_ BK125;have hcz6_1:=z1_ BK125;have hfz6_0:=hf_ BK125 0;have hfz6_1:=hf_ BK125 1)|((with_reducible refine gate_dst (N:=9) rfl ?_);refine Kd.R_lit (Kd.int .i64) _ 2 ?hg (N:=9) ?hd (xs:=([]:List Int)) (inner:= []) (ok:=fun _=>True) (okp:=fun _=>True) ?hr ?hp (fun _ hk=>hk) trivial (Below.refl _ _) (Nat.le_refl _) (by simp) ?_;(case hd=>rfl);(case hg=>rfl);(case hr=>first|(go_simp;done)|(go_simp;rfl));(case hp=>exact(Reps.none _ _));intro v128 w7 ho8 hb hg_ hnew_;clear hg_ hnew_;(first|rw[← Ny127.out] at ho8|(simp only [Int.reduceToNat] at ho8;rw[← Ny127.out] at ho8));have HO129:=klA ho8 HB;replace BK125:=bkA BK125 hb;replace BK126:=bkA BK126 hb;replace HB:=bsA HB hb;clear hb ho8;obtain ⟨Ao9,co9,eo9⟩:=Kd.R_slice HO129.out;subst eo9)|((with_reducible refine gate_dst (N:=5) rfl ?_);refine bx 5 #[.int .i64 0,.slice none 0 0] 26 ?_;intro gb130 hg w10 hbox hb;replace HO129:=krA HO129 hb;have BK130:=Aside0.mk (hbox);have GE130:=gzA hg HB;replace HB:=bsA HB hb;have NB125_130:=nlA hg BK125;have NB130_125:=ngA hg BK125;replace BK125:=bkA BK125 hb;have NB126_130:=nlA hg BK126;have NB130_126:=ngA hg BK126;replace BK126:=bkA BK126 hb;clear hb hbox hg;have hnb11:=NB130_125.out;have hnc11:=NB125_130.out;have hnb12:=NB130_126.out;have hnc12:=NB126_130.out;have hcz13_0:=z0_ BK130;have hcz13_1:=z1_ BK130;have hfz13_0:=hf_ BK130 0;have hfz13_1:=hf_ BK130 1))
 go_loopg [6] k (fun kq v6 w'=>∃(x6_1:Int) (x131001_1:List Int) (u131001:Value),v6 = .int .i64 x6_1∧Aside0 (spec_l01Link.l0 kq a1 x6_1 a0_0 l0_1 a0_0 x131001_1=some (r1,r2))∧Aside0 (kq≤k)∧Aside0 (Kd.R (Kd.int .i64) 2 w' w.heap.size (fun _=>True) u131001 x131001_1)∧Aside0 (w'.heap[gb125]?=some (.cells #[.int .i64 a0_0,(.slice A0_1 l0_1.length c0_1)] 26 (0,0)))∧Aside0 (w'.heap[gb126]?=some (.cells #[.int .i64 0,(.slice none 0 0)] 26 (0,0)))∧Aside0 (w'.heap[gb130]?=some (.cells #[.int .i64 a0_0,u131001] 26 (0,0)))∧Aside0 (Below w.heap.size w w'))
 case atStart=>exact⟨(0),(y127),(.slice Ao9 y127.length co9),rs,H',⟨Nat.le_refl _⟩,⟨by(with_reducible repeat(first|apply Kd.R_alloc|apply Kd.R_drewN|apply Kd.R_drew));exact Kd.R_mono (Kd.R_far (p:=⟨gb130,1,none⟩) (Kd.R_far (p:=⟨gb130,0,none⟩) (Kd.R_types HO129.out BK130.out (by decide)) (fun _ hk=>hk.2) (.int .i64 a0_0)) (fun _ hk=>hk.2) (.slice Ao9 y127.length co9)) (fun _ hk=>trivial)⟩,⟨bp BK125.out⟩,⟨bp BK126.out⟩,⟨bp BK130.out⟩,⟨bl HB.out⟩⟩
 case round=>
  clear H';try clear c1
  try clear p2
  try clear c5
  try clear c11
  try clear c12
  try clear hcz13_0
  try clear hcz13_1
  try clear hcz6_0
  try clear hcz6_1
  try clear hfz13_0
  try clear hfz13_1
  try clear hfz6_0
  try clear hfz6_1
  obtain ⟨x6_1,x131001_1,u131001,rfl,HA,HK1,HO_131001,BK125,BK126,BK130,HB⟩:=hrel;cases gk with
  |zero=>exact absurd HA.out (by simp [spec_l01Link.l0])
  |succ k1=>
   have H:=HA.out;clear HA;simp only [spec_l01Link.l0] at H;by_cases c14:x6_1<(l0_1.length:Int)
   ·rw[if_pos c14] at H;have c14b0:decide (x6_1<(l0_1.length:Int))=true:=decide_eq_true c14;clear c14;by_cases c15:0≤x6_1
    ·rw[if_pos c15] at H;have c15b0:decide (0≤x6_1)=true:=decide_eq_true c15;clear c15;by_cases c16:(Go.bits .and .i64 (rd l0_1 x6_1) a1)=0
     ·rw[if_pos c16] at H;have c16b0:((Go.bits .and .i64 (rd l0_1 x6_1) a1) == 0)=true:=beq_iff_eq.mpr c16;have c16b1:((Go.bits .and .i64 (rd l0_1 x6_1) a1) != 0)=false:=bne_eq_false_iff_eq.mpr c16;clear c16;replace H:=Option.bind_eq_some_iff.mp H;obtain ⟨t133,A170,H⟩:=H;replace H:(if t133=true then (if x131001_1.length<17592186044416 then (spec_l01Link.l0 k1 a1 (wrap64 (x6_1+1)) a0_0 l0_1 a0_0 (x131001_1 ++ [rd l0_1 x6_1])) else (none)) else (spec_l01Link.l0 k1 a1 (wrap64 (x6_1+1)) a0_0 l0_1 a0_0 x131001_1))=some (r1,r2):=H;have A17:=Aside0.mk A170;clear A170;by_cases c18:t133=true
      ·subst c18;have H1:(if x131001_1.length<17592186044416 then (spec_l01Link.l0 k1 a1 (wrap64 (x6_1+1)) a0_0 l0_1 a0_0 (x131001_1 ++ [rd l0_1 x6_1])) else (none))=some (r1,r2):=by rw[if_pos rfl] at H;exact H
       clear H;have H:=H1;clear H1;by_cases c19:x131001_1.length<17592186044416
       ·rw[if_pos c19] at H;have LMc19:=Aside0.mk c19;clear c19;obtain ⟨y135,hy135⟩:∃ y_:List Int,y_=(x131001_1 ++ [rd l0_1 x6_1]):=⟨_,rfl⟩
        replace H:(spec_l01Link.l0 k1 a1 (wrap64 (x6_1+1)) a0_0 l0_1 a0_0 y135)=some (r1,r2):=by first|(rw[hy135];with_reducible exact H)|(have H2_:=(Option.bind_some _ _).symm.trans H;rw[hy135];with_reducible exact H2_)|(have H2_:=(Option.bind_some _ _).symm.trans H;with_reducible exact H2_)|with_reducible exact H|(rw[hy135];exact H)|exact H
        have Ny135:=Aside0.mk hy135;clear hy135;have H':=Aside0.mk H;clear H;have hnb20:=NB125_126.out;have hnc20:=NB126_125.out;have hnb21:=NB125_130.out;have hnc21:=NB130_125.out;have hcz22_0:=z0_ BK125;have hcz22_1:=z1_ BK125;have hfz22_0:=hf_ BK125 0;have hfz22_1:=hf_ BK125 1;try go_wp2
        replace HO_131001:=Aside0.mk (Kd.R_drew HO_131001.out);replace BK125:=Aside0.mk (blk_drew BK125.out);replace BK126:=Aside0.mk (blk_drew BK126.out);replace BK130:=Aside0.mk (blk_drew BK130.out);replace HB:=Aside0.mk (below_drew1 HB.out);have p131:0≤(x6_1:Int):=dd;have q131:x6_1<(l0_1.length:Int):=dd;obtain ⟨ad131,e131,hx131_0⟩:=Kd.at_int HR0_1.out x6_1 p131 q131;have hw131_0:=hx131_0;cases e131;replace hx131_0:=hx_ HB hx131_0;replace p131:=eq_true p131;replace q131:=eq_true q131;have p132:0≤(x6_1:Int):=dd;have q132:x6_1<(l0_1.length:Int):=dd;obtain ⟨ad132,e132,hx132_0⟩:=Kd.at_int HR0_1.out x6_1 p132 q132;have hw132_0:=hx132_0;obtain rfl:ad131=ad132:=(by injection e132)
        replace hx132_0:=hx_ HB hx132_0;replace p132:=eq_true p132;replace q132:=eq_true q132;refine start_ (n:=19) (S:=fun w'=>w'.cell? ⟨gb125,0,none⟩=some (.int .i64 a0_0)∧w'.cell? ⟨gb125,1,none⟩=some (.slice (some ad131) l0_1.length c0_1)∧w'.cell? (ad131.add (x6_1).toNat)=some (.int .i64 (rd l0_1 x6_1))∧w'.cell? (ad131.add (x6_1).toNat)=some (.int .i64 (rd l0_1 x6_1))) (ds:= []) (ar 0 19) (by kernel_rfl) rfl rfl ⟨(blk_cell BK125.out 0).trans rfl,(blk_cell BK125.out 1).trans rfl,hx_ HB hw131_0,hx_ HB hw132_0⟩ (fun hHeld=>?_);refine with_tabW spec_l01Link.tab5 spec_l01Link.bits5 (fun HT_ HW_=>?_);generalize wr.drew=w23 at HO_131001 BK125 BK126 BK130 HB hx131_0 hx132_0 hHeld ⊢;refine pu 0 (some 18) (ar 1 18) HT_ ?_;refine pu 2 (some 20) #[U,O,U,O,O,O,O,O,O,O,O,O,O,O,O,O,O,O,O] HT_ ?_;refine pu 5 (some 23) #[U,O,U,O,O,U,O,O,O,O,O,O,O,O,O,O,O,O,O] HT_ ?_;refine tk 1 (some 19) #[U,U,U,O,O,U,O,O,O,O,O,O,O,O,O,O,O,O,O] HT_ HW_ hHeld ?_;refine pu 3 (some 21) #[U,U,U,U,O,U,O,O,O,O,O,O,O,O,O,O,O,O,O] HT_ ?_;refine tk 4 (some 22) (ar 6 13) HT_ HW_ hHeld ?_;refine pu 6 (some 24) (ar 7 12) HT_ ?_;refine pu 7 (some 25) (ar 8 11) HT_ ?_;refine pu 8 (some 26) (ar 9 10) HT_ ?_;refine pu 10 (some 28) #[U,U,U,U,U,U,U,U,U,O,U,O,O,O,O,O,O,O,O] HT_ ?_;refine pu 12 (some 30) #[U,U,U,U,U,U,U,U,U,O,U,O,U,O,O,O,O,O,O] HT_ ?_;refine pu 15 (some 33) #[U,U,U,U,U,U,U,U,U,O,U,O,U,O,O,U,O,O,O] HT_ ?_;refine tk 9 (some 27) #[U,U,U,U,U,U,U,U,U,U,U,O,U,O,O,U,O,O,O] HT_ HW_ hHeld ?_;refine tk 11 (some 29) #[U,U,U,U,U,U,U,U,U,U,U,U,U,O,O,U,O,O,O] HT_ HW_ hHeld ?_;refine pu 13 (some 31) #[U,U,U,U,U,U,U,U,U,U,U,U,U,U,O,U,O,O,O] HT_ ?_;refine tk 14 (some 32) (ar 16 3) HT_ HW_ hHeld ?_;refine pu 16 (some 34) (ar 17 2) HT_ ?_;refine on_ 17 (some 35) (ar 18 1) HT_ fun K hK=>?_;refine gr Tryz.func61 #[.agg #[.int .i64 a0_0,.slice (some ad131) l0_1.length c0_1],.int .i64 (Go.bits .or .i64 (rd l0_1 x6_1) a1)] ?_;with_reducible refine(spec_l01Has.calls k1 a0_0 _ _ l0_1 (Go.bits .or .i64 (rd l0_1 x6_1) a1) true _ (cb (Kd.C_below HR0_1.out HB.out)) HC0_1.out A17.out).mono ?_
        rintro e w24 ⟨rfl,hb⟩;refine⟨_,rfl,?_⟩;replace HO_131001:=krA HO_131001 hb;replace BK125:=bkA BK125 hb;replace BK126:=bkA BK126 hb;replace BK130:=bkA BK130 hb;replace HB:=bsA HB hb;(try clear hb)
        (try clear hb2)
        (try clear hk)
        (try clear hi)
        refine hK.out _ _ ⟨(blk_cell BK125.out 0).trans rfl,(blk_cell BK125.out 1).trans rfl,hx_ HB hw131_0,hx_ HB hw132_0⟩ (fun hHeld=>?_);clear hK K;refine nr 35 ?_;refine pu 18 (some 36) (ar 19 0) HT_ ?_;refine done_ (done_of HT_.out (by kernel_rfl)) ?_;try go_wp2
        replace HO_131001:=Aside0.mk (Kd.R_drew HO_131001.out);replace BK125:=Aside0.mk (blk_drew BK125.out);replace BK126:=Aside0.mk (blk_drew BK126.out);replace BK130:=Aside0.mk (blk_drew BK130.out);replace HB:=Aside0.mk (below_drew1 HB.out);have p134:0≤(x6_1:Int):=dd;have q134:x6_1<(l0_1.length:Int):=dd;obtain ⟨ad134,e134,hx134_0⟩:=Kd.at_int HR0_1.out x6_1 p134 q134;have hw134_0:=hx134_0;obtain rfl:ad131=ad134:=(by injection e134)
        replace hx134_0:=hx_ HB hx134_0;replace p134:=eq_true p134;replace q134:=eq_true q134;refine start_ (n:=11) (S:=fun w'=>w'.cell? ⟨gb130,0,none⟩=some (.int .i64 a0_0)∧w'.cell? ⟨gb130,1,none⟩=some (u131001)∧w'.cell? ⟨gb125,0,none⟩=some (.int .i64 a0_0)∧w'.cell? ⟨gb125,1,none⟩=some (.slice (some ad131) l0_1.length c0_1)∧w'.cell? (ad131.add (x6_1).toNat)=some (.int .i64 (rd l0_1 x6_1))) (ds:= [10]) (ar 0 11) (by kernel_rfl) rfl rfl ⟨(blk_cell BK130.out 0).trans rfl,(blk_cell BK130.out 1).trans rfl,(blk_cell BK125.out 0).trans rfl,(blk_cell BK125.out 1).trans rfl,hx_ HB hw134_0⟩ (fun hHeld=>?_);refine with_tabW spec_l01Link.tab6 spec_l01Link.bits6 (fun HT_ HW_=>?_);generalize w24.drew=w25 at HO_131001 BK125 BK126 BK130 HB hx134_0 hHeld ⊢;refine pu 0 (some 37) (ar 1 10) HT_ ?_;refine pu 2 (some 39) #[U,O,U,O,O,O,O,O,O,O,O] HT_ ?_;refine pu 4 (some 41) #[U,O,U,O,U,O,O,O,O,O,O] HT_ ?_;refine tk 1 (some 38) #[U,U,U,O,U,O,O,O,O,O,O] HT_ HW_ hHeld ?_;refine tk 3 (some 40) (ar 5 6) HT_ HW_ hHeld ?_;refine pu 5 (some 42) (ar 6 5) HT_ ?_;refine tk 6 (some 43) (ar 7 4) HT_ HW_ hHeld ?_;refine on_ 7 (some 44) (ar 8 3) HT_ fun K hK=>?_;refine value_ (w1:=?_) (v:=?_) (by rfl) rfl ?_ ?_;rotate_left 2
        ·go_simp;constructor
         ·rfl
         ·rfl
        refine hK.out _ _ ⟨(blk_cell (blk_alloc BK130.out _) 0).trans rfl,(blk_cell (blk_alloc BK130.out _) 1).trans rfl,(blk_cell (blk_alloc BK125.out _) 0).trans rfl,(blk_cell (blk_alloc BK125.out _) 1).trans rfl,(World.cell?_alloc_lt _ _ _ (World.block_lt_of_cell? _ _ ((hx_ HB hw134_0)))).trans ((hx_ HB hw134_0))⟩ (fun hHeld=>?_);clear hK K;refine nr 44 ?_;refine on_ 8 (some 45) (ar 9 2) HT_ fun K hK=>?_;refine Kd.R_append_step (Kd.int .i64) (w0:=w) w.heap.size (by rfl) (.tmp 38) (.tmp 44) 24 2 (.int .i64 0) 8 rfl Tryz.underlying24 info2 rfl (by decide) (by omega) u131001 x131001_1 (rd l0_1 x6_1) [.int .i64 (rd l0_1 x6_1)] (fun _=>True) (fun _=>False) rfl rfl ?aP (fun _ hk=>hk.elim) ?aF ?aO ?aB ?aS ?aL ?_;(case aP=>exact rfl)
        (case aB=>exact(bl HB.out))
        (case aF=>exact(fun _ _=>trivial))
        (case aO=>exact(kr HO_131001.out))
        (case aS=>exact(below_size (bl HB.out)))
        (case aL=>have:=LMc19.out;omega)
        intro v136 w26 ho hb hg hat;rw[← Ny135.out] at ho;have n0_:=Aside0.mk (blk_grown (bk BK125.out) hg (Kd.R_ne HO_131001.out BK125.out (by decide)));have n1_:=Aside0.mk (blk_grown (bk BK126.out) hg (Kd.R_ne HO_131001.out BK126.out (by decide)));have n2_:=Aside0.mk (blk_grown (bk BK130.out) hg (Kd.R_ne HO_131001.out BK130.out (by decide)));have n3_:=Aside0.mk (hb);have n4_:=Aside0.mk (ho);clear BK125;clear BK126;clear BK130;clear HB;clear HO_131001;have BK125:=n0_;have BK126:=n1_;have BK130:=n2_;have HB:=n3_;have HO137:=n4_;clear n0_ n1_ n2_ n3_ n4_;clear ho hb hg hat;obtain ⟨Ao27,co27,eo27⟩:=Kd.R_slice HO137.out;(first|subst eo27|(injection eo27 with f1_ f2_ f3_;have f4_:=f1_.symm;have f5_:=f3_.symm;clear f1_ f2_ f3_;subst f4_;subst f5_))
        refine hK.out _ _ ⟨(blk_cell BK130.out 0).trans rfl,(blk_cell BK130.out 1).trans rfl,(blk_cell BK125.out 0).trans rfl,(blk_cell BK125.out 1).trans rfl,hx_ HB hw134_0⟩ (fun hHeld=>?_);clear hK K;refine nr 45 ?_;refine pu 9 (some 46) (ar 10 1) HT_ ?_;refine last_ (i:=10) (N:=none) (ar 11 0) rfl rfl (one_of HT_.out (by kernel_rfl)) (by decide) (fun K hK=>?_);have hs28:w26.cell? ⟨gb130,1,none⟩=some (u131001):=(blk_cell BK130.out 1).trans rfl;have hfs28:=blk_frozen BK130.out 1;have hns28_0:=NB125_130.out;have hns28_1:=NB126_130.out;have hms28_0:=NB130_125.out;have hms28_1:=NB130_126.out;refine skip_ (w1:=?_) (by rfl) rfl ?_ ?_;rotate_left
        ·go_simp;rfl
        refine hK.out _ _ ?_;clear hK K;refine done_ (done_of HT_.out (by kernel_rfl)) ?_;try go_wp2
        go_roundg k1
        case measure=>have:=HK1.out;omega
        case rel=>exact⟨(wrap64 (x6_1+1)),(y135),(.slice Ao27 y135.length co27),rs,H',⟨by have:=HK1.out;omega⟩,⟨by(with_reducible repeat(first|apply Kd.R_alloc|apply Kd.R_drewN|apply Kd.R_drew));exact Kd.R_mono (Kd.R_far (p:=⟨gb130,1,none⟩) (Kd.R_types HO137.out BK130.out (by decide)) (fun _ hk=>hk.2) (.slice Ao27 y135.length co27)) (fun _ hk=>trivial)⟩,⟨bp BK125.out⟩,⟨bp BK126.out⟩,⟨bp BK130.out⟩,⟨bl HB.out⟩⟩
       ·rw[if_neg c19] at H;exact absurd H (by simp)
      ·replace c18:=Bool.eq_false_iff.mpr c18;subst c18;have H1:(spec_l01Link.l0 k1 a1 (wrap64 (x6_1+1)) a0_0 l0_1 a0_0 x131001_1)=some (r1,r2):=by rw[if_neg (show ¬ (false=true) by decide)] at H;exact H
       clear H;have H:=H1;clear H1;have H':=Aside0.mk H;clear H;have hnb29:=NB125_126.out;have hnc29:=NB126_125.out;have hnb30:=NB125_130.out;have hnc30:=NB130_125.out;have hcz31_0:=z0_ BK125;have hcz31_1:=z1_ BK125;have hfz31_0:=hf_ BK125 0;have hfz31_1:=hf_ BK125 1;try go_wp2
       replace HO_131001:=Aside0.mk (Kd.R_drew HO_131001.out);replace BK125:=Aside0.mk (blk_drew BK125.out);replace BK126:=Aside0.mk (blk_drew BK126.out);replace BK130:=Aside0.mk (blk_drew BK130.out);replace HB:=Aside0.mk (below_drew1 HB.out);have p131:0≤(x6_1:Int):=dd;have q131:x6_1<(l0_1.length:Int):=dd;obtain ⟨ad131,e131,hx131_0⟩:=Kd.at_int HR0_1.out x6_1 p131 q131;have hw131_0:=hx131_0;cases e131;replace hx131_0:=hx_ HB hx131_0;replace p131:=eq_true p131;replace q131:=eq_true q131;have p132:0≤(x6_1:Int):=dd;have q132:x6_1<(l0_1.length:Int):=dd;obtain ⟨ad132,e132,hx132_0⟩:=Kd.at_int HR0_1.out x6_1 p132 q132;have hw132_0:=hx132_0;obtain rfl:ad131=ad132:=(by injection e132)
       replace hx132_0:=hx_ HB hx132_0;replace p132:=eq_true p132;replace q132:=eq_true q132;refine start_ (n:=19) (S:=fun w'=>w'.cell? ⟨gb125,0,none⟩=some (.int .i64 a0_0)∧w'.cell? ⟨gb125,1,none⟩=some (.slice (some ad131) l0_1.length c0_1)∧w'.cell? (ad131.add (x6_1).toNat)=some (.int .i64 (rd l0_1 x6_1))∧w'.cell? (ad131.add (x6_1).toNat)=some (.int .i64 (rd l0_1 x6_1))) (ds:= []) (ar 0 19) (by kernel_rfl) rfl rfl ⟨(blk_cell BK125.out 0).trans rfl,(blk_cell BK125.out 1).trans rfl,hx_ HB hw131_0,hx_ HB hw132_0⟩ (fun hHeld=>?_);refine with_tabW spec_l01Link.tab5 spec_l01Link.bits5 (fun HT_ HW_=>?_);generalize wr.drew=w32 at HO_131001 BK125 BK126 BK130 HB hx131_0 hx132_0 hHeld ⊢;refine pu 0 (some 18) (ar 1 18) HT_ ?_;refine pu 2 (some 20) #[U,O,U,O,O,O,O,O,O,O,O,O,O,O,O,O,O,O,O] HT_ ?_;refine pu 5 (some 23) #[U,O,U,O,O,U,O,O,O,O,O,O,O,O,O,O,O,O,O] HT_ ?_;refine tk 1 (some 19) #[U,U,U,O,O,U,O,O,O,O,O,O,O,O,O,O,O,O,O] HT_ HW_ hHeld ?_;refine pu 3 (some 21) #[U,U,U,U,O,U,O,O,O,O,O,O,O,O,O,O,O,O,O] HT_ ?_;refine tk 4 (some 22) (ar 6 13) HT_ HW_ hHeld ?_;refine pu 6 (some 24) (ar 7 12) HT_ ?_;refine pu 7 (some 25) (ar 8 11) HT_ ?_;refine pu 8 (some 26) (ar 9 10) HT_ ?_;refine pu 10 (some 28) #[U,U,U,U,U,U,U,U,U,O,U,O,O,O,O,O,O,O,O] HT_ ?_;refine pu 12 (some 30) #[U,U,U,U,U,U,U,U,U,O,U,O,U,O,O,O,O,O,O] HT_ ?_;refine pu 15 (some 33) #[U,U,U,U,U,U,U,U,U,O,U,O,U,O,O,U,O,O,O] HT_ ?_;refine tk 9 (some 27) #[U,U,U,U,U,U,U,U,U,U,U,O,U,O,O,U,O,O,O] HT_ HW_ hHeld ?_;refine tk 11 (some 29) #[U,U,U,U,U,U,U,U,U,U,U,U,U,O,O,U,O,O,O] HT_ HW_ hHeld ?_;refine pu 13 (some 31) #[U,U,U,U,U,U,U,U,U,U,U,U,U,U,O,U,O,O,O] HT_ ?_;refine tk 14 (some 32) (ar 16 3) HT_ HW_ hHeld ?_;refine pu 16 (some 34) (ar 17 2) HT_ ?_;refine on_ 17 (some 35) (ar 18 1) HT_ fun K hK=>?_;refine gr Tryz.func61 #[.agg #[.int .i64 a0_0,.slice (some ad131) l0_1.length c0_1],.int .i64 (Go.bits .or .i64 (rd l0_1 x6_1) a1)] ?_;with_reducible refine(spec_l01Has.calls k1 a0_0 _ _ l0_1 (Go.bits .or .i64 (rd l0_1 x6_1) a1) false _ (cb (Kd.C_below HR0_1.out HB.out)) HC0_1.out A17.out).mono ?_
       rintro e w33 ⟨rfl,hb⟩;refine⟨_,rfl,?_⟩;replace HO_131001:=krA HO_131001 hb;replace BK125:=bkA BK125 hb;replace BK126:=bkA BK126 hb;replace BK130:=bkA BK130 hb;replace HB:=bsA HB hb;(try clear hb)
       (try clear hb2)
       (try clear hk)
       (try clear hi)
       refine hK.out _ _ ⟨(blk_cell BK125.out 0).trans rfl,(blk_cell BK125.out 1).trans rfl,hx_ HB hw131_0,hx_ HB hw132_0⟩ (fun hHeld=>?_);clear hK K;refine nr 35 ?_;refine pu 18 (some 36) (ar 19 0) HT_ ?_;refine done_ (done_of HT_.out (by kernel_rfl)) ?_;try go_wp2
       go_roundg k1
       case measure=>have:=HK1.out;omega
       case rel=>exact⟨(wrap64 (x6_1+1)),(x131001_1),(u131001),rs,H',⟨by have:=HK1.out;omega⟩,⟨kr HO_131001.out⟩,⟨bk BK125.out⟩,⟨bk BK126.out⟩,⟨bk BK130.out⟩,⟨bl HB.out⟩⟩
     ·rw[if_neg c16] at H;have c16b0:((Go.bits .and .i64 (rd l0_1 x6_1) a1) == 0)=false:=beq_eq_false_iff_ne.mpr c16;have c16b1:((Go.bits .and .i64 (rd l0_1 x6_1) a1) != 0)=true:=bne_iff_ne.mpr c16;have H':=Aside0.mk H;clear H;have hnb34:=NB125_126.out;have hnc34:=NB126_125.out;have hnb35:=NB125_130.out;have hnc35:=NB130_125.out;have hcz36_0:=z0_ BK125;have hcz36_1:=z1_ BK125;have hfz36_0:=hf_ BK125 0;have hfz36_1:=hf_ BK125 1;try go_wp2
      replace HO_131001:=Aside0.mk (Kd.R_drew HO_131001.out);replace BK125:=Aside0.mk (blk_drew BK125.out);replace BK126:=Aside0.mk (blk_drew BK126.out);replace BK130:=Aside0.mk (blk_drew BK130.out);replace HB:=Aside0.mk (below_drew1 HB.out);have p131:0≤(x6_1:Int):=dd;have q131:x6_1<(l0_1.length:Int):=dd;obtain ⟨ad131,e131,hx131_0⟩:=Kd.at_int HR0_1.out x6_1 p131 q131;have hw131_0:=hx131_0;cases e131;replace hx131_0:=hx_ HB hx131_0;replace p131:=eq_true p131;replace q131:=eq_true q131;refine start_ (n:=19) (S:=fun w'=>w'.cell? ⟨gb125,0,none⟩=some (.int .i64 a0_0)∧w'.cell? ⟨gb125,1,none⟩=some (.slice (some ad131) l0_1.length c0_1)∧w'.cell? (ad131.add (x6_1).toNat)=some (.int .i64 (rd l0_1 x6_1))) (ds:= []) (ar 0 19) (by kernel_rfl) rfl rfl ⟨(blk_cell BK125.out 0).trans rfl,(blk_cell BK125.out 1).trans rfl,hx_ HB hw131_0⟩ (fun hHeld=>?_);refine with_tabW spec_l01Link.tab5 spec_l01Link.bits5 (fun HT_ HW_=>?_);generalize wr.drew=w37 at HO_131001 BK125 BK126 BK130 HB hx131_0 hHeld ⊢;refine pu 0 (some 18) (ar 1 18) HT_ ?_;refine pu 2 (some 20) #[U,O,U,O,O,O,O,O,O,O,O,O,O,O,O,O,O,O,O] HT_ ?_;refine pu 5 (some 23) #[U,O,U,O,O,U,O,O,O,O,O,O,O,O,O,O,O,O,O] HT_ ?_;refine tk 1 (some 19) #[U,U,U,O,O,U,O,O,O,O,O,O,O,O,O,O,O,O,O] HT_ HW_ hHeld ?_;refine pu 3 (some 21) #[U,U,U,U,O,U,O,O,O,O,O,O,O,O,O,O,O,O,O] HT_ ?_;refine tk 4 (some 22) (ar 6 13) HT_ HW_ hHeld ?_;refine pu 6 (some 24) (ar 7 12) HT_ ?_;refine pu 7 (some 25) (ar 8 11) HT_ ?_;refine pu 8 (some 26) (ar 9 10) HT_ ?_;refine pv 9 (some 27) (ar 10 9) HT_ ?_;refine pv 10 (some 28) (ar 11 8) HT_ ?_;refine pv 11 (some 29) (ar 12 7) HT_ ?_;refine pv 12 (some 30) (ar 13 6) HT_ ?_;refine pv 13 (some 31) (ar 14 5) HT_ ?_;refine pv 14 (some 32) (ar 15 4) HT_ ?_;refine pv 15 (some 33) (ar 16 3) HT_ ?_;refine pv 16 (some 34) (ar 17 2) HT_ ?_;refine pv 17 (some 35) (ar 18 1) HT_ ?_;refine pu 18 (some 36) (ar 19 0) HT_ ?_;refine done_ (done_of HT_.out (by kernel_rfl)) ?_;try go_wp2
      go_roundg k1
      case measure=>have:=HK1.out;omega
      case rel=>exact⟨(wrap64 (x6_1+1)),(x131001_1),(u131001),rs,H',⟨by have:=HK1.out;omega⟩,⟨kr HO_131001.out⟩,⟨bk BK125.out⟩,⟨bk BK126.out⟩,⟨bk BK130.out⟩,⟨bl HB.out⟩⟩
    ·rw[if_neg c15] at H;exact absurd H (by simp)
   ·rw[if_neg c14] at H;have c14b0:decide (x6_1<(l0_1.length:Int))=false:=decide_eq_false c14;clear c14;simp only [Option.some.injEq,Prod.mk.injEq] at H;obtain ⟨rfl,rfl⟩:=H;have hnb38:=NB125_126.out;have hnc38:=NB126_125.out;have hnb39:=NB125_130.out;have hnc39:=NB130_125.out;have hcz40_0:=z0_ BK125;have hcz40_1:=z1_ BK125;have hfz40_0:=hf_ BK125 0;have hfz40_1:=hf_ BK125 1;have hnb41:=NB130_126.out;have hnc41:=NB126_130.out;have hcz42_0:=z0_ BK130;have hcz42_1:=z1_ BK130;have hfz42_0:=hf_ BK130 0;have hfz42_1:=hf_ BK130 1;have hcz43_0:=z0_ BK126;have hcz43_1:=z1_ BK126;have hfz43_0:=hf_ BK126 0;have hfz43_1:=hf_ BK126 1;obtain ⟨Ao44,co44,eo44⟩:=Kd.R_slice HO_131001.out;subst eo44;go_wp2
    refine bodyPost_ret (results_cell_row rfl _ _ gb126 26 #[.int .i64 a0_0,.slice Ao44 x131001_1.length co44] (0,0) _ rfl (bp BK126.out) Tryz.underlying26 rfl (by kernel_rfl)) rfl ?_;exact⟨_,rr,by(with_reducible repeat(first|apply Kd.R_alloc|apply Kd.R_drewN|apply Kd.R_drew));exact Kd.R_mono (Kd.R_far (p:=⟨gb126,1,none⟩) (Kd.R_far (p:=⟨gb126,0,none⟩) (Kd.R_types HO_131001.out BK126.out (by decide)) (fun _ hk=>hk.2) (.int .i64 a0_0)) (fun _ hk=>hk.2) (.slice Ao44 x131001_1.length co44)) (fun _ hk=>trivial),bl HB.out⟩
end Go.Proofs.YtlhkdbkjafiikaaGreat.Q
end

section
namespace Go.Proofs.YtlhkdbkjafiikaaGreat.Q
open Go.RowKit Go.Proofs.YtlhkdbkjafiikaaGreatW.PrintWords Go.Proofs.YtlhkdbkjafiikaaGreatW.PrintLast Go.Proofs.YtlhkdbkjafiikaaGreatW.PrintMore
attribute [local go_sem] max2_int min2_int max_two min_two max_three min_three max_four min_four
set_option linter.unusedVariables false
set_option linter.unusedSimpArgs false
def spec_LinkOf.f (k:Nat) (a0_0:Int) (l0_1:List Int) (a1:Int):Option (Int×List Int×Int):=(spec_l01Face.f k a0_0 l0_1 a1).bind fun t140=>(if t140=0 then ((spec_l01Link.f k a0_0 l0_1 a1).bind fun bt141=>(some (bt141.1,bt141.2,0))) else (some (0,([]:List Int),t140)))
theorem spec_LinkOf.mono:∀ a0 a1 a2 k,LeO (spec_LinkOf.f k a0 a1 a2) (spec_LinkOf.f (k+1) a0 a1 a2):=by
 intro a0 a1 a2 k;unfold spec_LinkOf.f;repeat' first
   |(with_reducible first|exact spec_l01Face.mono _ _ _ _|exact spec_l01Link.mono _ _ _ _|exact LeO.refl _|exact LeO.none _|refine LeO.ite ?_ ?_|refine LeO.bind ?_ (fun _=>?_))
set_option maxHeartbeats 8000000 in
set_option maxRecDepth 100000 in
theorem spec_LinkOf.calls (k:Nat) (a0_0:Int) (A0_1:Option Addr) (c0_1:Nat) (l0_1:List Int) (a1:Int) (r1:Int) (r2:List Int) (r3:Int) (w:World) (hr0_1:Kd.C (Kd.int .i64) w A0_1 l0_1.length l0_1) (hc0_1:l0_1.length≤c0_1) (h:spec_LinkOf.f k a0_0 l0_1 a1=some (r1,r2,r3)) :
  Calls Tryz.prog 8 #[.agg #[.int .i64 a0_0,.slice A0_1 l0_1.length c0_1],.int .i64 a1] w fun e w'=>∃ v1_:Value,e = .returned (.tuple #[.agg #[.int .i64 r1,v1_],.int .i64 r3])∧Kd.R (Kd.int .i64) 2 w' w.heap.size (fun _=>True) v1_ r2∧Below w.heap.size w w':=by
 have hu26:=Tryz.underlying26;have HR0_1:=Aside0.mk hr0_1;have HC0_1:=Aside0.mk hc0_1;clear hr0_1 hc0_1;have HB:=Aside0.mk (Below.refl w.heap.size w);have H:((spec_l01Face.f k a0_0 l0_1 a1).bind fun t140=>(if t140=0 then ((spec_l01Link.f k a0_0 l0_1 a1).bind fun bt141=>(some (bt141.1,bt141.2,0))) else (some (0,([]:List Int),t140))))=some (r1,r2,r3):=h;clear h;replace H:=Option.bind_eq_some_iff.mp H;obtain ⟨t140,A30,H⟩:=H;replace H:(if t140=0 then ((spec_l01Link.f k a0_0 l0_1 a1).bind fun bt141=>(some (bt141.1,bt141.2,0))) else (some (0,([]:List Int),t140)))=some (r1,r2,r3):=H;have A3:=Aside0.mk A30;clear A30;by_cases c4:t140=0
 ·rw[if_pos c4] at H;have c4b0:(t140 == 0)=true:=beq_iff_eq.mpr c4;have c4b1:(t140 != 0)=false:=bne_eq_false_iff_eq.mpr c4;clear c4;replace H:=Option.bind_eq_some_iff.mp H;obtain ⟨⟨t141,t142⟩,A50,H⟩:=H;replace H:(some (t141,t142,0))=some (r1,r2,r3):=H;have A5:=Aside0.mk A50;clear A50;simp only [Option.some.injEq,Prod.mk.injEq] at H;obtain ⟨rfl,rfl,rfl⟩:=H;go_enter Tryz.func8,Tryz.ntmps8;go_wp2_with (first|((with_reducible refine gate_dst (N:=2) rfl ?_);refine bx 2 #[.int .i64 a0_0,.slice A0_1 l0_1.length c0_1] 26 ?_;intro gb138 hg w6 hbox hb;have BK138:=Aside0.mk (hbox);have GE138:=gzA hg HB;replace HB:=bsA HB hb;clear hb hbox hg)|((with_reducible refine gate_dst (N:=4) rfl ?_);refine bx 4 #[.int .i64 0,.slice none 0 0] 26 ?_;intro gb139 hg w7 hbox hb;have BK139:=Aside0.mk (hbox);have GE139:=gzA hg HB;replace HB:=bsA HB hb;have NB138_139:=nlA hg BK138;have NB139_138:=ngA hg BK138;replace BK138:=bkA BK138 hb;clear hb hbox hg;have hnb8:=NB138_139.out;have hnc8:=NB139_138.out;have hcz9_0:=z0_ BK138;have hcz9_1:=z1_ BK138;have hfz9_0:=hf_ BK138 0;have hfz9_1:=hf_ BK138 1)|((with_reducible refine gate_callee (f:=57) rfl ?_);refine gl (some 9) Tryz.func57 #[.agg #[.int .i64 a0_0,.slice A0_1 l0_1.length c0_1],.int .i64 a1] ?_;(with_reducible refine(spec_l01Face.calls k a0_0 _ _ l0_1 a1 t140 _ (cb (Kd.C_below HR0_1.out HB.out)) HC0_1.out A3.out).mono ?_);rintro e w10 ⟨rfl,hb⟩;refine⟨_,rfl,?_⟩;replace BK138:=bkA BK138 hb;replace BK139:=bkA BK139 hb;replace HB:=bsA HB hb;(try clear hb);(try clear hb2);(try clear hk);(try clear hi);have hcz11_0:=z0_ BK138;have hcz11_1:=z1_ BK138;have hfz11_0:=hf_ BK138 0;have hfz11_1:=hf_ BK138 1)|((with_reducible refine gate_callee (f:=58) rfl ?_);refine gl (some 16) Tryz.func58 #[.agg #[.int .i64 a0_0,.slice A0_1 l0_1.length c0_1],.int .i64 a1] ?_;(with_reducible refine(spec_l01Link.calls k a0_0 _ _ l0_1 a1 t141 t142 _ (cb (Kd.C_below HR0_1.out HB.out)) HC0_1.out A5.out).mono ?_);rintro e w12 ⟨v143,rfl,ho0,hb⟩;refine⟨_,rfl,?_⟩;have HO144:=klA ho0 HB;replace BK138:=bkA BK138 hb;replace BK139:=bkA BK139 hb;replace HB:=bsA HB hb;(try clear hb);(try clear hb2);(try clear hk);(try clear hi);(try clear ho0);have hcz13_0:=z0_ BK139;have hcz13_1:=z1_ BK139;have hfz13_0:=hf_ BK139 0;have hfz13_1:=hf_ BK139 1;obtain ⟨Ao14,co14,eo14⟩:=Kd.R_slice HO144.out;subst eo14))
  refine bodyPost_ret (results_ct rfl _ _ gb139 26 #[.int .i64 t141,.slice Ao14 t142.length co14] (0,0) _ rfl (bp BK139.out) Tryz.underlying26 rfl (by kernel_rfl)) rfl ?_;exact⟨_,rr,by(with_reducible repeat(first|apply Kd.R_alloc|apply Kd.R_drewN|apply Kd.R_drew));exact Kd.R_mono (Kd.R_far (p:=⟨gb139,1,none⟩) (Kd.R_far (p:=⟨gb139,0,none⟩) (Kd.R_types HO144.out BK139.out (by decide)) (fun _ hk=>hk.2) (.int .i64 t141)) (fun _ hk=>hk.2) (.slice Ao14 t142.length co14)) (fun _ hk=>trivial),bl HB.out⟩
 ·rw[if_neg c4] at H;have c4b0:(t140 == 0)=false:=beq_eq_false_iff_ne.mpr c4;have c4b1:(t140 != 0)=true:=bne_iff_ne.mpr c4;simp only [Option.some.injEq,Prod.mk.injEq] at H;obtain ⟨rfl,rfl,rfl⟩:=H;go_enter Tryz.func8,Tryz.ntmps8;go_wp2_with (first|((with_reducible refine gate_dst (N:=2) rfl ?_);refine bx 2 #[.int .i64 a0_0,.slice A0_1 l0_1.length c0_1] 26 ?_;intro gb138 hg w15 hbox hb;have BK138:=Aside0.mk (hbox);have GE138:=gzA hg HB;replace HB:=bsA HB hb;clear hb hbox hg)|((with_reducible refine gate_dst (N:=4) rfl ?_);refine bx 4 #[.int .i64 0,.slice none 0 0] 26 ?_;intro gb139 hg w16 hbox hb;have BK139:=Aside0.mk (hbox);have GE139:=gzA hg HB;replace HB:=bsA HB hb;have NB138_139:=nlA hg BK138;have NB139_138:=ngA hg BK138;replace BK138:=bkA BK138 hb;clear hb hbox hg;have hnb17:=NB138_139.out;have hnc17:=NB139_138.out;have hcz18_0:=z0_ BK138;have hcz18_1:=z1_ BK138;have hfz18_0:=hf_ BK138 0;have hfz18_1:=hf_ BK138 1)|((with_reducible refine gate_callee (f:=57) rfl ?_);refine gl (some 9) Tryz.func57 #[.agg #[.int .i64 a0_0,.slice A0_1 l0_1.length c0_1],.int .i64 a1] ?_;(with_reducible refine(spec_l01Face.calls k a0_0 _ _ l0_1 a1 t140 _ (cb (Kd.C_below HR0_1.out HB.out)) HC0_1.out A3.out).mono ?_);rintro e w19 ⟨rfl,hb⟩;refine⟨_,rfl,?_⟩;replace BK138:=bkA BK138 hb;replace BK139:=bkA BK139 hb;replace HB:=bsA HB hb;(try clear hb);(try clear hb2);(try clear hk);(try clear hi);have hcz20_0:=z0_ BK139;have hcz20_1:=z1_ BK139;have hfz20_0:=hf_ BK139 0;have hfz20_1:=hf_ BK139 1))
  refine bodyPost_ret (results_ct rfl _ _ gb139 26 #[.int .i64 0,.slice none 0 0] (0,0) _ rfl (bp BK139.out) Tryz.underlying26 rfl (by kernel_rfl)) rfl ?_;exact⟨_,rr,by first|exact Kd.R_nil _ _ _ _ _|exact Kd.N_nil _ _ _ _ _|exact Kd.V_nil _ _ _ _ _|exact Kd.Q_nil _ _ _ _ _|exact Kd.S_nil _ _ _ _ _,bl HB.out⟩
end Go.Proofs.YtlhkdbkjafiikaaGreat.Q
end

section
namespace Go.Proofs.YtlhkdbkjafiikaaGreat.K
open Go.RowKit Go.Shelf Go.Proofs.YtlhkdbkjafiikaaGreat.Q Go.Proofs.YtlhkdbkjafiikaaGreatW.PrintWords Go.Proofs.YtlhkdbkjafiikaaGreatW.PrintLast Go.Proofs.YtlhkdbkjafiikaaGreatW.PrintMore
set_option linter.unusedVariables false
set_option linter.unusedSimpArgs false
theorem specLink_loop (n f m:Int) (l:List Int) (hl:l.length≤2097152):∀(d i k:Nat) (acc:List Int),l.length - i=d→i≤l.length→d+l.length+1<k→acc.length≤i →
  spec_l01Link.l0 k f (i:Int) n l m acc=some (m,acc ++ (l.drop i).filter (fun x=>decide (Go.bits .and .i64 x f=0) && decide (Go.bits .or .i64 x f ∈ l))):=by
 intro d
 induction d with
 |zero=>
  intro i k acc hd hi hk ha
  obtain ⟨k,rfl⟩:∃ m,k=m+1:=⟨k - 1,by omega⟩
  obtain rfl:i=l.length:=by omega
  simp only [spec_l01Link.l0]
  rw[if_neg (by omega)]
  simp
 |succ d ih=>
  intro i k acc hd hi hk ha
  obtain ⟨k,rfl⟩:∃ m,k=m+1:=⟨k - 1,by omega⟩
  simp only [spec_l01Link.l0]
  have hil:i<l.length:=by omega
  have hin:=fun acc' (h:acc'.length≤i+1)=>ih (i+1) k acc' (by omega) (by omega) (by omega) h
  rw[if_pos (by omega),if_pos (by omega),rd_nat l i hil,w64 _ (by omega) (by omega),nat_succ,List.drop_eq_getElem_cons hil,List.filter_cons]
  by_cases h0:Go.bits .and .i64 l[i] f=0
  ·rw[if_pos h0,specHas_is n _ l (by omega) k (by omega)]
   simp only [Option.bind_some]
   by_cases h:Go.bits .or .i64 l[i] f ∈ l
   ·simp only [h0,h,decide_true,if_true,Bool.and_true]
    rw[if_pos (show acc.length<17592186044416 by omega),hin _ (by simp;omega),List.append_assoc]
    rfl
   ·simp only [h0,h,decide_false,decide_true,Bool.and_false,Bool.false_eq_true,if_false]
    exact hin _ (by omega)
  ·rw[if_neg h0]
   simp only [h0,decide_false,Bool.false_and,Bool.false_eq_true,if_false]
   exact hin _ (by omega)
theorem specLinkOf_is (n f:Int) (l:List Int) (hl:l.length≤2097152) (k:Nat) (hk:isK l+2≤k):spec_LinkOf.f k n l f=some (partOf n l (LinkOf_b n l f) (LinkOf_p l f)):=by
 have hk2:l.length+l.length+1<k:=by unfold isK at hk;omega
 unfold spec_LinkOf.f
 rw[specFace_is n l f hl k (by omega)]
 simp only [Option.bind_some]
 have hb:LinkOf_b n l f=hasB l f:=rfl
 cases hi:isC n l with
 |false=>
  have hc:∀ b,codeOf n l b=1:=fun b=>by simp [codeOf,hi]
  unfold partOf
  rw[hc,hc]
  rfl
 |true=>
  obtain ⟨hn,hs,hr,h63⟩:=isC_faces hi
  rw[hb,has_asc l f (by omega) hs]
  by_cases hf:f ∈ l
  ·have hfr:=hr f hf
   have hc:codeOf n l true=0:=by simp [codeOf,hi]
   have e1:decide (f ∈ l)=true:=decide_eq_true hf
   rw[e1,hc,if_pos rfl,part_filter hi]
   have:=specLink_loop n f n l hl l.length 0 k [] (by omega) (by omega) (by omega) (by simp)
   rw[show ((0:Nat):Int)=0 from rfl,List.nil_append,List.drop_zero] at this
   have e2:l.filter (fun x=>decide (Go.bits .and .i64 x f=0) && decide (Go.bits .or .i64 x f ∈ l))=l.filter (LinkOf_p l f):=by
    refine List.filter_congr fun x hx=>?_
    have hxr:=hr x hx
    show _=(Go.bits .and .i64 f x == 0 && hasB l (Go.bits .or .i64 f x))
    rw[has_asc l _ (by omega) hs,or_comm' x f (by omega) (by omega),and_comm' x f (by omega) (by omega)]
    rfl
   rw[e2] at this
   unfold spec_l01Link.f
   rw[this]
   rfl
  ·have e1:decide (f ∈ l)=false:=decide_eq_false hf
   have hc:codeOf n l false=2:=by simp [codeOf,hi]
   unfold partOf
   rw[e1,hc]
   rfl
end Go.Proofs.YtlhkdbkjafiikaaGreat.K
end

section
namespace Go.Proofs.YtlhkdbkjafiikaaGreat.K
open Go.RowKit Go.Shelf Go.Proofs.YtlhkdbkjafiikaaGreat.Q Go.Proofs.YtlhkdbkjafiikaaGreatW.PrintWords Go.Proofs.YtlhkdbkjafiikaaGreatW.PrintLast Go.Proofs.YtlhkdbkjafiikaaGreatW.PrintMore
set_option linter.unusedVariables false
set_option linter.unusedSimpArgs false
theorem specTake_loop (n f m:Int) (l:List Int) (hl:l.length≤2097152):∀(d i k:Nat) (acc:List Int),l.length - i=d→i≤l.length→d+l.length+1<k→acc.length≤i →
  spec_l01Take.l0 k f (i:Int) n l m acc=some (m,acc ++ (l.drop i).filter (fun x=>!decide (Go.bits .and .i64 x f=f))):=by
 intro d
 induction d with
 |zero=>
  intro i k acc hd hi hk ha
  obtain ⟨k,rfl⟩:∃ m,k=m+1:=⟨k - 1,by omega⟩
  obtain rfl:i=l.length:=by omega
  simp only [spec_l01Take.l0]
  rw[if_neg (by omega)]
  simp
 |succ d ih=>
  intro i k acc hd hi hk ha
  obtain ⟨k,rfl⟩:∃ m,k=m+1:=⟨k - 1,by omega⟩
  simp only [spec_l01Take.l0]
  have hil:i<l.length:=by omega
  have hin:=fun acc' (h:acc'.length≤i+1)=>ih (i+1) k acc' (by omega) (by omega) (by omega) h
  rw[if_pos (by omega),if_pos (by omega),rd_nat l i hil,w64 _ (by omega) (by omega),nat_succ,List.drop_eq_getElem_cons hil,List.filter_cons]
  by_cases h:Go.bits .and .i64 l[i] f=f
  ·rw[if_pos h]
   simp only [h,decide_true,Bool.not_true,Bool.false_eq_true,if_false]
   exact hin _ (by omega)
  ·rw[if_neg h]
   simp only [h,decide_false,Bool.not_false,if_true]
   rw[if_pos (show acc.length<17592186044416 by omega),hin _ (by simp;omega),List.append_assoc]
   rfl
theorem specTakeFace_is (n f:Int) (l:List Int) (hl:l.length≤2097152) (k:Nat) (hk:isK l+2≤k):spec_TakeFace.f k n l f=some (partOf n l (TakeFace_b n l f) (TakeFace_p l f)):=by
 have hk2:l.length+l.length+1<k:=by unfold isK at hk;omega
 unfold spec_TakeFace.f
 rw[specFace_is n l f hl k (by omega)]
 simp only [Option.bind_some]
 have hb:TakeFace_b n l f=hasB l f:=rfl
 cases hi:isC n l with
 |false=>
  have hc:∀ b,codeOf n l b=1:=fun b=>by simp [codeOf,hi]
  unfold partOf
  rw[hc,hc]
  rfl
 |true=>
  obtain ⟨hn,hs,hr,h63⟩:=isC_faces hi
  rw[hb,has_asc l f (by omega) hs]
  by_cases hf:f ∈ l
  ·have hfr:=hr f hf
   have hc:codeOf n l true=0:=by simp [codeOf,hi]
   have e1:decide (f ∈ l)=true:=decide_eq_true hf
   rw[e1,hc,if_pos rfl,part_filter hi]
   have:=specTake_loop n f n l hl l.length 0 k [] (by omega) (by omega) (by omega) (by simp)
   rw[show ((0:Nat):Int)=0 from rfl,List.nil_append,List.drop_zero] at this
   have e2:l.filter (fun x=>!decide (Go.bits .and .i64 x f=f))=l.filter (TakeFace_p l f):=by
    refine List.filter_congr fun x hx=>?_
    have hxr:=hr x hx
    show _=(!inB f x)
    rw[inB_is f x (by omega) (by omega),and_comm' x f (by omega) (by omega)]
   rw[e2] at this
   unfold spec_l01Take.f
   rw[this]
   rfl
  ·have e1:decide (f ∈ l)=false:=decide_eq_false hf
   have hc:codeOf n l false=2:=by simp [codeOf,hi]
   unfold partOf
   rw[e1,hc]
   rfl
end Go.Proofs.YtlhkdbkjafiikaaGreat.K
end

section
namespace Go.Proofs.YtlhkdbkjafiikaaGreat.K
open Go.RowKit Go.Shelf Go.Proofs.YtlhkdbkjafiikaaGreatW.PrintWords Go.Proofs.YtlhkdbkjafiikaaGreatW.PrintLast Go.Proofs.YtlhkdbkjafiikaaGreatW.PrintMore
set_option linter.unusedVariables false
set_option linter.unusedSimpArgs false
set_option maxHeartbeats 1000000 in
theorem PartOn1_calls (n f:Int) (hn:1≤n∧n≤6) (Bk Bf:Nat) (A:Option Addr) (c:Nat) (l:List Int) (w:World) (hb:CB w Bk n (.slice A l.length c)) (hf:w.cell? ⟨Bf,0,none⟩=some (I f)) (hk:Kx w A c l) :
  Calls Tryz.prog 92 #[.pointer (some ⟨Bf,0,none⟩),.pointer (some ⟨Bk,0,none⟩)] w fun e w'=>e = .returned (.bool (decide (0≤f∧f≤fullOf n)))∧Grew w w':=by
 have k0:=hb.c0
 have k1:=hb.c1
 have hlk:Bk<w.heap.size:=World.block_lt_of_cell? w _ k0
 have hlf:Bf<w.heap.size:=World.block_lt_of_cell? w _ hf
 have HK:=Aside0.mk hk
 have H2:=Aside0.mk (within_calls f 0 (fullOf n) _ rfl)
 generalize decide (0≤f∧f≤fullOf n)=r at H2 ⊢
 clear hk hb
 go_enter Tryz.func92,Tryz.ntmps92
 go_wp2_with fail
 go_region_held3 (fun w'=>w'.cell? ⟨Bk,0,none⟩=some (I n)∧w'.cell? ⟨Bk,1,none⟩=some (.slice A l.length c)∧w'.cell? ⟨Bf,0,none⟩=some (I f))
  (first|exact⟨(HG2.out.cell (p:=⟨Bk,0,none⟩) hlk).trans k0,(HG2.out.cell (p:=⟨Bk,1,none⟩) hlk).trans k1,(HG2.out.cell (p:=⟨Bf,0,none⟩) hlf).trans hf⟩|exact⟨(HG.out.cell (p:=⟨Bk,0,none⟩) hlk).trans k0,(HG.out.cell (p:=⟨Bk,1,none⟩) hlk).trans k1,(HG.out.cell (p:=⟨Bf,0,none⟩) hlf).trans hf⟩|go_keep)
  (first
   |(go_at_call 79;refine(full_calls n A c l _ (by omega) (by omega) (Kd.C_below HK.out.r ((Below.refl _ w).drew)) HK.out.c).mono ?_;rintro e w1 ⟨rfl,hG⟩;have HG:Aside0 (Grew w w1):=⟨Below.trans ((Below.refl _ w).drew) hG⟩;clear hG)
   |(go_at_call 93;refine(H2.out _).mono ?_;rintro e w2 ⟨rfl,hG2⟩;have HG2:Aside0 (Grew w w2):=⟨Grew.trans HG.out hG2⟩;clear hG2))
 all_goals (go_wp2_with fail;go_ret;exact⟨rfl,HG2.out⟩)
set_option maxHeartbeats 1000000 in
theorem PartOn2_calls (x n f:Int) (Bk Bf:Nat) (A:Option Addr) (c:Nat) (l:List Int) (w:World) (hb:CB w Bk n (.slice A l.length c)) (hf:w.cell? ⟨Bf,0,none⟩=some (I f)) (hk:Kx w A c l) :
  Calls Tryz.prog 94 (#[I x] ++ #[.pointer (some ⟨Bf,0,none⟩)]) w fun e w'=>e = .returned (.bool (inB x f))∧Grew w w':=by
 have H:=Aside0.mk (isIn_calls x f w)
 clear hk hb
 go_enter Tryz.func94,Tryz.ntmps94
 go_wp2_with fail
 refine H.out.mono ?_
 rintro e w1 ⟨rfl,hG1⟩
 go_wp2_with fail
 go_ret
 exact⟨rfl,hG1⟩
def PartOn_b (n:Int) (l:List Int) (f:Int):Bool:=decide (0≤f∧f≤fullOf n)
def PartOn_p (l:List Int) (f x:Int):Bool:=inB x f
set_option maxHeartbeats 2000000 in
theorem PartOn_calls (n:Int) (A:Option Addr) (c:Nat) (l:List Int) (f:Int) (w:World) (hk:Kx w A c l) :
  Calls Tryz.prog 29 #[.agg #[I n,.slice A l.length c],I f] w fun e w'=>∃ v,e = .returned (.tuple #[.agg #[I (partOf n l (PartOn_b n l f) (PartOn_p l f)).1,v],I (partOf n l (PartOn_b n l f) (PartOn_p l f)).2.2])∧Ki.R 2 w' w.heap.size (fun _=>True) v (partOf n l (PartOn_b n l f) (PartOn_p l f)).2.1∧Grew w w':=by
 obtain ⟨W3,hW3⟩:∃ W3,W3=((w.alloc (.cells #[I n,.slice A l.length c] 26)).alloc (.cells #[I f] 2)).alloc (.cells #[I 0,.slice none 0 0] 26):=⟨_,rfl⟩
 have hB:CB W3 w.heap.size n (.slice A l.length c):=by rw[hW3];exact blk_alloc (blk_alloc (blk_new w _) _) _
 have hF:W3.heap[w.heap.size+1]?=some (.cells #[I f] 2 (0,0)):=by
  rw[hW3]
  refine blk_alloc ?_ _
  have:=blk_new (w.alloc (.cells #[I n,.slice A l.length c] 26)) (.cells #[I f] 2)
  rwa [World.size_alloc] at this
 have hO:CB W3 (w.heap.size+2) 0 (.slice none 0 0):=by
  rw[hW3]
  have:=blk_new ((w.alloc (.cells #[I n,.slice A l.length c] 26)).alloc (.cells #[I f] 2)) (.cells #[I 0,.slice none 0 0] 26)
  rwa [World.size_alloc,World.size_alloc] at this
 have hg:Grew w W3:=by rw[hW3];exact below_alloc (below_alloc (below_alloc (Grew.refl w) _) _) _
 have H:=Aside0.mk (complexCode_calls (PartOn_b n l f) n A c l 92 #[] #[.pointer (some ⟨w.heap.size+1,0,none⟩),.pointer (some ⟨w.heap.size,0,none⟩)] W3 (hk.later hg) (enters_of Tryz.func92 (by kernel_rfl) rfl)
  (fun hi W hW=>by
   have:=PartOn1_calls n f (isC_size hi) w.heap.size (w.heap.size+1) A c l W (blk_below hB hW) (blk_cell (blk_below hF hW) 0) (hk.later (Grew.trans hg hW))
   rw[Array.empty_append]
   exact this))
 obtain ⟨r,hr⟩:∃ r,r=partOf n l (PartOn_b n l f) (PartOn_p l f):=⟨_,rfl⟩
 rw[← hr]
 have k0:=hB.c0
 have k1:=hB.c1
 have HK:=Aside0.mk hk
 have HB:=Aside0.mk hB
 have HF:=Aside0.mk hF
 have HO:=Aside0.mk hO
 have HG:=Aside0.mk hg
 clear hk hB hF hO hg
 obtain ⟨cc,hcc⟩:∃ cc,cc=codeOf n l (PartOn_b n l f):=⟨_,rfl⟩
 rw[← hcc] at H
 by_cases hz:cc=0
 ·subst hz
  obtain ⟨hi,hb⟩:=codeOf_zero hcc.symm
  have HN:=Aside0.mk (isC_size hi)
  have HV:Aside0 (r=(n,thoseL n (fun x=>hasB l x && PartOn_p l f x),0)):=⟨by rw[hr];unfold partOf;rw[if_pos hcc.symm]⟩
  clear hr hcc hi hb
  subst hW3
  go_enter Tryz.func29,Tryz.ntmps29
  go_wp2_with fail
  refine H.out.mono ?_
  rintro e w1 ⟨rfl,hG1⟩
  have HB1:=Aside0.mk (blk_below HB.out hG1)
  have HF1:=Aside0.mk (blk_below HF.out hG1)
  have HO1:=Aside0.mk (blk_below HO.out hG1)
  have HG1:=Aside0.mk (Grew.trans HG.out hG1)
  have H2:=Aside0.mk (part_calls (PartOn_p l f) n (by have:=HN.out;omega) A c l 94 #[] #[.pointer (some ⟨w.heap.size+1,0,none⟩)] w1 (HK.out.later HG1.out) (enters_of Tryz.func94 (by kernel_rfl) rfl)
   (fun x _ _ _ W hW=>PartOn2_calls x n f w.heap.size (w.heap.size+1) A c l W (blk_below HB1.out hW) (blk_cell (blk_below HF1.out hW) 0) (HK.out.later (Grew.trans HG1.out hW))))
  have k0:w1.cell? ⟨w.heap.size,0,none⟩=some (I n):=blk_cell HB1.out 0
  have k1:w1.cell? ⟨w.heap.size,1,none⟩=some (.slice A l.length c):=blk_cell HB1.out 1
  clear hG1
  go_wp2_with fail
  refine H2.out.mono ?_
  rintro e w2 ⟨v,rfl,hR,hG⟩
  clear k0 k1
  have hB2:CB w2 (w.heap.size+2) 0 (.slice none 0 0):=blk_below HO1.out hG
  have HB2:=Aside0.mk hB2
  have HR2:=Aside0.mk hR
  have HG2:=Aside0.mk (Grew.trans HG1.out hG)
  have hsz:=HG1.out.size
  have k0:=hB2.c0
  have k1:=hB2.c1
  have f0:=blk_frozen hB2 0
  have f1:=blk_frozen hB2 1
  obtain ⟨A2,c2,e2⟩:=Kd.R_slice hR
  subst e2
  clear hB2 hR hG
  go_wp2_with fail
  refine bodyPost_ret (results_ct rfl _ _ (w.heap.size+2) 26 #[I n,_] (0,0) _ rfl HB2.out.set Tryz.underlying26 rfl (by kernel_rfl)) rfl ?_
  rw[HV.out]
  exact⟨_,rfl,Kd.R_lower (Ri.setCB2 HR2.out HB2.out) hsz,below_set (below_set HG2.out (by omega)) (by omega)⟩
 ·have HV:Aside0 (r=(0,[],cc)):=⟨by rw[hr,hcc];unfold partOf;rw[if_neg (by rw[← hcc];exact hz)]⟩
  clear hr hcc
  subst hW3
  go_enter Tryz.func29,Tryz.ntmps29
  go_wp2_with fail
  refine H.out.mono ?_
  rintro e w1 ⟨rfl,hG1⟩
  clear k0 k1
  have hB1:CB w1 (w.heap.size+2) 0 (.slice none 0 0):=blk_below HO.out hG1
  have HB1:=Aside0.mk hB1
  have HG1:=Aside0.mk (Grew.trans HG.out hG1)
  have k0:=hB1.c0
  have k1:=hB1.c1
  have f0:=blk_frozen hB1 0
  have f1:=blk_frozen hB1 1
  clear hB1 hG1
  go_wp2_with fail
  refine bodyPost_ret (results_ct rfl _ _ (w.heap.size+2) 26 #[I 0,.slice none 0 0] (0,0) _ rfl HB1.out.set Tryz.underlying26 rfl (by kernel_rfl)) rfl ?_
  rw[HV.out]
  exact⟨_,rfl,Kd.R_nil _ _ _ _ _,below_set (below_set HG1.out (by omega)) (by omega)⟩
end Go.Proofs.YtlhkdbkjafiikaaGreat.K
end

section
namespace Go.Proofs.YtlhkdbkjafiikaaGreat.Q
open Go.RowKit Go.Proofs.YtlhkdbkjafiikaaGreatW.PrintWords Go.Proofs.YtlhkdbkjafiikaaGreatW.PrintLast Go.Proofs.YtlhkdbkjafiikaaGreatW.PrintMore
attribute [local go_sem] max2_int min2_int max_two min_two max_three min_three max_four min_four
set_option linter.unusedVariables false
set_option linter.unusedSimpArgs false
def spec_l01On.l0:Nat→Int→Int→Int→List Int→Int→List Int→Option (Int×List Int)
 |0,_,_,_,_,_,_=>none
 |k+1,x1,x6,x276000,x276001,x281000,x281001=>if x6<(x276001.length:Int) then (if 0≤x6 then (if (Go.bits .and .i64 (rd x276001 x6) x1)=(rd x276001 x6) then (if x281001.length<17592186044416 then (spec_l01On.l0 k x1 (wrap64 (x6+1)) x276000 x276001 x281000 (x281001 ++ [rd x276001 x6])) else (none)) else (spec_l01On.l0 k x1 (wrap64 (x6+1)) x276000 x276001 x281000 x281001)) else (none)) else (some (x281000,x281001))
def spec_l01On.f (k:Nat) (a0_0:Int) (l0_1:List Int) (a1:Int):Option (Int×List Int):=spec_l01On.l0 k a1 0 a0_0 l0_1 a0_0 (([]:List Int))
theorem spec_l01On.mono_l:∀ k,(∀ y0 y1 y2 y3 y4 y5,LeO (spec_l01On.l0 k y0 y1 y2 y3 y4 y5) (spec_l01On.l0 (k+1) y0 y1 y2 y3 y4 y5))
 |0=>fun _ _ _ _ _ _ r h=>by simp [spec_l01On.l0] at h
 |k+1=>by
  have ih0:=spec_l01On.mono_l k
  ·intro y0 y1 y2 y3 y4 y5;unfold spec_l01On.l0;repeat' first
   |(with_reducible first|exact ih0 _ _ _ _ _ _|exact LeO.refl _|exact LeO.none _|refine LeO.ite ?_ ?_|refine LeO.bind ?_ (fun _=>?_))
theorem spec_l01On.mono:∀ a0 a1 a2 k,LeO (spec_l01On.f k a0 a1 a2) (spec_l01On.f (k+1) a0 a1 a2):=by
 intro a0 a1 a2 k;have ih0:=spec_l01On.mono_l k;unfold spec_l01On.f;repeat' first
   |(with_reducible first|exact ih0 _ _ _ _ _ _|exact LeO.refl _|exact LeO.none _|refine LeO.ite ?_ ?_|refine LeO.bind ?_ (fun _=>?_))
def spec_l01On.T5:Bool×List (List Nat×List Nat):=(true,[([],[]),([0],[0]),([],[]),([1,2],[1,2]),([3],[3]),([],[]),([4,5],[4,5]),([],[]),([7],[7]),([],[]),([8,9],[8,9]),([10],[10]),([6,11],[6,11])])
def spec_l01On.B5:List Nat:= [0,1,0,7,15,0,63,0,128,0,896,1920,4095]
theorem spec_l01On.tab5:rtab .any (opsOf Tryz.f96 5)=spec_l01On.T5:=by kernel_rfl
theorem spec_l01On.bits5:waitsOk spec_l01On.T5.2 spec_l01On.B5=true:=by kernel_rfl
def spec_l01On.T6:Bool×List (List Nat×List Nat):=(true,[([],[]),([0],[0]),([],[]),([2],[2]),([],[]),([3,4],[3,4]),([5],[5]),([6],[6]),([1,7],[1,7]),([0,1,2,3,4,5,6,7,8],[]),([9,8,8,0,1,2,3,4,5,6,7,8],[8,9])])
def spec_l01On.B6:List Nat:= [0,1,0,4,0,28,60,124,255,511,1023]
theorem spec_l01On.tab6:rtab .any (opsOf Tryz.f96 6)=spec_l01On.T6:=by kernel_rfl
theorem spec_l01On.bits6:waitsOk spec_l01On.T6.2 spec_l01On.B6=true:=by kernel_rfl
set_option maxHeartbeats 8000000 in
set_option maxRecDepth 100000 in
theorem spec_l01On.calls (k:Nat) (a0_0:Int) (A0_1:Option Addr) (c0_1:Nat) (l0_1:List Int) (a1:Int) (r1:Int) (r2:List Int) (w:World) (hr0_1:Kd.C (Kd.int .i64) w A0_1 l0_1.length l0_1) (hc0_1:l0_1.length≤c0_1) (h:spec_l01On.f k a0_0 l0_1 a1=some (r1,r2)) :
  Calls Tryz.prog 96 #[.agg #[.int .i64 a0_0,.slice A0_1 l0_1.length c0_1],.int .i64 a1] w fun e w'=>∃ v1_:Value,e = .returned (.agg #[.int .i64 r1,v1_])∧Kd.R (Kd.int .i64) 2 w' w.heap.size (fun _=>True) v1_ r2∧Below w.heap.size w w':=by
 have hu26:=Tryz.underlying26;have HR0_1:=Aside0.mk hr0_1;have HC0_1:=Aside0.mk hc0_1;clear hr0_1 hc0_1;have HB:=Aside0.mk (Below.refl w.heap.size w);have H:(spec_l01On.l0 k a1 0 a0_0 l0_1 a0_0 (([]:List Int)))=some (r1,r2):=h;clear h;obtain ⟨y277,hy277⟩:∃ y_:List Int,y_=(([]:List Int)):=⟨_,rfl⟩
 replace H:(spec_l01On.l0 k a1 0 a0_0 l0_1 a0_0 y277)=some (r1,r2):=by first|(rw[hy277];with_reducible exact H)|(have H2_:=(Option.bind_some _ _).symm.trans H;rw[hy277];with_reducible exact H2_)|(have H2_:=(Option.bind_some _ _).symm.trans H;with_reducible exact H2_)|with_reducible exact H|(rw[hy277];exact H)|exact H
 have Ny277:=Aside0.mk hy277;clear hy277;have H':=Aside0.mk H;clear H;go_enter Tryz.func96,Tryz.ntmps96;go_wp2_with (first|((with_reducible refine gate_dst (N:=2) rfl ?_);refine bx 2 #[.int .i64 a0_0,.slice A0_1 l0_1.length c0_1] 26 ?_;intro gb275 hg w3 hbox hb;have BK275:=Aside0.mk (hbox);have GE275:=gzA hg HB;replace HB:=bsA HB hb;clear hb hbox hg)|((with_reducible refine gate_dst (N:=4) rfl ?_);refine bx 4 #[.int .i64 0,.slice none 0 0] 26 ?_;intro gb276 hg w4 hbox hb;have BK276:=Aside0.mk (hbox);have GE276:=gzA hg HB;replace HB:=bsA HB hb;have NB275_276:=nlA hg BK275;have NB276_275:=ngA hg BK275;replace BK275:=bkA BK275 hb;clear hb hbox hg;have hnb5:=NB275_276.out;have hnc5:=NB276_275.out;have hcz6_0:=z0_ BK275;have hcz6_1:=z1_ BK275;have hfz6_0:=hf_ BK275 0;have hfz6_1:=hf_ BK275 1)|((with_reducible refine gate_dst (N:=9) rfl ?_);refine Kd.R_lit (Kd.int .i64) _ 2 ?hg (N:=9) ?hd (xs:=([]:List Int)) (inner:= []) (ok:=fun _=>True) (okp:=fun _=>True) ?hr ?hp (fun _ hk=>hk) trivial (Below.refl _ _) (Nat.le_refl _) (by simp) ?_;(case hd=>rfl);(case hg=>rfl);(case hr=>first|(go_simp;done)|(go_simp;rfl));(case hp=>exact(Reps.none _ _));intro v278 w7 ho8 hb hg_ hnew_;clear hg_ hnew_;(first|rw[← Ny277.out] at ho8|(simp only [Int.reduceToNat] at ho8;rw[← Ny277.out] at ho8));have HO279:=klA ho8 HB;replace BK275:=bkA BK275 hb;replace BK276:=bkA BK276 hb;replace HB:=bsA HB hb;clear hb ho8;obtain ⟨Ao9,co9,eo9⟩:=Kd.R_slice HO279.out;subst eo9)|((with_reducible refine gate_dst (N:=5) rfl ?_);refine bx 5 #[.int .i64 0,.slice none 0 0] 26 ?_;intro gb280 hg w10 hbox hb;replace HO279:=krA HO279 hb;have BK280:=Aside0.mk (hbox);have GE280:=gzA hg HB;replace HB:=bsA HB hb;have NB275_280:=nlA hg BK275;have NB280_275:=ngA hg BK275;replace BK275:=bkA BK275 hb;have NB276_280:=nlA hg BK276;have NB280_276:=ngA hg BK276;replace BK276:=bkA BK276 hb;clear hb hbox hg;have hnb11:=NB280_275.out;have hnc11:=NB275_280.out;have hnb12:=NB280_276.out;have hnc12:=NB276_280.out;have hcz13_0:=z0_ BK280;have hcz13_1:=z1_ BK280;have hfz13_0:=hf_ BK280 0;have hfz13_1:=hf_ BK280 1))
 go_loopg [6] k (fun kq v6 w'=>∃(x6_1:Int) (x281001_1:List Int) (u281001:Value),v6 = .int .i64 x6_1∧Aside0 (spec_l01On.l0 kq a1 x6_1 a0_0 l0_1 a0_0 x281001_1=some (r1,r2))∧Aside0 (kq≤k)∧Aside0 (Kd.R (Kd.int .i64) 2 w' w.heap.size (fun _=>True) u281001 x281001_1)∧Aside0 (w'.heap[gb275]?=some (.cells #[.int .i64 a0_0,(.slice A0_1 l0_1.length c0_1)] 26 (0,0)))∧Aside0 (w'.heap[gb276]?=some (.cells #[.int .i64 0,(.slice none 0 0)] 26 (0,0)))∧Aside0 (w'.heap[gb280]?=some (.cells #[.int .i64 a0_0,u281001] 26 (0,0)))∧Aside0 (Below w.heap.size w w'))
 case atStart=>exact⟨(0),(y277),(.slice Ao9 y277.length co9),rs,H',⟨Nat.le_refl _⟩,⟨by(with_reducible repeat(first|apply Kd.R_alloc|apply Kd.R_drewN|apply Kd.R_drew));exact Kd.R_mono (Kd.R_far (p:=⟨gb280,1,none⟩) (Kd.R_far (p:=⟨gb280,0,none⟩) (Kd.R_types HO279.out BK280.out (by decide)) (fun _ hk=>hk.2) (.int .i64 a0_0)) (fun _ hk=>hk.2) (.slice Ao9 y277.length co9)) (fun _ hk=>trivial)⟩,⟨bp BK275.out⟩,⟨bp BK276.out⟩,⟨bp BK280.out⟩,⟨bl HB.out⟩⟩
 case round=>
  clear H';try clear c1
  try clear p2
  try clear c5
  try clear c9
  try clear c11
  try clear c12
  try clear hcz13_0
  try clear hcz13_1
  try clear hcz6_0
  try clear hcz6_1
  try clear hfz13_0
  try clear hfz13_1
  try clear hfz6_0
  try clear hfz6_1
  obtain ⟨x6_1,x281001_1,u281001,rfl,HA,HK1,HO_281001,BK275,BK276,BK280,HB⟩:=hrel;cases gk with
  |zero=>exact absurd HA.out (by simp [spec_l01On.l0])
  |succ k1=>
   have H:=HA.out;clear HA;simp only [spec_l01On.l0] at H;by_cases c14:x6_1<(l0_1.length:Int)
   ·rw[if_pos c14] at H;have c14b0:decide (x6_1<(l0_1.length:Int))=true:=decide_eq_true c14;clear c14;by_cases c15:0≤x6_1
    ·rw[if_pos c15] at H;have c15b0:decide (0≤x6_1)=true:=decide_eq_true c15;clear c15;by_cases c16:(Go.bits .and .i64 (rd l0_1 x6_1) a1)=(rd l0_1 x6_1)
     ·rw[if_pos c16] at H;have c16b0:((Go.bits .and .i64 (rd l0_1 x6_1) a1) == (rd l0_1 x6_1))=true:=beq_iff_eq.mpr c16;have c16b1:((Go.bits .and .i64 (rd l0_1 x6_1) a1) != (rd l0_1 x6_1))=false:=bne_eq_false_iff_eq.mpr c16;clear c16;by_cases c17:x281001_1.length<17592186044416
      ·rw[if_pos c17] at H;have LMc17:=Aside0.mk c17;clear c17;obtain ⟨y284,hy284⟩:∃ y_:List Int,y_=(x281001_1 ++ [rd l0_1 x6_1]):=⟨_,rfl⟩
       replace H:(spec_l01On.l0 k1 a1 (wrap64 (x6_1+1)) a0_0 l0_1 a0_0 y284)=some (r1,r2):=by first|(rw[hy284];with_reducible exact H)|(have H2_:=(Option.bind_some _ _).symm.trans H;rw[hy284];with_reducible exact H2_)|(have H2_:=(Option.bind_some _ _).symm.trans H;with_reducible exact H2_)|with_reducible exact H|(rw[hy284];exact H)|exact H
       have Ny284:=Aside0.mk hy284;clear hy284;have H':=Aside0.mk H;clear H;have hnb18:=NB275_276.out;have hnc18:=NB276_275.out;have hnb19:=NB275_280.out;have hnc19:=NB280_275.out;have hcz20_0:=z0_ BK275;have hcz20_1:=z1_ BK275;have hfz20_0:=hf_ BK275 0;have hfz20_1:=hf_ BK275 1;try go_wp2
       replace HO_281001:=Aside0.mk (Kd.R_drew HO_281001.out);replace BK275:=Aside0.mk (blk_drew BK275.out);replace BK276:=Aside0.mk (blk_drew BK276.out);replace BK280:=Aside0.mk (blk_drew BK280.out);replace HB:=Aside0.mk (below_drew1 HB.out);have p281:0≤(x6_1:Int):=dd;have q281:x6_1<(l0_1.length:Int):=dd;obtain ⟨ad281,e281,hx281_0⟩:=Kd.at_int HR0_1.out x6_1 p281 q281;have hw281_0:=hx281_0;cases e281;replace hx281_0:=hx_ HB hx281_0;replace p281:=eq_true p281;replace q281:=eq_true q281;have p282:0≤(x6_1:Int):=dd;have q282:x6_1<(l0_1.length:Int):=dd;obtain ⟨ad282,e282,hx282_0⟩:=Kd.at_int HR0_1.out x6_1 p282 q282;have hw282_0:=hx282_0;obtain rfl:ad281=ad282:=(by injection e282)
       replace hx282_0:=hx_ HB hx282_0;replace p282:=eq_true p282;replace q282:=eq_true q282;refine start_ (n:=13) (S:=fun w'=>w'.cell? ⟨gb275,0,none⟩=some (.int .i64 a0_0)∧w'.cell? ⟨gb275,1,none⟩=some (.slice (some ad281) l0_1.length c0_1)∧w'.cell? (ad281.add (x6_1).toNat)=some (.int .i64 (rd l0_1 x6_1))∧w'.cell? (ad281.add (x6_1).toNat)=some (.int .i64 (rd l0_1 x6_1))) (ds:= []) (ar 0 13) (by kernel_rfl) rfl rfl ⟨(blk_cell BK275.out 0).trans rfl,(blk_cell BK275.out 1).trans rfl,hx_ HB hw281_0,hx_ HB hw282_0⟩ (fun hHeld=>?_);refine with_tabW spec_l01On.tab5 spec_l01On.bits5 (fun HT_ HW_=>?_);generalize wr.drew=w21 at HO_281001 BK275 BK276 BK280 HB hx281_0 hx282_0 hHeld ⊢;refine pu 0 (some 18) (ar 1 12) HT_ ?_;refine pu 2 (some 20) #[U,O,U,O,O,O,O,O,O,O,O,O,O] HT_ ?_;refine pu 5 (some 23) #[U,O,U,O,O,U,O,O,O,O,O,O,O] HT_ ?_;refine pu 7 (some 25) #[U,O,U,O,O,U,O,U,O,O,O,O,O] HT_ ?_;refine pu 9 (some 27) #[U,O,U,O,O,U,O,U,O,U,O,O,O] HT_ ?_;refine tk 1 (some 19) #[U,U,U,O,O,U,O,U,O,U,O,O,O] HT_ HW_ hHeld ?_;refine pu 3 (some 21) #[U,U,U,U,O,U,O,U,O,U,O,O,O] HT_ ?_;refine tk 4 (some 22) #[U,U,U,U,U,U,O,U,O,U,O,O,O] HT_ HW_ hHeld ?_;refine pu 6 (some 24) #[U,U,U,U,U,U,U,U,O,U,O,O,O] HT_ ?_;refine tk 8 (some 26) (ar 10 3) HT_ HW_ hHeld ?_;refine pu 10 (some 28) (ar 11 2) HT_ ?_;refine tk 11 (some 29) (ar 12 1) HT_ HW_ hHeld ?_;refine pu 12 (some 30) (ar 13 0) HT_ ?_;refine done_ (done_of HT_.out (by kernel_rfl)) ?_;try go_wp2
       replace HO_281001:=Aside0.mk (Kd.R_drew HO_281001.out);replace BK275:=Aside0.mk (blk_drew BK275.out);replace BK276:=Aside0.mk (blk_drew BK276.out);replace BK280:=Aside0.mk (blk_drew BK280.out);replace HB:=Aside0.mk (below_drew1 HB.out);have p283:0≤(x6_1:Int):=dd;have q283:x6_1<(l0_1.length:Int):=dd;obtain ⟨ad283,e283,hx283_0⟩:=Kd.at_int HR0_1.out x6_1 p283 q283;have hw283_0:=hx283_0;obtain rfl:ad281=ad283:=(by injection e283)
       replace hx283_0:=hx_ HB hx283_0;replace p283:=eq_true p283;replace q283:=eq_true q283;refine start_ (n:=11) (S:=fun w'=>w'.cell? ⟨gb280,0,none⟩=some (.int .i64 a0_0)∧w'.cell? ⟨gb280,1,none⟩=some (u281001)∧w'.cell? ⟨gb275,0,none⟩=some (.int .i64 a0_0)∧w'.cell? ⟨gb275,1,none⟩=some (.slice (some ad281) l0_1.length c0_1)∧w'.cell? (ad281.add (x6_1).toNat)=some (.int .i64 (rd l0_1 x6_1))) (ds:= [10]) (ar 0 11) (by kernel_rfl) rfl rfl ⟨(blk_cell BK280.out 0).trans rfl,(blk_cell BK280.out 1).trans rfl,(blk_cell BK275.out 0).trans rfl,(blk_cell BK275.out 1).trans rfl,hx_ HB hw283_0⟩ (fun hHeld=>?_);refine with_tabW spec_l01On.tab6 spec_l01On.bits6 (fun HT_ HW_=>?_);generalize w21.drew=w22 at HO_281001 BK275 BK276 BK280 HB hx283_0 hHeld ⊢;refine pu 0 (some 31) (ar 1 10) HT_ ?_;refine pu 2 (some 33) #[U,O,U,O,O,O,O,O,O,O,O] HT_ ?_;refine pu 4 (some 35) #[U,O,U,O,U,O,O,O,O,O,O] HT_ ?_;refine tk 1 (some 32) #[U,U,U,O,U,O,O,O,O,O,O] HT_ HW_ hHeld ?_;refine tk 3 (some 34) (ar 5 6) HT_ HW_ hHeld ?_;refine pu 5 (some 36) (ar 6 5) HT_ ?_;refine tk 6 (some 37) (ar 7 4) HT_ HW_ hHeld ?_;refine on_ 7 (some 38) (ar 8 3) HT_ fun K hK=>?_;refine value_ (w1:=?_) (v:=?_) (by rfl) rfl ?_ ?_;rotate_left 2
       ·go_simp;constructor
        ·rfl
        ·rfl
       refine hK.out _ _ ⟨(blk_cell (blk_alloc BK280.out _) 0).trans rfl,(blk_cell (blk_alloc BK280.out _) 1).trans rfl,(blk_cell (blk_alloc BK275.out _) 0).trans rfl,(blk_cell (blk_alloc BK275.out _) 1).trans rfl,(World.cell?_alloc_lt _ _ _ (World.block_lt_of_cell? _ _ ((hx_ HB hw283_0)))).trans ((hx_ HB hw283_0))⟩ (fun hHeld=>?_);clear hK K;refine nr 38 ?_;refine on_ 8 (some 39) (ar 9 2) HT_ fun K hK=>?_;refine Kd.R_append_step (Kd.int .i64) (w0:=w) w.heap.size (by rfl) (.tmp 32) (.tmp 38) 24 2 (.int .i64 0) 8 rfl Tryz.underlying24 info2 rfl (by decide) (by omega) u281001 x281001_1 (rd l0_1 x6_1) [.int .i64 (rd l0_1 x6_1)] (fun _=>True) (fun _=>False) rfl rfl ?aP (fun _ hk=>hk.elim) ?aF ?aO ?aB ?aS ?aL ?_;(case aP=>exact rfl)
       (case aB=>exact(bl HB.out))
       (case aF=>exact(fun _ _=>trivial))
       (case aO=>exact(kr HO_281001.out))
       (case aS=>exact(below_size (bl HB.out)))
       (case aL=>have:=LMc17.out;omega)
       intro v285 w23 ho hb hg hat;rw[← Ny284.out] at ho;have n0_:=Aside0.mk (blk_grown (bk BK275.out) hg (Kd.R_ne HO_281001.out BK275.out (by decide)));have n1_:=Aside0.mk (blk_grown (bk BK276.out) hg (Kd.R_ne HO_281001.out BK276.out (by decide)));have n2_:=Aside0.mk (blk_grown (bk BK280.out) hg (Kd.R_ne HO_281001.out BK280.out (by decide)));have n3_:=Aside0.mk (hb);have n4_:=Aside0.mk (ho);clear BK275;clear BK276;clear BK280;clear HB;clear HO_281001;have BK275:=n0_;have BK276:=n1_;have BK280:=n2_;have HB:=n3_;have HO286:=n4_;clear n0_ n1_ n2_ n3_ n4_;clear ho hb hg hat;obtain ⟨Ao24,co24,eo24⟩:=Kd.R_slice HO286.out;(first|subst eo24|(injection eo24 with f1_ f2_ f3_;have f4_:=f1_.symm;have f5_:=f3_.symm;clear f1_ f2_ f3_;subst f4_;subst f5_))
       refine hK.out _ _ ⟨(blk_cell BK280.out 0).trans rfl,(blk_cell BK280.out 1).trans rfl,(blk_cell BK275.out 0).trans rfl,(blk_cell BK275.out 1).trans rfl,hx_ HB hw283_0⟩ (fun hHeld=>?_);clear hK K;refine nr 39 ?_;refine pu 9 (some 40) (ar 10 1) HT_ ?_;refine last_ (i:=10) (N:=none) (ar 11 0) rfl rfl (one_of HT_.out (by kernel_rfl)) (by decide) (fun K hK=>?_);have hs25:w23.cell? ⟨gb280,1,none⟩=some (u281001):=(blk_cell BK280.out 1).trans rfl;have hfs25:=blk_frozen BK280.out 1;have hns25_0:=NB275_280.out;have hns25_1:=NB276_280.out;have hms25_0:=NB280_275.out;have hms25_1:=NB280_276.out;refine skip_ (w1:=?_) (by rfl) rfl ?_ ?_;rotate_left
       ·go_simp;rfl
       refine hK.out _ _ ?_;clear hK K;refine done_ (done_of HT_.out (by kernel_rfl)) ?_;try go_wp2
       go_roundg k1
       case measure=>have:=HK1.out;omega
       case rel=>exact⟨(wrap64 (x6_1+1)),(y284),(.slice Ao24 y284.length co24),rs,H',⟨by have:=HK1.out;omega⟩,⟨by(with_reducible repeat(first|apply Kd.R_alloc|apply Kd.R_drewN|apply Kd.R_drew));exact Kd.R_mono (Kd.R_far (p:=⟨gb280,1,none⟩) (Kd.R_types HO286.out BK280.out (by decide)) (fun _ hk=>hk.2) (.slice Ao24 y284.length co24)) (fun _ hk=>trivial)⟩,⟨bp BK275.out⟩,⟨bp BK276.out⟩,⟨bp BK280.out⟩,⟨bl HB.out⟩⟩
      ·rw[if_neg c17] at H;exact absurd H (by simp)
     ·rw[if_neg c16] at H;have c16b0:((Go.bits .and .i64 (rd l0_1 x6_1) a1) == (rd l0_1 x6_1))=false:=beq_eq_false_iff_ne.mpr c16;have c16b1:((Go.bits .and .i64 (rd l0_1 x6_1) a1) != (rd l0_1 x6_1))=true:=bne_iff_ne.mpr c16;have H':=Aside0.mk H;clear H;have hnb26:=NB275_276.out;have hnc26:=NB276_275.out;have hnb27:=NB275_280.out;have hnc27:=NB280_275.out;have hcz28_0:=z0_ BK275;have hcz28_1:=z1_ BK275;have hfz28_0:=hf_ BK275 0;have hfz28_1:=hf_ BK275 1;try go_wp2
      replace HO_281001:=Aside0.mk (Kd.R_drew HO_281001.out);replace BK275:=Aside0.mk (blk_drew BK275.out);replace BK276:=Aside0.mk (blk_drew BK276.out);replace BK280:=Aside0.mk (blk_drew BK280.out);replace HB:=Aside0.mk (below_drew1 HB.out);have p281:0≤(x6_1:Int):=dd;have q281:x6_1<(l0_1.length:Int):=dd;obtain ⟨ad281,e281,hx281_0⟩:=Kd.at_int HR0_1.out x6_1 p281 q281;have hw281_0:=hx281_0;cases e281;replace hx281_0:=hx_ HB hx281_0;replace p281:=eq_true p281;replace q281:=eq_true q281;have p282:0≤(x6_1:Int):=dd;have q282:x6_1<(l0_1.length:Int):=dd;obtain ⟨ad282,e282,hx282_0⟩:=Kd.at_int HR0_1.out x6_1 p282 q282;have hw282_0:=hx282_0;obtain rfl:ad281=ad282:=(by injection e282)
      replace hx282_0:=hx_ HB hx282_0;replace p282:=eq_true p282;replace q282:=eq_true q282;refine start_ (n:=13) (S:=fun w'=>w'.cell? ⟨gb275,0,none⟩=some (.int .i64 a0_0)∧w'.cell? ⟨gb275,1,none⟩=some (.slice (some ad281) l0_1.length c0_1)∧w'.cell? (ad281.add (x6_1).toNat)=some (.int .i64 (rd l0_1 x6_1))∧w'.cell? (ad281.add (x6_1).toNat)=some (.int .i64 (rd l0_1 x6_1))) (ds:= []) (ar 0 13) (by kernel_rfl) rfl rfl ⟨(blk_cell BK275.out 0).trans rfl,(blk_cell BK275.out 1).trans rfl,hx_ HB hw281_0,hx_ HB hw282_0⟩ (fun hHeld=>?_);refine with_tabW spec_l01On.tab5 spec_l01On.bits5 (fun HT_ HW_=>?_);generalize wr.drew=w29 at HO_281001 BK275 BK276 BK280 HB hx281_0 hx282_0 hHeld ⊢;refine pu 0 (some 18) (ar 1 12) HT_ ?_;refine pu 2 (some 20) #[U,O,U,O,O,O,O,O,O,O,O,O,O] HT_ ?_;refine pu 5 (some 23) #[U,O,U,O,O,U,O,O,O,O,O,O,O] HT_ ?_;refine pu 7 (some 25) #[U,O,U,O,O,U,O,U,O,O,O,O,O] HT_ ?_;refine pu 9 (some 27) #[U,O,U,O,O,U,O,U,O,U,O,O,O] HT_ ?_;refine tk 1 (some 19) #[U,U,U,O,O,U,O,U,O,U,O,O,O] HT_ HW_ hHeld ?_;refine pu 3 (some 21) #[U,U,U,U,O,U,O,U,O,U,O,O,O] HT_ ?_;refine tk 4 (some 22) #[U,U,U,U,U,U,O,U,O,U,O,O,O] HT_ HW_ hHeld ?_;refine pu 6 (some 24) #[U,U,U,U,U,U,U,U,O,U,O,O,O] HT_ ?_;refine tk 8 (some 26) (ar 10 3) HT_ HW_ hHeld ?_;refine pu 10 (some 28) (ar 11 2) HT_ ?_;refine tk 11 (some 29) (ar 12 1) HT_ HW_ hHeld ?_;refine pu 12 (some 30) (ar 13 0) HT_ ?_;refine done_ (done_of HT_.out (by kernel_rfl)) ?_;try go_wp2
      go_roundg k1
      case measure=>have:=HK1.out;omega
      case rel=>exact⟨(wrap64 (x6_1+1)),(x281001_1),(u281001),rs,H',⟨by have:=HK1.out;omega⟩,⟨kr HO_281001.out⟩,⟨bk BK275.out⟩,⟨bk BK276.out⟩,⟨bk BK280.out⟩,⟨bl HB.out⟩⟩
    ·rw[if_neg c15] at H;exact absurd H (by simp)
   ·rw[if_neg c14] at H;have c14b0:decide (x6_1<(l0_1.length:Int))=false:=decide_eq_false c14;clear c14;simp only [Option.some.injEq,Prod.mk.injEq] at H;obtain ⟨rfl,rfl⟩:=H;have hnb30:=NB275_276.out;have hnc30:=NB276_275.out;have hnb31:=NB275_280.out;have hnc31:=NB280_275.out;have hcz32_0:=z0_ BK275;have hcz32_1:=z1_ BK275;have hfz32_0:=hf_ BK275 0;have hfz32_1:=hf_ BK275 1;have hnb33:=NB280_276.out;have hnc33:=NB276_280.out;have hcz34_0:=z0_ BK280;have hcz34_1:=z1_ BK280;have hfz34_0:=hf_ BK280 0;have hfz34_1:=hf_ BK280 1;have hcz35_0:=z0_ BK276;have hcz35_1:=z1_ BK276;have hfz35_0:=hf_ BK276 0;have hfz35_1:=hf_ BK276 1;obtain ⟨Ao36,co36,eo36⟩:=Kd.R_slice HO_281001.out;subst eo36;go_wp2
    refine bodyPost_ret (results_cell_row rfl _ _ gb276 26 #[.int .i64 a0_0,.slice Ao36 x281001_1.length co36] (0,0) _ rfl (bp BK276.out) Tryz.underlying26 rfl (by kernel_rfl)) rfl ?_;exact⟨_,rr,by(with_reducible repeat(first|apply Kd.R_alloc|apply Kd.R_drewN|apply Kd.R_drew));exact Kd.R_mono (Kd.R_far (p:=⟨gb276,1,none⟩) (Kd.R_far (p:=⟨gb276,0,none⟩) (Kd.R_types HO_281001.out BK276.out (by decide)) (fun _ hk=>hk.2) (.int .i64 a0_0)) (fun _ hk=>hk.2) (.slice Ao36 x281001_1.length co36)) (fun _ hk=>trivial),bl HB.out⟩
end Go.Proofs.YtlhkdbkjafiikaaGreat.Q
end

section
namespace Go.Proofs.YtlhkdbkjafiikaaGreat.K
open Go.RowKit Go.Shelf Go.Proofs.YtlhkdbkjafiikaaGreat.Q Go.Proofs.YtlhkdbkjafiikaaGreatW.PrintWords Go.Proofs.YtlhkdbkjafiikaaGreatW.PrintLast Go.Proofs.YtlhkdbkjafiikaaGreatW.PrintMore
set_option linter.unusedVariables false
set_option linter.unusedSimpArgs false
theorem specOn_loop (n f m:Int) (l:List Int) (hl:l.length≤2097152):∀(d i k:Nat) (acc:List Int),l.length - i=d→i≤l.length→d+l.length+1<k→acc.length≤i →
  spec_l01On.l0 k f (i:Int) n l m acc=some (m,acc ++ (l.drop i).filter (fun x=>decide (Go.bits .and .i64 x f=x))):=by
 intro d
 induction d with
 |zero=>
  intro i k acc hd hi hk ha
  obtain ⟨k,rfl⟩:∃ m,k=m+1:=⟨k - 1,by omega⟩
  obtain rfl:i=l.length:=by omega
  simp only [spec_l01On.l0]
  rw[if_neg (by omega)]
  simp
 |succ d ih=>
  intro i k acc hd hi hk ha
  obtain ⟨k,rfl⟩:∃ m,k=m+1:=⟨k - 1,by omega⟩
  simp only [spec_l01On.l0]
  have hil:i<l.length:=by omega
  have hin:=fun acc' (h:acc'.length≤i+1)=>ih (i+1) k acc' (by omega) (by omega) (by omega) h
  rw[if_pos (by omega),if_pos (by omega),rd_nat l i hil,w64 _ (by omega) (by omega),nat_succ,List.drop_eq_getElem_cons hil,List.filter_cons]
  by_cases h:Go.bits .and .i64 l[i] f=l[i]
  ·rw[if_pos h]
   simp only [h,decide_true,if_true]
   rw[if_pos (show acc.length<17592186044416 by omega),hin _ (by simp;omega),List.append_assoc]
   rfl
  ·rw[if_neg h]
   simp only [h,decide_false,Bool.false_eq_true,if_false]
   exact hin _ (by omega)
theorem specOn_is (n f:Int) (l:List Int) (hl:l.length≤2097152) (k:Nat) (hk:l.length+l.length+1<k):spec_l01On.f k n l f=some (n,l.filter (fun x=>decide (Go.bits .and .i64 x f=x))):=by
 have:=specOn_loop n f n l hl l.length 0 k [] (by omega) (by omega) (by omega) (by simp)
 rw[show ((0:Nat):Int)=0 from rfl,List.nil_append,List.drop_zero] at this
 exact this
end Go.Proofs.YtlhkdbkjafiikaaGreat.K
end

section
namespace Go.Proofs.YtlhkdbkjafiikaaGreat.K
open Go.RowKit Go.Shelf Go.Proofs.YtlhkdbkjafiikaaGreat.Q Go.Proofs.YtlhkdbkjafiikaaGreatW.PrintWords Go.Proofs.YtlhkdbkjafiikaaGreatW.PrintLast Go.Proofs.YtlhkdbkjafiikaaGreatW.PrintMore
set_option linter.unusedVariables false
set_option linter.unusedSimpArgs false
def specPartOn (n:Int) (l:List Int) (f:Int):Int×List Int×Int:=
 if isC n l=true then (if 0≤f∧f≤fullOf n then (n,l.filter (fun x=>decide (Go.bits .and .i64 x f=x)),0) else (0,[],2)) else (0,[],1)
set_option maxHeartbeats 4000000 in
theorem specPartOn_calls (n:Int) (A:Option Addr) (c:Nat) (l:List Int) (f:Int) (w:World) (hk:Kx w A c l) (hl:l.length≤2097152) :
  Calls Tryz.prog 30 #[.agg #[I n,.slice A l.length c],I f] w fun e w'=>∃ v,e = .returned (.tuple #[.agg #[I (specPartOn n l f).1,v],I (specPartOn n l f).2.2])∧Ki.R 2 w' w.heap.size (fun _=>True) v (specPartOn n l f).2.1∧Grew w w':=by
 obtain ⟨W2,hW2⟩:∃ W2,W2=(w.alloc (.cells #[I n,.slice A l.length c] 26)).alloc (.cells #[I 0,.slice none 0 0] 26):=⟨_,rfl⟩
 have hB:CB W2 w.heap.size n (.slice A l.length c):=by rw[hW2];exact blk_alloc (blk_new w _) _
 have hO:CB W2 (w.heap.size+1) 0 (.slice none 0 0):=by
  rw[hW2]
  have:=blk_new (w.alloc (.cells #[I n,.slice A l.length c] 26)) (.cells #[I 0,.slice none 0 0] 26)
  rwa [World.size_alloc] at this
 have hg:Grew w W2:=by rw[hW2];exact below_alloc (below_alloc (Grew.refl w) _) _
 have H:=Aside0.mk (spec_l01Is.calls (isK l) n A c l (isC n l) W2 (hk.later hg).r hk.c (specIs_is n l hl _ (Nat.le_refl _)))
 obtain ⟨r,hr⟩:∃ r,r=specPartOn n l f:=⟨_,rfl⟩
 rw[← hr]
 have k0:=hB.c0
 have k1:=hB.c1
 have HK:=Aside0.mk hk
 have HB:=Aside0.mk hB
 have HO:=Aside0.mk hO
 have HG:=Aside0.mk hg
 clear hk hB hO hg
 obtain ⟨i,hi⟩:∃ i,i=isC n l:=⟨_,rfl⟩
 rw[← hi] at H
 cases i with
 |false=>
  have HV:Aside0 (r=(0,[],1)):=⟨by rw[hr];unfold specPartOn;rw[← hi];rfl⟩
  clear hr hi
  subst hW2
  go_enter Tryz.func30,Tryz.ntmps30
  go_wp2_with fail
  refine H.out.mono ?_
  rintro e w1 ⟨rfl,hG1⟩
  clear k0 k1
  have hB1:CB w1 (w.heap.size+1) 0 (.slice none 0 0):=blk_below HO.out hG1
  have HB1:=Aside0.mk hB1
  have HG1:=Aside0.mk (Grew.trans HG.out hG1)
  have k0:=hB1.c0
  have k1:=hB1.c1
  have f0:=blk_frozen hB1 0
  have f1:=blk_frozen hB1 1
  clear hB1 hG1
  go_wp2_with fail
  refine bodyPost_ret (results_ct rfl _ _ (w.heap.size+1) 26 #[I 0,.slice none 0 0] (0,0) _ rfl HB1.out.set Tryz.underlying26 rfl (by kernel_rfl)) rfl ?_
  rw[HV.out]
  exact⟨_,rfl,Kd.R_nil _ _ _ _ _,below_set (below_set HG1.out (by omega)) (by omega)⟩
 |true=>
  have hn:=isC_size hi.symm
  have HR:Aside0 (r=if 0≤f∧f≤fullOf n then (n,l.filter (fun x=>decide (Go.bits .and .i64 x f=x)),0) else (0,[],2)):=⟨by rw[hr];unfold specPartOn;rw[← hi];rfl⟩
  clear hr hi
  obtain ⟨F,hF⟩:∃ F,F=fullOf n:=⟨_,rfl⟩
  have HA:=Aside0.mk (fun w=>spec_l01All.calls n F w (by rw[hF];exact specAll_is n (by omega) (by omega)))
  rw[← hF] at HR
  clear hF
  have HIn:=Aside0.mk (fun w=>spec_l01In.calls f 0 F (decide (0≤f∧f≤F)) w (specIn_is f 0 F))
  by_cases hf:0≤f∧f≤F
  ·have HV:Aside0 (r=(n,l.filter (fun x=>decide (Go.bits .and .i64 x f=x)),0)):=⟨by rw[HR.out,if_pos hf]⟩
   rw[decide_eq_true hf] at HIn
   have HOn:=Aside0.mk (fun w' (h:Grew w w')=>spec_l01On.calls (l.length+l.length+2) n A c l f n (l.filter (fun x=>decide (Go.bits .and .i64 x f=x))) w' (HK.out.later h).r HK.out.c (specOn_is n f l hl _ (by omega)))
   generalize l.filter (fun x=>decide (Go.bits .and .i64 x f=x))=L at HOn HV
   clear HR
   subst hW2
   go_enter Tryz.func30,Tryz.ntmps30
   go_wp2_with fail
   refine H.out.mono ?_
   rintro e w1 ⟨rfl,hG1⟩
   have k0:=(CB.later HB.out hG1).c0
   have k1:=(CB.later HB.out hG1).c1
   go_wp2_with fail
   refine(HA.out w1).mono ?_
   rintro e w2 ⟨rfl,hG2⟩
   go_wp2_with fail
   refine(HIn.out w2).mono ?_
   rintro e w3 ⟨rfl,hG3⟩
   have hG3':=Grew.trans (Grew.trans hG1 hG2.below) hG3.below
   have HB3:=Aside0.mk (CB.later HB.out hG3')
   have HO3:=Aside0.mk (CB.later HO.out hG3')
   have HG3:=Aside0.mk (Grew.trans HG.out hG3')
   have k0:=HB3.out.c0
   have k1:=HB3.out.c1
   clear hG1 hG2 hG3 hG3'
   go_wp2_with fail
   refine(HOn.out w3 HG3.out).mono ?_
   rintro e w4 ⟨v,rfl,hR,hG⟩
   clear k0 k1
   have hB2:CB w4 (w.heap.size+1) 0 (.slice none 0 0):=CB.later HO3.out hG
   have HB4:=Aside0.mk hB2
   have HR4:=Aside0.mk hR
   have HG4:=Aside0.mk (Grew.trans HG3.out hG)
   have hsz:=HG3.out.size
   have k0:=hB2.c0
   have k1:=hB2.c1
   have f0:=blk_frozen hB2 0
   have f1:=blk_frozen hB2 1
   obtain ⟨A2,c2,e2⟩:=Kd.R_slice hR
   subst e2
   clear hB2 hR hG
   go_wp2_with fail
   refine bodyPost_ret (results_ct rfl _ _ (w.heap.size+1) 26 #[I n,_] (0,0) _ rfl HB4.out.set Tryz.underlying26 rfl (by kernel_rfl)) rfl ?_
   rw[HV.out]
   exact⟨_,rfl,Kd.R_lower (Ri.setCB2 HR4.out HB4.out) hsz,below_set (below_set HG4.out (by omega)) (by omega)⟩
  ·have HV:Aside0 (r=(0,[],2)):=⟨by rw[HR.out,if_neg hf]⟩
   rw[decide_eq_false hf] at HIn
   clear HR
   subst hW2
   go_enter Tryz.func30,Tryz.ntmps30
   go_wp2_with fail
   refine H.out.mono ?_
   rintro e w1 ⟨rfl,hG1⟩
   have k0:=(CB.later HB.out hG1).c0
   have k1:=(CB.later HB.out hG1).c1
   go_wp2_with fail
   refine(HA.out w1).mono ?_
   rintro e w2 ⟨rfl,hG2⟩
   go_wp2_with fail
   refine(HIn.out w2).mono ?_
   rintro e w3 ⟨rfl,hG3⟩
   have hG3':=Grew.trans (Grew.trans hG1 hG2.below) hG3.below
   have HB1:=Aside0.mk (CB.later HO.out hG3')
   have HG1:=Aside0.mk (Grew.trans HG.out hG3')
   clear hG1 hG2 hG3 hG3' k0 k1
   have k0:=HB1.out.c0
   have k1:=HB1.out.c1
   have f0:=blk_frozen HB1.out 0
   have f1:=blk_frozen HB1.out 1
   go_wp2_with fail
   refine bodyPost_ret (results_ct rfl _ _ (w.heap.size+1) 26 #[I 0,.slice none 0 0] (0,0) _ rfl HB1.out.set Tryz.underlying26 rfl (by kernel_rfl)) rfl ?_
   rw[HV.out]
   exact⟨_,rfl,Kd.R_nil _ _ _ _ _,below_set (below_set HG1.out (by omega)) (by omega)⟩
end Go.Proofs.YtlhkdbkjafiikaaGreat.K
end

section
namespace Go.Proofs.YtlhkdbkjafiikaaGreat.K
open Go.RowKit Go.Shelf Go.Proofs.YtlhkdbkjafiikaaGreatW.PrintWords Go.Proofs.YtlhkdbkjafiikaaGreatW.PrintLast Go.Proofs.YtlhkdbkjafiikaaGreatW.PrintMore
set_option linter.unusedVariables false
set_option linter.unusedSimpArgs false
theorem specPartOn_is (n:Int) (l:List Int) (f:Int):specPartOn n l f=partOf n l (PartOn_b n l f) (PartOn_p l f):=by
 unfold specPartOn
 have hb:PartOn_b n l f=decide (0≤f∧f≤fullOf n):=rfl
 rw[hb]
 cases hi:isC n l with
 |false=>
  have hc:∀ b,codeOf n l b=1:=fun b=>by simp [codeOf,hi]
  unfold partOf
  rw[hc]
  rfl
 |true=>
  obtain ⟨hn,hs,hr,h63⟩:=isC_faces hi
  have hF:=full_range n hn
  by_cases hf:0≤f∧f≤fullOf n
  ·rw[decide_eq_true hf,part_filter hi,if_pos rfl,if_pos hf]
   have:l.filter (fun x=>decide (Go.bits .and .i64 x f=x))=l.filter (PartOn_p l f):=by
    refine List.filter_congr fun x hx=>?_
    have hxr:=hr x hx
    show _=inB x f
    rw[inB_is x f (by omega) (by omega)]
   rw[this]
  ·have hc:codeOf n l false=2:=by simp [codeOf,hi]
   unfold partOf
   rw[decide_eq_false hf,hc,if_pos rfl,if_neg hf]
   rfl
end Go.Proofs.YtlhkdbkjafiikaaGreat.K
end

section
namespace Go.Proofs.YtlhkdbkjafiikaaGreat.X
open Go.RowKit Go.Shelf Go.Proofs.YtlhkdbkjafiikaaGreat.K Go.Proofs.YtlhkdbkjafiikaaGreatW.PrintWords Go.Proofs.YtlhkdbkjafiikaaGreatW.PrintLast Go.Proofs.YtlhkdbkjafiikaaGreatW.PrintMore
set_option linter.unusedVariables false
set_option linter.unusedSimpArgs false
def impl_Complex_of.f (a0_0:Int) (l0_1:List Int) (a1:Int):Option (List Int):=if l0_1.length≤63∧∀ x ∈ l0_1,0≤x∧x≤63 then some (ofL l0_1 a1) else none
theorem impl_Complex_of.calls (a0_0:Int) (A0_1:Option Addr) (c0_1:Nat) (l0_1:List Int) (a1:Int) (r:List Int) (w:World) (hr0_1:Kd.C (Kd.int .i64) w A0_1 l0_1.length l0_1) (hc0_1:l0_1.length≤c0_1) (h:impl_Complex_of.f a0_0 l0_1 a1=some r) :
  Calls Tryz.prog 111 #[.agg #[.int .i64 a0_0,.slice A0_1 l0_1.length c0_1],.int .i64 a1] w fun e w'=>∃ v0_:Value,e = .returned (v0_)∧Kd.R (Kd.int .i64) 2 w' w.heap.size (fun _=>True) v0_ r∧Below w.heap.size w w':=by
 unfold impl_Complex_of.f at h
 by_cases hl:l0_1.length≤63∧∀ x ∈ l0_1,0≤x∧x≤63
 ·rw[if_pos hl] at h
  injection h with h
  subst h
  exact of_calls a0_0 A0_1 c0_1 l0_1 a1 w ⟨hr0_1,hc0_1,by omega⟩ (by omega) hl.2
 ·rw[if_neg hl] at h
  cases h
end Go.Proofs.YtlhkdbkjafiikaaGreat.X
end

section
namespace Go.Proofs.YtlhkdbkjafiikaaGreat.C
open Go.RowKit Go.Proofs.YtlhkdbkjafiikaaGreat.Q Go.Proofs.YtlhkdbkjafiikaaGreat.X Go.Proofs.YtlhkdbkjafiikaaGreatW.PrintWords Go.Proofs.YtlhkdbkjafiikaaGreatW.PrintLast Go.Proofs.YtlhkdbkjafiikaaGreatW.PrintMore
attribute [local go_sem] max2_int min2_int max_two min_two max_three min_three max_four min_four
set_option linter.unusedVariables false
set_option linter.unusedSimpArgs false
mutual
def impl_Complex_components.l0:Nat→List Int→Int→List Int→Int→Int→Int→List Int→Option (List Int)
 |0,_,_,_,_,_,_,_=>none
 |k+1,x3,x4,x12,x13,x14,x102000,x102001=>if x14<x13 then (if 0≤x14 then (if x14<(x12.length:Int) then ((impl_isIn.f (rd x12 x14) x4).bind fun t106=>(if t106=true then (impl_Complex_components.l0 k x3 x4 x12 x13 (wrap64 (x14+1)) x102000 x102001) else (impl_Complex_components.l1 k x3 x4 (rd x12 x14) true x12 x13 x14 x102000 x102001))) else (none)) else (none)) else (some x3)
def impl_Complex_components.l1:Nat→List Int→Int→Int→Bool→List Int→Int→Int→Int→List Int→Option (List Int)
 |0,_,_,_,_,_,_,_,_,_=>none
 |k+1,x3,x4,x7,x8,x12,x13,x14,x102000,x102001=>if x8=true then ((impl_Complex_of.f x102000 x102001 1).bind fun t110=>(impl_Complex_components.l2 k x3 x4 x7 false x12 x13 x14 t110 (t110.length:Int) 0 x102000 x102001)) else (if x3.length<17592186044416 then (impl_Complex_components.l0 k (x3 ++ [x7]) (Go.bits .or .i64 x4 x7) x12 x13 (wrap64 (x14+1)) x102000 x102001) else (none))
def impl_Complex_components.l2:Nat→List Int→Int→Int→Bool→List Int→Int→Int→List Int→Int→Int→Int→List Int→Option (List Int)
 |0,_,_,_,_,_,_,_,_,_,_,_,_=>none
 |k+1,x3,x4,x7,x8,x12,x13,x14,x24,x25,x26,x102000,x102001=>if x26<x25 then (if 0≤x26 then (if x26<(x24.length:Int) then (if (Go.bits .and .i64 (rd x24 x26) x7)=0 then (impl_Complex_components.l2 k x3 x4 x7 x8 x12 x13 x14 x24 x25 (wrap64 (x26+1)) x102000 x102001) else ((impl_isIn.f (rd x24 x26) x7).bind fun t114=>(if t114=true then (impl_Complex_components.l2 k x3 x4 x7 x8 x12 x13 x14 x24 x25 (wrap64 (x26+1)) x102000 x102001) else (impl_Complex_components.l2 k x3 x4 (Go.bits .or .i64 x7 (rd x24 x26)) true x12 x13 x14 x24 x25 (wrap64 (x26+1)) x102000 x102001)))) else (none)) else (none)) else (impl_Complex_components.l1 k x3 x4 x7 x8 x12 x13 x14 x102000 x102001)
end
def impl_Complex_components.f (k:Nat) (a0_0:Int) (l0_1:List Int):Option (List Int):=(impl_Complex_of.f a0_0 l0_1 0).bind fun t102=>(impl_Complex_components.l0 k ([]:List Int) 0 t102 (t102.length:Int) 0 a0_0 l0_1)
theorem impl_Complex_components.mono_l:∀ k,(∀ y0 y1 y2 y3 y4 y5 y6,LeO (impl_Complex_components.l0 k y0 y1 y2 y3 y4 y5 y6) (impl_Complex_components.l0 (k+1) y0 y1 y2 y3 y4 y5 y6))∧(∀ y0 y1 y2 y3 y4 y5 y6 y7 y8,LeO (impl_Complex_components.l1 k y0 y1 y2 y3 y4 y5 y6 y7 y8) (impl_Complex_components.l1 (k+1) y0 y1 y2 y3 y4 y5 y6 y7 y8))∧(∀ y0 y1 y2 y3 y4 y5 y6 y7 y8 y9 y10 y11,LeO (impl_Complex_components.l2 k y0 y1 y2 y3 y4 y5 y6 y7 y8 y9 y10 y11) (impl_Complex_components.l2 (k+1) y0 y1 y2 y3 y4 y5 y6 y7 y8 y9 y10 y11))
 |0=>⟨fun _ _ _ _ _ _ _ r h=>by simp [impl_Complex_components.l0] at h,fun _ _ _ _ _ _ _ _ _ r h=>by simp [impl_Complex_components.l1] at h,fun _ _ _ _ _ _ _ _ _ _ _ _ r h=>by simp [impl_Complex_components.l2] at h⟩
 |k+1=>by
  obtain ⟨ih0,ih1,ih2⟩:=impl_Complex_components.mono_l k;refine⟨?_,?_,?_⟩
  ·intro y0 y1 y2 y3 y4 y5 y6;unfold impl_Complex_components.l0;repeat' first
   |(with_reducible first|exact ih0 _ _ _ _ _ _ _|exact ih1 _ _ _ _ _ _ _ _ _|exact ih2 _ _ _ _ _ _ _ _ _ _ _ _|exact LeO.refl _|exact LeO.none _|refine LeO.ite ?_ ?_|refine LeO.bind ?_ (fun _=>?_))
  ·intro y0 y1 y2 y3 y4 y5 y6 y7 y8;unfold impl_Complex_components.l1;repeat' first
   |(with_reducible first|exact ih0 _ _ _ _ _ _ _|exact ih1 _ _ _ _ _ _ _ _ _|exact ih2 _ _ _ _ _ _ _ _ _ _ _ _|exact LeO.refl _|exact LeO.none _|refine LeO.ite ?_ ?_|refine LeO.bind ?_ (fun _=>?_))
  ·intro y0 y1 y2 y3 y4 y5 y6 y7 y8 y9 y10 y11;unfold impl_Complex_components.l2;repeat' first
   |(with_reducible first|exact ih0 _ _ _ _ _ _ _|exact ih1 _ _ _ _ _ _ _ _ _|exact ih2 _ _ _ _ _ _ _ _ _ _ _ _|exact LeO.refl _|exact LeO.none _|refine LeO.ite ?_ ?_|refine LeO.bind ?_ (fun _=>?_))
theorem impl_Complex_components.mono:∀ a0 a1 k,LeO (impl_Complex_components.f k a0 a1) (impl_Complex_components.f (k+1) a0 a1):=by
 intro a0 a1 k;obtain ⟨ih0,ih1,ih2⟩:=impl_Complex_components.mono_l k;unfold impl_Complex_components.f;repeat' first
   |(with_reducible first|exact ih0 _ _ _ _ _ _ _|exact ih1 _ _ _ _ _ _ _ _ _|exact ih2 _ _ _ _ _ _ _ _ _ _ _ _|exact LeO.refl _|exact LeO.none _|refine LeO.ite ?_ ?_|refine LeO.bind ?_ (fun _=>?_))
set_option maxHeartbeats 8000000 in
set_option maxRecDepth 100000 in
theorem impl_Complex_components.calls (k:Nat) (a0_0:Int) (A0_1:Option Addr) (c0_1:Nat) (l0_1:List Int) (r:List Int) (w:World) (hr0_1:Kd.C (Kd.int .i64) w A0_1 l0_1.length l0_1) (hc0_1:l0_1.length≤c0_1) (h:impl_Complex_components.f k a0_0 l0_1=some r) :
  Calls Tryz.prog 88 #[.agg #[.int .i64 a0_0,.slice A0_1 l0_1.length c0_1]] w fun e w'=>∃ v0_:Value,e = .returned (v0_)∧Kd.R (Kd.int .i64) 2 w' w.heap.size (fun _=>True) v0_ r∧Below w.heap.size w w':=by
 have hu26:=Tryz.underlying26;have HR0_1:=Aside0.mk hr0_1;have HC0_1:=Aside0.mk hc0_1;clear hr0_1 hc0_1;have HB:=Aside0.mk (Below.refl w.heap.size w);have H:((impl_Complex_of.f a0_0 l0_1 0).bind fun t102=>(impl_Complex_components.l0 k ([]:List Int) 0 t102 (t102.length:Int) 0 a0_0 l0_1))=some r:=h;clear h;replace H:=Option.bind_eq_some_iff.mp H;obtain ⟨t102,A20,H⟩:=H;replace H:(impl_Complex_components.l0 k ([]:List Int) 0 t102 (t102.length:Int) 0 a0_0 l0_1)=some r:=H;have A2:=Aside0.mk A20;clear A20;have H':=Aside0.mk H;clear H;go_enter Tryz.func88,Tryz.ntmps88;go_wp2_with (first|((with_reducible refine gate_dst (N:=1) rfl ?_);refine bx 1 #[.int .i64 a0_0,.slice A0_1 l0_1.length c0_1] 26 ?_;intro gb101 hg w3 hbox hb;have BK101:=Aside0.mk (hbox);have GE101:=gzA hg HB;replace HB:=bsA HB hb;clear hb hbox hg;have hcz4_0:=z0_ BK101;have hcz4_1:=z1_ BK101;have hfz4_0:=hf_ BK101 0;have hfz4_1:=hf_ BK101 1)|((with_reducible refine gate_callee (f:=111) rfl ?_);refine gl (some 12) Tryz.func111 #[.agg #[.int .i64 a0_0,.slice A0_1 l0_1.length c0_1],.int .i64 0] ?_;(with_reducible refine(impl_Complex_of.calls a0_0 _ _ l0_1 0 t102 _ (cb (Kd.C_below HR0_1.out HB.out)) HC0_1.out A2.out).mono ?_);rintro e w5 ⟨v103,rfl,ho0,hb⟩;refine⟨_,rfl,?_⟩;have HO104:=klA ho0 HB;replace BK101:=bkA BK101 hb;replace HB:=bsA HB hb;(try clear hb);(try clear hb2);(try clear hk);(try clear hi);(try clear ho0);obtain ⟨Ao6,co6,eo6⟩:=Kd.R_slice HO104.out;subst eo6))
 go_loopg [3,4,14] k (fun kq v3 v4 v14 w'=>∃(x3_1:List Int) (x4_1:Int) (x14_1:Int),v4 = .int .i64 x4_1∧v14 = .int .i64 x14_1∧Aside0 (impl_Complex_components.l0 kq x3_1 x4_1 t102 (t102.length:Int) x14_1 a0_0 l0_1=some r)∧Aside0 (kq≤k)∧Aside0 (Kd.R (Kd.int .i64) 2 w' w.heap.size (fun k_=>some k_≠((.slice Ao6 t102.length co6):Value).ownBlock) v3 x3_1)∧Aside0 (Kd.R (Kd.int .i64) 2 w' w.heap.size (fun k_=>some k_≠(v3:Value).ownBlock) (.slice Ao6 t102.length co6) t102)∧Aside0 (w'.heap[gb101]?=some (.cells #[.int .i64 a0_0,(.slice A0_1 l0_1.length c0_1)] 26 (0,0)))∧Aside0 (Below w.heap.size w w'))
 case atStart=>exact⟨(([]:List Int)),(0),(0),rs,rs,H',⟨Nat.le_refl _⟩,⟨by first|exact Kd.R_nil _ _ _ _ _|exact Kd.N_nil _ _ _ _ _|exact Kd.V_nil _ _ _ _ _|exact Kd.Q_nil _ _ _ _ _|exact Kd.S_nil _ _ _ _ _⟩,⟨by(with_reducible repeat(first|apply Kd.R_alloc|apply Kd.R_drewN|apply Kd.R_drew));exact Kd.R_mono HO104.out (fun _ hk=>(by simp [Value.ownBlock]))⟩,⟨bk BK101.out⟩,⟨bl HB.out⟩⟩
 case round=>
  clear H';try clear c1
  try clear p2
  try clear hcz4_0
  try clear hcz4_1
  try clear hfz4_0
  try clear hfz4_1
  obtain ⟨x3_1,x4_1,x14_1,rfl,rfl,HA,HK1,HO_3,HO_12,BK101,HB⟩:=hrel;cases gk with
  |zero=>exact absurd HA.out (by simp [impl_Complex_components.l0])
  |succ k1=>
   have H:=HA.out;clear HA;simp only [impl_Complex_components.l0] at H;by_cases c7:x14_1<(t102.length:Int)
   ·rw[if_pos c7] at H;have c7b0:decide (x14_1<(t102.length:Int))=true:=decide_eq_true c7;clear c7;by_cases c8:0≤x14_1
    ·rw[if_pos c8] at H;have c8b0:decide (0≤x14_1)=true:=decide_eq_true c8;clear c8;by_cases c9:x14_1<(t102.length:Int)
     ·rw[if_pos c9] at H;have c9b0:decide (x14_1<(t102.length:Int))=true:=decide_eq_true c9;clear c9;replace H:=Option.bind_eq_some_iff.mp H;obtain ⟨t106,A100,H⟩:=H;replace H:(if t106=true then (impl_Complex_components.l0 k1 x3_1 x4_1 t102 (t102.length:Int) (wrap64 (x14_1+1)) a0_0 l0_1) else (impl_Complex_components.l1 k1 x3_1 x4_1 (rd t102 x14_1) true t102 (t102.length:Int) x14_1 a0_0 l0_1))=some r:=H;have A10:=Aside0.mk A100;clear A100;by_cases c11:t106=true
      ·subst c11;have H1:(impl_Complex_components.l0 k1 x3_1 x4_1 t102 (t102.length:Int) (wrap64 (x14_1+1)) a0_0 l0_1)=some r:=by rw[if_pos rfl] at H;exact H
       clear H;have H:=H1;clear H1;have H':=Aside0.mk H;clear H;have p105:0≤(x14_1:Int):=dd;have q105:x14_1<(t102.length:Int):=dd;obtain ⟨ad105,e105,hx105_0⟩:=Kd.at_int (Kd.R_reads' HO_12.out).2.2 x14_1 p105 q105;cases e105;replace p105:=eq_true p105;replace q105:=eq_true q105;go_wp2_with (first|((with_reducible refine gate_callee (f:=64) rfl ?_);refine gl (some 20) Tryz.func64 #[.int .i64 (rd t102 x14_1),.int .i64 x4_1] ?_;(with_reducible refine(impl_isIn.calls (rd t102 x14_1) x4_1 true _ A10.out).mono ?_);rintro e w' ⟨rfl,⟨nd,rfl⟩⟩;refine⟨_,rfl,?_⟩))
       go_roundg k1
       case measure=>have:=HK1.out;omega
       case rel=>exact⟨(x3_1),(x4_1),(wrap64 (x14_1+1)),rs,rs,H',⟨by have:=HK1.out;omega⟩,⟨kr HO_3.out⟩,⟨kr HO_12.out⟩,⟨bk BK101.out⟩,⟨bl HB.out⟩⟩
      ·replace c11:=Bool.eq_false_iff.mpr c11;subst c11;have H1:(impl_Complex_components.l1 k1 x3_1 x4_1 (rd t102 x14_1) true t102 (t102.length:Int) x14_1 a0_0 l0_1)=some r:=by rw[if_neg (show ¬ (false=true) by decide)] at H;exact H
       clear H;have H:=H1;clear H1;have H':=Aside0.mk H;clear H;have p105:0≤(x14_1:Int):=dd;have q105:x14_1<(t102.length:Int):=dd;obtain ⟨ad105,e105,hx105_0⟩:=Kd.at_int (Kd.R_reads' HO_12.out).2.2 x14_1 p105 q105;cases e105;replace p105:=eq_true p105;replace q105:=eq_true q105;go_wp2_with (first|((with_reducible refine gate_callee (f:=64) rfl ?_);refine gl (some 20) Tryz.func64 #[.int .i64 (rd t102 x14_1),.int .i64 x4_1] ?_;(with_reducible refine(impl_isIn.calls (rd t102 x14_1) x4_1 false _ A10.out).mono ?_);rintro e w' ⟨rfl,⟨nd,rfl⟩⟩;refine⟨_,rfl,?_⟩))
       go_loopg [7,8] k1 (fun kq v7 v8 w'=>∃(x7_2:Int) (x8_2:Bool),v7 = .int .i64 x7_2∧v8 = .bool x8_2∧Aside0 (impl_Complex_components.l1 kq x3_1 x4_1 x7_2 x8_2 t102 (t102.length:Int) x14_1 a0_0 l0_1=some r)∧Aside0 (kq≤k1)∧Aside0 (Kd.R (Kd.int .i64) 2 w' w.heap.size (fun k_=>some k_≠((.slice (some ad105) t102.length co6):Value).ownBlock) u3 x3_1)∧Aside0 (Kd.R (Kd.int .i64) 2 w' w.heap.size (fun k_=>some k_≠(u3:Value).ownBlock) (.slice (some ad105) t102.length co6) t102)∧Aside0 (w'.heap[gb101]?=some (.cells #[.int .i64 a0_0,(.slice A0_1 l0_1.length c0_1)] 26 (0,0)))∧Aside0 (Below w.heap.size w w'))
       case atStart=>exact⟨(rd t102 x14_1),(true),rs,rs,H',⟨Nat.le_refl _⟩,⟨kr HO_3.out⟩,⟨kr HO_12.out⟩,⟨bk BK101.out⟩,⟨bl HB.out⟩⟩
       case round=>
        clear H';try clear c1
        try clear p1
        try clear q1
        try clear hx1
        try clear p2
        try clear c6
        try clear p6
        try clear c7
        try clear c7b0
        try clear c8
        try clear c8b0
        try clear c9
        try clear c9b0
        try clear p10
        try clear q10
        try clear hx10
        try clear c11
        try clear hcz4_0
        try clear hcz4_1
        try clear hfz4_0
        try clear hfz4_1
        try clear hx105_0
        try clear p105
        try clear p2
        try clear q105
        obtain ⟨x7_2,x8_2,rfl,rfl,HA,HK2,HO_3,HO_12,BK101,HB⟩:=hrel;cases gk with
        |zero=>exact absurd HA.out (by simp [impl_Complex_components.l1])
        |succ k2=>
         have H:=HA.out;clear HA;simp only [impl_Complex_components.l1] at H;by_cases c12:x8_2=true
         ·subst c12;have H1:((impl_Complex_of.f a0_0 l0_1 1).bind fun t110=>(impl_Complex_components.l2 k2 x3_1 x4_1 x7_2 false t102 (t102.length:Int) x14_1 t110 (t110.length:Int) 0 a0_0 l0_1))=some r:=by rw[if_pos rfl] at H;exact H
          clear H;have H:=H1;clear H1;replace H:=Option.bind_eq_some_iff.mp H;obtain ⟨t110,A130,H⟩:=H;replace H:(impl_Complex_components.l2 k2 x3_1 x4_1 x7_2 false t102 (t102.length:Int) x14_1 t110 (t110.length:Int) 0 a0_0 l0_1)=some r:=H;have A13:=Aside0.mk A130;clear A130;have H':=Aside0.mk H;clear H;have hcz14_0:=z0_ BK101;have hcz14_1:=z1_ BK101;have hfz14_0:=hf_ BK101 0;have hfz14_1:=hf_ BK101 1;go_wp2_with (first|((with_reducible refine gate_callee (f:=111) rfl ?_);refine gl (some 24) Tryz.func111 #[.agg #[.int .i64 a0_0,.slice A0_1 l0_1.length c0_1],.int .i64 1] ?_;(with_reducible refine(impl_Complex_of.calls a0_0 _ _ l0_1 1 t110 _ (cb (Kd.C_below HR0_1.out HB.out)) HC0_1.out A13.out).mono ?_);rintro e w15 ⟨v111,rfl,ho0,hb⟩;refine⟨_,rfl,?_⟩;have HO112:=Aside0.mk (Kd.R_lower (Kd.R_new' (Kd.R_new' ho0 (Kd.R_lt (kr HO_3.out))) (Kd.R_lt (kr HO_12.out))) (below_size (bl HB.out)));replace HO_3:=Aside0.mk (Kd.R_elder' (kr HO_3.out) (Kd.R_base ho0) hb);replace HO_12:=Aside0.mk (Kd.R_elder' (kr HO_12.out) (Kd.R_base ho0) hb);replace BK101:=bkA BK101 hb;replace HB:=bsA HB hb;(try clear hb);(try clear hb2);(try clear hk);(try clear hi);(try clear ho0);obtain ⟨Ao16,co16,eo16⟩:=Kd.R_slice HO112.out;subst eo16))
          go_loopg [7,8,26] k2 (fun kq v7 v8 v26 w'=>∃(x7_3:Int) (x8_3:Bool) (x26_3:Int),v7 = .int .i64 x7_3∧v8 = .bool x8_3∧v26 = .int .i64 x26_3∧Aside0 (impl_Complex_components.l2 kq x3_1 x4_1 x7_3 x8_3 t102 (t102.length:Int) x14_1 t110 (t110.length:Int) x26_3 a0_0 l0_1=some r)∧Aside0 (kq≤k2)∧Aside0 (Kd.R (Kd.int .i64) 2 w' w.heap.size (fun k_=>some k_≠((.slice (some ad105) t102.length co6):Value).ownBlock∧some k_≠((.slice Ao16 t110.length co16):Value).ownBlock) u3 x3_1)∧Aside0 (Kd.R (Kd.int .i64) 2 w' w.heap.size (fun k_=>some k_≠(u3:Value).ownBlock∧some k_≠((.slice Ao16 t110.length co16):Value).ownBlock) (.slice (some ad105) t102.length co6) t102)∧Aside0 (Kd.R (Kd.int .i64) 2 w' w.heap.size (fun k_=>some k_≠(u3:Value).ownBlock∧some k_≠((.slice (some ad105) t102.length co6):Value).ownBlock) (.slice Ao16 t110.length co16) t110)∧Aside0 (w'.heap[gb101]?=some (.cells #[.int .i64 a0_0,(.slice A0_1 l0_1.length c0_1)] 26 (0,0)))∧Aside0 (Below w.heap.size w w'))
          case atStart=>exact⟨(x7_2),(false),(0),rs,rs,rs,H',⟨Nat.le_refl _⟩,⟨kr HO_3.out⟩,⟨kr HO_12.out⟩,⟨by(with_reducible repeat(first|apply Kd.R_alloc|apply Kd.R_drewN|apply Kd.R_drew));exact Kd.R_mono HO112.out (fun _ hk=>⟨hk.1.2,hk.2⟩)⟩,⟨bk BK101.out⟩,⟨bl HB.out⟩⟩
          case round=>
           clear H';try clear c1
           try clear p1
           try clear q1
           try clear hx1
           try clear p2
           try clear c6
           try clear p6
           try clear c7
           try clear c7b0
           try clear c8
           try clear c8b0
           try clear c9
           try clear c9b0
           try clear p10
           try clear q10
           try clear hx10
           try clear c11
           try clear c12
           try clear hcz14_0
           try clear hcz14_1
           try clear hcz4_0
           try clear hcz4_1
           try clear hfz14_0
           try clear hfz14_1
           try clear hfz4_0
           try clear hfz4_1
           try clear hx105_0
           try clear p1
           try clear p10
           try clear p105
           try clear p2
           try clear p6
           try clear q1
           try clear q10
           try clear q105
           obtain ⟨x7_3,x8_3,x26_3,rfl,rfl,rfl,HA,HK3,HO_3,HO_12,HO_24,BK101,HB⟩:=hrel;cases gk with
           |zero=>exact absurd HA.out (by simp [impl_Complex_components.l2])
           |succ k3=>
            have H:=HA.out;clear HA;simp only [impl_Complex_components.l2] at H;by_cases c17:x26_3<(t110.length:Int)
            ·rw[if_pos c17] at H;have c17b0:decide (x26_3<(t110.length:Int))=true:=decide_eq_true c17;clear c17;by_cases c18:0≤x26_3
             ·rw[if_pos c18] at H;have c18b0:decide (0≤x26_3)=true:=decide_eq_true c18;clear c18;by_cases c19:x26_3<(t110.length:Int)
              ·rw[if_pos c19] at H;have c19b0:decide (x26_3<(t110.length:Int))=true:=decide_eq_true c19;clear c19;by_cases c20:(Go.bits .and .i64 (rd t110 x26_3) x7_3)=0
               ·rw[if_pos c20] at H;have c20b0:((Go.bits .and .i64 (rd t110 x26_3) x7_3) == 0)=true:=beq_iff_eq.mpr c20;have c20b1:((Go.bits .and .i64 (rd t110 x26_3) x7_3) != 0)=false:=bne_eq_false_iff_eq.mpr c20;clear c20;have H':=Aside0.mk H;clear H;have p113:0≤(x26_3:Int):=dd;have q113:x26_3<(t110.length:Int):=dd;obtain ⟨ad113,e113,hx113_0⟩:=Kd.at_int (Kd.R_reads' HO_24.out).2.2 x26_3 p113 q113;cases e113;replace p113:=eq_true p113;replace q113:=eq_true q113;go_wp2
                go_roundg k3
                case measure=>have:=HK1.out;have:=HK2.out;have:=HK3.out;omega
                case rel=>exact⟨(x7_3),(x8_3),(wrap64 (x26_3+1)),rs,rs,rs,H',⟨by have:=HK1.out;have:=HK2.out;have:=HK3.out;omega⟩,⟨kr HO_3.out⟩,⟨kr HO_12.out⟩,⟨kr HO_24.out⟩,⟨bk BK101.out⟩,⟨bl HB.out⟩⟩
               ·rw[if_neg c20] at H;have c20b0:((Go.bits .and .i64 (rd t110 x26_3) x7_3) == 0)=false:=beq_eq_false_iff_ne.mpr c20;have c20b1:((Go.bits .and .i64 (rd t110 x26_3) x7_3) != 0)=true:=bne_iff_ne.mpr c20;replace H:=Option.bind_eq_some_iff.mp H;obtain ⟨t114,A210,H⟩:=H;replace H:(if t114=true then (impl_Complex_components.l2 k3 x3_1 x4_1 x7_3 x8_3 t102 (t102.length:Int) x14_1 t110 (t110.length:Int) (wrap64 (x26_3+1)) a0_0 l0_1) else (impl_Complex_components.l2 k3 x3_1 x4_1 (Go.bits .or .i64 x7_3 (rd t110 x26_3)) true t102 (t102.length:Int) x14_1 t110 (t110.length:Int) (wrap64 (x26_3+1)) a0_0 l0_1))=some r:=H;have A21:=Aside0.mk A210;clear A210;by_cases c22:t114=true
                ·subst c22;have H1:(impl_Complex_components.l2 k3 x3_1 x4_1 x7_3 x8_3 t102 (t102.length:Int) x14_1 t110 (t110.length:Int) (wrap64 (x26_3+1)) a0_0 l0_1)=some r:=by rw[if_pos rfl] at H;exact H
                 clear H;have H:=H1;clear H1;have H':=Aside0.mk H;clear H;have p113:0≤(x26_3:Int):=dd;have q113:x26_3<(t110.length:Int):=dd;obtain ⟨ad113,e113,hx113_0⟩:=Kd.at_int (Kd.R_reads' HO_24.out).2.2 x26_3 p113 q113;cases e113;replace p113:=eq_true p113;replace q113:=eq_true q113;go_wp2_with (first|(go_at_call 64;(with_reducible refine(impl_isIn.calls (rd t110 x26_3) x7_3 true _ A21.out).mono ?_);rintro e w' ⟨rfl,⟨nd,rfl⟩⟩))
                 go_roundg k3
                 case measure=>have:=HK1.out;have:=HK2.out;have:=HK3.out;omega
                 case rel=>exact⟨(x7_3),(x8_3),(wrap64 (x26_3+1)),rs,rs,rs,H',⟨by have:=HK1.out;have:=HK2.out;have:=HK3.out;omega⟩,⟨kr HO_3.out⟩,⟨kr HO_12.out⟩,⟨kr HO_24.out⟩,⟨bk BK101.out⟩,⟨bl HB.out⟩⟩
                ·replace c22:=Bool.eq_false_iff.mpr c22;subst c22;have H1:(impl_Complex_components.l2 k3 x3_1 x4_1 (Go.bits .or .i64 x7_3 (rd t110 x26_3)) true t102 (t102.length:Int) x14_1 t110 (t110.length:Int) (wrap64 (x26_3+1)) a0_0 l0_1)=some r:=by rw[if_neg (show ¬ (false=true) by decide)] at H;exact H
                 clear H;have H:=H1;clear H1;have H':=Aside0.mk H;clear H;have p113:0≤(x26_3:Int):=dd;have q113:x26_3<(t110.length:Int):=dd;obtain ⟨ad113,e113,hx113_0⟩:=Kd.at_int (Kd.R_reads' HO_24.out).2.2 x26_3 p113 q113;cases e113;replace p113:=eq_true p113;replace q113:=eq_true q113;go_wp2_with (first|(go_at_call 64;(with_reducible refine(impl_isIn.calls (rd t110 x26_3) x7_3 false _ A21.out).mono ?_);rintro e w' ⟨rfl,⟨nd,rfl⟩⟩))
                 go_roundg k3
                 case measure=>have:=HK1.out;have:=HK2.out;have:=HK3.out;omega
                 case rel=>exact⟨(Go.bits .or .i64 x7_3 (rd t110 x26_3)),(true),(wrap64 (x26_3+1)),rs,rs,rs,H',⟨by have:=HK1.out;have:=HK2.out;have:=HK3.out;omega⟩,⟨kr HO_3.out⟩,⟨kr HO_12.out⟩,⟨kr HO_24.out⟩,⟨bk BK101.out⟩,⟨bl HB.out⟩⟩
              ·rw[if_neg c19] at H;exact absurd H (by simp)
             ·rw[if_neg c18] at H;exact absurd H (by simp)
            ·rw[if_neg c17] at H;have c17b0:decide (x26_3<(t110.length:Int))=false:=decide_eq_false c17;clear c17;have H':=Aside0.mk H;clear H;go_wp2
             go_roundg k3
             case measure=>have:=HK1.out;have:=HK2.out;have:=HK3.out;omega
             case rel=>exact⟨(x7_3),(x8_3),rs,rs,H',⟨by have:=HK1.out;have:=HK2.out;have:=HK3.out;omega⟩,⟨by(with_reducible repeat(first|apply Kd.R_alloc|apply Kd.R_drewN|apply Kd.R_drew));exact Kd.R_mono HO_3.out (fun _ hk=>hk.1)⟩,⟨by(with_reducible repeat(first|apply Kd.R_alloc|apply Kd.R_drewN|apply Kd.R_drew));exact Kd.R_mono HO_12.out (fun _ hk=>hk.1)⟩,⟨bk BK101.out⟩,⟨bl HB.out⟩⟩
         ·replace c12:=Bool.eq_false_iff.mpr c12;subst c12;have H1:(if x3_1.length<17592186044416 then (impl_Complex_components.l0 k2 (x3_1 ++ [x7_2]) (Go.bits .or .i64 x4_1 x7_2) t102 (t102.length:Int) (wrap64 (x14_1+1)) a0_0 l0_1) else (none))=some r:=by rw[if_neg (show ¬ (false=true) by decide)] at H;exact H
          clear H;have H:=H1;clear H1;by_cases c23:x3_1.length<17592186044416
          ·rw[if_pos c23] at H;have LMc23:=Aside0.mk c23;clear c23;obtain ⟨y107,hy107⟩:∃ y_:List Int,y_=(x3_1 ++ [x7_2]):=⟨_,rfl⟩
           replace H:(impl_Complex_components.l0 k2 y107 (Go.bits .or .i64 x4_1 x7_2) t102 (t102.length:Int) (wrap64 (x14_1+1)) a0_0 l0_1)=some r:=by first|(rw[hy107];with_reducible exact H)|(have H2_:=(Option.bind_some _ _).symm.trans H;rw[hy107];with_reducible exact H2_)|(have H2_:=(Option.bind_some _ _).symm.trans H;with_reducible exact H2_)|with_reducible exact H|(rw[hy107];exact H)|exact H
           have Ny107:=Aside0.mk hy107;clear hy107;have H':=Aside0.mk H;clear H;go_wp2_with (first|((with_reducible refine gate_builtin (b:= .append) (xs:=#[.tmp 47,.tmp 49]) rfl ?_);at_builtin;refine Kd.R_append (Kd.int .i64) (w0:=w) w.heap.size rfl (.tmp 47) (.tmp 49) 24 2 (.int .i64 0) 8 rfl Tryz.underlying24 info2 rfl (by decide) (by omega) u3 x3_1 x7_2 [.int .i64 x7_2] (fun k_=>some k_≠(.slice (some ad105) t102.length co6:Value).ownBlock) (fun _=>False) rfl rfl ?aP (fun _ hk=>hk.elim) ?aF ?aO ?aB ?aS ?aL ?_;(case aP=>exact rfl);(case aB=>exact(bl HB.out));(case aF=>exact(fun k_ hk=>Kd.fresh' (Kd.R_lt (kr HO_12.out)) k_ hk));(case aO=>exact(kr HO_3.out));(case aS=>exact(below_size (bl HB.out)));(case aL=>have:=LMc23.out;omega);intro v108 w24 ho hb hg hat;rw[← Ny107.out] at ho;have n0_:=Aside0.mk (Kd.R_after (ok:=(fun _=>True)) (by(with_reducible repeat(first|apply Kd.R_alloc|apply Kd.R_drewN|apply Kd.R_drew));exact Kd.R_mono HO_12.out (fun _ hk=>⟨trivial,hk⟩)) hg hat);have n1_:=Aside0.mk (blk_grown (bk BK101.out) hg (Kd.R_ne HO_3.out BK101.out (by decide)));have n2_:=Aside0.mk (hb);have n3_:=Aside0.mk (ho);clear HO_12;clear BK101;clear HB;clear HO_3;have HO_12:=n0_;have BK101:=n1_;have HB:=n2_;have HO109:=n3_;clear n0_ n1_ n2_ n3_;clear ho hb hg hat))
           go_roundg k2
           case measure=>have:=HK1.out;have:=HK2.out;omega
           case rel=>exact⟨(y107),(Go.bits .or .i64 x4_1 x7_2),(wrap64 (x14_1+1)),rs,rs,H',⟨by have:=HK1.out;have:=HK2.out;omega⟩,⟨kr HO109.out⟩,⟨by(with_reducible repeat(first|apply Kd.R_alloc|apply Kd.R_drewN|apply Kd.R_drew));exact Kd.R_mono HO_12.out (fun _ hk=>hk.2)⟩,⟨bk BK101.out⟩,⟨bl HB.out⟩⟩
          ·rw[if_neg c23] at H;exact absurd H (by simp)
     ·rw[if_neg c9] at H;exact absurd H (by simp)
    ·rw[if_neg c8] at H;exact absurd H (by simp)
   ·rw[if_neg c7] at H;have c7b0:decide (x14_1<(t102.length:Int))=false:=decide_eq_false c7;clear c7;obtain rfl:=Option.some.inj H;go_wp2
    go_ret;exact⟨_,rr,by(with_reducible repeat(first|apply Kd.R_alloc|apply Kd.R_drewN|apply Kd.R_drew));exact Kd.R_mono HO_3.out (fun _ hk=>trivial),bl HB.out⟩
end Go.Proofs.YtlhkdbkjafiikaaGreat.C
end

section
namespace Go.Proofs.YtlhkdbkjafiikaaGreat.K
open Go.RowKit Go.Shelf Go.Proofs.YtlhkdbkjafiikaaGreat.Q Go.Proofs.YtlhkdbkjafiikaaGreat.C Go.Proofs.YtlhkdbkjafiikaaGreat Go.Proofs.YtlhkdbkjafiikaaGreatW.PrintWords Go.Proofs.YtlhkdbkjafiikaaGreatW.PrintLast Go.Proofs.YtlhkdbkjafiikaaGreatW.PrintMore
set_option linter.unusedVariables false
set_option linter.unusedSimpArgs false
theorem isIn_is (a b:Int):impl_isIn.f a b=some (inB a b):=rfl
theorem X_of_is (n:Int) (l:List Int) (d:Int) (hl:l.length≤63) (hr:∀ x ∈ l,0≤x∧x≤63):X.impl_Complex_of.f n l d=some (ofL l d):=by
 unfold X.impl_Complex_of.f
 rw[if_pos ⟨hl,hr⟩]
theorem compI_l2 (n:Int) (l es V out:List Int) (seen i:Int) (he:es.length≤63) (R:Nat) (r:List Int) (s0:Int×Bool)
  (hnext:∀ k,R≤k→impl_Complex_components.l1 k out seen (passF es s0).1 (passF es s0).2 V (V.length:Int) i n l=some r):∀(d j k:Nat) (s:Int×Bool),es.length - j=d→j≤es.length→R+d+1≤k→passF (es.drop j) s=passF es s0 →
  impl_Complex_components.l2 k out seen s.1 s.2 V (V.length:Int) i es (es.length:Int) (j:Int) n l=some r:=by
 intro d
 induction d with
 |zero=>
  intro j k s hd hj hk hp
  obtain ⟨k,rfl⟩:∃ m,k=m+1:=⟨k - 1,by omega⟩
  obtain rfl:j=es.length:=by omega
  simp only [impl_Complex_components.l2]
  rw[List.drop_length] at hp
  have hp2:s=passF es s0:=hp
  rw[if_neg (by omega),hp2]
  exact hnext k (by omega)
 |succ d ih=>
  intro j k s hd hj hk hp
  obtain ⟨k,rfl⟩:∃ m,k=m+1:=⟨k - 1,by omega⟩
  have hjl:j<es.length:=by omega
  rw[List.drop_eq_getElem_cons hjl] at hp
  have hp2:passF (es.drop (j+1)) (stepF s es[j])=passF es s0:=hp
  simp only [impl_Complex_components.l2]
  rw[if_pos (by omega),if_pos (by omega),if_pos (by omega),rd_nat es j hjl,isIn_is,w64 ((j:Int)+1) (by omega) (by omega),nat_succ]
  simp only [Option.bind_some]
  unfold stepF at hp2
  by_cases h0:Go.bits .and .i64 es[j] s.1=0
  ·rw[if_pos h0] at hp2 ⊢
   exact ih (j+1) k s (by omega) (by omega) (by omega) hp2
  ·rw[if_neg h0] at hp2 ⊢
   by_cases h1:inB es[j] s.1=true
   ·rw[if_pos h1] at hp2 ⊢
    exact ih (j+1) k s (by omega) (by omega) (by omega) hp2
   ·rw[if_neg h1] at hp2 ⊢
    exact ih (j+1) k _ (by omega) (by omega) (by omega) hp2
theorem compI_l1 (n:Int) (l V out:List Int) (seen i:Int) (hl:l.length≤63) (hr:∀ x ∈ l,0≤x∧x≤63) (R:Nat) (r:List Int):∀(m k:Nat) (o:Int),0≤o∧o≤63→64 - o≤m→R+m*66≤k →
  (∀ k,R≤k→impl_Complex_components.l1 k out seen (growF (ofL l 1) o) false V (V.length:Int) i n l=some r)→impl_Complex_components.l1 k out seen o true V (V.length:Int) i n l=some r:=by
 have hes:∀ x ∈ ofL l 1,0≤x∧x≤63:=fun x hx=>hr x (List.mem_filter.1 hx).1
 have hel:=of_length l 1
 intro m
 induction m with
 |zero=>intro k o ho h1;omega
 |succ m ih=>
  intro k o ho h1 hk hnext
  obtain ⟨k,rfl⟩:∃ q,k=q+1:=⟨k - 1,by omega⟩
  simp only [impl_Complex_components.l1]
  rw[if_pos trivial,X_of_is n l 1 hl hr]
  simp only [Option.bind_some]
  obtain ⟨a1,a2,a3,a4,a5⟩:=pass_facts (ofL l 1) hes (o,false) ho
  simp only at a1 a4
  have hst:=grow_step (ofL l 1) hes o ho
  refine compI_l2 n l (ofL l 1) V out seen i (by omega) (R+m*66) r (o,false) ?_ (ofL l 1).length 0 k (o,false) (by omega) (by omega) (by omega) rfl
  intro k hk
  cases h:(passF (ofL l 1) (o,false)).2 with
  |true=>
   rw[if_pos h] at hst
   rcases a4 h with h4|h4
   ·cases h4
   ·exact ih k _ ⟨by omega,a1.2⟩ (by omega) hk (by rw[← hst];exact hnext)
  |false=>
   rw[if_neg (by rw[h];simp)] at hst
   rw[← hst]
   exact hnext k (by omega)
set_option maxRecDepth 100000 in
theorem compI_l0 (n:Int) (l V:List Int) (hl:l.length≤63) (hr:∀ x ∈ l,0≤x∧x≤63) (hV:V.length≤63) (hVr:∀ x ∈ V,0≤x∧x≤63):∀(d i k:Nat) (seen:Int) (out:List Int),V.length - i=d→i≤V.length→d*4300+1≤k→out.length≤i →
  impl_Complex_components.l0 k out seen V (V.length:Int) (i:Int) n l=some (compsI (ofL l 1) (V.drop i) seen out):=by
 intro d
 induction d with
 |zero=>
  intro i k seen out hd hi hk ho
  obtain ⟨k,rfl⟩:∃ m,k=m+1:=⟨k - 1,by omega⟩
  obtain rfl:i=V.length:=by omega
  simp only [impl_Complex_components.l0]
  rw[if_neg (by omega),List.drop_length]
  rfl
 |succ d ih=>
  intro i k seen out hd hi hk ho
  obtain ⟨k,rfl⟩:∃ m,k=m+1:=⟨k - 1,by omega⟩
  have hil:i<V.length:=by omega
  have hx:=hVr _ (List.getElem_mem hil)
  simp only [impl_Complex_components.l0]
  rw[if_pos (by omega),if_pos (by omega),if_pos (by omega),rd_nat V i hil,isIn_is,w64 ((i:Int)+1) (by omega) (by omega),nat_succ,List.drop_eq_getElem_cons hil]
  simp only [Option.bind_some,compsI]
  by_cases h:inB V[i] seen=true
  ·rw[if_pos h,if_pos h]
   exact ih (i+1) k seen out (by omega) (by omega) (by omega) (by omega)
  ·rw[if_neg h,if_neg h]
   refine compI_l1 n l V out seen i hl hr (d*4300+2) _ 64 k V[i] hx (by omega) (by omega) ?_
   intro k hk
   obtain ⟨k,rfl⟩:∃ m,k=m+1:=⟨k - 1,by omega⟩
   simp only [impl_Complex_components.l1]
   rw[if_neg (by simp),if_pos (by omega),w64 ((i:Int)+1) (by omega) (by omega),nat_succ]
   exact ih (i+1) k _ _ (by omega) (by omega) (by omega) (by rw[List.length_append];simp;omega)
theorem compI_is (n:Int) (l:List Int) (hl:l.length≤63) (hr:∀ x ∈ l,0≤x∧x≤63) (k:Nat) (hk:275000≤k):impl_Complex_components.f k n l=some (componentsL l):=by
 unfold impl_Complex_components.f
 rw[X_of_is n l 0 hl hr]
 simp only [Option.bind_some]
 have h0:=of_length l 0
 have:=compI_l0 n l (ofL l 0) hl hr (by omega) (fun x hx=>hr x (List.mem_filter.1 hx).1) (ofL l 0).length 0 k 0 [] (by omega) (by omega) (by omega) (by simp)
 rw[show ((0:Nat):Int)=0 from rfl,List.drop_zero] at this
 exact this
theorem components_calls (n:Int) (A:Option Addr) (c:Nat) (l:List Int) (w:World) (hk:Kx w A c l) (hl:l.length≤63) (hr:∀ x ∈ l,0≤x∧x≤63) :
  Calls Tryz.prog 88 #[.agg #[I n,.slice A l.length c]] w fun e w'=>∃ v,e = .returned v∧Ki.R 2 w' w.heap.size (fun _=>True) v (componentsL l)∧Grew w w':=
 impl_Complex_components.calls 275000 n A c l (componentsL l) w hk.r hk.c (compI_is n l hl hr 275000 (Nat.le_refl _))
set_option maxRecDepth 100000 in
set_option maxHeartbeats 4000000 in
theorem ComponentsOf_calls (n:Int) (A:Option Addr) (c:Nat) (l:List Int) (w:World) (hk:Kx w A c l) :
  Calls Tryz.prog 26 #[.agg #[I n,.slice A l.length c]] w fun e w'=>∃ v0,e = .returned (.tuple #[v0,I (codeOf n l (true))])∧Ki.R 2 w' w.heap.size (fun _=>True) v0 (if (codeOf n l (true))=0 then (componentsL l) else [])∧Grew w w':=by
 obtain ⟨W3,hW3⟩:∃ W3,W3=(w.alloc (.cells #[I n,.slice A l.length c] 26)):=⟨_,rfl⟩
 have hB:CB W3 w.heap.size n (.slice A l.length c):=by rw[hW3];exact blk_new w _
 have hg:Grew w W3:=by rw[hW3];exact below_alloc (Grew.refl w) _
 have H:=Aside0.mk (complexCode_calls true n A c l 73 #[] #[] W3 (hk.later hg) (enters_of Tryz.func73 (by kernel_rfl) rfl) (fun _=>always_answers _))
 have k_0:=hB.c0
 have k_1:=hB.c1
 have HK:=Aside0.mk hk
 have HB:=Aside0.mk hB
 have HG:=Aside0.mk hg
 clear hk hB hg
 obtain ⟨cc,hcc⟩:∃ cc,cc=codeOf n l (true):=⟨_,rfl⟩
 rw[← hcc] at H ⊢
 by_cases hz:cc=0
 ·subst hz
  have hb:=codeOf_zero hcc.symm
  have HI:=Aside0.mk hb.1
  have HBt:Aside0 ((true)=true):=⟨hb.2⟩
  have HZ:=Aside0.mk hcc
  have hx0:∀ {α:Type} (a b:α),(if (0:Int)=0 then a else b)=a:=fun a b=>if_pos rfl
  simp only [hx0]
  clear hcc hb hx0
  subst hW3
  go_enter Tryz.func26,Tryz.ntmps26
  go_wp2_with fail
  refine H.out.mono ?_
  rintro e w1 ⟨rfl,hG1⟩
  have HB1:Aside0 (CB w1 w.heap.size n (.slice A l.length c)):=⟨blk_below HB.out hG1⟩
  have HG1:=Aside0.mk (Grew.trans HG.out hG1)
  clear hG1 k_0 k_1
  have k_0:=HB1.out.c0
  have k_1:=HB1.out.c1
  have hb:=isC_faces HI.out
  have H2:=Aside0.mk (components_calls n A c l w1 (HK.out.later HG1.out) hb.2.2.2 (isC_of HI.out))
  clear hb
  go_wp2_with fail
  refine H2.out.mono ?_
  rintro e w2 ⟨v,rfl,hR2,hG2⟩
  go_wp2_with fail
  go_ret2
  exact⟨_,rfl,Kd.R_lower hR2 HG1.out.size,Grew.trans HG1.out hG2⟩
 ·have HV:Aside0 (∀ {α:Type} (a b:α),(if cc=0 then a else b)=b):=⟨fun a b=>if_neg hz⟩
  simp only [HV.out]
  clear hcc
  subst hW3
  go_enter Tryz.func26,Tryz.ntmps26
  go_wp2_with fail
  refine H.out.mono ?_
  rintro e w1 ⟨rfl,hG1⟩
  have HG1:=Aside0.mk (Grew.trans HG.out hG1)
  clear hG1 k_0 k_1
  go_wp2_with fail
  go_ret2
  exact⟨_,rfl,Kd.R_nil _ _ _ _ _,HG1.out⟩
end Go.Proofs.YtlhkdbkjafiikaaGreat.K
end

section
namespace Go.Proofs.YtlhkdbkjafiikaaGreat.Q
open Go.RowKit Go.Proofs.YtlhkdbkjafiikaaGreatW.PrintWords Go.Proofs.YtlhkdbkjafiikaaGreatW.PrintLast Go.Proofs.YtlhkdbkjafiikaaGreatW.PrintMore
attribute [local go_sem] max2_int min2_int max_two min_two max_three min_three max_four min_four
set_option linter.unusedVariables false
set_option linter.unusedSimpArgs false
mutual
def spec_l01Components.l0:Nat→List Int→Int→Int→Int→List Int→Option (List Int)
 |0,_,_,_,_,_=>none
 |k+1,x3,x4,x5,x259000,x259001=>if x5<x259000 then (if 0≤(IntKind.u64.wrap (x5)) then ((spec_l01Has.f k x259000 x259001 (shl .i64 1 (IntKind.u64.wrap (x5)))).bind fun t262=>(if t262=true then (spec_l01Components.l0 k x3 (Go.bits .or .i64 x4 (shl .i64 1 (IntKind.u64.wrap (x5)))) (wrap64 (x5+1)) x259000 x259001) else (spec_l01Components.l0 k x3 x4 (wrap64 (x5+1)) x259000 x259001))) else (none)) else (spec_l01Components.l1 k x3 x4 x259000 x259001)
def spec_l01Components.l1:Nat→List Int→Int→Int→List Int→Option (List Int)
 |0,_,_,_,_=>none
 |k+1,x3,x4,x259000,x259001=>if x4>0 then (spec_l01Components.l2 k x3 x4 (wrap64 (x4 - (Go.bits .and .i64 x4 (wrap64 (x4 - 1))))) true x259000 x259001) else (some x3)
def spec_l01Components.l2:Nat→List Int→Int→Int→Bool→Int→List Int→Option (List Int)
 |0,_,_,_,_,_,_=>none
 |k+1,x3,x4,x6,x7,x259000,x259001=>if x7=true then (spec_l01Components.l3 k x3 x4 x6 false 0 x259000 x259001) else (if x3.length<17592186044416 then (spec_l01Components.l1 k (x3 ++ [x6]) (wrap64 (x4 - (Go.bits .and .i64 x4 x6))) x259000 x259001) else (none))
def spec_l01Components.l3:Nat→List Int→Int→Int→Bool→Int→Int→List Int→Option (List Int)
 |0,_,_,_,_,_,_,_=>none
 |k+1,x3,x4,x6,x7,x8,x259000,x259001=>if x8<(x259001.length:Int) then (if 0≤x8 then (if (Go.bits .and .i64 (rd x259001 x8) x6)=0 then (spec_l01Components.l3 k x3 x4 x6 x7 (wrap64 (x8+1)) x259000 x259001) else (if (Go.bits .and .i64 (rd x259001 x8) x6)=(rd x259001 x8) then (spec_l01Components.l3 k x3 x4 x6 x7 (wrap64 (x8+1)) x259000 x259001) else (spec_l01Components.l3 k x3 x4 (Go.bits .or .i64 x6 (rd x259001 x8)) true (wrap64 (x8+1)) x259000 x259001))) else (none)) else (spec_l01Components.l2 k x3 x4 x6 x7 x259000 x259001)
end
def spec_l01Components.f (k:Nat) (a0_0:Int) (l0_1:List Int):Option (List Int):=spec_l01Components.l0 k (([]:List Int)) 0 0 a0_0 l0_1
theorem spec_l01Components.mono_l:∀ k,(∀ y0 y1 y2 y3 y4,LeO (spec_l01Components.l0 k y0 y1 y2 y3 y4) (spec_l01Components.l0 (k+1) y0 y1 y2 y3 y4))∧(∀ y0 y1 y2 y3,LeO (spec_l01Components.l1 k y0 y1 y2 y3) (spec_l01Components.l1 (k+1) y0 y1 y2 y3))∧(∀ y0 y1 y2 y3 y4 y5,LeO (spec_l01Components.l2 k y0 y1 y2 y3 y4 y5) (spec_l01Components.l2 (k+1) y0 y1 y2 y3 y4 y5))∧(∀ y0 y1 y2 y3 y4 y5 y6,LeO (spec_l01Components.l3 k y0 y1 y2 y3 y4 y5 y6) (spec_l01Components.l3 (k+1) y0 y1 y2 y3 y4 y5 y6))
 |0=>⟨fun _ _ _ _ _ r h=>by simp [spec_l01Components.l0] at h,fun _ _ _ _ r h=>by simp [spec_l01Components.l1] at h,fun _ _ _ _ _ _ r h=>by simp [spec_l01Components.l2] at h,fun _ _ _ _ _ _ _ r h=>by simp [spec_l01Components.l3] at h⟩
 |k+1=>by
  obtain ⟨ih0,ih1,ih2,ih3⟩:=spec_l01Components.mono_l k;refine⟨?_,?_,?_,?_⟩
  ·intro y0 y1 y2 y3 y4;unfold spec_l01Components.l0;repeat' first
   |(with_reducible first|exact ih0 _ _ _ _ _|exact ih1 _ _ _ _|exact ih2 _ _ _ _ _ _|exact ih3 _ _ _ _ _ _ _|exact spec_l01Has.mono _ _ _ _|exact LeO.refl _|exact LeO.none _|refine LeO.ite ?_ ?_|refine LeO.bind ?_ (fun _=>?_))
  ·intro y0 y1 y2 y3;unfold spec_l01Components.l1;repeat' first
   |(with_reducible first|exact ih0 _ _ _ _ _|exact ih1 _ _ _ _|exact ih2 _ _ _ _ _ _|exact ih3 _ _ _ _ _ _ _|exact spec_l01Has.mono _ _ _ _|exact LeO.refl _|exact LeO.none _|refine LeO.ite ?_ ?_|refine LeO.bind ?_ (fun _=>?_))
  ·intro y0 y1 y2 y3 y4 y5;unfold spec_l01Components.l2;repeat' first
   |(with_reducible first|exact ih0 _ _ _ _ _|exact ih1 _ _ _ _|exact ih2 _ _ _ _ _ _|exact ih3 _ _ _ _ _ _ _|exact spec_l01Has.mono _ _ _ _|exact LeO.refl _|exact LeO.none _|refine LeO.ite ?_ ?_|refine LeO.bind ?_ (fun _=>?_))
  ·intro y0 y1 y2 y3 y4 y5 y6;unfold spec_l01Components.l3;repeat' first
   |(with_reducible first|exact ih0 _ _ _ _ _|exact ih1 _ _ _ _|exact ih2 _ _ _ _ _ _|exact ih3 _ _ _ _ _ _ _|exact spec_l01Has.mono _ _ _ _|exact LeO.refl _|exact LeO.none _|refine LeO.ite ?_ ?_|refine LeO.bind ?_ (fun _=>?_))
theorem spec_l01Components.mono:∀ a0 a1 k,LeO (spec_l01Components.f k a0 a1) (spec_l01Components.f (k+1) a0 a1):=by
 intro a0 a1 k;obtain ⟨ih0,ih1,ih2,ih3⟩:=spec_l01Components.mono_l k;unfold spec_l01Components.f;repeat' first
   |(with_reducible first|exact ih0 _ _ _ _ _|exact ih1 _ _ _ _|exact ih2 _ _ _ _ _ _|exact ih3 _ _ _ _ _ _ _|exact spec_l01Has.mono _ _ _ _|exact LeO.refl _|exact LeO.none _|refine LeO.ite ?_ ?_|refine LeO.bind ?_ (fun _=>?_))
set_option maxHeartbeats 8000000 in
set_option maxRecDepth 100000 in
theorem spec_l01Components.calls (k:Nat) (a0_0:Int) (A0_1:Option Addr) (c0_1:Nat) (l0_1:List Int) (r:List Int) (w:World) (hr0_1:Kd.C (Kd.int .i64) w A0_1 l0_1.length l0_1) (hc0_1:l0_1.length≤c0_1) (h:spec_l01Components.f k a0_0 l0_1=some r) :
  Calls Tryz.prog 89 #[.agg #[.int .i64 a0_0,.slice A0_1 l0_1.length c0_1]] w fun e w'=>∃ v0_:Value,e = .returned (v0_)∧Kd.R (Kd.int .i64) 2 w' w.heap.size (fun _=>True) v0_ r∧Below w.heap.size w w':=by
 have hu26:=Tryz.underlying26;have HR0_1:=Aside0.mk hr0_1;have HC0_1:=Aside0.mk hc0_1;clear hr0_1 hc0_1;have HB:=Aside0.mk (Below.refl w.heap.size w);have H:(spec_l01Components.l0 k (([]:List Int)) 0 0 a0_0 l0_1)=some r:=h;clear h;obtain ⟨y259,hy259⟩:∃ y_:List Int,y_=(([]:List Int)):=⟨_,rfl⟩
 replace H:(spec_l01Components.l0 k y259 0 0 a0_0 l0_1)=some r:=by first|(rw[hy259];with_reducible exact H)|(have H2_:=(Option.bind_some _ _).symm.trans H;rw[hy259];with_reducible exact H2_)|(have H2_:=(Option.bind_some _ _).symm.trans H;with_reducible exact H2_)|with_reducible exact H|(rw[hy259];exact H)|exact H
 have Ny259:=Aside0.mk hy259;clear hy259;have H':=Aside0.mk H;clear H;go_enter Tryz.func89,Tryz.ntmps89;go_wp2_with (first|((with_reducible refine gate_dst (N:=1) rfl ?_);refine bx 1 #[.int .i64 a0_0,.slice A0_1 l0_1.length c0_1] 26 ?_;intro gb258 hg w2 hbox hb;have BK258:=Aside0.mk (hbox);have GE258:=gzA hg HB;replace HB:=bsA HB hb;clear hb hbox hg)|((with_reducible refine gate_dst (N:=9) rfl ?_);refine Kd.R_lit (Kd.int .i64) _ 2 ?hg (N:=9) ?hd (xs:=([]:List Int)) (inner:= []) (ok:=fun _=>True) (okp:=fun _=>True) ?hr ?hp (fun _ hk=>hk) trivial (Below.refl _ _) (Nat.le_refl _) (by simp) ?_;(case hd=>rfl);(case hg=>rfl);(case hr=>first|(go_simp;done)|(go_simp;rfl));(case hp=>exact(Reps.none _ _));intro v260 w3 ho4 hb hg_ hnew_;clear hg_ hnew_;(first|rw[← Ny259.out] at ho4|(simp only [Int.reduceToNat] at ho4;rw[← Ny259.out] at ho4));have HO261:=klA ho4 HB;replace BK258:=bkA BK258 hb;replace HB:=bsA HB hb;clear hb ho4))
 repeat(go_quiet (first|((with_reducible refine gate_dst (N:=1) rfl ?_);refine bx 1 #[.int .i64 a0_0,.slice A0_1 l0_1.length c0_1] 26 ?_;intro gb258 hg w2 hbox hb;have BK258:=Aside0.mk (hbox);have GE258:=gzA hg HB;replace HB:=bsA HB hb;clear hb hbox hg)|((with_reducible refine gate_dst (N:=9) rfl ?_);refine Kd.R_lit (Kd.int .i64) _ 2 ?hg (N:=9) ?hd (xs:=([]:List Int)) (inner:= []) (ok:=fun _=>True) (okp:=fun _=>True) ?hr ?hp (fun _ hk=>hk) trivial (Below.refl _ _) (Nat.le_refl _) (by simp) ?_;(case hd=>rfl);(case hg=>rfl);(case hr=>first|(go_simp;done)|(go_simp;rfl));(case hp=>exact(Reps.none _ _));intro v260 w3 ho4 hb hg_ hnew_;clear hg_ hnew_;(first|rw[← Ny259.out] at ho4|(simp only [Int.reduceToNat] at ho4;rw[← Ny259.out] at ho4));have HO261:=klA ho4 HB;replace BK258:=bkA BK258 hb;replace HB:=bsA HB hb;clear hb ho4));try go_wp2_with (first|((with_reducible refine gate_dst (N:=1) rfl ?_);refine bx 1 #[.int .i64 a0_0,.slice A0_1 l0_1.length c0_1] 26 ?_;intro gb258 hg w2 hbox hb;have BK258:=Aside0.mk (hbox);have GE258:=gzA hg HB;replace HB:=bsA HB hb;clear hb hbox hg)|((with_reducible refine gate_dst (N:=9) rfl ?_);refine Kd.R_lit (Kd.int .i64) _ 2 ?hg (N:=9) ?hd (xs:=([]:List Int)) (inner:= []) (ok:=fun _=>True) (okp:=fun _=>True) ?hr ?hp (fun _ hk=>hk) trivial (Below.refl _ _) (Nat.le_refl _) (by simp) ?_;(case hd=>rfl);(case hg=>rfl);(case hr=>first|(go_simp;done)|(go_simp;rfl));(case hp=>exact(Reps.none _ _));intro v260 w3 ho4 hb hg_ hnew_;clear hg_ hnew_;(first|rw[← Ny259.out] at ho4|(simp only [Int.reduceToNat] at ho4;rw[← Ny259.out] at ho4));have HO261:=klA ho4 HB;replace BK258:=bkA BK258 hb;replace HB:=bsA HB hb;clear hb ho4)))
 go_loopg [4,5] k (fun kq v4 v5 w'=>∃(x4_1:Int) (x5_1:Int),v4 = .int .i64 x4_1∧v5 = .int .i64 x5_1∧Aside0 (spec_l01Components.l0 kq y259 x4_1 x5_1 a0_0 l0_1=some r)∧Aside0 (kq≤k)∧Aside0 (Kd.R (Kd.int .i64) 2 w' w.heap.size (fun _=>True) v260 y259)∧Aside0 (w'.heap[gb258]?=some (.cells #[.int .i64 a0_0,(.slice A0_1 l0_1.length c0_1)] 26 (0,0)))∧Aside0 (Below w.heap.size w w'))
 case atStart=>exact⟨(0),(0),rs,rs,H',⟨Nat.le_refl _⟩,⟨kr HO261.out⟩,⟨bk BK258.out⟩,⟨bl HB.out⟩⟩
 case round=>
  clear H';try clear p2
  obtain ⟨x4_1,x5_1,rfl,rfl,HA,HK1,HO_3,BK258,HB⟩:=hrel;cases gk with
  |zero=>exact absurd HA.out (by simp [spec_l01Components.l0])
  |succ k1=>
   have H:=HA.out;clear HA;simp only [spec_l01Components.l0] at H;by_cases c5:x5_1<a0_0
   ·rw[if_pos c5] at H;have c5b0:decide (x5_1<a0_0)=true:=decide_eq_true c5;clear c5;obtain ⟨ji6,hji6⟩:∃ j_:Int,(IntKind.u64.wrap (x5_1))=j_:=⟨_,rfl⟩
    replace H:(if 0≤(ji6) then ((spec_l01Has.f k1 a0_0 l0_1 (shl .i64 1 (ji6))).bind fun t262=>(if t262=true then (spec_l01Components.l0 k1 y259 (Go.bits .or .i64 x4_1 (shl .i64 1 (ji6))) (wrap64 (x5_1+1)) a0_0 l0_1) else (spec_l01Components.l0 k1 y259 x4_1 (wrap64 (x5_1+1)) a0_0 l0_1))) else (none))=some r:=by first|(rw[hji6] at H;exact H)|(simp only [hji6] at H ⊢;exact H)
    by_cases c7:0≤(ji6)
    ·rw[if_pos c7] at H;have c7b0:=eq_true c7;have c7b1:decide (0≤(ji6))=true:=decide_eq_true c7;clear c7;obtain ⟨ji8,hji8⟩:∃ j_:Int,(shl .i64 1 (ji6))=j_:=⟨_,rfl⟩
     replace H:((spec_l01Has.f k1 a0_0 l0_1 (ji8)).bind fun t262=>(if t262=true then (spec_l01Components.l0 k1 y259 (Go.bits .or .i64 x4_1 (ji8)) (wrap64 (x5_1+1)) a0_0 l0_1) else (spec_l01Components.l0 k1 y259 x4_1 (wrap64 (x5_1+1)) a0_0 l0_1)))=some r:=by first|(rw[hji8] at H;exact H)|(simp only [hji8] at H ⊢;exact H)
     have hji8_:(IntKind.i64.wrap (1*2 ^ min (ji6).toNat 64))=ji8:=hji8;have hji8z:(ji6)≤64→(IntKind.i64.wrap (1*2 ^ (ji6).toNat))=ji8:=shl_small hji8;have hji8u:(IntKind.i64.wrap (2 ^ min (ji6).toNat 64))=ji8:=by have h_:=hji8_;rw[Int.one_mul] at h_;exact h_
     have hji8v:(ji6)≤64→(IntKind.i64.wrap (2 ^ (ji6).toNat))=ji8:=fun hle_=>by have h_:=hji8z hle_;rw[Int.one_mul] at h_;exact h_
     have hji8y:(wrap64 (1*2 ^ min (ji6).toNat 64))=ji8:=(i64_w _).symm.trans hji8_;have hji8x:(ji6)≤64→(wrap64 (1*2 ^ (ji6).toNat))=ji8:=fun h_=>(i64_w _).symm.trans (hji8z h_)
     replace H:=Option.bind_eq_some_iff.mp H;obtain ⟨t262,A90,H⟩:=H;replace H:(if t262=true then (spec_l01Components.l0 k1 y259 (Go.bits .or .i64 x4_1 (ji8)) (wrap64 (x5_1+1)) a0_0 l0_1) else (spec_l01Components.l0 k1 y259 x4_1 (wrap64 (x5_1+1)) a0_0 l0_1))=some r:=H;have A9:=Aside0.mk A90;clear A90;by_cases c10:t262=true
     ·subst c10;have H1:(spec_l01Components.l0 k1 y259 (Go.bits .or .i64 x4_1 (ji8)) (wrap64 (x5_1+1)) a0_0 l0_1)=some r:=by rw[if_pos rfl] at H;exact H
      clear H;have H:=H1;clear H1;have c11b0:=eq_true (dd:0≤(ji6));have H':=Aside0.mk H;clear H;have hcz12_0:=z0_ BK258;have hcz12_1:=z1_ BK258;have hfz12_0:=hf_ BK258 0;have hfz12_1:=hf_ BK258 1;go_wp2_with (first|(go_at_call 61;(with_reducible refine(spec_l01Has.calls k1 a0_0 _ _ l0_1 ji8 true _ (cb (Kd.C_below HR0_1.out HB.out)) HC0_1.out A9.out).mono ?_);rintro e w13 ⟨rfl,hb⟩;replace HO_3:=krA HO_3 hb;replace BK258:=bkA BK258 hb;replace HB:=bsA HB hb;(try clear hb);(try clear hb2);(try clear hk);(try clear hi)))
      repeat(go_quiet (first|(go_at_call 61;(with_reducible refine(spec_l01Has.calls k1 a0_0 _ _ l0_1 ji8 true _ (cb (Kd.C_below HR0_1.out HB.out)) HC0_1.out A9.out).mono ?_);rintro e w13 ⟨rfl,hb⟩;replace HO_3:=krA HO_3 hb;replace BK258:=bkA BK258 hb;replace HB:=bsA HB hb;(try clear hb);(try clear hb2);(try clear hk);(try clear hi)));try go_wp2_with (first|(go_at_call 61;(with_reducible refine(spec_l01Has.calls k1 a0_0 _ _ l0_1 ji8 true _ (cb (Kd.C_below HR0_1.out HB.out)) HC0_1.out A9.out).mono ?_);rintro e w13 ⟨rfl,hb⟩;replace HO_3:=krA HO_3 hb;replace BK258:=bkA BK258 hb;replace HB:=bsA HB hb;(try clear hb);(try clear hb2);(try clear hk);(try clear hi))))
      go_roundg k1
      case measure=>have:=HK1.out;omega
      case rel=>exact⟨(Go.bits .or .i64 x4_1 (ji8)),(wrap64 (x5_1+1)),(by first|rfl|(simp;done)|(simp only [← hji8] <;> (first|rfl|simp))|(simp [*];done)),rs,H',⟨by have:=HK1.out;omega⟩,⟨kr HO_3.out⟩,⟨bk BK258.out⟩,⟨bl HB.out⟩⟩
     ·replace c10:=Bool.eq_false_iff.mpr c10;subst c10;have H1:(spec_l01Components.l0 k1 y259 x4_1 (wrap64 (x5_1+1)) a0_0 l0_1)=some r:=by rw[if_neg (show ¬ (false=true) by decide)] at H;exact H
      clear H;have H:=H1;clear H1;have H':=Aside0.mk H;clear H;have hcz14_0:=z0_ BK258;have hcz14_1:=z1_ BK258;have hfz14_0:=hf_ BK258 0;have hfz14_1:=hf_ BK258 1;go_wp2_with (first|(go_at_call 61;(with_reducible refine(spec_l01Has.calls k1 a0_0 _ _ l0_1 ji8 false _ (cb (Kd.C_below HR0_1.out HB.out)) HC0_1.out A9.out).mono ?_);rintro e w15 ⟨rfl,hb⟩;replace HO_3:=krA HO_3 hb;replace BK258:=bkA BK258 hb;replace HB:=bsA HB hb;(try clear hb);(try clear hb2);(try clear hk);(try clear hi)))
      repeat(go_quiet (first|(go_at_call 61;(with_reducible refine(spec_l01Has.calls k1 a0_0 _ _ l0_1 ji8 false _ (cb (Kd.C_below HR0_1.out HB.out)) HC0_1.out A9.out).mono ?_);rintro e w15 ⟨rfl,hb⟩;replace HO_3:=krA HO_3 hb;replace BK258:=bkA BK258 hb;replace HB:=bsA HB hb;(try clear hb);(try clear hb2);(try clear hk);(try clear hi)));try go_wp2_with (first|(go_at_call 61;(with_reducible refine(spec_l01Has.calls k1 a0_0 _ _ l0_1 ji8 false _ (cb (Kd.C_below HR0_1.out HB.out)) HC0_1.out A9.out).mono ?_);rintro e w15 ⟨rfl,hb⟩;replace HO_3:=krA HO_3 hb;replace BK258:=bkA BK258 hb;replace HB:=bsA HB hb;(try clear hb);(try clear hb2);(try clear hk);(try clear hi))))
      go_roundg k1
      case measure=>have:=HK1.out;omega
      case rel=>exact⟨(x4_1),(wrap64 (x5_1+1)),rs,rs,H',⟨by have:=HK1.out;omega⟩,⟨kr HO_3.out⟩,⟨bk BK258.out⟩,⟨bl HB.out⟩⟩
    ·rw[if_neg c7] at H;exact absurd H (by simp)
   ·rw[if_neg c5] at H;have c5b0:decide (x5_1<a0_0)=false:=decide_eq_false c5;clear c5;have H':=Aside0.mk H;clear H;have hcz16_0:=z0_ BK258;have hcz16_1:=z1_ BK258;have hfz16_0:=hf_ BK258 0;have hfz16_1:=hf_ BK258 1;go_wp2
    repeat(go_quiet (fail);try go_wp2)
    go_loopg [3,4] k1 (fun kq v3 v4 w'=>∃(x3_2:List Int) (x4_2:Int),v4 = .int .i64 x4_2∧Aside0 (spec_l01Components.l1 kq x3_2 x4_2 a0_0 l0_1=some r)∧Aside0 (kq≤k1)∧Aside0 (Kd.R (Kd.int .i64) 2 w' w.heap.size (fun _=>True) v3 x3_2)∧Aside0 (w'.heap[gb258]?=some (.cells #[.int .i64 a0_0,(.slice A0_1 l0_1.length c0_1)] 26 (0,0)))∧Aside0 (Below w.heap.size w w'))
    case atStart=>exact⟨(y259),(x4_1),rs,H',⟨Nat.le_refl _⟩,⟨kr HO_3.out⟩,⟨bk BK258.out⟩,⟨bl HB.out⟩⟩
    case round=>
     clear H';try clear c1
     try clear p2
     try clear c5
     try clear c5b0
     try clear p6
     try clear c7
     try clear c7b0
     try clear c7b1
     try clear c8
     try clear c10
     try clear c11
     try clear c11b0
     try clear hcz12_0
     try clear hcz12_1
     try clear hcz14_0
     try clear hcz14_1
     try clear hcz16_0
     try clear hcz16_1
     try clear hfz12_0
     try clear hfz12_1
     try clear hfz14_0
     try clear hfz14_1
     try clear hfz16_0
     try clear hfz16_1
     try clear p2
     obtain ⟨x3_2,x4_2,rfl,HA,HK2,HO_3,BK258,HB⟩:=hrel;cases gk with
     |zero=>exact absurd HA.out (by simp [spec_l01Components.l1])
     |succ k2=>
      have H:=HA.out;clear HA;simp only [spec_l01Components.l1] at H;by_cases c17:x4_2>0
      ·rw[if_pos c17] at H;have c17b0:decide (0<x4_2)=true:=decide_eq_true c17;clear c17;have H':=Aside0.mk H;clear H;go_wp2
       repeat(go_quiet (fail);try go_wp2)
       go_loopg [6,7] k2 (fun kq v6 v7 w'=>∃(x6_3:Int) (x7_3:Bool),v6 = .int .i64 x6_3∧v7 = .bool x7_3∧Aside0 (spec_l01Components.l2 kq x3_2 x4_2 x6_3 x7_3 a0_0 l0_1=some r)∧Aside0 (kq≤k2)∧Aside0 (Kd.R (Kd.int .i64) 2 w' w.heap.size (fun _=>True) u3 x3_2)∧Aside0 (w'.heap[gb258]?=some (.cells #[.int .i64 a0_0,(.slice A0_1 l0_1.length c0_1)] 26 (0,0)))∧Aside0 (Below w.heap.size w w'))
       case atStart=>exact⟨(wrap64 (x4_2 - (Go.bits .and .i64 x4_2 (wrap64 (x4_2 - 1))))),(true),rs,rs,H',⟨Nat.le_refl _⟩,⟨kr HO_3.out⟩,⟨bk BK258.out⟩,⟨bl HB.out⟩⟩
       case round=>
        clear H';try clear c1
        try clear p2
        try clear c5
        try clear c5b0
        try clear p6
        try clear c7
        try clear c7b0
        try clear c7b1
        try clear c8
        try clear c10
        try clear c11
        try clear c11b0
        try clear c17
        try clear c17b0
        try clear hcz12_0
        try clear hcz12_1
        try clear hcz14_0
        try clear hcz14_1
        try clear hcz16_0
        try clear hcz16_1
        try clear hfz12_0
        try clear hfz12_1
        try clear hfz14_0
        try clear hfz14_1
        try clear hfz16_0
        try clear hfz16_1
        try clear p2
        try clear p6
        obtain ⟨x6_3,x7_3,rfl,rfl,HA,HK3,HO_3,BK258,HB⟩:=hrel;cases gk with
        |zero=>exact absurd HA.out (by simp [spec_l01Components.l2])
        |succ k3=>
         have H:=HA.out;clear HA;simp only [spec_l01Components.l2] at H;by_cases c18:x7_3=true
         ·subst c18;have H1:(spec_l01Components.l3 k3 x3_2 x4_2 x6_3 false 0 a0_0 l0_1)=some r:=by rw[if_pos rfl] at H;exact H
          clear H;have H:=H1;clear H1;have H':=Aside0.mk H;clear H;go_wp2
          repeat(go_quiet (fail);try go_wp2)
          go_loopg [6,7,8] k3 (fun kq v6 v7 v8 w'=>∃(x6_4:Int) (x7_4:Bool) (x8_4:Int),v6 = .int .i64 x6_4∧v7 = .bool x7_4∧v8 = .int .i64 x8_4∧Aside0 (spec_l01Components.l3 kq x3_2 x4_2 x6_4 x7_4 x8_4 a0_0 l0_1=some r)∧Aside0 (kq≤k3)∧Aside0 (Kd.R (Kd.int .i64) 2 w' w.heap.size (fun _=>True) u3 x3_2)∧Aside0 (w'.heap[gb258]?=some (.cells #[.int .i64 a0_0,(.slice A0_1 l0_1.length c0_1)] 26 (0,0)))∧Aside0 (Below w.heap.size w w'))
          case atStart=>exact⟨(x6_3),(false),(0),rs,rs,rs,H',⟨Nat.le_refl _⟩,⟨kr HO_3.out⟩,⟨bk BK258.out⟩,⟨bl HB.out⟩⟩
          case round=>
           clear H';try clear c1
           try clear p2
           try clear c5
           try clear c5b0
           try clear p6
           try clear c7
           try clear c7b0
           try clear c7b1
           try clear c8
           try clear c10
           try clear c11
           try clear c11b0
           try clear c17
           try clear c17b0
           try clear c18
           try clear hcz12_0
           try clear hcz12_1
           try clear hcz14_0
           try clear hcz14_1
           try clear hcz16_0
           try clear hcz16_1
           try clear hfz12_0
           try clear hfz12_1
           try clear hfz14_0
           try clear hfz14_1
           try clear hfz16_0
           try clear hfz16_1
           try clear p2
           try clear p6
           obtain ⟨x6_4,x7_4,x8_4,rfl,rfl,rfl,HA,HK4,HO_3,BK258,HB⟩:=hrel;cases gk with
           |zero=>exact absurd HA.out (by simp [spec_l01Components.l3])
           |succ k4=>
            have H:=HA.out;clear HA;simp only [spec_l01Components.l3] at H;by_cases c19:x8_4<(l0_1.length:Int)
            ·rw[if_pos c19] at H;have c19b0:decide (x8_4<(l0_1.length:Int))=true:=decide_eq_true c19;clear c19;by_cases c20:0≤x8_4
             ·rw[if_pos c20] at H;have c20b0:decide (0≤x8_4)=true:=decide_eq_true c20;clear c20;by_cases c21:(Go.bits .and .i64 (rd l0_1 x8_4) x6_4)=0
              ·rw[if_pos c21] at H;have c21b0:((Go.bits .and .i64 (rd l0_1 x8_4) x6_4) == 0)=true:=beq_iff_eq.mpr c21;have c21b1:((Go.bits .and .i64 (rd l0_1 x8_4) x6_4) != 0)=false:=bne_eq_false_iff_eq.mpr c21;clear c21;have H':=Aside0.mk H;clear H;have hcz22_0:=z0_ BK258;have hcz22_1:=z1_ BK258;have hfz22_0:=hf_ BK258 0;have hfz22_1:=hf_ BK258 1;have p266:0≤(x8_4:Int):=dd;have q266:x8_4<(l0_1.length:Int):=dd;obtain ⟨ad266,e266,hx266_0⟩:=Kd.at_int HR0_1.out x8_4 p266 q266;cases e266;replace hx266_0:=hx_ HB hx266_0;replace p266:=eq_true p266;replace q266:=eq_true q266;go_wp2
               repeat(go_quiet (fail);try go_wp2)
               go_roundg k4
               case measure=>have:=HK1.out;have:=HK2.out;have:=HK3.out;have:=HK4.out;omega
               case rel=>exact⟨(x6_4),(x7_4),(wrap64 (x8_4+1)),rs,rs,rs,H',⟨by have:=HK1.out;have:=HK2.out;have:=HK3.out;have:=HK4.out;omega⟩,⟨kr HO_3.out⟩,⟨bk BK258.out⟩,⟨bl HB.out⟩⟩
              ·rw[if_neg c21] at H;have c21b0:((Go.bits .and .i64 (rd l0_1 x8_4) x6_4) == 0)=false:=beq_eq_false_iff_ne.mpr c21;have c21b1:((Go.bits .and .i64 (rd l0_1 x8_4) x6_4) != 0)=true:=bne_iff_ne.mpr c21;by_cases c23:(Go.bits .and .i64 (rd l0_1 x8_4) x6_4)=(rd l0_1 x8_4)
               ·rw[if_pos c23] at H;have c23b0:((Go.bits .and .i64 (rd l0_1 x8_4) x6_4) == (rd l0_1 x8_4))=true:=beq_iff_eq.mpr c23;have c23b1:((Go.bits .and .i64 (rd l0_1 x8_4) x6_4) != (rd l0_1 x8_4))=false:=bne_eq_false_iff_eq.mpr c23;clear c23;have H':=Aside0.mk H;clear H;have hcz24_0:=z0_ BK258;have hcz24_1:=z1_ BK258;have hfz24_0:=hf_ BK258 0;have hfz24_1:=hf_ BK258 1;have p266:0≤(x8_4:Int):=dd;have q266:x8_4<(l0_1.length:Int):=dd;obtain ⟨ad266,e266,hx266_0⟩:=Kd.at_int HR0_1.out x8_4 p266 q266;cases e266;replace hx266_0:=hx_ HB hx266_0;replace p266:=eq_true p266;replace q266:=eq_true q266;have p267:0≤(x8_4:Int):=dd;have q267:x8_4<(l0_1.length:Int):=dd;obtain ⟨ad267,e267,hx267_0⟩:=Kd.at_int HR0_1.out x8_4 p267 q267;obtain rfl:ad266=ad267:=(by injection e267)
                replace hx267_0:=hx_ HB hx267_0;replace p267:=eq_true p267;replace q267:=eq_true q267;have p268:0≤(x8_4:Int):=dd;have q268:x8_4<(l0_1.length:Int):=dd;obtain ⟨ad268,e268,hx268_0⟩:=Kd.at_int HR0_1.out x8_4 p268 q268;obtain rfl:ad266=ad268:=(by injection e268)
                replace hx268_0:=hx_ HB hx268_0;replace p268:=eq_true p268;replace q268:=eq_true q268;go_wp2
                repeat(go_quiet (fail);try go_wp2)
                go_roundg k4
                case measure=>have:=HK1.out;have:=HK2.out;have:=HK3.out;have:=HK4.out;omega
                case rel=>exact⟨(x6_4),(x7_4),(wrap64 (x8_4+1)),rs,rs,rs,H',⟨by have:=HK1.out;have:=HK2.out;have:=HK3.out;have:=HK4.out;omega⟩,⟨kr HO_3.out⟩,⟨bk BK258.out⟩,⟨bl HB.out⟩⟩
               ·rw[if_neg c23] at H;have c23b0:((Go.bits .and .i64 (rd l0_1 x8_4) x6_4) == (rd l0_1 x8_4))=false:=beq_eq_false_iff_ne.mpr c23;have c23b1:((Go.bits .and .i64 (rd l0_1 x8_4) x6_4) != (rd l0_1 x8_4))=true:=bne_iff_ne.mpr c23;have H':=Aside0.mk H;clear H;have hcz25_0:=z0_ BK258;have hcz25_1:=z1_ BK258;have hfz25_0:=hf_ BK258 0;have hfz25_1:=hf_ BK258 1;have p266:0≤(x8_4:Int):=dd;have q266:x8_4<(l0_1.length:Int):=dd;obtain ⟨ad266,e266,hx266_0⟩:=Kd.at_int HR0_1.out x8_4 p266 q266;cases e266;replace hx266_0:=hx_ HB hx266_0;replace p266:=eq_true p266;replace q266:=eq_true q266;have p267:0≤(x8_4:Int):=dd;have q267:x8_4<(l0_1.length:Int):=dd;obtain ⟨ad267,e267,hx267_0⟩:=Kd.at_int HR0_1.out x8_4 p267 q267;obtain rfl:ad266=ad267:=(by injection e267)
                replace hx267_0:=hx_ HB hx267_0;replace p267:=eq_true p267;replace q267:=eq_true q267;have p268:0≤(x8_4:Int):=dd;have q268:x8_4<(l0_1.length:Int):=dd;obtain ⟨ad268,e268,hx268_0⟩:=Kd.at_int HR0_1.out x8_4 p268 q268;obtain rfl:ad266=ad268:=(by injection e268)
                replace hx268_0:=hx_ HB hx268_0;replace p268:=eq_true p268;replace q268:=eq_true q268;have p269:0≤(x8_4:Int):=dd;have q269:x8_4<(l0_1.length:Int):=dd;obtain ⟨ad269,e269,hx269_0⟩:=Kd.at_int HR0_1.out x8_4 p269 q269;obtain rfl:ad266=ad269:=(by injection e269)
                replace hx269_0:=hx_ HB hx269_0;replace p269:=eq_true p269;replace q269:=eq_true q269;go_wp2
                repeat(go_quiet (fail);try go_wp2)
                go_roundg k4
                case measure=>have:=HK1.out;have:=HK2.out;have:=HK3.out;have:=HK4.out;omega
                case rel=>exact⟨(Go.bits .or .i64 x6_4 (rd l0_1 x8_4)),(true),(wrap64 (x8_4+1)),rs,rs,rs,H',⟨by have:=HK1.out;have:=HK2.out;have:=HK3.out;have:=HK4.out;omega⟩,⟨kr HO_3.out⟩,⟨bk BK258.out⟩,⟨bl HB.out⟩⟩
             ·rw[if_neg c20] at H;exact absurd H (by simp)
            ·rw[if_neg c19] at H;have c19b0:decide (x8_4<(l0_1.length:Int))=false:=decide_eq_false c19;clear c19;have H':=Aside0.mk H;clear H;have hcz26_0:=z0_ BK258;have hcz26_1:=z1_ BK258;have hfz26_0:=hf_ BK258 0;have hfz26_1:=hf_ BK258 1;go_wp2
             repeat(go_quiet (fail);try go_wp2)
             go_roundg k4
             case measure=>have:=HK1.out;have:=HK2.out;have:=HK3.out;have:=HK4.out;omega
             case rel=>exact⟨(x6_4),(x7_4),rs,rs,H',⟨by have:=HK1.out;have:=HK2.out;have:=HK3.out;have:=HK4.out;omega⟩,⟨kr HO_3.out⟩,⟨bk BK258.out⟩,⟨bl HB.out⟩⟩
         ·replace c18:=Bool.eq_false_iff.mpr c18;subst c18;have H1:(if x3_2.length<17592186044416 then (spec_l01Components.l1 k3 (x3_2 ++ [x6_3]) (wrap64 (x4_2 - (Go.bits .and .i64 x4_2 x6_3))) a0_0 l0_1) else (none))=some r:=by rw[if_neg (show ¬ (false=true) by decide)] at H;exact H
          clear H;have H:=H1;clear H1;by_cases c27:x3_2.length<17592186044416
          ·rw[if_pos c27] at H;have LMc27:=Aside0.mk c27;clear c27;obtain ⟨y263,hy263⟩:∃ y_:List Int,y_=(x3_2 ++ [x6_3]):=⟨_,rfl⟩
           replace H:(spec_l01Components.l1 k3 y263 (wrap64 (x4_2 - (Go.bits .and .i64 x4_2 x6_3))) a0_0 l0_1)=some r:=by first|(rw[hy263];with_reducible exact H)|(have H2_:=(Option.bind_some _ _).symm.trans H;rw[hy263];with_reducible exact H2_)|(have H2_:=(Option.bind_some _ _).symm.trans H;with_reducible exact H2_)|with_reducible exact H|(rw[hy263];exact H)|exact H
           have Ny263:=Aside0.mk hy263;clear hy263;have H':=Aside0.mk H;clear H;go_wp2_with (first|((with_reducible refine gate_builtin (b:= .append) (xs:=#[.tmp 72,.tmp 74]) rfl ?_);at_builtin;refine Kd.R_append (Kd.int .i64) (w0:=w) w.heap.size rfl (.tmp 72) (.tmp 74) 24 2 (.int .i64 0) 8 rfl Tryz.underlying24 info2 rfl (by decide) (by omega) u3 x3_2 x6_3 [.int .i64 x6_3] (fun _=>True) (fun _=>False) rfl rfl ?aP (fun _ hk=>hk.elim) ?aF ?aO ?aB ?aS ?aL ?_;(case aP=>exact rfl);(case aB=>exact(bl HB.out));(case aF=>exact(fun _ _=>trivial));(case aO=>exact(kr HO_3.out));(case aS=>exact(below_size (bl HB.out)));(case aL=>have:=LMc27.out;omega);intro v264 w28 ho hb hg hat;rw[← Ny263.out] at ho;have n0_:=Aside0.mk (blk_grown (bk BK258.out) hg (Kd.R_ne HO_3.out BK258.out (by decide)));have n1_:=Aside0.mk (hb);have n2_:=Aside0.mk (ho);clear BK258;clear HB;clear HO_3;have BK258:=n0_;have HB:=n1_;have HO265:=n2_;clear n0_ n1_ n2_;clear ho hb hg hat))
           repeat(go_quiet (first|((with_reducible refine gate_builtin (b:= .append) (xs:=#[.tmp 72,.tmp 74]) rfl ?_);at_builtin;refine Kd.R_append (Kd.int .i64) (w0:=w) w.heap.size rfl (.tmp 72) (.tmp 74) 24 2 (.int .i64 0) 8 rfl Tryz.underlying24 info2 rfl (by decide) (by omega) u3 x3_2 x6_3 [.int .i64 x6_3] (fun _=>True) (fun _=>False) rfl rfl ?aP (fun _ hk=>hk.elim) ?aF ?aO ?aB ?aS ?aL ?_;(case aP=>exact rfl);(case aB=>exact(bl HB.out));(case aF=>exact(fun _ _=>trivial));(case aO=>exact(kr HO_3.out));(case aS=>exact(below_size (bl HB.out)));(case aL=>have:=LMc27.out;omega);intro v264 w28 ho hb hg hat;rw[← Ny263.out] at ho;have n0_:=Aside0.mk (blk_grown (bk BK258.out) hg (Kd.R_ne HO_3.out BK258.out (by decide)));have n1_:=Aside0.mk (hb);have n2_:=Aside0.mk (ho);clear BK258;clear HB;clear HO_3;have BK258:=n0_;have HB:=n1_;have HO265:=n2_;clear n0_ n1_ n2_;clear ho hb hg hat));try go_wp2_with (first|((with_reducible refine gate_builtin (b:= .append) (xs:=#[.tmp 72,.tmp 74]) rfl ?_);at_builtin;refine Kd.R_append (Kd.int .i64) (w0:=w) w.heap.size rfl (.tmp 72) (.tmp 74) 24 2 (.int .i64 0) 8 rfl Tryz.underlying24 info2 rfl (by decide) (by omega) u3 x3_2 x6_3 [.int .i64 x6_3] (fun _=>True) (fun _=>False) rfl rfl ?aP (fun _ hk=>hk.elim) ?aF ?aO ?aB ?aS ?aL ?_;(case aP=>exact rfl);(case aB=>exact(bl HB.out));(case aF=>exact(fun _ _=>trivial));(case aO=>exact(kr HO_3.out));(case aS=>exact(below_size (bl HB.out)));(case aL=>have:=LMc27.out;omega);intro v264 w28 ho hb hg hat;rw[← Ny263.out] at ho;have n0_:=Aside0.mk (blk_grown (bk BK258.out) hg (Kd.R_ne HO_3.out BK258.out (by decide)));have n1_:=Aside0.mk (hb);have n2_:=Aside0.mk (ho);clear BK258;clear HB;clear HO_3;have BK258:=n0_;have HB:=n1_;have HO265:=n2_;clear n0_ n1_ n2_;clear ho hb hg hat)))
           go_roundg k3
           case measure=>have:=HK1.out;have:=HK2.out;have:=HK3.out;omega
           case rel=>exact⟨(y263),(wrap64 (x4_2 - (Go.bits .and .i64 x4_2 x6_3))),rs,H',⟨by have:=HK1.out;have:=HK2.out;have:=HK3.out;omega⟩,⟨kr HO265.out⟩,⟨bk BK258.out⟩,⟨bl HB.out⟩⟩
          ·rw[if_neg c27] at H;exact absurd H (by simp)
      ·rw[if_neg c17] at H;have c17b0:decide (0<x4_2)=false:=decide_eq_false c17;clear c17;obtain rfl:=Option.some.inj H;go_wp2
       repeat(go_quiet (fail);try go_wp2)
       go_ret;exact⟨_,rr,by(with_reducible repeat(first|apply Kd.R_alloc|apply Kd.R_drewN|apply Kd.R_drew));exact HO_3.out,bl HB.out⟩
end Go.Proofs.YtlhkdbkjafiikaaGreat.Q
end

section
namespace Go.Proofs.YtlhkdbkjafiikaaGreat.Q
open Go.RowKit Go.Proofs.YtlhkdbkjafiikaaGreatW.PrintWords Go.Proofs.YtlhkdbkjafiikaaGreatW.PrintLast Go.Proofs.YtlhkdbkjafiikaaGreatW.PrintMore
attribute [local go_sem] max2_int min2_int max_two min_two max_three min_three max_four min_four
set_option linter.unusedVariables false
set_option linter.unusedSimpArgs false
def spec_ComponentsOf.f (k:Nat) (a0_0:Int) (l0_1:List Int):Option (List Int×Int):=(spec_l01Is.f k a0_0 l0_1).bind fun t271=>(if t271=true then ((spec_l01Components.f k a0_0 l0_1).bind fun t272=>(some (t272,0))) else (some (([]:List Int),1)))
theorem spec_ComponentsOf.mono:∀ a0 a1 k,LeO (spec_ComponentsOf.f k a0 a1) (spec_ComponentsOf.f (k+1) a0 a1):=by
 intro a0 a1 k;unfold spec_ComponentsOf.f;repeat' first
   |(with_reducible first|exact spec_l01Components.mono _ _ _|exact spec_l01Is.mono _ _ _|exact LeO.refl _|exact LeO.none _|refine LeO.ite ?_ ?_|refine LeO.bind ?_ (fun _=>?_))
set_option maxHeartbeats 8000000 in
set_option maxRecDepth 100000 in
theorem spec_ComponentsOf.calls (k:Nat) (a0_0:Int) (A0_1:Option Addr) (c0_1:Nat) (l0_1:List Int) (r1:List Int) (r2:Int) (w:World) (hr0_1:Kd.C (Kd.int .i64) w A0_1 l0_1.length l0_1) (hc0_1:l0_1.length≤c0_1) (h:spec_ComponentsOf.f k a0_0 l0_1=some (r1,r2)) :
  Calls Tryz.prog 27 #[.agg #[.int .i64 a0_0,.slice A0_1 l0_1.length c0_1]] w fun e w'=>∃ v0_:Value,e = .returned (.tuple #[v0_,.int .i64 r2])∧Kd.R (Kd.int .i64) 2 w' w.heap.size (fun _=>True) v0_ r1∧Below w.heap.size w w':=by
 have hu26:=Tryz.underlying26;have HR0_1:=Aside0.mk hr0_1;have HC0_1:=Aside0.mk hc0_1;clear hr0_1 hc0_1;have HB:=Aside0.mk (Below.refl w.heap.size w);have H:((spec_l01Is.f k a0_0 l0_1).bind fun t271=>(if t271=true then ((spec_l01Components.f k a0_0 l0_1).bind fun t272=>(some (t272,0))) else (some (([]:List Int),1))))=some (r1,r2):=h;clear h;replace H:=Option.bind_eq_some_iff.mp H;obtain ⟨t271,A20,H⟩:=H;replace H:(if t271=true then ((spec_l01Components.f k a0_0 l0_1).bind fun t272=>(some (t272,0))) else (some (([]:List Int),1)))=some (r1,r2):=H;have A2:=Aside0.mk A20;clear A20;by_cases c3:t271=true
 ·subst c3;have H1:((spec_l01Components.f k a0_0 l0_1).bind fun t272=>(some (t272,0)))=some (r1,r2):=by rw[if_pos rfl] at H;exact H
  clear H;have H:=H1;clear H1;replace H:=Option.bind_eq_some_iff.mp H;obtain ⟨t272,A40,H⟩:=H;replace H:(some (t272,0))=some (r1,r2):=H;have A4:=Aside0.mk A40;clear A40;simp only [Option.some.injEq,Prod.mk.injEq] at H;obtain ⟨rfl,rfl⟩:=H;go_enter Tryz.func27,Tryz.ntmps27;go_wp2_with (first|((with_reducible refine gate_dst (N:=1) rfl ?_);refine bx 1 #[.int .i64 a0_0,.slice A0_1 l0_1.length c0_1] 26 ?_;intro gb270 hg w5 hbox hb;have BK270:=Aside0.mk (hbox);have GE270:=gzA hg HB;replace HB:=bsA HB hb;clear hb hbox hg;have hcz6_0:=z0_ BK270;have hcz6_1:=z1_ BK270;have hfz6_0:=hf_ BK270 0;have hfz6_1:=hf_ BK270 1)|((with_reducible refine gate_callee (f:=71) rfl ?_);refine gl (some 5) Tryz.func71 #[.agg #[.int .i64 a0_0,.slice A0_1 l0_1.length c0_1]] ?_;(with_reducible refine(spec_l01Is.calls k a0_0 _ _ l0_1 true _ (cb (Kd.C_below HR0_1.out HB.out)) HC0_1.out A2.out).mono ?_);rintro e w7 ⟨rfl,hb⟩;refine⟨_,rfl,?_⟩;replace BK270:=bkA BK270 hb;replace HB:=bsA HB hb;(try clear hb);(try clear hb2);(try clear hk);(try clear hi);have hcz8_0:=z0_ BK270;have hcz8_1:=z1_ BK270;have hfz8_0:=hf_ BK270 0;have hfz8_1:=hf_ BK270 1)|((with_reducible refine gate_callee (f:=89) rfl ?_);refine gl (some 8) Tryz.func89 #[.agg #[.int .i64 a0_0,.slice A0_1 l0_1.length c0_1]] ?_;(with_reducible refine(spec_l01Components.calls k a0_0 _ _ l0_1 t272 _ (cb (Kd.C_below HR0_1.out HB.out)) HC0_1.out A4.out).mono ?_);rintro e w9 ⟨v273,rfl,ho0,hb⟩;refine⟨_,rfl,?_⟩;have HO274:=klA ho0 HB;replace BK270:=bkA BK270 hb;replace HB:=bsA HB hb;(try clear hb);(try clear hb2);(try clear hk);(try clear hi);(try clear ho0)))
  go_ret2;exact⟨_,rr,by(with_reducible repeat(first|apply Kd.R_alloc|apply Kd.R_drewN|apply Kd.R_drew));exact HO274.out,bl HB.out⟩
 ·replace c3:=Bool.eq_false_iff.mpr c3;subst c3;have H1:(some (([]:List Int),1))=some (r1,r2):=by rw[if_neg (show ¬ (false=true) by decide)] at H;exact H
  clear H;have H:=H1;clear H1;simp only [Option.some.injEq,Prod.mk.injEq] at H;obtain ⟨rfl,rfl⟩:=H;go_enter Tryz.func27,Tryz.ntmps27;go_wp2_with (first|((with_reducible refine gate_dst (N:=1) rfl ?_);refine bx 1 #[.int .i64 a0_0,.slice A0_1 l0_1.length c0_1] 26 ?_;intro gb270 hg w10 hbox hb;have BK270:=Aside0.mk (hbox);have GE270:=gzA hg HB;replace HB:=bsA HB hb;clear hb hbox hg;have hcz11_0:=z0_ BK270;have hcz11_1:=z1_ BK270;have hfz11_0:=hf_ BK270 0;have hfz11_1:=hf_ BK270 1)|((with_reducible refine gate_callee (f:=71) rfl ?_);refine gl (some 5) Tryz.func71 #[.agg #[.int .i64 a0_0,.slice A0_1 l0_1.length c0_1]] ?_;(with_reducible refine(spec_l01Is.calls k a0_0 _ _ l0_1 false _ (cb (Kd.C_below HR0_1.out HB.out)) HC0_1.out A2.out).mono ?_);rintro e w12 ⟨rfl,hb⟩;refine⟨_,rfl,?_⟩;replace BK270:=bkA BK270 hb;replace HB:=bsA HB hb;(try clear hb);(try clear hb2);(try clear hk);(try clear hi)))
  go_ret2;exact⟨_,rr,by first|exact Kd.R_nil _ _ _ _ _|exact Kd.N_nil _ _ _ _ _|exact Kd.V_nil _ _ _ _ _|exact Kd.Q_nil _ _ _ _ _|exact Kd.S_nil _ _ _ _ _,bl HB.out⟩
end Go.Proofs.YtlhkdbkjafiikaaGreat.Q
end

section
namespace Go.Proofs.YtlhkdbkjafiikaaGreat.K
open Go.RowKit Go.Shelf Go.Proofs.YtlhkdbkjafiikaaGreat.Q Go.Proofs.YtlhkdbkjafiikaaGreatW.PrintWords Go.Proofs.YtlhkdbkjafiikaaGreatW.PrintLast Go.Proofs.YtlhkdbkjafiikaaGreatW.PrintMore
set_option linter.unusedVariables false
set_option linter.unusedSimpArgs false
def leftAt (l:List Int) (m:Nat):Int:=(List.range m).foldl (fun o v=>if (2:Int) ^ v ∈ l then Go.bits .or .i64 o ((2:Int) ^ v) else o) 0
theorem leftAt_succ (l:List Int) (m:Nat):leftAt l (m+1)=if (2:Int) ^ m ∈ l then Go.bits .or .i64 (leftAt l m) ((2:Int) ^ m) else leftAt l m:=by
 unfold leftAt
 rw[List.range_succ,List.foldl_append]
 rfl
theorem bt_zero (u:Nat):bt 0 u=false:=by simp [bt]
theorem left_facts (l:List Int):∀ m:Nat,m≤6→(0≤leftAt l m∧leftAt l m≤63)∧∀ u,u<6→bt (leftAt l m) u=(decide (u<m) && decide ((2:Int) ^ u ∈ l)):=by
 intro m
 induction m with
 |zero=>exact fun _=>⟨by rw[show leftAt l 0=0 from rfl];omega,fun u hu=>by rw[show leftAt l 0=0 from rfl,bt_zero];simp⟩
 |succ m ih=>
  intro hm
  obtain ⟨h1,h2⟩:=ih (by omega)
  have hp:=pow_range m (by omega)
  rw[leftAt_succ]
  by_cases h:(2:Int) ^ m ∈ l
  ·rw[if_pos h]
   obtain ⟨k1,k2,k3⟩:=or_bt (leftAt l m) ((2:Int) ^ m) h1 (by omega)
   refine⟨⟨by omega,k3⟩,fun u hu=>?_⟩
   rw[k1 u hu,h2 u hu,bt_pow u m hu (by omega)]
   by_cases e:u=m
   ·subst e;simp [h]
   ·have:decide (u<m+1)=decide (u<m):=decide_eq_decide.2 (by omega)
    rw[this];simp [e]
  ·rw[if_neg h]
   refine⟨h1,fun u hu=>?_⟩
   rw[h2 u hu]
   by_cases e:u=m
   ·subst e;simp [h]
   ·have:decide (u<m+1)=decide (u<m):=decide_eq_decide.2 (by omega)
    rw[this]
theorem specComps_l0 (n:Int) (hn:1≤n∧n≤6) (l:List Int) (hl:l.length≤63) (R:Nat) (r:List Int) (hnext:∀ k,R≤k→spec_l01Components.l1 k [] (leftAt l n.toNat) n l=some r):∀(d v k:Nat),n.toNat - v=d→v≤n.toNat→R+d+66≤k →
  spec_l01Components.l0 k [] (leftAt l v) (v:Int) n l=some r:=by
 intro d
 induction d with
 |zero=>
  intro v k hd hv hk
  obtain ⟨k,rfl⟩:∃ m,k=m+1:=⟨k - 1,by omega⟩
  obtain rfl:v=n.toNat:=by omega
  simp only [spec_l01Components.l0]
  rw[if_neg (by omega)]
  exact hnext k (by omega)
 |succ d ih=>
  intro v k hd hv hk
  obtain ⟨k,rfl⟩:∃ m,k=m+1:=⟨k - 1,by omega⟩
  have hs:=shl_one (v:Int) (by omega) (by omega)
  rw[Int.toNat_natCast] at hs
  simp only [spec_l01Components.l0]
  rw[if_pos (by omega),u64_id (v:Int) (by omega) (by omega),if_pos (by omega),hs,specHas_is n _ l (by omega) k (by omega),w64 ((v:Int)+1) (by omega) (by omega),nat_succ]
  simp only [Option.bind_some]
  have h3:=ih (v+1) k (by omega) (by omega) (by omega)
  rw[leftAt_succ] at h3
  by_cases h:(2:Int) ^ v ∈ l
  ·rw[if_pos h] at h3
   rw[if_pos (decide_eq_true h)]
   exact h3
  ·rw[if_neg h] at h3
   rw[if_neg (by simp [h])]
   exact h3
theorem specComps_l3 (n:Int) (l out:List Int) (left:Int) (hl:l.length≤63) (hr:∀ x ∈ l,0≤x∧x≤63) (R:Nat) (r:List Int) (s0:Int×Bool)
  (hnext:∀ k,R≤k→spec_l01Components.l2 k out left (passF l s0).1 (passF l s0).2 n l=some r):∀(d j k:Nat) (s:Int×Bool),0≤s.1∧s.1≤63→l.length - j=d→j≤l.length→R+d+1≤k→passF (l.drop j) s=passF l s0 →
  spec_l01Components.l3 k out left s.1 s.2 (j:Int) n l=some r:=by
 intro d
 induction d with
 |zero=>
  intro j k s hs hd hj hk hp
  obtain ⟨k,rfl⟩:∃ m,k=m+1:=⟨k - 1,by omega⟩
  obtain rfl:j=l.length:=by omega
  simp only [spec_l01Components.l3]
  rw[List.drop_length] at hp
  have hp2:s=passF l s0:=hp
  rw[if_neg (by omega),hp2]
  exact hnext k (by omega)
 |succ d ih=>
  intro j k s hs hd hj hk hp
  obtain ⟨k,rfl⟩:∃ m,k=m+1:=⟨k - 1,by omega⟩
  have hjl:j<l.length:=by omega
  have hx:=hr _ (List.getElem_mem hjl)
  rw[List.drop_eq_getElem_cons hjl] at hp
  have hp2:passF (l.drop (j+1)) (stepF s l[j])=passF l s0:=hp
  have hib:=inB_is l[j] s.1 hx hs
  obtain ⟨k1,k2,k3⟩:=or_bt s.1 l[j] hs hx
  simp only [spec_l01Components.l3]
  rw[if_pos (by omega),if_pos (by omega),rd_nat l j hjl,w64 ((j:Int)+1) (by omega) (by omega),nat_succ]
  unfold stepF at hp2
  rw[hib] at hp2
  by_cases h0:Go.bits .and .i64 l[j] s.1=0
  ·rw[if_pos h0] at hp2 ⊢
   exact ih (j+1) k s hs (by omega) (by omega) (by omega) hp2
  ·rw[if_neg h0] at hp2 ⊢
   by_cases h1:Go.bits .and .i64 l[j] s.1=l[j]
   ·rw[if_pos (decide_eq_true h1)] at hp2
    rw[if_pos h1]
    exact ih (j+1) k s hs (by omega) (by omega) (by omega) hp2
   ·rw[if_neg (by simp [h1])] at hp2
    rw[if_neg h1]
    exact ih (j+1) k _ ⟨by show 0≤Go.bits .or .i64 s.1 l[j];omega,k3⟩ (by omega) (by omega) (by omega) hp2
theorem specComps_l2 (n:Int) (l out:List Int) (left:Int) (hl:l.length≤63) (hr:∀ x ∈ l,0≤x∧x≤63) (R:Nat) (r:List Int):∀(m k:Nat) (o:Int),0≤o∧o≤63→64 - o≤m→R+m*66≤k →
  (∀ k,R≤k→spec_l01Components.l2 k out left (growF l o) false n l=some r)→spec_l01Components.l2 k out left o true n l=some r:=by
 intro m
 induction m with
 |zero=>intro k o ho h1;omega
 |succ m ih=>
  intro k o ho h1 hk hnext
  obtain ⟨k,rfl⟩:∃ q,k=q+1:=⟨k - 1,by omega⟩
  simp only [spec_l01Components.l2]
  rw[if_pos trivial]
  obtain ⟨a1,a2,a3,a4,a5⟩:=pass_facts l hr (o,false) ho
  simp only at a1 a4
  have hst:=grow_step l hr o ho
  refine specComps_l3 n l out left hl hr (R+m*66) r (o,false) ?_ l.length 0 k (o,false) ho (by omega) (by omega) (by omega) rfl
  intro k hk
  cases h:(passF l (o,false)).2 with
  |true=>
   rw[if_pos h] at hst
   rcases a4 h with h4|h4
   ·cases h4
   ·exact ih k _ ⟨by omega,a1.2⟩ (by omega) hk (by rw[← hst];exact hnext)
  |false=>
   rw[if_neg (by rw[h];simp)] at hst
   rw[← hst]
   exact hnext k (by omega)
theorem low_64:∀ a:Fin 64,a.val≠0→(List.range 6).any (fun v=>decide ((a.val:Int) - Go.bits .and .i64 (a.val:Int) ((a.val:Int) - 1)=(2:Int) ^ v) && (bt (a.val:Int) v && (List.range v).all (fun u=>!(bt (a.val:Int) u))))=true:=by decide +kernel
theorem low_is (a:Int) (h0:0<a) (h1:a≤63):∃ v,v<6∧a - Go.bits .and .i64 a (a - 1)=(2:Int) ^ v∧bt a v=true∧∀ u,u<v→bt a u=false:=by
 obtain ⟨m,rfl⟩:=Int.eq_ofNat_of_zero_le (show 0≤a by omega)
 obtain ⟨v,hv,h⟩:=List.any_eq_true.1 (low_64 ⟨m,by omega⟩ (by show m≠0;omega))
 rw[Bool.and_eq_true,Bool.and_eq_true,decide_eq_true_eq,List.all_eq_true] at h
 exact⟨v,List.mem_range.1 hv,h.1,h.2.1,fun u hu=>by simpa using h.2.2 u (List.mem_range.2 hu)⟩
theorem pow_mono_64:∀ u v:Fin 6,u≤v→(2:Int) ^ u.val≤(2:Int) ^ v.val:=by decide +kernel
theorem pow_inj (u v:Nat) (hu:u<6) (hv:v<6) (h:(2:Int) ^ u=(2:Int) ^ v):u=v:=by
 have h1:=bt_pow u u hu hu
 rw[h,bt_pow u v hu hv] at h1
 simpa using h1
set_option maxRecDepth 100000 in
theorem specComps_l1 {n:Int} {l:List Int} (hi:isC n l=true):∀(fs:List Int) (seen left:Int) (out:List Int) (k:Nat),fs.Pairwise (· < ·)→(∀ f ∈ fs,∃ v,v<6∧f=(2:Int) ^ v)→0≤seen∧seen≤63→0≤left∧left≤63 →
  (∀ u,u<6→bt left u=(decide ((2:Int) ^ u ∈ fs) && !(bt seen u)))→out.length+fs.length≤100→fs.length*4400+1≤k →
  spec_l01Components.l1 k out left n l=some (compsI (ofL l 1) fs seen out):=by
 obtain ⟨hn,hs,hr,h63⟩:=isC_faces hi
 have hl:=isC_of hi
 intro fs
 induction fs with
 |nil=>
  intro seen left out k _ _ hse hle H ho hk
  obtain ⟨k,rfl⟩:∃ m,k=m+1:=⟨k - 1,by omega⟩
  have h0:left=0:=ext_bt left 0 hle ⟨by omega,by omega⟩ fun v hv=>by rw[H v hv,bt_zero];simp
  simp only [spec_l01Components.l1]
  rw[if_neg (by omega)]
  rfl
 |cons f fs ih=>
  intro seen left out k hp hf hse hle H ho hk
  rw[List.length_cons] at ho hk
  rw[List.pairwise_cons] at hp
  obtain ⟨v,hv,hfv⟩:=hf f List.mem_cons_self
  have hpv:=pow_range v hv
  have hmem:∀ u,u<6→u≠v→decide ((2:Int) ^ u ∈ f :: fs)=decide ((2:Int) ^ u ∈ fs):=fun u hu hne=>decide_eq_decide.2 (by
   rw[List.mem_cons]
   constructor
   ·rintro (h|h)
    ·exact absurd (pow_inj u v hu hv (h.trans hfv)) hne
    ·exact h
   ·exact .inr)
  have hfs:=fun x hx=>hf x (List.mem_cons_of_mem _ hx)
  simp only [compsI]
  by_cases hin:inB f seen=true
  ·rw[if_pos hin]
   have hsv:bt seen v=true:=(inB_iff f seen (by omega) hse).1 hin v hv (by rw[hfv,bt_pow v v hv hv];simp)
   refine ih seen left out k hp.2 hfs hse hle (fun u hu=>?_) (by omega) (by omega)
   rw[H u hu]
   by_cases e:u=v
   ·rw[e,hsv];simp
   ·rw[hmem u hu e]
  ·rw[if_neg hin]
   have hsv:bt seen v=false:=by
    cases h:bt seen v
    ·rfl
    ·exfalso
     refine hin ((inB_iff f seen (by omega) hse).2 fun u hu h2=>?_)
     rw[hfv,bt_pow u v hu hv] at h2
     have:u=v:=by simpa using h2
     rw[this];exact h
   have hlv:bt left v=true:=by rw[H v hv,hsv,hfv];simp
   have hpos:0<left:=by
    rcases Int.lt_or_eq_of_le hle.1 with h|h
    ·exact h
    ·rw[← h,bt_zero] at hlv;cases hlv
   obtain ⟨v',hv',hlow,h1,h2⟩:=low_is left hpos hle.2
   have hle':v'≤v:=by
    rcases Nat.lt_or_ge v v' with h|h
    ·rw[h2 v h] at hlv;cases hlv
    ·exact h
   have hvv:v'=v:=by
    have h3:=H v' hv'
    rw[h1] at h3
    have h4:=h3.symm
    rw[Bool.and_eq_true,decide_eq_true_eq,List.mem_cons] at h4
    rcases h4.1 with h5|h5
    ·exact pow_inj v' v hv' hv (h5.trans hfv)
    ·have h6:=hp.1 _ h5
     have h7:=pow_mono_64 ⟨v',hv'⟩ ⟨v,hv⟩ hle'
     simp only at h7
     omega
   rw[hvv] at hlow
   rw[← hfv] at hlow
   have hg:=grow_same hi f (by omega)
   obtain ⟨g1,g2,g3,g4⟩:=grow_facts l hl f (by omega)
   rw[← hg]
   generalize hG:growF l f=g at g1 g2
   obtain ⟨k,rfl⟩:∃ m,k=m+1:=⟨k - 1,by omega⟩
   simp only [spec_l01Components.l1]
   rw[if_pos (by omega),w64 (left - 1) (by omega) (by omega),hlow,w64 f (by omega) (by omega)]
   refine specComps_l2 n l out left h63 hl (fs.length*4400+2) _ 64 k f (by omega) (by omega) (by omega) ?_
   rw[hG]
   intro k hk
   obtain ⟨k,rfl⟩:∃ m,k=m+1:=⟨k - 1,by omega⟩
   obtain ⟨d1,d2,d3⟩:=diff_bt left g hle g1
   obtain ⟨o1,o2,o3⟩:=or_bt seen g hse g1
   have hgv:bt g v=true:=(inB_iff f g (by omega) g1).1 g2 v hv (by rw[hfv,bt_pow v v hv hv];simp)
   simp only [spec_l01Components.l2]
   rw[if_neg (by simp),if_pos (by omega),w64 _ (by omega) (by omega)]
   refine ih (Go.bits .or .i64 seen g) _ (out ++ [g]) k hp.2 hfs ⟨by omega,o3⟩ ⟨d2,d3⟩ (fun u hu=>?_) (by rw[List.length_append];simp;omega) (by omega)
   rw[d1 u hu,o1 u hu,H u hu]
   by_cases e:u=v
   ·rw[e,hgv];simp
   ·rw[hmem u hu e]
    cases decide ((2:Int) ^ u ∈ fs) <;> cases bt seen u <;> cases bt g u <;> rfl
theorem dim0_64:∀ m:Fin 64,dimI (m.val:Int)=0→m.val≠0→(List.range 6).any (fun v=>decide ((m.val:Int)=(2:Int) ^ v))=true:=by decide +kernel
theorem dim0_pow:∀ v:Fin 6,dimI ((2:Int) ^ v.val)=0:=by decide +kernel
set_option maxRecDepth 100000 in
theorem specComps_is {n:Int} {l:List Int} (hi:isC n l=true) (k:Nat) (hk:278000≤k):spec_l01Components.f k n l=some (componentsL l):=by
 obtain ⟨hn,hs,hr,h63⟩:=isC_faces hi
 have h0:=of_length l 0
 obtain ⟨f1,f2⟩:=left_facts l n.toNat (by omega)
 unfold spec_l01Components.f
 refine specComps_l0 n hn l h63 277500 _ (fun k hk=>?_) n.toNat 0 k (by omega) (by omega) (by omega)
 refine specComps_l1 hi (ofL l 0) 0 _ [] k (hs.filter _) (fun f hf=>?_) ⟨by omega,by omega⟩ f1 (fun u hu=>?_) (by simp;omega) (by omega)
 ·obtain ⟨h1,h2⟩:=List.mem_filter.1 hf
  have h3:=hr f h1
  obtain ⟨m,rfl⟩:=Int.eq_ofNat_of_zero_le (show 0≤f by omega)
  obtain ⟨v,hv,h4⟩:=List.any_eq_true.1 (dim0_64 ⟨m,by omega⟩ (by simpa [bne] using h2) (by show m≠0;omega))
  exact⟨v,List.mem_range.1 hv,of_decide_eq_true h4⟩
 ·rw[f2 u hu,bt_zero]
  have h5:decide ((2:Int) ^ u ∈ ofL l 0)=decide ((2:Int) ^ u ∈ l):=decide_eq_decide.2 (by
   unfold ofL
   rw[List.mem_filter]
   have h6:=dim0_pow ⟨u,hu⟩
   simp only at h6
   rw[h6]
   simp)
  rw[h5]
  by_cases h:(2:Int) ^ u ∈ l
  ·have h7:=(hr _ h).2.1
   have h8:u<n.toNat:=by
    rcases Nat.lt_or_ge u n.toNat with h9|h9
    ·exact h9
    ·exfalso
     have h10:=two_pow n.toNat u h9
     unfold fullOf at h7
     omega
   simp [h,h8]
  ·simp [h]
theorem specComponentsOf_is (n:Int) (l:List Int) (hl:l.length≤2097152) (k:Nat) (hk:isK l+278000≤k) :
  spec_ComponentsOf.f k n l=some ((if codeOf n l true=0 then componentsL l else []),codeOf n l true):=by
 unfold spec_ComponentsOf.f
 rw[specIs_is n l hl k (by omega)]
 simp only [Option.bind_some]
 cases hi:isC n l with
 |false=>simp [codeOf,hi]
 |true=>
  rw[if_pos rfl,specComps_is hi k (by omega)]
  simp [codeOf,hi]
theorem compsL_length (l:List Int):(componentsL l).length≤l.length:=by
 have h1:=comps_length (ofL l 1) (ofL l 0) 0 []
 have h2:=of_length l 0
 unfold componentsL
 simp at h1
 omega
end Go.Proofs.YtlhkdbkjafiikaaGreat.K
end

section
namespace Go.Proofs.YtlhkdbkjafiikaaGreat.K
open Go.Shelf
def SortI_ren:Go.Shelf.Ren:={
 f:=fun x=>
  match x with
  |5=>85
  |8=>133
  |7=>132
  |19=>161
  |20=>162
  |10=>153
  |11=>154
  |12=>155
  |13=>156
  |14=>157
  |15=>158
  |16=>147
  |17=>159
  |18=>160
  |30=>168
  |31=>169
  |32=>170
  |33=>171
  |34=>172
  |35=>166
  |40=>173
  |n=>n,
 t:=fun x=>
  match x with
  |23=>24
  |25=>2
  |3=>3
  |32=>93
  |22=>24
  |0=>0
  |44=>124
  |46=>48
  |4=>4
  |36=>118
  |35=>117
  |41=>89
  |5=>5
  |9=>9
  |53=>129
  |57=>133
  |63=>135
  |64=>136
  |n=>n,
 g:=fun x=>
    x }
theorem SortI:SlLaysM.n5 Tryz.prog SortI_ren:={
 mixed:=by kernel_rfl,
 f5:=⟨Tryz.f85.name,by decide,Tryz.func85.trans (congrArg some (by kernel_rfl))⟩,
 f7:=⟨Tryz.f132.name,by decide,Tryz.func132.trans (congrArg some (by kernel_rfl))⟩,
 f8:=Tryz.func133.trans (congrArg some (by kernel_rfl)),
 f10:=⟨Tryz.f153.name,by decide,Tryz.func153.trans (congrArg some (by kernel_rfl))⟩,
 f11:=⟨Tryz.f154.name,by decide,Tryz.func154.trans (congrArg some (by kernel_rfl))⟩,
 f12:=⟨Tryz.f155.name,by decide,Tryz.func155.trans (congrArg some (by kernel_rfl))⟩,
 f13:=⟨Tryz.f156.name,by decide,Tryz.func156.trans (congrArg some (by kernel_rfl))⟩,
 f14:=⟨Tryz.f157.name,by decide,Tryz.func157.trans (congrArg some (by kernel_rfl))⟩,
 f15:=⟨Tryz.f158.name,by decide,Tryz.func158.trans (congrArg some (by kernel_rfl))⟩,
 f16:=⟨Tryz.f147.name,by decide,Tryz.func147.trans (congrArg some (by kernel_rfl))⟩,
 f17:=⟨Tryz.f159.name,by decide,Tryz.func159.trans (congrArg some (by kernel_rfl))⟩,
 f18:=⟨Tryz.f160.name,by decide,Tryz.func160.trans (congrArg some (by kernel_rfl))⟩,
 f19:=Tryz.func161.trans (congrArg some (by kernel_rfl)),
 f20:=Tryz.func162.trans (congrArg some (by kernel_rfl)),
 f30:=⟨Tryz.f168.name,by decide,Tryz.func168.trans (congrArg some (by kernel_rfl))⟩,
 f31:=Tryz.func169.trans (congrArg some (by kernel_rfl)),
 f32:=Tryz.func170.trans (congrArg some (by kernel_rfl)),
 f33:=⟨Tryz.f171.name,by decide,Tryz.func171.trans (congrArg some (by kernel_rfl))⟩,
 f34:=⟨Tryz.f172.name,by decide,Tryz.func172.trans (congrArg some (by kernel_rfl))⟩,
 f35:=⟨Tryz.f166.name,by decide,Tryz.func166.trans (congrArg some (by kernel_rfl))⟩,
 f40:=⟨Tryz.f173.name,by decide,Tryz.func173.trans (congrArg some (by kernel_rfl))⟩,
 t0:=Tryz.underlying0,
 a0:=Tryz.isAgg0,
 z0:=Tryz.sizeOf0,
 v0:=Tryz.zeroValue0,
 t3:=Tryz.underlying3,
 a3:=Tryz.isAgg3,
 z3:=Tryz.sizeOf3,
 v3:=Tryz.zeroValue3,
 t4:=Tryz.underlying4,
 a4:=Tryz.isAgg4,
 z4:=Tryz.sizeOf4,
 v4:=Tryz.zeroValue4,
 t5:=Tryz.underlying5,
 a5:=Tryz.isAgg5,
 z5:=Tryz.sizeOf5,
 v5:=Tryz.zeroValue5,
 t9:=Tryz.underlying9,
 a9:=Tryz.isAgg9,
 z9:=Tryz.sizeOf9,
 v9:=Tryz.zeroValue9,
 t22:=Tryz.underlying24,
 a22:=Tryz.isAgg24,
 z22:=Tryz.sizeOf24,
 v22:=Tryz.zeroValue24,
 t23:=Tryz.underlying24,
 a23:=Tryz.isAgg24,
 z23:=Tryz.sizeOf24,
 v23:=Tryz.zeroValue24,
 t25:=Tryz.underlying2,
 a25:=Tryz.isAgg2,
 z25:=Tryz.sizeOf2,
 v25:=Tryz.zeroValue2,
 t32:=Tryz.underlying93,
 a32:=Tryz.isAgg93,
 z32:=Tryz.sizeOf93,
 v32:=Tryz.zeroValue93,
 t35:=Tryz.underlying117,
 a35:=Tryz.isAgg117,
 z35:=Tryz.sizeOf117,
 v35:=Tryz.zeroValue117,
 t36:=Tryz.underlying118,
 a36:=Tryz.isAgg118,
 z36:=Tryz.sizeOf118,
 v36:=Tryz.zeroValue118,
 t41:=Tryz.underlying89,
 a41:=Tryz.isAgg89,
 z41:=Tryz.sizeOf89,
 v41:=Tryz.zeroValue89,
 t44:=Tryz.underlying124,
 a44:=Tryz.isAgg124,
 z44:=Tryz.sizeOf124,
 v44:=Tryz.zeroValue124,
 t46:=Tryz.underlying48,
 a46:=Tryz.isAgg48,
 z46:=Tryz.sizeOf48,
 v46:=Tryz.zeroValue48,
 t53:=Tryz.underlying129,
 a53:=Tryz.isAgg129,
 z53:=Tryz.sizeOf129,
 v53:=Tryz.zeroValue129,
 t57:=Tryz.underlying133,
 a57:=Tryz.isAgg133,
 z57:=Tryz.sizeOf133,
 v57:=Tryz.zeroValue133,
 t63:=Tryz.underlying135,
 a63:=Tryz.isAgg135,
 z63:=Tryz.sizeOf135,
 v63:=Tryz.zeroValue135,
 t64:=Tryz.underlying136,
 a64:=Tryz.isAgg136,
 z64:=Tryz.sizeOf136,
 v64:=Tryz.zeroValue136 }
end Go.Proofs.YtlhkdbkjafiikaaGreat.K
end

section
namespace Go.Proofs.YtlhkdbkjafiikaaGreat.K
open Go.RowKit Go.Shelf Go.Lib Go.Sort Go.Proofs.YtlhkdbkjafiikaaGreatW.PrintWords Go.Proofs.YtlhkdbkjafiikaaGreatW.PrintLast Go.Proofs.YtlhkdbkjafiikaaGreatW.PrintMore
set_option linter.unusedVariables false
set_option linter.unusedSimpArgs false
theorem below_setCellsJ {base:Nat} {w:World} {G:Nat} (hb:base≤G):∀(vs:List Value) (i:Nat) (W:World),Below base w W→Below base w (W.setCells G i vs)
 |[],_,_,h=>h
 |v :: r,i,W,h=>below_setCellsJ hb r (i+1) _ (Below.setCell h hb v)
theorem below_growI (w:World) (os:Array Obj):Below w.heap.size w (grow w os):=⟨rfl,rfl,rfl,by simp [grow],fun k hk=>heap_grow_old w os hk⟩
theorem Ri.put_all {base:Nat} {ok:Nat→Prop} {G n c:Nat}:∀(ys:List Int) (i:Nat) (W:World) (xs:List Int),i+ys.length=xs.length→Ki.R 2 W base ok (.slice (some ⟨G,0,none⟩) n c) xs →
  Ki.R 2 (W.setCells G i (ys.map (Value.int .i64))) base ok (.slice (some ⟨G,0,none⟩) n c) (xs.take i ++ ys)
 |[],i,W,xs,hl,h=>by
  simp at hl
  rw[hl,List.take_length,List.append_nil]
  exact h
 |y :: r,i,W,xs,hl,h=>by
  simp at hl
  have h1:=Kd.R_putn h (i:Int) y
  rw[Int.toNat_natCast] at h1
  have h2:=Ri.put_all r (i+1) _ _ (by simp;omega) h1
  have e:(xs.set i y).take (i+1) ++ r=xs.take i ++ y :: r:=by
   rw[List.take_succ_eq_append_getElem (by simp;omega),List.take_set,List.set_eq_of_length_le (by simp;omega)]
   simp
  rw[e] at h2
  exact h2
theorem Ri.holds {base:Nat} {ok:Nat→Prop} {G c:Nat} {L:List Int} {w:World} (hR:Ki.R 2 w base ok (.slice (some ⟨G,0,none⟩) L.length c) L):Holds (Value.int .i64) w G 0 L.toArray:=fun j hj=>by
 have h:=Kd.R_celln (0:Int) hR (j:Int) (by omega) (by simpa using hj)
 rw[Int.toNat_natCast] at h
 have hj2:j<L.length:=by simpa using hj
 have e:rdOf (0:Int) L (j:Int)=L.toArray[j]!:=by simp [rdOf,hj2]
 rw[e] at h
 simpa using h
set_option maxHeartbeats 1000000 in
theorem SortI_calls {base:Nat} {ok:Nat→Prop} (v:Value) (L:List Int) (w:World) (hR:Ki.R 2 w base ok v L) (hbase:base≤w.heap.size) (hl:L.length≤1000000000) :
  Calls Tryz.prog 85 #[v] w fun e w'=>e = .returned (.tuple #[])∧Ki.R 2 w' base ok v (L.mergeSort fun x y=>decide (x≤y))∧Below base w w':=by
 by_cases h0:L.length=0
 ·obtain ⟨A,c,rfl,hc,_⟩:=Kd.R_reads hR
  obtain rfl:L = []:=List.length_eq_zero_iff.1 h0
  refine(show Calls Tryz.prog 85 _ _ _ from AnyM.slices_Sort_int_none SortI A c w).mono ?_
  rintro e w' ⟨rfl,rfl⟩
  exact⟨rfl,by rw[List.mergeSort_nil];exact hR,Below.mono (Below.refl _ _) hbase⟩
 ·obtain ⟨G,c,rfl,hb,hG,_⟩:=Kd.R_form hR (by omega)
  have hH:=Ri.holds hR
  refine(show Calls Tryz.prog 85 _ _ _ from AnyM.slices_Sort_int SortI G 0 c L w hH hG (by omega)).mono ?_
  rintro e w' ⟨rfl,n,os,rfl⟩
  have hw:=Lib.sorted_world (Value.int .i64) w G 0 n L.toArray (L.mergeSort fun x y=>decide (x≤y)) os hH (by simp)
  have hr:=Ri.put_all (L.mergeSort fun x y=>decide (x≤y)) 0 (w.drewN n) L (by simp) (Kd.R_drewN hR n)
  rw[List.take_zero,List.nil_append] at hr
  refine⟨rfl,?_,?_⟩
  ·rw[hw]
   exact Kd.R_below hr (below_growI _ _)
  ·rw[hw]
   have h1:Below base w ((w.drewN n).setCells G 0 ((L.mergeSort fun x y=>decide (x≤y)).map (Value.int .i64))):=below_setCellsJ hb _ _ _ (Below.mono (pw_below_drewN (Below.refl _ _) n) (by omega))
   exact Below.trans h1 (Below.mono (below_growI _ _) (Nat.le_trans (by omega) h1.size))
end Go.Proofs.YtlhkdbkjafiikaaGreat.K
end

section
namespace Go.Proofs.YtlhkdbkjafiikaaGreat.K
open Go.RowKit Go.Shelf Go.Proofs.YtlhkdbkjafiikaaGreat.Q Go.Proofs.YtlhkdbkjafiikaaGreatW.PrintWords Go.Proofs.YtlhkdbkjafiikaaGreatW.PrintLast Go.Proofs.YtlhkdbkjafiikaaGreatW.PrintMore
set_option linter.unusedVariables false
set_option linter.unusedSimpArgs false
section
variable {ops : Array Oper} {o : Oper} {a : Act} {Q : Exit → Act → World → Prop}
theorem append_int_step {Kc:Act→World→Prop} {W:World} (base:Nat) (hw:Region.wanted o (yielded ops a.tmps)=true) (s x:Operand)
  (ho:o.op = .call { callee:= .builtin .append,args:=#[s,x],argTypes:=#[24,24] })
  (v:Value) (xs:List Int) (p:Int) (hs:a.eval s=v) (hx:a.eval x = .slice (some ⟨W.heap.size,0,none⟩) 1 1)
  (HO:Ki.R 2 W base (fun _=>True) v xs) (hbase:base≤W.heap.size) (hl:xs.length≤1000000000000)
  (h:∀ A c w1,Ki.R 2 w1 base (fun _=>True) (.slice A (xs.length+1) c) (xs ++ [p])→Below base W w1→Kc (a.put o.dst (.slice A (xs.length+1) c)) w1) :
  if Region.wanted o (yielded ops a.tmps)=true then Oper.wp Tryz.prog o a (W.alloc (.cells #[I p] 2)) Kc Q else Kc (a.put o.dst undef) (W.alloc (.cells #[I p] 2)):=by
 refine Kd.R_append_step Ki (w0:=W) base hw s x 24 2 (.int .i64 0) 8 ho Tryz.underlying24 infoI rfl (by decide) (by omega) v xs p [I p] (fun _=>True) (fun _=>False) hs hx rfl (fun _ hk=>hk.elim) (fun _ _=>trivial) HO (Below.refl _ _) hbase (by omega) ?_
 intro v1 w1 hR hB hg _
 obtain ⟨A,c,e⟩:=Kd.R_slice hR
 rw[List.length_append] at e
 subst e
 exact h A c w1 hR hB
end
theorem below6 {w1 wr w5 w6:World} (h1:Grew w1 wr) (h2:Grew wr w5) (h3:Below (w1.heap.size+1) w5 w6):Grew w1 w6:=Below.trans h1 (Below.trans (Below.mono h2 h1.size) (Below.mono h3 (Nat.le_succ _)))
set_option maxHeartbeats 2000000 in
theorem Ren1_calls {n:Int} (hn:1≤n∧n≤6) (A:Option Addr) (c:Nat) (l:List Int) (A2:Option Addr) (c2:Nat) (p:List Int) {Bk Bp:Nat} (w:World) (h0:CB w Bk n (.slice A l.length c)) (h1:w.cell? ⟨Bp,0,none⟩=some (.slice A2 p.length c2)) (hp:Ki.C w A2 p.length p) (hc2:p.length≤c2) (hp2:p.length≤2097152) :
  Calls Tryz.prog 82 #[.pointer (some ⟨Bp,0,none⟩),.pointer (some ⟨Bk,0,none⟩)] w fun e w'=>e = .returned (.bool (ordB n p))∧Grew w w':=by
 have k0:=h0.c0
 have k1:=h0.c1
 have H:=Aside0.mk ((impl_isOrder.calls (p.length+1) A2 c2 p n _ w hp hc2 (isOrder_is hn p hp2 _ (by omega))).mono fun e w' ⟨he,hd⟩=>(⟨he,hd.below⟩:_∧Grew w w'))
 clear hp hc2 h0
 generalize ordB n p=r at H ⊢
 go_enter Tryz.func82,Tryz.ntmps82
 go_wp2_with fail
 refine H.out.mono ?_
 rintro e w1 ⟨rfl,hG1⟩
 go_wp2_with fail
 go_ret
 exact⟨rfl,hG1⟩
set_option maxRecDepth 100000 in
set_option maxHeartbeats 8000000 in
theorem Ren_calls (n:Int) (A:Option Addr) (c:Nat) (l:List Int) (A2:Option Addr) (c2:Nat) (p:List Int) (w:World) (hk:Kx w A c l) (hp:Ki.C w A2 p.length p) (hc2:p.length≤c2) (hp2:p.length≤2097152) :
  Calls Tryz.prog 23 #[.agg #[I n,.slice A l.length c],.slice A2 p.length c2] w fun e w'=>∃ v,e = .returned (.tuple #[.agg #[I (renOf n l p).1,v],I (renOf n l p).2.2])∧Ki.R 2 w' w.heap.size (fun _=>True) v (renOf n l p).2.1∧Grew w w':=by
 obtain ⟨W3,hW3⟩:∃ W3,W3=((w.alloc (.cells #[I n,.slice A l.length c] 26)).alloc (.cells #[.slice A2 p.length c2] 24)).alloc (.cells #[I 0,.slice none 0 0] 26):=⟨_,rfl⟩
 have hB:CB W3 w.heap.size n (.slice A l.length c):=by rw[hW3];exact blk_alloc (blk_alloc (blk_new w _) _) _
 have hF:W3.heap[w.heap.size+1]?=some (.cells #[.slice A2 p.length c2] 24 (0,0)):=by
  rw[hW3]
  refine blk_alloc ?_ _
  have:=blk_new (w.alloc (.cells #[I n,.slice A l.length c] 26)) (.cells #[.slice A2 p.length c2] 24)
  rwa [World.size_alloc] at this
 have hO:CB W3 (w.heap.size+2) 0 (.slice none 0 0):=by
  rw[hW3]
  have:=blk_new ((w.alloc (.cells #[I n,.slice A l.length c] 26)).alloc (.cells #[.slice A2 p.length c2] 24)) (.cells #[I 0,.slice none 0 0] 26)
  rwa [World.size_alloc,World.size_alloc] at this
 have hg:Grew w W3:=by rw[hW3];exact below_alloc (below_alloc (below_alloc (Grew.refl w) _) _) _
 have H:=Aside0.mk (complexCode_calls (ordB n p) n A c l 82 #[] #[.pointer (some ⟨w.heap.size+1,0,none⟩),.pointer (some ⟨w.heap.size,0,none⟩)] W3 (hk.later hg) (enters_of Tryz.func82 (by kernel_rfl) rfl)
  (fun hi W hW=>by
   have:=Ren1_calls (isC_faces hi).1 A c l A2 c2 p W (blk_below hB hW) (blk_cell (blk_below hF hW) 0) (Kd.C_below hp (Grew.trans hg hW)) hc2 hp2
   rw[Array.empty_append]
   exact this))
 obtain ⟨r,hr⟩:∃ r,r=renOf n l p:=⟨_,rfl⟩
 rw[← hr]
 have k0:=hB.c0
 have k1:=hB.c1
 have HK:=Aside0.mk hk
 have HP:=Aside0.mk hp
 have HC2:=Aside0.mk hc2
 have HB:=Aside0.mk hB
 have HF:=Aside0.mk hF
 have HO:=Aside0.mk hO
 have HG:=Aside0.mk hg
 have hc:=hk.c
 clear hk hB hF hO hg hp hc2
 obtain ⟨cc,hcc⟩:∃ cc,cc=codeOf n l (ordB n p):=⟨_,rfl⟩
 rw[← hcc] at H
 by_cases hz:cc=0
 ·subst hz
  obtain ⟨hi,hb⟩:=codeOf_zero hcc.symm
  have HV:Aside0 (r=(n,renL l p,0)):=⟨by rw[hr];unfold renOf;rw[if_pos hcc.symm]⟩
  obtain ⟨hn,hs,hrg,h63⟩:=isC_faces hi
  have HIM:Aside0 (∀ x ∈ l,∀ W,Grew w W→Calls Tryz.prog 84 #[I x,.slice A2 p.length c2] W fun e w'=>e = .returned (I (imgN p x:Int))∧Grew W w'):=⟨fun x hx W hW=>impl_imageOf.calls 20 x A2 c2 p _ W (Kd.C_below HP.out hW) HC2.out (imageOf_is hn hb x (hrg x hx).1 (hrg x hx).2.1)⟩
  clear hr hcc hi hb hs hrg
  subst hW3
  go_enter Tryz.func23,Tryz.ntmps23
  go_wp2_with fail
  refine H.out.mono ?_
  rintro e w1 ⟨rfl,hG1⟩
  have HB1:=Aside0.mk (blk_below HB.out hG1)
  have HF1:=Aside0.mk (blk_below HF.out hG1)
  have HO1:=Aside0.mk (blk_below HO.out hG1)
  have HG1:=Aside0.mk (Grew.trans HG.out hG1)
  have k0:w1.cell? ⟨w.heap.size,0,none⟩=some (I n):=blk_cell HB1.out 0
  have k1:w1.cell? ⟨w.heap.size,1,none⟩=some (.slice A l.length c):=blk_cell HB1.out 1
  have HX1:Aside0 (CB (w1.alloc (.cells #[I n,.slice none 0 0] 26)) w1.heap.size n (.slice none 0 0)):=⟨blk_new w1 _⟩
  have HGX:Aside0 (Grew w1 (w1.alloc (.cells #[I n,.slice none 0 0] 26))):=⟨below_alloc (Grew.refl w1) _⟩
  have hzx:(w1.alloc (.cells #[I n,.slice none 0 0] 26)).heap.size=w1.heap.size+1:=World.size_alloc _ _
  have HZX:=Aside0.mk hzx
  have kx1:=(Below.cell HGX.out (p:=⟨w.heap.size,1,none⟩) (World.block_lt_of_cell? w1 _ k1)).trans k1
  clear hG1 hzx
  go_wp2_with fail
  clear k0 k1 kx1
  go_loopg [23] l.length (fun gg s23 wr=>∃(kk:Nat) (A5:Option Addr) (c5:Nat),kk≤l.length∧l.length - kk≤gg∧s23 = .int .i64 kk∧Aside0 (CB wr w1.heap.size n (.slice A5 kk c5))∧Aside0 (Ki.R 2 wr (w1.heap.size+1) (fun _=>True) (.slice A5 kk c5) ((l.take kk).map fun f=>(imgN p f:Int)))∧Aside0 (Grew w1 wr))
  case atStart=>exact⟨0,none,0,Nat.zero_le _,by omega,rfl,HX1,⟨Kd.R_nil _ _ _ _ _⟩,HGX⟩
  case round=>
   obtain ⟨kk,A5,c5,hkk,hgg,rfl,HX,HR,HGr⟩:=hrel
   by_cases hlt:kk<l.length
   ·have hltz:(kk:Int)<(l.length:Int):=by omega
    obtain ⟨ad,e0,hx⟩:=Kd.at_int (HK.out.later (Grew.trans HG1.out HGr.out)).r (kk:Int) (by omega) (by omega)
    cases e0
    have hrd:rd l (kk:Int)=l[kk]:=by simp [rd,hlt]
    rw[hrd,Int.toNat_natCast] at hx
    have HN:Aside0 ((l.take (kk+1)).map (fun f=>(imgN p f:Int))=(l.take kk).map (fun f=>(imgN p f:Int)) ++ [(imgN p l[kk]:Int)]):=⟨by rw[List.take_succ_eq_append_getElem hlt,List.map_append];rfl⟩
    have HLk:Aside0 (((l.take kk).map fun f=>(imgN p f:Int)).length=kk):=⟨by simp;omega⟩
    have HIX:=Aside0.mk (HIM.out _ (List.getElem_mem hlt))
    clear hrd
    generalize l[kk]=x at hx HN HIX
    generalize (imgN p x:Int)=z at HN HIX
    generalize (l.take kk).map (fun f=>(imgN p f:Int))=L at HR HN HLk
    have hLk:=HLk.out
    subst hLk
    have hlw:=blk_lt HX.out
    have HFr:=Aside0.mk (blk_below HF1.out HGr.out)
    have q0:wr.cell? ⟨w.heap.size+1,0,none⟩=some (.slice A2 p.length c2):=blk_cell HFr.out 0
    have x1:=HX.out.c1
    have hlq:=World.block_lt_of_cell? wr _ q0
    have hsz:=HGr.out.size
    have hsw:w.heap.size+2<w1.heap.size:=blk_lt HO1.out
    go_wp2_with fail
    refine start_ (n:=9) (S:=fun w'=>w'.cell? ⟨w1.heap.size,1,none⟩=some (.slice A5 L.length c5)∧w'.cell? ⟨w.heap.size+1,0,none⟩=some (.slice A2 p.length c2)) (ds:= [8]) #[false,false,false,false,false,false,false,false,false] (by kernel_rfl) rfl rfl ⟨(Below.cell (w:=wr) (below_drew (Grew.refl wr)) (p:=⟨w1.heap.size,1,none⟩) hlw).trans x1,(Below.cell (w:=wr) (below_drew (Grew.refl wr)) (p:=⟨w.heap.size+1,0,none⟩) hlq).trans q0⟩ (fun hHeld=>?_)
    refine pure_ (i:=0) (N:=some 27) (v:=?_) (a':=?_) #[true,false,false,false,false,false,false,false,false] rfl rfl (by kernel_rfl) (fun _ _ _ h=>h) (Or.inl ⟨by rfl,?_⟩) ?_ ?_
    rotate_left;· intro w';go_simp;with_reducible rfl
    rotate_left;· simp only [Act.put,List.setIfInBounds_toArray,List.set_cons_zero,List.set_cons_succ,i64_w,i32_w];rfl
    refine pure_ (i:=2) (N:=some 29) (v:=?_) (a':=?_) #[true,false,true,false,false,false,false,false,false] rfl rfl (by kernel_rfl) (fun _ _ _ h=>h) (Or.inl ⟨by rfl,?_⟩) ?_ ?_
    rotate_left;· intro w';go_simp;with_reducible rfl
    rotate_left;· simp only [Act.put,List.setIfInBounds_toArray,List.set_cons_zero,List.set_cons_succ,i64_w,i32_w];rfl
    refine take_ (i:=1) (N:=some 28) (v:=?_) (a':=?_) #[true,true,true,false,false,false,false,false,false] rfl rfl (by kernel_rfl) (fun _ _ _ h=>h) (Or.inl ⟨by rfl,?_⟩) hHeld ?_ ?_
    rotate_left;· rintro w' ⟨s0,s1⟩;go_simp;with_reducible rfl
    rotate_left;· simp only [Act.put,List.setIfInBounds_toArray,List.set_cons_zero,List.set_cons_succ,i64_w,i32_w];rfl
    refine take_ (i:=3) (N:=some 30) (v:=?_) (a':=?_) #[true,true,true,true,false,false,false,false,false] rfl rfl (by kernel_rfl) (fun _ _ _ h=>h) (Or.inl ⟨by rfl,?_⟩) hHeld ?_ ?_
    rotate_left;· rintro w' ⟨s0,s1⟩;go_simp;with_reducible rfl
    rotate_left;· simp only [Act.put,List.setIfInBounds_toArray,List.set_cons_zero,List.set_cons_succ,i64_w,i32_w];rfl
    refine one_ (i:=4) (N:=some 31) #[true,true,true,true,true,false,false,false,false] rfl rfl (by kernel_rfl) (by decide) (fun K hK=>?_)
    refine goes_ Tryz.func84 (by kernel_rfl) rfl #[I x,.slice A2 p.length c2] (by rfl) rfl rfl (by simp only [List.map_toArray,List.map_cons,List.map_nil];rfl) ?_
    with_reducible refine(HIX.out _ (Grew.trans HG1.out (Grew.trans HGr.out (below_drew (Grew.refl wr))))).mono ?_
    rintro e w5 ⟨rfl,hGa⟩
    refine⟨_,rfl,?_⟩
    have HL:=Aside0.mk (Grew.trans (below_drew (Grew.refl wr)) hGa)
    have HRL:=Aside0.mk (Kd.R_below (Kd.R_drewN HR.out 1) hGa)
    have HXL:=Aside0.mk (CB.later HX.out HL.out)
    have hs5:=HL.out.size
    clear hGa
    refine hK.out _ _ ⟨(Below.cell (w:=wr) HL.out (p:=⟨w1.heap.size,1,none⟩) hlw).trans x1,(Below.cell (w:=wr) HL.out (p:=⟨w.heap.size+1,0,none⟩) hlq).trans q0⟩ (fun hHeld=>?_)
    clear hK K
    refine norm_ (a':=?_) ?_ ?_
    rotate_left
    ·show Act.put _ (some 31) _=_
     simp only [Act.put,List.setIfInBounds_toArray,List.set_cons_zero,List.set_cons_succ,i64_w,i32_w]
     rfl
    refine one_ (i:=5) (N:=some 32) #[true,true,true,true,true,true,false,false,false] rfl rfl (by kernel_rfl) (by decide) (fun K hK=>?_)
    refine value_ (w1:=?_) (v:=?_) (by rfl) rfl ?_ ?_
    rotate_left 2
    ·go_simp
     constructor
     ·rfl
     ·rfl
    refine hK.out _ _ ⟨(Below.cell (w:=wr) (below_alloc HL.out _) (p:=⟨w1.heap.size,1,none⟩) hlw).trans x1,(Below.cell (w:=wr) (below_alloc HL.out _) (p:=⟨w.heap.size+1,0,none⟩) hlq).trans q0⟩ (fun hHeld=>?_)
    clear hK K
    refine norm_ (a':=?_) ?_ ?_
    rotate_left
    ·show Act.put _ (some 32) _=_
     simp only [Act.put,List.setIfInBounds_toArray,List.set_cons_zero,List.set_cons_succ,i64_w,i32_w]
     rfl
    refine one_ (i:=6) (N:=some 33) #[true,true,true,true,true,true,true,false,false] rfl rfl (by kernel_rfl) (by decide) (fun K hK=>?_)
    refine append_int_step (w1.heap.size+1) (by rfl) (.tmp 28) (.tmp 32) (by rfl) _ L z (by rfl) (by rfl) HRL.out (by omega) (by omega) ?_
    intro A6 c6 w6 hR6 hB6
    have HXB:Aside0 (CB w6 w1.heap.size n (.slice A5 L.length c5)):=⟨(hB6.block w1.heap.size (by omega)).trans HXL.out⟩
    have HQ6:Aside0 (w6.heap[w.heap.size+1]?=some (.cells #[.slice A2 p.length c2] 24 (0,0))):=⟨(hB6.block (w.heap.size+1) (by omega)).trans (blk_below HFr.out HL.out)⟩
    have HR6:=Aside0.mk hR6
    have HG6:=Aside0.mk (below6 HGr.out HL.out hB6)
    have x6:=HXB.out.c1
    have f6:=blk_frozen HXB.out 1
    clear hR6 hB6
    refine hK.out _ _ ⟨HXB.out.c1,blk_cell HQ6.out 0⟩ (fun hHeld=>?_)
    clear hK K
    refine norm_ (a':=?_) ?_ ?_
    rotate_left
    ·show Act.put _ (some 33) _=_
     simp only [Act.put,List.setIfInBounds_toArray,List.set_cons_zero,List.set_cons_succ,i64_w,i32_w]
     rfl
    refine pure_ (i:=7) (N:=some 34) (v:=?_) (a':=?_) #[true,true,true,true,true,true,true,true,false] rfl rfl (by kernel_rfl) (fun _ _ _ h=>h) (Or.inl ⟨by rfl,?_⟩) ?_ ?_
    rotate_left;· intro w';go_simp;with_reducible rfl
    rotate_left;· simp only [Act.put,List.setIfInBounds_toArray,List.set_cons_zero,List.set_cons_succ,i64_w,i32_w];rfl
    refine last_ (i:=8) (N:=none) #[true,true,true,true,true,true,true,true,true] rfl rfl (by kernel_rfl) (by decide) (fun K hK=>?_)
    refine skip_ (w1:=?_) (by rfl) rfl ?_ ?_
    rotate_left
    ·go_simp
     rfl
    refine hK.out _ _ ?_
    clear hK K
    refine done_ (by kernel_rfl) ?_
    go_wp2_with fail
    go_roundg (l.length - (L.length+1))
    case measure=>omega
    case rel=>
     refine⟨L.length+1,A6,c6,by omega,by omega,by go_num,⟨HXB.out.set1⟩,⟨?_⟩,⟨below_set HG6.out (Nat.le_refl _)⟩⟩
     rw[HN.out]
     exact Ri.setCB HR6.out HXB.out 1 _
   ·obtain rfl:kk=l.length:=by omega
    have hltz:¬ (l.length:Int)<(l.length:Int):=by omega
    have HT:Aside0 ((l.take l.length).map (fun f=>(imgN p f:Int))=imgsL l p):=⟨by rw[List.take_length];rfl⟩
    rw[HT.out] at HR
    have hml:(imgsL l p).length≤1000000000:=by simp [imgsL];omega
    have hlw:=blk_lt HX.out
    have HSO:=Aside0.mk (SortI_calls _ _ wr HR.out hlw hml)
    have x0:=HX.out.c0
    have x1:=HX.out.c1
    have hsz:=HGr.out.size
    clear HT hml
    go_wp2_with fail
    refine HSO.out.mono ?_
    rintro e w7 ⟨rfl,hR7,hB7⟩
    have HX7:Aside0 (CB w7 w1.heap.size n (.slice A5 l.length c5)):=⟨(hB7.block w1.heap.size (Nat.lt_succ_self _)).trans HX.out⟩
    have HG7:=Aside0.mk (Below.trans HGr.out (hB7.mono (Nat.le_succ _)))
    have HO7:=Aside0.mk (blk_below HO1.out HG7.out)
    have HR7:=Aside0.mk hR7
    have hg1:=HG1.out.size
    clear x0 x1 hR7 hB7
    have x0:=HX7.out.c0
    have x1:=HX7.out.c1
    have o0:=(show CB w7 (w.heap.size+2) 0 (.slice none 0 0) from HO7.out).c0
    have o1:=(show CB w7 (w.heap.size+2) 0 (.slice none 0 0) from HO7.out).c1
    have f0:=blk_frozen HO7.out 0
    have f1:=blk_frozen HO7.out 1
    go_wp2_with fail
    refine bodyPost_ret (results_ct rfl _ _ (w.heap.size+2) 26 #[I n,_] (0,0) _ rfl (show CB w7 (w.heap.size+2) 0 (.slice none 0 0) from HO7.out).set Tryz.underlying26 rfl (by kernel_rfl)) rfl ?_
    rw[HV.out]
    exact⟨_,rfl,Kd.R_lower (Ri.setCB2 HR7.out HO7.out) (Nat.le_trans hg1 (Nat.le_succ _)),below_set (below_set (Grew.trans HG1.out HG7.out) (by omega)) (by omega)⟩
 ·have HV:Aside0 (r=(0,[],cc)):=⟨by rw[hr,hcc];unfold renOf;rw[if_neg (by rw[← hcc];exact hz)]⟩
  clear hr hcc
  subst hW3
  go_enter Tryz.func23,Tryz.ntmps23
  go_wp2_with fail
  refine H.out.mono ?_
  rintro e w1 ⟨rfl,hG1⟩
  clear k0 k1
  have hB1:CB w1 (w.heap.size+2) 0 (.slice none 0 0):=blk_below HO.out hG1
  have HB1:=Aside0.mk hB1
  have HG1:=Aside0.mk (Grew.trans HG.out hG1)
  have k0:=hB1.c0
  have k1:=hB1.c1
  have f0:=blk_frozen hB1 0
  have f1:=blk_frozen hB1 1
  clear hB1 hG1
  go_wp2_with fail
  refine bodyPost_ret (results_ct rfl _ _ (w.heap.size+2) 26 #[I 0,.slice none 0 0] (0,0) _ rfl HB1.out.set Tryz.underlying26 rfl (by kernel_rfl)) rfl ?_
  rw[HV.out]
  exact⟨_,rfl,Kd.R_nil _ _ _ _ _,below_set (below_set HG1.out (by omega)) (by omega)⟩
end Go.Proofs.YtlhkdbkjafiikaaGreat.K
end

section
namespace Go.Proofs.YtlhkdbkjafiikaaGreat.K
open Go.RowKit Go.Shelf Go.Proofs.YtlhkdbkjafiikaaGreat.Q Go.Proofs.YtlhkdbkjafiikaaGreat.R Go.Proofs.YtlhkdbkjafiikaaGreatW.PrintWords Go.Proofs.YtlhkdbkjafiikaaGreatW.PrintLast Go.Proofs.YtlhkdbkjafiikaaGreatW.PrintMore
set_option linter.unusedVariables false
set_option linter.unusedSimpArgs false
theorem Kx.of {w:World} {A:Option Addr} {c:Nat} {l:List Int} (hr:Ki.C w A l.length l) (hc:l.length≤c) (hl:l.length≤1001):Kx w A c l:=⟨hr,hc,by omega⟩
theorem isC_range {n:Int} {l:List Int} (h:isC n l=true): -100≤eulerI l∧eulerI l≤100:=by
 have hI:=isC_faces h
 have:=euler_range l (fun x hx=>⟨(hI.2.2.1 x hx).1,(hI.2.2.1 x hx).2.2⟩)
 have:=hI.2.2.2
 omega
theorem euler_fv {n:Int} {l:List Int} (h:isC n l=true) (hl:l.length≤1001):Fv 18 l (fun v=>#[.agg #[I n,v]]) (.tuple #[I (eulerI l),I 0]):=by
 intro W A c hr hc
 have:=EulerNumber_calls n A c l W (Kx.of hr hc hl)
 rw[if_pos h,show codeOf n l true=0 by unfold codeOf;rw[if_pos h];rfl] at this
 exact this
theorem count_fn {n:Int} {l r:List Int} (h:isC n l=true) (hl:l.length≤1001) (e:countL (topI l+1).toNat l=r):Fn 35 l (fun v=>#[.agg #[I n,v]]) (fun v=> .tuple #[v,I 0]) r:=by
 intro W A c hr hc
 have:=CountFaces_calls n A c l W (Kx.of hr hc hl)
 rw[show codeOf n l true=0 by unfold codeOf;rw[if_pos h];rfl,if_pos rfl,e] at this
 exact this
set_option maxRecDepth 100000 in
set_option maxHeartbeats 4000000 in
theorem big_law (A0:Option Addr) (c0:Nat) (l0:List Int) (w:World) (hr:K8.C w A0 l0.length l0) (hc:l0.length≤c0) (hb:(4096:Int)<l0.length) :
  Calls Tryz.prog 3 #[.slice A0 l0.length c0] w fun e w'=>e = .returned (.bool true)∧Grew w w':=by
 have hd:decide ((4096:Int)<l0.length)=true:=decide_eq_true hb
 have HR:=Aside0.mk hr
 have HC:=Aside0.mk hc
 clear hr hc hb
 go_enter Tryz.func3,Tryz.ntmps3
 go_wp2_with fail
 refine(big_calls A0 c0 l0 w HR.out HC.out).mono ?_
 rintro e w1 ⟨rfl,hG⟩
 rw[hd]
 have HG:=Aside0.mk hG
 clear hG
 go_wp2_with fail
 go_ret
 exact⟨rfl,HG.out⟩
theorem LParts_calls (A0:Option Addr) (c0:Nat) (l0:List Int) (w:World) (hr:Kd.C (Kd.int .u8) w A0 l0.length l0) (hc:l0.length≤c0) (hw:∀ n ∈ l0,(Lit.int .u8 n).wf=true) :
  Calls Tryz.prog 3 #[.slice A0 l0.length c0] w fun e w'=>e = .returned (.bool true)∧Grew w w':=by
 by_cases hb:(4096:Int)<l0.length
 ·exact big_law A0 c0 l0 w hr hc hb
 have hl:l0.length≤4096:=by omega
 have hy:∀ x ∈ l0,0≤x∧x≤255:=fun x hx=>by
  have:=hw x hx
  simp [Lit.wf,IntKind.min,IntKind.max,IntKind.signed,IntKind.bits] at this
  omega
 clear hw
 obtain ⟨K,hK⟩:∃ K:Nat,30000≤K:=⟨30000,Nat.le_refl _⟩
 obtain ⟨kn,kl,kf,ek,hkl⟩:=link_ok hl hy K hK
 obtain ⟨cn,cl,ec,hcl⟩:=cone_ok hl hy K hK
 obtain ⟨an,al,bn,bl,ej,hal,hbl⟩:=join_ok hl hy K hK
 obtain ⟨gn,gl,pl,er,hgl,hpl⟩:=renumber_ok hl hy K hK
 obtain ⟨hn,hl1,eh,hhl⟩:=components_ok hl hy K hK
 obtain ⟨un,ul,us,eu,hul⟩:=part_ok hl hy K hK
 obtain ⟨vn,vl,vd,ev,hvl⟩:=skeleton_ok hl hy K hK
 have PL:=Aside0.mk (link_facts (n:=kn) (f:=kf) (l:=kl))
 have PC:=Aside0.mk (join_facts (n:=cn) (m:=1) (k:=cl) (l:= [1]))
 have PJ:=Aside0.mk (join_facts (n:=an) (m:=bn) (k:=al) (l:=bl))
 have PR:=Aside0.mk (ren_facts (n:=gn) (l:=gl) (p:=pl))
 refine LParts_main l0 kl _ _ _ cl _ al bl _ gl pl _ hl1 (if codeOf hn hl1 true=0 then componentsL hl1 else []) ul _ vl _ (countL (topI gl+1).toNat gl)
  kn kf _ _ _ _ _ _ cn _ _ an bn _ _ (eulerI al) (eulerI bl) (eulerI (joinOf an al bn bl).2.1) gn _ _ hn _ un us _ _ vn vd _ _ A0 c0 w hr hc hb
  ⟨fun W A c hr hc=>spec_DrawLinkOf.calls K A c l0 kn kl kf W hr hc ek⟩
  ⟨fun W A c hr hc=>LinkOf_calls kn A c kl kf W (Kx.of hr hc hkl)⟩ ⟨fun W A c hr hc=>spec_LinkOf.calls (isK kl+2) kn A c kl kf _ _ _ W hr hc (specLinkOf_is kn kf kl (by omega) _ (Nat.le_refl _))⟩
  ⟨fun W A c hr hc=>StarOf_calls kn A c kl kf W (Kx.of hr hc hkl)⟩ ⟨fun W A c hr hc=>spec_StarOf.calls (isK kl+2) kn A c kl kf _ _ _ W hr hc (specStarOf_is kn kf kl (by omega) _ (Nat.le_refl _))⟩
  ⟨fun W A c hr hc=>TakeFace_calls kn A c kl kf W (Kx.of hr hc hkl)⟩ ⟨fun W A c hr hc=>spec_TakeFace.calls (isK kl+2) kn A c kl kf _ _ _ W hr hc (specTakeFace_is kn kf kl (by omega) _ (Nat.le_refl _))⟩
  ⟨fun W A c hr hc=>spec_DrawConeOf.calls K A c l0 cn cl W hr hc ec⟩
  ⟨fun W A c hr hc=>ConeOf_calls cn A c cl W (Kx.of hr hc hcl)⟩ ⟨fun W A c hr hc=>spec_ConeOf.calls (isK cl+4501) cn A c cl _ _ _ W hr hc (specCone_is cn cl (by omega) _ (Nat.le_refl _))⟩
  ⟨fun W A c hr hc=>(spec_DrawJoinOf.calls K A c l0 an al bn bl W hr hc ej).mono fun e w' ⟨v,v2,he,h1,h2,hG⟩=>⟨v,v2,he,Kd.R_mono h1 (fun _ _=>trivial),Kd.R_mono h2 (fun _ _=>trivial),hG⟩⟩
  ⟨fun W A c A2 c2 hr hc hr2 hc2=>JoinOf_calls an A c al bn A2 c2 bl W (Kx.of hr hc hal) (Kx.of hr2 hc2 hbl)⟩ ⟨fun W A c A2 c2 hr hc hr2 hc2=>spec_JoinOf.calls (isK al+isK bl+4501) an A c al bn A2 c2 bl _ _ _ W hr hc hr2 hc2 (specJoin_is an al bn bl (by omega) (by omega) _ (Nat.le_refl _))⟩
  ⟨fun W A c hr hc=>(spec_DrawRenumberComplex.calls K A c l0 gn gl pl W hr hc er).mono fun e w' ⟨v,v2,he,h1,h2,hG⟩=>⟨v,v2,he,Kd.R_mono h1 (fun _ _=>trivial),Kd.R_mono h2 (fun _ _=>trivial),hG⟩⟩
  ⟨fun W A c A2 c2 hr hc hr2 hc2=>Ren_calls gn A c gl A2 c2 pl W (Kx.of hr hc hgl) hr2 hc2 (by omega)⟩ ⟨fun W A c A2 c2 hr hc hr2 hc2=>spec_RenumberComplex.calls (isK gl+pl.length+6000) gn A c gl A2 c2 pl _ _ _ W hr hc hr2 hc2 (specRenumber_is gn gl pl (by omega) (by omega) _ (Nat.le_refl _))⟩
  ⟨fun W A c hr hc=>spec_DrawComponentsOf.calls K A c l0 hn hl1 W hr hc eh⟩
  ⟨fun W A c hr hc=>ComponentsOf_calls hn A c hl1 W (Kx.of hr hc hhl)⟩ ⟨fun W A c hr hc=>spec_ComponentsOf.calls (isK hl1+278000) hn A c hl1 _ _ W hr hc (specComponentsOf_is hn hl1 (by omega) _ (Nat.le_refl _))⟩
  ⟨fun W A c hr hc=>spec_DrawPartOn.calls K A c l0 un ul us W hr hc eu⟩
  ⟨fun W A c hr hc=>PartOn_calls un A c ul us W (Kx.of hr hc hul)⟩ ⟨fun W A c hr hc=>by rw[← specPartOn_is];exact specPartOn_calls un A c ul us W (Kx.of hr hc hul) (by omega)⟩
  ⟨fun W A c hr hc=>spec_DrawSkeletonOf.calls K A c l0 vn vl vd W hr hc ev⟩
  ⟨fun W A c hr hc=>SkeletonOf_calls vn A c vl vd W (Kx.of hr hc hvl)⟩ ⟨fun W A c hr hc=>spec_SkeletonOf.calls (isK vl+80) vn A c vl vd _ _ _ W hr hc (specSkeletonOf_is vn vl vd (by omega) _ (Nat.le_refl _))⟩
  ⟨fun h=>PL.out h⟩ ⟨fun h=>?_⟩ ⟨fun h=>?_⟩ ⟨fun h=>?_⟩ ⟨comps_facts hn hl1⟩ ⟨?_⟩
 ·have hq:=PC.out h
  refine⟨?_,?_⟩
  ·have:=euler_fv hq.2.2.1 (Nat.le_trans (joinOf_length cn cl 1 [1]) (by omega))
   rw[hq.2.2.2.1,one_euler] at this
   have e:eulerI cl+1 - eulerI cl*1=1:=by omega
   rw[e] at this
   exact this
  ·rw[hq.2.2.2.2]
   simp
   omega
 ·have hq:=PJ.out h
  exact⟨euler_fv hq.1 hal,euler_fv hq.2.1 hbl,euler_fv hq.2.2.1 (Nat.le_trans (joinOf_length an al bn bl) (by omega)),hq.2.2.2.1,isC_range hq.1,isC_range hq.2.1⟩
 ·have hq:=PR.out h
  exact⟨count_fn hq.1 hgl rfl,count_fn hq.2.1 (Nat.le_trans renOf_len (by omega)) hq.2.2⟩
 ·have h1:=fun(n:Int) (l:List Int) (b:Bool) (p:Int→Bool)=>partOf_length n l b p
  have hj:=joinOf_length
  have hlc:∀(c:Int) (q:List Int),q.length≤1001→(if c=0 then q else []).length≤1001:=fun c q hq=>by
   by_cases h:c=0
   ·rw[if_pos h];exact hq
   ·rw[if_neg h];simp
  have hcp:(if codeOf hn hl1 true=0 then componentsL hl1 else []).length≤1001:=hlc _ _ (Nat.le_trans (compsL_length hl1) hhl)
  have hct:(countL (topI gl+1).toNat gl).length≤10:=by
   rw[countL_length]
   have:=top_range gl
   omega
  exact⟨by omega,Nat.le_trans (h1 _ _ _ _) (by omega),Nat.le_trans (h1 _ _ _ _) (by omega),Nat.le_trans (h1 _ _ _ _) (by omega),by omega,Nat.le_trans (hj _ _ _ _) (by omega),by omega,by omega,Nat.le_trans (hj _ _ _ _) (by omega),by omega,by omega,
   Nat.le_trans renOf_len (by omega),by omega,by omega,by omega,Nat.le_trans (h1 _ _ _ _) (by omega),by omega,Nat.le_trans (h1 _ _ _ _) (by omega),by omega⟩
end Go.Proofs.YtlhkdbkjafiikaaGreat.K
end

section

namespace Go.Proofs.YtlhkdbkjafiikaaGreat.fnParts
open Go.ChangeShapes Go.WideShapes Go.ChangeAt Go.RowKit Go.Joins Go.Proofs.YtlhkdbkjafiikaaGreat.K Go.Proofs.YtlhkdbkjafiikaaGreatW.PrintWords
open Go.ChangeMaps (open_string shut_string)
set_option linter.unusedVariables false
set_option maxRecDepth 100000 in
theorem lifted (os : Os) (started : os.Started) (H : Type) (enc : TypeId × Value → H) :
  ReturnsInHanded {} Tryz.checked os 3 .any (Rows.fnPartsSpec.pre6 enc Tryz.prog Tryz.f3 Rows.fnPartsRow.domain false) (Rows.fnPartsSpec.post enc Tryz.prog Tryz.f3 false true false false) := by
 refine returnsInHanded_of_change_sized (C := Tryz.checked) ownKnob_none started (by kernel_rfl) Tryz.func3
  (ChangeSpec.witness6 (enc := enc) (C := Tryz.checked) false ⟨#[], #[.slice none 0 0], []⟩ 8 (by kernel_rfl) (by kernel_rfl) (by kernel_rfl) (by kernel_rfl)) ?_
 intro W base args ds gs before hval0 hW hcnd hsz0 _
 have hsz : (DataW.weightsEach Tryz.prog (Tryz.f3.params.toList ++ Rows.fnPartsSpec.plain.varTypes Tryz.prog) (ds ++ gs)).all (· ≤ reachBytes) = true := hsz0
 have hval : ∀ (j : Nat) t v, Tryz.f3.params[j]? = some t → args[j]? = some v → Value.okWide Tryz.prog W .any base t v := hval0
 have hW' := hW
 obtain ⟨p, q, hA0, hV, rfl, hfz, hnd⟩ := hW
 have hA : DataW.TrodAll enc Tryz.prog W 0 (fun _ => true) true Tryz.f3.params.toList args.toList ds p := hA0
 rw [Tryz.params3] at hA hval hsz
 obtain ⟨v0, vs0, d0, ds0, p0, q0, hargs, rfl, rfl, h0, r0⟩ := trodAll_cons hA
 obtain ⟨rfl, rfl, rfl⟩ := trodAll_nil r0
 obtain rfl : args = #[v0] := by cases args; simp_all
 obtain ⟨rfl, rfl⟩ := trodVars_none hV
 have k0 := h0
 have lt0 : ∀ x ∈ p0, x.block < W.heap.size := by obtain ⟨m, hm⟩ := k0; exact DataW.trod_lt m _ _ _ hm
 obtain ⟨a0, len0, cap0, hv0⟩ := okWide_slice Tryz.underlying22 (hval 0 22 v0 rfl rfl)
 obtain ⟨A0, c0, l0, e0, hc0, hr0, hw0⟩ : ∃ A c l, v0 = .slice A l.length c ∧ l.length ≤ c ∧ Kd.C (Kd.int .u8) W A l.length l ∧ ∀ n ∈ l, (Lit.int .u8 n).wf = true := by
  obtain ⟨fuel, hf⟩ := h0
  subst hv0
  exact bytes_open hf
 subst e0
 clear hA0 hval0 hsz0 hsz
 refine (K.LParts_calls A0 c0 l0 W hr0 hc0 hw0).mono fun e W' ⟨he, bel0⟩ => ?_
 have bel : Below W.heap.size W W' := bel0
 subst he
 exact ⟨_, rfl, _, _, _, [], _, [], hW', trodAll_mk1 (shut_bool Tryz.underlying4 _), (trodAll_cons_mk (Below.trod laidOut (by kernel_rfl) (of_decide_eq_true (by kernel_rfl)) k0 bel lt0) trodAll_mk0), rfl, bel.frame _, fun h => by cases h⟩
set_option maxRecDepth 100000 in
theorem starts : ∃ r, behindMainWord (wordsSigns Tryz.prog.initOrder.toList) = "cut".toList :: r := by
 have h : Tryz.prog.initOrder = String.ofList _ := rfl
 rw [h, String.toList_ofList, signs_take 7 _ rfl rfl, signs_take 64 _ rfl rfl, signs_take 3 _ rfl rfl]
 generalize wordsSigns _ = r
 exact ⟨r, by kernel_rfl⟩
set_option maxRecDepth 100000 in
theorem closed : joinedFacts Tryz.prog 3 Tryz.f3 Rows.fnPartsSpec Rows.fnPartsRow = true := by
 obtain ⟨r, h⟩ := starts
 unfold joinedFacts
 rw [cut_enter _ r h (by kernel_rfl) (by kernel_rfl) (by kernel_rfl), cut_make _ r h, cut_lifts _ r h]
 exact of_decide_eq_true (by kernel_rfl)
theorem over : Rows.fnPartsRow.holds Tryz.pinned (OpenSpec.ofChange Rows.fnPartsSpec) :=
 OpenClaim.holds_of_wide 3 Tryz.f3 rfl rfl rfl rfl rfl rfl rfl ⟨rfl, rfl, rfl, rfl, rfl⟩ rfl rfl rfl rfl rfl (by kernel_rfl) Tryz.func3 closed
  (of_decide_eq_true (by kernel_rfl)) (by unfold Func.isWrapper; first | (rw [if_pos (by decide +kernel)]; kernel_rfl) | (rw [if_neg (by decide +kernel)]; exact ⟨rfl, rfl⟩))
  (fun os started H enc _ => lifted os started H enc)
theorem proved : Rows.FnPartsSaid := over
#print axioms proved
end Go.Proofs.YtlhkdbkjafiikaaGreat.fnParts
namespace Go.Proofs.YtlhkdbkjafiikaaGreat
theorem fnParts_holds : Rows.FnPartsSaid := fnParts.proved
end Go.Proofs.YtlhkdbkjafiikaaGreat
end
