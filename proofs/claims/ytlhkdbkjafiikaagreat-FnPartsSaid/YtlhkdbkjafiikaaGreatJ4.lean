/- Texts of this work, put together by its pack.py. No conditions. -/
import Derived.Test.YtlhkdbkjafiikaaGreatJ3
import Derived.Below
import Derived.Deep.Draws
import Derived.Deep.AppendLies
import Derived.Maps.AppendAt
import Derived.OwnWalk
import Derived.Laws.BytesArg
import Derived.Laws.MakeOwn
import Derived.Laws.OwnMore
import Derived.Deep.OwnRows
import Derived.Tactics
import Derived.Lib.ConvBytes
import Derived.Laws.Slices
import Derived.WalkKit
import Derived.KernelRfl
import Derived.RowKit3
import Derived.Deep.LoopGhost
import Derived.Deep.QuietTactic
import Derived.BigQuiet
import Derived.WideLaws
import Derived.Deep.DeepCutAuto
import Derived.Deep.CutBlock
import Derived.Deep.RegionHeld3
import Derived.Laws.Rows
import Derived.Lib.AppendStr
import Derived.ArgAppend
import Derived.Laws.IdiomCopy
import Derived.RowKit
import Derived.OrdersHeld
import Derived.Laws.BitsLemmas
import Derived.Laws.StructEq
import Derived.Test.YtlhkdbkjafiikaaGreatProg
import Derived.Shelf.Abstract
import Derived.RangeFuncBox
import Derived.RangeFuncLeaves
import Derived.OwnWalkIn
import Derived.TacticsInMore
import Derived.LoopNIn
import Derived.LoopIn
import Derived.Laws.Bits64b
import Derived.Lib.SliceRun
section
namespace Go.Proofs.YtlhkdbkjafiikaaGreat.R
open Go.RowKit Go.Proofs.YtlhkdbkjafiikaaGreat.Q Go.Proofs.YtlhkdbkjafiikaaGreat.X Go.Proofs.YtlhkdbkjafiikaaGreatW.PrintWords Go.Proofs.YtlhkdbkjafiikaaGreatW.PrintLast Go.Proofs.YtlhkdbkjafiikaaGreatW.PrintMore
attribute [local go_sem] max2_int min2_int max_two min_two max_three min_three max_four min_four
set_option linter.unusedVariables false
set_option linter.unusedSimpArgs false
def spec_l01Draw.f (k:Nat) (s0_0:List Int) (s0_1:Int) (s0_2:Int):Option (Int×List Int×Int×Int):=(spec_l01Next.f s0_0 s0_1 s0_2 3).bind fun bt102=>(if bt102.1=0 then ((spec_l01Names.f).bind fun t105=>((spec_l01Next.f s0_0 bt102.2.1 bt102.2.2 (t105.length:Int)).bind fun bt108=>(if 0≤bt108.1 then (if bt108.1<(t105.length:Int) then ((spec_l01Named.f k (rdOf ByteArray.empty t105 bt108.1)).bind fun bt112=>((spec_l01DrawOrder.f s0_0 bt108.2.1 bt108.2.2 bt112.1).bind fun bt118=>((spec_l01Renamed.f k bt112.1 bt112.2.1 bt118.1).bind fun bt123=>(some (bt123.1,bt123.2,bt118.2.1,bt118.2.2))))) else (none)) else (none)))) else ((spec_l01Pick.f s0_0 bt102.2.1 bt102.2.2 (([1,2,3,4,4,5,5,6,6]:List Int))).bind fun bt130=>((spec_l01DrawOf.f k s0_0 bt130.2.1 bt130.2.2 bt130.1).bind fun bt133=>(some (bt133.1,bt133.2.1,bt133.2.2.1,bt133.2.2.2)))))
theorem spec_l01Draw.mono:∀ a0 a1 a2 k,LeO (spec_l01Draw.f k a0 a1 a2) (spec_l01Draw.f (k+1) a0 a1 a2):=by
 intro a0 a1 a2 k;unfold spec_l01Draw.f;repeat' first
   |(with_reducible first|exact spec_l01DrawOf.mono _ _ _ _ _|exact spec_l01Named.mono _ _|exact spec_l01Renamed.mono _ _ _ _|exact LeO.refl _|exact LeO.none _|refine LeO.ite ?_ ?_|refine LeO.bind ?_ (fun _=>?_))
set_option maxHeartbeats 8000000 in
set_option maxRecDepth 100000 in
theorem spec_l01Draw.calls (k:Nat) (g:Nat) (s0_0:List Int) (s0_1:Int) (s0_2:Int) (r1:Int) (r2:List Int) (r3:Int) (r4:Int) (w0 w:World) (hI:IsS92 w0 w g s0_0 s0_1 s0_2) (hB:Below w0.heap.size w0 w) (h:spec_l01Draw.f k s0_0 s0_1 s0_2=some (r1,r2,r3,r4)) :
  Calls Tryz.prog 75 #[.pointer (some ⟨g,0,none⟩)] w fun e w'=>∃ v1_:Value,e = .returned (.agg #[.int .i64 r1,v1_])∧Kd.R (Kd.int .i64) 2 w' w.heap.size (fun _=>True) v1_ r2∧IsS92 w0 w' g s0_0 r3 r4∧Below w0.heap.size w0 w'∧KeepBut w w' g none:=by
 have hu26:=Tryz.underlying26;have HI0:=Aside0.mk hI;have HK:=Aside0.mk (KeepBut.refl w g none);have HL:=Aside0.mk hB.size;clear hI;have HW0:=Aside0.mk hB.size;have HB:=Aside0.mk hB;clear hB;have H:((spec_l01Next.f s0_0 s0_1 s0_2 3).bind fun bt102=>(if bt102.1=0 then ((spec_l01Names.f).bind fun t105=>((spec_l01Next.f s0_0 bt102.2.1 bt102.2.2 (t105.length:Int)).bind fun bt108=>(if 0≤bt108.1 then (if bt108.1<(t105.length:Int) then ((spec_l01Named.f k (rdOf ByteArray.empty t105 bt108.1)).bind fun bt112=>((spec_l01DrawOrder.f s0_0 bt108.2.1 bt108.2.2 bt112.1).bind fun bt118=>((spec_l01Renamed.f k bt112.1 bt112.2.1 bt118.1).bind fun bt123=>(some (bt123.1,bt123.2,bt118.2.1,bt118.2.2))))) else (none)) else (none)))) else ((spec_l01Pick.f s0_0 bt102.2.1 bt102.2.2 (([1,2,3,4,4,5,5,6,6]:List Int))).bind fun bt130=>((spec_l01DrawOf.f k s0_0 bt130.2.1 bt130.2.2 bt130.1).bind fun bt133=>(some (bt133.1,bt133.2.1,bt133.2.2.1,bt133.2.2.2))))))=some (r1,r2,r3,r4):=h;clear h;replace H:=Option.bind_eq_some_iff.mp H;obtain ⟨⟨t102,t103,t104⟩,A20,H⟩:=H;replace H:(if t102=0 then ((spec_l01Names.f).bind fun t105=>((spec_l01Next.f s0_0 t103 t104 (t105.length:Int)).bind fun bt108=>(if 0≤bt108.1 then (if bt108.1<(t105.length:Int) then ((spec_l01Named.f k (rdOf ByteArray.empty t105 bt108.1)).bind fun bt112=>((spec_l01DrawOrder.f s0_0 bt108.2.1 bt108.2.2 bt112.1).bind fun bt118=>((spec_l01Renamed.f k bt112.1 bt112.2.1 bt118.1).bind fun bt123=>(some (bt123.1,bt123.2,bt118.2.1,bt118.2.2))))) else (none)) else (none)))) else ((spec_l01Pick.f s0_0 t103 t104 (([1,2,3,4,4,5,5,6,6]:List Int))).bind fun bt130=>((spec_l01DrawOf.f k s0_0 bt130.2.1 bt130.2.2 bt130.1).bind fun bt133=>(some (bt133.1,bt133.2.1,bt133.2.2.1,bt133.2.2.2)))))=some (r1,r2,r3,r4):=H;have A2:=Aside0.mk A20;clear A20;by_cases c3:t102=0
 ·rw[if_pos c3] at H;have c3b0:(t102 == 0)=true:=beq_iff_eq.mpr c3;have c3b1:(t102 != 0)=false:=bne_eq_false_iff_eq.mpr c3;clear c3;replace H:=Option.bind_eq_some_iff.mp H;obtain ⟨t105,A40,H⟩:=H;replace H:((spec_l01Next.f s0_0 t103 t104 (t105.length:Int)).bind fun bt108=>(if 0≤bt108.1 then (if bt108.1<(t105.length:Int) then ((spec_l01Named.f k (rdOf ByteArray.empty t105 bt108.1)).bind fun bt112=>((spec_l01DrawOrder.f s0_0 bt108.2.1 bt108.2.2 bt112.1).bind fun bt118=>((spec_l01Renamed.f k bt112.1 bt112.2.1 bt118.1).bind fun bt123=>(some (bt123.1,bt123.2,bt118.2.1,bt118.2.2))))) else (none)) else (none)))=some (r1,r2,r3,r4):=H;have A4:=Aside0.mk A40;clear A40;replace H:=Option.bind_eq_some_iff.mp H;obtain ⟨⟨t108,t109,t110⟩,A50,H⟩:=H;replace H:(if 0≤t108 then (if t108<(t105.length:Int) then ((spec_l01Named.f k (rdOf ByteArray.empty t105 t108)).bind fun bt112=>((spec_l01DrawOrder.f s0_0 t109 t110 bt112.1).bind fun bt118=>((spec_l01Renamed.f k bt112.1 bt112.2.1 bt118.1).bind fun bt123=>(some (bt123.1,bt123.2,bt118.2.1,bt118.2.2))))) else (none)) else (none))=some (r1,r2,r3,r4):=H;have A5:=Aside0.mk A50;clear A50;by_cases c6:0≤t108
  ·rw[if_pos c6] at H;have c6b0:decide (0≤t108)=true:=decide_eq_true c6;clear c6;by_cases c7:t108<(t105.length:Int)
   ·rw[if_pos c7] at H;have c7b0:decide (t108<(t105.length:Int))=true:=decide_eq_true c7;clear c7;replace H:=Option.bind_eq_some_iff.mp H;obtain ⟨⟨t112,t113,t116⟩,A80,H⟩:=H;replace H:((spec_l01DrawOrder.f s0_0 t109 t110 t112).bind fun bt118=>((spec_l01Renamed.f k t112 t113 bt118.1).bind fun bt123=>(some (bt123.1,bt123.2,bt118.2.1,bt118.2.2))))=some (r1,r2,r3,r4):=H;have A8:=Aside0.mk A80;clear A80;replace H:=Option.bind_eq_some_iff.mp H;obtain ⟨⟨t118,t121,t122⟩,A90,H⟩:=H;replace H:((spec_l01Renamed.f k t112 t113 t118).bind fun bt123=>(some (bt123.1,bt123.2,t121,t122)))=some (r1,r2,r3,r4):=H;have A9:=Aside0.mk A90;clear A90;replace H:=Option.bind_eq_some_iff.mp H;obtain ⟨⟨t123,t124⟩,A100,H⟩:=H;replace H:(some (t123,t124,t121,t122))=some (r1,r2,r3,r4):=H;have A10:=Aside0.mk A100;clear A100;simp only [Option.some.injEq,Prod.mk.injEq] at H;obtain ⟨rfl,rfl,rfl,rfl⟩:=H;go_enter Tryz.func75,Tryz.ntmps75;try go_wp2_with (first|((with_reducible refine gate_dst (N:=2) rfl ?_);refine bx 2 #[.int .i64 0,.slice none 0 0] 26 ?_;intro gb101 hg w11 hbox hb;replace HB:=Aside0.mk (below_step (blg HB.out (IsS92.ge HI0.out)) hb);have BK101:=Aside0.mk (hbox);have GW101:=Aside0.mk ((by rw[hg];exact(keep_size (w:=w) (g:=g) (row:=none) (kp HK.out)):w.heap.size≤gb101));have GE101:=Aside0.mk ((Nat.le_trans HW0.out (by rw[hg];exact(keep_size (w:=w) (g:=g) (row:=none) (kp HK.out)):w.heap.size≤gb101):w0.heap.size≤gb101));replace HK:=Aside0.mk (KeepBut.trans (kp HK.out) (KeepBut.of_below hb g none) (.inl rfl));have NB0_101:=Aside0.mk ((by rw[hg];exact Nat.ne_of_lt (IsS92.lt (show IsS92 w0 _ g s0_0 s0_1 s0_2 from IsS92.ch HI0.out)):g≠gb101));have NB101_0:=Aside0.mk ((by rw[hg];exact Nat.ne_of_gt (IsS92.lt (show IsS92 w0 _ g s0_0 s0_1 s0_2 from IsS92.ch HI0.out)):gb101≠g));replace HI0:=Aside0.mk (IsS92.below (IsS92.ch HI0.out) hb);clear hb hbox hg)|((with_reducible refine gate_callee (f:=67) rfl ?_);refine gl (some 7) Tryz.func67 #[.pointer (some ⟨g,0,none⟩),.int .i64 3] ?_;(with_reducible refine(spec_l01Next.calls g s0_0 s0_1 s0_2 3 t102 t103 t104 w0 _ (IsS92.ch HI0.out) (blg HB.out (IsS92.ge HI0.out)) A2.out).mono ?_);rintro e w12 ⟨rfl,hi,hb,hk⟩;refine⟨_,rfl,?_⟩;replace BK101:=Aside0.mk (kbk hk (bk BK101.out) NB101_0.out);replace HK:=Aside0.mk (KeepBut.trans (kp HK.out) hk (.inl rfl));replace HB:=Aside0.mk (hb);replace HI0:=Aside0.mk (hi);(try clear hb);(try clear hb2);(try clear hk);(try clear hi))|((with_reducible refine gate_callee (f:=126) rfl ?_);refine gl (some 9) Tryz.func126 #[] ?_;(with_reducible refine(spec_l01Names.calls  t105 _ A4.out).mono ?_);rintro e w13 ⟨v106,rfl,ho0,hb⟩;refine⟨_,rfl,?_⟩;have HO107:=Aside0.mk (Kd.R_lower ho0 (keep_size (w:=w) (g:=g) (row:=none) (kp HK.out)));replace BK101:=bkA BK101 hb;replace HK:=Aside0.mk (KeepBut.trans (kp HK.out) (KeepBut.of_below hb g none) (.inl rfl));replace HB:=Aside0.mk (below_step (blg HB.out (IsS92.ge HI0.out)) hb);replace HI0:=Aside0.mk (IsS92.below (IsS92.ch HI0.out) hb);(try clear hb);(try clear hb2);(try clear hk);(try clear hi);(try clear ho0);obtain ⟨Ao14,co14,eo14⟩:=Kd.R_slice HO107.out;subst eo14)|((with_reducible refine gate_callee (f:=67) rfl ?_);refine gl (some 15) Tryz.func67 #[.pointer (some ⟨g,0,none⟩),.int .i64 (t105.length:Int)] ?_;(with_reducible refine(spec_l01Next.calls g s0_0 t103 t104 (t105.length:Int) t108 t109 t110 w0 _ (IsS92.ch HI0.out) (blg HB.out (IsS92.ge HI0.out)) A5.out).mono ?_);rintro e w15 ⟨rfl,hi,hb,hk⟩;refine⟨_,rfl,?_⟩;replace BK101:=Aside0.mk (kbk hk (bk BK101.out) NB101_0.out);replace HO107:=Aside0.mk (Kd.R_mono (Kd.R_keep (IsS92.apart (show IsS92 w0 _ g s0_0 t103 t104 from IsS92.ch HI0.out) (kr HO107.out) (by decide)) hk (fun _ h=>h.2)) (fun _ h=>h.1));replace HK:=Aside0.mk (KeepBut.trans (kp HK.out) hk (.inl rfl));replace HB:=Aside0.mk (hb);replace HI0:=Aside0.mk (hi);(try clear hb);(try clear hb2);(try clear hk);(try clear hi);have p111:0≤(t108:Int):=dd;have q111:t108<(t105.length:Int):=dd;obtain ⟨ad111,e111,hx111_0⟩:=Kd.at_string (Kd.R_reads' HO107.out).2.2 t108 p111 q111;cases e111;replace p111:=eq_true p111;replace q111:=eq_true q111)|((with_reducible refine gate_callee (f:=127) rfl ?_);refine gl (some 18) Tryz.func127 #[.string (rdOf ByteArray.empty t105 t108)] ?_;(with_reducible refine(spec_l01Named.calls k (rdOf ByteArray.empty t105 t108) t112 t113 t116 _ A8.out).mono ?_);rintro e w16 ⟨v114,rfl,ho0,hb⟩;refine⟨_,rfl,?_⟩;replace HO107:=krA HO107 hb;have HO115:=Aside0.mk (Kd.R_lower ho0 (keep_size (w:=w) (g:=g) (row:=none) (kp HK.out)));replace BK101:=bkA BK101 hb;replace HK:=Aside0.mk (KeepBut.trans (kp HK.out) (KeepBut.of_below hb g none) (.inl rfl));replace HB:=Aside0.mk (below_step (blg HB.out (IsS92.ge HI0.out)) hb);replace HI0:=Aside0.mk (IsS92.below (IsS92.ch HI0.out) hb);(try clear hb);(try clear hb2);(try clear hk);(try clear hi);(try clear ho0))|((with_reducible refine gate_dst (N:=4) rfl ?_);refine bx 4 #[.int .i64 0,.slice none 0 0] 26 ?_;intro gb117 hg w17 hbox hb;replace HO107:=krA HO107 hb;replace HO115:=krA HO115 hb;replace HB:=Aside0.mk (below_step (blg HB.out (IsS92.ge HI0.out)) hb);have BK117:=Aside0.mk (hbox);have GW117:=Aside0.mk ((by rw[hg];exact(keep_size (w:=w) (g:=g) (row:=none) (kp HK.out)):w.heap.size≤gb117));have GE117:=Aside0.mk ((Nat.le_trans HW0.out (by rw[hg];exact(keep_size (w:=w) (g:=g) (row:=none) (kp HK.out)):w.heap.size≤gb117):w0.heap.size≤gb117));replace HK:=Aside0.mk (KeepBut.trans (kp HK.out) (KeepBut.of_below hb g none) (.inl rfl));have NB101_117:=nlA hg BK101;have NB117_101:=ngA hg BK101;replace BK101:=bkA BK101 hb;have NB0_117:=Aside0.mk ((by rw[hg];exact Nat.ne_of_lt (IsS92.lt (show IsS92 w0 _ g s0_0 t109 t110 from IsS92.ch HI0.out)):g≠gb117));have NB117_0:=Aside0.mk ((by rw[hg];exact Nat.ne_of_gt (IsS92.lt (show IsS92 w0 _ g s0_0 t109 t110 from IsS92.ch HI0.out)):gb117≠g));replace HI0:=Aside0.mk (IsS92.below (IsS92.ch HI0.out) hb);clear hb hbox hg;have hnb18:=NB117_101.out;have hnc18:=NB101_117.out;have hnb19:=NB117_0.out;have hnc19:=NB0_117.out;have hcz20_0:=z0_ BK117;have hcz20_1:=z1_ BK117;have hfz20_0:=hf_ BK117 0;have hfz20_1:=hf_ BK117 1;obtain ⟨Ao21,co21,eo21⟩:=Kd.R_slice HO115.out;subst eo21))
    have n0_:Aside0 (Kd.R Kd.string 9 ((w17.setCell ⟨gb117,0,none⟩ (.int .i64 t112)).setCell ⟨gb117,1,none⟩ (.slice Ao21 t113.length co21)) w.heap.size (fun _=>True) (.slice (some ad111) t105.length co14) t105):=⟨by(with_reducible repeat(first|apply Kd.R_alloc|apply Kd.R_drewN|apply Kd.R_drew));exact Kd.R_mono (Kd.R_far (p:=⟨gb117,1,none⟩) (Kd.R_far (p:=⟨gb117,0,none⟩) (Kd.R_types HO107.out BK117.out (by decide)) (fun _ hk=>hk.2) (.int .i64 t112)) (fun _ hk=>hk.2) (.slice Ao21 t113.length co21)) (fun _ hk=>trivial)⟩
    have n1_:Aside0 (Kd.R (Kd.int .i64) 2 ((w17.setCell ⟨gb117,0,none⟩ (.int .i64 t112)).setCell ⟨gb117,1,none⟩ (.slice Ao21 t113.length co21)) w.heap.size (fun _=>True) (.slice Ao21 t113.length co21) t113):=⟨by(with_reducible repeat(first|apply Kd.R_alloc|apply Kd.R_drewN|apply Kd.R_drew));exact Kd.R_mono (Kd.R_far (p:=⟨gb117,1,none⟩) (Kd.R_far (p:=⟨gb117,0,none⟩) (Kd.R_types HO115.out BK117.out (by decide)) (fun _ hk=>hk.2) (.int .i64 t112)) (fun _ hk=>hk.2) (.slice Ao21 t113.length co21)) (fun _ hk=>trivial)⟩
    have n2_:Aside0 (((w17.setCell ⟨gb117,0,none⟩ (.int .i64 t112)).setCell ⟨gb117,1,none⟩ (.slice Ao21 t113.length co21)).heap[gb101]?=some (.cells #[.int .i64 0,.slice none 0 0] 26 (0,0))):=⟨bp BK101.out⟩
    have n3_:Aside0 (((w17.setCell ⟨gb117,0,none⟩ (.int .i64 t112)).setCell ⟨gb117,1,none⟩ (.slice Ao21 t113.length co21)).heap[gb117]?=some (.cells #[.int .i64 t112,.slice Ao21 t113.length co21] 26 (0,0))):=⟨bp BK117.out⟩
    have n4_:Aside0 (IsS92 w0 ((w17.setCell ⟨gb117,0,none⟩ (.int .i64 t112)).setCell ⟨gb117,1,none⟩ (.slice Ao21 t113.length co21)) g s0_0 t109 t110):=⟨IsS92.ch HI0.out⟩
    have n5_:Aside0 (KeepBut w ((w17.setCell ⟨gb117,0,none⟩ (.int .i64 t112)).setCell ⟨gb117,1,none⟩ (.slice Ao21 t113.length co21)) g none):=⟨kp HK.out⟩
    have n6_:Aside0 (Below w0.heap.size w0 ((w17.setCell ⟨gb117,0,none⟩ (.int .i64 t112)).setCell ⟨gb117,1,none⟩ (.slice Ao21 t113.length co21))):=⟨blg HB.out (IsS92.ge HI0.out)⟩
    (try clear HO107)
    (try clear HO115)
    (try clear BK101)
    (try clear BK117)
    (try clear HI0)
    (try clear HK)
    (try clear HB)
    generalize ((w17.setCell ⟨gb117,0,none⟩ (.int .i64 t112)).setCell ⟨gb117,1,none⟩ (.slice Ao21 t113.length co21))=w22 at n0_ n1_ n2_ n3_ n4_ n5_ n6_ ⊢;have HO107:=n0_;have HO115:=n1_;have BK101:=n2_;have BK117:=n3_;have HI0:=n4_;have HK:=n5_;have HB:=n6_;clear n0_ n1_ n2_ n3_ n4_ n5_ n6_;replace HO107:=Aside0.mk (Kd.R_drew HO107.out);replace HO115:=Aside0.mk (Kd.R_drew HO115.out);replace BK101:=Aside0.mk (blk_drew BK101.out);replace BK117:=Aside0.mk (blk_drew BK117.out);replace HI0:=Aside0.mk (IsS92.drew HI0.out);replace HK:=Aside0.mk (keep_drew HK.out);replace HB:=Aside0.mk (below_drew1 HB.out);refine start_ (n:=7) (S:=fun w'=>w'.cell? ⟨gb117,0,none⟩=some (.int .i64 t112)∧w'.cell? ⟨gb117,1,none⟩=some (.slice Ao21 t113.length co21)) (ds:= []) (ar 0 7) (by kernel_rfl) rfl rfl ⟨(blk_cell BK117.out 0).trans rfl,(blk_cell BK117.out 1).trans rfl⟩ (fun hHeld=>?_);generalize w22.drew=w23 at HO107 HO115 BK101 BK117 HI0 HK HB hHeld ⊢;refine pure_ (i:=1) (N:=some 22) (v:=?_) (a':=?_) #[O,U,O,O,O,O,O] rfl rfl (by kernel_rfl) hh_ (Or.inl ⟨by rfl,?_⟩) ?_ ?_;rotate_left
    ·intro w';go_simp;with_reducible rfl
    rotate_left
    ·simp only [nm_];rfl
    refine pure_ (i:=2) (N:=some 23) (v:=?_) (a':=?_) #[O,U,U,O,O,O,O] rfl rfl (by kernel_rfl) hh_ (Or.inl ⟨by rfl,?_⟩) ?_ ?_;rotate_left
    ·intro w';go_simp;with_reducible rfl
    rotate_left
    ·simp only [nm_];rfl
    refine take_ (i:=0) (N:=some 21) (v:=?_) (a':=?_) (ar 3 4) rfl rfl (by kernel_rfl) hh_ (Or.inl ⟨by rfl,?_⟩) hHeld ?_ ?_;rotate_left
    ·rintro w' ⟨s0,s1⟩;go_simp;with_reducible rfl
    rotate_left
    ·simp only [nm_];rfl
    refine take_ (i:=3) (N:=some 24) (v:=?_) (a':=?_) (ar 4 3) rfl rfl (by kernel_rfl) hh_ (Or.inl ⟨by rfl,?_⟩) hHeld ?_ ?_;rotate_left
    ·rintro w' ⟨s0,s1⟩;go_simp;with_reducible rfl
    rotate_left
    ·simp only [nm_];rfl
    refine one_ (i:=4) (N:=some 25) (ar 5 2) rfl rfl (by kernel_rfl) (by decide) (fun K hK=>?_);refine gr Tryz.func80 #[.pointer (some ⟨g,0,none⟩),.int .i64 t112] ?_;with_reducible refine(spec_l01DrawOrder.calls g s0_0 t109 t110 t112 t118 t121 t122 w0 _ (IsS92.ch HI0.out) (blg HB.out (IsS92.ge HI0.out)) A9.out).mono ?_
    rintro e w24 ⟨v119,rfl,ho0,hi,hb,hk⟩;refine⟨_,rfl,?_⟩;replace BK101:=Aside0.mk (kbk hk (bk BK101.out) NB101_0.out);replace HO107:=Aside0.mk (Kd.R_mono (Kd.R_keep (IsS92.apart (show IsS92 w0 _ g s0_0 t109 t110 from IsS92.ch HI0.out) (kr HO107.out) (by decide)) hk (fun _ h=>h.2)) (fun _ h=>h.1));replace BK117:=Aside0.mk (kbk hk (bk BK117.out) NB117_0.out);have HO120:=Aside0.mk (Kd.R_lower (Kd.R_new' ho0 (Kd.R_lt (kr HO115.out))) (keep_size (w:=w) (g:=g) (row:=none) (kp HK.out)));replace HO115:=Aside0.mk (Kd.R_mono (Kd.R_told (Kd.R_oldK (IsS92.apart (show IsS92 w0 _ g s0_0 t109 t110 from IsS92.ch HI0.out) (kr HO115.out) (by decide)) hk) (Kd.R_base ho0)) (fun _ h_=>h_.1));replace HK:=Aside0.mk (KeepBut.trans (kp HK.out) hk (.inl rfl));replace HB:=Aside0.mk (hb);replace HI0:=Aside0.mk (hi);(try clear hb)
    (try clear hb2)
    (try clear hk)
    (try clear hi)
    (try clear ho0)
    obtain ⟨Ao25,co25,eo25⟩:=Kd.R_slice HO120.out;(first|subst eo25|(injection eo25 with f1_ f2_ f3_;have f4_:=f1_.symm;have f5_:=f3_.symm;clear f1_ f2_ f3_;subst f4_;subst f5_))
    refine hK.out _ _ ⟨(blk_cell BK117.out 0).trans rfl,(blk_cell BK117.out 1).trans rfl⟩ (fun hHeld=>?_);clear hK K;refine nr 25 ?_;refine one_ (i:=5) (N:=some 26) (ar 6 1) rfl rfl (by kernel_rfl) (by decide) (fun K hK=>?_);refine gr Tryz.func87 #[.agg #[.int .i64 t112,.slice Ao21 t113.length co21],.slice Ao25 t118.length co25] ?_;with_reducible refine(spec_l01Renamed.calls k t112 _ _ t113 _ _ t118 t123 t124 _ (cb (Kd.R_reads' HO115.out).2.2) ((Kd.R_reads' HO115.out).2.1) (cb (Kd.R_reads' HO120.out).2.2) ((Kd.R_reads' HO120.out).2.1) A10.out).mono ?_
    rintro e w26 ⟨v125,rfl,ho0,hb⟩;refine⟨_,rfl,?_⟩;replace HO107:=krA HO107 hb;have HO126:=Aside0.mk (Kd.R_lower (Kd.R_new' (Kd.R_new' ho0 (Kd.R_lt (kr HO115.out))) (Kd.R_lt (kr HO120.out))) (keep_size (w:=w) (g:=g) (row:=none) (kp HK.out)));replace HO115:=Aside0.mk (Kd.R_elder' (kr HO115.out) (Kd.R_base ho0) hb);replace HO120:=Aside0.mk (Kd.R_elder' (kr HO120.out) (Kd.R_base ho0) hb);replace BK101:=bkA BK101 hb;replace BK117:=bkA BK117 hb;replace HK:=Aside0.mk (KeepBut.trans (kp HK.out) (KeepBut.of_below hb g none) (.inl rfl));replace HB:=Aside0.mk (below_step (blg HB.out (IsS92.ge HI0.out)) hb);replace HI0:=Aside0.mk (IsS92.below (IsS92.ch HI0.out) hb);(try clear hb)
    (try clear hb2)
    (try clear hk)
    (try clear hi)
    (try clear ho0)
    obtain ⟨Ao28,co28,eo28⟩:=Kd.R_slice HO126.out;(first|subst eo28|(injection eo28 with f1_ f2_ f3_;have f4_:=f1_.symm;have f5_:=f3_.symm;clear f1_ f2_ f3_;subst f4_;subst f5_))
    refine hK.out _ _ ⟨(blk_cell BK117.out 0).trans rfl,(blk_cell BK117.out 1).trans rfl⟩ (fun hHeld=>?_);clear hK K;refine nr 26 ?_;refine one_ (i:=6) (N:=none) (ar 7 0) rfl rfl (by kernel_rfl) (by decide) (fun K hK=>?_);have hs27:w26.cell? ⟨gb101,0,none⟩=some (.int .i64 0):=(blk_cell BK101.out 0).trans rfl;have hfs27:=blk_frozen BK101.out 0;have hns27_1:=NB117_101.out;have hms27_1:=NB101_117.out;have hs29:w26.cell? ⟨gb101,1,none⟩=some (.slice none 0 0):=(blk_cell BK101.out 1).trans rfl;have hfs29:=blk_frozen BK101.out 1;have hns29_1:=NB117_101.out;have hms29_1:=NB101_117.out;refine skip_ (w1:=?_) (by rfl) rfl ?_ ?_;rotate_left
    ·go_simp;rfl
    refine hK.out _ _ ⟨((cell_far (p:=⟨gb101,_,none⟩) NB117_101.out _).trans (((cell_far (p:=⟨gb101,_,none⟩) NB117_101.out _).trans (hHeld.1)))),((cell_far (p:=⟨gb101,_,none⟩) NB117_101.out _).trans (((cell_far (p:=⟨gb101,_,none⟩) NB117_101.out _).trans (hHeld.2))))⟩ (fun hHeld=>?_);clear hK K;refine done_ (by kernel_rfl) ?_;try go_wp2
    refine bodyPost_ret (results_cell_row rfl _ _ gb101 26 #[.int .i64 t123,.slice Ao28 t124.length co28] (0,0) _ rfl (bp BK101.out) Tryz.underlying26 rfl (by kernel_rfl)) rfl ?_;exact⟨_,rr,by(with_reducible repeat(first|apply Kd.R_alloc|apply Kd.R_drewN|apply Kd.R_drew));exact Kd.R_mono (Kd.R_far (p:=⟨gb101,1,none⟩) (Kd.R_far (p:=⟨gb101,0,none⟩) (Kd.R_types HO126.out BK101.out (by decide)) (fun _ hk=>hk.2) (.int .i64 t123)) (fun _ hk=>hk.2) (.slice Ao28 t124.length co28)) (fun _ hk=>trivial),IsS92.ch HI0.out,blg HB.out (IsS92.ge HI0.out),kp HK.out⟩
   ·rw[if_neg c7] at H;exact absurd H (by simp)
  ·rw[if_neg c6] at H;exact absurd H (by simp)
 ·rw[if_neg c3] at H;have c3b0:(t102 == 0)=false:=beq_eq_false_iff_ne.mpr c3;have c3b1:(t102 != 0)=true:=bne_iff_ne.mpr c3;obtain ⟨y127,hy127⟩:∃ y_:List Int,y_=(([1,2,3,4,4,5,5,6,6]:List Int)):=⟨_,rfl⟩
  replace H:((spec_l01Pick.f s0_0 t103 t104 y127).bind fun bt130=>((spec_l01DrawOf.f k s0_0 bt130.2.1 bt130.2.2 bt130.1).bind fun bt133=>(some (bt133.1,bt133.2.1,bt133.2.2.1,bt133.2.2.2))))=some (r1,r2,r3,r4):=by first|(rw[hy127];with_reducible exact H)|(have H2_:=(Option.bind_some _ _).symm.trans H;rw[hy127];with_reducible exact H2_)|(have H2_:=(Option.bind_some _ _).symm.trans H;with_reducible exact H2_)|with_reducible exact H|(rw[hy127];exact H)|exact H
  have Ny127:=Aside0.mk hy127;clear hy127;replace H:=Option.bind_eq_some_iff.mp H;obtain ⟨⟨t130,t131,t132⟩,A300,H⟩:=H;replace H:((spec_l01DrawOf.f k s0_0 t131 t132 t130).bind fun bt133=>(some (bt133.1,bt133.2.1,bt133.2.2.1,bt133.2.2.2)))=some (r1,r2,r3,r4):=H;have A30:=Aside0.mk A300;clear A300;replace H:=Option.bind_eq_some_iff.mp H;obtain ⟨⟨t133,t134,t137,t138⟩,A310,H⟩:=H;replace H:(some (t133,t134,t137,t138))=some (r1,r2,r3,r4):=H;have A31:=Aside0.mk A310;clear A310;simp only [Option.some.injEq,Prod.mk.injEq] at H;obtain ⟨rfl,rfl,rfl,rfl⟩:=H;go_enter Tryz.func75,Tryz.ntmps75;go_wp2_with (first|((with_reducible refine gate_dst (N:=2) rfl ?_);refine bx 2 #[.int .i64 0,.slice none 0 0] 26 ?_;intro gb101 hg w32 hbox hb;replace HB:=Aside0.mk (below_step (blg HB.out (IsS92.ge HI0.out)) hb);have BK101:=Aside0.mk (hbox);have GW101:=Aside0.mk ((by rw[hg];exact(keep_size (w:=w) (g:=g) (row:=none) (kp HK.out)):w.heap.size≤gb101));have GE101:=Aside0.mk ((Nat.le_trans HW0.out (by rw[hg];exact(keep_size (w:=w) (g:=g) (row:=none) (kp HK.out)):w.heap.size≤gb101):w0.heap.size≤gb101));replace HK:=Aside0.mk (KeepBut.trans (kp HK.out) (KeepBut.of_below hb g none) (.inl rfl));have NB0_101:=Aside0.mk ((by rw[hg];exact Nat.ne_of_lt (IsS92.lt (show IsS92 w0 _ g s0_0 s0_1 s0_2 from IsS92.ch HI0.out)):g≠gb101));have NB101_0:=Aside0.mk ((by rw[hg];exact Nat.ne_of_gt (IsS92.lt (show IsS92 w0 _ g s0_0 s0_1 s0_2 from IsS92.ch HI0.out)):gb101≠g));replace HI0:=Aside0.mk (IsS92.below (IsS92.ch HI0.out) hb);clear hb hbox hg)|((with_reducible refine gate_callee (f:=67) rfl ?_);refine gl (some 7) Tryz.func67 #[.pointer (some ⟨g,0,none⟩),.int .i64 3] ?_;(with_reducible refine(spec_l01Next.calls g s0_0 s0_1 s0_2 3 t102 t103 t104 w0 _ (IsS92.ch HI0.out) (blg HB.out (IsS92.ge HI0.out)) A2.out).mono ?_);rintro e w33 ⟨rfl,hi,hb,hk⟩;refine⟨_,rfl,?_⟩;replace BK101:=Aside0.mk (kbk hk (bk BK101.out) NB101_0.out);replace HK:=Aside0.mk (KeepBut.trans (kp HK.out) hk (.inl rfl));replace HB:=Aside0.mk (hb);replace HI0:=Aside0.mk (hi);(try clear hb);(try clear hb2);(try clear hk);(try clear hi))|((with_reducible refine gate_dst (N:=29) rfl ?_);refine Kd.R_lit (Kd.int .i64) _ 2 ?hg (N:=29) ?hd (xs:=([1,2,3,4,4,5,5,6,6]:List Int)) (inner:= [.int .i64 1,.int .i64 2,.int .i64 3,.int .i64 4,.int .i64 4,.int .i64 5,.int .i64 5,.int .i64 6,.int .i64 6]) (ok:=fun _=>True) (okp:=fun _=>True) ?hr ?hp (fun _ hk=>hk) trivial (Below.refl _ _) (Nat.le_refl _) (by simp) ?_;(case hd=>rfl);(case hg=>rfl);(case hr=>first|(go_simp;done)|(go_simp;rfl));(case hp=>exact(Reps.one (show Kd.M (Kd.int .i64) _ _ _ 1 [.int .i64 1] from rfl) (Reps.one (show Kd.M (Kd.int .i64) _ _ _ 2 [.int .i64 2] from rfl) (Reps.one (show Kd.M (Kd.int .i64) _ _ _ 3 [.int .i64 3] from rfl) (Reps.one (show Kd.M (Kd.int .i64) _ _ _ 4 [.int .i64 4] from rfl) (Reps.one (show Kd.M (Kd.int .i64) _ _ _ 4 [.int .i64 4] from rfl) (Reps.one (show Kd.M (Kd.int .i64) _ _ _ 5 [.int .i64 5] from rfl) (Reps.one (show Kd.M (Kd.int .i64) _ _ _ 5 [.int .i64 5] from rfl) (Reps.one (show Kd.M (Kd.int .i64) _ _ _ 6 [.int .i64 6] from rfl) (Reps.one (show Kd.M (Kd.int .i64) _ _ _ 6 [.int .i64 6] from rfl) (Reps.none _ _)))))))))));intro v128 w34 ho35 hb hg_ hnew_;clear hg_ hnew_;(first|rw[← Ny127.out] at ho35|(simp only [Int.reduceToNat] at ho35;rw[← Ny127.out] at ho35));have HO129:=Aside0.mk (Kd.R_lower ho35 (keep_size (w:=w) (g:=g) (row:=none) (kp HK.out)));replace BK101:=bkA BK101 hb;replace HK:=Aside0.mk (KeepBut.trans (kp HK.out) (KeepBut.of_below hb g none) (.inl rfl));replace HB:=Aside0.mk (below_step (blg HB.out (IsS92.ge HI0.out)) hb);replace HI0:=Aside0.mk (IsS92.below (IsS92.ch HI0.out) hb);clear hb ho35;obtain ⟨Ao36,co36,eo36⟩:=Kd.R_slice HO129.out;subst eo36)|((with_reducible refine gate_callee (f:=81) rfl ?_);refine gl (some 30) Tryz.func81 #[.pointer (some ⟨g,0,none⟩),.slice Ao36 y127.length co36] ?_;(with_reducible refine(spec_l01Pick.calls g s0_0 t103 t104 _ _ y127 t130 t131 t132 w0 _ (IsS92.ch HI0.out) (blg HB.out (IsS92.ge HI0.out)) (cb (Kd.R_reads' HO129.out).2.2) ((Kd.R_reads' HO129.out).2.1) (far_slice (IsS92.own_ne HI0.out HO129.out (by decide))) A30.out).mono ?_);rintro e w37 ⟨rfl,hi,hb,hk⟩;refine⟨_,rfl,?_⟩;replace BK101:=Aside0.mk (kbk hk (bk BK101.out) NB101_0.out);replace HO129:=Aside0.mk (Kd.R_mono (Kd.R_keep (IsS92.apart (show IsS92 w0 _ g s0_0 t103 t104 from IsS92.ch HI0.out) (kr HO129.out) (by decide)) hk (fun _ h=>h.2)) (fun _ h=>h.1));replace HK:=Aside0.mk (KeepBut.trans (kp HK.out) hk (.inl rfl));replace HB:=Aside0.mk (hb);replace HI0:=Aside0.mk (hi);(try clear hb);(try clear hb2);(try clear hk);(try clear hi))|((with_reducible refine gate_callee (f:=70) rfl ?_);refine gl (some 31) Tryz.func70 #[.pointer (some ⟨g,0,none⟩),.int .i64 t130] ?_;(with_reducible refine(spec_l01DrawOf.calls k g s0_0 t131 t132 t130 t133 t134 t137 t138 w0 _ (IsS92.ch HI0.out) (blg HB.out (IsS92.ge HI0.out)) A31.out).mono ?_);rintro e w38 ⟨v135,rfl,ho0,hi,hb,hk⟩;refine⟨_,rfl,?_⟩;replace BK101:=Aside0.mk (kbk hk (bk BK101.out) NB101_0.out);have HO136:=Aside0.mk (Kd.R_lower (Kd.R_new' ho0 (Kd.R_lt (kr HO129.out))) (keep_size (w:=w) (g:=g) (row:=none) (kp HK.out)));replace HO129:=Aside0.mk (Kd.R_mono (Kd.R_told (Kd.R_oldK (IsS92.apart (show IsS92 w0 _ g s0_0 t131 t132 from IsS92.ch HI0.out) (kr HO129.out) (by decide)) hk) (Kd.R_base ho0)) (fun _ h_=>h_.1));replace HK:=Aside0.mk (KeepBut.trans (kp HK.out) hk (.inl rfl));replace HB:=Aside0.mk (hb);replace HI0:=Aside0.mk (hi);(try clear hb);(try clear hb2);(try clear hk);(try clear hi);(try clear ho0);have hnb39:=NB101_0.out;have hnc39:=NB0_101.out;have hcz40_0:=z0_ BK101;have hcz40_1:=z1_ BK101;have hfz40_0:=hf_ BK101 0;have hfz40_1:=hf_ BK101 1;obtain ⟨Ao41,co41,eo41⟩:=Kd.R_slice HO136.out;subst eo41))
  refine bodyPost_ret (results_cell_row rfl _ _ gb101 26 #[.int .i64 t133,.slice Ao41 t134.length co41] (0,0) _ rfl (bp BK101.out) Tryz.underlying26 rfl (by kernel_rfl)) rfl ?_;exact⟨_,rr,by(with_reducible repeat(first|apply Kd.R_alloc|apply Kd.R_drewN|apply Kd.R_drew));exact Kd.R_mono (Kd.R_far (p:=⟨gb101,1,none⟩) (Kd.R_far (p:=⟨gb101,0,none⟩) (Kd.R_types HO136.out BK101.out (by decide)) (fun _ hk=>hk.2) (.int .i64 t133)) (fun _ hk=>hk.2) (.slice Ao41 t134.length co41)) (fun _ hk=>trivial),IsS92.ch HI0.out,blg HB.out (IsS92.ge HI0.out),kp HK.out⟩
end Go.Proofs.YtlhkdbkjafiikaaGreat.R
end

section
namespace Go.Proofs.YtlhkdbkjafiikaaGreat.R
open Go.RowKit Go.Proofs.YtlhkdbkjafiikaaGreat.Q Go.Proofs.YtlhkdbkjafiikaaGreat.X Go.Proofs.YtlhkdbkjafiikaaGreatW.PrintWords Go.Proofs.YtlhkdbkjafiikaaGreatW.PrintLast Go.Proofs.YtlhkdbkjafiikaaGreatW.PrintMore
attribute [local go_sem] max2_int min2_int max_two min_two max_three min_three max_four min_four
set_option linter.unusedVariables false
set_option linter.unusedSimpArgs false
def spec_l01With.j0:Nat→Int→Bool→List Int→Int→Int→Int→List Int→Option (Int×List Int×Int)
 |0,_,_,_,_,_,_,_=>none
 |k+1,x6,x24,x144000,x144001,x144002,x151000,x151001=>if x24=true then ((spec_l01Next.f x144000 x144001 x144002 (x151001.length:Int)).bind fun bt158=>(if 0≤bt158.1 then (if bt158.1<(x151001.length:Int) then ((spec_l01Bad.f x144000 bt158.2.1 bt158.2.2 x151000 x151001).bind fun bt162=>(some (bt162.1,bt162.2.1,rd x151001 bt158.1))) else (none)) else (none))) else ((spec_l01Bad.f x144000 x144001 x144002 x151000 x151001).bind fun bt168=>(some (bt168.1,bt168.2.1,x6)))
def spec_l01With.f (k:Nat) (l0:List Int):Option (Int×List Int×Int):=(spec_l01From.f k l0).bind fun bt140=>((spec_l01Draw.f k bt140.1 bt140.2.1 bt140.2.2).bind fun bt144=>((spec_l01All.f bt144.1).bind fun t151=>((spec_l01Near.f bt140.1 bt144.2.2.1 bt144.2.2.2 t151).bind fun bt152=>(if (bt144.2.1.length:Int)>0 then ((spec_l01Next.f bt140.1 bt152.2.1 bt152.2.2 8).bind fun bt155=>(spec_l01With.j0 k bt152.1 (decide (bt155.1>0)) bt140.1 bt155.2.1 bt155.2.2 bt144.1 bt144.2.1)) else (spec_l01With.j0 k bt152.1 false bt140.1 bt152.2.1 bt152.2.2 bt144.1 bt144.2.1)))))
theorem spec_l01With.mono_l:∀ k,(∀ y0 y1 y2 y3 y4 y5 y6,LeO (spec_l01With.j0 k y0 y1 y2 y3 y4 y5 y6) (spec_l01With.j0 (k+1) y0 y1 y2 y3 y4 y5 y6))
 |0=>fun _ _ _ _ _ _ _ r h=>by simp [spec_l01With.j0] at h
 |k+1=>by
  have ih0:=spec_l01With.mono_l k
  ·intro y0 y1 y2 y3 y4 y5 y6;unfold spec_l01With.j0;repeat' first
   |(with_reducible first|exact ih0 _ _ _ _ _ _ _|exact spec_l01Draw.mono _ _ _ _|exact spec_l01From.mono _ _|exact LeO.refl _|exact LeO.none _|refine LeO.ite ?_ ?_|refine LeO.bind ?_ (fun _=>?_))
theorem spec_l01With.mono:∀ a0 k,LeO (spec_l01With.f k a0) (spec_l01With.f (k+1) a0):=by
 intro a0 k;have ih0:=spec_l01With.mono_l k;unfold spec_l01With.f;repeat' first
   |(with_reducible first|exact ih0 _ _ _ _ _ _ _|exact spec_l01Draw.mono _ _ _ _|exact spec_l01From.mono _ _|exact LeO.refl _|exact LeO.none _|refine LeO.ite ?_ ?_|refine LeO.bind ?_ (fun _=>?_))
def spec_l01With.T5:Bool×List (List Nat×List Nat):=(true,[([],[]),([0],[0]),([],[]),([],[]),([3],[3]),([4],[4]),([2,5],[2,5]),([1,6],[1,6]),([7],[7]),([8,6,0,1,2,3,4,5,6,7,8],[8])])
def spec_l01With.B5:List Nat:= [0,1,0,0,8,24,60,127,255,511]
theorem spec_l01With.tab5:rtab .any (opsOf Tryz.f51 5)=spec_l01With.T5:=by kernel_rfl
theorem spec_l01With.bits5:waitsOk spec_l01With.T5.2 spec_l01With.B5=true:=by kernel_rfl
set_option maxHeartbeats 8000000 in
set_option maxRecDepth 100000 in
theorem spec_l01With.calls (k:Nat) (A0:Option Addr) (c0:Nat) (l0:List Int) (r1:Int) (r2:List Int) (r3:Int) (w:World) (hr0:Kd.C (Kd.int .u8) w A0 l0.length l0) (hc0:l0.length≤c0) (h:spec_l01With.f k l0=some (r1,r2,r3)) :
  Calls Tryz.prog 51 #[.slice A0 l0.length c0] w fun e w'=>∃ v1_:Value,e = .returned (.tuple #[.agg #[.int .i64 r1,v1_],.int .i64 r3])∧Kd.R (Kd.int .i64) 2 w' w.heap.size (fun _=>True) v1_ r2∧Below w.heap.size w w':=by
 have hu26:=Tryz.underlying26;have HR0:=Aside0.mk hr0;have HC0:=Aside0.mk hc0;clear hr0 hc0;have HB:=Aside0.mk (Below.refl w.heap.size w);have H:((spec_l01From.f k l0).bind fun bt140=>((spec_l01Draw.f k bt140.1 bt140.2.1 bt140.2.2).bind fun bt144=>((spec_l01All.f bt144.1).bind fun t151=>((spec_l01Near.f bt140.1 bt144.2.2.1 bt144.2.2.2 t151).bind fun bt152=>(if (bt144.2.1.length:Int)>0 then ((spec_l01Next.f bt140.1 bt152.2.1 bt152.2.2 8).bind fun bt155=>(spec_l01With.j0 k bt152.1 (decide (bt155.1>0)) bt140.1 bt155.2.1 bt155.2.2 bt144.1 bt144.2.1)) else (spec_l01With.j0 k bt152.1 false bt140.1 bt152.2.1 bt152.2.2 bt144.1 bt144.2.1))))))=some (r1,r2,r3):=h;clear h;replace H:=Option.bind_eq_some_iff.mp H;obtain ⟨⟨t140,t141,t142⟩,A20,H⟩:=H;replace H:((spec_l01Draw.f k t140 t141 t142).bind fun bt144=>((spec_l01All.f bt144.1).bind fun t151=>((spec_l01Near.f t140 bt144.2.2.1 bt144.2.2.2 t151).bind fun bt152=>(if (bt144.2.1.length:Int)>0 then ((spec_l01Next.f t140 bt152.2.1 bt152.2.2 8).bind fun bt155=>(spec_l01With.j0 k bt152.1 (decide (bt155.1>0)) t140 bt155.2.1 bt155.2.2 bt144.1 bt144.2.1)) else (spec_l01With.j0 k bt152.1 false t140 bt152.2.1 bt152.2.2 bt144.1 bt144.2.1)))))=some (r1,r2,r3):=H;have A2:=Aside0.mk A20;clear A20;replace H:=Option.bind_eq_some_iff.mp H;obtain ⟨⟨t144,t145,t148,t149⟩,A30,H⟩:=H;replace H:((spec_l01All.f t144).bind fun t151=>((spec_l01Near.f t140 t148 t149 t151).bind fun bt152=>(if (t145.length:Int)>0 then ((spec_l01Next.f t140 bt152.2.1 bt152.2.2 8).bind fun bt155=>(spec_l01With.j0 k bt152.1 (decide (bt155.1>0)) t140 bt155.2.1 bt155.2.2 t144 t145)) else (spec_l01With.j0 k bt152.1 false t140 bt152.2.1 bt152.2.2 t144 t145))))=some (r1,r2,r3):=H;have A3:=Aside0.mk A30;clear A30;replace H:=Option.bind_eq_some_iff.mp H;obtain ⟨t151,A40,H⟩:=H;replace H:((spec_l01Near.f t140 t148 t149 t151).bind fun bt152=>(if (t145.length:Int)>0 then ((spec_l01Next.f t140 bt152.2.1 bt152.2.2 8).bind fun bt155=>(spec_l01With.j0 k bt152.1 (decide (bt155.1>0)) t140 bt155.2.1 bt155.2.2 t144 t145)) else (spec_l01With.j0 k bt152.1 false t140 bt152.2.1 bt152.2.2 t144 t145)))=some (r1,r2,r3):=H;have A4:=Aside0.mk A40;clear A40;replace H:=Option.bind_eq_some_iff.mp H;obtain ⟨⟨t152,t153,t154⟩,A50,H⟩:=H;replace H:(if (t145.length:Int)>0 then ((spec_l01Next.f t140 t153 t154 8).bind fun bt155=>(spec_l01With.j0 k t152 (decide (bt155.1>0)) t140 bt155.2.1 bt155.2.2 t144 t145)) else (spec_l01With.j0 k t152 false t140 t153 t154 t144 t145))=some (r1,r2,r3):=H;have A5:=Aside0.mk A50;clear A50;have HC6:=Aside0.mk H;clear H;go_enter Tryz.func51,Tryz.ntmps51;go_upto_region 4 with (first|((with_reducible refine gate_dst (N:=2) rfl ?_);refine bx 2 #[.int .i64 0,.slice none 0 0] 26 ?_;intro gb139 hg w7 hbox hb;have BK139:=Aside0.mk (hbox);have GE139:=gzA hg HB;replace HB:=bsA HB hb;clear hb hbox hg)|((with_reducible refine gate_callee (f:=66) rfl ?_);refine gl (some 8) Tryz.func66 #[.slice A0 l0.length c0] ?_;(with_reducible refine(spec_l01From.calls k _ _ l0 t140 t141 t142 w _ (bl HB.out) HR0.out HC0.out A2.out).mono ?_);rintro e w8 ⟨g143,rfl,hi,hb,hb2⟩;refine⟨_,rfl,?_⟩;replace HB:=Aside0.mk (hb);have HI143:=Aside0.mk (hi);have NB143_139:=Aside0.mk (IsS92.ne_blk hi (blk_below (bk BK139.out) hb2) (by decide));have NB139_143:=Aside0.mk (Ne.symm (IsS92.ne_blk hi (blk_below (bk BK139.out) hb2) (by decide)));replace BK139:=bkA BK139 hb2;(try clear hb);(try clear hb2);(try clear hk);(try clear hi))|((with_reducible refine gate_callee (f:=75) rfl ?_);refine gl (some 10) Tryz.func75 #[.pointer (some ⟨g143,0,none⟩)] ?_;(with_reducible refine(spec_l01Draw.calls k g143 t140 t141 t142 t144 t145 t148 t149 w _ (IsS92.ch HI143.out) (blg HB.out (IsS92.ge HI143.out)) A3.out).mono ?_);rintro e w9 ⟨v146,rfl,ho0,hi,hb,hk⟩;refine⟨_,rfl,?_⟩;replace BK139:=Aside0.mk (kbk hk (bk BK139.out) NB139_143.out);have HO147:=Aside0.mk (Kd.R_lower ho0 (below_size (blg HB.out (IsS92.ge HI143.out))));replace HB:=Aside0.mk (hb);replace HI143:=Aside0.mk (hi);(try clear hb);(try clear hb2);(try clear hk);(try clear hi);(try clear ho0))|((with_reducible refine gate_dst (N:=5) rfl ?_);refine bx 5 #[.int .i64 0,.slice none 0 0] 26 ?_;intro gb150 hg w10 hbox hb;replace HO147:=krA HO147 hb;have BK150:=Aside0.mk (hbox);have GW150:=Aside0.mk ((by rw[hg];exact(below_size (blg HB.out (IsS92.ge HI143.out))):w.heap.size≤gb150));have GE150:=Aside0.mk ((by rw[hg];exact(below_size (blg HB.out (IsS92.ge HI143.out))):w.heap.size≤gb150));replace HB:=Aside0.mk (below_step (blg HB.out (IsS92.ge HI143.out)) hb);have NB139_150:=nlA hg BK139;have NB150_139:=ngA hg BK139;replace BK139:=bkA BK139 hb;have NB143_150:=Aside0.mk ((by rw[hg];exact Nat.ne_of_lt (IsS92.lt (show IsS92 w _ g143 t140 t148 t149 from IsS92.ch HI143.out)):g143≠gb150));have NB150_143:=Aside0.mk ((by rw[hg];exact Nat.ne_of_gt (IsS92.lt (show IsS92 w _ g143 t140 t148 t149 from IsS92.ch HI143.out)):gb150≠g143));replace HI143:=Aside0.mk (IsS92.below (IsS92.ch HI143.out) hb);clear hb hbox hg;have hnb11:=NB150_139.out;have hnc11:=NB139_150.out;have hnb12:=NB150_143.out;have hnc12:=NB143_150.out;have hcz13_0:=z0_ BK150;have hcz13_1:=z1_ BK150;have hfz13_0:=hf_ BK150 0;have hfz13_1:=hf_ BK150 1;obtain ⟨Ao14,co14,eo14⟩:=Kd.R_slice HO147.out;subst eo14)|((with_reducible refine gate_callee (f:=91) rfl ?_);refine gl (some 14) Tryz.func91 #[.int .i64 t144] ?_;(with_reducible refine(spec_l01All.calls t144 t151 _ A4.out).mono ?_);rintro e w' ⟨rfl,⟨nd,rfl⟩⟩;refine⟨_,rfl,?_⟩)|((with_reducible refine gate_callee (f:=90) rfl ?_);refine gl (some 15) Tryz.func90 #[.pointer (some ⟨g143,0,none⟩),.int .i64 t151] ?_;(with_reducible refine(spec_l01Near.calls g143 t140 t148 t149 t151 t152 t153 t154 w _ (IsS92.ch HI143.out) (blg HB.out (IsS92.ge HI143.out)) A5.out).mono ?_);rintro e w15 ⟨rfl,hi,hb,hk⟩;refine⟨_,rfl,?_⟩;replace BK139:=Aside0.mk (KeepBut.blk hk (g':=gb139) (o:= .cells #[.int .i64 0,.slice none 0 0] 26 (0,0)) (bp BK139.out) NB139_143.out (by simp));replace HO147:=Aside0.mk (Kd.R_mono (Kd.R_keep (IsS92.apart (show IsS92 w _ g143 t140 t148 t149 from IsS92.ch HI143.out) (by(with_reducible repeat(first|apply Kd.R_alloc|apply Kd.R_drewN|apply Kd.R_drew));exact(Kd.R_mono (Kd.R_far (p:=⟨gb150,1,none⟩) (Kd.R_far (p:=⟨gb150,0,none⟩) (Kd.R_types HO147.out BK150.out (by decide)) (fun _ hk=>hk.2) (.int .i64 t144)) (fun _ hk=>hk.2) (.slice Ao14 t145.length co14)) (fun _ h_=>h_.1))) (by decide)) hk (fun _ h=>h.2)) (fun _ h=>h.1));replace BK150:=Aside0.mk (KeepBut.blk hk (g':=gb150) (o:= .cells #[.int .i64 t144,.slice Ao14 t145.length co14] 26 (0,0)) (bp BK150.out) NB150_143.out (by simp));replace HB:=Aside0.mk (hb);replace HI143:=Aside0.mk (hi);(try clear hb);(try clear hb2);(try clear hk);(try clear hi)))
 (try simp only [Act.put,List.setIfInBounds_toArray,List.set_cons_zero,List.set_cons_succ])
 go_cut [24] (fun v24 wc=>∃(kq:Nat) (x24_5:Bool) (x144001_5:Int) (x144002_5:Int),v24 = .bool x24_5∧Aside0 (spec_l01With.j0 kq t152 x24_5 t140 x144001_5 x144002_5 t144 t145=some (r1,r2,r3))∧Aside0 (kq≤k)∧Aside0 (Kd.R (Kd.int .i64) 2 wc w.heap.size (fun _=>True) (.slice Ao14 t145.length co14) t145)∧Aside0 (wc.heap[gb139]?=some (.cells #[.int .i64 0,(.slice none 0 0)] 26 (0,0)))∧Aside0 (wc.heap[gb150]?=some (.cells #[.int .i64 t144,(.slice Ao14 t145.length co14)] 26 (0,0)))∧Aside0 (IsS92 w wc g143 t140 x144001_5 x144002_5)∧Aside0 (Below w.heap.size w wc))
 case first=>
  have H:=HC6.out;clear HC6;by_cases c16:(t145.length:Int)>0
  ·rw[if_pos c16] at H;have c16b0:decide (0<(t145.length:Int))=true:=decide_eq_true c16;have c16b1:decide (0<t145.length)=true:=decide_eq_true (by omega);clear c16;(first|rw[c16b0]|(simp only [i64_w,i32_w];rw[c16b0])|skip)
   replace H:=Option.bind_eq_some_iff.mp H;obtain ⟨⟨t155,t156,t157⟩,A170,H⟩:=H;replace H:(spec_l01With.j0 k t152 (decide (t155>0)) t140 t156 t157 t144 t145)=some (r1,r2,r3):=H;have A17:=Aside0.mk A170;clear A170;have H':=Aside0.mk H;clear H;have hnb18:=NB150_139.out;have hnc18:=NB139_150.out;have hnb19:=NB150_143.out;have hnc19:=NB143_150.out;have hcz20_0:=z0_ BK150;have hcz20_1:=z1_ BK150;have hfz20_0:=hf_ BK150 0;have hfz20_1:=hf_ BK150 1;go_wp2_with (first|(go_at_call 67;(with_reducible refine(spec_l01Next.calls g143 t140 t153 t154 8 t155 t156 t157 w _ (IsS92.ch HI143.out) (blg HB.out (IsS92.ge HI143.out)) A17.out).mono ?_);rintro e w21 ⟨rfl,hi,hb,hk⟩;replace BK139:=Aside0.mk (kbk hk (bk BK139.out) NB139_143.out);replace HO147:=Aside0.mk (Kd.R_mono (Kd.R_keep (IsS92.apart (show IsS92 w _ g143 t140 t153 t154 from IsS92.ch HI143.out) (kr HO147.out) (by decide)) hk (fun _ h=>h.2)) (fun _ h=>h.1));replace BK150:=Aside0.mk (kbk hk (bk BK150.out) NB150_143.out);replace HB:=Aside0.mk (hb);replace HI143:=Aside0.mk (hi);(try clear hb);(try clear hb2);(try clear hk);(try clear hi)))
   go_meet
   case rel=>exact⟨_,(decide (t155>0)),(t156),(t157),rs,H',⟨by first|omega|exact Nat.le_refl _⟩,⟨kr HO147.out⟩,⟨bk BK139.out⟩,⟨bk BK150.out⟩,⟨IsS92.ch HI143.out⟩,⟨blg HB.out (IsS92.ge HI143.out)⟩⟩
  ·rw[if_neg c16] at H;have c16b0:decide (0<(t145.length:Int))=false:=decide_eq_false c16;have c16b1:decide (0<t145.length)=false:=decide_eq_false (by omega);clear c16;(first|rw[c16b0]|(simp only [i64_w,i32_w];rw[c16b0])|skip)
   have H':=Aside0.mk H;clear H;have hnb22:=NB150_139.out;have hnc22:=NB139_150.out;have hnb23:=NB150_143.out;have hnc23:=NB143_150.out;have hcz24_0:=z0_ BK150;have hcz24_1:=z1_ BK150;have hfz24_0:=hf_ BK150 0;have hfz24_1:=hf_ BK150 1;go_wp2
   go_meet
   case rel=>exact⟨_,(false),(t153),(t154),rs,H',⟨by first|omega|exact Nat.le_refl _⟩,⟨kr HO147.out⟩,⟨bk BK139.out⟩,⟨bk BK150.out⟩,⟨IsS92.ch HI143.out⟩,⟨blg HB.out (IsS92.ge HI143.out)⟩⟩
 case rest=>
  clear HC6;try clear c1
  try clear c2
  try clear p2
  try clear c5
  try clear c6
  try clear c7
  try clear c9
  try clear c11
  try clear c12
  try clear c16
  try clear c16b0
  try clear c16b1
  try clear c18
  try clear c19
  try clear c22
  try clear c23
  try clear hcz13_0
  try clear hcz13_1
  try clear hcz20_0
  try clear hcz20_1
  try clear hcz24_0
  try clear hcz24_1
  try clear hfz13_0
  try clear hfz13_1
  try clear hfz20_0
  try clear hfz20_1
  try clear hfz24_0
  try clear hfz24_1
  obtain ⟨kq,x24_5,x144001_5,x144002_5,rfl,HA,HJ5,HO_151001,BK139,BK150,HI143,HB⟩:=hcut;cases kq with
  |zero=>exact absurd HA.out (by simp [spec_l01With.j0])
  |succ kj5=>
   have H:=HA.out;clear HA;simp only [spec_l01With.j0] at H;by_cases c25:x24_5=true
   ·subst c25;have H1:((spec_l01Next.f t140 x144001_5 x144002_5 (t145.length:Int)).bind fun bt158=>(if 0≤bt158.1 then (if bt158.1<(t145.length:Int) then ((spec_l01Bad.f t140 bt158.2.1 bt158.2.2 t144 t145).bind fun bt162=>(some (bt162.1,bt162.2.1,rd t145 bt158.1))) else (none)) else (none)))=some (r1,r2,r3):=by rw[if_pos rfl] at H;exact H
    clear H;have H:=H1;clear H1;replace H:=Option.bind_eq_some_iff.mp H;obtain ⟨⟨t158,t159,t160⟩,A260,H⟩:=H;replace H:(if 0≤t158 then (if t158<(t145.length:Int) then ((spec_l01Bad.f t140 t159 t160 t144 t145).bind fun bt162=>(some (bt162.1,bt162.2.1,rd t145 t158))) else (none)) else (none))=some (r1,r2,r3):=H;have A26:=Aside0.mk A260;clear A260;by_cases c27:0≤t158
    ·rw[if_pos c27] at H;have c27b0:decide (0≤t158)=true:=decide_eq_true c27;clear c27;by_cases c28:t158<(t145.length:Int)
     ·rw[if_pos c28] at H;have c28b0:decide (t158<(t145.length:Int))=true:=decide_eq_true c28;clear c28;replace H:=Option.bind_eq_some_iff.mp H;obtain ⟨⟨t162,t163,t166,t167⟩,A290,H⟩:=H;replace H:(some (t162,t163,rd t145 t158))=some (r1,r2,r3):=H;have A29:=Aside0.mk A290;clear A290;simp only [Option.some.injEq,Prod.mk.injEq] at H;obtain ⟨rfl,rfl,rfl⟩:=H;try go_wp2
      replace HO_151001:=Aside0.mk (Kd.R_drew HO_151001.out);replace BK139:=Aside0.mk (blk_drew BK139.out);replace BK150:=Aside0.mk (blk_drew BK150.out);replace HI143:=Aside0.mk (IsS92.drew HI143.out);replace HB:=Aside0.mk (below_drew1 HB.out);have p161:0≤(t158:Int):=dd;have q161:t158<(t145.length:Int):=dd;obtain ⟨ad161,e161,hx161_0⟩:=Kd.at_int (Kd.R_reads' HO_151001.out).2.2 t158 p161 q161;cases e161;replace p161:=eq_true p161;replace q161:=eq_true q161;refine start_ (n:=10) (S:=fun w'=>w'.cell? ⟨gb150,0,none⟩=some (.int .i64 t144)∧w'.cell? ⟨gb150,1,none⟩=some (.slice (some ad161) t145.length co14)∧w'.cell? (ad161.add (t158).toNat)=some (.int .i64 (rd t145 t158))) (ds:= []) (ar 0 10) (by kernel_rfl) rfl rfl ⟨(blk_cell BK150.out 0).trans rfl,(blk_cell BK150.out 1).trans rfl,hx161_0⟩ (fun hHeld=>?_);refine with_tabW spec_l01With.tab5 spec_l01With.bits5 (fun HT_ HW_=>?_);generalize wc.drew=w30 at HO_151001 BK139 BK150 HI143 HB hx161_0 hHeld ⊢;refine pu 0 (some 25) (ar 1 9) HT_ ?_;refine pu 2 (some 27) #[U,O,U,O,O,O,O,O,O,O] HT_ ?_;refine pu 3 (some 28) #[U,O,U,U,O,O,O,O,O,O] HT_ ?_;refine tk 1 (some 26) (ar 4 6) HT_ HW_ hHeld ?_;refine tk 4 (some 29) (ar 5 5) HT_ HW_ hHeld ?_;refine pu 5 (some 30) (ar 6 4) HT_ ?_;refine on_ 6 (some 31) (ar 7 3) HT_ fun K hK=>?_;refine gr Tryz.func67 #[.pointer (some ⟨g143,0,none⟩),.int .i64 (t145.length:Int)] ?_;with_reducible refine(spec_l01Next.calls g143 t140 x144001_5 x144002_5 (t145.length:Int) t158 t159 t160 w _ (IsS92.ch HI143.out) (blg HB.out (IsS92.ge HI143.out)) A26.out).mono ?_
      rintro e w31 ⟨rfl,hi,hb,hk⟩;have HS2_:=keep_cell hk (hHeld.2.2) (by first|(rw[add_block];exact Kd.own_blk (IsS92.own_ne HI143.out HO_151001.out (by decide)))|(show (Addr.add _ _).block≠_;rw[add_block];exact Kd.own_blk (IsS92.own_ne HI143.out HO_151001.out (by decide)))|exact Kd.own_blk (IsS92.own_ne HI143.out HO_151001.out (by decide)));refine⟨_,rfl,?_⟩;replace HO_151001:=Aside0.mk (Kd.R_mono (Kd.R_keep (IsS92.apart (show IsS92 w _ g143 t140 x144001_5 x144002_5 from IsS92.ch HI143.out) (kr HO_151001.out) (by decide)) hk (fun _ h=>h.2)) (fun _ h=>h.1));replace BK139:=Aside0.mk (kbk hk (bk BK139.out) NB139_143.out);replace BK150:=Aside0.mk (kbk hk (bk BK150.out) NB150_143.out);replace HB:=Aside0.mk (hb);replace HI143:=Aside0.mk (hi);(try clear hb)
      (try clear hb2)
      (try clear hk)
      (try clear hi)
      refine hK.out _ _ ⟨(blk_cell BK150.out 0).trans rfl,(blk_cell BK150.out 1).trans rfl,HS2_⟩ (fun hHeld=>?_);clear hK K;refine nr 31 ?_;refine pu 7 (some 32) (ar 8 2) HT_ ?_;refine tk 8 (some 33) (ar 9 1) HT_ HW_ hHeld ?_;refine pu 9 (some 6) (ar 10 0) HT_ ?_;refine done_ (done_of HT_.out (by kernel_rfl)) ?_;have hnb32:=NB150_139.out;have hnc32:=NB139_150.out;have hnb33:=NB150_143.out;have hnc33:=NB143_150.out;have hcz34_0:=z0_ BK150;have hcz34_1:=z1_ BK150;have hfz34_0:=hf_ BK150 0;have hfz34_1:=hf_ BK150 1;try go_wp2_with (first|((with_reducible refine gate_callee (f:=69) rfl ?_);refine gl (some 36) Tryz.func69 #[.pointer (some ⟨g143,0,none⟩),.agg #[.int .i64 t144,.slice (some ad161) t145.length co14]] ?_;(with_reducible refine(spec_l01Bad.calls g143 t140 t159 t160 t144 (fun k_=>some k_=(.slice (some ad161) t145.length co14:Value).ownBlock) (.slice (some ad161) t145.length co14) t145 t162 t163 t166 t167 w _ (IsS92.ch HI143.out) (blg HB.out (IsS92.ge HI143.out)) (Kd.R_tight rfl HO_151001.out) A29.out).mono ?_);rintro e w35 ⟨v164,rfl,ho0,hi,hb,hkp⟩;refine⟨_,rfl,?_⟩;have n0_:=Aside0.mk (blk_kept (bk BK139.out) hkp (fun hs_=>Or.elim hs_ (fun hs_=>(fun e_=>(Kd.R_ne HO_151001.out BK139.out (by decide)) e_) hs_) (fun e_=>NB139_143.out e_)));have n1_:=Aside0.mk (blk_kept (bk BK150.out) hkp (fun hs_=>Or.elim hs_ (fun hs_=>(fun e_=>(Kd.R_ne HO_151001.out BK150.out (by decide)) e_) hs_) (fun e_=>NB150_143.out e_)));have n2_:=Aside0.mk (hi);have n3_:=Aside0.mk (Kd.R_mono (ok':=fun k_=>True) ho0 (fun k_ hk_=>trivial));have n4_:=Aside0.mk (hb);clear BK139;clear BK150;clear HI143;clear HB;clear HO_151001;have BK139:=n0_;have BK150:=n1_;have HI143:=n2_;have HO165:=n3_;have HB:=n4_;clear n0_ n1_ n2_ n3_ n4_;(try clear hb);(try clear hkp);(try clear ho0);have hnb36:=NB139_143.out;have hnc36:=NB143_139.out;have hcz37_0:=z0_ BK139;have hcz37_1:=z1_ BK139;have hfz37_0:=hf_ BK139 0;have hfz37_1:=hf_ BK139 1;obtain ⟨Ao38,co38,eo38⟩:=Kd.R_slice HO165.out;subst eo38))
      refine bodyPost_ret (results_ct rfl _ _ gb139 26 #[.int .i64 t162,.slice Ao38 t163.length co38] (0,0) _ rfl (bp BK139.out) Tryz.underlying26 rfl (by kernel_rfl)) rfl ?_;exact⟨_,rr,by(with_reducible repeat(first|apply Kd.R_alloc|apply Kd.R_drewN|apply Kd.R_drew));exact Kd.R_mono (Kd.R_far (p:=⟨gb139,1,none⟩) (Kd.R_far (p:=⟨gb139,0,none⟩) (Kd.R_types HO165.out BK139.out (by decide)) (fun _ hk=>hk.2) (.int .i64 t162)) (fun _ hk=>hk.2) (.slice Ao38 t163.length co38)) (fun _ hk=>trivial),blg HB.out (IsS92.ge HI143.out)⟩
     ·rw[if_neg c28] at H;exact absurd H (by simp)
    ·rw[if_neg c27] at H;exact absurd H (by simp)
   ·replace c25:=Bool.eq_false_iff.mpr c25;subst c25;have H1:((spec_l01Bad.f t140 x144001_5 x144002_5 t144 t145).bind fun bt168=>(some (bt168.1,bt168.2.1,t152)))=some (r1,r2,r3):=by rw[if_neg (show ¬ (false=true) by decide)] at H;exact H
    clear H;have H:=H1;clear H1;replace H:=Option.bind_eq_some_iff.mp H;obtain ⟨⟨t168,t169,t172,t173⟩,A390,H⟩:=H;replace H:(some (t168,t169,t152))=some (r1,r2,r3):=H;have A39:=Aside0.mk A390;clear A390;simp only [Option.some.injEq,Prod.mk.injEq] at H;obtain ⟨rfl,rfl,rfl⟩:=H;have hnb40:=NB150_139.out;have hnc40:=NB139_150.out;have hnb41:=NB150_143.out;have hnc41:=NB143_150.out;have hcz42_0:=z0_ BK150;have hcz42_1:=z1_ BK150;have hfz42_0:=hf_ BK150 0;have hfz42_1:=hf_ BK150 1;go_wp2_with (first|((with_reducible refine gate_callee (f:=69) rfl ?_);refine gl (some 36) Tryz.func69 #[.pointer (some ⟨g143,0,none⟩),.agg #[.int .i64 t144,.slice Ao14 t145.length co14]] ?_;(with_reducible refine(spec_l01Bad.calls g143 t140 x144001_5 x144002_5 t144 (fun k_=>some k_=(.slice Ao14 t145.length co14:Value).ownBlock) (.slice Ao14 t145.length co14) t145 t168 t169 t172 t173 w _ (IsS92.ch HI143.out) (blg HB.out (IsS92.ge HI143.out)) (Kd.R_tight rfl HO_151001.out) A39.out).mono ?_);rintro e w43 ⟨v170,rfl,ho0,hi,hb,hkp⟩;refine⟨_,rfl,?_⟩;have n0_:=Aside0.mk (blk_kept (bk BK139.out) hkp (fun hs_=>Or.elim hs_ (fun hs_=>(fun e_=>(Kd.R_ne HO_151001.out BK139.out (by decide)) e_) hs_) (fun e_=>NB139_143.out e_)));have n1_:=Aside0.mk (blk_kept (bk BK150.out) hkp (fun hs_=>Or.elim hs_ (fun hs_=>(fun e_=>(Kd.R_ne HO_151001.out BK150.out (by decide)) e_) hs_) (fun e_=>NB150_143.out e_)));have n2_:=Aside0.mk (hi);have n3_:=Aside0.mk (Kd.R_mono (ok':=fun k_=>True) ho0 (fun k_ hk_=>trivial));have n4_:=Aside0.mk (hb);clear BK139;clear BK150;clear HI143;clear HB;clear HO_151001;have BK139:=n0_;have BK150:=n1_;have HI143:=n2_;have HO171:=n3_;have HB:=n4_;clear n0_ n1_ n2_ n3_ n4_;(try clear hb);(try clear hkp);(try clear ho0);have hnb44:=NB139_143.out;have hnc44:=NB143_139.out;have hcz45_0:=z0_ BK139;have hcz45_1:=z1_ BK139;have hfz45_0:=hf_ BK139 0;have hfz45_1:=hf_ BK139 1;obtain ⟨Ao46,co46,eo46⟩:=Kd.R_slice HO171.out;subst eo46))
    refine bodyPost_ret (results_ct rfl _ _ gb139 26 #[.int .i64 t168,.slice Ao46 t169.length co46] (0,0) _ rfl (bp BK139.out) Tryz.underlying26 rfl (by kernel_rfl)) rfl ?_;exact⟨_,rr,by(with_reducible repeat(first|apply Kd.R_alloc|apply Kd.R_drewN|apply Kd.R_drew));exact Kd.R_mono (Kd.R_far (p:=⟨gb139,1,none⟩) (Kd.R_far (p:=⟨gb139,0,none⟩) (Kd.R_types HO171.out BK139.out (by decide)) (fun _ hk=>hk.2) (.int .i64 t168)) (fun _ hk=>hk.2) (.slice Ao46 t169.length co46)) (fun _ hk=>trivial),blg HB.out (IsS92.ge HI143.out)⟩
end Go.Proofs.YtlhkdbkjafiikaaGreat.R
end

section
namespace Go.Proofs.YtlhkdbkjafiikaaGreat.R
open Go.RowKit Go.Proofs.YtlhkdbkjafiikaaGreat.Q Go.Proofs.YtlhkdbkjafiikaaGreat.X Go.Proofs.YtlhkdbkjafiikaaGreatW.PrintWords Go.Proofs.YtlhkdbkjafiikaaGreatW.PrintLast Go.Proofs.YtlhkdbkjafiikaaGreatW.PrintMore
attribute [local go_sem] max2_int min2_int max_two min_two max_three min_three max_four min_four
set_option linter.unusedVariables false
set_option linter.unusedSimpArgs false
def spec_DrawLinkOf.f (k:Nat) (l0:List Int):Option (Int×List Int×Int):=(spec_l01With.f k l0).bind fun bt175=>(some (bt175.1,bt175.2.1,bt175.2.2))
theorem spec_DrawLinkOf.mono:∀ a0 k,LeO (spec_DrawLinkOf.f k a0) (spec_DrawLinkOf.f (k+1) a0):=by
 intro a0 k;unfold spec_DrawLinkOf.f;repeat' first
   |(with_reducible first|exact spec_l01With.mono _ _|exact LeO.refl _|exact LeO.none _|refine LeO.ite ?_ ?_|refine LeO.bind ?_ (fun _=>?_))
set_option maxHeartbeats 8000000 in
set_option maxRecDepth 100000 in
theorem spec_DrawLinkOf.calls (k:Nat) (A0:Option Addr) (c0:Nat) (l0:List Int) (r1:Int) (r2:List Int) (r3:Int) (w:World) (hr0:Kd.C (Kd.int .u8) w A0 l0.length l0) (hc0:l0.length≤c0) (h:spec_DrawLinkOf.f k l0=some (r1,r2,r3)) :
  Calls Tryz.prog 6 #[.slice A0 l0.length c0] w fun e w'=>∃ v1_:Value,e = .returned (.tuple #[.agg #[.int .i64 r1,v1_],.int .i64 r3])∧Kd.R (Kd.int .i64) 2 w' w.heap.size (fun _=>True) v1_ r2∧Below w.heap.size w w':=by
 have hu26:=Tryz.underlying26;have HR0:=Aside0.mk hr0;have HC0:=Aside0.mk hc0;clear hr0 hc0;have HB:=Aside0.mk (Below.refl w.heap.size w);have H:((spec_l01With.f k l0).bind fun bt175=>(some (bt175.1,bt175.2.1,bt175.2.2)))=some (r1,r2,r3):=h;clear h;replace H:=Option.bind_eq_some_iff.mp H;obtain ⟨⟨t175,t176,t179⟩,A20,H⟩:=H;replace H:(some (t175,t176,t179))=some (r1,r2,r3):=H;have A2:=Aside0.mk A20;clear A20;simp only [Option.some.injEq,Prod.mk.injEq] at H;obtain ⟨rfl,rfl,rfl⟩:=H;go_enter Tryz.func6,Tryz.ntmps6;go_wp2_with (first|((with_reducible refine gate_dst (N:=2) rfl ?_);refine bx 2 #[.int .i64 0,.slice none 0 0] 26 ?_;intro gb174 hg w3 hbox hb;have BK174:=Aside0.mk (hbox);have GE174:=gzA hg HB;replace HB:=bsA HB hb;clear hb hbox hg)|((with_reducible refine gate_callee (f:=51) rfl ?_);refine gl (some 8) Tryz.func51 #[.slice A0 l0.length c0] ?_;(with_reducible refine(spec_l01With.calls k _ _ l0 t175 t176 t179 _ (cb (Kd.C_below HR0.out HB.out)) HC0.out A2.out).mono ?_);rintro e w4 ⟨v177,rfl,ho0,hb⟩;refine⟨_,rfl,?_⟩;have HO178:=klA ho0 HB;replace BK174:=bkA BK174 hb;replace HB:=bsA HB hb;(try clear hb);(try clear hb2);(try clear hk);(try clear hi);(try clear ho0))|((with_reducible refine gate_dst (N:=4) rfl ?_);refine bx 4 #[.int .i64 0,.slice none 0 0] 26 ?_;intro gb180 hg w5 hbox hb;replace HO178:=krA HO178 hb;have BK180:=Aside0.mk (hbox);have GE180:=gzA hg HB;replace HB:=bsA HB hb;have NB174_180:=nlA hg BK174;have NB180_174:=ngA hg BK174;replace BK174:=bkA BK174 hb;clear hb hbox hg;have hnb6:=NB180_174.out;have hnc6:=NB174_180.out;have hcz7_0:=z0_ BK180;have hcz7_1:=z1_ BK180;have hfz7_0:=hf_ BK180 0;have hfz7_1:=hf_ BK180 1;obtain ⟨Ao8,co8,eo8⟩:=Kd.R_slice HO178.out;subst eo8;have hcz9_0:=z0_ BK174;have hcz9_1:=z1_ BK174;have hfz9_0:=hf_ BK174 0;have hfz9_1:=hf_ BK174 1))
 refine bodyPost_ret (results_ct rfl _ _ gb174 26 #[.int .i64 t175,.slice Ao8 t176.length co8] (0,0) _ rfl (bp BK174.out) Tryz.underlying26 rfl (by kernel_rfl)) rfl ?_;exact⟨_,rr,by(with_reducible repeat(first|apply Kd.R_alloc|apply Kd.R_drewN|apply Kd.R_drew));exact Kd.R_mono (Kd.R_far (p:=⟨gb174,1,none⟩) (Kd.R_far (p:=⟨gb174,0,none⟩) (Kd.R_far (p:=⟨gb180,1,none⟩) (Kd.R_far (p:=⟨gb180,0,none⟩) (Kd.R_types (Kd.R_types HO178.out BK180.out (by decide)) BK174.out (by decide)) (fun _ hk=>hk.1.2) (.int .i64 t175)) (fun _ hk=>hk.1.2) (.slice Ao8 t176.length co8)) (fun _ hk=>hk.2) (.int .i64 t175)) (fun _ hk=>hk.2) (.slice Ao8 t176.length co8)) (fun _ hk=>trivial),bl HB.out⟩
def spec_l01Spoil.f (k:Nat) (s0_0:List Int) (s0_1:Int) (s0_2:Int):Option (Int×List Int×Int×Int):=(spec_l01Draw.f k s0_0 s0_1 s0_2).bind fun bt182=>((spec_l01Bad.f s0_0 bt182.2.2.1 bt182.2.2.2 bt182.1 bt182.2.1).bind fun bt188=>(some (bt188.1,bt188.2.1,bt188.2.2.1,bt188.2.2.2)))
theorem spec_l01Spoil.mono:∀ a0 a1 a2 k,LeO (spec_l01Spoil.f k a0 a1 a2) (spec_l01Spoil.f (k+1) a0 a1 a2):=by
 intro a0 a1 a2 k;unfold spec_l01Spoil.f;repeat' first
   |(with_reducible first|exact spec_l01Draw.mono _ _ _ _|exact LeO.refl _|exact LeO.none _|refine LeO.ite ?_ ?_|refine LeO.bind ?_ (fun _=>?_))
set_option maxHeartbeats 8000000 in
set_option maxRecDepth 100000 in
theorem spec_l01Spoil.calls (k:Nat) (g:Nat) (s0_0:List Int) (s0_1:Int) (s0_2:Int) (r1:Int) (r2:List Int) (r3:Int) (r4:Int) (w0 w:World) (hI:IsS92 w0 w g s0_0 s0_1 s0_2) (hB:Below w0.heap.size w0 w) (h:spec_l01Spoil.f k s0_0 s0_1 s0_2=some (r1,r2,r3,r4)) :
  Calls Tryz.prog 68 #[.pointer (some ⟨g,0,none⟩)] w fun e w'=>∃ v1_:Value,e = .returned (.agg #[.int .i64 r1,v1_])∧Kd.R (Kd.int .i64) 2 w' w.heap.size (fun _=>True) v1_ r2∧IsS92 w0 w' g s0_0 r3 r4∧Below w0.heap.size w0 w'∧KeepBut w w' g none:=by
 have hu26:=Tryz.underlying26;have HI0:=Aside0.mk hI;have HK:=Aside0.mk (KeepBut.refl w g none);have HL:=Aside0.mk hB.size;clear hI;have HW0:=Aside0.mk hB.size;have HB:=Aside0.mk hB;clear hB;have H:((spec_l01Draw.f k s0_0 s0_1 s0_2).bind fun bt182=>((spec_l01Bad.f s0_0 bt182.2.2.1 bt182.2.2.2 bt182.1 bt182.2.1).bind fun bt188=>(some (bt188.1,bt188.2.1,bt188.2.2.1,bt188.2.2.2))))=some (r1,r2,r3,r4):=h;clear h;replace H:=Option.bind_eq_some_iff.mp H;obtain ⟨⟨t182,t183,t186,t187⟩,A20,H⟩:=H;replace H:((spec_l01Bad.f s0_0 t186 t187 t182 t183).bind fun bt188=>(some (bt188.1,bt188.2.1,bt188.2.2.1,bt188.2.2.2)))=some (r1,r2,r3,r4):=H;have A2:=Aside0.mk A20;clear A20;replace H:=Option.bind_eq_some_iff.mp H;obtain ⟨⟨t188,t189,t192,t193⟩,A30,H⟩:=H;replace H:(some (t188,t189,t192,t193))=some (r1,r2,r3,r4):=H;have A3:=Aside0.mk A30;clear A30;simp only [Option.some.injEq,Prod.mk.injEq] at H;obtain ⟨rfl,rfl,rfl,rfl⟩:=H;go_enter Tryz.func68,Tryz.ntmps68;go_wp2_with (first|((with_reducible refine gate_dst (N:=2) rfl ?_);refine bx 2 #[.int .i64 0,.slice none 0 0] 26 ?_;intro gb181 hg w4 hbox hb;replace HB:=Aside0.mk (below_step (blg HB.out (IsS92.ge HI0.out)) hb);have BK181:=Aside0.mk (hbox);have GW181:=Aside0.mk ((by rw[hg];exact(keep_size (w:=w) (g:=g) (row:=none) (kp HK.out)):w.heap.size≤gb181));have GE181:=Aside0.mk ((Nat.le_trans HW0.out (by rw[hg];exact(keep_size (w:=w) (g:=g) (row:=none) (kp HK.out)):w.heap.size≤gb181):w0.heap.size≤gb181));replace HK:=Aside0.mk (KeepBut.trans (kp HK.out) (KeepBut.of_below hb g none) (.inl rfl));have NB0_181:=Aside0.mk ((by rw[hg];exact Nat.ne_of_lt (IsS92.lt (show IsS92 w0 _ g s0_0 s0_1 s0_2 from IsS92.ch HI0.out)):g≠gb181));have NB181_0:=Aside0.mk ((by rw[hg];exact Nat.ne_of_gt (IsS92.lt (show IsS92 w0 _ g s0_0 s0_1 s0_2 from IsS92.ch HI0.out)):gb181≠g));replace HI0:=Aside0.mk (IsS92.below (IsS92.ch HI0.out) hb);clear hb hbox hg)|((with_reducible refine gate_callee (f:=75) rfl ?_);refine gl (some 5) Tryz.func75 #[.pointer (some ⟨g,0,none⟩)] ?_;(with_reducible refine(spec_l01Draw.calls k g s0_0 s0_1 s0_2 t182 t183 t186 t187 w0 _ (IsS92.ch HI0.out) (blg HB.out (IsS92.ge HI0.out)) A2.out).mono ?_);rintro e w5 ⟨v184,rfl,ho0,hi,hb,hk⟩;refine⟨_,rfl,?_⟩;replace BK181:=Aside0.mk (kbk hk (bk BK181.out) NB181_0.out);have HO185:=Aside0.mk (Kd.R_lower ho0 (keep_size (w:=w) (g:=g) (row:=none) (kp HK.out)));replace HK:=Aside0.mk (KeepBut.trans (kp HK.out) hk (.inl rfl));replace HB:=Aside0.mk (hb);replace HI0:=Aside0.mk (hi);(try clear hb);(try clear hb2);(try clear hk);(try clear hi);(try clear ho0);obtain ⟨Ao6,co6,eo6⟩:=Kd.R_slice HO185.out;subst eo6)|((with_reducible refine gate_callee (f:=69) rfl ?_);refine gl (some 6) Tryz.func69 #[.pointer (some ⟨g,0,none⟩),.agg #[.int .i64 t182,.slice Ao6 t183.length co6]] ?_;(with_reducible refine(spec_l01Bad.calls g s0_0 t186 t187 t182 (fun k_=>some k_=(.slice Ao6 t183.length co6:Value).ownBlock) (.slice Ao6 t183.length co6) t183 t188 t189 t192 t193 w0 _ (IsS92.ch HI0.out) (blg HB.out (IsS92.ge HI0.out)) (Kd.R_lower (Kd.R_tight rfl HO185.out) HL.out) A3.out).mono ?_);rintro e w7 ⟨v190,rfl,ho0,hi,hb,hkp⟩;refine⟨_,rfl,?_⟩;have n0_:=Aside0.mk (hi);have n1_:=Aside0.mk (blk_kept (bk BK181.out) hkp (fun hs_=>Or.elim hs_ (fun hs_=>(fun e_=>(Kd.R_ne HO185.out BK181.out (by decide)) e_) hs_) (fun e_=>NB181_0.out e_)));have n2_:=Aside0.mk (Kd.R_mono (ok':=fun k_=>True) (Kd.R_raise (d:=(Kd.int .i64)) (b:=w0.heap.size) (b':=w.heap.size) (fun _ _ _ _ h_=>h_) ho0 (fun k_ e_=>Or.elim (ho0.1 k_ e_) (fun hs_=>(fun e_=>Kd.R_base HO185.out k_ e_.symm) hs_) (fun hn_=>Nat.le_trans (keep_size (w:=w) (g:=g) (row:=none) (kp HK.out)) hn_))) (fun k_ hk_=>trivial));have n3_:=Aside0.mk (Kept.keepG (kp HK.out) hkp (fun k_ hs_=>Or.elim hs_ (fun hs_=>(fun e_=> .inr (Kd.R_base HO185.out k_ e_.symm)) hs_) (fun e_=> .inl e_)));have n4_:=Aside0.mk (hb);clear HI0;clear BK181;clear HK;clear HB;clear HO185;have HI0:=n0_;have BK181:=n1_;have HO191:=n2_;have HK:=n3_;have HB:=n4_;clear n0_ n1_ n2_ n3_ n4_;(try clear hb);(try clear hkp);(try clear ho0);have hnb8:=NB181_0.out;have hnc8:=NB0_181.out;have hcz9_0:=z0_ BK181;have hcz9_1:=z1_ BK181;have hfz9_0:=hf_ BK181 0;have hfz9_1:=hf_ BK181 1;obtain ⟨Ao10,co10,eo10⟩:=Kd.R_slice HO191.out;subst eo10))
 refine bodyPost_ret (results_cell_row rfl _ _ gb181 26 #[.int .i64 t188,.slice Ao10 t189.length co10] (0,0) _ rfl (bp BK181.out) Tryz.underlying26 rfl (by kernel_rfl)) rfl ?_;exact⟨_,rr,by(with_reducible repeat(first|apply Kd.R_alloc|apply Kd.R_drewN|apply Kd.R_drew));exact Kd.R_mono (Kd.R_far (p:=⟨gb181,1,none⟩) (Kd.R_far (p:=⟨gb181,0,none⟩) (Kd.R_types HO191.out BK181.out (by decide)) (fun _ hk=>hk.2) (.int .i64 t188)) (fun _ hk=>hk.2) (.slice Ao10 t189.length co10)) (fun _ hk=>trivial),IsS92.ch HI0.out,blg HB.out (IsS92.ge HI0.out),kp HK.out⟩
def spec_DrawConeOf.f (k:Nat) (l0:List Int):Option (Int×List Int):=(spec_l01From.f k l0).bind fun bt195=>((spec_l01Next.f bt195.1 bt195.2.1 bt195.2.2 8).bind fun bt199=>(if bt199.1=0 then ((spec_l01Spoil.f k bt195.1 bt199.2.1 bt199.2.2).bind fun bt202=>(some (bt202.1,bt202.2.1))) else ((spec_l01Next.f bt195.1 bt199.2.1 bt199.2.2 5).bind fun bt208=>((spec_l01DrawOf.f k bt195.1 bt208.2.1 bt208.2.2 (wrap64 (1+bt208.1))).bind fun bt211=>((spec_l01Bad.f bt195.1 bt211.2.2.1 bt211.2.2.2 bt211.1 bt211.2.1).bind fun bt217=>(some (bt217.1,bt217.2.1)))))))
theorem spec_DrawConeOf.mono:∀ a0 k,LeO (spec_DrawConeOf.f k a0) (spec_DrawConeOf.f (k+1) a0):=by
 intro a0 k;unfold spec_DrawConeOf.f;repeat' first
   |(with_reducible first|exact spec_l01DrawOf.mono _ _ _ _ _|exact spec_l01From.mono _ _|exact spec_l01Spoil.mono _ _ _ _|exact LeO.refl _|exact LeO.none _|refine LeO.ite ?_ ?_|refine LeO.bind ?_ (fun _=>?_))
set_option maxHeartbeats 8000000 in
set_option maxRecDepth 100000 in
theorem spec_DrawConeOf.calls (k:Nat) (A0:Option Addr) (c0:Nat) (l0:List Int) (r1:Int) (r2:List Int) (w:World) (hr0:Kd.C (Kd.int .u8) w A0 l0.length l0) (hc0:l0.length≤c0) (h:spec_DrawConeOf.f k l0=some (r1,r2)) :
  Calls Tryz.prog 15 #[.slice A0 l0.length c0] w fun e w'=>∃ v1_:Value,e = .returned (.agg #[.int .i64 r1,v1_])∧Kd.R (Kd.int .i64) 2 w' w.heap.size (fun _=>True) v1_ r2∧Below w.heap.size w w':=by
 have hu26:=Tryz.underlying26;have HR0:=Aside0.mk hr0;have HC0:=Aside0.mk hc0;clear hr0 hc0;have HB:=Aside0.mk (Below.refl w.heap.size w);have H:((spec_l01From.f k l0).bind fun bt195=>((spec_l01Next.f bt195.1 bt195.2.1 bt195.2.2 8).bind fun bt199=>(if bt199.1=0 then ((spec_l01Spoil.f k bt195.1 bt199.2.1 bt199.2.2).bind fun bt202=>(some (bt202.1,bt202.2.1))) else ((spec_l01Next.f bt195.1 bt199.2.1 bt199.2.2 5).bind fun bt208=>((spec_l01DrawOf.f k bt195.1 bt208.2.1 bt208.2.2 (wrap64 (1+bt208.1))).bind fun bt211=>((spec_l01Bad.f bt195.1 bt211.2.2.1 bt211.2.2.2 bt211.1 bt211.2.1).bind fun bt217=>(some (bt217.1,bt217.2.1))))))))=some (r1,r2):=h;clear h;replace H:=Option.bind_eq_some_iff.mp H;obtain ⟨⟨t195,t196,t197⟩,A20,H⟩:=H;replace H:((spec_l01Next.f t195 t196 t197 8).bind fun bt199=>(if bt199.1=0 then ((spec_l01Spoil.f k t195 bt199.2.1 bt199.2.2).bind fun bt202=>(some (bt202.1,bt202.2.1))) else ((spec_l01Next.f t195 bt199.2.1 bt199.2.2 5).bind fun bt208=>((spec_l01DrawOf.f k t195 bt208.2.1 bt208.2.2 (wrap64 (1+bt208.1))).bind fun bt211=>((spec_l01Bad.f t195 bt211.2.2.1 bt211.2.2.2 bt211.1 bt211.2.1).bind fun bt217=>(some (bt217.1,bt217.2.1)))))))=some (r1,r2):=H;have A2:=Aside0.mk A20;clear A20;replace H:=Option.bind_eq_some_iff.mp H;obtain ⟨⟨t199,t200,t201⟩,A30,H⟩:=H;replace H:(if t199=0 then ((spec_l01Spoil.f k t195 t200 t201).bind fun bt202=>(some (bt202.1,bt202.2.1))) else ((spec_l01Next.f t195 t200 t201 5).bind fun bt208=>((spec_l01DrawOf.f k t195 bt208.2.1 bt208.2.2 (wrap64 (1+bt208.1))).bind fun bt211=>((spec_l01Bad.f t195 bt211.2.2.1 bt211.2.2.2 bt211.1 bt211.2.1).bind fun bt217=>(some (bt217.1,bt217.2.1))))))=some (r1,r2):=H;have A3:=Aside0.mk A30;clear A30;by_cases c4:t199=0
 ·rw[if_pos c4] at H;have c4b0:(t199 == 0)=true:=beq_iff_eq.mpr c4;have c4b1:(t199 != 0)=false:=bne_eq_false_iff_eq.mpr c4;clear c4;replace H:=Option.bind_eq_some_iff.mp H;obtain ⟨⟨t202,t203,t206,t207⟩,A50,H⟩:=H;replace H:(some (t202,t203))=some (r1,r2):=H;have A5:=Aside0.mk A50;clear A50;simp only [Option.some.injEq,Prod.mk.injEq] at H;obtain ⟨rfl,rfl⟩:=H;go_enter Tryz.func15,Tryz.ntmps15;go_wp2_with (first|((with_reducible refine gate_dst (N:=2) rfl ?_);refine bx 2 #[.int .i64 0,.slice none 0 0] 26 ?_;intro gb194 hg w6 hbox hb;have BK194:=Aside0.mk (hbox);have GE194:=gzA hg HB;replace HB:=bsA HB hb;clear hb hbox hg)|((with_reducible refine gate_callee (f:=66) rfl ?_);refine gl (some 5) Tryz.func66 #[.slice A0 l0.length c0] ?_;(with_reducible refine(spec_l01From.calls k _ _ l0 t195 t196 t197 w _ (bl HB.out) HR0.out HC0.out A2.out).mono ?_);rintro e w7 ⟨g198,rfl,hi,hb,hb2⟩;refine⟨_,rfl,?_⟩;replace HB:=Aside0.mk (hb);have HI198:=Aside0.mk (hi);have NB198_194:=Aside0.mk (IsS92.ne_blk hi (blk_below (bk BK194.out) hb2) (by decide));have NB194_198:=Aside0.mk (Ne.symm (IsS92.ne_blk hi (blk_below (bk BK194.out) hb2) (by decide)));replace BK194:=bkA BK194 hb2;(try clear hb);(try clear hb2);(try clear hk);(try clear hi))|((with_reducible refine gate_callee (f:=67) rfl ?_);refine gl (some 7) Tryz.func67 #[.pointer (some ⟨g198,0,none⟩),.int .i64 8] ?_;(with_reducible refine(spec_l01Next.calls g198 t195 t196 t197 8 t199 t200 t201 w _ (IsS92.ch HI198.out) (blg HB.out (IsS92.ge HI198.out)) A3.out).mono ?_);rintro e w8 ⟨rfl,hi,hb,hk⟩;refine⟨_,rfl,?_⟩;replace BK194:=Aside0.mk (kbk hk (bk BK194.out) NB194_198.out);replace HB:=Aside0.mk (hb);replace HI198:=Aside0.mk (hi);(try clear hb);(try clear hb2);(try clear hk);(try clear hi))|((with_reducible refine gate_callee (f:=68) rfl ?_);refine gl (some 10) Tryz.func68 #[.pointer (some ⟨g198,0,none⟩)] ?_;(with_reducible refine(spec_l01Spoil.calls k g198 t195 t200 t201 t202 t203 t206 t207 w _ (IsS92.ch HI198.out) (blg HB.out (IsS92.ge HI198.out)) A5.out).mono ?_);rintro e w9 ⟨v204,rfl,ho0,hi,hb,hk⟩;refine⟨_,rfl,?_⟩;replace BK194:=Aside0.mk (kbk hk (bk BK194.out) NB194_198.out);have HO205:=Aside0.mk (Kd.R_lower ho0 (below_size (blg HB.out (IsS92.ge HI198.out))));replace HB:=Aside0.mk (hb);replace HI198:=Aside0.mk (hi);(try clear hb);(try clear hb2);(try clear hk);(try clear hi);(try clear ho0);have hnb10:=NB194_198.out;have hnc10:=NB198_194.out;have hcz11_0:=z0_ BK194;have hcz11_1:=z1_ BK194;have hfz11_0:=hf_ BK194 0;have hfz11_1:=hf_ BK194 1;obtain ⟨Ao12,co12,eo12⟩:=Kd.R_slice HO205.out;subst eo12))
  refine bodyPost_ret (results_cell_row rfl _ _ gb194 26 #[.int .i64 t202,.slice Ao12 t203.length co12] (0,0) _ rfl (bp BK194.out) Tryz.underlying26 rfl (by kernel_rfl)) rfl ?_;exact⟨_,rr,by(with_reducible repeat(first|apply Kd.R_alloc|apply Kd.R_drewN|apply Kd.R_drew));exact Kd.R_mono (Kd.R_far (p:=⟨gb194,1,none⟩) (Kd.R_far (p:=⟨gb194,0,none⟩) (Kd.R_types HO205.out BK194.out (by decide)) (fun _ hk=>hk.2) (.int .i64 t202)) (fun _ hk=>hk.2) (.slice Ao12 t203.length co12)) (fun _ hk=>trivial),blg HB.out (IsS92.ge HI198.out)⟩
 ·rw[if_neg c4] at H;have c4b0:(t199 == 0)=false:=beq_eq_false_iff_ne.mpr c4;have c4b1:(t199 != 0)=true:=bne_iff_ne.mpr c4;replace H:=Option.bind_eq_some_iff.mp H;obtain ⟨⟨t208,t209,t210⟩,A130,H⟩:=H;replace H:((spec_l01DrawOf.f k t195 t209 t210 (wrap64 (1+t208))).bind fun bt211=>((spec_l01Bad.f t195 bt211.2.2.1 bt211.2.2.2 bt211.1 bt211.2.1).bind fun bt217=>(some (bt217.1,bt217.2.1))))=some (r1,r2):=H;have A13:=Aside0.mk A130;clear A130;replace H:=Option.bind_eq_some_iff.mp H;obtain ⟨⟨t211,t212,t215,t216⟩,A140,H⟩:=H;replace H:((spec_l01Bad.f t195 t215 t216 t211 t212).bind fun bt217=>(some (bt217.1,bt217.2.1)))=some (r1,r2):=H;have A14:=Aside0.mk A140;clear A140;replace H:=Option.bind_eq_some_iff.mp H;obtain ⟨⟨t217,t218,t221,t222⟩,A150,H⟩:=H;replace H:(some (t217,t218))=some (r1,r2):=H;have A15:=Aside0.mk A150;clear A150;simp only [Option.some.injEq,Prod.mk.injEq] at H;obtain ⟨rfl,rfl⟩:=H;go_enter Tryz.func15,Tryz.ntmps15;go_wp2_with (first|((with_reducible refine gate_dst (N:=2) rfl ?_);refine bx 2 #[.int .i64 0,.slice none 0 0] 26 ?_;intro gb194 hg w16 hbox hb;have BK194:=Aside0.mk (hbox);have GE194:=gzA hg HB;replace HB:=bsA HB hb;clear hb hbox hg)|((with_reducible refine gate_callee (f:=66) rfl ?_);refine gl (some 5) Tryz.func66 #[.slice A0 l0.length c0] ?_;(with_reducible refine(spec_l01From.calls k _ _ l0 t195 t196 t197 w _ (bl HB.out) HR0.out HC0.out A2.out).mono ?_);rintro e w17 ⟨g198,rfl,hi,hb,hb2⟩;refine⟨_,rfl,?_⟩;replace HB:=Aside0.mk (hb);have HI198:=Aside0.mk (hi);have NB198_194:=Aside0.mk (IsS92.ne_blk hi (blk_below (bk BK194.out) hb2) (by decide));have NB194_198:=Aside0.mk (Ne.symm (IsS92.ne_blk hi (blk_below (bk BK194.out) hb2) (by decide)));replace BK194:=bkA BK194 hb2;(try clear hb);(try clear hb2);(try clear hk);(try clear hi))|((with_reducible refine gate_callee (f:=67) rfl ?_);refine gl (some 7) Tryz.func67 #[.pointer (some ⟨g198,0,none⟩),.int .i64 8] ?_;(with_reducible refine(spec_l01Next.calls g198 t195 t196 t197 8 t199 t200 t201 w _ (IsS92.ch HI198.out) (blg HB.out (IsS92.ge HI198.out)) A3.out).mono ?_);rintro e w18 ⟨rfl,hi,hb,hk⟩;refine⟨_,rfl,?_⟩;replace BK194:=Aside0.mk (kbk hk (bk BK194.out) NB194_198.out);replace HB:=Aside0.mk (hb);replace HI198:=Aside0.mk (hi);(try clear hb);(try clear hb2);(try clear hk);(try clear hi))|((with_reducible refine gate_callee (f:=67) rfl ?_);refine gl (some 14) Tryz.func67 #[.pointer (some ⟨g198,0,none⟩),.int .i64 5] ?_;(with_reducible refine(spec_l01Next.calls g198 t195 t200 t201 5 t208 t209 t210 w _ (IsS92.ch HI198.out) (blg HB.out (IsS92.ge HI198.out)) A13.out).mono ?_);rintro e w19 ⟨rfl,hi,hb,hk⟩;refine⟨_,rfl,?_⟩;replace BK194:=Aside0.mk (kbk hk (bk BK194.out) NB194_198.out);replace HB:=Aside0.mk (hb);replace HI198:=Aside0.mk (hi);(try clear hb);(try clear hb2);(try clear hk);(try clear hi))|((with_reducible refine gate_callee (f:=70) rfl ?_);refine gl (some 16) Tryz.func70 #[.pointer (some ⟨g198,0,none⟩),.int .i64 (wrap64 (1+t208))] ?_;(with_reducible refine(spec_l01DrawOf.calls k g198 t195 t209 t210 (wrap64 (1+t208)) t211 t212 t215 t216 w _ (IsS92.ch HI198.out) (blg HB.out (IsS92.ge HI198.out)) A14.out).mono ?_);rintro e w20 ⟨v213,rfl,ho0,hi,hb,hk⟩;refine⟨_,rfl,?_⟩;replace BK194:=Aside0.mk (kbk hk (bk BK194.out) NB194_198.out);have HO214:=Aside0.mk (Kd.R_lower ho0 (below_size (blg HB.out (IsS92.ge HI198.out))));replace HB:=Aside0.mk (hb);replace HI198:=Aside0.mk (hi);(try clear hb);(try clear hb2);(try clear hk);(try clear hi);(try clear ho0);obtain ⟨Ao21,co21,eo21⟩:=Kd.R_slice HO214.out;subst eo21)|((with_reducible refine gate_callee (f:=69) rfl ?_);refine gl (some 17) Tryz.func69 #[.pointer (some ⟨g198,0,none⟩),.agg #[.int .i64 t211,.slice Ao21 t212.length co21]] ?_;(with_reducible refine(spec_l01Bad.calls g198 t195 t215 t216 t211 (fun k_=>some k_=(.slice Ao21 t212.length co21:Value).ownBlock) (.slice Ao21 t212.length co21) t212 t217 t218 t221 t222 w _ (IsS92.ch HI198.out) (blg HB.out (IsS92.ge HI198.out)) (Kd.R_tight rfl HO214.out) A15.out).mono ?_);rintro e w22 ⟨v219,rfl,ho0,hi,hb,hkp⟩;refine⟨_,rfl,?_⟩;have n0_:=Aside0.mk (blk_kept (bk BK194.out) hkp (fun hs_=>Or.elim hs_ (fun hs_=>(fun e_=>(Kd.R_ne HO214.out BK194.out (by decide)) e_) hs_) (fun e_=>NB194_198.out e_)));have n1_:=Aside0.mk (hi);have n2_:=Aside0.mk (Kd.R_mono (ok':=fun k_=>True) ho0 (fun k_ hk_=>trivial));have n3_:=Aside0.mk (hb);clear BK194;clear HI198;clear HB;clear HO214;have BK194:=n0_;have HI198:=n1_;have HO220:=n2_;have HB:=n3_;clear n0_ n1_ n2_ n3_;(try clear hb);(try clear hkp);(try clear ho0);have hnb23:=NB194_198.out;have hnc23:=NB198_194.out;have hcz24_0:=z0_ BK194;have hcz24_1:=z1_ BK194;have hfz24_0:=hf_ BK194 0;have hfz24_1:=hf_ BK194 1;obtain ⟨Ao25,co25,eo25⟩:=Kd.R_slice HO220.out;subst eo25))
  refine bodyPost_ret (results_cell_row rfl _ _ gb194 26 #[.int .i64 t217,.slice Ao25 t218.length co25] (0,0) _ rfl (bp BK194.out) Tryz.underlying26 rfl (by kernel_rfl)) rfl ?_;exact⟨_,rr,by(with_reducible repeat(first|apply Kd.R_alloc|apply Kd.R_drewN|apply Kd.R_drew));exact Kd.R_mono (Kd.R_far (p:=⟨gb194,1,none⟩) (Kd.R_far (p:=⟨gb194,0,none⟩) (Kd.R_types HO220.out BK194.out (by decide)) (fun _ hk=>hk.2) (.int .i64 t217)) (fun _ hk=>hk.2) (.slice Ao25 t218.length co25)) (fun _ hk=>trivial),blg HB.out (IsS92.ge HI198.out)⟩
end Go.Proofs.YtlhkdbkjafiikaaGreat.R
end

section
namespace Go.Proofs.YtlhkdbkjafiikaaGreat.R
open Go.RowKit Go.Proofs.YtlhkdbkjafiikaaGreat.Q Go.Proofs.YtlhkdbkjafiikaaGreat.X Go.Proofs.YtlhkdbkjafiikaaGreatW.PrintWords Go.Proofs.YtlhkdbkjafiikaaGreatW.PrintLast Go.Proofs.YtlhkdbkjafiikaaGreatW.PrintMore
attribute [local go_sem] max2_int min2_int max_two min_two max_three min_three max_four min_four
set_option linter.unusedVariables false
set_option linter.unusedSimpArgs false
def spec_DrawJoinOf.f (k:Nat) (l0:List Int):Option (Int×List Int×Int×List Int):=(spec_l01From.f k l0).bind fun bt225=>((spec_l01Next.f bt225.1 bt225.2.1 bt225.2.2 3).bind fun bt229=>((spec_l01DrawOf.f k bt225.1 bt229.2.1 bt229.2.2 (wrap64 (1+bt229.1))).bind fun bt232=>((spec_l01Next.f bt225.1 bt232.2.2.1 bt232.2.2.2 3).bind fun bt238=>((spec_l01DrawOf.f k bt225.1 bt238.2.1 bt238.2.2 (wrap64 (1+bt238.1))).bind fun bt241=>((spec_l01Next.f bt225.1 bt241.2.2.1 bt241.2.2.2 10).bind fun bt249=>(if bt249.1=0 then ((spec_l01Draw.f k bt225.1 bt249.2.1 bt249.2.2).bind fun bt252=>((spec_l01Bad.f bt225.1 bt252.2.2.1 bt252.2.2.2 bt232.1 bt232.2.1).bind fun bt258=>((spec_l01Bad.f bt225.1 bt258.2.2.1 bt258.2.2.2 bt252.1 bt252.2.1).bind fun bt264=>(some (bt258.1,bt258.2.1,bt264.1,bt264.2.1))))) else ((spec_l01Bad.f bt225.1 bt249.2.1 bt249.2.2 bt232.1 bt232.2.1).bind fun bt270=>((spec_l01Bad.f bt225.1 bt270.2.2.1 bt270.2.2.2 bt241.1 bt241.2.1).bind fun bt276=>(some (bt270.1,bt270.2.1,bt276.1,bt276.2.1))))))))))
theorem spec_DrawJoinOf.mono:∀ a0 k,LeO (spec_DrawJoinOf.f k a0) (spec_DrawJoinOf.f (k+1) a0):=by
 intro a0 k;unfold spec_DrawJoinOf.f;repeat' first
   |(with_reducible first|exact spec_l01Draw.mono _ _ _ _|exact spec_l01DrawOf.mono _ _ _ _ _|exact spec_l01From.mono _ _|exact LeO.refl _|exact LeO.none _|refine LeO.ite ?_ ?_|refine LeO.bind ?_ (fun _=>?_))
def spec_DrawJoinOf.T5:Bool×List (List Nat×List Nat):=(true,[([],[]),([],[]),([0,1],[0,1]),([],[]),([],[]),([3,4,2],[3,4]),([2,5,0,1,2],[2]),([5,6,0,1,2,3,4,5,6],[5])])
def spec_DrawJoinOf.B5:List Nat:= [0,0,3,0,0,31,63,127]
theorem spec_DrawJoinOf.tab5:rtab .any (opsOf Tryz.f19 5)=spec_DrawJoinOf.T5:=by kernel_rfl
theorem spec_DrawJoinOf.bits5:waitsOk spec_DrawJoinOf.T5.2 spec_DrawJoinOf.B5=true:=by kernel_rfl
set_option maxHeartbeats 8000000 in
set_option maxRecDepth 100000 in
theorem spec_DrawJoinOf.calls (k:Nat) (A0:Option Addr) (c0:Nat) (l0:List Int) (r1:Int) (r2:List Int) (r3:Int) (r4:List Int) (w:World) (hr0:Kd.C (Kd.int .u8) w A0 l0.length l0) (hc0:l0.length≤c0) (h:spec_DrawJoinOf.f k l0=some (r1,r2,r3,r4)) :
  Calls Tryz.prog 19 #[.slice A0 l0.length c0] w fun e w'=>∃ v1_ v3_:Value,e = .returned (.tuple #[.agg #[.int .i64 r1,v1_],.agg #[.int .i64 r3,v3_]])∧Kd.R (Kd.int .i64) 2 w' w.heap.size (fun k_=>some k_≠(v3_:Value).ownBlock) v1_ r2∧Kd.R (Kd.int .i64) 2 w' w.heap.size (fun k_=>some k_≠(v1_:Value).ownBlock) v3_ r4∧Below w.heap.size w w':=by
 have hu26:=Tryz.underlying26;have HR0:=Aside0.mk hr0;have HC0:=Aside0.mk hc0;clear hr0 hc0;have HB:=Aside0.mk (Below.refl w.heap.size w);have H:((spec_l01From.f k l0).bind fun bt225=>((spec_l01Next.f bt225.1 bt225.2.1 bt225.2.2 3).bind fun bt229=>((spec_l01DrawOf.f k bt225.1 bt229.2.1 bt229.2.2 (wrap64 (1+bt229.1))).bind fun bt232=>((spec_l01Next.f bt225.1 bt232.2.2.1 bt232.2.2.2 3).bind fun bt238=>((spec_l01DrawOf.f k bt225.1 bt238.2.1 bt238.2.2 (wrap64 (1+bt238.1))).bind fun bt241=>((spec_l01Next.f bt225.1 bt241.2.2.1 bt241.2.2.2 10).bind fun bt249=>(if bt249.1=0 then ((spec_l01Draw.f k bt225.1 bt249.2.1 bt249.2.2).bind fun bt252=>((spec_l01Bad.f bt225.1 bt252.2.2.1 bt252.2.2.2 bt232.1 bt232.2.1).bind fun bt258=>((spec_l01Bad.f bt225.1 bt258.2.2.1 bt258.2.2.2 bt252.1 bt252.2.1).bind fun bt264=>(some (bt258.1,bt258.2.1,bt264.1,bt264.2.1))))) else ((spec_l01Bad.f bt225.1 bt249.2.1 bt249.2.2 bt232.1 bt232.2.1).bind fun bt270=>((spec_l01Bad.f bt225.1 bt270.2.2.1 bt270.2.2.2 bt241.1 bt241.2.1).bind fun bt276=>(some (bt270.1,bt270.2.1,bt276.1,bt276.2.1)))))))))))=some (r1,r2,r3,r4):=h;clear h;replace H:=Option.bind_eq_some_iff.mp H;obtain ⟨⟨t225,t226,t227⟩,A20,H⟩:=H;replace H:((spec_l01Next.f t225 t226 t227 3).bind fun bt229=>((spec_l01DrawOf.f k t225 bt229.2.1 bt229.2.2 (wrap64 (1+bt229.1))).bind fun bt232=>((spec_l01Next.f t225 bt232.2.2.1 bt232.2.2.2 3).bind fun bt238=>((spec_l01DrawOf.f k t225 bt238.2.1 bt238.2.2 (wrap64 (1+bt238.1))).bind fun bt241=>((spec_l01Next.f t225 bt241.2.2.1 bt241.2.2.2 10).bind fun bt249=>(if bt249.1=0 then ((spec_l01Draw.f k t225 bt249.2.1 bt249.2.2).bind fun bt252=>((spec_l01Bad.f t225 bt252.2.2.1 bt252.2.2.2 bt232.1 bt232.2.1).bind fun bt258=>((spec_l01Bad.f t225 bt258.2.2.1 bt258.2.2.2 bt252.1 bt252.2.1).bind fun bt264=>(some (bt258.1,bt258.2.1,bt264.1,bt264.2.1))))) else ((spec_l01Bad.f t225 bt249.2.1 bt249.2.2 bt232.1 bt232.2.1).bind fun bt270=>((spec_l01Bad.f t225 bt270.2.2.1 bt270.2.2.2 bt241.1 bt241.2.1).bind fun bt276=>(some (bt270.1,bt270.2.1,bt276.1,bt276.2.1))))))))))=some (r1,r2,r3,r4):=H;have A2:=Aside0.mk A20;clear A20;replace H:=Option.bind_eq_some_iff.mp H;obtain ⟨⟨t229,t230,t231⟩,A30,H⟩:=H;replace H:((spec_l01DrawOf.f k t225 t230 t231 (wrap64 (1+t229))).bind fun bt232=>((spec_l01Next.f t225 bt232.2.2.1 bt232.2.2.2 3).bind fun bt238=>((spec_l01DrawOf.f k t225 bt238.2.1 bt238.2.2 (wrap64 (1+bt238.1))).bind fun bt241=>((spec_l01Next.f t225 bt241.2.2.1 bt241.2.2.2 10).bind fun bt249=>(if bt249.1=0 then ((spec_l01Draw.f k t225 bt249.2.1 bt249.2.2).bind fun bt252=>((spec_l01Bad.f t225 bt252.2.2.1 bt252.2.2.2 bt232.1 bt232.2.1).bind fun bt258=>((spec_l01Bad.f t225 bt258.2.2.1 bt258.2.2.2 bt252.1 bt252.2.1).bind fun bt264=>(some (bt258.1,bt258.2.1,bt264.1,bt264.2.1))))) else ((spec_l01Bad.f t225 bt249.2.1 bt249.2.2 bt232.1 bt232.2.1).bind fun bt270=>((spec_l01Bad.f t225 bt270.2.2.1 bt270.2.2.2 bt241.1 bt241.2.1).bind fun bt276=>(some (bt270.1,bt270.2.1,bt276.1,bt276.2.1)))))))))=some (r1,r2,r3,r4):=H;have A3:=Aside0.mk A30;clear A30;replace H:=Option.bind_eq_some_iff.mp H;obtain ⟨⟨t232,t233,t236,t237⟩,A40,H⟩:=H;replace H:((spec_l01Next.f t225 t236 t237 3).bind fun bt238=>((spec_l01DrawOf.f k t225 bt238.2.1 bt238.2.2 (wrap64 (1+bt238.1))).bind fun bt241=>((spec_l01Next.f t225 bt241.2.2.1 bt241.2.2.2 10).bind fun bt249=>(if bt249.1=0 then ((spec_l01Draw.f k t225 bt249.2.1 bt249.2.2).bind fun bt252=>((spec_l01Bad.f t225 bt252.2.2.1 bt252.2.2.2 t232 t233).bind fun bt258=>((spec_l01Bad.f t225 bt258.2.2.1 bt258.2.2.2 bt252.1 bt252.2.1).bind fun bt264=>(some (bt258.1,bt258.2.1,bt264.1,bt264.2.1))))) else ((spec_l01Bad.f t225 bt249.2.1 bt249.2.2 t232 t233).bind fun bt270=>((spec_l01Bad.f t225 bt270.2.2.1 bt270.2.2.2 bt241.1 bt241.2.1).bind fun bt276=>(some (bt270.1,bt270.2.1,bt276.1,bt276.2.1))))))))=some (r1,r2,r3,r4):=H;have A4:=Aside0.mk A40;clear A40;replace H:=Option.bind_eq_some_iff.mp H;obtain ⟨⟨t238,t239,t240⟩,A50,H⟩:=H;replace H:((spec_l01DrawOf.f k t225 t239 t240 (wrap64 (1+t238))).bind fun bt241=>((spec_l01Next.f t225 bt241.2.2.1 bt241.2.2.2 10).bind fun bt249=>(if bt249.1=0 then ((spec_l01Draw.f k t225 bt249.2.1 bt249.2.2).bind fun bt252=>((spec_l01Bad.f t225 bt252.2.2.1 bt252.2.2.2 t232 t233).bind fun bt258=>((spec_l01Bad.f t225 bt258.2.2.1 bt258.2.2.2 bt252.1 bt252.2.1).bind fun bt264=>(some (bt258.1,bt258.2.1,bt264.1,bt264.2.1))))) else ((spec_l01Bad.f t225 bt249.2.1 bt249.2.2 t232 t233).bind fun bt270=>((spec_l01Bad.f t225 bt270.2.2.1 bt270.2.2.2 bt241.1 bt241.2.1).bind fun bt276=>(some (bt270.1,bt270.2.1,bt276.1,bt276.2.1)))))))=some (r1,r2,r3,r4):=H;have A5:=Aside0.mk A50;clear A50;replace H:=Option.bind_eq_some_iff.mp H;obtain ⟨⟨t241,t242,t245,t246⟩,A60,H⟩:=H;replace H:((spec_l01Next.f t225 t245 t246 10).bind fun bt249=>(if bt249.1=0 then ((spec_l01Draw.f k t225 bt249.2.1 bt249.2.2).bind fun bt252=>((spec_l01Bad.f t225 bt252.2.2.1 bt252.2.2.2 t232 t233).bind fun bt258=>((spec_l01Bad.f t225 bt258.2.2.1 bt258.2.2.2 bt252.1 bt252.2.1).bind fun bt264=>(some (bt258.1,bt258.2.1,bt264.1,bt264.2.1))))) else ((spec_l01Bad.f t225 bt249.2.1 bt249.2.2 t232 t233).bind fun bt270=>((spec_l01Bad.f t225 bt270.2.2.1 bt270.2.2.2 t241 t242).bind fun bt276=>(some (bt270.1,bt270.2.1,bt276.1,bt276.2.1))))))=some (r1,r2,r3,r4):=H;have A6:=Aside0.mk A60;clear A60;replace H:=Option.bind_eq_some_iff.mp H;obtain ⟨⟨t249,t250,t251⟩,A70,H⟩:=H;replace H:(if t249=0 then ((spec_l01Draw.f k t225 t250 t251).bind fun bt252=>((spec_l01Bad.f t225 bt252.2.2.1 bt252.2.2.2 t232 t233).bind fun bt258=>((spec_l01Bad.f t225 bt258.2.2.1 bt258.2.2.2 bt252.1 bt252.2.1).bind fun bt264=>(some (bt258.1,bt258.2.1,bt264.1,bt264.2.1))))) else ((spec_l01Bad.f t225 t250 t251 t232 t233).bind fun bt270=>((spec_l01Bad.f t225 bt270.2.2.1 bt270.2.2.2 t241 t242).bind fun bt276=>(some (bt270.1,bt270.2.1,bt276.1,bt276.2.1)))))=some (r1,r2,r3,r4):=H;have A7:=Aside0.mk A70;clear A70;by_cases c8:t249=0
 ·rw[if_pos c8] at H;have c8b0:(t249 == 0)=true:=beq_iff_eq.mpr c8;have c8b1:(t249 != 0)=false:=bne_eq_false_iff_eq.mpr c8;clear c8;replace H:=Option.bind_eq_some_iff.mp H;obtain ⟨⟨t252,t253,t256,t257⟩,A90,H⟩:=H;replace H:((spec_l01Bad.f t225 t256 t257 t232 t233).bind fun bt258=>((spec_l01Bad.f t225 bt258.2.2.1 bt258.2.2.2 t252 t253).bind fun bt264=>(some (bt258.1,bt258.2.1,bt264.1,bt264.2.1))))=some (r1,r2,r3,r4):=H;have A9:=Aside0.mk A90;clear A90;replace H:=Option.bind_eq_some_iff.mp H;obtain ⟨⟨t258,t259,t262,t263⟩,A100,H⟩:=H;replace H:((spec_l01Bad.f t225 t262 t263 t252 t253).bind fun bt264=>(some (t258,t259,bt264.1,bt264.2.1)))=some (r1,r2,r3,r4):=H;have A10:=Aside0.mk A100;clear A100;replace H:=Option.bind_eq_some_iff.mp H;obtain ⟨⟨t264,t265,t268,t269⟩,A110,H⟩:=H;replace H:(some (t258,t259,t264,t265))=some (r1,r2,r3,r4):=H;have A11:=Aside0.mk A110;clear A110;simp only [Option.some.injEq,Prod.mk.injEq] at H;obtain ⟨rfl,rfl,rfl,rfl⟩:=H;go_enter Tryz.func19,Tryz.ntmps19;try go_wp2_with (first|((with_reducible refine gate_dst (N:=2) rfl ?_);refine bx 2 #[.int .i64 0,.slice none 0 0] 26 ?_;intro gb223 hg w12 hbox hb;have BK223:=Aside0.mk (hbox);have GE223:=gzA hg HB;replace HB:=bsA HB hb;clear hb hbox hg)|((with_reducible refine gate_dst (N:=3) rfl ?_);refine bx 3 #[.int .i64 0,.slice none 0 0] 26 ?_;intro gb224 hg w13 hbox hb;have BK224:=Aside0.mk (hbox);have GE224:=gzA hg HB;replace HB:=bsA HB hb;have NB223_224:=nlA hg BK223;have NB224_223:=ngA hg BK223;replace BK223:=bkA BK223 hb;clear hb hbox hg)|((with_reducible refine gate_callee (f:=66) rfl ?_);refine gl (some 8) Tryz.func66 #[.slice A0 l0.length c0] ?_;(with_reducible refine(spec_l01From.calls k _ _ l0 t225 t226 t227 w _ (bl HB.out) HR0.out HC0.out A2.out).mono ?_);rintro e w14 ⟨g228,rfl,hi,hb,hb2⟩;refine⟨_,rfl,?_⟩;replace HB:=Aside0.mk (hb);have HI228:=Aside0.mk (hi);have NB228_223:=Aside0.mk (IsS92.ne_blk hi (blk_below (bk BK223.out) hb2) (by decide));have NB223_228:=Aside0.mk (Ne.symm (IsS92.ne_blk hi (blk_below (bk BK223.out) hb2) (by decide)));replace BK223:=bkA BK223 hb2;have NB228_224:=Aside0.mk (IsS92.ne_blk hi (blk_below (bk BK224.out) hb2) (by decide));have NB224_228:=Aside0.mk (Ne.symm (IsS92.ne_blk hi (blk_below (bk BK224.out) hb2) (by decide)));replace BK224:=bkA BK224 hb2;(try clear hb);(try clear hb2);(try clear hk);(try clear hi))|((with_reducible refine gate_callee (f:=67) rfl ?_);refine gl (some 11) Tryz.func67 #[.pointer (some ⟨g228,0,none⟩),.int .i64 3] ?_;(with_reducible refine(spec_l01Next.calls g228 t225 t226 t227 3 t229 t230 t231 w _ (IsS92.ch HI228.out) (blg HB.out (IsS92.ge HI228.out)) A3.out).mono ?_);rintro e w15 ⟨rfl,hi,hb,hk⟩;refine⟨_,rfl,?_⟩;replace BK223:=Aside0.mk (kbk hk (bk BK223.out) NB223_228.out);replace BK224:=Aside0.mk (kbk hk (bk BK224.out) NB224_228.out);replace HB:=Aside0.mk (hb);replace HI228:=Aside0.mk (hi);(try clear hb);(try clear hb2);(try clear hk);(try clear hi))|((with_reducible refine gate_callee (f:=70) rfl ?_);refine gl (some 13) Tryz.func70 #[.pointer (some ⟨g228,0,none⟩),.int .i64 (wrap64 (1+t229))] ?_;(with_reducible refine(spec_l01DrawOf.calls k g228 t225 t230 t231 (wrap64 (1+t229)) t232 t233 t236 t237 w _ (IsS92.ch HI228.out) (blg HB.out (IsS92.ge HI228.out)) A4.out).mono ?_);rintro e w16 ⟨v234,rfl,ho0,hi,hb,hk⟩;refine⟨_,rfl,?_⟩;replace BK223:=Aside0.mk (kbk hk (bk BK223.out) NB223_228.out);replace BK224:=Aside0.mk (kbk hk (bk BK224.out) NB224_228.out);have HO235:=Aside0.mk (Kd.R_lower ho0 (below_size (blg HB.out (IsS92.ge HI228.out))));replace HB:=Aside0.mk (hb);replace HI228:=Aside0.mk (hi);(try clear hb);(try clear hb2);(try clear hk);(try clear hi);(try clear ho0))|((with_reducible refine gate_callee (f:=67) rfl ?_);refine gl (some 16) Tryz.func67 #[.pointer (some ⟨g228,0,none⟩),.int .i64 3] ?_;(with_reducible refine(spec_l01Next.calls g228 t225 t236 t237 3 t238 t239 t240 w _ (IsS92.ch HI228.out) (blg HB.out (IsS92.ge HI228.out)) A5.out).mono ?_);rintro e w17 ⟨rfl,hi,hb,hk⟩;refine⟨_,rfl,?_⟩;replace BK223:=Aside0.mk (kbk hk (bk BK223.out) NB223_228.out);replace BK224:=Aside0.mk (kbk hk (bk BK224.out) NB224_228.out);replace HO235:=Aside0.mk (Kd.R_mono (Kd.R_keep (IsS92.apart (show IsS92 w _ g228 t225 t236 t237 from IsS92.ch HI228.out) (kr HO235.out) (by decide)) hk (fun _ h=>h.2)) (fun _ h=>h.1));replace HB:=Aside0.mk (hb);replace HI228:=Aside0.mk (hi);(try clear hb);(try clear hb2);(try clear hk);(try clear hi))|((with_reducible refine gate_callee (f:=70) rfl ?_);refine gl (some 18) Tryz.func70 #[.pointer (some ⟨g228,0,none⟩),.int .i64 (wrap64 (1+t238))] ?_;(with_reducible refine(spec_l01DrawOf.calls k g228 t225 t239 t240 (wrap64 (1+t238)) t241 t242 t245 t246 w _ (IsS92.ch HI228.out) (blg HB.out (IsS92.ge HI228.out)) A6.out).mono ?_);rintro e w18 ⟨v243,rfl,ho0,hi,hb,hk⟩;refine⟨_,rfl,?_⟩;replace BK223:=Aside0.mk (kbk hk (bk BK223.out) NB223_228.out);replace BK224:=Aside0.mk (kbk hk (bk BK224.out) NB224_228.out);have HO244:=Aside0.mk (Kd.R_lower (Kd.R_new' ho0 (Kd.R_lt (kr HO235.out))) (below_size (blg HB.out (IsS92.ge HI228.out))));replace HO235:=Aside0.mk (Kd.R_mono (Kd.R_told (Kd.R_oldK (IsS92.apart (show IsS92 w _ g228 t225 t239 t240 from IsS92.ch HI228.out) (kr HO235.out) (by decide)) hk) (Kd.R_base ho0)) (fun _ h_=>h_.1));replace HB:=Aside0.mk (hb);replace HI228:=Aside0.mk (hi);(try clear hb);(try clear hb2);(try clear hk);(try clear hi);(try clear ho0))|((with_reducible refine gate_dst (N:=5) rfl ?_);refine bx 5 #[.int .i64 0,.slice none 0 0] 26 ?_;intro gb247 hg w19 hbox hb;replace HO235:=krA HO235 hb;replace HO244:=krA HO244 hb;have BK247:=Aside0.mk (hbox);have GW247:=Aside0.mk ((by rw[hg];exact(below_size (blg HB.out (IsS92.ge HI228.out))):w.heap.size≤gb247));have GE247:=Aside0.mk ((by rw[hg];exact(below_size (blg HB.out (IsS92.ge HI228.out))):w.heap.size≤gb247));replace HB:=Aside0.mk (below_step (blg HB.out (IsS92.ge HI228.out)) hb);have NB223_247:=nlA hg BK223;have NB247_223:=ngA hg BK223;replace BK223:=bkA BK223 hb;have NB224_247:=nlA hg BK224;have NB247_224:=ngA hg BK224;replace BK224:=bkA BK224 hb;have NB228_247:=Aside0.mk ((by rw[hg];exact Nat.ne_of_lt (IsS92.lt (show IsS92 w _ g228 t225 t245 t246 from IsS92.ch HI228.out)):g228≠gb247));have NB247_228:=Aside0.mk ((by rw[hg];exact Nat.ne_of_gt (IsS92.lt (show IsS92 w _ g228 t225 t245 t246 from IsS92.ch HI228.out)):gb247≠g228));replace HI228:=Aside0.mk (IsS92.below (IsS92.ch HI228.out) hb);clear hb hbox hg)|((with_reducible refine gate_dst (N:=6) rfl ?_);refine bx 6 #[.int .i64 0,.slice none 0 0] 26 ?_;intro gb248 hg w20 hbox hb;replace HO235:=krA HO235 hb;replace HO244:=krA HO244 hb;have BK248:=Aside0.mk (hbox);have GW248:=Aside0.mk ((by rw[hg];exact(below_size (blg HB.out (IsS92.ge HI228.out))):w.heap.size≤gb248));have GE248:=Aside0.mk ((by rw[hg];exact(below_size (blg HB.out (IsS92.ge HI228.out))):w.heap.size≤gb248));replace HB:=Aside0.mk (below_step (blg HB.out (IsS92.ge HI228.out)) hb);have NB223_248:=nlA hg BK223;have NB248_223:=ngA hg BK223;replace BK223:=bkA BK223 hb;have NB224_248:=nlA hg BK224;have NB248_224:=ngA hg BK224;replace BK224:=bkA BK224 hb;have NB247_248:=nlA hg BK247;have NB248_247:=ngA hg BK247;replace BK247:=bkA BK247 hb;have NB228_248:=Aside0.mk ((by rw[hg];exact Nat.ne_of_lt (IsS92.lt (show IsS92 w _ g228 t225 t245 t246 from IsS92.ch HI228.out)):g228≠gb248));have NB248_228:=Aside0.mk ((by rw[hg];exact Nat.ne_of_gt (IsS92.lt (show IsS92 w _ g228 t225 t245 t246 from IsS92.ch HI228.out)):gb248≠g228));replace HI228:=Aside0.mk (IsS92.below (IsS92.ch HI228.out) hb);clear hb hbox hg;have hnb21:=NB247_223.out;have hnc21:=NB223_247.out;have hnb22:=NB247_224.out;have hnc22:=NB224_247.out;have hnb23:=NB247_248.out;have hnc23:=NB248_247.out;have hnb24:=NB247_228.out;have hnc24:=NB228_247.out;have hcz25_0:=z0_ BK247;have hcz25_1:=z1_ BK247;have hfz25_0:=hf_ BK247 0;have hfz25_1:=hf_ BK247 1;obtain ⟨Ao26,co26,eo26⟩:=Kd.R_slice HO235.out;subst eo26;have hnb27:=NB248_223.out;have hnc27:=NB223_248.out;have hnb28:=NB248_224.out;have hnc28:=NB224_248.out;have hnb29:=NB248_228.out;have hnc29:=NB228_248.out;have hcz30_0:=z0_ BK248;have hcz30_1:=z1_ BK248;have hfz30_0:=hf_ BK248 0;have hfz30_1:=hf_ BK248 1;obtain ⟨Ao31,co31,eo31⟩:=Kd.R_slice HO244.out;subst eo31)|((with_reducible refine gate_callee (f:=67) rfl ?_);refine gl (some 20) Tryz.func67 #[.pointer (some ⟨g228,0,none⟩),.int .i64 10] ?_;(with_reducible refine(spec_l01Next.calls g228 t225 t245 t246 10 t249 t250 t251 w _ (IsS92.ch HI228.out) (blg HB.out (IsS92.ge HI228.out)) A7.out).mono ?_);rintro e w32 ⟨rfl,hi,hb,hk⟩;refine⟨_,rfl,?_⟩;replace BK223:=Aside0.mk (KeepBut.blk hk (g':=gb223) (o:= .cells #[.int .i64 0,.slice none 0 0] 26 (0,0)) (bp BK223.out) NB223_228.out (by simp));replace BK224:=Aside0.mk (KeepBut.blk hk (g':=gb224) (o:= .cells #[.int .i64 0,.slice none 0 0] 26 (0,0)) (bp BK224.out) NB224_228.out (by simp));replace HO235:=Aside0.mk (Kd.R_mono (Kd.R_keep (IsS92.apart (show IsS92 w _ g228 t225 t245 t246 from IsS92.ch HI228.out) (by(with_reducible repeat(first|apply Kd.R_alloc|apply Kd.R_drewN|apply Kd.R_drew));exact(Kd.R_mono (Kd.R_mono (Kd.R_far (p:=⟨gb248,1,none⟩) (Kd.R_far (p:=⟨gb248,0,none⟩) (Kd.R_far (p:=⟨gb247,1,none⟩) (Kd.R_far (p:=⟨gb247,0,none⟩) (Kd.R_types (Kd.R_types HO235.out BK247.out (by decide)) BK248.out (by decide)) (fun _ hk=>hk.1.2) (.int .i64 t232)) (fun _ hk=>hk.1.2) (.slice Ao26 t233.length co26)) (fun _ hk=>hk.2) (.int .i64 t241)) (fun _ hk=>hk.2) (.slice Ao31 t242.length co31)) (fun _ h_=>h_.1)) (fun _ h_=>h_.1))) (by decide)) hk (fun _ h=>h.2)) (fun _ h=>h.1));replace HO244:=Aside0.mk (Kd.R_mono (Kd.R_keep (IsS92.apart (show IsS92 w _ g228 t225 t245 t246 from IsS92.ch HI228.out) (by(with_reducible repeat(first|apply Kd.R_alloc|apply Kd.R_drewN|apply Kd.R_drew));exact(Kd.R_mono (Kd.R_mono (Kd.R_far (p:=⟨gb248,1,none⟩) (Kd.R_far (p:=⟨gb248,0,none⟩) (Kd.R_far (p:=⟨gb247,1,none⟩) (Kd.R_far (p:=⟨gb247,0,none⟩) (Kd.R_types (Kd.R_types HO244.out BK247.out (by decide)) BK248.out (by decide)) (fun _ hk=>hk.1.2) (.int .i64 t232)) (fun _ hk=>hk.1.2) (.slice Ao26 t233.length co26)) (fun _ hk=>hk.2) (.int .i64 t241)) (fun _ hk=>hk.2) (.slice Ao31 t242.length co31)) (fun _ h_=>h_.1)) (fun _ h_=>h_.1))) (by decide)) hk (fun _ h=>h.2)) (fun _ h=>h.1));replace BK247:=Aside0.mk (KeepBut.blk hk (g':=gb247) (o:= .cells #[.int .i64 t232,.slice Ao26 t233.length co26] 26 (0,0)) (bp BK247.out) NB247_228.out (by simp));replace BK248:=Aside0.mk (KeepBut.blk hk (g':=gb248) (o:= .cells #[.int .i64 t241,.slice Ao31 t242.length co31] 26 (0,0)) (bp BK248.out) NB248_228.out (by simp));replace HB:=Aside0.mk (hb);replace HI228:=Aside0.mk (hi);(try clear hb);(try clear hb2);(try clear hk);(try clear hi))|((with_reducible refine gate_callee (f:=75) rfl ?_);refine gl (some 23) Tryz.func75 #[.pointer (some ⟨g228,0,none⟩)] ?_;(with_reducible refine(spec_l01Draw.calls k g228 t225 t250 t251 t252 t253 t256 t257 w _ (IsS92.ch HI228.out) (blg HB.out (IsS92.ge HI228.out)) A9.out).mono ?_);rintro e w33 ⟨v254,rfl,ho0,hi,hb,hk⟩;refine⟨_,rfl,?_⟩;replace BK223:=Aside0.mk (kbk hk (bk BK223.out) NB223_228.out);replace BK224:=Aside0.mk (kbk hk (bk BK224.out) NB224_228.out);replace BK247:=Aside0.mk (kbk hk (bk BK247.out) NB247_228.out);replace BK248:=Aside0.mk (kbk hk (bk BK248.out) NB248_228.out);have HO255:=Aside0.mk (Kd.R_lower (Kd.R_new' (Kd.R_new' ho0 (Kd.R_lt (kr HO235.out))) (Kd.R_lt (kr HO244.out))) (below_size (blg HB.out (IsS92.ge HI228.out))));replace HO235:=Aside0.mk (Kd.R_mono (Kd.R_told (Kd.R_oldK (IsS92.apart (show IsS92 w _ g228 t225 t250 t251 from IsS92.ch HI228.out) (kr HO235.out) (by decide)) hk) (Kd.R_base ho0)) (fun _ h_=>h_.1));replace HO244:=Aside0.mk (Kd.R_mono (Kd.R_told (Kd.R_oldK (IsS92.apart (show IsS92 w _ g228 t225 t250 t251 from IsS92.ch HI228.out) (kr HO244.out) (by decide)) hk) (Kd.R_base ho0)) (fun _ h_=>h_.1));replace HB:=Aside0.mk (hb);replace HI228:=Aside0.mk (hi);(try clear hb);(try clear hb2);(try clear hk);(try clear hi);(try clear ho0);have hcz34_0:=z0_ BK248;have hcz34_1:=z1_ BK248;have hfz34_0:=hf_ BK248 0;have hfz34_1:=hf_ BK248 1;obtain ⟨Ao35,co35,eo35⟩:=Kd.R_slice HO255.out;subst eo35))
  have n0_:Aside0 (Kd.R (Kd.int .i64) 2 ((w33.setCell ⟨gb248,0,none⟩ (.int .i64 t252)).setCell ⟨gb248,1,none⟩ (.slice Ao35 t253.length co35)) w.heap.size (fun k_=>some k_≠(.slice Ao31 t242.length co31:Value).ownBlock∧some k_≠(.slice Ao35 t253.length co35:Value).ownBlock) (.slice Ao26 t233.length co26) t233):=⟨by(with_reducible repeat(first|apply Kd.R_alloc|apply Kd.R_drewN|apply Kd.R_drew));exact Kd.R_mono (Kd.R_far (p:=⟨gb248,1,none⟩) (Kd.R_far (p:=⟨gb248,0,none⟩) (Kd.R_types HO235.out BK248.out (by decide)) (fun _ hk=>hk.2) (.int .i64 t252)) (fun _ hk=>hk.2) (.slice Ao35 t253.length co35)) (fun _ hk=>⟨hk.1.1.2,hk.1.2⟩)⟩
  have n1_:Aside0 (Kd.R (Kd.int .i64) 2 ((w33.setCell ⟨gb248,0,none⟩ (.int .i64 t252)).setCell ⟨gb248,1,none⟩ (.slice Ao35 t253.length co35)) w.heap.size (fun k_=>some k_≠(.slice Ao26 t233.length co26:Value).ownBlock∧some k_≠(.slice Ao35 t253.length co35:Value).ownBlock) (.slice Ao31 t242.length co31) t242):=⟨by(with_reducible repeat(first|apply Kd.R_alloc|apply Kd.R_drewN|apply Kd.R_drew));exact Kd.R_mono (Kd.R_far (p:=⟨gb248,1,none⟩) (Kd.R_far (p:=⟨gb248,0,none⟩) (Kd.R_types HO244.out BK248.out (by decide)) (fun _ hk=>hk.2) (.int .i64 t252)) (fun _ hk=>hk.2) (.slice Ao35 t253.length co35)) (fun _ hk=>⟨hk.1.1.2,hk.1.2⟩)⟩
  have n2_:Aside0 (Kd.R (Kd.int .i64) 2 ((w33.setCell ⟨gb248,0,none⟩ (.int .i64 t252)).setCell ⟨gb248,1,none⟩ (.slice Ao35 t253.length co35)) w.heap.size (fun k_=>some k_≠(.slice Ao26 t233.length co26:Value).ownBlock∧some k_≠(.slice Ao31 t242.length co31:Value).ownBlock) (.slice Ao35 t253.length co35) t253):=⟨by(with_reducible repeat(first|apply Kd.R_alloc|apply Kd.R_drewN|apply Kd.R_drew));exact Kd.R_mono (Kd.R_far (p:=⟨gb248,1,none⟩) (Kd.R_far (p:=⟨gb248,0,none⟩) (Kd.R_types HO255.out BK248.out (by decide)) (fun _ hk=>hk.2) (.int .i64 t252)) (fun _ hk=>hk.2) (.slice Ao35 t253.length co35)) (fun _ hk=>⟨hk.1.1.2,hk.1.2⟩)⟩
  have n3_:Aside0 (((w33.setCell ⟨gb248,0,none⟩ (.int .i64 t252)).setCell ⟨gb248,1,none⟩ (.slice Ao35 t253.length co35)).heap[gb223]?=some (.cells #[.int .i64 0,.slice none 0 0] 26 (0,0))):=⟨bp BK223.out⟩
  have n4_:Aside0 (((w33.setCell ⟨gb248,0,none⟩ (.int .i64 t252)).setCell ⟨gb248,1,none⟩ (.slice Ao35 t253.length co35)).heap[gb224]?=some (.cells #[.int .i64 0,.slice none 0 0] 26 (0,0))):=⟨bp BK224.out⟩
  have n5_:Aside0 (((w33.setCell ⟨gb248,0,none⟩ (.int .i64 t252)).setCell ⟨gb248,1,none⟩ (.slice Ao35 t253.length co35)).heap[gb247]?=some (.cells #[.int .i64 t232,.slice Ao26 t233.length co26] 26 (0,0))):=⟨bp BK247.out⟩
  have n6_:Aside0 (((w33.setCell ⟨gb248,0,none⟩ (.int .i64 t252)).setCell ⟨gb248,1,none⟩ (.slice Ao35 t253.length co35)).heap[gb248]?=some (.cells #[.int .i64 t252,.slice Ao35 t253.length co35] 26 (0,0))):=⟨bp BK248.out⟩
  have n7_:Aside0 (IsS92 w ((w33.setCell ⟨gb248,0,none⟩ (.int .i64 t252)).setCell ⟨gb248,1,none⟩ (.slice Ao35 t253.length co35)) g228 t225 t256 t257):=⟨IsS92.ch HI228.out⟩
  have n8_:Aside0 (Below w.heap.size w ((w33.setCell ⟨gb248,0,none⟩ (.int .i64 t252)).setCell ⟨gb248,1,none⟩ (.slice Ao35 t253.length co35))):=⟨blg HB.out (IsS92.ge HI228.out)⟩
  (try clear HO235)
  (try clear HO244)
  (try clear HO255)
  (try clear BK223)
  (try clear BK224)
  (try clear BK247)
  (try clear BK248)
  (try clear HI228)
  (try clear HB)
  generalize ((w33.setCell ⟨gb248,0,none⟩ (.int .i64 t252)).setCell ⟨gb248,1,none⟩ (.slice Ao35 t253.length co35))=w36 at n0_ n1_ n2_ n3_ n4_ n5_ n6_ n7_ n8_ ⊢;have HO235:=n0_;have HO244:=n1_;have HO255:=n2_;have BK223:=n3_;have BK224:=n4_;have BK247:=n5_;have BK248:=n6_;have HI228:=n7_;have HB:=n8_;clear n0_ n1_ n2_ n3_ n4_ n5_ n6_ n7_ n8_;replace HO235:=Aside0.mk (Kd.R_drew HO235.out);replace HO244:=Aside0.mk (Kd.R_drew HO244.out);replace HO255:=Aside0.mk (Kd.R_drew HO255.out);replace BK223:=Aside0.mk (blk_drew BK223.out);replace BK224:=Aside0.mk (blk_drew BK224.out);replace BK247:=Aside0.mk (blk_drew BK247.out);replace BK248:=Aside0.mk (blk_drew BK248.out);replace HI228:=Aside0.mk (IsS92.drew HI228.out);replace HB:=Aside0.mk (below_drew1 HB.out);refine start_ (n:=8) (S:=fun w'=>w'.cell? ⟨gb247,0,none⟩=some (.int .i64 t232)∧w'.cell? ⟨gb247,1,none⟩=some (.slice Ao26 t233.length co26)∧w'.cell? ⟨gb248,0,none⟩=some (.int .i64 t252)∧w'.cell? ⟨gb248,1,none⟩=some (.slice Ao35 t253.length co35)) (ds:= []) (ar 0 8) (by kernel_rfl) rfl rfl ⟨(blk_cell BK247.out 0).trans rfl,(blk_cell BK247.out 1).trans rfl,(blk_cell BK248.out 0).trans rfl,(blk_cell BK248.out 1).trans rfl⟩ (fun hHeld=>?_);refine with_tabW spec_DrawJoinOf.tab5 spec_DrawJoinOf.bits5 (fun HT_ HW_=>?_);generalize w36.drew=w37 at HO235 HO244 HO255 BK223 BK224 BK247 BK248 HI228 HB hHeld ⊢;refine pu 0 (some 24) (ar 1 7) HT_ ?_;refine pu 3 (some 27) #[U,O,O,U,O,O,O,O] HT_ ?_;refine tk 1 (some 25) #[U,U,O,U,O,O,O,O] HT_ HW_ hHeld ?_;refine tk 4 (some 28) #[U,U,O,U,U,O,O,O] HT_ HW_ hHeld ?_;refine on_ 2 (some 26) (ar 5 3) HT_ fun K hK=>?_;refine gr Tryz.func69 #[.pointer (some ⟨g228,0,none⟩),.agg #[.int .i64 t232,.slice Ao26 t233.length co26]] ?_;with_reducible refine(spec_l01Bad.calls g228 t225 t256 t257 t232 (fun k_=>some k_=(.slice Ao26 t233.length co26:Value).ownBlock) (.slice Ao26 t233.length co26) t233 t258 t259 t262 t263 w _ (IsS92.ch HI228.out) (blg HB.out (IsS92.ge HI228.out)) (Kd.R_tight rfl HO235.out) A10.out).mono ?_
  rintro e w38 ⟨v260,rfl,ho0,hi,hb,hkp⟩;refine⟨_,rfl,?_⟩;have n0_:=Aside0.mk (blk_kept (bk BK223.out) hkp (fun hs_=>Or.elim hs_ (fun hs_=>(fun e_=>(Kd.R_ne HO235.out BK223.out (by decide)) e_) hs_) (fun e_=>NB223_228.out e_)));have n1_:=Aside0.mk (blk_kept (bk BK224.out) hkp (fun hs_=>Or.elim hs_ (fun hs_=>(fun e_=>(Kd.R_ne HO235.out BK224.out (by decide)) e_) hs_) (fun e_=>NB224_228.out e_)));have n2_:=Aside0.mk (hi);have n3_:=Aside0.mk (Kd.R_mono (ok':=fun k_=>some k_≠(.slice Ao35 t253.length co35:Value).ownBlock∧some k_≠(v260:Value).ownBlock) (Kd.R_keptB ((IsS92.apart HI228.out HO244.out (by decide))) hkp (fun k_ hk_ hs_=>Or.elim hs_ (fun hs_=>(hk_.1.1) hs_) (fun e_=>(hk_.2) e_))) (fun k_ hk_=>⟨hk_.1.1.2,fun e_=>Or.elim (ho0.1 k_ e_.symm) (fun hs_=>hk_.2.1 (by first|exact hs_|exact .inl hs_)) (fun hn_=>Nat.not_le.2 hk_.2.2 hn_)⟩));have n4_:=Aside0.mk (blk_kept (bk BK247.out) hkp (fun hs_=>Or.elim hs_ (fun hs_=>(fun e_=>(Kd.R_ne HO235.out BK247.out (by decide)) e_) hs_) (fun e_=>NB247_228.out e_)));have n5_:=Aside0.mk (blk_kept (bk BK248.out) hkp (fun hs_=>Or.elim hs_ (fun hs_=>(fun e_=>(Kd.R_ne HO235.out BK248.out (by decide)) e_) hs_) (fun e_=>NB248_228.out e_)));have n6_:=Aside0.mk (Kd.R_mono (ok':=fun k_=>some k_≠(.slice Ao31 t242.length co31:Value).ownBlock∧some k_≠(v260:Value).ownBlock) (Kd.R_keptB ((IsS92.apart HI228.out HO255.out (by decide))) hkp (fun k_ hk_ hs_=>Or.elim hs_ (fun hs_=>(hk_.1.1) hs_) (fun e_=>(hk_.2) e_))) (fun k_ hk_=>⟨hk_.1.1.2,fun e_=>Or.elim (ho0.1 k_ e_.symm) (fun hs_=>hk_.2.1 (by first|exact hs_|exact .inl hs_)) (fun hn_=>Nat.not_le.2 hk_.2.2 hn_)⟩));have n7_:=Aside0.mk (Kd.R_mono (ok':=fun k_=>some k_≠(.slice Ao31 t242.length co31:Value).ownBlock∧some k_≠(.slice Ao35 t253.length co35:Value).ownBlock) ho0 (fun k_ hk_=>⟨Or.elim hk_ (fun hs_=>fun e_=>((((IsS92.apart HI228.out HO244.out (by decide))).1 k_ e_.symm).1.1) hs_) (fun hn_=>(Kd.fresh' (Kd.R_lt (kr HO244.out)) k_ hn_)),Or.elim hk_ (fun hs_=>fun e_=>((((IsS92.apart HI228.out HO255.out (by decide))).1 k_ e_.symm).1.1) hs_) (fun hn_=>(Kd.fresh' (Kd.R_lt (kr HO255.out)) k_ hn_))⟩));have n8_:=Aside0.mk (hb);clear BK223;clear BK224;clear HI228;clear HO244;clear BK247;clear BK248;clear HO255;clear HB;clear HO235;have BK223:=n0_;have BK224:=n1_;have HI228:=n2_;have HO244:=n3_;have BK247:=n4_;have BK248:=n5_;have HO255:=n6_;have HO261:=n7_;have HB:=n8_;clear n0_ n1_ n2_ n3_ n4_ n5_ n6_ n7_ n8_;(try clear hb)
  (try clear hkp)
  (try clear ho0)
  refine hK.out _ _ ⟨(blk_cell BK247.out 0).trans rfl,(blk_cell BK247.out 1).trans rfl,(blk_cell BK248.out 0).trans rfl,(blk_cell BK248.out 1).trans rfl⟩ (fun hHeld=>?_);clear hK K;refine nr 26 ?_;refine on_ 5 (some 29) (ar 6 2) HT_ fun K hK=>?_;refine gr Tryz.func69 #[.pointer (some ⟨g228,0,none⟩),.agg #[.int .i64 t252,.slice Ao35 t253.length co35]] ?_;with_reducible refine(spec_l01Bad.calls g228 t225 t262 t263 t252 (fun k_=>some k_=(.slice Ao35 t253.length co35:Value).ownBlock) (.slice Ao35 t253.length co35) t253 t264 t265 t268 t269 w _ (IsS92.ch HI228.out) (blg HB.out (IsS92.ge HI228.out)) (Kd.R_tight rfl HO255.out) A11.out).mono ?_
  rintro e w39 ⟨v266,rfl,ho0,hi,hb,hkp⟩;refine⟨_,rfl,?_⟩;have n0_:=Aside0.mk (blk_kept (bk BK223.out) hkp (fun hs_=>Or.elim hs_ (fun hs_=>(fun e_=>(Kd.R_ne HO255.out BK223.out (by decide)) e_) hs_) (fun e_=>NB223_228.out e_)));have n1_:=Aside0.mk (blk_kept (bk BK224.out) hkp (fun hs_=>Or.elim hs_ (fun hs_=>(fun e_=>(Kd.R_ne HO255.out BK224.out (by decide)) e_) hs_) (fun e_=>NB224_228.out e_)));have n2_:=Aside0.mk (hi);have n3_:=Aside0.mk (Kd.R_mono (ok':=fun k_=>some k_≠(v260:Value).ownBlock∧some k_≠(v266:Value).ownBlock) (Kd.R_keptB ((IsS92.apart HI228.out HO244.out (by decide))) hkp (fun k_ hk_ hs_=>Or.elim hs_ (fun hs_=>(hk_.1.1) hs_) (fun e_=>(hk_.2) e_))) (fun k_ hk_=>⟨hk_.1.1.2,fun e_=>Or.elim (ho0.1 k_ e_.symm) (fun hs_=>hk_.2.1 (by first|exact hs_|exact .inl hs_)) (fun hn_=>Nat.not_le.2 hk_.2.2 hn_)⟩));have n4_:=Aside0.mk (blk_kept (bk BK247.out) hkp (fun hs_=>Or.elim hs_ (fun hs_=>(fun e_=>(Kd.R_ne HO255.out BK247.out (by decide)) e_) hs_) (fun e_=>NB247_228.out e_)));have n5_:=Aside0.mk (blk_kept (bk BK248.out) hkp (fun hs_=>Or.elim hs_ (fun hs_=>(fun e_=>(Kd.R_ne HO255.out BK248.out (by decide)) e_) hs_) (fun e_=>NB248_228.out e_)));have n6_:=Aside0.mk (Kd.R_mono (ok':=fun k_=>some k_≠(.slice Ao31 t242.length co31:Value).ownBlock∧some k_≠(v266:Value).ownBlock) (Kd.R_keptB ((IsS92.apart HI228.out HO261.out (by decide))) hkp (fun k_ hk_ hs_=>Or.elim hs_ (fun hs_=>(hk_.1.2) hs_) (fun e_=>(hk_.2) e_))) (fun k_ hk_=>⟨hk_.1.1.1,fun e_=>Or.elim (ho0.1 k_ e_.symm) (fun hs_=>hk_.2.1 (by first|exact hs_|exact .inl hs_)) (fun hn_=>Nat.not_le.2 hk_.2.2 hn_)⟩));have n7_:=Aside0.mk (Kd.R_mono (ok':=fun k_=>some k_≠(.slice Ao31 t242.length co31:Value).ownBlock∧some k_≠(v260:Value).ownBlock) ho0 (fun k_ hk_=>⟨Or.elim hk_ (fun hs_=>fun e_=>((((IsS92.apart HI228.out HO244.out (by decide))).1 k_ e_.symm).1.1) hs_) (fun hn_=>(Kd.fresh' (Kd.R_lt (kr HO244.out)) k_ hn_)),Or.elim hk_ (fun hs_=>fun e_=>((((IsS92.apart HI228.out HO261.out (by decide))).1 k_ e_.symm).1.2) hs_) (fun hn_=>(Kd.fresh' (Kd.R_lt (kr HO261.out)) k_ hn_))⟩));have n8_:=Aside0.mk (hb);clear BK223;clear BK224;clear HI228;clear HO244;clear BK247;clear BK248;clear HO261;clear HB;clear HO255;have BK223:=n0_;have BK224:=n1_;have HI228:=n2_;have HO244:=n3_;have BK247:=n4_;have BK248:=n5_;have HO261:=n6_;have HO267:=n7_;have HB:=n8_;clear n0_ n1_ n2_ n3_ n4_ n5_ n6_ n7_ n8_;(try clear hb)
  (try clear hkp)
  (try clear ho0)
  obtain ⟨Ao41,co41,eo41⟩:=Kd.R_slice HO261.out;(first|subst eo41|(injection eo41 with f1_ f2_ f3_;have f4_:=f1_.symm;have f5_:=f3_.symm;clear f1_ f2_ f3_;subst f4_;subst f5_))
  obtain ⟨Ao44,co44,eo44⟩:=Kd.R_slice HO267.out;(first|subst eo44|(injection eo44 with f1_ f2_ f3_;have f4_:=f1_.symm;have f5_:=f3_.symm;clear f1_ f2_ f3_;subst f4_;subst f5_))
  refine hK.out _ _ ⟨(blk_cell BK247.out 0).trans rfl,(blk_cell BK247.out 1).trans rfl,(blk_cell BK248.out 0).trans rfl,(blk_cell BK248.out 1).trans rfl⟩ (fun hHeld=>?_);clear hK K;refine nr 29 ?_;refine on_ 6 (none) (ar 7 1) HT_ fun K hK=>?_;have hs40:w39.cell? ⟨gb223,0,none⟩=some (.int .i64 0):=(blk_cell BK223.out 0).trans rfl;have hfs40:=blk_frozen BK223.out 0;have hns40_1:=NB224_223.out;have hns40_2:=NB247_223.out;have hns40_3:=NB248_223.out;have hms40_1:=NB223_224.out;have hms40_2:=NB223_247.out;have hms40_3:=NB223_248.out;have hs42:w39.cell? ⟨gb223,1,none⟩=some (.slice none 0 0):=(blk_cell BK223.out 1).trans rfl;have hfs42:=blk_frozen BK223.out 1;have hns42_1:=NB224_223.out;have hns42_2:=NB247_223.out;have hns42_3:=NB248_223.out;have hms42_1:=NB223_224.out;have hms42_2:=NB223_247.out;have hms42_3:=NB223_248.out;refine skip_ (w1:=?_) (by rfl) rfl ?_ ?_;rotate_left
  ·go_simp;rfl
  refine hK.out _ _ ⟨((cell_far (p:=⟨gb223,_,none⟩) NB247_223.out _).trans (((cell_far (p:=⟨gb223,_,none⟩) NB247_223.out _).trans (hHeld.1)))),((cell_far (p:=⟨gb223,_,none⟩) NB247_223.out _).trans (((cell_far (p:=⟨gb223,_,none⟩) NB247_223.out _).trans (hHeld.2.1)))),((cell_far (p:=⟨gb223,_,none⟩) NB248_223.out _).trans (((cell_far (p:=⟨gb223,_,none⟩) NB248_223.out _).trans (hHeld.2.2.1)))),((cell_far (p:=⟨gb223,_,none⟩) NB248_223.out _).trans (((cell_far (p:=⟨gb223,_,none⟩) NB248_223.out _).trans (hHeld.2.2.2))))⟩ (fun hHeld=>?_);clear hK K;refine on_ 7 (none) (ar 8 0) HT_ fun K hK=>?_;have hs43:w39.cell? ⟨gb224,0,none⟩=some (.int .i64 0):=(blk_cell BK224.out 0).trans rfl;have hfs43:=blk_frozen BK224.out 0;have hns43_0:=NB223_224.out;have hns43_2:=NB247_224.out;have hns43_3:=NB248_224.out;have hms43_0:=NB224_223.out;have hms43_2:=NB224_247.out;have hms43_3:=NB224_248.out;have hs45:w39.cell? ⟨gb224,1,none⟩=some (.slice none 0 0):=(blk_cell BK224.out 1).trans rfl;have hfs45:=blk_frozen BK224.out 1;have hns45_0:=NB223_224.out;have hns45_2:=NB247_224.out;have hns45_3:=NB248_224.out;have hms45_0:=NB224_223.out;have hms45_2:=NB224_247.out;have hms45_3:=NB224_248.out;refine skip_ (w1:=?_) (by rfl) rfl ?_ ?_;rotate_left
  ·go_simp;rfl
  refine hK.out _ _ ⟨((cell_far (p:=⟨gb224,_,none⟩) NB247_224.out _).trans (((cell_far (p:=⟨gb224,_,none⟩) NB247_224.out _).trans (hHeld.1)))),((cell_far (p:=⟨gb224,_,none⟩) NB247_224.out _).trans (((cell_far (p:=⟨gb224,_,none⟩) NB247_224.out _).trans (hHeld.2.1)))),((cell_far (p:=⟨gb224,_,none⟩) NB248_224.out _).trans (((cell_far (p:=⟨gb224,_,none⟩) NB248_224.out _).trans (hHeld.2.2.1)))),((cell_far (p:=⟨gb224,_,none⟩) NB248_224.out _).trans (((cell_far (p:=⟨gb224,_,none⟩) NB248_224.out _).trans (hHeld.2.2.2))))⟩ (fun hHeld=>?_);clear hK K;refine done_ (done_of HT_.out (by kernel_rfl)) ?_;try go_wp2
  refine bodyPost_ret (results_cc rfl _ _ gb223 gb224 26 26 #[.int .i64 t258,.slice Ao41 t259.length co41] #[.int .i64 t264,.slice Ao44 t265.length co44] (0,0) (0,0) _ _ rfl (bp BK223.out) Tryz.underlying26 rfl (by kernel_rfl) rfl (bp BK224.out) Tryz.underlying26 rfl (by kernel_rfl)) rfl ?_;exact⟨_,_,rr,by(with_reducible repeat(first|apply Kd.R_alloc|apply Kd.R_drewN|apply Kd.R_drew));exact Kd.R_mono (Kd.R_far (p:=⟨gb224,1,none⟩) (Kd.R_far (p:=⟨gb224,0,none⟩) (Kd.R_far (p:=⟨gb223,1,none⟩) (Kd.R_far (p:=⟨gb223,0,none⟩) (Kd.R_types (Kd.R_types HO261.out BK223.out (by decide)) BK224.out (by decide)) (fun _ hk=>hk.1.2) (.int .i64 t258)) (fun _ hk=>hk.1.2) (.slice Ao41 t259.length co41)) (fun _ hk=>hk.2) (.int .i64 t264)) (fun _ hk=>hk.2) (.slice Ao44 t265.length co44)) (fun _ hk=>hk.1.1.2),by(with_reducible repeat(first|apply Kd.R_alloc|apply Kd.R_drewN|apply Kd.R_drew));exact Kd.R_mono (Kd.R_far (p:=⟨gb224,1,none⟩) (Kd.R_far (p:=⟨gb224,0,none⟩) (Kd.R_far (p:=⟨gb223,1,none⟩) (Kd.R_far (p:=⟨gb223,0,none⟩) (Kd.R_types (Kd.R_types HO267.out BK223.out (by decide)) BK224.out (by decide)) (fun _ hk=>hk.1.2) (.int .i64 t258)) (fun _ hk=>hk.1.2) (.slice Ao41 t259.length co41)) (fun _ hk=>hk.2) (.int .i64 t264)) (fun _ hk=>hk.2) (.slice Ao44 t265.length co44)) (fun _ hk=>hk.1.1.2),blg HB.out (IsS92.ge HI228.out)⟩
 ·rw[if_neg c8] at H;have c8b0:(t249 == 0)=false:=beq_eq_false_iff_ne.mpr c8;have c8b1:(t249 != 0)=true:=bne_iff_ne.mpr c8;replace H:=Option.bind_eq_some_iff.mp H;obtain ⟨⟨t270,t271,t274,t275⟩,A460,H⟩:=H;replace H:((spec_l01Bad.f t225 t274 t275 t241 t242).bind fun bt276=>(some (t270,t271,bt276.1,bt276.2.1)))=some (r1,r2,r3,r4):=H;have A46:=Aside0.mk A460;clear A460;replace H:=Option.bind_eq_some_iff.mp H;obtain ⟨⟨t276,t277,t280,t281⟩,A470,H⟩:=H;replace H:(some (t270,t271,t276,t277))=some (r1,r2,r3,r4):=H;have A47:=Aside0.mk A470;clear A470;simp only [Option.some.injEq,Prod.mk.injEq] at H;obtain ⟨rfl,rfl,rfl,rfl⟩:=H;go_enter Tryz.func19,Tryz.ntmps19;try go_wp2_with (first|((with_reducible refine gate_dst (N:=2) rfl ?_);refine bx 2 #[.int .i64 0,.slice none 0 0] 26 ?_;intro gb223 hg w48 hbox hb;have BK223:=Aside0.mk (hbox);have GE223:=gzA hg HB;replace HB:=bsA HB hb;clear hb hbox hg)|((with_reducible refine gate_dst (N:=3) rfl ?_);refine bx 3 #[.int .i64 0,.slice none 0 0] 26 ?_;intro gb224 hg w49 hbox hb;have BK224:=Aside0.mk (hbox);have GE224:=gzA hg HB;replace HB:=bsA HB hb;have NB223_224:=nlA hg BK223;have NB224_223:=ngA hg BK223;replace BK223:=bkA BK223 hb;clear hb hbox hg)|((with_reducible refine gate_callee (f:=66) rfl ?_);refine gl (some 8) Tryz.func66 #[.slice A0 l0.length c0] ?_;(with_reducible refine(spec_l01From.calls k _ _ l0 t225 t226 t227 w _ (bl HB.out) HR0.out HC0.out A2.out).mono ?_);rintro e w50 ⟨g228,rfl,hi,hb,hb2⟩;refine⟨_,rfl,?_⟩;replace HB:=Aside0.mk (hb);have HI228:=Aside0.mk (hi);have NB228_223:=Aside0.mk (IsS92.ne_blk hi (blk_below (bk BK223.out) hb2) (by decide));have NB223_228:=Aside0.mk (Ne.symm (IsS92.ne_blk hi (blk_below (bk BK223.out) hb2) (by decide)));replace BK223:=bkA BK223 hb2;have NB228_224:=Aside0.mk (IsS92.ne_blk hi (blk_below (bk BK224.out) hb2) (by decide));have NB224_228:=Aside0.mk (Ne.symm (IsS92.ne_blk hi (blk_below (bk BK224.out) hb2) (by decide)));replace BK224:=bkA BK224 hb2;(try clear hb);(try clear hb2);(try clear hk);(try clear hi))|((with_reducible refine gate_callee (f:=67) rfl ?_);refine gl (some 11) Tryz.func67 #[.pointer (some ⟨g228,0,none⟩),.int .i64 3] ?_;(with_reducible refine(spec_l01Next.calls g228 t225 t226 t227 3 t229 t230 t231 w _ (IsS92.ch HI228.out) (blg HB.out (IsS92.ge HI228.out)) A3.out).mono ?_);rintro e w51 ⟨rfl,hi,hb,hk⟩;refine⟨_,rfl,?_⟩;replace BK223:=Aside0.mk (kbk hk (bk BK223.out) NB223_228.out);replace BK224:=Aside0.mk (kbk hk (bk BK224.out) NB224_228.out);replace HB:=Aside0.mk (hb);replace HI228:=Aside0.mk (hi);(try clear hb);(try clear hb2);(try clear hk);(try clear hi))|((with_reducible refine gate_callee (f:=70) rfl ?_);refine gl (some 13) Tryz.func70 #[.pointer (some ⟨g228,0,none⟩),.int .i64 (wrap64 (1+t229))] ?_;(with_reducible refine(spec_l01DrawOf.calls k g228 t225 t230 t231 (wrap64 (1+t229)) t232 t233 t236 t237 w _ (IsS92.ch HI228.out) (blg HB.out (IsS92.ge HI228.out)) A4.out).mono ?_);rintro e w52 ⟨v234,rfl,ho0,hi,hb,hk⟩;refine⟨_,rfl,?_⟩;replace BK223:=Aside0.mk (kbk hk (bk BK223.out) NB223_228.out);replace BK224:=Aside0.mk (kbk hk (bk BK224.out) NB224_228.out);have HO235:=Aside0.mk (Kd.R_lower ho0 (below_size (blg HB.out (IsS92.ge HI228.out))));replace HB:=Aside0.mk (hb);replace HI228:=Aside0.mk (hi);(try clear hb);(try clear hb2);(try clear hk);(try clear hi);(try clear ho0))|((with_reducible refine gate_callee (f:=67) rfl ?_);refine gl (some 16) Tryz.func67 #[.pointer (some ⟨g228,0,none⟩),.int .i64 3] ?_;(with_reducible refine(spec_l01Next.calls g228 t225 t236 t237 3 t238 t239 t240 w _ (IsS92.ch HI228.out) (blg HB.out (IsS92.ge HI228.out)) A5.out).mono ?_);rintro e w53 ⟨rfl,hi,hb,hk⟩;refine⟨_,rfl,?_⟩;replace BK223:=Aside0.mk (kbk hk (bk BK223.out) NB223_228.out);replace BK224:=Aside0.mk (kbk hk (bk BK224.out) NB224_228.out);replace HO235:=Aside0.mk (Kd.R_mono (Kd.R_keep (IsS92.apart (show IsS92 w _ g228 t225 t236 t237 from IsS92.ch HI228.out) (kr HO235.out) (by decide)) hk (fun _ h=>h.2)) (fun _ h=>h.1));replace HB:=Aside0.mk (hb);replace HI228:=Aside0.mk (hi);(try clear hb);(try clear hb2);(try clear hk);(try clear hi))|((with_reducible refine gate_callee (f:=70) rfl ?_);refine gl (some 18) Tryz.func70 #[.pointer (some ⟨g228,0,none⟩),.int .i64 (wrap64 (1+t238))] ?_;(with_reducible refine(spec_l01DrawOf.calls k g228 t225 t239 t240 (wrap64 (1+t238)) t241 t242 t245 t246 w _ (IsS92.ch HI228.out) (blg HB.out (IsS92.ge HI228.out)) A6.out).mono ?_);rintro e w54 ⟨v243,rfl,ho0,hi,hb,hk⟩;refine⟨_,rfl,?_⟩;replace BK223:=Aside0.mk (kbk hk (bk BK223.out) NB223_228.out);replace BK224:=Aside0.mk (kbk hk (bk BK224.out) NB224_228.out);have HO244:=Aside0.mk (Kd.R_lower (Kd.R_new' ho0 (Kd.R_lt (kr HO235.out))) (below_size (blg HB.out (IsS92.ge HI228.out))));replace HO235:=Aside0.mk (Kd.R_mono (Kd.R_told (Kd.R_oldK (IsS92.apart (show IsS92 w _ g228 t225 t239 t240 from IsS92.ch HI228.out) (kr HO235.out) (by decide)) hk) (Kd.R_base ho0)) (fun _ h_=>h_.1));replace HB:=Aside0.mk (hb);replace HI228:=Aside0.mk (hi);(try clear hb);(try clear hb2);(try clear hk);(try clear hi);(try clear ho0))|((with_reducible refine gate_dst (N:=5) rfl ?_);refine bx 5 #[.int .i64 0,.slice none 0 0] 26 ?_;intro gb247 hg w55 hbox hb;replace HO235:=krA HO235 hb;replace HO244:=krA HO244 hb;have BK247:=Aside0.mk (hbox);have GW247:=Aside0.mk ((by rw[hg];exact(below_size (blg HB.out (IsS92.ge HI228.out))):w.heap.size≤gb247));have GE247:=Aside0.mk ((by rw[hg];exact(below_size (blg HB.out (IsS92.ge HI228.out))):w.heap.size≤gb247));replace HB:=Aside0.mk (below_step (blg HB.out (IsS92.ge HI228.out)) hb);have NB223_247:=nlA hg BK223;have NB247_223:=ngA hg BK223;replace BK223:=bkA BK223 hb;have NB224_247:=nlA hg BK224;have NB247_224:=ngA hg BK224;replace BK224:=bkA BK224 hb;have NB228_247:=Aside0.mk ((by rw[hg];exact Nat.ne_of_lt (IsS92.lt (show IsS92 w _ g228 t225 t245 t246 from IsS92.ch HI228.out)):g228≠gb247));have NB247_228:=Aside0.mk ((by rw[hg];exact Nat.ne_of_gt (IsS92.lt (show IsS92 w _ g228 t225 t245 t246 from IsS92.ch HI228.out)):gb247≠g228));replace HI228:=Aside0.mk (IsS92.below (IsS92.ch HI228.out) hb);clear hb hbox hg)|((with_reducible refine gate_dst (N:=6) rfl ?_);refine bx 6 #[.int .i64 0,.slice none 0 0] 26 ?_;intro gb248 hg w56 hbox hb;replace HO235:=krA HO235 hb;replace HO244:=krA HO244 hb;have BK248:=Aside0.mk (hbox);have GW248:=Aside0.mk ((by rw[hg];exact(below_size (blg HB.out (IsS92.ge HI228.out))):w.heap.size≤gb248));have GE248:=Aside0.mk ((by rw[hg];exact(below_size (blg HB.out (IsS92.ge HI228.out))):w.heap.size≤gb248));replace HB:=Aside0.mk (below_step (blg HB.out (IsS92.ge HI228.out)) hb);have NB223_248:=nlA hg BK223;have NB248_223:=ngA hg BK223;replace BK223:=bkA BK223 hb;have NB224_248:=nlA hg BK224;have NB248_224:=ngA hg BK224;replace BK224:=bkA BK224 hb;have NB247_248:=nlA hg BK247;have NB248_247:=ngA hg BK247;replace BK247:=bkA BK247 hb;have NB228_248:=Aside0.mk ((by rw[hg];exact Nat.ne_of_lt (IsS92.lt (show IsS92 w _ g228 t225 t245 t246 from IsS92.ch HI228.out)):g228≠gb248));have NB248_228:=Aside0.mk ((by rw[hg];exact Nat.ne_of_gt (IsS92.lt (show IsS92 w _ g228 t225 t245 t246 from IsS92.ch HI228.out)):gb248≠g228));replace HI228:=Aside0.mk (IsS92.below (IsS92.ch HI228.out) hb);clear hb hbox hg;have hnb57:=NB247_223.out;have hnc57:=NB223_247.out;have hnb58:=NB247_224.out;have hnc58:=NB224_247.out;have hnb59:=NB247_248.out;have hnc59:=NB248_247.out;have hnb60:=NB247_228.out;have hnc60:=NB228_247.out;have hcz61_0:=z0_ BK247;have hcz61_1:=z1_ BK247;have hfz61_0:=hf_ BK247 0;have hfz61_1:=hf_ BK247 1;obtain ⟨Ao62,co62,eo62⟩:=Kd.R_slice HO235.out;subst eo62;have hnb63:=NB248_223.out;have hnc63:=NB223_248.out;have hnb64:=NB248_224.out;have hnc64:=NB224_248.out;have hnb65:=NB248_228.out;have hnc65:=NB228_248.out;have hcz66_0:=z0_ BK248;have hcz66_1:=z1_ BK248;have hfz66_0:=hf_ BK248 0;have hfz66_1:=hf_ BK248 1;obtain ⟨Ao67,co67,eo67⟩:=Kd.R_slice HO244.out;subst eo67)|((with_reducible refine gate_callee (f:=67) rfl ?_);refine gl (some 20) Tryz.func67 #[.pointer (some ⟨g228,0,none⟩),.int .i64 10] ?_;(with_reducible refine(spec_l01Next.calls g228 t225 t245 t246 10 t249 t250 t251 w _ (IsS92.ch HI228.out) (blg HB.out (IsS92.ge HI228.out)) A7.out).mono ?_);rintro e w68 ⟨rfl,hi,hb,hk⟩;refine⟨_,rfl,?_⟩;replace BK223:=Aside0.mk (KeepBut.blk hk (g':=gb223) (o:= .cells #[.int .i64 0,.slice none 0 0] 26 (0,0)) (bp BK223.out) NB223_228.out (by simp));replace BK224:=Aside0.mk (KeepBut.blk hk (g':=gb224) (o:= .cells #[.int .i64 0,.slice none 0 0] 26 (0,0)) (bp BK224.out) NB224_228.out (by simp));replace HO235:=Aside0.mk (Kd.R_mono (Kd.R_keep (IsS92.apart (show IsS92 w _ g228 t225 t245 t246 from IsS92.ch HI228.out) (by(with_reducible repeat(first|apply Kd.R_alloc|apply Kd.R_drewN|apply Kd.R_drew));exact(Kd.R_mono (Kd.R_mono (Kd.R_far (p:=⟨gb248,1,none⟩) (Kd.R_far (p:=⟨gb248,0,none⟩) (Kd.R_far (p:=⟨gb247,1,none⟩) (Kd.R_far (p:=⟨gb247,0,none⟩) (Kd.R_types (Kd.R_types HO235.out BK247.out (by decide)) BK248.out (by decide)) (fun _ hk=>hk.1.2) (.int .i64 t232)) (fun _ hk=>hk.1.2) (.slice Ao62 t233.length co62)) (fun _ hk=>hk.2) (.int .i64 t241)) (fun _ hk=>hk.2) (.slice Ao67 t242.length co67)) (fun _ h_=>h_.1)) (fun _ h_=>h_.1))) (by decide)) hk (fun _ h=>h.2)) (fun _ h=>h.1));replace HO244:=Aside0.mk (Kd.R_mono (Kd.R_keep (IsS92.apart (show IsS92 w _ g228 t225 t245 t246 from IsS92.ch HI228.out) (by(with_reducible repeat(first|apply Kd.R_alloc|apply Kd.R_drewN|apply Kd.R_drew));exact(Kd.R_mono (Kd.R_mono (Kd.R_far (p:=⟨gb248,1,none⟩) (Kd.R_far (p:=⟨gb248,0,none⟩) (Kd.R_far (p:=⟨gb247,1,none⟩) (Kd.R_far (p:=⟨gb247,0,none⟩) (Kd.R_types (Kd.R_types HO244.out BK247.out (by decide)) BK248.out (by decide)) (fun _ hk=>hk.1.2) (.int .i64 t232)) (fun _ hk=>hk.1.2) (.slice Ao62 t233.length co62)) (fun _ hk=>hk.2) (.int .i64 t241)) (fun _ hk=>hk.2) (.slice Ao67 t242.length co67)) (fun _ h_=>h_.1)) (fun _ h_=>h_.1))) (by decide)) hk (fun _ h=>h.2)) (fun _ h=>h.1));replace BK247:=Aside0.mk (KeepBut.blk hk (g':=gb247) (o:= .cells #[.int .i64 t232,.slice Ao62 t233.length co62] 26 (0,0)) (bp BK247.out) NB247_228.out (by simp));replace BK248:=Aside0.mk (KeepBut.blk hk (g':=gb248) (o:= .cells #[.int .i64 t241,.slice Ao67 t242.length co67] 26 (0,0)) (bp BK248.out) NB248_228.out (by simp));replace HB:=Aside0.mk (hb);replace HI228:=Aside0.mk (hi);(try clear hb);(try clear hb2);(try clear hk);(try clear hi)))
  replace HO235:=Aside0.mk (Kd.R_drew HO235.out);replace HO244:=Aside0.mk (Kd.R_drew HO244.out);replace BK223:=Aside0.mk (blk_drew BK223.out);replace BK224:=Aside0.mk (blk_drew BK224.out);replace BK247:=Aside0.mk (blk_drew BK247.out);replace BK248:=Aside0.mk (blk_drew BK248.out);replace HI228:=Aside0.mk (IsS92.drew HI228.out);replace HB:=Aside0.mk (below_drew1 HB.out);refine start_ (n:=8) (S:=fun w'=>w'.cell? ⟨gb247,0,none⟩=some (.int .i64 t232)∧w'.cell? ⟨gb247,1,none⟩=some (.slice Ao62 t233.length co62)∧w'.cell? ⟨gb248,0,none⟩=some (.int .i64 t241)∧w'.cell? ⟨gb248,1,none⟩=some (.slice Ao67 t242.length co67)) (ds:= []) (ar 0 8) (by kernel_rfl) rfl rfl ⟨(blk_cell BK247.out 0).trans rfl,(blk_cell BK247.out 1).trans rfl,(blk_cell BK248.out 0).trans rfl,(blk_cell BK248.out 1).trans rfl⟩ (fun hHeld=>?_);refine with_tabW spec_DrawJoinOf.tab5 spec_DrawJoinOf.bits5 (fun HT_ HW_=>?_);generalize w68.drew=w69 at HO235 HO244 BK223 BK224 BK247 BK248 HI228 HB hHeld ⊢;refine pu 0 (some 24) (ar 1 7) HT_ ?_;refine pu 3 (some 27) #[U,O,O,U,O,O,O,O] HT_ ?_;refine tk 1 (some 25) #[U,U,O,U,O,O,O,O] HT_ HW_ hHeld ?_;refine tk 4 (some 28) #[U,U,O,U,U,O,O,O] HT_ HW_ hHeld ?_;refine on_ 2 (some 26) (ar 5 3) HT_ fun K hK=>?_;refine gr Tryz.func69 #[.pointer (some ⟨g228,0,none⟩),.agg #[.int .i64 t232,.slice Ao62 t233.length co62]] ?_;with_reducible refine(spec_l01Bad.calls g228 t225 t250 t251 t232 (fun k_=>some k_=(.slice Ao62 t233.length co62:Value).ownBlock) (.slice Ao62 t233.length co62) t233 t270 t271 t274 t275 w _ (IsS92.ch HI228.out) (blg HB.out (IsS92.ge HI228.out)) (Kd.R_tight rfl HO235.out) A46.out).mono ?_
  rintro e w70 ⟨v272,rfl,ho0,hi,hb,hkp⟩;refine⟨_,rfl,?_⟩;have n0_:=Aside0.mk (blk_kept (bk BK223.out) hkp (fun hs_=>Or.elim hs_ (fun hs_=>(fun e_=>(Kd.R_ne HO235.out BK223.out (by decide)) e_) hs_) (fun e_=>NB223_228.out e_)));have n1_:=Aside0.mk (blk_kept (bk BK224.out) hkp (fun hs_=>Or.elim hs_ (fun hs_=>(fun e_=>(Kd.R_ne HO235.out BK224.out (by decide)) e_) hs_) (fun e_=>NB224_228.out e_)));have n2_:=Aside0.mk (hi);have n3_:=Aside0.mk (Kd.R_mono (ok':=fun k_=>some k_≠(v272:Value).ownBlock) (Kd.R_keptB ((IsS92.apart HI228.out HO244.out (by decide))) hkp (fun k_ hk_ hs_=>Or.elim hs_ (fun hs_=>(hk_.1.2) hs_) (fun e_=>(hk_.2) e_))) (fun k_ hk_=>fun e_=>Or.elim (ho0.1 k_ e_.symm) (fun hs_=>hk_.2.1 (by first|exact hs_|exact .inl hs_)) (fun hn_=>Nat.not_le.2 hk_.2.2 hn_)));have n4_:=Aside0.mk (blk_kept (bk BK247.out) hkp (fun hs_=>Or.elim hs_ (fun hs_=>(fun e_=>(Kd.R_ne HO235.out BK247.out (by decide)) e_) hs_) (fun e_=>NB247_228.out e_)));have n5_:=Aside0.mk (blk_kept (bk BK248.out) hkp (fun hs_=>Or.elim hs_ (fun hs_=>(fun e_=>(Kd.R_ne HO235.out BK248.out (by decide)) e_) hs_) (fun e_=>NB248_228.out e_)));have n6_:=Aside0.mk (Kd.R_mono (ok':=fun k_=>some k_≠(.slice Ao67 t242.length co67:Value).ownBlock) ho0 (fun k_ hk_=>Or.elim hk_ (fun hs_=>fun e_=>((((IsS92.apart HI228.out HO244.out (by decide))).1 k_ e_.symm).1.2) hs_) (fun hn_=>(Kd.fresh' (Kd.R_lt (kr HO244.out)) k_ hn_))));have n7_:=Aside0.mk (hb);clear BK223;clear BK224;clear HI228;clear HO244;clear BK247;clear BK248;clear HB;clear HO235;have BK223:=n0_;have BK224:=n1_;have HI228:=n2_;have HO244:=n3_;have BK247:=n4_;have BK248:=n5_;have HO273:=n6_;have HB:=n7_;clear n0_ n1_ n2_ n3_ n4_ n5_ n6_ n7_;(try clear hb)
  (try clear hkp)
  (try clear ho0)
  refine hK.out _ _ ⟨(blk_cell BK247.out 0).trans rfl,(blk_cell BK247.out 1).trans rfl,(blk_cell BK248.out 0).trans rfl,(blk_cell BK248.out 1).trans rfl⟩ (fun hHeld=>?_);clear hK K;refine nr 26 ?_;refine on_ 5 (some 29) (ar 6 2) HT_ fun K hK=>?_;refine gr Tryz.func69 #[.pointer (some ⟨g228,0,none⟩),.agg #[.int .i64 t241,.slice Ao67 t242.length co67]] ?_;with_reducible refine(spec_l01Bad.calls g228 t225 t274 t275 t241 (fun k_=>some k_=(.slice Ao67 t242.length co67:Value).ownBlock) (.slice Ao67 t242.length co67) t242 t276 t277 t280 t281 w _ (IsS92.ch HI228.out) (blg HB.out (IsS92.ge HI228.out)) (Kd.R_tight rfl HO244.out) A47.out).mono ?_
  rintro e w71 ⟨v278,rfl,ho0,hi,hb,hkp⟩;refine⟨_,rfl,?_⟩;have n0_:=Aside0.mk (blk_kept (bk BK223.out) hkp (fun hs_=>Or.elim hs_ (fun hs_=>(fun e_=>(Kd.R_ne HO244.out BK223.out (by decide)) e_) hs_) (fun e_=>NB223_228.out e_)));have n1_:=Aside0.mk (blk_kept (bk BK224.out) hkp (fun hs_=>Or.elim hs_ (fun hs_=>(fun e_=>(Kd.R_ne HO244.out BK224.out (by decide)) e_) hs_) (fun e_=>NB224_228.out e_)));have n2_:=Aside0.mk (hi);have n3_:=Aside0.mk (blk_kept (bk BK247.out) hkp (fun hs_=>Or.elim hs_ (fun hs_=>(fun e_=>(Kd.R_ne HO244.out BK247.out (by decide)) e_) hs_) (fun e_=>NB247_228.out e_)));have n4_:=Aside0.mk (blk_kept (bk BK248.out) hkp (fun hs_=>Or.elim hs_ (fun hs_=>(fun e_=>(Kd.R_ne HO244.out BK248.out (by decide)) e_) hs_) (fun e_=>NB248_228.out e_)));have n5_:=Aside0.mk (Kd.R_mono (ok':=fun k_=>some k_≠(v278:Value).ownBlock) (Kd.R_keptB ((IsS92.apart HI228.out HO273.out (by decide))) hkp (fun k_ hk_ hs_=>Or.elim hs_ (fun hs_=>(hk_.1) hs_) (fun e_=>(hk_.2) e_))) (fun k_ hk_=>fun e_=>Or.elim (ho0.1 k_ e_.symm) (fun hs_=>hk_.2.1 (by first|exact hs_|exact .inl hs_)) (fun hn_=>Nat.not_le.2 hk_.2.2 hn_)));have n6_:=Aside0.mk (Kd.R_mono (ok':=fun k_=>some k_≠(v272:Value).ownBlock) ho0 (fun k_ hk_=>Or.elim hk_ (fun hs_=>fun e_=>((((IsS92.apart HI228.out HO273.out (by decide))).1 k_ e_.symm).1) hs_) (fun hn_=>(Kd.fresh' (Kd.R_lt (kr HO273.out)) k_ hn_))));have n7_:=Aside0.mk (hb);clear BK223;clear BK224;clear HI228;clear BK247;clear BK248;clear HO273;clear HB;clear HO244;have BK223:=n0_;have BK224:=n1_;have HI228:=n2_;have BK247:=n3_;have BK248:=n4_;have HO273:=n5_;have HO279:=n6_;have HB:=n7_;clear n0_ n1_ n2_ n3_ n4_ n5_ n6_ n7_;(try clear hb)
  (try clear hkp)
  (try clear ho0)
  obtain ⟨Ao73,co73,eo73⟩:=Kd.R_slice HO273.out;(first|subst eo73|(injection eo73 with f1_ f2_ f3_;have f4_:=f1_.symm;have f5_:=f3_.symm;clear f1_ f2_ f3_;subst f4_;subst f5_))
  obtain ⟨Ao76,co76,eo76⟩:=Kd.R_slice HO279.out;(first|subst eo76|(injection eo76 with f1_ f2_ f3_;have f4_:=f1_.symm;have f5_:=f3_.symm;clear f1_ f2_ f3_;subst f4_;subst f5_))
  refine hK.out _ _ ⟨(blk_cell BK247.out 0).trans rfl,(blk_cell BK247.out 1).trans rfl,(blk_cell BK248.out 0).trans rfl,(blk_cell BK248.out 1).trans rfl⟩ (fun hHeld=>?_);clear hK K;refine nr 29 ?_;refine on_ 6 (none) (ar 7 1) HT_ fun K hK=>?_;have hs72:w71.cell? ⟨gb223,0,none⟩=some (.int .i64 0):=(blk_cell BK223.out 0).trans rfl;have hfs72:=blk_frozen BK223.out 0;have hns72_1:=NB224_223.out;have hns72_2:=NB247_223.out;have hns72_3:=NB248_223.out;have hms72_1:=NB223_224.out;have hms72_2:=NB223_247.out;have hms72_3:=NB223_248.out;have hs74:w71.cell? ⟨gb223,1,none⟩=some (.slice none 0 0):=(blk_cell BK223.out 1).trans rfl;have hfs74:=blk_frozen BK223.out 1;have hns74_1:=NB224_223.out;have hns74_2:=NB247_223.out;have hns74_3:=NB248_223.out;have hms74_1:=NB223_224.out;have hms74_2:=NB223_247.out;have hms74_3:=NB223_248.out;refine skip_ (w1:=?_) (by rfl) rfl ?_ ?_;rotate_left
  ·go_simp;rfl
  refine hK.out _ _ ⟨((cell_far (p:=⟨gb223,_,none⟩) NB247_223.out _).trans (((cell_far (p:=⟨gb223,_,none⟩) NB247_223.out _).trans (hHeld.1)))),((cell_far (p:=⟨gb223,_,none⟩) NB247_223.out _).trans (((cell_far (p:=⟨gb223,_,none⟩) NB247_223.out _).trans (hHeld.2.1)))),((cell_far (p:=⟨gb223,_,none⟩) NB248_223.out _).trans (((cell_far (p:=⟨gb223,_,none⟩) NB248_223.out _).trans (hHeld.2.2.1)))),((cell_far (p:=⟨gb223,_,none⟩) NB248_223.out _).trans (((cell_far (p:=⟨gb223,_,none⟩) NB248_223.out _).trans (hHeld.2.2.2))))⟩ (fun hHeld=>?_);clear hK K;refine on_ 7 (none) (ar 8 0) HT_ fun K hK=>?_;have hs75:w71.cell? ⟨gb224,0,none⟩=some (.int .i64 0):=(blk_cell BK224.out 0).trans rfl;have hfs75:=blk_frozen BK224.out 0;have hns75_0:=NB223_224.out;have hns75_2:=NB247_224.out;have hns75_3:=NB248_224.out;have hms75_0:=NB224_223.out;have hms75_2:=NB224_247.out;have hms75_3:=NB224_248.out;have hs77:w71.cell? ⟨gb224,1,none⟩=some (.slice none 0 0):=(blk_cell BK224.out 1).trans rfl;have hfs77:=blk_frozen BK224.out 1;have hns77_0:=NB223_224.out;have hns77_2:=NB247_224.out;have hns77_3:=NB248_224.out;have hms77_0:=NB224_223.out;have hms77_2:=NB224_247.out;have hms77_3:=NB224_248.out;refine skip_ (w1:=?_) (by rfl) rfl ?_ ?_;rotate_left
  ·go_simp;rfl
  refine hK.out _ _ ⟨((cell_far (p:=⟨gb224,_,none⟩) NB247_224.out _).trans (((cell_far (p:=⟨gb224,_,none⟩) NB247_224.out _).trans (hHeld.1)))),((cell_far (p:=⟨gb224,_,none⟩) NB247_224.out _).trans (((cell_far (p:=⟨gb224,_,none⟩) NB247_224.out _).trans (hHeld.2.1)))),((cell_far (p:=⟨gb224,_,none⟩) NB248_224.out _).trans (((cell_far (p:=⟨gb224,_,none⟩) NB248_224.out _).trans (hHeld.2.2.1)))),((cell_far (p:=⟨gb224,_,none⟩) NB248_224.out _).trans (((cell_far (p:=⟨gb224,_,none⟩) NB248_224.out _).trans (hHeld.2.2.2))))⟩ (fun hHeld=>?_);clear hK K;refine done_ (done_of HT_.out (by kernel_rfl)) ?_;try go_wp2
  refine bodyPost_ret (results_cc rfl _ _ gb223 gb224 26 26 #[.int .i64 t270,.slice Ao73 t271.length co73] #[.int .i64 t276,.slice Ao76 t277.length co76] (0,0) (0,0) _ _ rfl (bp BK223.out) Tryz.underlying26 rfl (by kernel_rfl) rfl (bp BK224.out) Tryz.underlying26 rfl (by kernel_rfl)) rfl ?_;exact⟨_,_,rr,by(with_reducible repeat(first|apply Kd.R_alloc|apply Kd.R_drewN|apply Kd.R_drew));exact Kd.R_mono (Kd.R_far (p:=⟨gb224,1,none⟩) (Kd.R_far (p:=⟨gb224,0,none⟩) (Kd.R_far (p:=⟨gb223,1,none⟩) (Kd.R_far (p:=⟨gb223,0,none⟩) (Kd.R_types (Kd.R_types HO273.out BK223.out (by decide)) BK224.out (by decide)) (fun _ hk=>hk.1.2) (.int .i64 t270)) (fun _ hk=>hk.1.2) (.slice Ao73 t271.length co73)) (fun _ hk=>hk.2) (.int .i64 t276)) (fun _ hk=>hk.2) (.slice Ao76 t277.length co76)) (fun _ hk=>hk.1.1),by(with_reducible repeat(first|apply Kd.R_alloc|apply Kd.R_drewN|apply Kd.R_drew));exact Kd.R_mono (Kd.R_far (p:=⟨gb224,1,none⟩) (Kd.R_far (p:=⟨gb224,0,none⟩) (Kd.R_far (p:=⟨gb223,1,none⟩) (Kd.R_far (p:=⟨gb223,0,none⟩) (Kd.R_types (Kd.R_types HO279.out BK223.out (by decide)) BK224.out (by decide)) (fun _ hk=>hk.1.2) (.int .i64 t270)) (fun _ hk=>hk.1.2) (.slice Ao73 t271.length co73)) (fun _ hk=>hk.2) (.int .i64 t276)) (fun _ hk=>hk.2) (.slice Ao76 t277.length co76)) (fun _ hk=>hk.1.1),blg HB.out (IsS92.ge HI228.out)⟩
end Go.Proofs.YtlhkdbkjafiikaaGreat.R
end

section
namespace Go.Proofs.YtlhkdbkjafiikaaGreat.R
open Go.RowKit Go.Proofs.YtlhkdbkjafiikaaGreat.Q Go.Proofs.YtlhkdbkjafiikaaGreat.X Go.Proofs.YtlhkdbkjafiikaaGreatW.PrintWords Go.Proofs.YtlhkdbkjafiikaaGreatW.PrintLast Go.Proofs.YtlhkdbkjafiikaaGreatW.PrintMore
attribute [local go_sem] max2_int min2_int max_two min_two max_three min_three max_four min_four
set_option linter.unusedVariables false
set_option linter.unusedSimpArgs false
def spec_DrawRenumberComplex.f (k:Nat) (l0:List Int):Option (Int×List Int×List Int):=(spec_l01From.f k l0).bind fun bt283=>((spec_l01Draw.f k bt283.1 bt283.2.1 bt283.2.2).bind fun bt287=>((spec_l01DrawOrder.f bt283.1 bt287.2.2.1 bt287.2.2.2 bt287.1).bind fun bt294=>((spec_l01Next.f bt283.1 bt294.2.1 bt294.2.2 16).bind fun bt299=>(if bt299.1=0 then (if bt294.1.length<17592186044416 then ((spec_l01Bad.f bt283.1 bt299.2.1 bt299.2.2 bt287.1 bt287.2.1).bind fun bt305=>(some (bt305.1,bt305.2.1,(bt294.1 ++ [0])))) else (none)) else (if bt299.1=1 then (if 0≤(wrap64 ((bt294.1.length:Int) - 1)) then (if (wrap64 ((bt294.1.length:Int) - 1))<(bt294.1.length:Int) then ((spec_l01Pick.f bt283.1 bt299.2.1 bt299.2.2 (([(-1),6,rd bt294.1 (wrap64 ((bt294.1.length:Int) - 1))]:List Int))).bind fun bt315=>(if 0<(bt294.1.length:Int) then ((spec_l01Bad.f bt283.1 bt315.2.1 bt315.2.2 bt287.1 bt287.2.1).bind fun bt319=>(some (bt319.1,bt319.2.1,(bt294.1.set (0:Int).toNat bt315.1)))) else (none))) else (none)) else (none)) else ((spec_l01Bad.f bt283.1 bt299.2.1 bt299.2.2 bt287.1 bt287.2.1).bind fun bt325=>(some (bt325.1,bt325.2.1,bt294.1))))))))
theorem spec_DrawRenumberComplex.mono:∀ a0 k,LeO (spec_DrawRenumberComplex.f k a0) (spec_DrawRenumberComplex.f (k+1) a0):=by
 intro a0 k;unfold spec_DrawRenumberComplex.f;repeat' first
   |(with_reducible first|exact spec_l01Draw.mono _ _ _ _|exact spec_l01From.mono _ _|exact LeO.refl _|exact LeO.none _|refine LeO.ite ?_ ?_|refine LeO.bind ?_ (fun _=>?_))
set_option maxHeartbeats 8000000 in
set_option maxRecDepth 100000 in
theorem spec_DrawRenumberComplex.calls (k:Nat) (A0:Option Addr) (c0:Nat) (l0:List Int) (r1:Int) (r2:List Int) (r3:List Int) (w:World) (hr0:Kd.C (Kd.int .u8) w A0 l0.length l0) (hc0:l0.length≤c0) (h:spec_DrawRenumberComplex.f k l0=some (r1,r2,r3)) :
  Calls Tryz.prog 22 #[.slice A0 l0.length c0] w fun e w'=>∃ v1_ v2_:Value,e = .returned (.tuple #[.agg #[.int .i64 r1,v1_],v2_])∧Kd.R (Kd.int .i64) 2 w' w.heap.size (fun k_=>some k_≠(v2_:Value).ownBlock) v1_ r2∧Kd.R (Kd.int .i64) 2 w' w.heap.size (fun k_=>some k_≠(v1_:Value).ownBlock) v2_ r3∧Below w.heap.size w w':=by
 have hu26:=Tryz.underlying26;have HR0:=Aside0.mk hr0;have HC0:=Aside0.mk hc0;clear hr0 hc0;have HB:=Aside0.mk (Below.refl w.heap.size w);have H:((spec_l01From.f k l0).bind fun bt283=>((spec_l01Draw.f k bt283.1 bt283.2.1 bt283.2.2).bind fun bt287=>((spec_l01DrawOrder.f bt283.1 bt287.2.2.1 bt287.2.2.2 bt287.1).bind fun bt294=>((spec_l01Next.f bt283.1 bt294.2.1 bt294.2.2 16).bind fun bt299=>(if bt299.1=0 then (if bt294.1.length<17592186044416 then ((spec_l01Bad.f bt283.1 bt299.2.1 bt299.2.2 bt287.1 bt287.2.1).bind fun bt305=>(some (bt305.1,bt305.2.1,(bt294.1 ++ [0])))) else (none)) else (if bt299.1=1 then (if 0≤(wrap64 ((bt294.1.length:Int) - 1)) then (if (wrap64 ((bt294.1.length:Int) - 1))<(bt294.1.length:Int) then ((spec_l01Pick.f bt283.1 bt299.2.1 bt299.2.2 (([(-1),6,rd bt294.1 (wrap64 ((bt294.1.length:Int) - 1))]:List Int))).bind fun bt315=>(if 0<(bt294.1.length:Int) then ((spec_l01Bad.f bt283.1 bt315.2.1 bt315.2.2 bt287.1 bt287.2.1).bind fun bt319=>(some (bt319.1,bt319.2.1,(bt294.1.set (0:Int).toNat bt315.1)))) else (none))) else (none)) else (none)) else ((spec_l01Bad.f bt283.1 bt299.2.1 bt299.2.2 bt287.1 bt287.2.1).bind fun bt325=>(some (bt325.1,bt325.2.1,bt294.1)))))))))=some (r1,r2,r3):=h;clear h;replace H:=Option.bind_eq_some_iff.mp H;obtain ⟨⟨t283,t284,t285⟩,A20,H⟩:=H;replace H:((spec_l01Draw.f k t283 t284 t285).bind fun bt287=>((spec_l01DrawOrder.f t283 bt287.2.2.1 bt287.2.2.2 bt287.1).bind fun bt294=>((spec_l01Next.f t283 bt294.2.1 bt294.2.2 16).bind fun bt299=>(if bt299.1=0 then (if bt294.1.length<17592186044416 then ((spec_l01Bad.f t283 bt299.2.1 bt299.2.2 bt287.1 bt287.2.1).bind fun bt305=>(some (bt305.1,bt305.2.1,(bt294.1 ++ [0])))) else (none)) else (if bt299.1=1 then (if 0≤(wrap64 ((bt294.1.length:Int) - 1)) then (if (wrap64 ((bt294.1.length:Int) - 1))<(bt294.1.length:Int) then ((spec_l01Pick.f t283 bt299.2.1 bt299.2.2 (([(-1),6,rd bt294.1 (wrap64 ((bt294.1.length:Int) - 1))]:List Int))).bind fun bt315=>(if 0<(bt294.1.length:Int) then ((spec_l01Bad.f t283 bt315.2.1 bt315.2.2 bt287.1 bt287.2.1).bind fun bt319=>(some (bt319.1,bt319.2.1,(bt294.1.set (0:Int).toNat bt315.1)))) else (none))) else (none)) else (none)) else ((spec_l01Bad.f t283 bt299.2.1 bt299.2.2 bt287.1 bt287.2.1).bind fun bt325=>(some (bt325.1,bt325.2.1,bt294.1))))))))=some (r1,r2,r3):=H;have A2:=Aside0.mk A20;clear A20;replace H:=Option.bind_eq_some_iff.mp H;obtain ⟨⟨t287,t288,t291,t292⟩,A30,H⟩:=H;replace H:((spec_l01DrawOrder.f t283 t291 t292 t287).bind fun bt294=>((spec_l01Next.f t283 bt294.2.1 bt294.2.2 16).bind fun bt299=>(if bt299.1=0 then (if bt294.1.length<17592186044416 then ((spec_l01Bad.f t283 bt299.2.1 bt299.2.2 t287 t288).bind fun bt305=>(some (bt305.1,bt305.2.1,(bt294.1 ++ [0])))) else (none)) else (if bt299.1=1 then (if 0≤(wrap64 ((bt294.1.length:Int) - 1)) then (if (wrap64 ((bt294.1.length:Int) - 1))<(bt294.1.length:Int) then ((spec_l01Pick.f t283 bt299.2.1 bt299.2.2 (([(-1),6,rd bt294.1 (wrap64 ((bt294.1.length:Int) - 1))]:List Int))).bind fun bt315=>(if 0<(bt294.1.length:Int) then ((spec_l01Bad.f t283 bt315.2.1 bt315.2.2 t287 t288).bind fun bt319=>(some (bt319.1,bt319.2.1,(bt294.1.set (0:Int).toNat bt315.1)))) else (none))) else (none)) else (none)) else ((spec_l01Bad.f t283 bt299.2.1 bt299.2.2 t287 t288).bind fun bt325=>(some (bt325.1,bt325.2.1,bt294.1)))))))=some (r1,r2,r3):=H;have A3:=Aside0.mk A30;clear A30;replace H:=Option.bind_eq_some_iff.mp H;obtain ⟨⟨t294,t297,t298⟩,A40,H⟩:=H;replace H:((spec_l01Next.f t283 t297 t298 16).bind fun bt299=>(if bt299.1=0 then (if t294.length<17592186044416 then ((spec_l01Bad.f t283 bt299.2.1 bt299.2.2 t287 t288).bind fun bt305=>(some (bt305.1,bt305.2.1,(t294 ++ [0])))) else (none)) else (if bt299.1=1 then (if 0≤(wrap64 ((t294.length:Int) - 1)) then (if (wrap64 ((t294.length:Int) - 1))<(t294.length:Int) then ((spec_l01Pick.f t283 bt299.2.1 bt299.2.2 (([(-1),6,rd t294 (wrap64 ((t294.length:Int) - 1))]:List Int))).bind fun bt315=>(if 0<(t294.length:Int) then ((spec_l01Bad.f t283 bt315.2.1 bt315.2.2 t287 t288).bind fun bt319=>(some (bt319.1,bt319.2.1,(t294.set (0:Int).toNat bt315.1)))) else (none))) else (none)) else (none)) else ((spec_l01Bad.f t283 bt299.2.1 bt299.2.2 t287 t288).bind fun bt325=>(some (bt325.1,bt325.2.1,t294))))))=some (r1,r2,r3):=H;have A4:=Aside0.mk A40;clear A40;replace H:=Option.bind_eq_some_iff.mp H;obtain ⟨⟨t299,t300,t301⟩,A50,H⟩:=H;replace H:(if t299=0 then (if t294.length<17592186044416 then ((spec_l01Bad.f t283 t300 t301 t287 t288).bind fun bt305=>(some (bt305.1,bt305.2.1,(t294 ++ [0])))) else (none)) else (if t299=1 then (if 0≤(wrap64 ((t294.length:Int) - 1)) then (if (wrap64 ((t294.length:Int) - 1))<(t294.length:Int) then ((spec_l01Pick.f t283 t300 t301 (([(-1),6,rd t294 (wrap64 ((t294.length:Int) - 1))]:List Int))).bind fun bt315=>(if 0<(t294.length:Int) then ((spec_l01Bad.f t283 bt315.2.1 bt315.2.2 t287 t288).bind fun bt319=>(some (bt319.1,bt319.2.1,(t294.set (0:Int).toNat bt315.1)))) else (none))) else (none)) else (none)) else ((spec_l01Bad.f t283 t300 t301 t287 t288).bind fun bt325=>(some (bt325.1,bt325.2.1,t294)))))=some (r1,r2,r3):=H;have A5:=Aside0.mk A50;clear A50;by_cases c6:t299=0
 ·rw[if_pos c6] at H;have c6b0:(t299 == 0)=true:=beq_iff_eq.mpr c6;have c6b1:(t299 != 0)=false:=bne_eq_false_iff_eq.mpr c6;clear c6;by_cases c7:t294.length<17592186044416
  ·rw[if_pos c7] at H;have LMc7:=Aside0.mk c7;clear c7;obtain ⟨y302,hy302⟩:∃ y_:List Int,y_=(t294 ++ [0]):=⟨_,rfl⟩
   replace H:((spec_l01Bad.f t283 t300 t301 t287 t288).bind fun bt305=>(some (bt305.1,bt305.2.1,y302)))=some (r1,r2,r3):=by first|(rw[hy302];with_reducible exact H)|(have H2_:=(Option.bind_some _ _).symm.trans H;rw[hy302];with_reducible exact H2_)|(have H2_:=(Option.bind_some _ _).symm.trans H;with_reducible exact H2_)|with_reducible exact H|(rw[hy302];exact H)|exact H
   have Ny302:=Aside0.mk hy302;clear hy302;replace H:=Option.bind_eq_some_iff.mp H;obtain ⟨⟨t305,t306,t309,t310⟩,A80,H⟩:=H;replace H:(some (t305,t306,y302))=some (r1,r2,r3):=H;have A8:=Aside0.mk A80;clear A80;simp only [Option.some.injEq,Prod.mk.injEq] at H;obtain ⟨rfl,rfl,rfl⟩:=H;go_enter Tryz.func22,Tryz.ntmps22;go_wp2_with (first|((with_reducible refine gate_dst (N:=2) rfl ?_);refine bx 2 #[.int .i64 0,.slice none 0 0] 26 ?_;intro gb282 hg w9 hbox hb;have BK282:=Aside0.mk (hbox);have GE282:=gzA hg HB;replace HB:=bsA HB hb;clear hb hbox hg)|((with_reducible refine gate_callee (f:=66) rfl ?_);refine gl (some 8) Tryz.func66 #[.slice A0 l0.length c0] ?_;(with_reducible refine(spec_l01From.calls k _ _ l0 t283 t284 t285 w _ (bl HB.out) HR0.out HC0.out A2.out).mono ?_);rintro e w10 ⟨g286,rfl,hi,hb,hb2⟩;refine⟨_,rfl,?_⟩;replace HB:=Aside0.mk (hb);have HI286:=Aside0.mk (hi);have NB286_282:=Aside0.mk (IsS92.ne_blk hi (blk_below (bk BK282.out) hb2) (by decide));have NB282_286:=Aside0.mk (Ne.symm (IsS92.ne_blk hi (blk_below (bk BK282.out) hb2) (by decide)));replace BK282:=bkA BK282 hb2;(try clear hb);(try clear hb2);(try clear hk);(try clear hi))|((with_reducible refine gate_callee (f:=75) rfl ?_);refine gl (some 10) Tryz.func75 #[.pointer (some ⟨g286,0,none⟩)] ?_;(with_reducible refine(spec_l01Draw.calls k g286 t283 t284 t285 t287 t288 t291 t292 w _ (IsS92.ch HI286.out) (blg HB.out (IsS92.ge HI286.out)) A3.out).mono ?_);rintro e w11 ⟨v289,rfl,ho0,hi,hb,hk⟩;refine⟨_,rfl,?_⟩;replace BK282:=Aside0.mk (kbk hk (bk BK282.out) NB282_286.out);have HO290:=Aside0.mk (Kd.R_lower ho0 (below_size (blg HB.out (IsS92.ge HI286.out))));replace HB:=Aside0.mk (hb);replace HI286:=Aside0.mk (hi);(try clear hb);(try clear hb2);(try clear hk);(try clear hi);(try clear ho0))|((with_reducible refine gate_dst (N:=5) rfl ?_);refine bx 5 #[.int .i64 0,.slice none 0 0] 26 ?_;intro gb293 hg w12 hbox hb;replace HO290:=krA HO290 hb;have BK293:=Aside0.mk (hbox);have GW293:=Aside0.mk ((by rw[hg];exact(below_size (blg HB.out (IsS92.ge HI286.out))):w.heap.size≤gb293));have GE293:=Aside0.mk ((by rw[hg];exact(below_size (blg HB.out (IsS92.ge HI286.out))):w.heap.size≤gb293));replace HB:=Aside0.mk (below_step (blg HB.out (IsS92.ge HI286.out)) hb);have NB282_293:=nlA hg BK282;have NB293_282:=ngA hg BK282;replace BK282:=bkA BK282 hb;have NB286_293:=Aside0.mk ((by rw[hg];exact Nat.ne_of_lt (IsS92.lt (show IsS92 w _ g286 t283 t291 t292 from IsS92.ch HI286.out)):g286≠gb293));have NB293_286:=Aside0.mk ((by rw[hg];exact Nat.ne_of_gt (IsS92.lt (show IsS92 w _ g286 t283 t291 t292 from IsS92.ch HI286.out)):gb293≠g286));replace HI286:=Aside0.mk (IsS92.below (IsS92.ch HI286.out) hb);clear hb hbox hg;have hnb13:=NB293_282.out;have hnc13:=NB282_293.out;have hnb14:=NB293_286.out;have hnc14:=NB286_293.out;have hcz15_0:=z0_ BK293;have hcz15_1:=z1_ BK293;have hfz15_0:=hf_ BK293 0;have hfz15_1:=hf_ BK293 1;obtain ⟨Ao16,co16,eo16⟩:=Kd.R_slice HO290.out;subst eo16)|((with_reducible refine gate_callee (f:=80) rfl ?_);refine gl (some 14) Tryz.func80 #[.pointer (some ⟨g286,0,none⟩),.int .i64 t287] ?_;(with_reducible refine(spec_l01DrawOrder.calls g286 t283 t291 t292 t287 t294 t297 t298 w _ (IsS92.ch HI286.out) (blg HB.out (IsS92.ge HI286.out)) A4.out).mono ?_);rintro e w17 ⟨v295,rfl,ho0,hi,hb,hk⟩;refine⟨_,rfl,?_⟩;replace BK282:=Aside0.mk (KeepBut.blk hk (g':=gb282) (o:= .cells #[.int .i64 0,.slice none 0 0] 26 (0,0)) (bp BK282.out) NB282_286.out (by simp));have HO296:=Aside0.mk (Kd.R_lower (Kd.R_new' ho0 (Kd.R_lt (by(with_reducible repeat(first|apply Kd.R_alloc|apply Kd.R_drewN|apply Kd.R_drew));exact(Kd.R_mono (Kd.R_far (p:=⟨gb293,1,none⟩) (Kd.R_far (p:=⟨gb293,0,none⟩) (Kd.R_types HO290.out BK293.out (by decide)) (fun _ hk=>hk.2) (.int .i64 t287)) (fun _ hk=>hk.2) (.slice Ao16 t288.length co16)) (fun _ h_=>h_.1))))) (below_size (blg HB.out (IsS92.ge HI286.out))));replace HO290:=Aside0.mk (Kd.R_mono (Kd.R_told (Kd.R_oldK (IsS92.apart (show IsS92 w _ g286 t283 t291 t292 from IsS92.ch HI286.out) (by(with_reducible repeat(first|apply Kd.R_alloc|apply Kd.R_drewN|apply Kd.R_drew));exact(Kd.R_mono (Kd.R_far (p:=⟨gb293,1,none⟩) (Kd.R_far (p:=⟨gb293,0,none⟩) (Kd.R_types HO290.out BK293.out (by decide)) (fun _ hk=>hk.2) (.int .i64 t287)) (fun _ hk=>hk.2) (.slice Ao16 t288.length co16)) (fun _ h_=>h_.1))) (by decide)) hk) (Kd.R_base ho0)) (fun _ h_=>h_.1));replace BK293:=Aside0.mk (KeepBut.blk hk (g':=gb293) (o:= .cells #[.int .i64 t287,.slice Ao16 t288.length co16] 26 (0,0)) (bp BK293.out) NB293_286.out (by simp));replace HB:=Aside0.mk (hb);replace HI286:=Aside0.mk (hi);(try clear hb);(try clear hb2);(try clear hk);(try clear hi);(try clear ho0))|((with_reducible refine gate_callee (f:=67) rfl ?_);refine gl (some 16) Tryz.func67 #[.pointer (some ⟨g286,0,none⟩),.int .i64 16] ?_;(with_reducible refine(spec_l01Next.calls g286 t283 t297 t298 16 t299 t300 t301 w _ (IsS92.ch HI286.out) (blg HB.out (IsS92.ge HI286.out)) A5.out).mono ?_);rintro e w18 ⟨rfl,hi,hb,hk⟩;refine⟨_,rfl,?_⟩;replace BK282:=Aside0.mk (kbk hk (bk BK282.out) NB282_286.out);replace HO290:=Aside0.mk (Kd.R_mono (Kd.R_keep (IsS92.apart (show IsS92 w _ g286 t283 t297 t298 from IsS92.ch HI286.out) (kr HO290.out) (by decide)) hk (fun _ h=>h.2)) (fun _ h=>h.1));replace BK293:=Aside0.mk (kbk hk (bk BK293.out) NB293_286.out);replace HO296:=Aside0.mk (Kd.R_mono (Kd.R_keep (IsS92.apart (show IsS92 w _ g286 t283 t297 t298 from IsS92.ch HI286.out) (kr HO296.out) (by decide)) hk (fun _ h=>h.2)) (fun _ h=>h.1));replace HB:=Aside0.mk (hb);replace HI286:=Aside0.mk (hi);(try clear hb);(try clear hb2);(try clear hk);(try clear hi))|((with_reducible refine gate_builtin (b:= .append) (xs:=#[.tmp 19,.tmp 20]) rfl ?_);at_builtin;refine Kd.R_append (Kd.int .i64) (w0:=w) w.heap.size rfl (.tmp 19) (.tmp 20) 24 2 (.int .i64 0) 8 rfl Tryz.underlying24 info2 rfl (by decide) (by omega) v295 t294 0 [.int .i64 0] (fun k_=>some k_≠(.slice Ao16 t288.length co16:Value).ownBlock) (fun _=>False) rfl rfl ?aP (fun _ hk=>hk.elim) ?aF ?aO ?aB ?aS ?aL ?_;(case aP=>exact rfl);(case aB=>exact(blg HB.out (IsS92.ge HI286.out)));(case aF=>exact(fun k_ hk=>Kd.fresh' (Kd.R_lt (kr HO290.out)) k_ hk));(case aO=>exact(by(with_reducible repeat(first|apply Kd.R_alloc|apply Kd.R_drewN|apply Kd.R_drew));exact Kd.R_mono HO296.out (fun _ hk=>hk.2)));(case aS=>exact(below_size (blg HB.out (IsS92.ge HI286.out))));(case aL=>have:=LMc7.out;omega);intro v303 w19 ho hb hg hat;rw[← Ny302.out] at ho;have n0_:=Aside0.mk (blk_grown (bk BK282.out) hg (Kd.R_ne HO296.out BK282.out (by decide)));have n1_:=Aside0.mk (IsS92.grown (IsS92.ch HI286.out) hg (IsS92.own_ne HI286.out HO296.out (by decide)));have n2_:=Aside0.mk (Kd.R_after (ok:=(fun _=>True)) (kr HO290.out) hg hat);have n3_:=Aside0.mk (blk_grown (bk BK293.out) hg (Kd.R_ne HO296.out BK293.out (by decide)));have n4_:=Aside0.mk (hb);have n5_:=Aside0.mk (ho);clear BK282;clear HI286;clear HO290;clear BK293;clear HB;clear HO296;have BK282:=n0_;have HI286:=n1_;have HO290:=n2_;have BK293:=n3_;have HB:=n4_;have HO304:=n5_;clear n0_ n1_ n2_ n3_ n4_ n5_;clear ho hb hg hat;have hcz20_0:=z0_ BK293;have hcz20_1:=z1_ BK293;have hfz20_0:=hf_ BK293 0;have hfz20_1:=hf_ BK293 1)|((with_reducible refine gate_callee (f:=69) rfl ?_);refine gl (some 37) Tryz.func69 #[.pointer (some ⟨g286,0,none⟩),.agg #[.int .i64 t287,.slice Ao16 t288.length co16]] ?_;(with_reducible refine(spec_l01Bad.calls g286 t283 t300 t301 t287 (fun k_=>some k_=(.slice Ao16 t288.length co16:Value).ownBlock) (.slice Ao16 t288.length co16) t288 t305 t306 t309 t310 w _ (IsS92.ch HI286.out) (blg HB.out (IsS92.ge HI286.out)) (Kd.R_tight rfl HO290.out) A8.out).mono ?_);rintro e w21 ⟨v307,rfl,ho0,hi,hb,hkp⟩;refine⟨_,rfl,?_⟩;have n0_:=Aside0.mk (blk_kept (bk BK282.out) hkp (fun hs_=>Or.elim hs_ (fun hs_=>(fun e_=>(Kd.R_ne HO290.out BK282.out (by decide)) e_) hs_) (fun e_=>NB282_286.out e_)));have n1_:=Aside0.mk (hi);have n2_:=Aside0.mk (blk_kept (bk BK293.out) hkp (fun hs_=>Or.elim hs_ (fun hs_=>(fun e_=>(Kd.R_ne HO290.out BK293.out (by decide)) e_) hs_) (fun e_=>NB293_286.out e_)));have n3_:=Aside0.mk (Kd.R_mono (ok':=fun k_=>some k_≠(v307:Value).ownBlock) (Kd.R_keptB ((IsS92.apart HI286.out HO304.out (by decide))) hkp (fun k_ hk_ hs_=>Or.elim hs_ (fun hs_=>(hk_.1) hs_) (fun e_=>(hk_.2) e_))) (fun k_ hk_=>fun e_=>Or.elim (ho0.1 k_ e_.symm) (fun hs_=>hk_.2.1 (by first|exact hs_|exact .inl hs_)) (fun hn_=>Nat.not_le.2 hk_.2.2 hn_)));have n4_:=Aside0.mk (Kd.R_mono (ok':=fun k_=>some k_≠(v303:Value).ownBlock) ho0 (fun k_ hk_=>Or.elim hk_ (fun hs_=>fun e_=>((((IsS92.apart HI286.out HO304.out (by decide))).1 k_ e_.symm).1) hs_) (fun hn_=>(Kd.fresh' (Kd.R_lt (kr HO304.out)) k_ hn_))));have n5_:=Aside0.mk (hb);clear BK282;clear HI286;clear BK293;clear HO304;clear HB;clear HO290;have BK282:=n0_;have HI286:=n1_;have BK293:=n2_;have HO304:=n3_;have HO308:=n4_;have HB:=n5_;clear n0_ n1_ n2_ n3_ n4_ n5_;(try clear hb);(try clear hkp);(try clear ho0);have hnb22:=NB282_286.out;have hnc22:=NB286_282.out;have hcz23_0:=z0_ BK282;have hcz23_1:=z1_ BK282;have hfz23_0:=hf_ BK282 0;have hfz23_1:=hf_ BK282 1;obtain ⟨Ao24,co24,eo24⟩:=Kd.R_slice HO308.out;subst eo24))
   refine bodyPost_ret (results_ct rfl _ _ gb282 26 #[.int .i64 t305,.slice Ao24 t306.length co24] (0,0) _ rfl (bp BK282.out) Tryz.underlying26 rfl (by kernel_rfl)) rfl ?_;exact⟨_,_,rr,by(with_reducible repeat(first|apply Kd.R_alloc|apply Kd.R_drewN|apply Kd.R_drew));exact Kd.R_mono (Kd.R_far (p:=⟨gb282,1,none⟩) (Kd.R_far (p:=⟨gb282,0,none⟩) (Kd.R_types HO308.out BK282.out (by decide)) (fun _ hk=>hk.2) (.int .i64 t305)) (fun _ hk=>hk.2) (.slice Ao24 t306.length co24)) (fun _ hk=>hk.1),by(with_reducible repeat(first|apply Kd.R_alloc|apply Kd.R_drewN|apply Kd.R_drew));exact Kd.R_mono (Kd.R_far (p:=⟨gb282,1,none⟩) (Kd.R_far (p:=⟨gb282,0,none⟩) (Kd.R_types HO304.out BK282.out (by decide)) (fun _ hk=>hk.2) (.int .i64 t305)) (fun _ hk=>hk.2) (.slice Ao24 t306.length co24)) (fun _ hk=>hk.1),blg HB.out (IsS92.ge HI286.out)⟩
  ·rw[if_neg c7] at H;exact absurd H (by simp)
 ·rw[if_neg c6] at H;have c6b0:(t299 == 0)=false:=beq_eq_false_iff_ne.mpr c6;have c6b1:(t299 != 0)=true:=bne_iff_ne.mpr c6;by_cases c25:t299=1
  ·rw[if_pos c25] at H;have c25b0:(t299 == 1)=true:=beq_iff_eq.mpr c25;have c25b1:(t299 != 1)=false:=bne_eq_false_iff_eq.mpr c25;clear c25;obtain ⟨ji26,hji26⟩:∃ j_:Int,(wrap64 ((t294.length:Int) - 1))=j_:=⟨_,rfl⟩
   replace H:(if 0≤(ji26) then (if (ji26)<(t294.length:Int) then ((spec_l01Pick.f t283 t300 t301 (([(-1),6,rd t294 (ji26)]:List Int))).bind fun bt315=>(if 0<(t294.length:Int) then ((spec_l01Bad.f t283 bt315.2.1 bt315.2.2 t287 t288).bind fun bt319=>(some (bt319.1,bt319.2.1,(t294.set (0:Int).toNat bt315.1)))) else (none))) else (none)) else (none))=some (r1,r2,r3):=by first|(rw[hji26] at H;exact H)|(simp only [hji26] at H ⊢;exact H)
   (try rw[hji26] at A2)
   (try rw[hji26] at A3)
   (try rw[hji26] at A4)
   (try rw[hji26] at A5)
   have hji26w:(IntKind.i64.wrap ((t294.length:Int) - 1))=ji26:=(i64_w _).trans hji26;by_cases c27:0≤(ji26)
   ·rw[if_pos c27] at H;have c27b0:decide (0≤(ji26))=true:=decide_eq_true c27;clear c27;by_cases c28:(ji26)<(t294.length:Int)
    ·rw[if_pos c28] at H;have c28b0:decide ((ji26)<(t294.length:Int))=true:=decide_eq_true c28;clear c28;obtain ⟨y312,hy312⟩:∃ y_:List Int,y_=(([(-1),6,rd t294 (ji26)]:List Int)):=⟨_,rfl⟩
     replace H:((spec_l01Pick.f t283 t300 t301 y312).bind fun bt315=>(if 0<(t294.length:Int) then ((spec_l01Bad.f t283 bt315.2.1 bt315.2.2 t287 t288).bind fun bt319=>(some (bt319.1,bt319.2.1,(t294.set (0:Int).toNat bt315.1)))) else (none)))=some (r1,r2,r3):=by first|(rw[hy312];with_reducible exact H)|(have H2_:=(Option.bind_some _ _).symm.trans H;rw[hy312];with_reducible exact H2_)|(have H2_:=(Option.bind_some _ _).symm.trans H;with_reducible exact H2_)|with_reducible exact H|(rw[hy312];exact H)|exact H
     have Ny312:=Aside0.mk hy312;clear hy312;replace H:=Option.bind_eq_some_iff.mp H;obtain ⟨⟨t315,t316,t317⟩,A290,H⟩:=H;replace H:(if 0<(t294.length:Int) then ((spec_l01Bad.f t283 t316 t317 t287 t288).bind fun bt319=>(some (bt319.1,bt319.2.1,(t294.set (0:Int).toNat t315)))) else (none))=some (r1,r2,r3):=H;have A29:=Aside0.mk A290;clear A290;by_cases c30:0<(t294.length:Int)
     ·rw[if_pos c30] at H;have c30b0:decide (0<(t294.length:Int))=true:=decide_eq_true c30;have c30b1:decide (0<t294.length)=true:=decide_eq_true (by omega);clear c30;obtain ⟨y318,hy318⟩:∃ y_:List Int,y_=(t294.set (0:Int).toNat t315):=⟨_,rfl⟩
      replace H:((spec_l01Bad.f t283 t316 t317 t287 t288).bind fun bt319=>(some (bt319.1,bt319.2.1,y318)))=some (r1,r2,r3):=by first|(rw[hy318];with_reducible exact H)|(have H2_:=(Option.bind_some _ _).symm.trans H;rw[hy318];with_reducible exact H2_)|(have H2_:=(Option.bind_some _ _).symm.trans H;with_reducible exact H2_)|with_reducible exact H|(rw[hy318];exact H)|exact H
      have Ny318:=Aside0.mk hy318;clear hy318;replace H:=Option.bind_eq_some_iff.mp H;obtain ⟨⟨t319,t320,t323,t324⟩,A320,H⟩:=H;replace H:(some (t319,t320,y318))=some (r1,r2,r3):=H;have A32:=Aside0.mk A320;clear A320;simp only [Option.some.injEq,Prod.mk.injEq] at H;obtain ⟨rfl,rfl,rfl⟩:=H;go_enter Tryz.func22,Tryz.ntmps22;go_wp2_with (first|((with_reducible refine gate_dst (N:=2) rfl ?_);refine bx 2 #[.int .i64 0,.slice none 0 0] 26 ?_;intro gb282 hg w33 hbox hb;have BK282:=Aside0.mk (hbox);have GE282:=gzA hg HB;replace HB:=bsA HB hb;clear hb hbox hg)|((with_reducible refine gate_callee (f:=66) rfl ?_);refine gl (some 8) Tryz.func66 #[.slice A0 l0.length c0] ?_;(with_reducible refine(spec_l01From.calls k _ _ l0 t283 t284 t285 w _ (bl HB.out) HR0.out HC0.out A2.out).mono ?_);rintro e w34 ⟨g286,rfl,hi,hb,hb2⟩;refine⟨_,rfl,?_⟩;replace HB:=Aside0.mk (hb);have HI286:=Aside0.mk (hi);have NB286_282:=Aside0.mk (IsS92.ne_blk hi (blk_below (bk BK282.out) hb2) (by decide));have NB282_286:=Aside0.mk (Ne.symm (IsS92.ne_blk hi (blk_below (bk BK282.out) hb2) (by decide)));replace BK282:=bkA BK282 hb2;(try clear hb);(try clear hb2);(try clear hk);(try clear hi))|((with_reducible refine gate_callee (f:=75) rfl ?_);refine gl (some 10) Tryz.func75 #[.pointer (some ⟨g286,0,none⟩)] ?_;(with_reducible refine(spec_l01Draw.calls k g286 t283 t284 t285 t287 t288 t291 t292 w _ (IsS92.ch HI286.out) (blg HB.out (IsS92.ge HI286.out)) A3.out).mono ?_);rintro e w35 ⟨v289,rfl,ho0,hi,hb,hk⟩;refine⟨_,rfl,?_⟩;replace BK282:=Aside0.mk (kbk hk (bk BK282.out) NB282_286.out);have HO290:=Aside0.mk (Kd.R_lower ho0 (below_size (blg HB.out (IsS92.ge HI286.out))));replace HB:=Aside0.mk (hb);replace HI286:=Aside0.mk (hi);(try clear hb);(try clear hb2);(try clear hk);(try clear hi);(try clear ho0))|((with_reducible refine gate_dst (N:=5) rfl ?_);refine bx 5 #[.int .i64 0,.slice none 0 0] 26 ?_;intro gb293 hg w36 hbox hb;replace HO290:=krA HO290 hb;have BK293:=Aside0.mk (hbox);have GW293:=Aside0.mk ((by rw[hg];exact(below_size (blg HB.out (IsS92.ge HI286.out))):w.heap.size≤gb293));have GE293:=Aside0.mk ((by rw[hg];exact(below_size (blg HB.out (IsS92.ge HI286.out))):w.heap.size≤gb293));replace HB:=Aside0.mk (below_step (blg HB.out (IsS92.ge HI286.out)) hb);have NB282_293:=nlA hg BK282;have NB293_282:=ngA hg BK282;replace BK282:=bkA BK282 hb;have NB286_293:=Aside0.mk ((by rw[hg];exact Nat.ne_of_lt (IsS92.lt (show IsS92 w _ g286 t283 t291 t292 from IsS92.ch HI286.out)):g286≠gb293));have NB293_286:=Aside0.mk ((by rw[hg];exact Nat.ne_of_gt (IsS92.lt (show IsS92 w _ g286 t283 t291 t292 from IsS92.ch HI286.out)):gb293≠g286));replace HI286:=Aside0.mk (IsS92.below (IsS92.ch HI286.out) hb);clear hb hbox hg;have hnb37:=NB293_282.out;have hnc37:=NB282_293.out;have hnb38:=NB293_286.out;have hnc38:=NB286_293.out;have hcz39_0:=z0_ BK293;have hcz39_1:=z1_ BK293;have hfz39_0:=hf_ BK293 0;have hfz39_1:=hf_ BK293 1;obtain ⟨Ao40,co40,eo40⟩:=Kd.R_slice HO290.out;subst eo40)|((with_reducible refine gate_callee (f:=80) rfl ?_);refine gl (some 14) Tryz.func80 #[.pointer (some ⟨g286,0,none⟩),.int .i64 t287] ?_;(with_reducible refine(spec_l01DrawOrder.calls g286 t283 t291 t292 t287 t294 t297 t298 w _ (IsS92.ch HI286.out) (blg HB.out (IsS92.ge HI286.out)) A4.out).mono ?_);rintro e w41 ⟨v295,rfl,ho0,hi,hb,hk⟩;refine⟨_,rfl,?_⟩;replace BK282:=Aside0.mk (KeepBut.blk hk (g':=gb282) (o:= .cells #[.int .i64 0,.slice none 0 0] 26 (0,0)) (bp BK282.out) NB282_286.out (by simp));have HO296:=Aside0.mk (Kd.R_lower (Kd.R_new' ho0 (Kd.R_lt (by(with_reducible repeat(first|apply Kd.R_alloc|apply Kd.R_drewN|apply Kd.R_drew));exact(Kd.R_mono (Kd.R_far (p:=⟨gb293,1,none⟩) (Kd.R_far (p:=⟨gb293,0,none⟩) (Kd.R_types HO290.out BK293.out (by decide)) (fun _ hk=>hk.2) (.int .i64 t287)) (fun _ hk=>hk.2) (.slice Ao40 t288.length co40)) (fun _ h_=>h_.1))))) (below_size (blg HB.out (IsS92.ge HI286.out))));replace HO290:=Aside0.mk (Kd.R_mono (Kd.R_told (Kd.R_oldK (IsS92.apart (show IsS92 w _ g286 t283 t291 t292 from IsS92.ch HI286.out) (by(with_reducible repeat(first|apply Kd.R_alloc|apply Kd.R_drewN|apply Kd.R_drew));exact(Kd.R_mono (Kd.R_far (p:=⟨gb293,1,none⟩) (Kd.R_far (p:=⟨gb293,0,none⟩) (Kd.R_types HO290.out BK293.out (by decide)) (fun _ hk=>hk.2) (.int .i64 t287)) (fun _ hk=>hk.2) (.slice Ao40 t288.length co40)) (fun _ h_=>h_.1))) (by decide)) hk) (Kd.R_base ho0)) (fun _ h_=>h_.1));replace BK293:=Aside0.mk (KeepBut.blk hk (g':=gb293) (o:= .cells #[.int .i64 t287,.slice Ao40 t288.length co40] 26 (0,0)) (bp BK293.out) NB293_286.out (by simp));replace HB:=Aside0.mk (hb);replace HI286:=Aside0.mk (hi);(try clear hb);(try clear hb2);(try clear hk);(try clear hi);(try clear ho0))|((with_reducible refine gate_callee (f:=67) rfl ?_);refine gl (some 16) Tryz.func67 #[.pointer (some ⟨g286,0,none⟩),.int .i64 16] ?_;(with_reducible refine(spec_l01Next.calls g286 t283 t297 t298 16 t299 t300 t301 w _ (IsS92.ch HI286.out) (blg HB.out (IsS92.ge HI286.out)) A5.out).mono ?_);rintro e w42 ⟨rfl,hi,hb,hk⟩;refine⟨_,rfl,?_⟩;replace BK282:=Aside0.mk (kbk hk (bk BK282.out) NB282_286.out);replace HO290:=Aside0.mk (Kd.R_mono (Kd.R_keep (IsS92.apart (show IsS92 w _ g286 t283 t297 t298 from IsS92.ch HI286.out) (kr HO290.out) (by decide)) hk (fun _ h=>h.2)) (fun _ h=>h.1));replace BK293:=Aside0.mk (kbk hk (bk BK293.out) NB293_286.out);replace HO296:=Aside0.mk (Kd.R_mono (Kd.R_keep (IsS92.apart (show IsS92 w _ g286 t283 t297 t298 from IsS92.ch HI286.out) (kr HO296.out) (by decide)) hk (fun _ h=>h.2)) (fun _ h=>h.1));replace HB:=Aside0.mk (hb);replace HI286:=Aside0.mk (hi);(try clear hb);(try clear hb2);(try clear hk);(try clear hi);obtain ⟨Ao43,co43,eo43⟩:=Kd.R_slice HO296.out;subst eo43;have p311:0≤((ji26):Int):=dd;have q311:(ji26)<(t294.length:Int):=dd;obtain ⟨ad311,e311,hx311_0⟩:=Kd.at_int (Kd.R_reads' HO296.out).2.2 (ji26) p311 q311;cases e311;replace p311:=eq_true p311;replace q311:=eq_true q311)|((with_reducible refine gate_dst (N:=32) rfl ?_);refine Kd.R_lit (Kd.int .i64) _ 2 ?hg (N:=32) ?hd (xs:=([(-1),6,rd t294 (ji26)]:List Int)) (inner:= [.int .i64 (-1),.int .i64 6,.int .i64 (rd t294 (ji26))]) (ok:=fun _=>True) (okp:=fun _=>True) ?hr ?hp (fun _ hk=>hk) trivial (Below.refl _ _) (Nat.le_refl _) (by simp) ?_;(case hd=>rfl);(case hg=>rfl);(case hr=>first|(go_simp;done)|(go_simp;rfl));(case hp=>exact(Reps.one (show Kd.M (Kd.int .i64) _ _ _ (-1) [.int .i64 (-1)] from rfl) (Reps.one (show Kd.M (Kd.int .i64) _ _ _ 6 [.int .i64 6] from rfl) (Reps.one (show Kd.M (Kd.int .i64) _ _ _ (rd t294 (ji26)) [.int .i64 (rd t294 (ji26))] from rfl) (Reps.none _ _)))));intro v313 w44 ho45 hb hg_ hnew_;clear hg_ hnew_;(first|rw[← Ny312.out] at ho45|(simp only [Int.reduceToNat] at ho45;rw[← Ny312.out] at ho45));have HO314:=Aside0.mk (Kd.R_lower (Kd.R_new' (Kd.R_new' ho45 (Kd.R_lt (kr HO290.out))) (Kd.R_lt (kr HO296.out))) (below_size (blg HB.out (IsS92.ge HI286.out))));replace HO290:=Aside0.mk (Kd.R_elder' (kr HO290.out) (Kd.R_base ho45) hb);replace HO296:=Aside0.mk (Kd.R_elder' (kr HO296.out) (Kd.R_base ho45) hb);replace BK282:=bkA BK282 hb;replace BK293:=bkA BK293 hb;replace HB:=Aside0.mk (below_step (blg HB.out (IsS92.ge HI286.out)) hb);replace HI286:=Aside0.mk (IsS92.below (IsS92.ch HI286.out) hb);clear hb ho45;obtain ⟨Ao46,co46,eo46⟩:=Kd.R_slice HO314.out;subst eo46)|((with_reducible refine gate_callee (f:=81) rfl ?_);refine gl (some 33) Tryz.func81 #[.pointer (some ⟨g286,0,none⟩),.slice Ao46 y312.length co46] ?_;(with_reducible refine(spec_l01Pick.calls g286 t283 t300 t301 _ _ y312 t315 t316 t317 w _ (IsS92.ch HI286.out) (blg HB.out (IsS92.ge HI286.out)) (cb (Kd.R_reads' HO314.out).2.2) ((Kd.R_reads' HO314.out).2.1) (far_slice (IsS92.own_ne HI286.out HO314.out (by decide))) A29.out).mono ?_);rintro e w47 ⟨rfl,hi,hb,hk⟩;refine⟨_,rfl,?_⟩;replace BK282:=Aside0.mk (kbk hk (bk BK282.out) NB282_286.out);replace HO290:=Aside0.mk (Kd.R_mono (Kd.R_keep (IsS92.apart (show IsS92 w _ g286 t283 t300 t301 from IsS92.ch HI286.out) (kr HO290.out) (by decide)) hk (fun _ h=>h.2)) (fun _ h=>h.1));replace BK293:=Aside0.mk (kbk hk (bk BK293.out) NB293_286.out);replace HO296:=Aside0.mk (Kd.R_mono (Kd.R_keep (IsS92.apart (show IsS92 w _ g286 t283 t300 t301 from IsS92.ch HI286.out) (kr HO296.out) (by decide)) hk (fun _ h=>h.2)) (fun _ h=>h.1));replace HO314:=Aside0.mk (Kd.R_mono (Kd.R_keep (IsS92.apart (show IsS92 w _ g286 t283 t300 t301 from IsS92.ch HI286.out) (kr HO314.out) (by decide)) hk (fun _ h=>h.2)) (fun _ h=>h.1));replace HB:=Aside0.mk (hb);replace HI286:=Aside0.mk (hi);(try clear hb);(try clear hb2);(try clear hk);(try clear hi);have p31:0≤(0:Int):=(by omega);have q31:(0:Int)<((t294.length:Int):Int):=dd;have qi31:(0<t294.length)=True:=eq_true (by omega);obtain ⟨go31,co31,eo31,gb31,gl31,cl31,HG31⟩:=Kd.R_form HO296.out (by omega);(first|cases eo31|(injection eo31 with ea_ en_ ec_;(first|subst ea_|(injection ea_ with ea_;subst ea_));subst ec_;clear en_));have GB31:=Aside0.mk gb31;have GG31:=Aside0.mk HG31;clear gb31 gl31 HG31;(first|simp only [add_plain] at hx311_0|skip);obtain ⟨hx31_0,hf31_0⟩:=Kd.R_celln 0 HO296.out (0:Int) p31 q31;(try rw[show ((0:Int)).toNat=0 from rfl] at hx31_0);(try simp only [Nat.reduceMul,Nat.zero_mul,Nat.zero_add,Nat.reduceAdd] at hx31_0);(try rw[show ((0:Int)).toNat=0 from rfl] at hf31_0);(try simp only [Nat.reduceMul,Nat.zero_mul,Nat.zero_add,Nat.reduceAdd] at hf31_0);replace p31:=eq_true p31;replace q31:=eq_true q31;have n_:=Aside0.mk (Kd.R_mono (ok':=(fun k_=>some k_≠(.slice Ao40 t288.length co40:Value).ownBlock∧some k_≠(.slice Ao46 y312.length co46:Value).ownBlock)) HO296.out (fun k_ hk=>⟨hk.1.2,hk.2⟩));clear HO296;have HO296:=n_;clear n_;obtain ⟨hy48_,hz48_⟩:=Kd.R_celln 0 HO296.out (0:Int) (by omega) (dd);(try simp only [Int.reduceToNat,Int.toNat_zero,Int.toNat_ofNat,Nat.reduceMul,Nat.zero_mul,Nat.zero_add] at hy48_ hz48_);(try rw[show ((0:Int)).toNat=0 from rfl] at hy48_);(try rw[show ((0:Int)).toNat=0 from rfl] at hz48_);have HP48:=Kd.R_putg HO296.out (0:Int) t315)|((with_reducible refine gate_store (t:=2) (p:=34) rfl ?_);refine store_event (t:=2) (p:=34) (v:=?vo_w49) (w1:=(w47.setCell ⟨go31,(0:Int).toNat,none⟩ (.int .i64 t315))) ?hg ?ho ?hn ?hr ?_;(case ho=>rfl);(case hg=>rfl);(case hn=>rfl);(case hr=>first|(go_simp;done)|(go_simp;rfl));intro w49 hw;have hg:w47.grownBy w49 (some go31):=(by rw[hw];exact HP48.2);have hp_:Kd.R (Kd.int .i64) 2 w49 w.heap.size (fun k_=>some k_≠(.slice Ao40 t288.length co40:Value).ownBlock∧some k_≠(.slice Ao46 y312.length co46:Value).ownBlock) (.slice (some ⟨go31,0,none⟩) t294.length co43) y318:=(by rw[hw,Ny318.out];exact HP48.1);clear HP48;replace BK282:=Aside0.mk (blk_grown (bk BK282.out) hg (Kd.R_ne HO296.out BK282.out (by decide)));replace HI286:=Aside0.mk (IsS92.grown (IsS92.ch HI286.out) hg (IsS92.own_ne HI286.out HO296.out (by decide)));replace HO290:=Aside0.mk (Kd.R_after (v:=(.slice (some ⟨go31,0,none⟩) t294.length co43)) (v1:=(.slice (some ⟨go31,0,none⟩) t294.length co43)) (ok:=(fun k_=>some k_≠(.slice Ao46 y312.length co46:Value).ownBlock)) (by(with_reducible repeat(first|apply Kd.R_alloc|apply Kd.R_drewN|apply Kd.R_drew));exact Kd.R_mono HO290.out (fun _ hk=>⟨hk.2,hk.1.2⟩)) hg (.inl rfl));replace BK293:=Aside0.mk (blk_grown (bk BK293.out) hg (Kd.R_ne HO296.out BK293.out (by decide)));replace HO296:=Aside0.mk (hp_);replace HO314:=Aside0.mk (Kd.R_after (v:=(.slice (some ⟨go31,0,none⟩) t294.length co43)) (v1:=(.slice (some ⟨go31,0,none⟩) t294.length co43)) (ok:=(fun k_=>some k_≠(.slice Ao40 t288.length co40:Value).ownBlock)) (by(with_reducible repeat(first|apply Kd.R_alloc|apply Kd.R_drewN|apply Kd.R_drew));exact Kd.R_mono HO314.out (fun _ hk=>⟨hk.1.2,hk.2⟩)) hg (.inl rfl));replace HB:=Aside0.mk ((by rw[hw];exact below_set (HB.out) GB31.out:Below w.heap.size w w49));clear hg hw hp_;have hcz50_0:=z0_ BK293;have hcz50_1:=z1_ BK293;have hfz50_0:=hf_ BK293 0;have hfz50_1:=hf_ BK293 1)|((with_reducible refine gate_callee (f:=69) rfl ?_);refine gl (some 37) Tryz.func69 #[.pointer (some ⟨g286,0,none⟩),.agg #[.int .i64 t287,.slice Ao40 t288.length co40]] ?_;(with_reducible refine(spec_l01Bad.calls g286 t283 t316 t317 t287 (fun k_=>some k_=(.slice Ao40 t288.length co40:Value).ownBlock) (.slice Ao40 t288.length co40) t288 t319 t320 t323 t324 w _ (IsS92.ch HI286.out) (blg HB.out (IsS92.ge HI286.out)) (Kd.R_tight rfl HO290.out) A32.out).mono ?_);rintro e w51 ⟨v321,rfl,ho0,hi,hb,hkp⟩;refine⟨_,rfl,?_⟩;have n0_:=Aside0.mk (blk_kept (bk BK282.out) hkp (fun hs_=>Or.elim hs_ (fun hs_=>(fun e_=>(Kd.R_ne HO290.out BK282.out (by decide)) e_) hs_) (fun e_=>NB282_286.out e_)));have n1_:=Aside0.mk (hi);have n2_:=Aside0.mk (blk_kept (bk BK293.out) hkp (fun hs_=>Or.elim hs_ (fun hs_=>(fun e_=>(Kd.R_ne HO290.out BK293.out (by decide)) e_) hs_) (fun e_=>NB293_286.out e_)));have n3_:=Aside0.mk (Kd.R_mono (ok':=fun k_=>some k_≠(.slice Ao46 y312.length co46:Value).ownBlock∧some k_≠(v321:Value).ownBlock) (Kd.R_keptB ((IsS92.apart HI286.out HO296.out (by decide))) hkp (fun k_ hk_ hs_=>Or.elim hs_ (fun hs_=>(hk_.1.1) hs_) (fun e_=>(hk_.2) e_))) (fun k_ hk_=>⟨hk_.1.1.2,fun e_=>Or.elim (ho0.1 k_ e_.symm) (fun hs_=>hk_.2.1 (by first|exact hs_|exact .inl hs_)) (fun hn_=>Nat.not_le.2 hk_.2.2 hn_)⟩));have n4_:=Aside0.mk (Kd.R_mono (ok':=fun k_=>some k_≠(.slice (some ⟨go31,0,none⟩) t294.length co43:Value).ownBlock∧some k_≠(v321:Value).ownBlock) (Kd.R_keptB ((IsS92.apart HI286.out HO314.out (by decide))) hkp (fun k_ hk_ hs_=>Or.elim hs_ (fun hs_=>(hk_.1.1) hs_) (fun e_=>(hk_.2) e_))) (fun k_ hk_=>⟨hk_.1.1.2,fun e_=>Or.elim (ho0.1 k_ e_.symm) (fun hs_=>hk_.2.1 (by first|exact hs_|exact .inl hs_)) (fun hn_=>Nat.not_le.2 hk_.2.2 hn_)⟩));have n5_:=Aside0.mk (Kd.R_mono (ok':=fun k_=>some k_≠(.slice (some ⟨go31,0,none⟩) t294.length co43:Value).ownBlock∧some k_≠(.slice Ao46 y312.length co46:Value).ownBlock) ho0 (fun k_ hk_=>⟨Or.elim hk_ (fun hs_=>fun e_=>((((IsS92.apart HI286.out HO296.out (by decide))).1 k_ e_.symm).1.1) hs_) (fun hn_=>(Kd.fresh' (Kd.R_lt (kr HO296.out)) k_ hn_)),Or.elim hk_ (fun hs_=>fun e_=>((((IsS92.apart HI286.out HO314.out (by decide))).1 k_ e_.symm).1.1) hs_) (fun hn_=>(Kd.fresh' (Kd.R_lt (kr HO314.out)) k_ hn_))⟩));have n6_:=Aside0.mk (hb);clear BK282;clear HI286;clear BK293;clear HO296;clear HO314;clear HB;clear HO290;have BK282:=n0_;have HI286:=n1_;have BK293:=n2_;have HO296:=n3_;have HO314:=n4_;have HO322:=n5_;have HB:=n6_;clear n0_ n1_ n2_ n3_ n4_ n5_ n6_;(try clear hb);(try clear hkp);(try clear ho0);have hnb52:=NB282_286.out;have hnc52:=NB286_282.out;have hcz53_0:=z0_ BK282;have hcz53_1:=z1_ BK282;have hfz53_0:=hf_ BK282 0;have hfz53_1:=hf_ BK282 1;obtain ⟨Ao54,co54,eo54⟩:=Kd.R_slice HO322.out;subst eo54))
      refine bodyPost_ret (results_ct rfl _ _ gb282 26 #[.int .i64 t319,.slice Ao54 t320.length co54] (0,0) _ rfl (bp BK282.out) Tryz.underlying26 rfl (by kernel_rfl)) rfl ?_;exact⟨_,_,by first|rfl|(simp [errW_none,errW_some] <;> rfl)|(simp only [← hji26];first|rfl|(simp [errW_none,errW_some] <;> rfl))|(simp [*,errW_none,errW_some] <;> rfl),by(with_reducible repeat(first|apply Kd.R_alloc|apply Kd.R_drewN|apply Kd.R_drew));exact Kd.R_mono (Kd.R_far (p:=⟨gb282,1,none⟩) (Kd.R_far (p:=⟨gb282,0,none⟩) (Kd.R_types HO322.out BK282.out (by decide)) (fun _ hk=>hk.2) (.int .i64 t319)) (fun _ hk=>hk.2) (.slice Ao54 t320.length co54)) (fun _ hk=>hk.1.1),by(with_reducible repeat(first|apply Kd.R_alloc|apply Kd.R_drewN|apply Kd.R_drew));exact Kd.R_mono (Kd.R_far (p:=⟨gb282,1,none⟩) (Kd.R_far (p:=⟨gb282,0,none⟩) (Kd.R_types HO296.out BK282.out (by decide)) (fun _ hk=>hk.2) (.int .i64 t319)) (fun _ hk=>hk.2) (.slice Ao54 t320.length co54)) (fun _ hk=>hk.1.2),blg HB.out (IsS92.ge HI286.out)⟩
     ·rw[if_neg c30] at H;exact absurd H (by simp)
    ·rw[if_neg c28] at H;exact absurd H (by simp)
   ·rw[if_neg c27] at H;exact absurd H (by simp)
  ·rw[if_neg c25] at H;have c25b0:(t299 == 1)=false:=beq_eq_false_iff_ne.mpr c25;have c25b1:(t299 != 1)=true:=bne_iff_ne.mpr c25;replace H:=Option.bind_eq_some_iff.mp H;obtain ⟨⟨t325,t326,t329,t330⟩,A550,H⟩:=H;replace H:(some (t325,t326,t294))=some (r1,r2,r3):=H;have A55:=Aside0.mk A550;clear A550;simp only [Option.some.injEq,Prod.mk.injEq] at H;obtain ⟨rfl,rfl,rfl⟩:=H;go_enter Tryz.func22,Tryz.ntmps22;go_wp2_with (first|((with_reducible refine gate_dst (N:=2) rfl ?_);refine bx 2 #[.int .i64 0,.slice none 0 0] 26 ?_;intro gb282 hg w56 hbox hb;have BK282:=Aside0.mk (hbox);have GE282:=gzA hg HB;replace HB:=bsA HB hb;clear hb hbox hg)|((with_reducible refine gate_callee (f:=66) rfl ?_);refine gl (some 8) Tryz.func66 #[.slice A0 l0.length c0] ?_;(with_reducible refine(spec_l01From.calls k _ _ l0 t283 t284 t285 w _ (bl HB.out) HR0.out HC0.out A2.out).mono ?_);rintro e w57 ⟨g286,rfl,hi,hb,hb2⟩;refine⟨_,rfl,?_⟩;replace HB:=Aside0.mk (hb);have HI286:=Aside0.mk (hi);have NB286_282:=Aside0.mk (IsS92.ne_blk hi (blk_below (bk BK282.out) hb2) (by decide));have NB282_286:=Aside0.mk (Ne.symm (IsS92.ne_blk hi (blk_below (bk BK282.out) hb2) (by decide)));replace BK282:=bkA BK282 hb2;(try clear hb);(try clear hb2);(try clear hk);(try clear hi))|((with_reducible refine gate_callee (f:=75) rfl ?_);refine gl (some 10) Tryz.func75 #[.pointer (some ⟨g286,0,none⟩)] ?_;(with_reducible refine(spec_l01Draw.calls k g286 t283 t284 t285 t287 t288 t291 t292 w _ (IsS92.ch HI286.out) (blg HB.out (IsS92.ge HI286.out)) A3.out).mono ?_);rintro e w58 ⟨v289,rfl,ho0,hi,hb,hk⟩;refine⟨_,rfl,?_⟩;replace BK282:=Aside0.mk (kbk hk (bk BK282.out) NB282_286.out);have HO290:=Aside0.mk (Kd.R_lower ho0 (below_size (blg HB.out (IsS92.ge HI286.out))));replace HB:=Aside0.mk (hb);replace HI286:=Aside0.mk (hi);(try clear hb);(try clear hb2);(try clear hk);(try clear hi);(try clear ho0))|((with_reducible refine gate_dst (N:=5) rfl ?_);refine bx 5 #[.int .i64 0,.slice none 0 0] 26 ?_;intro gb293 hg w59 hbox hb;replace HO290:=krA HO290 hb;have BK293:=Aside0.mk (hbox);have GW293:=Aside0.mk ((by rw[hg];exact(below_size (blg HB.out (IsS92.ge HI286.out))):w.heap.size≤gb293));have GE293:=Aside0.mk ((by rw[hg];exact(below_size (blg HB.out (IsS92.ge HI286.out))):w.heap.size≤gb293));replace HB:=Aside0.mk (below_step (blg HB.out (IsS92.ge HI286.out)) hb);have NB282_293:=nlA hg BK282;have NB293_282:=ngA hg BK282;replace BK282:=bkA BK282 hb;have NB286_293:=Aside0.mk ((by rw[hg];exact Nat.ne_of_lt (IsS92.lt (show IsS92 w _ g286 t283 t291 t292 from IsS92.ch HI286.out)):g286≠gb293));have NB293_286:=Aside0.mk ((by rw[hg];exact Nat.ne_of_gt (IsS92.lt (show IsS92 w _ g286 t283 t291 t292 from IsS92.ch HI286.out)):gb293≠g286));replace HI286:=Aside0.mk (IsS92.below (IsS92.ch HI286.out) hb);clear hb hbox hg;have hnb60:=NB293_282.out;have hnc60:=NB282_293.out;have hnb61:=NB293_286.out;have hnc61:=NB286_293.out;have hcz62_0:=z0_ BK293;have hcz62_1:=z1_ BK293;have hfz62_0:=hf_ BK293 0;have hfz62_1:=hf_ BK293 1;obtain ⟨Ao63,co63,eo63⟩:=Kd.R_slice HO290.out;subst eo63)|((with_reducible refine gate_callee (f:=80) rfl ?_);refine gl (some 14) Tryz.func80 #[.pointer (some ⟨g286,0,none⟩),.int .i64 t287] ?_;(with_reducible refine(spec_l01DrawOrder.calls g286 t283 t291 t292 t287 t294 t297 t298 w _ (IsS92.ch HI286.out) (blg HB.out (IsS92.ge HI286.out)) A4.out).mono ?_);rintro e w64 ⟨v295,rfl,ho0,hi,hb,hk⟩;refine⟨_,rfl,?_⟩;replace BK282:=Aside0.mk (KeepBut.blk hk (g':=gb282) (o:= .cells #[.int .i64 0,.slice none 0 0] 26 (0,0)) (bp BK282.out) NB282_286.out (by simp));have HO296:=Aside0.mk (Kd.R_lower (Kd.R_new' ho0 (Kd.R_lt (by(with_reducible repeat(first|apply Kd.R_alloc|apply Kd.R_drewN|apply Kd.R_drew));exact(Kd.R_mono (Kd.R_far (p:=⟨gb293,1,none⟩) (Kd.R_far (p:=⟨gb293,0,none⟩) (Kd.R_types HO290.out BK293.out (by decide)) (fun _ hk=>hk.2) (.int .i64 t287)) (fun _ hk=>hk.2) (.slice Ao63 t288.length co63)) (fun _ h_=>h_.1))))) (below_size (blg HB.out (IsS92.ge HI286.out))));replace HO290:=Aside0.mk (Kd.R_mono (Kd.R_told (Kd.R_oldK (IsS92.apart (show IsS92 w _ g286 t283 t291 t292 from IsS92.ch HI286.out) (by(with_reducible repeat(first|apply Kd.R_alloc|apply Kd.R_drewN|apply Kd.R_drew));exact(Kd.R_mono (Kd.R_far (p:=⟨gb293,1,none⟩) (Kd.R_far (p:=⟨gb293,0,none⟩) (Kd.R_types HO290.out BK293.out (by decide)) (fun _ hk=>hk.2) (.int .i64 t287)) (fun _ hk=>hk.2) (.slice Ao63 t288.length co63)) (fun _ h_=>h_.1))) (by decide)) hk) (Kd.R_base ho0)) (fun _ h_=>h_.1));replace BK293:=Aside0.mk (KeepBut.blk hk (g':=gb293) (o:= .cells #[.int .i64 t287,.slice Ao63 t288.length co63] 26 (0,0)) (bp BK293.out) NB293_286.out (by simp));replace HB:=Aside0.mk (hb);replace HI286:=Aside0.mk (hi);(try clear hb);(try clear hb2);(try clear hk);(try clear hi);(try clear ho0))|((with_reducible refine gate_callee (f:=67) rfl ?_);refine gl (some 16) Tryz.func67 #[.pointer (some ⟨g286,0,none⟩),.int .i64 16] ?_;(with_reducible refine(spec_l01Next.calls g286 t283 t297 t298 16 t299 t300 t301 w _ (IsS92.ch HI286.out) (blg HB.out (IsS92.ge HI286.out)) A5.out).mono ?_);rintro e w65 ⟨rfl,hi,hb,hk⟩;refine⟨_,rfl,?_⟩;replace BK282:=Aside0.mk (kbk hk (bk BK282.out) NB282_286.out);replace HO290:=Aside0.mk (Kd.R_mono (Kd.R_keep (IsS92.apart (show IsS92 w _ g286 t283 t297 t298 from IsS92.ch HI286.out) (kr HO290.out) (by decide)) hk (fun _ h=>h.2)) (fun _ h=>h.1));replace BK293:=Aside0.mk (kbk hk (bk BK293.out) NB293_286.out);replace HO296:=Aside0.mk (Kd.R_mono (Kd.R_keep (IsS92.apart (show IsS92 w _ g286 t283 t297 t298 from IsS92.ch HI286.out) (kr HO296.out) (by decide)) hk (fun _ h=>h.2)) (fun _ h=>h.1));replace HB:=Aside0.mk (hb);replace HI286:=Aside0.mk (hi);(try clear hb);(try clear hb2);(try clear hk);(try clear hi);have hcz66_0:=z0_ BK293;have hcz66_1:=z1_ BK293;have hfz66_0:=hf_ BK293 0;have hfz66_1:=hf_ BK293 1)|((with_reducible refine gate_callee (f:=69) rfl ?_);refine gl (some 37) Tryz.func69 #[.pointer (some ⟨g286,0,none⟩),.agg #[.int .i64 t287,.slice Ao63 t288.length co63]] ?_;(with_reducible refine(spec_l01Bad.calls g286 t283 t300 t301 t287 (fun k_=>some k_=(.slice Ao63 t288.length co63:Value).ownBlock) (.slice Ao63 t288.length co63) t288 t325 t326 t329 t330 w _ (IsS92.ch HI286.out) (blg HB.out (IsS92.ge HI286.out)) (Kd.R_tight rfl HO290.out) A55.out).mono ?_);rintro e w67 ⟨v327,rfl,ho0,hi,hb,hkp⟩;refine⟨_,rfl,?_⟩;have n0_:=Aside0.mk (blk_kept (bk BK282.out) hkp (fun hs_=>Or.elim hs_ (fun hs_=>(fun e_=>(Kd.R_ne HO290.out BK282.out (by decide)) e_) hs_) (fun e_=>NB282_286.out e_)));have n1_:=Aside0.mk (hi);have n2_:=Aside0.mk (blk_kept (bk BK293.out) hkp (fun hs_=>Or.elim hs_ (fun hs_=>(fun e_=>(Kd.R_ne HO290.out BK293.out (by decide)) e_) hs_) (fun e_=>NB293_286.out e_)));have n3_:=Aside0.mk (Kd.R_mono (ok':=fun k_=>some k_≠(v327:Value).ownBlock) (Kd.R_keptB ((IsS92.apart HI286.out HO296.out (by decide))) hkp (fun k_ hk_ hs_=>Or.elim hs_ (fun hs_=>(hk_.1.2) hs_) (fun e_=>(hk_.2) e_))) (fun k_ hk_=>fun e_=>Or.elim (ho0.1 k_ e_.symm) (fun hs_=>hk_.2.1 (by first|exact hs_|exact .inl hs_)) (fun hn_=>Nat.not_le.2 hk_.2.2 hn_)));have n4_:=Aside0.mk (Kd.R_mono (ok':=fun k_=>some k_≠(v295:Value).ownBlock) ho0 (fun k_ hk_=>Or.elim hk_ (fun hs_=>fun e_=>((((IsS92.apart HI286.out HO296.out (by decide))).1 k_ e_.symm).1.2) hs_) (fun hn_=>(Kd.fresh' (Kd.R_lt (kr HO296.out)) k_ hn_))));have n5_:=Aside0.mk (hb);clear BK282;clear HI286;clear BK293;clear HO296;clear HB;clear HO290;have BK282:=n0_;have HI286:=n1_;have BK293:=n2_;have HO296:=n3_;have HO328:=n4_;have HB:=n5_;clear n0_ n1_ n2_ n3_ n4_ n5_;(try clear hb);(try clear hkp);(try clear ho0);have hnb68:=NB282_286.out;have hnc68:=NB286_282.out;have hcz69_0:=z0_ BK282;have hcz69_1:=z1_ BK282;have hfz69_0:=hf_ BK282 0;have hfz69_1:=hf_ BK282 1;obtain ⟨Ao70,co70,eo70⟩:=Kd.R_slice HO328.out;subst eo70))
   refine bodyPost_ret (results_ct rfl _ _ gb282 26 #[.int .i64 t325,.slice Ao70 t326.length co70] (0,0) _ rfl (bp BK282.out) Tryz.underlying26 rfl (by kernel_rfl)) rfl ?_;exact⟨_,_,rr,by(with_reducible repeat(first|apply Kd.R_alloc|apply Kd.R_drewN|apply Kd.R_drew));exact Kd.R_mono (Kd.R_far (p:=⟨gb282,1,none⟩) (Kd.R_far (p:=⟨gb282,0,none⟩) (Kd.R_types HO328.out BK282.out (by decide)) (fun _ hk=>hk.2) (.int .i64 t325)) (fun _ hk=>hk.2) (.slice Ao70 t326.length co70)) (fun _ hk=>hk.1),by(with_reducible repeat(first|apply Kd.R_alloc|apply Kd.R_drewN|apply Kd.R_drew));exact Kd.R_mono (Kd.R_far (p:=⟨gb282,1,none⟩) (Kd.R_far (p:=⟨gb282,0,none⟩) (Kd.R_types HO296.out BK282.out (by decide)) (fun _ hk=>hk.2) (.int .i64 t325)) (fun _ hk=>hk.2) (.slice Ao70 t326.length co70)) (fun _ hk=>hk.1),blg HB.out (IsS92.ge HI286.out)⟩
def spec_DrawComponentsOf.f (k:Nat) (l0:List Int):Option (Int×List Int):=(spec_l01From.f k l0).bind fun bt332=>((spec_l01Spoil.f k bt332.1 bt332.2.1 bt332.2.2).bind fun bt336=>(some (bt336.1,bt336.2.1)))
theorem spec_DrawComponentsOf.mono:∀ a0 k,LeO (spec_DrawComponentsOf.f k a0) (spec_DrawComponentsOf.f (k+1) a0):=by
 intro a0 k;unfold spec_DrawComponentsOf.f;repeat' first
   |(with_reducible first|exact spec_l01From.mono _ _|exact spec_l01Spoil.mono _ _ _ _|exact LeO.refl _|exact LeO.none _|refine LeO.ite ?_ ?_|refine LeO.bind ?_ (fun _=>?_))
set_option maxHeartbeats 8000000 in
set_option maxRecDepth 100000 in
theorem spec_DrawComponentsOf.calls (k:Nat) (A0:Option Addr) (c0:Nat) (l0:List Int) (r1:Int) (r2:List Int) (w:World) (hr0:Kd.C (Kd.int .u8) w A0 l0.length l0) (hc0:l0.length≤c0) (h:spec_DrawComponentsOf.f k l0=some (r1,r2)) :
  Calls Tryz.prog 25 #[.slice A0 l0.length c0] w fun e w'=>∃ v1_:Value,e = .returned (.agg #[.int .i64 r1,v1_])∧Kd.R (Kd.int .i64) 2 w' w.heap.size (fun _=>True) v1_ r2∧Below w.heap.size w w':=by
 have hu26:=Tryz.underlying26;have HR0:=Aside0.mk hr0;have HC0:=Aside0.mk hc0;clear hr0 hc0;have HB:=Aside0.mk (Below.refl w.heap.size w);have H:((spec_l01From.f k l0).bind fun bt332=>((spec_l01Spoil.f k bt332.1 bt332.2.1 bt332.2.2).bind fun bt336=>(some (bt336.1,bt336.2.1))))=some (r1,r2):=h;clear h;replace H:=Option.bind_eq_some_iff.mp H;obtain ⟨⟨t332,t333,t334⟩,A20,H⟩:=H;replace H:((spec_l01Spoil.f k t332 t333 t334).bind fun bt336=>(some (bt336.1,bt336.2.1)))=some (r1,r2):=H;have A2:=Aside0.mk A20;clear A20;replace H:=Option.bind_eq_some_iff.mp H;obtain ⟨⟨t336,t337,t340,t341⟩,A30,H⟩:=H;replace H:(some (t336,t337))=some (r1,r2):=H;have A3:=Aside0.mk A30;clear A30;simp only [Option.some.injEq,Prod.mk.injEq] at H;obtain ⟨rfl,rfl⟩:=H;go_enter Tryz.func25,Tryz.ntmps25;go_wp2_with (first|((with_reducible refine gate_dst (N:=2) rfl ?_);refine bx 2 #[.int .i64 0,.slice none 0 0] 26 ?_;intro gb331 hg w4 hbox hb;have BK331:=Aside0.mk (hbox);have GE331:=gzA hg HB;replace HB:=bsA HB hb;clear hb hbox hg)|((with_reducible refine gate_callee (f:=66) rfl ?_);refine gl (some 4) Tryz.func66 #[.slice A0 l0.length c0] ?_;(with_reducible refine(spec_l01From.calls k _ _ l0 t332 t333 t334 w _ (bl HB.out) HR0.out HC0.out A2.out).mono ?_);rintro e w5 ⟨g335,rfl,hi,hb,hb2⟩;refine⟨_,rfl,?_⟩;replace HB:=Aside0.mk (hb);have HI335:=Aside0.mk (hi);have NB335_331:=Aside0.mk (IsS92.ne_blk hi (blk_below (bk BK331.out) hb2) (by decide));have NB331_335:=Aside0.mk (Ne.symm (IsS92.ne_blk hi (blk_below (bk BK331.out) hb2) (by decide)));replace BK331:=bkA BK331 hb2;(try clear hb);(try clear hb2);(try clear hk);(try clear hi))|((with_reducible refine gate_callee (f:=68) rfl ?_);refine gl (some 5) Tryz.func68 #[.pointer (some ⟨g335,0,none⟩)] ?_;(with_reducible refine(spec_l01Spoil.calls k g335 t332 t333 t334 t336 t337 t340 t341 w _ (IsS92.ch HI335.out) (blg HB.out (IsS92.ge HI335.out)) A3.out).mono ?_);rintro e w6 ⟨v338,rfl,ho0,hi,hb,hk⟩;refine⟨_,rfl,?_⟩;replace BK331:=Aside0.mk (kbk hk (bk BK331.out) NB331_335.out);have HO339:=Aside0.mk (Kd.R_lower ho0 (below_size (blg HB.out (IsS92.ge HI335.out))));replace HB:=Aside0.mk (hb);replace HI335:=Aside0.mk (hi);(try clear hb);(try clear hb2);(try clear hk);(try clear hi);(try clear ho0);have hnb7:=NB331_335.out;have hnc7:=NB335_331.out;have hcz8_0:=z0_ BK331;have hcz8_1:=z1_ BK331;have hfz8_0:=hf_ BK331 0;have hfz8_1:=hf_ BK331 1;obtain ⟨Ao9,co9,eo9⟩:=Kd.R_slice HO339.out;subst eo9))
 refine bodyPost_ret (results_cell_row rfl _ _ gb331 26 #[.int .i64 t336,.slice Ao9 t337.length co9] (0,0) _ rfl (bp BK331.out) Tryz.underlying26 rfl (by kernel_rfl)) rfl ?_;exact⟨_,rr,by(with_reducible repeat(first|apply Kd.R_alloc|apply Kd.R_drewN|apply Kd.R_drew));exact Kd.R_mono (Kd.R_far (p:=⟨gb331,1,none⟩) (Kd.R_far (p:=⟨gb331,0,none⟩) (Kd.R_types HO339.out BK331.out (by decide)) (fun _ hk=>hk.2) (.int .i64 t336)) (fun _ hk=>hk.2) (.slice Ao9 t337.length co9)) (fun _ hk=>trivial),blg HB.out (IsS92.ge HI335.out)⟩
def spec_DrawPartOn.f (k:Nat) (l0:List Int):Option (Int×List Int×Int):=(spec_l01From.f k l0).bind fun bt343=>((spec_l01Draw.f k bt343.1 bt343.2.1 bt343.2.2).bind fun bt347=>((spec_l01All.f bt347.1).bind fun t354=>((spec_l01Near.f bt343.1 bt347.2.2.1 bt347.2.2.2 t354).bind fun bt355=>((spec_l01Bad.f bt343.1 bt355.2.1 bt355.2.2 bt347.1 bt347.2.1).bind fun bt358=>(some (bt358.1,bt358.2.1,bt355.1))))))
theorem spec_DrawPartOn.mono:∀ a0 k,LeO (spec_DrawPartOn.f k a0) (spec_DrawPartOn.f (k+1) a0):=by
 intro a0 k;unfold spec_DrawPartOn.f;repeat' first
   |(with_reducible first|exact spec_l01Draw.mono _ _ _ _|exact spec_l01From.mono _ _|exact LeO.refl _|exact LeO.none _|refine LeO.ite ?_ ?_|refine LeO.bind ?_ (fun _=>?_))
set_option maxHeartbeats 8000000 in
set_option maxRecDepth 100000 in
theorem spec_DrawPartOn.calls (k:Nat) (A0:Option Addr) (c0:Nat) (l0:List Int) (r1:Int) (r2:List Int) (r3:Int) (w:World) (hr0:Kd.C (Kd.int .u8) w A0 l0.length l0) (hc0:l0.length≤c0) (h:spec_DrawPartOn.f k l0=some (r1,r2,r3)) :
  Calls Tryz.prog 28 #[.slice A0 l0.length c0] w fun e w'=>∃ v1_:Value,e = .returned (.tuple #[.agg #[.int .i64 r1,v1_],.int .i64 r3])∧Kd.R (Kd.int .i64) 2 w' w.heap.size (fun _=>True) v1_ r2∧Below w.heap.size w w':=by
 have hu26:=Tryz.underlying26;have HR0:=Aside0.mk hr0;have HC0:=Aside0.mk hc0;clear hr0 hc0;have HB:=Aside0.mk (Below.refl w.heap.size w);have H:((spec_l01From.f k l0).bind fun bt343=>((spec_l01Draw.f k bt343.1 bt343.2.1 bt343.2.2).bind fun bt347=>((spec_l01All.f bt347.1).bind fun t354=>((spec_l01Near.f bt343.1 bt347.2.2.1 bt347.2.2.2 t354).bind fun bt355=>((spec_l01Bad.f bt343.1 bt355.2.1 bt355.2.2 bt347.1 bt347.2.1).bind fun bt358=>(some (bt358.1,bt358.2.1,bt355.1)))))))=some (r1,r2,r3):=h;clear h;replace H:=Option.bind_eq_some_iff.mp H;obtain ⟨⟨t343,t344,t345⟩,A20,H⟩:=H;replace H:((spec_l01Draw.f k t343 t344 t345).bind fun bt347=>((spec_l01All.f bt347.1).bind fun t354=>((spec_l01Near.f t343 bt347.2.2.1 bt347.2.2.2 t354).bind fun bt355=>((spec_l01Bad.f t343 bt355.2.1 bt355.2.2 bt347.1 bt347.2.1).bind fun bt358=>(some (bt358.1,bt358.2.1,bt355.1))))))=some (r1,r2,r3):=H;have A2:=Aside0.mk A20;clear A20;replace H:=Option.bind_eq_some_iff.mp H;obtain ⟨⟨t347,t348,t351,t352⟩,A30,H⟩:=H;replace H:((spec_l01All.f t347).bind fun t354=>((spec_l01Near.f t343 t351 t352 t354).bind fun bt355=>((spec_l01Bad.f t343 bt355.2.1 bt355.2.2 t347 t348).bind fun bt358=>(some (bt358.1,bt358.2.1,bt355.1)))))=some (r1,r2,r3):=H;have A3:=Aside0.mk A30;clear A30;replace H:=Option.bind_eq_some_iff.mp H;obtain ⟨t354,A40,H⟩:=H;replace H:((spec_l01Near.f t343 t351 t352 t354).bind fun bt355=>((spec_l01Bad.f t343 bt355.2.1 bt355.2.2 t347 t348).bind fun bt358=>(some (bt358.1,bt358.2.1,bt355.1))))=some (r1,r2,r3):=H;have A4:=Aside0.mk A40;clear A40;replace H:=Option.bind_eq_some_iff.mp H;obtain ⟨⟨t355,t356,t357⟩,A50,H⟩:=H;replace H:((spec_l01Bad.f t343 t356 t357 t347 t348).bind fun bt358=>(some (bt358.1,bt358.2.1,t355)))=some (r1,r2,r3):=H;have A5:=Aside0.mk A50;clear A50;replace H:=Option.bind_eq_some_iff.mp H;obtain ⟨⟨t358,t359,t362,t363⟩,A60,H⟩:=H;replace H:(some (t358,t359,t355))=some (r1,r2,r3):=H;have A6:=Aside0.mk A60;clear A60;simp only [Option.some.injEq,Prod.mk.injEq] at H;obtain ⟨rfl,rfl,rfl⟩:=H;go_enter Tryz.func28,Tryz.ntmps28;go_wp2_with (first|((with_reducible refine gate_dst (N:=2) rfl ?_);refine bx 2 #[.int .i64 0,.slice none 0 0] 26 ?_;intro gb342 hg w7 hbox hb;have BK342:=Aside0.mk (hbox);have GE342:=gzA hg HB;replace HB:=bsA HB hb;clear hb hbox hg)|((with_reducible refine gate_callee (f:=66) rfl ?_);refine gl (some 8) Tryz.func66 #[.slice A0 l0.length c0] ?_;(with_reducible refine(spec_l01From.calls k _ _ l0 t343 t344 t345 w _ (bl HB.out) HR0.out HC0.out A2.out).mono ?_);rintro e w8 ⟨g346,rfl,hi,hb,hb2⟩;refine⟨_,rfl,?_⟩;replace HB:=Aside0.mk (hb);have HI346:=Aside0.mk (hi);have NB346_342:=Aside0.mk (IsS92.ne_blk hi (blk_below (bk BK342.out) hb2) (by decide));have NB342_346:=Aside0.mk (Ne.symm (IsS92.ne_blk hi (blk_below (bk BK342.out) hb2) (by decide)));replace BK342:=bkA BK342 hb2;(try clear hb);(try clear hb2);(try clear hk);(try clear hi))|((with_reducible refine gate_callee (f:=75) rfl ?_);refine gl (some 10) Tryz.func75 #[.pointer (some ⟨g346,0,none⟩)] ?_;(with_reducible refine(spec_l01Draw.calls k g346 t343 t344 t345 t347 t348 t351 t352 w _ (IsS92.ch HI346.out) (blg HB.out (IsS92.ge HI346.out)) A3.out).mono ?_);rintro e w9 ⟨v349,rfl,ho0,hi,hb,hk⟩;refine⟨_,rfl,?_⟩;replace BK342:=Aside0.mk (kbk hk (bk BK342.out) NB342_346.out);have HO350:=Aside0.mk (Kd.R_lower ho0 (below_size (blg HB.out (IsS92.ge HI346.out))));replace HB:=Aside0.mk (hb);replace HI346:=Aside0.mk (hi);(try clear hb);(try clear hb2);(try clear hk);(try clear hi);(try clear ho0))|((with_reducible refine gate_dst (N:=5) rfl ?_);refine bx 5 #[.int .i64 0,.slice none 0 0] 26 ?_;intro gb353 hg w10 hbox hb;replace HO350:=krA HO350 hb;have BK353:=Aside0.mk (hbox);have GW353:=Aside0.mk ((by rw[hg];exact(below_size (blg HB.out (IsS92.ge HI346.out))):w.heap.size≤gb353));have GE353:=Aside0.mk ((by rw[hg];exact(below_size (blg HB.out (IsS92.ge HI346.out))):w.heap.size≤gb353));replace HB:=Aside0.mk (below_step (blg HB.out (IsS92.ge HI346.out)) hb);have NB342_353:=nlA hg BK342;have NB353_342:=ngA hg BK342;replace BK342:=bkA BK342 hb;have NB346_353:=Aside0.mk ((by rw[hg];exact Nat.ne_of_lt (IsS92.lt (show IsS92 w _ g346 t343 t351 t352 from IsS92.ch HI346.out)):g346≠gb353));have NB353_346:=Aside0.mk ((by rw[hg];exact Nat.ne_of_gt (IsS92.lt (show IsS92 w _ g346 t343 t351 t352 from IsS92.ch HI346.out)):gb353≠g346));replace HI346:=Aside0.mk (IsS92.below (IsS92.ch HI346.out) hb);clear hb hbox hg;have hnb11:=NB353_342.out;have hnc11:=NB342_353.out;have hnb12:=NB353_346.out;have hnc12:=NB346_353.out;have hcz13_0:=z0_ BK353;have hcz13_1:=z1_ BK353;have hfz13_0:=hf_ BK353 0;have hfz13_1:=hf_ BK353 1;obtain ⟨Ao14,co14,eo14⟩:=Kd.R_slice HO350.out;subst eo14)|((with_reducible refine gate_callee (f:=91) rfl ?_);refine gl (some 14) Tryz.func91 #[.int .i64 t347] ?_;(with_reducible refine(spec_l01All.calls t347 t354 _ A4.out).mono ?_);rintro e w' ⟨rfl,⟨nd,rfl⟩⟩;refine⟨_,rfl,?_⟩)|((with_reducible refine gate_callee (f:=90) rfl ?_);refine gl (some 15) Tryz.func90 #[.pointer (some ⟨g346,0,none⟩),.int .i64 t354] ?_;(with_reducible refine(spec_l01Near.calls g346 t343 t351 t352 t354 t355 t356 t357 w _ (IsS92.ch HI346.out) (blg HB.out (IsS92.ge HI346.out)) A5.out).mono ?_);rintro e w15 ⟨rfl,hi,hb,hk⟩;refine⟨_,rfl,?_⟩;replace BK342:=Aside0.mk (KeepBut.blk hk (g':=gb342) (o:= .cells #[.int .i64 0,.slice none 0 0] 26 (0,0)) (bp BK342.out) NB342_346.out (by simp));replace HO350:=Aside0.mk (Kd.R_mono (Kd.R_keep (IsS92.apart (show IsS92 w _ g346 t343 t351 t352 from IsS92.ch HI346.out) (by(with_reducible repeat(first|apply Kd.R_alloc|apply Kd.R_drewN|apply Kd.R_drew));exact(Kd.R_mono (Kd.R_far (p:=⟨gb353,1,none⟩) (Kd.R_far (p:=⟨gb353,0,none⟩) (Kd.R_types HO350.out BK353.out (by decide)) (fun _ hk=>hk.2) (.int .i64 t347)) (fun _ hk=>hk.2) (.slice Ao14 t348.length co14)) (fun _ h_=>h_.1))) (by decide)) hk (fun _ h=>h.2)) (fun _ h=>h.1));replace BK353:=Aside0.mk (KeepBut.blk hk (g':=gb353) (o:= .cells #[.int .i64 t347,.slice Ao14 t348.length co14] 26 (0,0)) (bp BK353.out) NB353_346.out (by simp));replace HB:=Aside0.mk (hb);replace HI346:=Aside0.mk (hi);(try clear hb);(try clear hb2);(try clear hk);(try clear hi);have hcz16_0:=z0_ BK353;have hcz16_1:=z1_ BK353;have hfz16_0:=hf_ BK353 0;have hfz16_1:=hf_ BK353 1)|((with_reducible refine gate_callee (f:=69) rfl ?_);refine gl (some 18) Tryz.func69 #[.pointer (some ⟨g346,0,none⟩),.agg #[.int .i64 t347,.slice Ao14 t348.length co14]] ?_;(with_reducible refine(spec_l01Bad.calls g346 t343 t356 t357 t347 (fun k_=>some k_=(.slice Ao14 t348.length co14:Value).ownBlock) (.slice Ao14 t348.length co14) t348 t358 t359 t362 t363 w _ (IsS92.ch HI346.out) (blg HB.out (IsS92.ge HI346.out)) (Kd.R_tight rfl HO350.out) A6.out).mono ?_);rintro e w17 ⟨v360,rfl,ho0,hi,hb,hkp⟩;refine⟨_,rfl,?_⟩;have n0_:=Aside0.mk (blk_kept (bk BK342.out) hkp (fun hs_=>Or.elim hs_ (fun hs_=>(fun e_=>(Kd.R_ne HO350.out BK342.out (by decide)) e_) hs_) (fun e_=>NB342_346.out e_)));have n1_:=Aside0.mk (hi);have n2_:=Aside0.mk (blk_kept (bk BK353.out) hkp (fun hs_=>Or.elim hs_ (fun hs_=>(fun e_=>(Kd.R_ne HO350.out BK353.out (by decide)) e_) hs_) (fun e_=>NB353_346.out e_)));have n3_:=Aside0.mk (Kd.R_mono (ok':=fun k_=>True) ho0 (fun k_ hk_=>trivial));have n4_:=Aside0.mk (hb);clear BK342;clear HI346;clear BK353;clear HB;clear HO350;have BK342:=n0_;have HI346:=n1_;have BK353:=n2_;have HO361:=n3_;have HB:=n4_;clear n0_ n1_ n2_ n3_ n4_;(try clear hb);(try clear hkp);(try clear ho0);have hnb18:=NB342_346.out;have hnc18:=NB346_342.out;have hcz19_0:=z0_ BK342;have hcz19_1:=z1_ BK342;have hfz19_0:=hf_ BK342 0;have hfz19_1:=hf_ BK342 1;obtain ⟨Ao20,co20,eo20⟩:=Kd.R_slice HO361.out;subst eo20))
 refine bodyPost_ret (results_ct rfl _ _ gb342 26 #[.int .i64 t358,.slice Ao20 t359.length co20] (0,0) _ rfl (bp BK342.out) Tryz.underlying26 rfl (by kernel_rfl)) rfl ?_;exact⟨_,rr,by(with_reducible repeat(first|apply Kd.R_alloc|apply Kd.R_drewN|apply Kd.R_drew));exact Kd.R_mono (Kd.R_far (p:=⟨gb342,1,none⟩) (Kd.R_far (p:=⟨gb342,0,none⟩) (Kd.R_types HO361.out BK342.out (by decide)) (fun _ hk=>hk.2) (.int .i64 t358)) (fun _ hk=>hk.2) (.slice Ao20 t359.length co20)) (fun _ hk=>trivial),blg HB.out (IsS92.ge HI346.out)⟩
end Go.Proofs.YtlhkdbkjafiikaaGreat.R
end

section
namespace Go.Proofs.YtlhkdbkjafiikaaGreat.R
open Go.RowKit Go.Proofs.YtlhkdbkjafiikaaGreat.Q Go.Proofs.YtlhkdbkjafiikaaGreat.X Go.Proofs.YtlhkdbkjafiikaaGreatW.PrintWords Go.Proofs.YtlhkdbkjafiikaaGreatW.PrintLast Go.Proofs.YtlhkdbkjafiikaaGreatW.PrintMore
attribute [local go_sem] max2_int min2_int max_two min_two max_three min_three max_four min_four
set_option linter.unusedVariables false
set_option linter.unusedSimpArgs false
def spec_DrawSkeletonOf.f (k:Nat) (l0:List Int):Option (Int×List Int×Int):=(spec_l01From.f k l0).bind fun bt365=>((spec_l01Spoil.f k bt365.1 bt365.2.1 bt365.2.2).bind fun bt369=>((spec_l01Pick.f bt365.1 bt369.2.2.1 bt369.2.2.2 (([(-1),0,1,1,2,3,5,(-2),6]:List Int))).bind fun bt379=>(some (bt369.1,bt369.2.1,bt379.1))))
theorem spec_DrawSkeletonOf.mono:∀ a0 k,LeO (spec_DrawSkeletonOf.f k a0) (spec_DrawSkeletonOf.f (k+1) a0):=by
 intro a0 k;unfold spec_DrawSkeletonOf.f;repeat' first
   |(with_reducible first|exact spec_l01From.mono _ _|exact spec_l01Spoil.mono _ _ _ _|exact LeO.refl _|exact LeO.none _|refine LeO.ite ?_ ?_|refine LeO.bind ?_ (fun _=>?_))
set_option maxHeartbeats 8000000 in
set_option maxRecDepth 100000 in
theorem spec_DrawSkeletonOf.calls (k:Nat) (A0:Option Addr) (c0:Nat) (l0:List Int) (r1:Int) (r2:List Int) (r3:Int) (w:World) (hr0:Kd.C (Kd.int .u8) w A0 l0.length l0) (hc0:l0.length≤c0) (h:spec_DrawSkeletonOf.f k l0=some (r1,r2,r3)) :
  Calls Tryz.prog 31 #[.slice A0 l0.length c0] w fun e w'=>∃ v1_:Value,e = .returned (.tuple #[.agg #[.int .i64 r1,v1_],.int .i64 r3])∧Kd.R (Kd.int .i64) 2 w' w.heap.size (fun _=>True) v1_ r2∧Below w.heap.size w w':=by
 have hu26:=Tryz.underlying26;have HR0:=Aside0.mk hr0;have HC0:=Aside0.mk hc0;clear hr0 hc0;have HB:=Aside0.mk (Below.refl w.heap.size w);have H:((spec_l01From.f k l0).bind fun bt365=>((spec_l01Spoil.f k bt365.1 bt365.2.1 bt365.2.2).bind fun bt369=>((spec_l01Pick.f bt365.1 bt369.2.2.1 bt369.2.2.2 (([(-1),0,1,1,2,3,5,(-2),6]:List Int))).bind fun bt379=>(some (bt369.1,bt369.2.1,bt379.1)))))=some (r1,r2,r3):=h;clear h;replace H:=Option.bind_eq_some_iff.mp H;obtain ⟨⟨t365,t366,t367⟩,A20,H⟩:=H;replace H:((spec_l01Spoil.f k t365 t366 t367).bind fun bt369=>((spec_l01Pick.f t365 bt369.2.2.1 bt369.2.2.2 (([(-1),0,1,1,2,3,5,(-2),6]:List Int))).bind fun bt379=>(some (bt369.1,bt369.2.1,bt379.1))))=some (r1,r2,r3):=H;have A2:=Aside0.mk A20;clear A20;replace H:=Option.bind_eq_some_iff.mp H;obtain ⟨⟨t369,t370,t373,t374⟩,A30,H⟩:=H;replace H:((spec_l01Pick.f t365 t373 t374 (([(-1),0,1,1,2,3,5,(-2),6]:List Int))).bind fun bt379=>(some (t369,t370,bt379.1)))=some (r1,r2,r3):=H;have A3:=Aside0.mk A30;clear A30;obtain ⟨y376,hy376⟩:∃ y_:List Int,y_=(([(-1),0,1,1,2,3,5,(-2),6]:List Int)):=⟨_,rfl⟩
 replace H:((spec_l01Pick.f t365 t373 t374 y376).bind fun bt379=>(some (t369,t370,bt379.1)))=some (r1,r2,r3):=by first|(rw[hy376];with_reducible exact H)|(have H2_:=(Option.bind_some _ _).symm.trans H;rw[hy376];with_reducible exact H2_)|(have H2_:=(Option.bind_some _ _).symm.trans H;with_reducible exact H2_)|with_reducible exact H|(rw[hy376];exact H)|exact H
 have Ny376:=Aside0.mk hy376;clear hy376;replace H:=Option.bind_eq_some_iff.mp H;obtain ⟨⟨t379,t380,t381⟩,A40,H⟩:=H;replace H:(some (t369,t370,t379))=some (r1,r2,r3):=H;have A4:=Aside0.mk A40;clear A40;simp only [Option.some.injEq,Prod.mk.injEq] at H;obtain ⟨rfl,rfl,rfl⟩:=H;go_enter Tryz.func31,Tryz.ntmps31;try go_wp2_with (first|((with_reducible refine gate_dst (N:=2) rfl ?_);refine bx 2 #[.int .i64 0,.slice none 0 0] 26 ?_;intro gb364 hg w5 hbox hb;have BK364:=Aside0.mk (hbox);have GE364:=gzA hg HB;replace HB:=bsA HB hb;clear hb hbox hg)|((with_reducible refine gate_callee (f:=66) rfl ?_);refine gl (some 7) Tryz.func66 #[.slice A0 l0.length c0] ?_;(with_reducible refine(spec_l01From.calls k _ _ l0 t365 t366 t367 w _ (bl HB.out) HR0.out HC0.out A2.out).mono ?_);rintro e w6 ⟨g368,rfl,hi,hb,hb2⟩;refine⟨_,rfl,?_⟩;replace HB:=Aside0.mk (hb);have HI368:=Aside0.mk (hi);have NB368_364:=Aside0.mk (IsS92.ne_blk hi (blk_below (bk BK364.out) hb2) (by decide));have NB364_368:=Aside0.mk (Ne.symm (IsS92.ne_blk hi (blk_below (bk BK364.out) hb2) (by decide)));replace BK364:=bkA BK364 hb2;(try clear hb);(try clear hb2);(try clear hk);(try clear hi))|((with_reducible refine gate_callee (f:=68) rfl ?_);refine gl (some 9) Tryz.func68 #[.pointer (some ⟨g368,0,none⟩)] ?_;(with_reducible refine(spec_l01Spoil.calls k g368 t365 t366 t367 t369 t370 t373 t374 w _ (IsS92.ch HI368.out) (blg HB.out (IsS92.ge HI368.out)) A3.out).mono ?_);rintro e w7 ⟨v371,rfl,ho0,hi,hb,hk⟩;refine⟨_,rfl,?_⟩;replace BK364:=Aside0.mk (kbk hk (bk BK364.out) NB364_368.out);have HO372:=Aside0.mk (Kd.R_lower ho0 (below_size (blg HB.out (IsS92.ge HI368.out))));replace HB:=Aside0.mk (hb);replace HI368:=Aside0.mk (hi);(try clear hb);(try clear hb2);(try clear hk);(try clear hi);(try clear ho0))|((with_reducible refine gate_dst (N:=5) rfl ?_);refine bx 5 #[.int .i64 0,.slice none 0 0] 26 ?_;intro gb375 hg w8 hbox hb;replace HO372:=krA HO372 hb;have BK375:=Aside0.mk (hbox);have GW375:=Aside0.mk ((by rw[hg];exact(below_size (blg HB.out (IsS92.ge HI368.out))):w.heap.size≤gb375));have GE375:=Aside0.mk ((by rw[hg];exact(below_size (blg HB.out (IsS92.ge HI368.out))):w.heap.size≤gb375));replace HB:=Aside0.mk (below_step (blg HB.out (IsS92.ge HI368.out)) hb);have NB364_375:=nlA hg BK364;have NB375_364:=ngA hg BK364;replace BK364:=bkA BK364 hb;have NB368_375:=Aside0.mk ((by rw[hg];exact Nat.ne_of_lt (IsS92.lt (show IsS92 w _ g368 t365 t373 t374 from IsS92.ch HI368.out)):g368≠gb375));have NB375_368:=Aside0.mk ((by rw[hg];exact Nat.ne_of_gt (IsS92.lt (show IsS92 w _ g368 t365 t373 t374 from IsS92.ch HI368.out)):gb375≠g368));replace HI368:=Aside0.mk (IsS92.below (IsS92.ch HI368.out) hb);clear hb hbox hg;have hnb9:=NB375_364.out;have hnc9:=NB364_375.out;have hnb10:=NB375_368.out;have hnc10:=NB368_375.out;have hcz11_0:=z0_ BK375;have hcz11_1:=z1_ BK375;have hfz11_0:=hf_ BK375 0;have hfz11_1:=hf_ BK375 1;obtain ⟨Ao12,co12,eo12⟩:=Kd.R_slice HO372.out;subst eo12))
 have n0_:Aside0 (Kd.R (Kd.int .i64) 2 ((w8.setCell ⟨gb375,0,none⟩ (.int .i64 t369)).setCell ⟨gb375,1,none⟩ (.slice Ao12 t370.length co12)) w.heap.size (fun _=>True) (.slice Ao12 t370.length co12) t370):=⟨by(with_reducible repeat(first|apply Kd.R_alloc|apply Kd.R_drewN|apply Kd.R_drew));exact Kd.R_mono (Kd.R_far (p:=⟨gb375,1,none⟩) (Kd.R_far (p:=⟨gb375,0,none⟩) (Kd.R_types HO372.out BK375.out (by decide)) (fun _ hk=>hk.2) (.int .i64 t369)) (fun _ hk=>hk.2) (.slice Ao12 t370.length co12)) (fun _ hk=>trivial)⟩
 have n1_:Aside0 (((w8.setCell ⟨gb375,0,none⟩ (.int .i64 t369)).setCell ⟨gb375,1,none⟩ (.slice Ao12 t370.length co12)).heap[gb364]?=some (.cells #[.int .i64 0,.slice none 0 0] 26 (0,0))):=⟨bp BK364.out⟩
 have n2_:Aside0 (((w8.setCell ⟨gb375,0,none⟩ (.int .i64 t369)).setCell ⟨gb375,1,none⟩ (.slice Ao12 t370.length co12)).heap[gb375]?=some (.cells #[.int .i64 t369,.slice Ao12 t370.length co12] 26 (0,0))):=⟨bp BK375.out⟩
 have n3_:Aside0 (IsS92 w ((w8.setCell ⟨gb375,0,none⟩ (.int .i64 t369)).setCell ⟨gb375,1,none⟩ (.slice Ao12 t370.length co12)) g368 t365 t373 t374):=⟨IsS92.ch HI368.out⟩
 have n4_:Aside0 (Below w.heap.size w ((w8.setCell ⟨gb375,0,none⟩ (.int .i64 t369)).setCell ⟨gb375,1,none⟩ (.slice Ao12 t370.length co12))):=⟨blg HB.out (IsS92.ge HI368.out)⟩
 (try clear HO372)
 (try clear BK364)
 (try clear BK375)
 (try clear HI368)
 (try clear HB)
 generalize ((w8.setCell ⟨gb375,0,none⟩ (.int .i64 t369)).setCell ⟨gb375,1,none⟩ (.slice Ao12 t370.length co12))=w13 at n0_ n1_ n2_ n3_ n4_ ⊢;have HO372:=n0_;have BK364:=n1_;have BK375:=n2_;have HI368:=n3_;have HB:=n4_;clear n0_ n1_ n2_ n3_ n4_;replace HO372:=Aside0.mk (Kd.R_drew HO372.out);replace BK364:=Aside0.mk (blk_drew BK364.out);replace BK375:=Aside0.mk (blk_drew BK375.out);replace HI368:=Aside0.mk (IsS92.drew HI368.out);replace HB:=Aside0.mk (below_drew1 HB.out);refine start_ (n:=6) (S:=fun w'=>w'.cell? ⟨gb375,0,none⟩=some (.int .i64 t369)∧w'.cell? ⟨gb375,1,none⟩=some (.slice Ao12 t370.length co12)) (ds:= []) (ar 0 6) (by kernel_rfl) rfl rfl ⟨(blk_cell BK375.out 0).trans rfl,(blk_cell BK375.out 1).trans rfl⟩ (fun hHeld=>?_);generalize w13.drew=w14 at HO372 BK364 BK375 HI368 HB hHeld ⊢;refine pure_ (i:=1) (N:=some 11) (v:=?_) (a':=?_) #[O,U,O,O,O,O] rfl rfl (by kernel_rfl) hh_ (Or.inl ⟨by rfl,?_⟩) ?_ ?_;rotate_left
 ·intro w';go_simp;with_reducible rfl
 rotate_left
 ·simp only [nm_];rfl
 refine take_ (i:=0) (N:=some 10) (v:=?_) (a':=?_) (ar 2 4) rfl rfl (by kernel_rfl) hh_ (Or.inl ⟨by rfl,?_⟩) hHeld ?_ ?_;rotate_left
 ·rintro w' ⟨s0,s1⟩;go_simp;with_reducible rfl
 rotate_left
 ·simp only [nm_];rfl
 refine one_ (i:=2) (N:=some 12) (ar 3 3) rfl rfl (by kernel_rfl) (by decide) (fun K hK=>?_);refine Kd.R_lit_step (Kd.int .i64) _ 2 ?hg (N:=12) ?hd (xs:=([(-1),0,1,1,2,3,5,(-2),6]:List Int)) (inner:= [.int .i64 (-1),.int .i64 0,.int .i64 1,.int .i64 1,.int .i64 2,.int .i64 3,.int .i64 5,.int .i64 (-2),.int .i64 6]) (ok:=fun _=>True) (okp:=fun _=>True) ?hr ?hp (fun _ hk=>hk) trivial (Below.refl _ _) (Nat.le_refl _) (by simp) ?_;(case hd=>rfl);(case hg=>rfl);(case hr=>first|(go_simp;done)|(go_simp;rfl));(case hp=>exact(Reps.one (show Kd.M (Kd.int .i64) _ _ _ (-1) [.int .i64 (-1)] from rfl) (Reps.one (show Kd.M (Kd.int .i64) _ _ _ 0 [.int .i64 0] from rfl) (Reps.one (show Kd.M (Kd.int .i64) _ _ _ 1 [.int .i64 1] from rfl) (Reps.one (show Kd.M (Kd.int .i64) _ _ _ 1 [.int .i64 1] from rfl) (Reps.one (show Kd.M (Kd.int .i64) _ _ _ 2 [.int .i64 2] from rfl) (Reps.one (show Kd.M (Kd.int .i64) _ _ _ 3 [.int .i64 3] from rfl) (Reps.one (show Kd.M (Kd.int .i64) _ _ _ 5 [.int .i64 5] from rfl) (Reps.one (show Kd.M (Kd.int .i64) _ _ _ (-2) [.int .i64 (-2)] from rfl) (Reps.one (show Kd.M (Kd.int .i64) _ _ _ 6 [.int .i64 6] from rfl) (Reps.none _ _)))))))))));intro v377 w15 ho16 hb hg_ hnew_;clear hg_ hnew_;(first|rw[← Ny376.out] at ho16|(simp only [Int.reduceToNat] at ho16;rw[← Ny376.out] at ho16))
 have HO378:=Aside0.mk (Kd.R_lower (Kd.R_new' ho16 (Kd.R_lt (kr HO372.out))) (below_size (blg HB.out (IsS92.ge HI368.out))));replace HO372:=Aside0.mk (Kd.R_elder' (kr HO372.out) (Kd.R_base ho16) hb);replace BK364:=bkA BK364 hb;replace BK375:=bkA BK375 hb;replace HB:=Aside0.mk (below_step (blg HB.out (IsS92.ge HI368.out)) hb);replace HI368:=Aside0.mk (IsS92.below (IsS92.ch HI368.out) hb);clear hb ho16;obtain ⟨Ao17,co17,eo17⟩:=Kd.R_slice HO378.out;(first|subst eo17|(injection eo17 with f1_ f2_ f3_;have f4_:=f1_.symm;have f5_:=f3_.symm;clear f1_ f2_ f3_;subst f4_;subst f5_))
 refine hK.out _ _ ⟨(blk_cell BK375.out 0).trans rfl,(blk_cell BK375.out 1).trans rfl⟩ (fun hHeld=>?_);clear hK K;refine nr 12 ?_;refine one_ (i:=3) (N:=some 13) (ar 4 2) rfl rfl (by kernel_rfl) (by decide) (fun K hK=>?_);refine gr Tryz.func81 #[.pointer (some ⟨g368,0,none⟩),.slice Ao17 y376.length co17] ?_;with_reducible refine(spec_l01Pick.calls g368 t365 t373 t374 _ _ y376 t379 t380 t381 w _ (IsS92.ch HI368.out) (blg HB.out (IsS92.ge HI368.out)) (cb (Kd.R_reads' HO378.out).2.2) ((Kd.R_reads' HO378.out).2.1) (far_slice (IsS92.own_ne HI368.out HO378.out (by decide))) A4.out).mono ?_
 rintro e w18 ⟨rfl,hi,hb,hk⟩;refine⟨_,rfl,?_⟩;replace BK364:=Aside0.mk (kbk hk (bk BK364.out) NB364_368.out);replace HO372:=Aside0.mk (Kd.R_mono (Kd.R_keep (IsS92.apart (show IsS92 w _ g368 t365 t373 t374 from IsS92.ch HI368.out) (kr HO372.out) (by decide)) hk (fun _ h=>h.2)) (fun _ h=>h.1));replace BK375:=Aside0.mk (kbk hk (bk BK375.out) NB375_368.out);replace HO378:=Aside0.mk (Kd.R_mono (Kd.R_keep (IsS92.apart (show IsS92 w _ g368 t365 t373 t374 from IsS92.ch HI368.out) (kr HO378.out) (by decide)) hk (fun _ h=>h.2)) (fun _ h=>h.1));replace HB:=Aside0.mk (hb);replace HI368:=Aside0.mk (hi);(try clear hb)
 (try clear hb2)
 (try clear hk)
 (try clear hi)
 refine hK.out _ _ ⟨(blk_cell BK375.out 0).trans rfl,(blk_cell BK375.out 1).trans rfl⟩ (fun hHeld=>?_);clear hK K;refine nr 13 ?_;refine one_ (i:=4) (N:=none) (ar 5 1) rfl rfl (by kernel_rfl) (by decide) (fun K hK=>?_);have hs19:w18.cell? ⟨gb364,0,none⟩=some (.int .i64 0):=(blk_cell BK364.out 0).trans rfl;have hfs19:=blk_frozen BK364.out 0;have hns19_1:=NB375_364.out;have hms19_1:=NB364_375.out;have hs20:w18.cell? ⟨gb364,1,none⟩=some (.slice none 0 0):=(blk_cell BK364.out 1).trans rfl;have hfs20:=blk_frozen BK364.out 1;have hns20_1:=NB375_364.out;have hms20_1:=NB364_375.out;refine skip_ (w1:=?_) (by rfl) rfl ?_ ?_;rotate_left
 ·go_simp;rfl
 refine hK.out _ _ ⟨((cell_far (p:=⟨gb364,_,none⟩) NB375_364.out _).trans (((cell_far (p:=⟨gb364,_,none⟩) NB375_364.out _).trans (hHeld.1)))),((cell_far (p:=⟨gb364,_,none⟩) NB375_364.out _).trans (((cell_far (p:=⟨gb364,_,none⟩) NB375_364.out _).trans (hHeld.2))))⟩ (fun hHeld=>?_);clear hK K;refine pure_ (i:=5) (N:=some 3) (v:=?_) (a':=?_) (ar 6 0) rfl rfl (by kernel_rfl) hh_ (Or.inl ⟨by rfl,?_⟩) ?_ ?_;rotate_left
 ·intro w';go_simp;with_reducible rfl
 rotate_left
 ·simp only [nm_];rfl
 refine done_ (by kernel_rfl) ?_;try go_wp2
 refine bodyPost_ret (results_ct rfl _ _ gb364 26 #[.int .i64 t369,.slice Ao12 t370.length co12] (0,0) _ rfl (bp BK364.out) Tryz.underlying26 rfl (by kernel_rfl)) rfl ?_;exact⟨_,rr,by(with_reducible repeat(first|apply Kd.R_alloc|apply Kd.R_drewN|apply Kd.R_drew));exact Kd.R_mono (Kd.R_far (p:=⟨gb364,1,none⟩) (Kd.R_far (p:=⟨gb364,0,none⟩) (Kd.R_types HO372.out BK364.out (by decide)) (fun _ hk=>hk.2) (.int .i64 t369)) (fun _ hk=>hk.2) (.slice Ao12 t370.length co12)) (fun _ hk=>trivial),blg HB.out (IsS92.ge HI368.out)⟩
end Go.Proofs.YtlhkdbkjafiikaaGreat.R
end

section
namespace Go.Proofs.YtlhkdbkjafiikaaGreat.K
open Go.RowKit Go.Shelf Go.Proofs.YtlhkdbkjafiikaaGreat.Q Go.Proofs.YtlhkdbkjafiikaaGreat.R Go.Proofs.YtlhkdbkjafiikaaGreat.X Go.Proofs.YtlhkdbkjafiikaaGreatW.PrintWords Go.Proofs.YtlhkdbkjafiikaaGreatW.PrintLast Go.Proofs.YtlhkdbkjafiikaaGreatW.PrintMore
set_option linter.unusedVariables false
set_option linter.unusedSimpArgs false
structure Src (s:List Int) (b:Int):Prop where
 h0:0≤b
 h1:b≤s.length
 h2:s.length≤4096
 h3:∀ x ∈ s,0≤x∧x≤255
theorem and24 (E:Int) (h0:0≤E) (h1:E≤18446744073709551615):0≤Go.bits .and .u64 E 16777215∧Go.bits .and .u64 E 16777215≤16777215:=by
 have h:=bits_and_u64_nat E.toNat 16777215 (by omega) (by omega)
 rw[show ((E.toNat:Nat):Int)=E by omega] at h
 have h2:(E.toNat &&& 16777215)≤16777215:=Nat.and_le_right
 have e:Go.bits .and .u64 E 16777215=((E.toNat &&& 16777215:Nat):Int):=by simpa using h
 rw[e]
 omega
theorem u64_range (x:Int):0≤IntKind.u64.wrap x∧IntKind.u64.wrap x≤18446744073709551615:=by
 have h:IntKind.u64.wrap x=x % 18446744073709551616:=by simp [IntKind.wrap,IntKind.bits,IntKind.signed]
 rw[h]
 omega
theorem next_ok {s:List Int} {b:Int} (h:Src s b) (c n:Int):∃ r b' c',spec_l01Next.f s b c n=some (r,b',c')∧Src s b'∧0≤r∧(1≤n→r<n):=by
 unfold spec_l01Next.f
 have hb:=h.h0
 have hb1:=h.h1
 have hl:=h.h2
 by_cases hn:n<1
 ·exact⟨0,b,c,by rw[if_pos hn],h,by omega,fun h=>by omega⟩
 ·rw[if_neg hn]
  have hw:=u64_range ((IntKind.u64.wrap (c*6364136223846793005))+1442695040888963407)
  have ha:=and24 ((IntKind.u64.wrap ((IntKind.u64.wrap (c*6364136223846793005))+1442695040888963407)) / 8589934592) (by omega) (by omega)
  generalize Go.bits .and .u64 ((IntKind.u64.wrap ((IntKind.u64.wrap (c*6364136223846793005))+1442695040888963407)) / 8589934592) 16777215=A at ha ⊢
  have hm:∀ x:Int,0≤x→0≤Int.tmod x n∧Int.tmod x n<n:=fun x hx=>⟨Int.tmod_nonneg n hx,Int.tmod_lt_of_pos x (by omega)⟩
  by_cases hlt:b<(s.length:Int)
  ·rw[if_pos hlt,if_pos hb,if_neg (by omega)]
   obtain ⟨i,rfl⟩:=Int.eq_ofNat_of_zero_le hb
   have hr:=h.h3 _ (List.getElem_mem (show i<s.length by omega))
   have hrd:rd s (i:Int)=s[i]'(by omega):=by simp [rd,show i<s.length by omega]
   have e1:wrap64 (wrap64 A+wrap64 (rd s (i:Int)))=A+s[i]'(by omega):=by rw[hrd];unfold wrap64;omega
   have e2:wrap64 ((i:Int)+1)=(i:Int)+1:=by unfold wrap64;omega
   rw[e1,e2]
   exact⟨_,_,_,rfl,⟨by omega,by omega,hl,h.h3⟩,(hm _ (by omega)).1,fun _=>(hm _ (by omega)).2⟩
  ·rw[if_neg hlt,if_neg (by omega)]
   have e1:wrap64 A=A:=by unfold wrap64;omega
   rw[e1]
   exact⟨_,_,_,rfl,h,(hm _ (by omega)).1,fun _=>(hm _ (by omega)).2⟩
theorem pick_ok {s:List Int} {b:Int} (h:Src s b) (c:Int) (l:List Int) (hl:1≤(l.length:Int)):∃ r b' c',spec_l01Pick.f s b c l=some (r,b',c')∧Src s b'∧r ∈ l:=by
 obtain ⟨r,b',c',e,h',h0,h1⟩:=next_ok h c (l.length:Int)
 unfold spec_l01Pick.f
 rw[e]
 simp only [Option.bind_some]
 have:=h1 hl
 rw[if_pos h0,if_pos this]
 obtain ⟨i,rfl⟩:=Int.eq_ofNat_of_zero_le h0
 exact⟨_,_,_,rfl,h',by
  have:rd l (i:Int)=l[i]'(by omega):=by simp [rd,show i<l.length by omega]
  rw[this]
  exact List.getElem_mem _⟩
theorem own_ok (l:List Int) (h:l.length≤1000000):spec_l01Own.f l=some l:=by
 unfold spec_l01Own.f
 simp only [Option.bind_some]
 rw[if_pos (by simp;omega)]
 simp
theorem all_ok (n:Int):∃ r,spec_l01All.f n=some r:=by
 unfold spec_l01All.f
 rw[if_pos (u64_range n).1]
 exact⟨_,rfl⟩
theorem bad_ok {s:List Int} {b:Int} (h:Src s b) (c n:Int) (l:List Int) (hl:l.length≤1000):∃ n' l' b' c',spec_l01Bad.f s b c n l=some (n',l',b',c')∧Src s b'∧l'.length≤1001:=by
 obtain ⟨r,b1,c1,e,h1,_,_⟩:=next_ok h c 50
 unfold spec_l01Bad.f
 rw[e]
 simp only [Option.bind_some]
 by_cases h0:r=0
 ·rw[if_pos h0]
  obtain ⟨r2,b2,c2,e2,h2,_⟩:=pick_ok h1 c1 [0,7,-1] (by decide)
  rw[e2]
  simp only [Option.bind_some]
  rw[own_ok l (by omega)]
  exact⟨_,_,_,_,rfl,h2,by omega⟩
 ·rw[if_neg h0]
  by_cases h0:r=1
  ·rw[if_pos h0]
   by_cases hp:(l.length:Int)>0
   ·rw[if_pos hp,if_pos (by omega),own_ok (l.drop 1) (by simp;omega)]
    exact⟨_,_,_,_,rfl,h1,by simp;omega⟩
   ·rw[if_neg hp]
    exact⟨_,_,_,_,rfl,h1,by omega⟩
  ·rw[if_neg h0]
   by_cases h0:r=2
   ·rw[if_pos h0,own_ok l (by omega)]
    obtain ⟨a,ea⟩:=all_ok n
    simp only [Option.bind_some,ea]
    obtain ⟨r2,b2,c2,e2,h2,_⟩:=pick_ok h1 c1 [0,wrap64 (a+1),a,1] (by simp)
    rw[e2]
    simp only [Option.bind_some]
    rw[if_pos (by omega)]
    exact⟨_,_,_,_,rfl,h2,by simp;omega⟩
   ·rw[if_neg h0]
    exact⟨_,_,_,_,rfl,h1,by omega⟩
theorem near_ok {s:List Int} {b:Int} (h:Src s b) (c n:Int):∃ r b' c',spec_l01Near.f s b c n=some (r,b',c')∧Src s b':=by
 obtain ⟨r,b1,c1,e,h1,_,_⟩:=next_ok h c 14
 unfold spec_l01Near.f
 rw[e]
 simp only [Option.bind_some]
 by_cases h0:r=0
 ·rw[if_pos h0]
  obtain ⟨r2,b2,c2,e2,h2,_⟩:=pick_ok h1 c1 [-1,wrap64 (n+1),1099511627776,-4611686018427387904] (by simp)
  rw[e2]
  exact⟨_,_,_,rfl,h2⟩
 ·rw[if_neg h0]
  obtain ⟨r2,b2,c2,e2,h2,_⟩:=next_ok h1 c1 (wrap64 (n+1))
  rw[e2]
  exact⟨_,_,_,rfl,h2⟩
theorem made_ok (n:Int) (hn:1≤n∧n≤6) (sets:List Int) (hs:sets.length≤100) (k:Nat) (hk:10000≤k):∃ l,spec_l01Made.f k n sets=some (n,l)∧l.length≤63:=by
 have h:=specMade_g0 n hn sets (by omega) 106 (by omega) (fun x=>sets.any fun s=>decide (Go.bits .and .i64 x s=x)) (fun _ _ _=>rfl) (2 ^ n.toNat - 1) 0 k (by omega) (by omega) (by
  have:2 ^ n.toNat≤2 ^ 6:=Nat.pow_le_pow_right (by omega) (by omega)
  omega)
 refine⟨_,h,?_⟩
 have h1:=upTo_filter_length (fun x=>sets.any fun s=>decide (Go.bits .and .i64 x s=x)) (2 ^ n.toNat - 1)
 have:2 ^ n.toNat≤2 ^ 6:=Nat.pow_le_pow_right (by omega) (by omega)
 unfold thoseL
 omega
theorem less1_64:∀ f:Fin 64,f.val≠0→(0≤Go.bits .and .i64 (f.val:Int) (wrap64 ((f.val:Int) - 1))∧Go.bits .and .i64 (f.val:Int) (wrap64 ((f.val:Int) - 1))≤63)∧onesI (Go.bits .and .i64 (f.val:Int) (wrap64 ((f.val:Int) - 1)))=onesI (f.val:Int) - 1:=by decide +kernel
theorem less1 (f:Int) (h:1≤f∧f≤63):(0≤Go.bits .and .i64 f (wrap64 (f - 1))∧Go.bits .and .i64 f (wrap64 (f - 1))≤63)∧onesI (Go.bits .and .i64 f (wrap64 (f - 1)))=onesI f - 1:=by
 obtain ⟨m,rfl⟩:=Int.eq_ofNat_of_zero_le (show 0≤f by omega)
 exact less1_64 ⟨m,by omega⟩ (by show m≠0;omega)
theorem drawOf_l1 (n:Int) {s:List Int} (sets:List Int) (hs:sets.length≤100) (sz t b c:Int) (hz:2≤sz) (R:Nat) (P:Int×List Int×Int×Int→Prop)
  (hR:∀(f:Int) (k:Nat),R≤k→∃ r,spec_l01DrawOf.l0 k n (sets ++ [f]) sz (wrap64 (t - 1)) s b c=some r∧P r) :
  ∀(d:Nat) (f:Int) (k:Nat),0≤f∧f≤63→onesI f≤d→R+d+10≤k→∃ r,spec_l01DrawOf.l1 k n sets sz t f s b c=some r∧P r:=by
 intro d
 induction d with
 |zero=>
  intro f k hf hd hk
  obtain ⟨k,rfl⟩:∃ m,k=m+1:=⟨k - 1,by omega⟩
  simp only [spec_l01DrawOf.l1]
  rw[specOnes_is f hf.1 hf.2 k (by omega)]
  simp only [Option.bind_some]
  rw[if_neg (by omega),if_pos (by omega)]
  exact hR f k (by omega)
 |succ d ih=>
  intro f k hf hd hk
  obtain ⟨k,rfl⟩:∃ m,k=m+1:=⟨k - 1,by omega⟩
  simp only [spec_l01DrawOf.l1]
  rw[specOnes_is f hf.1 hf.2 k (by omega)]
  simp only [Option.bind_some]
  by_cases hg:onesI f>sz
  ·rw[if_pos hg]
   have hf1:1≤f:=by
    apply Classical.byContradiction
    intro h
    have:f=0:=by omega
    subst this
    have:onesI 0=0:=by decide
    omega
   have h:=less1 f ⟨hf1,hf.2⟩
   exact ih _ k h.1 (by omega) (by omega)
  ·rw[if_neg hg,if_pos (by omega)]
   exact hR f k (by omega)
theorem drawOf_l0 (n:Int) (hn:1≤n∧n≤6) (sz:Int) (hz:2≤sz) {s:List Int}:∀(d:Nat) (t:Int) (sets:List Int) (b c:Int) (k:Nat),t≤d→d≤20→sets.length+d≤50→Src s b→10001+20*d≤k →
  ∃ n' l b' c',spec_l01DrawOf.l0 k n sets sz t s b c=some (n',l,b',c')∧n'=n∧l.length≤63∧Src s b':=by
 intro d
 induction d with
 |zero=>
  intro t sets b c k ht hd hs h hk
  obtain ⟨k,rfl⟩:∃ m,k=m+1:=⟨k - 1,by omega⟩
  simp only [spec_l01DrawOf.l0]
  rw[if_neg (by omega)]
  obtain ⟨l,e,hl⟩:=made_ok n hn sets (by omega) k (by omega)
  rw[e]
  exact⟨_,_,_,_,rfl,rfl,hl,h⟩
 |succ d ih=>
  intro t sets b c k ht hd hs h hk
  obtain ⟨k,rfl⟩:∃ m,k=m+1:=⟨k - 1,by omega⟩
  simp only [spec_l01DrawOf.l0]
  by_cases h0:t>0
  ·rw[if_pos h0,specAll_is n (by omega) (by omega)]
   simp only [Option.bind_some]
   have hF:=full_range n hn
   obtain ⟨r,b1,c1,e,h1,hr0,hr1⟩:=next_ok h c (fullOf n)
   rw[e]
   simp only [Option.bind_some]
   have hr:=hr1 hF.1
   have ew:wrap64 (1+r)=1+r:=by unfold wrap64;omega
   have et:wrap64 (t - 1)=t - 1:=by unfold wrap64;omega
   rw[ew]
   have ho:=ones_le (1+r)
   obtain ⟨q,hq,P⟩:=drawOf_l1 n sets (by omega) sz t b1 c1 hz (10001+20*d) (fun q=>∃ l b' c',q=(n,l,b',c')∧l.length≤63∧Src s b') (fun f k' hk'=>by
    rw[et]
    obtain ⟨n',l,b',c',e',en,hl,hsrc⟩:=ih (t - 1) (sets ++ [f]) b1 c1 k' (by omega) (by omega) (by simp;omega) h1 hk'
    subst en
    exact⟨_,e',l,b',c',rfl,hl,hsrc⟩) 6 (1+r) k ⟨by omega,by omega⟩ (by have:=ho.2;omega) (by omega)
   obtain ⟨l,b',c',rfl,hl,hsrc⟩:=P
   exact⟨_,_,_,_,hq,rfl,hl,hsrc⟩
  ·rw[if_neg h0]
   obtain ⟨l,e,hl⟩:=made_ok n hn sets (by omega) k (by omega)
   rw[e]
   exact⟨_,_,_,_,rfl,rfl,hl,h⟩
theorem drawOf_ok {s:List Int} {b:Int} (h:Src s b) (c n:Int) (hn:1≤n∧n≤6) (k:Nat) (hk:20000≤k):∃ n' l b' c',spec_l01DrawOf.f k s b c n=some (n',l,b',c')∧n'=n∧l.length≤63∧Src s b':=by
 unfold spec_l01DrawOf.f
 obtain ⟨r,b1,c1,e,h1,hr⟩:=pick_ok h c [2,3,3,4] (by decide)
 rw[e]
 simp only [Option.bind_some]
 obtain ⟨r2,b2,c2,e2,h2,hr2⟩:=pick_ok h1 c1 [3,7,12] (by decide)
 rw[e2]
 simp only [Option.bind_some]
 obtain ⟨r3,b3,c3,e3,h3,h30,h31⟩:=next_ok h2 c2 r2
 rw[e3]
 simp only [Option.bind_some]
 simp only [List.mem_cons,List.not_mem_nil,or_false] at hr hr2
 have:=h31 (by omega)
 exact drawOf_l0 n hn r (by omega) 15 r3 [] b3 c3 k (by omega) (by omega) (by simp) h3 (by omega)
theorem ordN_ok {s:List Int}:∀(d:Nat) (i:Int) (xs:List Int) (b c:Int),Src s b→i=xs.length→∃ l b' c',ordN s d i xs b c=some (l,b',c')∧Src s b'∧l.length=xs.length+d:=by
 intro d
 induction d with
 |zero=>intro i xs b c h hi;exact⟨xs,b,c,rfl,h,rfl⟩
 |succ d ih=>
  intro i xs b c h hi
  simp only [ordN]
  obtain ⟨r,b1,c1,e,h1,h0,h2⟩:=next_ok h c (i+1)
  rw[e]
  simp only [Option.bind_some]
  have:=h2 (by omega)
  rw[if_pos ⟨h0,by omega⟩]
  obtain ⟨l,b',c',e',h',hl⟩:=ih (i+1) (xs.take r.toNat ++ [i] ++ xs.drop r.toNat) b1 c1 h1 (by simp;omega)
  exact⟨l,b',c',e',h',by rw[hl];simp;omega⟩
theorem order_ok {s:List Int} {b:Int} (h:Src s b) (c n:Int) (hn:0≤n∧n≤6):∃ l b' c',spec_l01DrawOrder.f s b c n=some (l,b',c')∧Src s b'∧(l.length:Int)=n:=by
 unfold spec_l01DrawOrder.f
 rw[if_pos ⟨hn.1,by omega⟩]
 obtain ⟨l,b',c',e,h',hl⟩:=ordN_ok n.toNat 0 [] b c h rfl
 exact⟨l,b',c',e,h',by rw[hl];simp;omega⟩
theorem moved_ok (x:Int) (p:List Int) (hp:p.length≤1000):∀(d i:Nat) (a:Int) (k:Nat),p.length - i=d→i≤p.length→d<k→∃ r,spec_l01Moved.l0 k x p a (i:Int)=some r:=by
 intro d
 induction d with
 |zero=>
  intro i a k hd hi hk
  obtain ⟨k,rfl⟩:∃ m,k=m+1:=⟨k - 1,by omega⟩
  simp only [spec_l01Moved.l0]
  rw[if_neg (by omega)]
  exact⟨_,rfl⟩
 |succ d ih=>
  intro i a k hd hi hk
  obtain ⟨k,rfl⟩:∃ m,k=m+1:=⟨k - 1,by omega⟩
  simp only [spec_l01Moved.l0]
  rw[if_pos (by omega),if_pos (u64_range _).1]
  have e:wrap64 ((i:Int)+1)=((i+1:Nat):Int):=by unfold wrap64;omega
  rw[e]
  by_cases hb:Go.bits .and .i64 (shr .i64 x (IntKind.u64.wrap (i:Int))) 1=1
  ·rw[if_pos hb,if_pos (by omega),if_pos (u64_range _).1]
   exact ih (i+1) _ k (by omega) (by omega) (by omega)
  ·rw[if_neg hb]
   exact ih (i+1) _ k (by omega) (by omega) (by omega)
theorem renamed_ok (n:Int) (hn:1≤n∧n≤6) (l p:List Int) (hl:l.length≤63) (hp:p.length≤1000):∀(d i:Nat) (out:List Int) (k:Nat),l.length - i=d→i≤l.length→out.length+d≤100→10001+d≤k →
  ∃ r,spec_l01Renamed.l0 k p out (i:Int) n l=some (n,r)∧r.length≤63:=by
 intro d
 induction d with
 |zero=>
  intro i out k hd hi ho hk
  obtain ⟨k,rfl⟩:∃ m,k=m+1:=⟨k - 1,by omega⟩
  simp only [spec_l01Renamed.l0]
  rw[if_neg (by omega)]
  obtain ⟨r,e,hr⟩:=made_ok n hn out (by omega) k (by omega)
  rw[e]
  exact⟨_,rfl,hr⟩
 |succ d ih=>
  intro i out k hd hi ho hk
  obtain ⟨k,rfl⟩:∃ m,k=m+1:=⟨k - 1,by omega⟩
  simp only [spec_l01Renamed.l0]
  rw[if_pos (by omega),if_pos (by omega)]
  have e:wrap64 ((i:Int)+1)=((i+1:Nat):Int):=by unfold wrap64;omega
  obtain ⟨r,er⟩:=moved_ok (rd l (i:Int)) p hp p.length 0 0 k (by omega) (by omega) (by omega)
  have er':spec_l01Moved.f k (rd l (i:Int)) p=some r:=er
  rw[er',e]
  simp only [Option.bind_some]
  rw[if_pos (by omega)]
  exact ih (i+1) _ k (by omega) (by omega) (by simp;omega) (by omega)
def namedOk (s:ByteArray):Bool:=match spec_l01Named.f 4000 s with
 |some (n,l,_)=>decide (1≤n∧n≤6) && decide (l.length≤63)
 |none=>false
theorem named_11:∀ i:Fin 11,namedOk (((spec_l01Names.f).getD []).getD i.val ByteArray.empty)=true:=by decide +kernel
theorem named_ok (i:Nat) (hi:i<11) (k:Nat) (hk:4000≤k):∃ n l q,spec_l01Named.f k (((spec_l01Names.f).getD []).getD i ByteArray.empty)=some (n,l,q)∧(1≤n∧n≤6)∧l.length≤63:=by
 have h:=named_11 ⟨i,hi⟩
 simp only at h
 generalize ((spec_l01Names.f).getD []).getD i ByteArray.empty=s at h ⊢
 unfold namedOk at h
 cases e:spec_l01Named.f 4000 s with
 |none=>rw[e] at h;cases h
 |some q=>
  obtain ⟨n,l,q⟩:=q
  rw[e] at h
  simp only [Bool.and_eq_true,decide_eq_true_eq] at h
  have hm:∀ j,spec_l01Named.f (4000+j) s=some (n,l,q):=by
   intro j
   induction j with
   |zero=>exact e
   |succ j ih=>exact spec_l01Named.mono _ _ _ ih
  have:=hm (k - 4000)
  rw[show 4000+(k - 4000)=k by omega] at this
  exact⟨n,l,q,this,h.1,h.2⟩
theorem draw_ok {s:List Int} {b:Int} (h:Src s b) (c:Int) (k:Nat) (hk:20000≤k):∃ n l b' c',spec_l01Draw.f k s b c=some (n,l,b',c')∧(1≤n∧n≤6)∧l.length≤63∧Src s b':=by
 unfold spec_l01Draw.f
 obtain ⟨r,b1,c1,e,h1,_,_⟩:=next_ok h c 3
 rw[e]
 simp only [Option.bind_some]
 by_cases h0:r=0
 ·rw[if_pos h0]
  obtain ⟨T,hT⟩:∃ T,spec_l01Names.f=some T:=⟨_,rfl⟩
  have hT11:T.length=11:=by
   have:(spec_l01Names.f).getD []=T:=by rw[hT];rfl
   rw[← this]
   decide +kernel
  rw[hT]
  simp only [Option.bind_some]
  obtain ⟨r2,b2,c2,e2,h2,h20,h21⟩:=next_ok h1 c1 (T.length:Int)
  have hr2:=h21 (by omega)
  rw[e2]
  simp only [Option.bind_some]
  rw[if_pos h20,if_pos hr2]
  obtain ⟨i,rfl⟩:=Int.eq_ofNat_of_zero_le h20
  have en:rdOf ByteArray.empty T (i:Int)=((spec_l01Names.f).getD []).getD i ByteArray.empty:=by
   rw[hT]
   simp [rdOf]
  obtain ⟨n,l,q,e3,hn,hl⟩:=named_ok i (by omega) k (by omega)
  rw[en,e3]
  simp only [Option.bind_some]
  obtain ⟨p,b4,c4,e4,h4,hp⟩:=order_ok h2 c2 n ⟨by omega,by omega⟩
  rw[e4]
  simp only [Option.bind_some]
  obtain ⟨m,e5,hm⟩:=renamed_ok n hn l p hl (by omega) l.length 0 [] k (by omega) (by omega) (by simp;omega) (by omega)
  have e5':spec_l01Renamed.f k n l p=some (n,m):=e5
  rw[e5']
  exact⟨_,_,_,_,rfl,hn,hm,h4⟩
 ·rw[if_neg h0]
  obtain ⟨r2,b2,c2,e2,h2,hr2⟩:=pick_ok h1 c1 [1,2,3,4,4,5,5,6,6] (by decide)
  rw[e2]
  simp only [Option.bind_some]
  simp only [List.mem_cons,List.not_mem_nil,or_false] at hr2
  obtain ⟨n',l,b',c',e3,en,hl,h3⟩:=drawOf_ok h2 c2 r2 (by omega) k hk
  rw[e3]
  exact⟨_,_,_,_,rfl,by subst en;omega,hl,h3⟩
theorem spoil_ok {s:List Int} {b:Int} (h:Src s b) (c:Int) (k:Nat) (hk:20000≤k):∃ n l b' c',spec_l01Spoil.f k s b c=some (n,l,b',c')∧l.length≤1001∧Src s b':=by
 unfold spec_l01Spoil.f
 obtain ⟨n,l,b1,c1,e,hn,hl,h1⟩:=draw_ok h c k hk
 rw[e]
 simp only [Option.bind_some]
 obtain ⟨n2,l2,b2,c2,e2,h2,hl2⟩:=bad_ok h1 c1 n l (by omega)
 rw[e2]
 exact⟨_,_,_,_,rfl,hl2,h2⟩
theorem from_ok (code:List Int) (hl:code.length≤4096) (hb:∀ x ∈ code,0≤x∧x≤255) (k:Nat) (hk:20000≤k):∃ c,spec_l01From.f k code=some (code,0,c):=by
 have:∀(d i:Nat) (c:Int) (k:Nat),code.length - i=d→i≤code.length→d<k→∃ c',spec_l01From.l0 k code (i:Int) code 0 c=some (code,0,c'):=by
  intro d
  induction d with
  |zero=>
   intro i c k hd hi hk
   obtain ⟨k,rfl⟩:∃ m,k=m+1:=⟨k - 1,by omega⟩
   simp only [spec_l01From.l0]
   rw[if_neg (by omega)]
   exact⟨_,rfl⟩
  |succ d ih=>
   intro i c k hd hi hk
   obtain ⟨k,rfl⟩:∃ m,k=m+1:=⟨k - 1,by omega⟩
   simp only [spec_l01From.l0]
   rw[if_pos (by omega),if_pos (by omega),if_pos (by omega)]
   have e:wrap64 ((i:Int)+1)=((i+1:Nat):Int):=by unfold wrap64;omega
   rw[e]
   exact ih (i+1) _ k (by omega) (by omega) (by omega)
 unfold spec_l01From.f
 exact this code.length 0 _ k (by omega) (by omega) (by omega)
theorem src0 {code:List Int} (hl:code.length≤4096) (hb:∀ x ∈ code,0≤x∧x≤255):Src code 0:=⟨Int.le_refl _,by omega,hl,hb⟩
section
variable {code : List Int} (hl : code.length ≤ 4096) (hb : ∀ x ∈ code, 0 ≤ x ∧ x ≤ 255) (k : Nat) (hk : 30000 ≤ k)
include hl hb hk
theorem link_ok:∃ n l f,spec_DrawLinkOf.f k code=some (n,l,f)∧l.length≤1001:=by
 unfold spec_DrawLinkOf.f spec_l01With.f
 obtain ⟨c,e⟩:=from_ok code hl hb k (by omega)
 rw[e]
 simp only [Option.bind_some]
 obtain ⟨n,l,b1,c1,e1,hn,hl1,h1⟩:=draw_ok (src0 hl hb) c k (by omega)
 rw[e1]
 simp only [Option.bind_some]
 obtain ⟨a,ea⟩:=all_ok n
 rw[ea]
 simp only [Option.bind_some]
 obtain ⟨f,b2,c2,e2,h2⟩:=near_ok h1 c1 a
 rw[e2]
 simp only [Option.bind_some]
 have hj:∀(q:Bool) (b c:Int),(q=true→1≤(l.length:Int))→Src code b→∃ n' l' f',spec_l01With.j0 k f q code b c n l=some (n',l',f')∧l'.length≤1001:=by
  intro q b c hq h
  obtain ⟨k,rfl⟩:∃ m,k=m+1:=⟨k - 1,by omega⟩
  simp only [spec_l01With.j0]
  by_cases h0:q=true
  ·rw[if_pos h0]
   obtain ⟨r,b3,c3,e3,h3,h30,h31⟩:=next_ok h c (l.length:Int)
   rw[e3]
   simp only [Option.bind_some]
   rw[if_pos h30,if_pos (h31 (hq h0))]
   obtain ⟨n4,l4,b4,c4,e4,h4,hl4⟩:=bad_ok h3 c3 n l (by omega)
   rw[e4]
   exact⟨_,_,_,rfl,hl4⟩
  ·rw[if_neg h0]
   obtain ⟨n4,l4,b4,c4,e4,h4,hl4⟩:=bad_ok h c n l (by omega)
   rw[e4]
   exact⟨_,_,_,rfl,hl4⟩
 by_cases hp:(l.length:Int)>0
 ·rw[if_pos hp]
  obtain ⟨r,b3,c3,e3,h3,_,_⟩:=next_ok h2 c2 8
  rw[e3]
  simp only [Option.bind_some]
  obtain ⟨n',l',f',e4,hl4⟩:=hj (decide (r>0)) b3 c3 (fun _=>by omega) h3
  rw[e4]
  exact⟨_,_,_,rfl,hl4⟩
 ·rw[if_neg hp]
  obtain ⟨n',l',f',e4,hl4⟩:=hj false b2 c2 (fun h=>by cases h) h2
  rw[e4]
  exact⟨_,_,_,rfl,hl4⟩
theorem cone_ok:∃ n l,spec_DrawConeOf.f k code=some (n,l)∧l.length≤1001:=by
 unfold spec_DrawConeOf.f
 obtain ⟨c,e⟩:=from_ok code hl hb k (by omega)
 rw[e]
 simp only [Option.bind_some]
 obtain ⟨r,b1,c1,e1,h1,_,_⟩:=next_ok (src0 hl hb) c 8
 rw[e1]
 simp only [Option.bind_some]
 by_cases h0:r=0
 ·rw[if_pos h0]
  obtain ⟨n,l,b2,c2,e2,hl2,_⟩:=spoil_ok h1 c1 k (by omega)
  rw[e2]
  exact⟨_,_,rfl,hl2⟩
 ·rw[if_neg h0]
  obtain ⟨r2,b2,c2,e2,h2,h20,h21⟩:=next_ok h1 c1 5
  rw[e2]
  simp only [Option.bind_some]
  have:=h21 (by omega)
  have ew:wrap64 (1+r2)=1+r2:=by unfold wrap64;omega
  obtain ⟨n,l,b3,c3,e3,en,hl3,h3⟩:=drawOf_ok h2 c2 (1+r2) (by omega) k (by omega)
  rw[ew,e3]
  simp only [Option.bind_some]
  obtain ⟨n4,l4,b4,c4,e4,h4,hl4⟩:=bad_ok h3 c3 n l (by omega)
  rw[e4]
  exact⟨_,_,rfl,hl4⟩
theorem join_ok:∃ n l m q,spec_DrawJoinOf.f k code=some (n,l,m,q)∧l.length≤1001∧q.length≤1001:=by
 unfold spec_DrawJoinOf.f
 obtain ⟨c,e⟩:=from_ok code hl hb k (by omega)
 rw[e]
 simp only [Option.bind_some]
 obtain ⟨r1,b1,c1,e1,h1,h10,h11⟩:=next_ok (src0 hl hb) c 3
 have hr1:=h11 (by omega)
 have ew1:wrap64 (1+r1)=1+r1:=by unfold wrap64;omega
 rw[e1]
 simp only [Option.bind_some]
 obtain ⟨n2,l2,b2,c2,e2,en2,hl2,h2⟩:=drawOf_ok h1 c1 (1+r1) (by omega) k (by omega)
 rw[ew1,e2]
 simp only [Option.bind_some]
 obtain ⟨r3,b3,c3,e3,h3,h30,h31⟩:=next_ok h2 c2 3
 have hr3:=h31 (by omega)
 have ew3:wrap64 (1+r3)=1+r3:=by unfold wrap64;omega
 rw[e3]
 simp only [Option.bind_some]
 obtain ⟨n4,l4,b4,c4,e4,en4,hl4,h4⟩:=drawOf_ok h3 c3 (1+r3) (by omega) k (by omega)
 rw[ew3,e4]
 simp only [Option.bind_some]
 obtain ⟨r5,b5,c5,e5,h5,_,_⟩:=next_ok h4 c4 10
 rw[e5]
 simp only [Option.bind_some]
 by_cases h0:r5=0
 ·rw[if_pos h0]
  obtain ⟨n6,l6,b6,c6,e6,hn6,hl6,h6⟩:=draw_ok h5 c5 k (by omega)
  rw[e6]
  simp only [Option.bind_some]
  obtain ⟨n7,l7,b7,c7,e7,h7,hl7⟩:=bad_ok h6 c6 n2 l2 (by omega)
  rw[e7]
  simp only [Option.bind_some]
  obtain ⟨n8,l8,b8,c8,e8,h8,hl8⟩:=bad_ok h7 c7 n6 l6 (by omega)
  rw[e8]
  exact⟨_,_,_,_,rfl,hl7,hl8⟩
 ·rw[if_neg h0]
  obtain ⟨n7,l7,b7,c7,e7,h7,hl7⟩:=bad_ok h5 c5 n2 l2 (by omega)
  rw[e7]
  simp only [Option.bind_some]
  obtain ⟨n8,l8,b8,c8,e8,h8,hl8⟩:=bad_ok h7 c7 n4 l4 (by omega)
  rw[e8]
  exact⟨_,_,_,_,rfl,hl7,hl8⟩
theorem renumber_ok:∃ n l p,spec_DrawRenumberComplex.f k code=some (n,l,p)∧l.length≤1001∧p.length≤1001:=by
 unfold spec_DrawRenumberComplex.f
 obtain ⟨c,e⟩:=from_ok code hl hb k (by omega)
 rw[e]
 simp only [Option.bind_some]
 obtain ⟨n1,l1,b1,c1,e1,hn1,hl1,h1⟩:=draw_ok (src0 hl hb) c k (by omega)
 rw[e1]
 simp only [Option.bind_some]
 obtain ⟨p,b2,c2,e2,h2,hp⟩:=order_ok h1 c1 n1 ⟨by omega,by omega⟩
 rw[e2]
 simp only [Option.bind_some]
 obtain ⟨r3,b3,c3,e3,h3,_,_⟩:=next_ok h2 c2 16
 rw[e3]
 simp only [Option.bind_some]
 by_cases h0:r3=0
 ·rw[if_pos h0,if_pos (by omega)]
  obtain ⟨n4,l4,b4,c4,e4,h4,hl4⟩:=bad_ok h3 c3 n1 l1 (by omega)
  rw[e4]
  exact⟨_,_,_,rfl,hl4,by simp;omega⟩
 ·rw[if_neg h0]
  by_cases h0:r3=1
  ·have ew:wrap64 ((p.length:Int) - 1)=(p.length:Int) - 1:=by unfold wrap64;omega
   rw[if_pos h0,ew,if_pos (by omega),if_pos (by omega)]
   obtain ⟨x,b4,c4,e4,h4,_⟩:=pick_ok h3 c3 [-1,6,rd p ((p.length:Int) - 1)] (by simp)
   rw[e4]
   simp only [Option.bind_some]
   rw[if_pos (by omega)]
   obtain ⟨n5,l5,b5,c5,e5,h5,hl5⟩:=bad_ok h4 c4 n1 l1 (by omega)
   rw[e5]
   exact⟨_,_,_,rfl,hl5,by simp;omega⟩
  ·rw[if_neg h0]
   obtain ⟨n5,l5,b5,c5,e5,h5,hl5⟩:=bad_ok h3 c3 n1 l1 (by omega)
   rw[e5]
   exact⟨_,_,_,rfl,hl5,by omega⟩
theorem components_ok:∃ n l,spec_DrawComponentsOf.f k code=some (n,l)∧l.length≤1001:=by
 unfold spec_DrawComponentsOf.f
 obtain ⟨c,e⟩:=from_ok code hl hb k (by omega)
 rw[e]
 simp only [Option.bind_some]
 obtain ⟨n,l,b2,c2,e2,hl2,_⟩:=spoil_ok (src0 hl hb) c k (by omega)
 rw[e2]
 exact⟨_,_,rfl,hl2⟩
theorem part_ok:∃ n l f,spec_DrawPartOn.f k code=some (n,l,f)∧l.length≤1001:=by
 unfold spec_DrawPartOn.f
 obtain ⟨c,e⟩:=from_ok code hl hb k (by omega)
 rw[e]
 simp only [Option.bind_some]
 obtain ⟨n1,l1,b1,c1,e1,hn1,hl1,h1⟩:=draw_ok (src0 hl hb) c k (by omega)
 rw[e1]
 simp only [Option.bind_some]
 obtain ⟨a,ea⟩:=all_ok n1
 rw[ea]
 simp only [Option.bind_some]
 obtain ⟨f,b2,c2,e2,h2⟩:=near_ok h1 c1 a
 rw[e2]
 simp only [Option.bind_some]
 obtain ⟨n4,l4,b4,c4,e4,h4,hl4⟩:=bad_ok h2 c2 n1 l1 (by omega)
 rw[e4]
 exact⟨_,_,_,rfl,hl4⟩
theorem skeleton_ok:∃ n l d,spec_DrawSkeletonOf.f k code=some (n,l,d)∧l.length≤1001:=by
 unfold spec_DrawSkeletonOf.f
 obtain ⟨c,e⟩:=from_ok code hl hb k (by omega)
 rw[e]
 simp only [Option.bind_some]
 obtain ⟨n,l,b2,c2,e2,hl2,h2⟩:=spoil_ok (src0 hl hb) c k (by omega)
 rw[e2]
 simp only [Option.bind_some]
 obtain ⟨r,b3,c3,e3,h3,_⟩:=pick_ok h2 c2 [-1,0,1,1,2,3,5,-2,6] (by decide)
 rw[e3]
 exact⟨_,_,_,rfl,hl2⟩
end
end Go.Proofs.YtlhkdbkjafiikaaGreat.K
end

section
namespace Go.Proofs.YtlhkdbkjafiikaaGreat.K
open Go.RowKit Go.Shelf Go.Proofs.YtlhkdbkjafiikaaGreatW.PrintWords Go.Proofs.YtlhkdbkjafiikaaGreatW.PrintLast Go.Proofs.YtlhkdbkjafiikaaGreatW.PrintMore
set_option linter.unusedVariables false
set_option linter.unusedSimpArgs false
set_option maxHeartbeats 1000000 in
theorem SkeletonOf1_calls (n f:Int) (hn:1≤n∧n≤6) (Bk Bf:Nat) (A:Option Addr) (c:Nat) (l:List Int) (w:World) (hb:CB w Bk n (.slice A l.length c)) (hf:w.cell? ⟨Bf,0,none⟩=some (I f)) (hk:Kx w A c l) :
  Calls Tryz.prog 97 #[.pointer (some ⟨Bf,0,none⟩)] w fun e w'=>e = .returned (.bool (decide (-1≤f∧f≤5)))∧Grew w w':=by
 have H:=Aside0.mk (within_calls f (-1) 5 _ rfl w)
 generalize decide (-1≤f∧f≤5)=r at H ⊢
 clear hk hb
 go_enter Tryz.func97,Tryz.ntmps97
 go_wp2_with fail
 refine H.out.mono ?_
 rintro e w1 ⟨rfl,hG1⟩
 go_wp2_with fail
 go_ret
 exact⟨rfl,hG1⟩
set_option maxHeartbeats 1000000 in
theorem SkeletonOf2_calls (x n f:Int) (h0:0≤x) (h1:x≤63) (Bk Bf:Nat) (A:Option Addr) (c:Nat) (l:List Int) (w:World) (hb:CB w Bk n (.slice A l.length c)) (hf:w.cell? ⟨Bf,0,none⟩=some (I f)) (hk:Kx w A c l) :
  Calls Tryz.prog 98 (#[I x] ++ #[.pointer (some ⟨Bf,0,none⟩)]) w fun e w'=>e = .returned (.bool (decide (dimI x≤f)))∧Grew w w':=by
 have hlt:Bf<w.heap.size:=World.block_lt_of_cell? w _ hf
 have H:=Aside0.mk (fun w=>dimension_calls x h0 h1 w)
 clear h0 h1 hk hb
 generalize dimI x=q at H ⊢
 go_enter Tryz.func98,Tryz.ntmps98
 go_wp2_with fail
 go_region_held3 (fun w'=>w'.cell? ⟨Bf,0,none⟩=some (I f))
  (first|exact(HG.out.cell (p:=⟨Bf,0,none⟩) hlt).trans hf|go_keep)
  ((go_at_call 99;refine(H.out _).mono ?_;rintro e w1 ⟨rfl,hG⟩;have HG:Aside0 (Grew w w1):=⟨Below.trans ((Below.refl _ w).drew) hG⟩;clear hG))
 all_goals (go_wp2_with fail;go_ret;exact⟨by first|rfl|simp,HG.out⟩)
def SkeletonOf_b (n:Int) (l:List Int) (f:Int):Bool:=decide (-1≤f∧f≤5)
def SkeletonOf_p (l:List Int) (f x:Int):Bool:=decide (dimI x≤f)
set_option maxHeartbeats 2000000 in
theorem SkeletonOf_calls (n:Int) (A:Option Addr) (c:Nat) (l:List Int) (f:Int) (w:World) (hk:Kx w A c l) :
  Calls Tryz.prog 32 #[.agg #[I n,.slice A l.length c],I f] w fun e w'=>∃ v,e = .returned (.tuple #[.agg #[I (partOf n l (SkeletonOf_b n l f) (SkeletonOf_p l f)).1,v],I (partOf n l (SkeletonOf_b n l f) (SkeletonOf_p l f)).2.2])∧Ki.R 2 w' w.heap.size (fun _=>True) v (partOf n l (SkeletonOf_b n l f) (SkeletonOf_p l f)).2.1∧Grew w w':=by
 obtain ⟨W3,hW3⟩:∃ W3,W3=((w.alloc (.cells #[I n,.slice A l.length c] 26)).alloc (.cells #[I f] 2)).alloc (.cells #[I 0,.slice none 0 0] 26):=⟨_,rfl⟩
 have hB:CB W3 w.heap.size n (.slice A l.length c):=by rw[hW3];exact blk_alloc (blk_alloc (blk_new w _) _) _
 have hF:W3.heap[w.heap.size+1]?=some (.cells #[I f] 2 (0,0)):=by
  rw[hW3]
  refine blk_alloc ?_ _
  have:=blk_new (w.alloc (.cells #[I n,.slice A l.length c] 26)) (.cells #[I f] 2)
  rwa [World.size_alloc] at this
 have hO:CB W3 (w.heap.size+2) 0 (.slice none 0 0):=by
  rw[hW3]
  have:=blk_new ((w.alloc (.cells #[I n,.slice A l.length c] 26)).alloc (.cells #[I f] 2)) (.cells #[I 0,.slice none 0 0] 26)
  rwa [World.size_alloc,World.size_alloc] at this
 have hg:Grew w W3:=by rw[hW3];exact below_alloc (below_alloc (below_alloc (Grew.refl w) _) _) _
 have H:=Aside0.mk (complexCode_calls (SkeletonOf_b n l f) n A c l 97 #[] #[.pointer (some ⟨w.heap.size+1,0,none⟩)] W3 (hk.later hg) (enters_of Tryz.func97 (by kernel_rfl) rfl)
  (fun hi W hW=>by
   have:=SkeletonOf1_calls n f (isC_size hi) w.heap.size (w.heap.size+1) A c l W (blk_below hB hW) (blk_cell (blk_below hF hW) 0) (hk.later (Grew.trans hg hW))
   rw[Array.empty_append]
   exact this))
 obtain ⟨r,hr⟩:∃ r,r=partOf n l (SkeletonOf_b n l f) (SkeletonOf_p l f):=⟨_,rfl⟩
 rw[← hr]
 have k0:=hB.c0
 have k1:=hB.c1
 have HK:=Aside0.mk hk
 have HB:=Aside0.mk hB
 have HF:=Aside0.mk hF
 have HO:=Aside0.mk hO
 have HG:=Aside0.mk hg
 clear hk hB hF hO hg
 obtain ⟨cc,hcc⟩:∃ cc,cc=codeOf n l (SkeletonOf_b n l f):=⟨_,rfl⟩
 rw[← hcc] at H
 by_cases hz:cc=0
 ·subst hz
  obtain ⟨hi,hb⟩:=codeOf_zero hcc.symm
  have HN:=Aside0.mk (isC_size hi)
  have HV:Aside0 (r=(n,thoseL n (fun x=>hasB l x && SkeletonOf_p l f x),0)):=⟨by rw[hr];unfold partOf;rw[if_pos hcc.symm]⟩
  clear hr hcc hi hb
  subst hW3
  go_enter Tryz.func32,Tryz.ntmps32
  go_wp2_with fail
  refine H.out.mono ?_
  rintro e w1 ⟨rfl,hG1⟩
  have HB1:=Aside0.mk (blk_below HB.out hG1)
  have HF1:=Aside0.mk (blk_below HF.out hG1)
  have HO1:=Aside0.mk (blk_below HO.out hG1)
  have HG1:=Aside0.mk (Grew.trans HG.out hG1)
  have H2:=Aside0.mk (part_calls (SkeletonOf_p l f) n (by have:=HN.out;omega) A c l 98 #[] #[.pointer (some ⟨w.heap.size+1,0,none⟩)] w1 (HK.out.later HG1.out) (enters_of Tryz.func98 (by kernel_rfl) rfl)
   (fun x h0 h1 _ W hW=>SkeletonOf2_calls x n f (by omega) (by have:=full_range n HN.out;omega) w.heap.size (w.heap.size+1) A c l W (blk_below HB1.out hW) (blk_cell (blk_below HF1.out hW) 0) (HK.out.later (Grew.trans HG1.out hW))))
  have k0:w1.cell? ⟨w.heap.size,0,none⟩=some (I n):=blk_cell HB1.out 0
  have k1:w1.cell? ⟨w.heap.size,1,none⟩=some (.slice A l.length c):=blk_cell HB1.out 1
  clear hG1
  go_wp2_with fail
  refine H2.out.mono ?_
  rintro e w2 ⟨v,rfl,hR,hG⟩
  clear k0 k1
  have hB2:CB w2 (w.heap.size+2) 0 (.slice none 0 0):=blk_below HO1.out hG
  have HB2:=Aside0.mk hB2
  have HR2:=Aside0.mk hR
  have HG2:=Aside0.mk (Grew.trans HG1.out hG)
  have hsz:=HG1.out.size
  have k0:=hB2.c0
  have k1:=hB2.c1
  have f0:=blk_frozen hB2 0
  have f1:=blk_frozen hB2 1
  obtain ⟨A2,c2,e2⟩:=Kd.R_slice hR
  subst e2
  clear hB2 hR hG
  go_wp2_with fail
  refine bodyPost_ret (results_ct rfl _ _ (w.heap.size+2) 26 #[I n,_] (0,0) _ rfl HB2.out.set Tryz.underlying26 rfl (by kernel_rfl)) rfl ?_
  rw[HV.out]
  exact⟨_,rfl,Kd.R_lower (Ri.setCB2 HR2.out HB2.out) hsz,below_set (below_set HG2.out (by omega)) (by omega)⟩
 ·have HV:Aside0 (r=(0,[],cc)):=⟨by rw[hr,hcc];unfold partOf;rw[if_neg (by rw[← hcc];exact hz)]⟩
  clear hr hcc
  subst hW3
  go_enter Tryz.func32,Tryz.ntmps32
  go_wp2_with fail
  refine H.out.mono ?_
  rintro e w1 ⟨rfl,hG1⟩
  clear k0 k1
  have hB1:CB w1 (w.heap.size+2) 0 (.slice none 0 0):=blk_below HO.out hG1
  have HB1:=Aside0.mk hB1
  have HG1:=Aside0.mk (Grew.trans HG.out hG1)
  have k0:=hB1.c0
  have k1:=hB1.c1
  have f0:=blk_frozen hB1 0
  have f1:=blk_frozen hB1 1
  clear hB1 hG1
  go_wp2_with fail
  refine bodyPost_ret (results_ct rfl _ _ (w.heap.size+2) 26 #[I 0,.slice none 0 0] (0,0) _ rfl HB1.out.set Tryz.underlying26 rfl (by kernel_rfl)) rfl ?_
  rw[HV.out]
  exact⟨_,rfl,Kd.R_nil _ _ _ _ _,below_set (below_set HG1.out (by omega)) (by omega)⟩
end Go.Proofs.YtlhkdbkjafiikaaGreat.K
end

section
namespace Go.Proofs.YtlhkdbkjafiikaaGreat.Q
open Go.RowKit Go.Proofs.YtlhkdbkjafiikaaGreatW.PrintWords Go.Proofs.YtlhkdbkjafiikaaGreatW.PrintLast Go.Proofs.YtlhkdbkjafiikaaGreatW.PrintMore
attribute [local go_sem] max2_int min2_int max_two min_two max_three min_three max_four min_four
set_option linter.unusedVariables false
set_option linter.unusedSimpArgs false
def spec_SkeletonOf.l0:Nat→Int→Int→Int→List Int→Int→List Int→Option (Int×List Int×Int)
 |0,_,_,_,_,_,_=>none
 |k+1,x1,x7,x288000,x288001,x295000,x295001=>if x7<(x288001.length:Int) then (if 0≤x7 then ((spec_l01Ones.f k (rd x288001 x7)).bind fun t296=>(if t296≤(wrap64 (x1+1)) then (if x295001.length<17592186044416 then (spec_SkeletonOf.l0 k x1 (wrap64 (x7+1)) x288000 x288001 x295000 (x295001 ++ [rd x288001 x7])) else (none)) else (spec_SkeletonOf.l0 k x1 (wrap64 (x7+1)) x288000 x288001 x295000 x295001))) else (none)) else (some (x295000,x295001,0))
def spec_SkeletonOf.f (k:Nat) (a0_0:Int) (l0_1:List Int) (a1:Int):Option (Int×List Int×Int):=(spec_l01Is.f k a0_0 l0_1).bind fun t289=>(if t289=true then ((spec_l01In.f a1 (-1) 5).bind fun t290=>(if t290=true then (spec_SkeletonOf.l0 k a1 0 a0_0 l0_1 a0_0 (([]:List Int))) else (some (0,([]:List Int),2)))) else (some (0,([]:List Int),1)))
theorem spec_SkeletonOf.mono_l:∀ k,(∀ y0 y1 y2 y3 y4 y5,LeO (spec_SkeletonOf.l0 k y0 y1 y2 y3 y4 y5) (spec_SkeletonOf.l0 (k+1) y0 y1 y2 y3 y4 y5))
 |0=>fun _ _ _ _ _ _ r h=>by simp [spec_SkeletonOf.l0] at h
 |k+1=>by
  have ih0:=spec_SkeletonOf.mono_l k
  ·intro y0 y1 y2 y3 y4 y5;unfold spec_SkeletonOf.l0;repeat' first
   |(with_reducible first|exact ih0 _ _ _ _ _ _|exact spec_l01Is.mono _ _ _|exact spec_l01Ones.mono _ _|exact LeO.refl _|exact LeO.none _|refine LeO.ite ?_ ?_|refine LeO.bind ?_ (fun _=>?_))
theorem spec_SkeletonOf.mono:∀ a0 a1 a2 k,LeO (spec_SkeletonOf.f k a0 a1 a2) (spec_SkeletonOf.f (k+1) a0 a1 a2):=by
 intro a0 a1 a2 k;have ih0:=spec_SkeletonOf.mono_l k;unfold spec_SkeletonOf.f;repeat' first
   |(with_reducible first|exact ih0 _ _ _ _ _ _|exact spec_l01Is.mono _ _ _|exact spec_l01Ones.mono _ _|exact LeO.refl _|exact LeO.none _|refine LeO.ite ?_ ?_|refine LeO.bind ?_ (fun _=>?_))
def spec_SkeletonOf.T10:Bool×List (List Nat×List Nat):=(true,[([],[]),([0],[0]),([],[]),([2],[2]),([],[]),([3,4],[3,4]),([5],[5]),([6],[6]),([1,7],[1,7]),([0,1,2,3,4,5,6,7,8],[]),([9,8,8,0,1,2,3,4,5,6,7,8],[8,9])])
def spec_SkeletonOf.B10:List Nat:= [0,1,0,4,0,28,60,124,255,511,1023]
theorem spec_SkeletonOf.tab10:rtab .any (opsOf Tryz.f33 10)=spec_SkeletonOf.T10:=by kernel_rfl
theorem spec_SkeletonOf.bits10:waitsOk spec_SkeletonOf.T10.2 spec_SkeletonOf.B10=true:=by kernel_rfl
set_option maxHeartbeats 8000000 in
set_option maxRecDepth 100000 in
theorem spec_SkeletonOf.calls (k:Nat) (a0_0:Int) (A0_1:Option Addr) (c0_1:Nat) (l0_1:List Int) (a1:Int) (r1:Int) (r2:List Int) (r3:Int) (w:World) (hr0_1:Kd.C (Kd.int .i64) w A0_1 l0_1.length l0_1) (hc0_1:l0_1.length≤c0_1) (h:spec_SkeletonOf.f k a0_0 l0_1 a1=some (r1,r2,r3)) :
  Calls Tryz.prog 33 #[.agg #[.int .i64 a0_0,.slice A0_1 l0_1.length c0_1],.int .i64 a1] w fun e w'=>∃ v1_:Value,e = .returned (.tuple #[.agg #[.int .i64 r1,v1_],.int .i64 r3])∧Kd.R (Kd.int .i64) 2 w' w.heap.size (fun _=>True) v1_ r2∧Below w.heap.size w w':=by
 have hu26:=Tryz.underlying26;have HR0_1:=Aside0.mk hr0_1;have HC0_1:=Aside0.mk hc0_1;clear hr0_1 hc0_1;have HB:=Aside0.mk (Below.refl w.heap.size w);have H:((spec_l01Is.f k a0_0 l0_1).bind fun t289=>(if t289=true then ((spec_l01In.f a1 (-1) 5).bind fun t290=>(if t290=true then (spec_SkeletonOf.l0 k a1 0 a0_0 l0_1 a0_0 (([]:List Int))) else (some (0,([]:List Int),2)))) else (some (0,([]:List Int),1))))=some (r1,r2,r3):=h;clear h;replace H:=Option.bind_eq_some_iff.mp H;obtain ⟨t289,A30,H⟩:=H;replace H:(if t289=true then ((spec_l01In.f a1 (-1) 5).bind fun t290=>(if t290=true then (spec_SkeletonOf.l0 k a1 0 a0_0 l0_1 a0_0 (([]:List Int))) else (some (0,([]:List Int),2)))) else (some (0,([]:List Int),1)))=some (r1,r2,r3):=H;have A3:=Aside0.mk A30;clear A30;by_cases c4:t289=true
 ·subst c4;have H1:((spec_l01In.f a1 (-1) 5).bind fun t290=>(if t290=true then (spec_SkeletonOf.l0 k a1 0 a0_0 l0_1 a0_0 (([]:List Int))) else (some (0,([]:List Int),2))))=some (r1,r2,r3):=by rw[if_pos rfl] at H;exact H
  clear H;have H:=H1;clear H1;replace H:=Option.bind_eq_some_iff.mp H;obtain ⟨t290,A50,H⟩:=H;replace H:(if t290=true then (spec_SkeletonOf.l0 k a1 0 a0_0 l0_1 a0_0 (([]:List Int))) else (some (0,([]:List Int),2)))=some (r1,r2,r3):=H;have A5:=Aside0.mk A50;clear A50;by_cases c6:t290=true
  ·subst c6;have H1:(spec_SkeletonOf.l0 k a1 0 a0_0 l0_1 a0_0 (([]:List Int)))=some (r1,r2,r3):=by rw[if_pos rfl] at H;exact H
   clear H;have H:=H1;clear H1;obtain ⟨y291,hy291⟩:∃ y_:List Int,y_=(([]:List Int)):=⟨_,rfl⟩
   replace H:(spec_SkeletonOf.l0 k a1 0 a0_0 l0_1 a0_0 y291)=some (r1,r2,r3):=by first|(rw[hy291];with_reducible exact H)|(have H2_:=(Option.bind_some _ _).symm.trans H;rw[hy291];with_reducible exact H2_)|(have H2_:=(Option.bind_some _ _).symm.trans H;with_reducible exact H2_)|with_reducible exact H|(rw[hy291];exact H)|exact H
   have Ny291:=Aside0.mk hy291;clear hy291;have H':=Aside0.mk H;clear H;go_enter Tryz.func33,Tryz.ntmps33;go_wp2_with (first|((with_reducible refine gate_dst (N:=2) rfl ?_);refine bx 2 #[.int .i64 a0_0,.slice A0_1 l0_1.length c0_1] 26 ?_;intro gb287 hg w7 hbox hb;have BK287:=Aside0.mk (hbox);have GE287:=gzA hg HB;replace HB:=bsA HB hb;clear hb hbox hg)|((with_reducible refine gate_dst (N:=4) rfl ?_);refine bx 4 #[.int .i64 0,.slice none 0 0] 26 ?_;intro gb288 hg w8 hbox hb;have BK288:=Aside0.mk (hbox);have GE288:=gzA hg HB;replace HB:=bsA HB hb;have NB287_288:=nlA hg BK287;have NB288_287:=ngA hg BK287;replace BK287:=bkA BK287 hb;clear hb hbox hg;have hnb9:=NB287_288.out;have hnc9:=NB288_287.out;have hcz10_0:=z0_ BK287;have hcz10_1:=z1_ BK287;have hfz10_0:=hf_ BK287 0;have hfz10_1:=hf_ BK287 1)|((with_reducible refine gate_callee (f:=71) rfl ?_);refine gl (some 10) Tryz.func71 #[.agg #[.int .i64 a0_0,.slice A0_1 l0_1.length c0_1]] ?_;(with_reducible refine(spec_l01Is.calls k a0_0 _ _ l0_1 true _ (cb (Kd.C_below HR0_1.out HB.out)) HC0_1.out A3.out).mono ?_);rintro e w11 ⟨rfl,hb⟩;refine⟨_,rfl,?_⟩;replace BK287:=bkA BK287 hb;replace BK288:=bkA BK288 hb;replace HB:=bsA HB hb;(try clear hb);(try clear hb2);(try clear hk);(try clear hi))|((with_reducible refine gate_callee (f:=95) rfl ?_);refine gl (some 15) Tryz.func95 #[.int .i64 a1,.int .i64 (-1),.int .i64 5] ?_;(with_reducible refine(spec_l01In.calls a1 (-1) 5 true _ A5.out).mono ?_);rintro e w' ⟨rfl,⟨nd,rfl⟩⟩;refine⟨_,rfl,?_⟩;(try(rw[drewN_self w11];generalize hq_:World.drewN w11 _=w11;have n0_:Aside0 (w11.heap[gb287]?=some (.cells #[.int .i64 a0_0,.slice A0_1 l0_1.length c0_1] 26 (0,0))):=⟨by rw[← hq_];exact(bk BK287.out)⟩;have n1_:Aside0 (w11.heap[gb288]?=some (.cells #[.int .i64 0,.slice none 0 0] 26 (0,0))):=⟨by rw[← hq_];exact(bk BK288.out)⟩;have n2_:Aside0 (Below w.heap.size w w11):=⟨by rw[← hq_];exact(bl HB.out)⟩;clear BK287 BK288 HB hq_;have BK287:=n0_;have BK288:=n1_;have HB:=n2_;clear n0_ n1_ n2_));have hcz12_0:=z0_ BK287;have hcz12_1:=z1_ BK287;have hfz12_0:=hf_ BK287 0;have hfz12_1:=hf_ BK287 1)|((with_reducible refine gate_dst (N:=20) rfl ?_);refine Kd.R_lit (Kd.int .i64) _ 2 ?hg (N:=20) ?hd (xs:=([]:List Int)) (inner:= []) (ok:=fun _=>True) (okp:=fun _=>True) ?hr ?hp (fun _ hk=>hk) trivial (Below.refl _ _) (Nat.le_refl _) (by simp) ?_;(case hd=>rfl);(case hg=>rfl);(case hr=>first|(go_simp;done)|(go_simp;rfl));(case hp=>exact(Reps.none _ _));intro v292 w13 ho14 hb hg_ hnew_;clear hg_ hnew_;(first|rw[← Ny291.out] at ho14|(simp only [Int.reduceToNat] at ho14;rw[← Ny291.out] at ho14));have HO293:=klA ho14 HB;replace BK287:=bkA BK287 hb;replace BK288:=bkA BK288 hb;replace HB:=bsA HB hb;clear hb ho14;obtain ⟨Ao15,co15,eo15⟩:=Kd.R_slice HO293.out;subst eo15)|((with_reducible refine gate_dst (N:=6) rfl ?_);refine bx 6 #[.int .i64 0,.slice none 0 0] 26 ?_;intro gb294 hg w16 hbox hb;replace HO293:=krA HO293 hb;have BK294:=Aside0.mk (hbox);have GE294:=gzA hg HB;replace HB:=bsA HB hb;have NB287_294:=nlA hg BK287;have NB294_287:=ngA hg BK287;replace BK287:=bkA BK287 hb;have NB288_294:=nlA hg BK288;have NB294_288:=ngA hg BK288;replace BK288:=bkA BK288 hb;clear hb hbox hg;have hnb17:=NB294_287.out;have hnc17:=NB287_294.out;have hnb18:=NB294_288.out;have hnc18:=NB288_294.out;have hcz19_0:=z0_ BK294;have hcz19_1:=z1_ BK294;have hfz19_0:=hf_ BK294 0;have hfz19_1:=hf_ BK294 1))
   go_loopg [7] k (fun kq v7 w'=>∃(x7_1:Int) (x295001_1:List Int) (u295001:Value),v7 = .int .i64 x7_1∧Aside0 (spec_SkeletonOf.l0 kq a1 x7_1 a0_0 l0_1 a0_0 x295001_1=some (r1,r2,r3))∧Aside0 (kq≤k)∧Aside0 (Kd.R (Kd.int .i64) 2 w' w.heap.size (fun _=>True) u295001 x295001_1)∧Aside0 (w'.heap[gb287]?=some (.cells #[.int .i64 a0_0,(.slice A0_1 l0_1.length c0_1)] 26 (0,0)))∧Aside0 (w'.heap[gb288]?=some (.cells #[.int .i64 0,(.slice none 0 0)] 26 (0,0)))∧Aside0 (w'.heap[gb294]?=some (.cells #[.int .i64 a0_0,u295001] 26 (0,0)))∧Aside0 (Below w.heap.size w w'))
   case atStart=>exact⟨(0),(y291),(.slice Ao15 y291.length co15),rs,H',⟨Nat.le_refl _⟩,⟨by(with_reducible repeat(first|apply Kd.R_alloc|apply Kd.R_drewN|apply Kd.R_drew));exact Kd.R_mono (Kd.R_far (p:=⟨gb294,1,none⟩) (Kd.R_far (p:=⟨gb294,0,none⟩) (Kd.R_types HO293.out BK294.out (by decide)) (fun _ hk=>hk.2) (.int .i64 a0_0)) (fun _ hk=>hk.2) (.slice Ao15 y291.length co15)) (fun _ hk=>trivial)⟩,⟨bp BK287.out⟩,⟨bp BK288.out⟩,⟨bp BK294.out⟩,⟨bl HB.out⟩⟩
   case round=>
    clear H';try clear c1
    try clear p2
    try clear c3
    try clear c4
    try clear c6
    try clear c7
    try clear c9
    try clear c17
    try clear c18
    try clear hcz10_0
    try clear hcz10_1
    try clear hcz12_0
    try clear hcz12_1
    try clear hcz19_0
    try clear hcz19_1
    try clear hfz10_0
    try clear hfz10_1
    try clear hfz12_0
    try clear hfz12_1
    try clear hfz19_0
    try clear hfz19_1
    obtain ⟨x7_1,x295001_1,u295001,rfl,HA,HK1,HO_295001,BK287,BK288,BK294,HB⟩:=hrel;cases gk with
    |zero=>exact absurd HA.out (by simp [spec_SkeletonOf.l0])
    |succ k1=>
     have H:=HA.out;clear HA;simp only [spec_SkeletonOf.l0] at H;by_cases c20:x7_1<(l0_1.length:Int)
     ·rw[if_pos c20] at H;have c20b0:decide (x7_1<(l0_1.length:Int))=true:=decide_eq_true c20;clear c20;by_cases c21:0≤x7_1
      ·rw[if_pos c21] at H;have c21b0:decide (0≤x7_1)=true:=decide_eq_true c21;clear c21;replace H:=Option.bind_eq_some_iff.mp H;obtain ⟨t296,A220,H⟩:=H;replace H:(if t296≤(wrap64 (a1+1)) then (if x295001_1.length<17592186044416 then (spec_SkeletonOf.l0 k1 a1 (wrap64 (x7_1+1)) a0_0 l0_1 a0_0 (x295001_1 ++ [rd l0_1 x7_1])) else (none)) else (spec_SkeletonOf.l0 k1 a1 (wrap64 (x7_1+1)) a0_0 l0_1 a0_0 x295001_1))=some (r1,r2,r3):=H;have A22:=Aside0.mk A220;clear A220;by_cases c23:t296≤(wrap64 (a1+1))
       ·rw[if_pos c23] at H;have c23b0:decide (t296≤(wrap64 (a1+1)))=true:=decide_eq_true c23;clear c23;by_cases c24:x295001_1.length<17592186044416
        ·rw[if_pos c24] at H;have LMc24:=Aside0.mk c24;clear c24;obtain ⟨y298,hy298⟩:∃ y_:List Int,y_=(x295001_1 ++ [rd l0_1 x7_1]):=⟨_,rfl⟩
         replace H:(spec_SkeletonOf.l0 k1 a1 (wrap64 (x7_1+1)) a0_0 l0_1 a0_0 y298)=some (r1,r2,r3):=by first|(rw[hy298];with_reducible exact H)|(have H2_:=(Option.bind_some _ _).symm.trans H;rw[hy298];with_reducible exact H2_)|(have H2_:=(Option.bind_some _ _).symm.trans H;with_reducible exact H2_)|with_reducible exact H|(rw[hy298];exact H)|exact H
         have Ny298:=Aside0.mk hy298;clear hy298;have H':=Aside0.mk H;clear H;have hnb25:=NB287_288.out;have hnc25:=NB288_287.out;have hnb26:=NB287_294.out;have hnc26:=NB294_287.out;have hcz27_0:=z0_ BK287;have hcz27_1:=z1_ BK287;have hfz27_0:=hf_ BK287 0;have hfz27_1:=hf_ BK287 1;have p295:0≤(x7_1:Int):=dd;have q295:x7_1<(l0_1.length:Int):=dd;obtain ⟨ad295,e295,hx295_0⟩:=Kd.at_int HR0_1.out x7_1 p295 q295;cases e295;replace hx295_0:=hx_ HB hx295_0;replace p295:=eq_true p295;replace q295:=eq_true q295;try go_wp2_with (first|((with_reducible refine gate_callee (f:=100) rfl ?_);refine gl (some 34) Tryz.func100 #[.int .i64 (rd l0_1 x7_1)] ?_;(with_reducible refine(spec_l01Ones.calls k1 (rd l0_1 x7_1) t296 _ A22.out).mono ?_);rintro e w' ⟨rfl,⟨nd,rfl⟩⟩;refine⟨_,rfl,?_⟩;(try(rw[drewN_self wr];generalize hq_:World.drewN wr _=wr;have n0_:Aside0 (Kd.R (Kd.int .i64) 2 wr w.heap.size (fun _=>True) u295001 x295001_1):=⟨by rw[← hq_];exact(kr HO_295001.out)⟩;have n1_:Aside0 (wr.heap[gb287]?=some (.cells #[.int .i64 a0_0,.slice (some ad295) l0_1.length c0_1] 26 (0,0))):=⟨by rw[← hq_];exact(bk BK287.out)⟩;have n2_:Aside0 (wr.heap[gb288]?=some (.cells #[.int .i64 0,.slice none 0 0] 26 (0,0))):=⟨by rw[← hq_];exact(bk BK288.out)⟩;have n3_:Aside0 (wr.heap[gb294]?=some (.cells #[.int .i64 a0_0,u295001] 26 (0,0))):=⟨by rw[← hq_];exact(bk BK294.out)⟩;have n4_:Aside0 (Below w.heap.size w wr):=⟨by rw[← hq_];exact(bl HB.out)⟩;clear HO_295001 BK287 BK288 BK294 HB hq_;have HO_295001:=n0_;have BK287:=n1_;have BK288:=n2_;have BK294:=n3_;have HB:=n4_;clear n0_ n1_ n2_ n3_ n4_))))
         replace HO_295001:=Aside0.mk (Kd.R_drew HO_295001.out);replace BK287:=Aside0.mk (blk_drew BK287.out);replace BK288:=Aside0.mk (blk_drew BK288.out);replace BK294:=Aside0.mk (blk_drew BK294.out);replace HB:=Aside0.mk (below_drew1 HB.out);have p297:0≤(x7_1:Int):=dd;have q297:x7_1<(l0_1.length:Int):=dd;obtain ⟨ad297,e297,hx297_0⟩:=Kd.at_int HR0_1.out x7_1 p297 q297;have hw297_0:=hx297_0;obtain rfl:ad295=ad297:=(by injection e297)
         replace hx297_0:=hx_ HB hx297_0;replace p297:=eq_true p297;replace q297:=eq_true q297;refine start_ (n:=11) (S:=fun w'=>w'.cell? ⟨gb294,0,none⟩=some (.int .i64 a0_0)∧w'.cell? ⟨gb294,1,none⟩=some (u295001)∧w'.cell? ⟨gb287,0,none⟩=some (.int .i64 a0_0)∧w'.cell? ⟨gb287,1,none⟩=some (.slice (some ad295) l0_1.length c0_1)∧w'.cell? (ad295.add (x7_1).toNat)=some (.int .i64 (rd l0_1 x7_1))) (ds:= [10]) (ar 0 11) (by kernel_rfl) rfl rfl ⟨(blk_cell BK294.out 0).trans rfl,(blk_cell BK294.out 1).trans rfl,(blk_cell BK287.out 0).trans rfl,(blk_cell BK287.out 1).trans rfl,hx_ HB hw297_0⟩ (fun hHeld=>?_);refine with_tabW spec_SkeletonOf.tab10 spec_SkeletonOf.bits10 (fun HT_ HW_=>?_);generalize wr.drew=w28 at HO_295001 BK287 BK288 BK294 HB hx297_0 hHeld ⊢;refine pu 0 (some 38) (ar 1 10) HT_ ?_;refine pu 2 (some 40) #[U,O,U,O,O,O,O,O,O,O,O] HT_ ?_;refine pu 4 (some 42) #[U,O,U,O,U,O,O,O,O,O,O] HT_ ?_;refine tk 1 (some 39) #[U,U,U,O,U,O,O,O,O,O,O] HT_ HW_ hHeld ?_;refine tk 3 (some 41) (ar 5 6) HT_ HW_ hHeld ?_;refine pu 5 (some 43) (ar 6 5) HT_ ?_;refine tk 6 (some 44) (ar 7 4) HT_ HW_ hHeld ?_;refine on_ 7 (some 45) (ar 8 3) HT_ fun K hK=>?_;refine value_ (w1:=?_) (v:=?_) (by rfl) rfl ?_ ?_;rotate_left 2
         ·go_simp;constructor
          ·rfl
          ·rfl
         refine hK.out _ _ ⟨(blk_cell (blk_alloc BK294.out _) 0).trans rfl,(blk_cell (blk_alloc BK294.out _) 1).trans rfl,(blk_cell (blk_alloc BK287.out _) 0).trans rfl,(blk_cell (blk_alloc BK287.out _) 1).trans rfl,(World.cell?_alloc_lt _ _ _ (World.block_lt_of_cell? _ _ ((hx_ HB hw297_0)))).trans ((hx_ HB hw297_0))⟩ (fun hHeld=>?_);clear hK K;refine nr 45 ?_;refine on_ 8 (some 46) (ar 9 2) HT_ fun K hK=>?_;refine Kd.R_append_step (Kd.int .i64) (w0:=w) w.heap.size (by rfl) (.tmp 39) (.tmp 45) 24 2 (.int .i64 0) 8 rfl Tryz.underlying24 info2 rfl (by decide) (by omega) u295001 x295001_1 (rd l0_1 x7_1) [.int .i64 (rd l0_1 x7_1)] (fun _=>True) (fun _=>False) rfl rfl ?aP (fun _ hk=>hk.elim) ?aF ?aO ?aB ?aS ?aL ?_;(case aP=>exact rfl)
         (case aB=>exact(bl HB.out))
         (case aF=>exact(fun _ _=>trivial))
         (case aO=>exact(kr HO_295001.out))
         (case aS=>exact(below_size (bl HB.out)))
         (case aL=>have:=LMc24.out;omega)
         intro v299 w29 ho hb hg hat;rw[← Ny298.out] at ho;have n0_:=Aside0.mk (blk_grown (bk BK287.out) hg (Kd.R_ne HO_295001.out BK287.out (by decide)));have n1_:=Aside0.mk (blk_grown (bk BK288.out) hg (Kd.R_ne HO_295001.out BK288.out (by decide)));have n2_:=Aside0.mk (blk_grown (bk BK294.out) hg (Kd.R_ne HO_295001.out BK294.out (by decide)));have n3_:=Aside0.mk (hb);have n4_:=Aside0.mk (ho);clear BK287;clear BK288;clear BK294;clear HB;clear HO_295001;have BK287:=n0_;have BK288:=n1_;have BK294:=n2_;have HB:=n3_;have HO300:=n4_;clear n0_ n1_ n2_ n3_ n4_;clear ho hb hg hat;obtain ⟨Ao30,co30,eo30⟩:=Kd.R_slice HO300.out;(first|subst eo30|(injection eo30 with f1_ f2_ f3_;have f4_:=f1_.symm;have f5_:=f3_.symm;clear f1_ f2_ f3_;subst f4_;subst f5_))
         refine hK.out _ _ ⟨(blk_cell BK294.out 0).trans rfl,(blk_cell BK294.out 1).trans rfl,(blk_cell BK287.out 0).trans rfl,(blk_cell BK287.out 1).trans rfl,hx_ HB hw297_0⟩ (fun hHeld=>?_);clear hK K;refine nr 46 ?_;refine pu 9 (some 47) (ar 10 1) HT_ ?_;refine last_ (i:=10) (N:=none) (ar 11 0) rfl rfl (one_of HT_.out (by kernel_rfl)) (by decide) (fun K hK=>?_);have hs31:w29.cell? ⟨gb294,1,none⟩=some (u295001):=(blk_cell BK294.out 1).trans rfl;have hfs31:=blk_frozen BK294.out 1;have hns31_0:=NB287_294.out;have hns31_1:=NB288_294.out;have hms31_0:=NB294_287.out;have hms31_1:=NB294_288.out;refine skip_ (w1:=?_) (by rfl) rfl ?_ ?_;rotate_left
         ·go_simp;rfl
         refine hK.out _ _ ?_;clear hK K;refine done_ (done_of HT_.out (by kernel_rfl)) ?_;try go_wp2
         go_roundg k1
         case measure=>have:=HK1.out;omega
         case rel=>exact⟨(wrap64 (x7_1+1)),(y298),(.slice Ao30 y298.length co30),rs,H',⟨by have:=HK1.out;omega⟩,⟨by(with_reducible repeat(first|apply Kd.R_alloc|apply Kd.R_drewN|apply Kd.R_drew));exact Kd.R_mono (Kd.R_far (p:=⟨gb294,1,none⟩) (Kd.R_types HO300.out BK294.out (by decide)) (fun _ hk=>hk.2) (.slice Ao30 y298.length co30)) (fun _ hk=>trivial)⟩,⟨bp BK287.out⟩,⟨bp BK288.out⟩,⟨bp BK294.out⟩,⟨bl HB.out⟩⟩
        ·rw[if_neg c24] at H;exact absurd H (by simp)
       ·rw[if_neg c23] at H;have c23b0:decide (t296≤(wrap64 (a1+1)))=false:=decide_eq_false c23;clear c23;have H':=Aside0.mk H;clear H;have hnb32:=NB287_288.out;have hnc32:=NB288_287.out;have hnb33:=NB287_294.out;have hnc33:=NB294_287.out;have hcz34_0:=z0_ BK287;have hcz34_1:=z1_ BK287;have hfz34_0:=hf_ BK287 0;have hfz34_1:=hf_ BK287 1;have p295:0≤(x7_1:Int):=dd;have q295:x7_1<(l0_1.length:Int):=dd;obtain ⟨ad295,e295,hx295_0⟩:=Kd.at_int HR0_1.out x7_1 p295 q295;cases e295;replace hx295_0:=hx_ HB hx295_0;replace p295:=eq_true p295;replace q295:=eq_true q295;go_wp2_with (first|((with_reducible refine gate_callee (f:=100) rfl ?_);refine gl (some 34) Tryz.func100 #[.int .i64 (rd l0_1 x7_1)] ?_;(with_reducible refine(spec_l01Ones.calls k1 (rd l0_1 x7_1) t296 _ A22.out).mono ?_);rintro e w' ⟨rfl,⟨nd,rfl⟩⟩;refine⟨_,rfl,?_⟩))
        go_roundg k1
        case measure=>have:=HK1.out;omega
        case rel=>exact⟨(wrap64 (x7_1+1)),(x295001_1),(u295001),rs,H',⟨by have:=HK1.out;omega⟩,⟨kr HO_295001.out⟩,⟨bk BK287.out⟩,⟨bk BK288.out⟩,⟨bk BK294.out⟩,⟨bl HB.out⟩⟩
      ·rw[if_neg c21] at H;exact absurd H (by simp)
     ·rw[if_neg c20] at H;have c20b0:decide (x7_1<(l0_1.length:Int))=false:=decide_eq_false c20;clear c20;simp only [Option.some.injEq,Prod.mk.injEq] at H;obtain ⟨rfl,rfl,rfl⟩:=H;have hnb35:=NB287_288.out;have hnc35:=NB288_287.out;have hnb36:=NB287_294.out;have hnc36:=NB294_287.out;have hcz37_0:=z0_ BK287;have hcz37_1:=z1_ BK287;have hfz37_0:=hf_ BK287 0;have hfz37_1:=hf_ BK287 1;have hnb38:=NB294_288.out;have hnc38:=NB288_294.out;have hcz39_0:=z0_ BK294;have hcz39_1:=z1_ BK294;have hfz39_0:=hf_ BK294 0;have hfz39_1:=hf_ BK294 1;have hcz40_0:=z0_ BK288;have hcz40_1:=z1_ BK288;have hfz40_0:=hf_ BK288 0;have hfz40_1:=hf_ BK288 1;obtain ⟨Ao41,co41,eo41⟩:=Kd.R_slice HO_295001.out;subst eo41;go_wp2
      refine bodyPost_ret (results_ct rfl _ _ gb288 26 #[.int .i64 a0_0,.slice Ao41 x295001_1.length co41] (0,0) _ rfl (bp BK288.out) Tryz.underlying26 rfl (by kernel_rfl)) rfl ?_;exact⟨_,rr,by(with_reducible repeat(first|apply Kd.R_alloc|apply Kd.R_drewN|apply Kd.R_drew));exact Kd.R_mono (Kd.R_far (p:=⟨gb288,1,none⟩) (Kd.R_far (p:=⟨gb288,0,none⟩) (Kd.R_types HO_295001.out BK288.out (by decide)) (fun _ hk=>hk.2) (.int .i64 a0_0)) (fun _ hk=>hk.2) (.slice Ao41 x295001_1.length co41)) (fun _ hk=>trivial),bl HB.out⟩
  ·replace c6:=Bool.eq_false_iff.mpr c6;subst c6;have H1:(some (0,([]:List Int),2))=some (r1,r2,r3):=by rw[if_neg (show ¬ (false=true) by decide)] at H;exact H
   clear H;have H:=H1;clear H1;simp only [Option.some.injEq,Prod.mk.injEq] at H;obtain ⟨rfl,rfl,rfl⟩:=H;go_enter Tryz.func33,Tryz.ntmps33;go_wp2_with (first|((with_reducible refine gate_dst (N:=2) rfl ?_);refine bx 2 #[.int .i64 a0_0,.slice A0_1 l0_1.length c0_1] 26 ?_;intro gb287 hg w42 hbox hb;have BK287:=Aside0.mk (hbox);have GE287:=gzA hg HB;replace HB:=bsA HB hb;clear hb hbox hg)|((with_reducible refine gate_dst (N:=4) rfl ?_);refine bx 4 #[.int .i64 0,.slice none 0 0] 26 ?_;intro gb288 hg w43 hbox hb;have BK288:=Aside0.mk (hbox);have GE288:=gzA hg HB;replace HB:=bsA HB hb;have NB287_288:=nlA hg BK287;have NB288_287:=ngA hg BK287;replace BK287:=bkA BK287 hb;clear hb hbox hg;have hnb44:=NB287_288.out;have hnc44:=NB288_287.out;have hcz45_0:=z0_ BK287;have hcz45_1:=z1_ BK287;have hfz45_0:=hf_ BK287 0;have hfz45_1:=hf_ BK287 1)|((with_reducible refine gate_callee (f:=71) rfl ?_);refine gl (some 10) Tryz.func71 #[.agg #[.int .i64 a0_0,.slice A0_1 l0_1.length c0_1]] ?_;(with_reducible refine(spec_l01Is.calls k a0_0 _ _ l0_1 true _ (cb (Kd.C_below HR0_1.out HB.out)) HC0_1.out A3.out).mono ?_);rintro e w46 ⟨rfl,hb⟩;refine⟨_,rfl,?_⟩;replace BK287:=bkA BK287 hb;replace BK288:=bkA BK288 hb;replace HB:=bsA HB hb;(try clear hb);(try clear hb2);(try clear hk);(try clear hi))|((with_reducible refine gate_callee (f:=95) rfl ?_);refine gl (some 15) Tryz.func95 #[.int .i64 a1,.int .i64 (-1),.int .i64 5] ?_;(with_reducible refine(spec_l01In.calls a1 (-1) 5 false _ A5.out).mono ?_);rintro e w' ⟨rfl,⟨nd,rfl⟩⟩;refine⟨_,rfl,?_⟩;(try(rw[drewN_self w46];generalize hq_:World.drewN w46 _=w46;have n0_:Aside0 (w46.heap[gb287]?=some (.cells #[.int .i64 a0_0,.slice A0_1 l0_1.length c0_1] 26 (0,0))):=⟨by rw[← hq_];exact(bk BK287.out)⟩;have n1_:Aside0 (w46.heap[gb288]?=some (.cells #[.int .i64 0,.slice none 0 0] 26 (0,0))):=⟨by rw[← hq_];exact(bk BK288.out)⟩;have n2_:Aside0 (Below w.heap.size w w46):=⟨by rw[← hq_];exact(bl HB.out)⟩;clear BK287 BK288 HB hq_;have BK287:=n0_;have BK288:=n1_;have HB:=n2_;clear n0_ n1_ n2_));have hcz47_0:=z0_ BK288;have hcz47_1:=z1_ BK288;have hfz47_0:=hf_ BK288 0;have hfz47_1:=hf_ BK288 1))
   refine bodyPost_ret (results_ct rfl _ _ gb288 26 #[.int .i64 0,.slice none 0 0] (0,0) _ rfl (bp BK288.out) Tryz.underlying26 rfl (by kernel_rfl)) rfl ?_;exact⟨_,rr,by first|exact Kd.R_nil _ _ _ _ _|exact Kd.N_nil _ _ _ _ _|exact Kd.V_nil _ _ _ _ _|exact Kd.Q_nil _ _ _ _ _|exact Kd.S_nil _ _ _ _ _,bl HB.out⟩
 ·replace c4:=Bool.eq_false_iff.mpr c4;subst c4;have H1:(some (0,([]:List Int),1))=some (r1,r2,r3):=by rw[if_neg (show ¬ (false=true) by decide)] at H;exact H
  clear H;have H:=H1;clear H1;simp only [Option.some.injEq,Prod.mk.injEq] at H;obtain ⟨rfl,rfl,rfl⟩:=H;go_enter Tryz.func33,Tryz.ntmps33;go_wp2_with (first|((with_reducible refine gate_dst (N:=2) rfl ?_);refine bx 2 #[.int .i64 a0_0,.slice A0_1 l0_1.length c0_1] 26 ?_;intro gb287 hg w48 hbox hb;have BK287:=Aside0.mk (hbox);have GE287:=gzA hg HB;replace HB:=bsA HB hb;clear hb hbox hg)|((with_reducible refine gate_dst (N:=4) rfl ?_);refine bx 4 #[.int .i64 0,.slice none 0 0] 26 ?_;intro gb288 hg w49 hbox hb;have BK288:=Aside0.mk (hbox);have GE288:=gzA hg HB;replace HB:=bsA HB hb;have NB287_288:=nlA hg BK287;have NB288_287:=ngA hg BK287;replace BK287:=bkA BK287 hb;clear hb hbox hg;have hnb50:=NB287_288.out;have hnc50:=NB288_287.out;have hcz51_0:=z0_ BK287;have hcz51_1:=z1_ BK287;have hfz51_0:=hf_ BK287 0;have hfz51_1:=hf_ BK287 1)|((with_reducible refine gate_callee (f:=71) rfl ?_);refine gl (some 10) Tryz.func71 #[.agg #[.int .i64 a0_0,.slice A0_1 l0_1.length c0_1]] ?_;(with_reducible refine(spec_l01Is.calls k a0_0 _ _ l0_1 false _ (cb (Kd.C_below HR0_1.out HB.out)) HC0_1.out A3.out).mono ?_);rintro e w52 ⟨rfl,hb⟩;refine⟨_,rfl,?_⟩;replace BK287:=bkA BK287 hb;replace BK288:=bkA BK288 hb;replace HB:=bsA HB hb;(try clear hb);(try clear hb2);(try clear hk);(try clear hi);have hcz53_0:=z0_ BK288;have hcz53_1:=z1_ BK288;have hfz53_0:=hf_ BK288 0;have hfz53_1:=hf_ BK288 1))
  refine bodyPost_ret (results_ct rfl _ _ gb288 26 #[.int .i64 0,.slice none 0 0] (0,0) _ rfl (bp BK288.out) Tryz.underlying26 rfl (by kernel_rfl)) rfl ?_;exact⟨_,rr,by first|exact Kd.R_nil _ _ _ _ _|exact Kd.N_nil _ _ _ _ _|exact Kd.V_nil _ _ _ _ _|exact Kd.Q_nil _ _ _ _ _|exact Kd.S_nil _ _ _ _ _,bl HB.out⟩
end Go.Proofs.YtlhkdbkjafiikaaGreat.Q
end

section
namespace Go.Proofs.YtlhkdbkjafiikaaGreat.K
open Go.RowKit Go.Shelf Go.Proofs.YtlhkdbkjafiikaaGreat.Q Go.Proofs.YtlhkdbkjafiikaaGreatW.PrintWords Go.Proofs.YtlhkdbkjafiikaaGreatW.PrintLast Go.Proofs.YtlhkdbkjafiikaaGreatW.PrintMore
set_option linter.unusedVariables false
set_option linter.unusedSimpArgs false
theorem specSkel_loop (n d m:Int) (hd: -1≤d∧d≤5) (l:List Int) (hl:l.length≤63) (hr:∀ x ∈ l,0≤x∧x≤63):∀(e i k:Nat) (acc:List Int),l.length - i=e→i≤l.length→e+8<k→acc.length≤i →
  spec_SkeletonOf.l0 k d (i:Int) n l m acc=some (m,acc ++ (l.drop i).filter (SkeletonOf_p l d),0):=by
 intro e
 induction e with
 |zero=>
  intro i k acc he hi hk ha
  obtain ⟨k,rfl⟩:∃ m,k=m+1:=⟨k - 1,by omega⟩
  obtain rfl:i=l.length:=by omega
  simp only [spec_SkeletonOf.l0]
  rw[if_neg (by omega)]
  simp
 |succ e ih=>
  intro i k acc he hi hk ha
  obtain ⟨k,rfl⟩:∃ m,k=m+1:=⟨k - 1,by omega⟩
  simp only [spec_SkeletonOf.l0]
  have hil:i<l.length:=by omega
  have hx:=hr _ (List.getElem_mem hil)
  rw[if_pos (by omega),if_pos (by omega),rd_nat l i hil,specOnes_is l[i] (by omega) (by omega) k (by omega)]
  simp only [Option.bind_some]
  rw[w64 (d+1) (by omega) (by omega),w64 ((i:Int)+1) (by omega) (by omega),nat_succ,List.drop_eq_getElem_cons hil,List.filter_cons]
  by_cases h:onesI l[i]≤d+1
  ·have h2:SkeletonOf_p l d l[i]=true:=decide_eq_true (by unfold dimI;omega)
   rw[if_pos h,if_pos (by omega),ih (i+1) k _ (by omega) (by omega) (by omega) (by simp;omega),h2,if_pos rfl,List.append_assoc]
   rfl
  ·have h2:SkeletonOf_p l d l[i]=false:=decide_eq_false (by unfold dimI;omega)
   rw[if_neg h,ih (i+1) k _ (by omega) (by omega) (by omega) (by omega),h2]
   rfl
theorem specSkeletonOf_is (n:Int) (l:List Int) (d:Int) (hl:l.length≤2097152) (k:Nat) (hk:isK l+80≤k) :
  spec_SkeletonOf.f k n l d=some (partOf n l (SkeletonOf_b n l d) (SkeletonOf_p l d)):=by
 unfold spec_SkeletonOf.f
 rw[specIs_is n l hl k (by omega)]
 simp only [Option.bind_some]
 have hb:SkeletonOf_b n l d=decide (-1≤d∧d≤5):=rfl
 rw[hb]
 cases hi:isC n l with
 |false=>
  have hc:∀ b,codeOf n l b=1:=fun b=>by simp [codeOf,hi]
  unfold partOf
  rw[hc]
  rfl
 |true=>
  obtain ⟨hn,hs,hr,h63⟩:=isC_faces hi
  rw[if_pos rfl,specIn_is]
  simp only [Option.bind_some]
  by_cases hd: -1≤d∧d≤5
  ·have:=specSkel_loop n d n hd l h63 (isC_of hi) l.length 0 k [] (by omega) (by omega) (by omega) (by simp)
   rw[show ((0:Nat):Int)=0 from rfl,List.nil_append,List.drop_zero] at this
   rw[decide_eq_true hd,if_pos rfl,this,part_filter hi]
  ·have hc:codeOf n l false=2:=by simp [codeOf,hi]
   unfold partOf
   rw[decide_eq_false hd,hc]
   rfl
end Go.Proofs.YtlhkdbkjafiikaaGreat.K
end

section
namespace Go.Proofs.YtlhkdbkjafiikaaGreat.K
open Go.RowKit Go.Shelf Go.Proofs.YtlhkdbkjafiikaaGreatW.PrintWords Go.Proofs.YtlhkdbkjafiikaaGreatW.PrintLast Go.Proofs.YtlhkdbkjafiikaaGreatW.PrintMore
set_option linter.unusedVariables false
set_option linter.unusedSimpArgs false
theorem Kx.one (w:World) (x:Int):Kx (w.alloc (.cells #[I x] 2)) (some ⟨w.heap.size,0,none⟩) 1 [x]:=by
 have:=own_lit w 0 2 .i64 [x] (Nat.zero_le _) (by simp)
 have hR:Ki.R 2 (w.alloc (.cells #[I x] 2)) 0 (fun _=>True) (.slice (some ⟨w.heap.size,0,none⟩) 1 1) [x]:=Kd.R_of_own (h1:=fun _=>rfl) this (fun _ _=>trivial)
 obtain ⟨A,c,e,hc,hC⟩:=Kd.R_reads hR
 injection e with e1 e2 e3
 subst e1 e3
 exact⟨hC,Nat.le_refl _,by simp⟩
set_option maxHeartbeats 2000000 in
theorem ConeOf_calls (n:Int) (A:Option Addr) (c:Nat) (l:List Int) (w:World) (hk:Kx w A c l) :
  Calls Tryz.prog 16 #[.agg #[I n,.slice A l.length c]] w fun e w'=>∃ v,e = .returned (.tuple #[.agg #[I (joinOf n l 1 [1]).1,v],I (joinOf n l 1 [1]).2.2])∧Ki.R 2 w' w.heap.size (fun _=>True) v (joinOf n l 1 [1]).2.1∧Grew w w':=by
 obtain ⟨W2,hW2⟩:∃ W2,W2=(w.alloc (.cells #[I n,.slice A l.length c] 26)).alloc (.cells #[I 0,.slice none 0 0] 26):=⟨_,rfl⟩
 have hB:CB W2 w.heap.size n (.slice A l.length c):=by rw[hW2];exact blk_alloc (blk_new w _) _
 have hO:CB W2 (w.heap.size+1) 0 (.slice none 0 0):=by
  rw[hW2]
  have:=blk_new (w.alloc (.cells #[I n,.slice A l.length c] 26)) (.cells #[I 0,.slice none 0 0] 26)
  rwa [World.size_alloc] at this
 have hg:Grew w W2:=by rw[hW2];exact below_alloc (below_alloc (Grew.refl w) _) _
 have hs:W2.heap.size=w.heap.size+2:=by rw[hW2];simp
 have hg2:Grew W2 (W2.alloc (.cells #[I 1] 2)):=below_alloc (Grew.refl _) _
 have H:=Aside0.mk (JoinOf_calls n A c l 1 _ _ [1] _ (hk.later (Grew.trans hg hg2)) (Kx.one W2 1))
 obtain ⟨r,hr⟩:∃ r,r=joinOf n l 1 [1]:=⟨_,rfl⟩
 rw[← hr] at H ⊢
 obtain ⟨r1,r2,r3⟩:=r
 have k0:=hB.c0
 have k1:=hB.c1
 have HO:=Aside0.mk (CB.later hO hg2)
 have HG:=Aside0.mk (Grew.trans hg hg2)
 rw[hs] at H
 clear hk hB hO hg hg2 hr hs
 subst hW2
 go_enter Tryz.func16,Tryz.ntmps16
 go_wp2_with fail
 refine H.out.mono ?_
 rintro e w2 ⟨v,rfl,hR,hG⟩
 clear k0 k1
 have hB2:CB w2 (w.heap.size+1) 0 (.slice none 0 0):=CB.later HO.out hG
 have HB2:=Aside0.mk hB2
 have HR2:=Aside0.mk hR
 have HG2:=Aside0.mk (Grew.trans HG.out hG)
 have hsz:=HG.out.size
 have k0:=hB2.c0
 have k1:=hB2.c1
 have f0:=blk_frozen hB2 0
 have f1:=blk_frozen hB2 1
 obtain ⟨A2,c2,e2⟩:=Kd.R_slice hR
 subst e2
 clear hB2 hR hG
 go_wp2_with fail
 refine bodyPost_ret (results_ct rfl _ _ (w.heap.size+1) 26 #[I r1,_] (0,0) _ rfl HB2.out.set Tryz.underlying26 rfl (by kernel_rfl)) rfl ?_
 exact⟨_,rfl,Kd.R_lower (Ri.setCB2 HR2.out HB2.out) hsz,below_set (below_set HG2.out (by omega)) (by omega)⟩
end Go.Proofs.YtlhkdbkjafiikaaGreat.K
end

section
namespace Go.Proofs.YtlhkdbkjafiikaaGreat.K
open Go.RowKit Go.Shelf Go.Proofs.YtlhkdbkjafiikaaGreat.Q Go.Proofs.YtlhkdbkjafiikaaGreatW.PrintWords Go.Proofs.YtlhkdbkjafiikaaGreatW.PrintLast Go.Proofs.YtlhkdbkjafiikaaGreatW.PrintMore
set_option linter.unusedVariables false
set_option linter.unusedSimpArgs false
theorem specFace_is (n:Int) (l:List Int) (f:Int) (hl:l.length≤2097152) (k:Nat) (hk:isK l≤k):spec_l01Face.f k n l f=some (codeOf n l (decide (f ∈ l))):=by
 have hk2:l.length<k:=by unfold isK at hk;omega
 unfold spec_l01Face.f
 rw[specIs_is n l hl k hk]
 simp only [Option.bind_some]
 unfold codeOf
 cases isC n l
 ·simp
 ·rw[if_pos rfl,specHas_is n f l (by omega) k hk2]
  by_cases h:f ∈ l <;> simp [h]
end Go.Proofs.YtlhkdbkjafiikaaGreat.K
end
