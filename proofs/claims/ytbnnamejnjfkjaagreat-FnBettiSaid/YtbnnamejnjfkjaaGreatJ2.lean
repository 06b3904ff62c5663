/- Texts of this work, put together by its pack.py. No conditions. -/
import Derived.Test.YtbnnamejnjfkjaaGreatJ1
import Derived.Below
import Derived.Deep.Draws
import Derived.Deep.AppendLies
import Derived.Maps.AppendAt
import Derived.OwnWalk
import Derived.Laws.BytesArg
import Derived.Laws.MakeOwn
import Derived.Laws.OwnMore
import Derived.Deep.OwnRows
import Derived.Tactics
import Derived.Lib.ConvBytes
import Derived.Laws.Slices
import Derived.WalkKit
import Derived.KernelRfl
import Derived.RowKit3
import Derived.Deep.LoopGhost
import Derived.Deep.QuietTactic
import Derived.BigQuiet
import Derived.WideLaws
import Derived.Deep.DeepCutAuto
import Derived.Deep.CutBlock
import Derived.Deep.RegionHeld3
import Derived.Laws.Rows
import Derived.Lib.AppendStr
import Derived.ArgAppend
import Derived.Laws.IdiomCopy
import Derived.RowKit
import Derived.OrdersHeld
import Derived.Laws.BitsLemmas
import Derived.Laws.StructEq
import Derived.Test.YtbnnamejnjfkjaaGreatProg
import Derived.Shelf.Abstract
import Derived.RangeFuncBox
import Derived.RangeFuncLeaves
import Derived.OwnWalkIn
import Derived.TacticsInMore
import Derived.LoopNIn
import Derived.LoopIn
import Derived.Lib.SliceRun
section
namespace Go.Proofs.YtbnnamejnjfkjaaGreat.Q
open Go.RowKit Go.Proofs.YtbnnamejnjfkjaaGreatW.PrintWords Go.Proofs.YtbnnamejnjfkjaaGreatW.PrintLast Go.Proofs.YtbnnamejnjfkjaaGreatW.PrintMore
attribute [local go_sem] max2_int min2_int max_two min_two max_three min_three max_four min_four
set_option linter.unusedVariables false
set_option linter.unusedSimpArgs false
mutual
def spec_l01Is.l0:Nat→Int→Int→List Int→Option (Bool)
 |0,_,_,_=>none
 |k+1,x3,x110000,x110001=>if x3<(x110001.length:Int) then (if 0≤x3 then ((spec_l01All.f x110000).bind fun t112=>((spec_l01In.f (rd x110001 x3) 1 t112).bind fun t113=>(if t113=true then (if x3>0 then (if 0≤(wrap64 (x3 - 1)) then (if (wrap64 (x3 - 1))<(x110001.length:Int) then (if (rd x110001 x3)≤(rd x110001 (wrap64 (x3 - 1))) then (some false) else (spec_l01Is.l0 k (wrap64 (x3+1)) x110000 x110001)) else (none)) else (none)) else (spec_l01Is.l0 k (wrap64 (x3+1)) x110000 x110001)) else (some false)))) else (none)) else (spec_l01Is.l1 k 0 x110000 x110001)
def spec_l01Is.l1:Nat→Int→Int→List Int→Option (Bool)
 |0,_,_,_=>none
 |k+1,x4,x110000,x110001=>if x4<(x110001.length:Int) then (if 0≤x4 then ((spec_l01Below.f k (rd x110001 x4)).bind fun t117=>(spec_l01Is.l2 k x4 t117 0 x110000 x110001)) else (none)) else (some true)
def spec_l01Is.l2:Nat→Int→List Int→Int→Int→List Int→Option (Bool)
 |0,_,_,_,_,_=>none
 |k+1,x4,x5,x6,x110000,x110001=>if x6<(x5.length:Int) then (if 0≤x6 then ((spec_l01Has.f k x110000 x110001 (rd x5 x6)).bind fun t121=>(if t121=true then (spec_l01Is.l2 k x4 x5 (wrap64 (x6+1)) x110000 x110001) else (some false))) else (none)) else (spec_l01Is.l1 k (wrap64 (x4+1)) x110000 x110001)
end
def spec_l01Is.f (k:Nat) (a0_0:Int) (l0_1:List Int):Option (Bool):=(spec_l01In.f a0_0 1 6).bind fun t110=>(if t110=true then (spec_l01Is.l0 k 0 a0_0 l0_1) else (some false))
theorem spec_l01Is.mono_l:∀ k,(∀ y0 y1 y2,LeO (spec_l01Is.l0 k y0 y1 y2) (spec_l01Is.l0 (k+1) y0 y1 y2))∧(∀ y0 y1 y2,LeO (spec_l01Is.l1 k y0 y1 y2) (spec_l01Is.l1 (k+1) y0 y1 y2))∧(∀ y0 y1 y2 y3 y4,LeO (spec_l01Is.l2 k y0 y1 y2 y3 y4) (spec_l01Is.l2 (k+1) y0 y1 y2 y3 y4))
 |0=>⟨fun _ _ _ r h=>by simp [spec_l01Is.l0] at h,fun _ _ _ r h=>by simp [spec_l01Is.l1] at h,fun _ _ _ _ _ r h=>by simp [spec_l01Is.l2] at h⟩
 |k+1=>by
  obtain ⟨ih0,ih1,ih2⟩:=spec_l01Is.mono_l k;refine⟨?_,?_,?_⟩
  ·intro y0 y1 y2;unfold spec_l01Is.l0;repeat' first
   |(with_reducible first|exact ih0 _ _ _|exact ih1 _ _ _|exact ih2 _ _ _ _ _|exact spec_l01Below.mono _ _|exact spec_l01Has.mono _ _ _ _|exact LeO.refl _|exact LeO.none _|refine LeO.ite ?_ ?_|refine LeO.bind ?_ (fun _=>?_))
  ·intro y0 y1 y2;unfold spec_l01Is.l1;repeat' first
   |(with_reducible first|exact ih0 _ _ _|exact ih1 _ _ _|exact ih2 _ _ _ _ _|exact spec_l01Below.mono _ _|exact spec_l01Has.mono _ _ _ _|exact LeO.refl _|exact LeO.none _|refine LeO.ite ?_ ?_|refine LeO.bind ?_ (fun _=>?_))
  ·intro y0 y1 y2 y3 y4;unfold spec_l01Is.l2;repeat' first
   |(with_reducible first|exact ih0 _ _ _|exact ih1 _ _ _|exact ih2 _ _ _ _ _|exact spec_l01Below.mono _ _|exact spec_l01Has.mono _ _ _ _|exact LeO.refl _|exact LeO.none _|refine LeO.ite ?_ ?_|refine LeO.bind ?_ (fun _=>?_))
theorem spec_l01Is.mono:∀ a0 a1 k,LeO (spec_l01Is.f k a0 a1) (spec_l01Is.f (k+1) a0 a1):=by
 intro a0 a1 k;obtain ⟨ih0,ih1,ih2⟩:=spec_l01Is.mono_l k;unfold spec_l01Is.f;repeat' first
   |(with_reducible first|exact ih0 _ _ _|exact ih1 _ _ _|exact ih2 _ _ _ _ _|exact spec_l01Below.mono _ _|exact spec_l01Has.mono _ _ _ _|exact LeO.refl _|exact LeO.none _|refine LeO.ite ?_ ?_|refine LeO.bind ?_ (fun _=>?_))
def spec_l01Is.T6:Bool×List (List Nat×List Nat):=(true,[([],[]),([0],[0]),([],[]),([1,2],[1,2]),([3],[3]),([],[]),([5],[5]),([6],[6]),([4,7,7],[4,7]),([8],[8]),([9,8],[9]),([10],[10]),([11,10],[10,11]),([12,10,10],[10,12]),([13],[13]),([14,13],[13,14]),([13],[13]),([15,16,13],[13,15,16]),([17,13],[13,17]),([13],[13]),([19,13],[13,19]),([13],[13]),([21,13],[13,21]),([20,22,13],[13,20,22]),([23,13],[13,23]),([18,24,13],[13,18,24]),([13,25,10],[10,13,25]),([10,26],[10,26])])
def spec_l01Is.B6:List Nat:= [0,1,0,7,15,0,32,96,255,511,1023,2047,4095,8191,16383,32767,16383,131071,262143,16383,540671,16383,2113535,7880703,16269311,33554431,67108863,134217727]
theorem spec_l01Is.tab6:rtab .any (opsOf Tryz.f71 6)=spec_l01Is.T6:=by kernel_rfl
theorem spec_l01Is.bits6:waitsOk spec_l01Is.T6.2 spec_l01Is.B6=true:=by kernel_rfl
set_option maxHeartbeats 8000000 in
set_option maxRecDepth 100000 in
theorem spec_l01Is.calls (k:Nat) (a0_0:Int) (A0_1:Option Addr) (c0_1:Nat) (l0_1:List Int) (r:Bool) (w:World) (hr0_1:Kd.C (Kd.int .i64) w A0_1 l0_1.length l0_1) (hc0_1:l0_1.length≤c0_1) (h:spec_l01Is.f k a0_0 l0_1=some r) :
  Calls Tryz.prog 71 #[.agg #[.int .i64 a0_0,.slice A0_1 l0_1.length c0_1]] w fun e w'=>e = .returned (.bool r)∧Below w.heap.size w w':=by
 have hu26:=Tryz.underlying26;have HR0_1:=Aside0.mk hr0_1;have HC0_1:=Aside0.mk hc0_1;clear hr0_1 hc0_1;have HB:=Aside0.mk (Below.refl w.heap.size w);have H:((spec_l01In.f a0_0 1 6).bind fun t110=>(if t110=true then (spec_l01Is.l0 k 0 a0_0 l0_1) else (some false)))=some r:=h;clear h;replace H:=Option.bind_eq_some_iff.mp H;obtain ⟨t110,A20,H⟩:=H;replace H:(if t110=true then (spec_l01Is.l0 k 0 a0_0 l0_1) else (some false))=some r:=H;have A2:=Aside0.mk A20;clear A20;by_cases c3:t110=true
 ·subst c3;have H1:(spec_l01Is.l0 k 0 a0_0 l0_1)=some r:=by rw[if_pos rfl] at H;exact H
  clear H;have H:=H1;clear H1;have H':=Aside0.mk H;clear H;go_enter Tryz.func71,Tryz.ntmps71;go_wp2_with (first|((with_reducible refine gate_dst (N:=1) rfl ?_);refine bx 1 #[.int .i64 a0_0,.slice A0_1 l0_1.length c0_1] 26 ?_;intro gb109 hg w4 hbox hb;have BK109:=Aside0.mk (hbox);have GE109:=gzA hg HB;replace HB:=bsA HB hb;clear hb hbox hg;have hcz5_0:=z0_ BK109;have hcz5_1:=z1_ BK109;have hfz5_0:=hf_ BK109 0;have hfz5_1:=hf_ BK109 1)|((with_reducible refine gate_callee (f:=95) rfl ?_);refine gl (some 9) Tryz.func95 #[.int .i64 a0_0,.int .i64 1,.int .i64 6] ?_;(with_reducible refine(spec_l01In.calls a0_0 1 6 true _ A2.out).mono ?_);rintro e w' ⟨rfl,⟨nd,rfl⟩⟩;refine⟨_,rfl,?_⟩))
  go_loopg [3] k (fun kq v3 w'=>∃(x3_1:Int),v3 = .int .i64 x3_1∧Aside0 (spec_l01Is.l0 kq x3_1 a0_0 l0_1=some r)∧Aside0 (kq≤k)∧Aside0 (w'.heap[gb109]?=some (.cells #[.int .i64 a0_0,(.slice A0_1 l0_1.length c0_1)] 26 (0,0)))∧Aside0 (Below w.heap.size w w'))
  case atStart=>exact⟨(0),rs,H',⟨Nat.le_refl _⟩,⟨bk BK109.out⟩,⟨bl HB.out⟩⟩
  case round=>
   clear H';try clear p2
   try clear c3
   try clear hcz5_0
   try clear hcz5_1
   try clear hfz5_0
   try clear hfz5_1
   obtain ⟨x3_1,rfl,HA,HK1,BK109,HB⟩:=hrel;cases gk with
   |zero=>exact absurd HA.out (by simp [spec_l01Is.l0])
   |succ k1=>
    have H:=HA.out;clear HA;simp only [spec_l01Is.l0] at H;by_cases c6:x3_1<(l0_1.length:Int)
    ·rw[if_pos c6] at H;have c6b0:decide (x3_1<(l0_1.length:Int))=true:=decide_eq_true c6;clear c6;by_cases c7:0≤x3_1
     ·rw[if_pos c7] at H;have c7b0:decide (0≤x3_1)=true:=decide_eq_true c7;clear c7;replace H:=Option.bind_eq_some_iff.mp H;obtain ⟨t112,A80,H⟩:=H;replace H:((spec_l01In.f (rd l0_1 x3_1) 1 t112).bind fun t113=>(if t113=true then (if x3_1>0 then (if 0≤(wrap64 (x3_1 - 1)) then (if (wrap64 (x3_1 - 1))<(l0_1.length:Int) then (if (rd l0_1 x3_1)≤(rd l0_1 (wrap64 (x3_1 - 1))) then (some false) else (spec_l01Is.l0 k1 (wrap64 (x3_1+1)) a0_0 l0_1)) else (none)) else (none)) else (spec_l01Is.l0 k1 (wrap64 (x3_1+1)) a0_0 l0_1)) else (some false)))=some r:=H;have A8:=Aside0.mk A80;clear A80;replace H:=Option.bind_eq_some_iff.mp H;obtain ⟨t113,A90,H⟩:=H;replace H:(if t113=true then (if x3_1>0 then (if 0≤(wrap64 (x3_1 - 1)) then (if (wrap64 (x3_1 - 1))<(l0_1.length:Int) then (if (rd l0_1 x3_1)≤(rd l0_1 (wrap64 (x3_1 - 1))) then (some false) else (spec_l01Is.l0 k1 (wrap64 (x3_1+1)) a0_0 l0_1)) else (none)) else (none)) else (spec_l01Is.l0 k1 (wrap64 (x3_1+1)) a0_0 l0_1)) else (some false))=some r:=H;have A9:=Aside0.mk A90;clear A90;by_cases c10:t113=true
      ·subst c10;have H1:(if x3_1>0 then (if 0≤(wrap64 (x3_1 - 1)) then (if (wrap64 (x3_1 - 1))<(l0_1.length:Int) then (if (rd l0_1 x3_1)≤(rd l0_1 (wrap64 (x3_1 - 1))) then (some false) else (spec_l01Is.l0 k1 (wrap64 (x3_1+1)) a0_0 l0_1)) else (none)) else (none)) else (spec_l01Is.l0 k1 (wrap64 (x3_1+1)) a0_0 l0_1))=some r:=by rw[if_pos rfl] at H;exact H
       clear H;have H:=H1;clear H1;by_cases c11:x3_1>0
       ·rw[if_pos c11] at H;have c11b0:decide (0<x3_1)=true:=decide_eq_true c11;clear c11;obtain ⟨ji12,hji12⟩:∃ j_:Int,(wrap64 (x3_1 - 1))=j_:=⟨_,rfl⟩
        replace H:(if 0≤(ji12) then (if (ji12)<(l0_1.length:Int) then (if (rd l0_1 x3_1)≤(rd l0_1 (ji12)) then (some false) else (spec_l01Is.l0 k1 (wrap64 (x3_1+1)) a0_0 l0_1)) else (none)) else (none))=some r:=by first|(rw[hji12] at H;exact H)|(simp only [hji12] at H ⊢;exact H)
        (try rw[hji12] at A8)
        (try rw[hji12] at A9)
        have hji12w:(IntKind.i64.wrap (x3_1 - 1))=ji12:=(i64_w _).trans hji12;by_cases c13:0≤(ji12)
        ·rw[if_pos c13] at H;have c13b0:decide (0≤(ji12))=true:=decide_eq_true c13;clear c13;by_cases c14:(ji12)<(l0_1.length:Int)
         ·rw[if_pos c14] at H;have c14b0:decide ((ji12)<(l0_1.length:Int))=true:=decide_eq_true c14;clear c14;by_cases c15:(rd l0_1 x3_1)≤(rd l0_1 (ji12))
          ·rw[if_pos c15] at H;have c15b0:decide ((rd l0_1 x3_1)≤(rd l0_1 (ji12)))=true:=decide_eq_true c15;clear c15;obtain rfl:=Option.some.inj H;have hcz16_0:=z0_ BK109;have hcz16_1:=z1_ BK109;have hfz16_0:=hf_ BK109 0;have hfz16_1:=hf_ BK109 1;try go_wp2
           replace BK109:=Aside0.mk (blk_drew BK109.out);replace HB:=Aside0.mk (below_drew1 HB.out);have p111:0≤(x3_1:Int):=dd;have q111:x3_1<(l0_1.length:Int):=dd;obtain ⟨ad111,e111,hx111_0⟩:=Kd.at_int HR0_1.out x3_1 p111 q111;have hw111_0:=hx111_0;cases e111;replace hx111_0:=hx_ HB hx111_0;replace p111:=eq_true p111;replace q111:=eq_true q111;have p114:0≤(x3_1:Int):=dd;have q114:x3_1<(l0_1.length:Int):=dd;obtain ⟨ad114,e114,hx114_0⟩:=Kd.at_int HR0_1.out x3_1 p114 q114;have hw114_0:=hx114_0;obtain rfl:ad111=ad114:=(by injection e114)
           replace hx114_0:=hx_ HB hx114_0;replace p114:=eq_true p114;replace q114:=eq_true q114;have p115:0≤((ji12):Int):=dd;have q115:(ji12)<(l0_1.length:Int):=dd;obtain ⟨ad115,e115,hx115_0⟩:=Kd.at_int HR0_1.out (ji12) p115 q115;have hw115_0:=hx115_0;obtain rfl:ad111=ad115:=(by injection e115)
           replace hx115_0:=hx_ HB hx115_0;replace p115:=eq_true p115;replace q115:=eq_true q115;refine start_ (n:=28) (S:=fun w'=>w'.cell? ⟨gb109,0,none⟩=some (.int .i64 a0_0)∧w'.cell? ⟨gb109,1,none⟩=some (.slice (some ad111) l0_1.length c0_1)∧w'.cell? (ad111.add (x3_1).toNat)=some (.int .i64 (rd l0_1 x3_1))∧w'.cell? (ad111.add (x3_1).toNat)=some (.int .i64 (rd l0_1 x3_1))∧w'.cell? (ad111.add ((ji12)).toNat)=some (.int .i64 (rd l0_1 (ji12)))) (ds:= []) (ar 0 28) (by kernel_rfl) rfl rfl ⟨(blk_cell BK109.out 0).trans rfl,(blk_cell BK109.out 1).trans rfl,hx_ HB hw111_0,hx_ HB hw114_0,hx_ HB hw115_0⟩ (fun hHeld=>?_);refine with_tabW spec_l01Is.tab6 spec_l01Is.bits6 (fun HT_ HW_=>?_);generalize wr.drew=w17 at BK109 HB hx111_0 hx114_0 hx115_0 hHeld ⊢;refine pu 0 (some 18) (ar 1 27) HT_ ?_;refine pu 2 (some 20) #[U,O,U,O,O,O,O,O,O,O,O,O,O,O,O,O,O,O,O,O,O,O,O,O,O,O,O,O] HT_ ?_;refine pu 5 (some 23) #[U,O,U,O,O,U,O,O,O,O,O,O,O,O,O,O,O,O,O,O,O,O,O,O,O,O,O,O] HT_ ?_;refine tk 1 (some 19) #[U,U,U,O,O,U,O,O,O,O,O,O,O,O,O,O,O,O,O,O,O,O,O,O,O,O,O,O] HT_ HW_ hHeld ?_;refine pu 3 (some 21) #[U,U,U,U,O,U,O,O,O,O,O,O,O,O,O,O,O,O,O,O,O,O,O,O,O,O,O,O] HT_ ?_;refine tk 4 (some 22) (ar 6 22) HT_ HW_ hHeld ?_;refine tk 6 (some 24) (ar 7 21) HT_ HW_ hHeld ?_;refine on_ 7 (some 25) (ar 8 20) HT_ fun K hK=>?_;refine gr Tryz.func91 #[.int .i64 a0_0] ?_;with_reducible refine(spec_l01All.calls a0_0 t112 _ A8.out).mono ?_
           rintro e w' ⟨rfl,⟨nd,rfl⟩⟩;refine⟨_,rfl,?_⟩;refine hK.out _ _ ⟨(blk_cell BK109.out 0).trans rfl,(blk_cell BK109.out 1).trans rfl,hx_ HB hw111_0,hx_ HB hw114_0,hx_ HB hw115_0⟩ (fun hHeld=>?_);clear hK K;refine nr 25 ?_;refine on_ 8 (some 26) (ar 9 19) HT_ fun K hK=>?_;refine gr Tryz.func95 #[.int .i64 (rd l0_1 x3_1),.int .i64 1,.int .i64 t112] ?_;with_reducible refine(spec_l01In.calls (rd l0_1 x3_1) 1 t112 true _ A9.out).mono ?_
           rintro e w' ⟨rfl,⟨nd,rfl⟩⟩;refine⟨_,rfl,?_⟩;refine hK.out _ _ ⟨(blk_cell BK109.out 0).trans rfl,(blk_cell BK109.out 1).trans rfl,hx_ HB hw111_0,hx_ HB hw114_0,hx_ HB hw115_0⟩ (fun hHeld=>?_);clear hK K;refine nr 26 ?_;refine pu 9 (some 27) (ar 10 18) HT_ ?_;refine pu 10 (some 28) (ar 11 17) HT_ ?_;refine pu 11 (some 29) (ar 12 16) HT_ ?_;refine pu 12 (some 30) (ar 13 15) HT_ ?_;refine pu 13 (some 31) (ar 14 14) HT_ ?_;refine pu 14 (some 32) (ar 15 13) HT_ ?_;refine pu 16 (some 34) #[U,U,U,U,U,U,U,U,U,U,U,U,U,U,U,O,U,O,O,O,O,O,O,O,O,O,O,O] HT_ ?_;refine pu 19 (some 37) #[U,U,U,U,U,U,U,U,U,U,U,U,U,U,U,O,U,O,O,U,O,O,O,O,O,O,O,O] HT_ ?_;refine pu 21 (some 39) #[U,U,U,U,U,U,U,U,U,U,U,U,U,U,U,O,U,O,O,U,O,U,O,O,O,O,O,O] HT_ ?_;refine pu 22 (some 40) #[U,U,U,U,U,U,U,U,U,U,U,U,U,U,U,O,U,O,O,U,O,U,U,O,O,O,O,O] HT_ ?_;refine tk 15 (some 33) #[U,U,U,U,U,U,U,U,U,U,U,U,U,U,U,U,U,O,O,U,O,U,U,O,O,O,O,O] HT_ HW_ hHeld ?_;refine pu 17 (some 35) #[U,U,U,U,U,U,U,U,U,U,U,U,U,U,U,U,U,U,O,U,O,U,U,O,O,O,O,O] HT_ ?_;refine tk 18 (some 36) #[U,U,U,U,U,U,U,U,U,U,U,U,U,U,U,U,U,U,U,U,O,U,U,O,O,O,O,O] HT_ HW_ hHeld ?_;refine tk 20 (some 38) (ar 23 5) HT_ HW_ hHeld ?_;refine pu 23 (some 41) (ar 24 4) HT_ ?_;refine tk 24 (some 42) (ar 25 3) HT_ HW_ hHeld ?_;refine pu 25 (some 43) (ar 26 2) HT_ ?_;refine pu 26 (some 44) (ar 27 1) HT_ ?_;refine pu 27 (some 45) (ar 28 0) HT_ ?_;refine done_ (done_of HT_.out (by kernel_rfl)) ?_;try go_wp2
           go_ret;exact⟨by first|rfl|(simp [errW_none,errW_some] <;> rfl)|(simp only [← hji12];first|rfl|(simp [errW_none,errW_some] <;> rfl))|(simp [*,errW_none,errW_some] <;> rfl),bl HB.out⟩
          ·rw[if_neg c15] at H;have c15b0:decide ((rd l0_1 x3_1)≤(rd l0_1 (ji12)))=false:=decide_eq_false c15;clear c15;have H':=Aside0.mk H;clear H;have hcz18_0:=z0_ BK109;have hcz18_1:=z1_ BK109;have hfz18_0:=hf_ BK109 0;have hfz18_1:=hf_ BK109 1;try go_wp2
           replace BK109:=Aside0.mk (blk_drew BK109.out);replace HB:=Aside0.mk (below_drew1 HB.out);have p111:0≤(x3_1:Int):=dd;have q111:x3_1<(l0_1.length:Int):=dd;obtain ⟨ad111,e111,hx111_0⟩:=Kd.at_int HR0_1.out x3_1 p111 q111;have hw111_0:=hx111_0;cases e111;replace hx111_0:=hx_ HB hx111_0;replace p111:=eq_true p111;replace q111:=eq_true q111;have p114:0≤(x3_1:Int):=dd;have q114:x3_1<(l0_1.length:Int):=dd;obtain ⟨ad114,e114,hx114_0⟩:=Kd.at_int HR0_1.out x3_1 p114 q114;have hw114_0:=hx114_0;obtain rfl:ad111=ad114:=(by injection e114)
           replace hx114_0:=hx_ HB hx114_0;replace p114:=eq_true p114;replace q114:=eq_true q114;have p115:0≤((ji12):Int):=dd;have q115:(ji12)<(l0_1.length:Int):=dd;obtain ⟨ad115,e115,hx115_0⟩:=Kd.at_int HR0_1.out (ji12) p115 q115;have hw115_0:=hx115_0;obtain rfl:ad111=ad115:=(by injection e115)
           replace hx115_0:=hx_ HB hx115_0;replace p115:=eq_true p115;replace q115:=eq_true q115;refine start_ (n:=28) (S:=fun w'=>w'.cell? ⟨gb109,0,none⟩=some (.int .i64 a0_0)∧w'.cell? ⟨gb109,1,none⟩=some (.slice (some ad111) l0_1.length c0_1)∧w'.cell? (ad111.add (x3_1).toNat)=some (.int .i64 (rd l0_1 x3_1))∧w'.cell? (ad111.add (x3_1).toNat)=some (.int .i64 (rd l0_1 x3_1))∧w'.cell? (ad111.add ((ji12)).toNat)=some (.int .i64 (rd l0_1 (ji12)))) (ds:= []) (ar 0 28) (by kernel_rfl) rfl rfl ⟨(blk_cell BK109.out 0).trans rfl,(blk_cell BK109.out 1).trans rfl,hx_ HB hw111_0,hx_ HB hw114_0,hx_ HB hw115_0⟩ (fun hHeld=>?_);refine with_tabW spec_l01Is.tab6 spec_l01Is.bits6 (fun HT_ HW_=>?_);generalize wr.drew=w19 at BK109 HB hx111_0 hx114_0 hx115_0 hHeld ⊢;refine pu 0 (some 18) (ar 1 27) HT_ ?_;refine pu 2 (some 20) #[U,O,U,O,O,O,O,O,O,O,O,O,O,O,O,O,O,O,O,O,O,O,O,O,O,O,O,O] HT_ ?_;refine pu 5 (some 23) #[U,O,U,O,O,U,O,O,O,O,O,O,O,O,O,O,O,O,O,O,O,O,O,O,O,O,O,O] HT_ ?_;refine tk 1 (some 19) #[U,U,U,O,O,U,O,O,O,O,O,O,O,O,O,O,O,O,O,O,O,O,O,O,O,O,O,O] HT_ HW_ hHeld ?_;refine pu 3 (some 21) #[U,U,U,U,O,U,O,O,O,O,O,O,O,O,O,O,O,O,O,O,O,O,O,O,O,O,O,O] HT_ ?_;refine tk 4 (some 22) (ar 6 22) HT_ HW_ hHeld ?_;refine tk 6 (some 24) (ar 7 21) HT_ HW_ hHeld ?_;refine on_ 7 (some 25) (ar 8 20) HT_ fun K hK=>?_;refine gr Tryz.func91 #[.int .i64 a0_0] ?_;with_reducible refine(spec_l01All.calls a0_0 t112 _ A8.out).mono ?_
           rintro e w' ⟨rfl,⟨nd,rfl⟩⟩;refine⟨_,rfl,?_⟩;refine hK.out _ _ ⟨(blk_cell BK109.out 0).trans rfl,(blk_cell BK109.out 1).trans rfl,hx_ HB hw111_0,hx_ HB hw114_0,hx_ HB hw115_0⟩ (fun hHeld=>?_);clear hK K;refine nr 25 ?_;refine on_ 8 (some 26) (ar 9 19) HT_ fun K hK=>?_;refine gr Tryz.func95 #[.int .i64 (rd l0_1 x3_1),.int .i64 1,.int .i64 t112] ?_;with_reducible refine(spec_l01In.calls (rd l0_1 x3_1) 1 t112 true _ A9.out).mono ?_
           rintro e w' ⟨rfl,⟨nd,rfl⟩⟩;refine⟨_,rfl,?_⟩;refine hK.out _ _ ⟨(blk_cell BK109.out 0).trans rfl,(blk_cell BK109.out 1).trans rfl,hx_ HB hw111_0,hx_ HB hw114_0,hx_ HB hw115_0⟩ (fun hHeld=>?_);clear hK K;refine nr 26 ?_;refine pu 9 (some 27) (ar 10 18) HT_ ?_;refine pu 10 (some 28) (ar 11 17) HT_ ?_;refine pu 11 (some 29) (ar 12 16) HT_ ?_;refine pu 12 (some 30) (ar 13 15) HT_ ?_;refine pu 13 (some 31) (ar 14 14) HT_ ?_;refine pu 14 (some 32) (ar 15 13) HT_ ?_;refine pu 16 (some 34) #[U,U,U,U,U,U,U,U,U,U,U,U,U,U,U,O,U,O,O,O,O,O,O,O,O,O,O,O] HT_ ?_;refine pu 19 (some 37) #[U,U,U,U,U,U,U,U,U,U,U,U,U,U,U,O,U,O,O,U,O,O,O,O,O,O,O,O] HT_ ?_;refine pu 21 (some 39) #[U,U,U,U,U,U,U,U,U,U,U,U,U,U,U,O,U,O,O,U,O,U,O,O,O,O,O,O] HT_ ?_;refine pu 22 (some 40) #[U,U,U,U,U,U,U,U,U,U,U,U,U,U,U,O,U,O,O,U,O,U,U,O,O,O,O,O] HT_ ?_;refine tk 15 (some 33) #[U,U,U,U,U,U,U,U,U,U,U,U,U,U,U,U,U,O,O,U,O,U,U,O,O,O,O,O] HT_ HW_ hHeld ?_;refine pu 17 (some 35) #[U,U,U,U,U,U,U,U,U,U,U,U,U,U,U,U,U,U,O,U,O,U,U,O,O,O,O,O] HT_ ?_;refine tk 18 (some 36) #[U,U,U,U,U,U,U,U,U,U,U,U,U,U,U,U,U,U,U,U,O,U,U,O,O,O,O,O] HT_ HW_ hHeld ?_;refine tk 20 (some 38) (ar 23 5) HT_ HW_ hHeld ?_;refine pu 23 (some 41) (ar 24 4) HT_ ?_;refine tk 24 (some 42) (ar 25 3) HT_ HW_ hHeld ?_;refine pu 25 (some 43) (ar 26 2) HT_ ?_;refine pu 26 (some 44) (ar 27 1) HT_ ?_;refine pu 27 (some 45) (ar 28 0) HT_ ?_;refine done_ (done_of HT_.out (by kernel_rfl)) ?_;try go_wp2
           go_roundg k1
           case measure=>have:=HK1.out;omega
           case rel=>exact⟨(wrap64 (x3_1+1)),rs,H',⟨by have:=HK1.out;omega⟩,⟨bk BK109.out⟩,⟨bl HB.out⟩⟩
         ·rw[if_neg c14] at H;exact absurd H (by simp)
        ·rw[if_neg c13] at H;exact absurd H (by simp)
       ·rw[if_neg c11] at H;have c11b0:decide (0<x3_1)=false:=decide_eq_false c11;clear c11;have H':=Aside0.mk H;clear H;have hcz20_0:=z0_ BK109;have hcz20_1:=z1_ BK109;have hfz20_0:=hf_ BK109 0;have hfz20_1:=hf_ BK109 1;try go_wp2
        replace BK109:=Aside0.mk (blk_drew BK109.out);replace HB:=Aside0.mk (below_drew1 HB.out);have p111:0≤(x3_1:Int):=dd;have q111:x3_1<(l0_1.length:Int):=dd;obtain ⟨ad111,e111,hx111_0⟩:=Kd.at_int HR0_1.out x3_1 p111 q111;have hw111_0:=hx111_0;cases e111;replace hx111_0:=hx_ HB hx111_0;replace p111:=eq_true p111;replace q111:=eq_true q111;refine start_ (n:=28) (S:=fun w'=>w'.cell? ⟨gb109,0,none⟩=some (.int .i64 a0_0)∧w'.cell? ⟨gb109,1,none⟩=some (.slice (some ad111) l0_1.length c0_1)∧w'.cell? (ad111.add (x3_1).toNat)=some (.int .i64 (rd l0_1 x3_1))) (ds:= []) (ar 0 28) (by kernel_rfl) rfl rfl ⟨(blk_cell BK109.out 0).trans rfl,(blk_cell BK109.out 1).trans rfl,hx_ HB hw111_0⟩ (fun hHeld=>?_);refine with_tabW spec_l01Is.tab6 spec_l01Is.bits6 (fun HT_ HW_=>?_);generalize wr.drew=w21 at BK109 HB hx111_0 hHeld ⊢;refine pu 0 (some 18) (ar 1 27) HT_ ?_;refine pu 2 (some 20) #[U,O,U,O,O,O,O,O,O,O,O,O,O,O,O,O,O,O,O,O,O,O,O,O,O,O,O,O] HT_ ?_;refine pu 5 (some 23) #[U,O,U,O,O,U,O,O,O,O,O,O,O,O,O,O,O,O,O,O,O,O,O,O,O,O,O,O] HT_ ?_;refine tk 1 (some 19) #[U,U,U,O,O,U,O,O,O,O,O,O,O,O,O,O,O,O,O,O,O,O,O,O,O,O,O,O] HT_ HW_ hHeld ?_;refine pu 3 (some 21) #[U,U,U,U,O,U,O,O,O,O,O,O,O,O,O,O,O,O,O,O,O,O,O,O,O,O,O,O] HT_ ?_;refine tk 4 (some 22) (ar 6 22) HT_ HW_ hHeld ?_;refine tk 6 (some 24) (ar 7 21) HT_ HW_ hHeld ?_;refine on_ 7 (some 25) (ar 8 20) HT_ fun K hK=>?_;refine gr Tryz.func91 #[.int .i64 a0_0] ?_;with_reducible refine(spec_l01All.calls a0_0 t112 _ A8.out).mono ?_
        rintro e w' ⟨rfl,⟨nd,rfl⟩⟩;refine⟨_,rfl,?_⟩;refine hK.out _ _ ⟨(blk_cell BK109.out 0).trans rfl,(blk_cell BK109.out 1).trans rfl,hx_ HB hw111_0⟩ (fun hHeld=>?_);clear hK K;refine nr 25 ?_;refine on_ 8 (some 26) (ar 9 19) HT_ fun K hK=>?_;refine gr Tryz.func95 #[.int .i64 (rd l0_1 x3_1),.int .i64 1,.int .i64 t112] ?_;with_reducible refine(spec_l01In.calls (rd l0_1 x3_1) 1 t112 true _ A9.out).mono ?_
        rintro e w' ⟨rfl,⟨nd,rfl⟩⟩;refine⟨_,rfl,?_⟩;refine hK.out _ _ ⟨(blk_cell BK109.out 0).trans rfl,(blk_cell BK109.out 1).trans rfl,hx_ HB hw111_0⟩ (fun hHeld=>?_);clear hK K;refine nr 26 ?_;refine pu 9 (some 27) (ar 10 18) HT_ ?_;refine pu 10 (some 28) (ar 11 17) HT_ ?_;refine pu 11 (some 29) (ar 12 16) HT_ ?_;refine pu 12 (some 30) (ar 13 15) HT_ ?_;refine pu 13 (some 31) (ar 14 14) HT_ ?_;refine pv 14 (some 32) (ar 15 13) HT_ ?_;refine pv 15 (some 33) (ar 16 12) HT_ ?_;refine pv 16 (some 34) (ar 17 11) HT_ ?_;refine pv 17 (some 35) (ar 18 10) HT_ ?_;refine pv 18 (some 36) (ar 19 9) HT_ ?_;refine pv 19 (some 37) (ar 20 8) HT_ ?_;refine pv 20 (some 38) (ar 21 7) HT_ ?_;refine pv 21 (some 39) (ar 22 6) HT_ ?_;refine pv 22 (some 40) (ar 23 5) HT_ ?_;refine pv 23 (some 41) (ar 24 4) HT_ ?_;refine pv 24 (some 42) (ar 25 3) HT_ ?_;refine pv 25 (some 43) (ar 26 2) HT_ ?_;refine pu 26 (some 44) (ar 27 1) HT_ ?_;refine pu 27 (some 45) (ar 28 0) HT_ ?_;refine done_ (done_of HT_.out (by kernel_rfl)) ?_;try go_wp2
        go_roundg k1
        case measure=>have:=HK1.out;omega
        case rel=>exact⟨(wrap64 (x3_1+1)),rs,H',⟨by have:=HK1.out;omega⟩,⟨bk BK109.out⟩,⟨bl HB.out⟩⟩
      ·replace c10:=Bool.eq_false_iff.mpr c10;subst c10;have H1:(some false)=some r:=by rw[if_neg (show ¬ (false=true) by decide)] at H;exact H
       clear H;have H:=H1;clear H1;obtain rfl:=Option.some.inj H;have hcz22_0:=z0_ BK109;have hcz22_1:=z1_ BK109;have hfz22_0:=hf_ BK109 0;have hfz22_1:=hf_ BK109 1;try go_wp2
       replace BK109:=Aside0.mk (blk_drew BK109.out);replace HB:=Aside0.mk (below_drew1 HB.out);have p111:0≤(x3_1:Int):=dd;have q111:x3_1<(l0_1.length:Int):=dd;obtain ⟨ad111,e111,hx111_0⟩:=Kd.at_int HR0_1.out x3_1 p111 q111;have hw111_0:=hx111_0;cases e111;replace hx111_0:=hx_ HB hx111_0;replace p111:=eq_true p111;replace q111:=eq_true q111;refine start_ (n:=28) (S:=fun w'=>w'.cell? ⟨gb109,0,none⟩=some (.int .i64 a0_0)∧w'.cell? ⟨gb109,1,none⟩=some (.slice (some ad111) l0_1.length c0_1)∧w'.cell? (ad111.add (x3_1).toNat)=some (.int .i64 (rd l0_1 x3_1))) (ds:= []) (ar 0 28) (by kernel_rfl) rfl rfl ⟨(blk_cell BK109.out 0).trans rfl,(blk_cell BK109.out 1).trans rfl,hx_ HB hw111_0⟩ (fun hHeld=>?_);refine with_tabW spec_l01Is.tab6 spec_l01Is.bits6 (fun HT_ HW_=>?_);generalize wr.drew=w23 at BK109 HB hx111_0 hHeld ⊢;refine pu 0 (some 18) (ar 1 27) HT_ ?_;refine pu 2 (some 20) #[U,O,U,O,O,O,O,O,O,O,O,O,O,O,O,O,O,O,O,O,O,O,O,O,O,O,O,O] HT_ ?_;refine pu 5 (some 23) #[U,O,U,O,O,U,O,O,O,O,O,O,O,O,O,O,O,O,O,O,O,O,O,O,O,O,O,O] HT_ ?_;refine tk 1 (some 19) #[U,U,U,O,O,U,O,O,O,O,O,O,O,O,O,O,O,O,O,O,O,O,O,O,O,O,O,O] HT_ HW_ hHeld ?_;refine pu 3 (some 21) #[U,U,U,U,O,U,O,O,O,O,O,O,O,O,O,O,O,O,O,O,O,O,O,O,O,O,O,O] HT_ ?_;refine tk 4 (some 22) (ar 6 22) HT_ HW_ hHeld ?_;refine tk 6 (some 24) (ar 7 21) HT_ HW_ hHeld ?_;refine on_ 7 (some 25) (ar 8 20) HT_ fun K hK=>?_;refine gr Tryz.func91 #[.int .i64 a0_0] ?_;with_reducible refine(spec_l01All.calls a0_0 t112 _ A8.out).mono ?_
       rintro e w' ⟨rfl,⟨nd,rfl⟩⟩;refine⟨_,rfl,?_⟩;refine hK.out _ _ ⟨(blk_cell BK109.out 0).trans rfl,(blk_cell BK109.out 1).trans rfl,hx_ HB hw111_0⟩ (fun hHeld=>?_);clear hK K;refine nr 25 ?_;refine on_ 8 (some 26) (ar 9 19) HT_ fun K hK=>?_;refine gr Tryz.func95 #[.int .i64 (rd l0_1 x3_1),.int .i64 1,.int .i64 t112] ?_;with_reducible refine(spec_l01In.calls (rd l0_1 x3_1) 1 t112 false _ A9.out).mono ?_
       rintro e w' ⟨rfl,⟨nd,rfl⟩⟩;refine⟨_,rfl,?_⟩;refine hK.out _ _ ⟨(blk_cell BK109.out 0).trans rfl,(blk_cell BK109.out 1).trans rfl,hx_ HB hw111_0⟩ (fun hHeld=>?_);clear hK K;refine nr 26 ?_;refine pu 9 (some 27) (ar 10 18) HT_ ?_;refine pu 10 (some 28) (ar 11 17) HT_ ?_;refine pv 11 (some 29) (ar 12 16) HT_ ?_;refine pv 12 (some 30) (ar 13 15) HT_ ?_;refine pv 13 (some 31) (ar 14 14) HT_ ?_;refine pv 14 (some 32) (ar 15 13) HT_ ?_;refine pv 15 (some 33) (ar 16 12) HT_ ?_;refine pv 16 (some 34) (ar 17 11) HT_ ?_;refine pv 17 (some 35) (ar 18 10) HT_ ?_;refine pv 18 (some 36) (ar 19 9) HT_ ?_;refine pv 19 (some 37) (ar 20 8) HT_ ?_;refine pv 20 (some 38) (ar 21 7) HT_ ?_;refine pv 21 (some 39) (ar 22 6) HT_ ?_;refine pv 22 (some 40) (ar 23 5) HT_ ?_;refine pv 23 (some 41) (ar 24 4) HT_ ?_;refine pv 24 (some 42) (ar 25 3) HT_ ?_;refine pv 25 (some 43) (ar 26 2) HT_ ?_;refine pv 26 (some 44) (ar 27 1) HT_ ?_;refine pu 27 (some 45) (ar 28 0) HT_ ?_;refine done_ (done_of HT_.out (by kernel_rfl)) ?_;try go_wp2
       go_ret;exact⟨rr,bl HB.out⟩
     ·rw[if_neg c7] at H;exact absurd H (by simp)
    ·rw[if_neg c6] at H;have c6b0:decide (x3_1<(l0_1.length:Int))=false:=decide_eq_false c6;clear c6;have H':=Aside0.mk H;clear H;have hcz24_0:=z0_ BK109;have hcz24_1:=z1_ BK109;have hfz24_0:=hf_ BK109 0;have hfz24_1:=hf_ BK109 1;go_wp2
     go_loopg [4] k1 (fun kq v4 w'=>∃(x4_2:Int),v4 = .int .i64 x4_2∧Aside0 (spec_l01Is.l1 kq x4_2 a0_0 l0_1=some r)∧Aside0 (kq≤k1)∧Aside0 (w'.heap[gb109]?=some (.cells #[.int .i64 a0_0,(.slice A0_1 l0_1.length c0_1)] 26 (0,0)))∧Aside0 (Below w.heap.size w w'))
     case atStart=>exact⟨(0),rs,H',⟨Nat.le_refl _⟩,⟨bk BK109.out⟩,⟨bl HB.out⟩⟩
     case round=>
      clear H';try clear c1
      try clear p1
      try clear q1
      try clear hx1
      try clear p2
      try clear c6
      try clear c6b0
      try clear p6
      try clear c7
      try clear c9
      try clear c10
      try clear c11
      try clear c11b0
      try clear p11
      try clear q11
      try clear hx11
      try clear c13
      try clear c14
      try clear hcz20_0
      try clear hcz20_1
      try clear hcz22_0
      try clear hcz22_1
      try clear hcz24_0
      try clear hcz24_1
      try clear hfz20_0
      try clear hfz20_1
      try clear hfz22_0
      try clear hfz22_1
      try clear hfz24_0
      try clear hfz24_1
      try clear hx111_0
      try clear p111
      try clear q111
      obtain ⟨x4_2,rfl,HA,HK2,BK109,HB⟩:=hrel;cases gk with
      |zero=>exact absurd HA.out (by simp [spec_l01Is.l1])
      |succ k2=>
       have H:=HA.out;clear HA;simp only [spec_l01Is.l1] at H;by_cases c25:x4_2<(l0_1.length:Int)
       ·rw[if_pos c25] at H;have c25b0:decide (x4_2<(l0_1.length:Int))=true:=decide_eq_true c25;clear c25;by_cases c26:0≤x4_2
        ·rw[if_pos c26] at H;have c26b0:decide (0≤x4_2)=true:=decide_eq_true c26;clear c26;replace H:=Option.bind_eq_some_iff.mp H;obtain ⟨t117,A270,H⟩:=H;replace H:(spec_l01Is.l2 k2 x4_2 t117 0 a0_0 l0_1)=some r:=H;have A27:=Aside0.mk A270;clear A270;have H':=Aside0.mk H;clear H;have hcz28_0:=z0_ BK109;have hcz28_1:=z1_ BK109;have hfz28_0:=hf_ BK109 0;have hfz28_1:=hf_ BK109 1;have p116:0≤(x4_2:Int):=dd;have q116:x4_2<(l0_1.length:Int):=dd;obtain ⟨ad116,e116,hx116_0⟩:=Kd.at_int HR0_1.out x4_2 p116 q116;cases e116;replace hx116_0:=hx_ HB hx116_0;replace p116:=eq_true p116;replace q116:=eq_true q116;go_wp2_with (first|((with_reducible refine gate_callee (f:=125) rfl ?_);refine gl (some 58) Tryz.func125 #[.int .i64 (rd l0_1 x4_2)] ?_;(with_reducible refine(spec_l01Below.calls k2 (rd l0_1 x4_2) t117 _ A27.out).mono ?_);rintro e w29 ⟨v118,rfl,ho0,hb⟩;refine⟨_,rfl,?_⟩;have HO119:=klA ho0 HB;replace BK109:=bkA BK109 hb;replace HB:=bsA HB hb;(try clear hb);(try clear hb2);(try clear hk);(try clear hi);(try clear ho0)))
         go_loopg [6] k2 (fun kq v6 w'=>∃(x6_3:Int),v6 = .int .i64 x6_3∧Aside0 (spec_l01Is.l2 kq x4_2 t117 x6_3 a0_0 l0_1=some r)∧Aside0 (kq≤k2)∧Aside0 (Kd.R (Kd.int .i64) 2 w' w.heap.size (fun _=>True) v118 t117)∧Aside0 (w'.heap[gb109]?=some (.cells #[.int .i64 a0_0,(.slice (some ad116) l0_1.length c0_1)] 26 (0,0)))∧Aside0 (Below w.heap.size w w'))
         case atStart=>exact⟨(0),rs,H',⟨Nat.le_refl _⟩,⟨kr HO119.out⟩,⟨bk BK109.out⟩,⟨bl HB.out⟩⟩
         case round=>
          clear H';try clear c1
          try clear p1
          try clear q1
          try clear hx1
          try clear c2
          try clear p2
          try clear c6
          try clear c6b0
          try clear p6
          try clear c7
          try clear c9
          try clear c10
          try clear c11
          try clear c11b0
          try clear p11
          try clear q11
          try clear hx11
          try clear c12
          try clear c13
          try clear c14
          try clear c25
          try clear c25b0
          try clear c26
          try clear c26b0
          try clear hcz20_0
          try clear hcz20_1
          try clear hcz22_0
          try clear hcz22_1
          try clear hcz24_0
          try clear hcz24_1
          try clear hcz28_0
          try clear hcz28_1
          try clear hfz20_0
          try clear hfz20_1
          try clear hfz22_0
          try clear hfz22_1
          try clear hfz24_0
          try clear hfz24_1
          try clear hfz28_0
          try clear hfz28_1
          try clear hx111_0
          try clear hx116_0
          try clear p1
          try clear p11
          try clear p111
          try clear p116
          try clear p2
          try clear p6
          try clear q1
          try clear q11
          try clear q111
          try clear q116
          obtain ⟨x6_3,rfl,HA,HK3,HO_5,BK109,HB⟩:=hrel;cases gk with
          |zero=>exact absurd HA.out (by simp [spec_l01Is.l2])
          |succ k3=>
           have H:=HA.out;clear HA;simp only [spec_l01Is.l2] at H;by_cases c30:x6_3<(t117.length:Int)
           ·rw[if_pos c30] at H;have c30b0:decide (x6_3<(t117.length:Int))=true:=decide_eq_true c30;clear c30;by_cases c31:0≤x6_3
            ·rw[if_pos c31] at H;have c31b0:decide (0≤x6_3)=true:=decide_eq_true c31;clear c31;replace H:=Option.bind_eq_some_iff.mp H;obtain ⟨t121,A320,H⟩:=H;replace H:(if t121=true then (spec_l01Is.l2 k3 x4_2 t117 (wrap64 (x6_3+1)) a0_0 l0_1) else (some false))=some r:=H;have A32:=Aside0.mk A320;clear A320;by_cases c33:t121=true
             ·subst c33;have H1:(spec_l01Is.l2 k3 x4_2 t117 (wrap64 (x6_3+1)) a0_0 l0_1)=some r:=by rw[if_pos rfl] at H;exact H
              clear H;have H:=H1;clear H1;have H':=Aside0.mk H;clear H;obtain ⟨Ao34,co34,eo34⟩:=Kd.R_slice HO_5.out;subst eo34;try go_wp2
              replace HO_5:=Aside0.mk (Kd.R_drew HO_5.out);replace BK109:=Aside0.mk (blk_drew BK109.out);replace HB:=Aside0.mk (below_drew1 HB.out);have p120:0≤(x6_3:Int):=dd;have q120:x6_3<(t117.length:Int):=dd;obtain ⟨ad120,e120,hx120_0⟩:=Kd.at_int (Kd.R_reads' HO_5.out).2.2 x6_3 p120 q120;cases e120;replace p120:=eq_true p120;replace q120:=eq_true q120;refine start_ (n:=7) (S:=fun w'=>w'.cell? ⟨gb109,0,none⟩=some (.int .i64 a0_0)∧w'.cell? ⟨gb109,1,none⟩=some (.slice (some ad116) l0_1.length c0_1)∧w'.cell? (ad120.add (x6_3).toNat)=some (.int .i64 (rd t117 x6_3))) (ds:= []) (ar 0 7) (by kernel_rfl) rfl rfl ⟨(blk_cell BK109.out 0).trans rfl,(blk_cell BK109.out 1).trans rfl,hx120_0⟩ (fun hHeld=>?_);generalize wr.drew=w35 at HO_5 BK109 HB hx120_0 hHeld ⊢;refine pure_ (i:=1) (N:=some 66) (v:=?_) (a':=?_) #[O,U,O,O,O,O,O] rfl rfl (by kernel_rfl) hh_ (Or.inl ⟨by rfl,?_⟩) ?_ ?_;rotate_left
              ·intro w';go_simp;with_reducible rfl
              rotate_left
              ·simp only [nm_];rfl
              refine pure_ (i:=2) (N:=some 67) (v:=?_) (a':=?_) #[O,U,U,O,O,O,O] rfl rfl (by kernel_rfl) hh_ (Or.inl ⟨by rfl,?_⟩) ?_ ?_;rotate_left
              ·intro w';go_simp;with_reducible rfl
              rotate_left
              ·simp only [nm_];rfl
              refine pure_ (i:=3) (N:=some 68) (v:=?_) (a':=?_) #[O,U,U,U,O,O,O] rfl rfl (by kernel_rfl) hh_ (Or.inl ⟨by rfl,?_⟩) ?_ ?_;rotate_left
              ·intro w';go_simp;with_reducible rfl
              rotate_left
              ·simp only [nm_];rfl
              refine take_ (i:=0) (N:=some 65) (v:=?_) (a':=?_) (ar 4 3) rfl rfl (by kernel_rfl) hh_ (Or.inl ⟨by rfl,?_⟩) hHeld ?_ ?_;rotate_left
              ·rintro w' ⟨s0,s1,s2⟩;go_simp;with_reducible rfl
              rotate_left
              ·simp only [nm_];rfl
              refine take_ (i:=4) (N:=some 69) (v:=?_) (a':=?_) (ar 5 2) rfl rfl (by kernel_rfl) hh_ (Or.inl ⟨by rfl,?_⟩) hHeld ?_ ?_;rotate_left
              ·rintro w' ⟨s0,s1,s2⟩;go_simp;with_reducible rfl
              rotate_left
              ·simp only [nm_];rfl
              refine one_ (i:=5) (N:=some 70) (ar 6 1) rfl rfl (by kernel_rfl) (by decide) (fun K hK=>?_);refine gr Tryz.func61 #[.agg #[.int .i64 a0_0,.slice (some ad116) l0_1.length c0_1],.int .i64 (rd t117 x6_3)] ?_;with_reducible refine(spec_l01Has.calls k3 a0_0 _ _ l0_1 (rd t117 x6_3) true _ (cb (Kd.C_below HR0_1.out HB.out)) HC0_1.out A32.out).mono ?_
              rintro e w36 ⟨rfl,hb⟩;have HS2_:=(hb.cell (World.block_lt_of_cell? _ _ (hHeld.2.2))).trans (hHeld.2.2);refine⟨_,rfl,?_⟩;replace HO_5:=krA HO_5 hb;replace BK109:=bkA BK109 hb;replace HB:=bsA HB hb;(try clear hb)
              (try clear hb2)
              (try clear hk)
              (try clear hi)
              refine hK.out _ _ ⟨(blk_cell BK109.out 0).trans rfl,(blk_cell BK109.out 1).trans rfl,HS2_⟩ (fun hHeld=>?_);clear hK K;refine nr 70 ?_;refine pure_ (i:=6) (N:=some 71) (v:=?_) (a':=?_) (ar 7 0) rfl rfl (by kernel_rfl) hh_ (Or.inl ⟨by rfl,?_⟩) ?_ ?_;rotate_left
              ·intro w';go_simp;with_reducible rfl
              rotate_left
              ·simp only [nm_];rfl
              refine done_ (by kernel_rfl) ?_;try go_wp2
              go_roundg k3
              case measure=>have:=HK1.out;have:=HK2.out;have:=HK3.out;omega
              case rel=>exact⟨(wrap64 (x6_3+1)),rs,H',⟨by have:=HK1.out;have:=HK2.out;have:=HK3.out;omega⟩,⟨kr HO_5.out⟩,⟨bk BK109.out⟩,⟨bl HB.out⟩⟩
             ·replace c33:=Bool.eq_false_iff.mpr c33;subst c33;have H1:(some false)=some r:=by rw[if_neg (show ¬ (false=true) by decide)] at H;exact H
              clear H;have H:=H1;clear H1;obtain rfl:=Option.some.inj H;obtain ⟨Ao37,co37,eo37⟩:=Kd.R_slice HO_5.out;subst eo37;try go_wp2
              replace HO_5:=Aside0.mk (Kd.R_drew HO_5.out);replace BK109:=Aside0.mk (blk_drew BK109.out);replace HB:=Aside0.mk (below_drew1 HB.out);have p120:0≤(x6_3:Int):=dd;have q120:x6_3<(t117.length:Int):=dd;obtain ⟨ad120,e120,hx120_0⟩:=Kd.at_int (Kd.R_reads' HO_5.out).2.2 x6_3 p120 q120;cases e120;replace p120:=eq_true p120;replace q120:=eq_true q120;refine start_ (n:=7) (S:=fun w'=>w'.cell? ⟨gb109,0,none⟩=some (.int .i64 a0_0)∧w'.cell? ⟨gb109,1,none⟩=some (.slice (some ad116) l0_1.length c0_1)∧w'.cell? (ad120.add (x6_3).toNat)=some (.int .i64 (rd t117 x6_3))) (ds:= []) (ar 0 7) (by kernel_rfl) rfl rfl ⟨(blk_cell BK109.out 0).trans rfl,(blk_cell BK109.out 1).trans rfl,hx120_0⟩ (fun hHeld=>?_);generalize wr.drew=w38 at HO_5 BK109 HB hx120_0 hHeld ⊢;refine pure_ (i:=1) (N:=some 66) (v:=?_) (a':=?_) #[O,U,O,O,O,O,O] rfl rfl (by kernel_rfl) hh_ (Or.inl ⟨by rfl,?_⟩) ?_ ?_;rotate_left
              ·intro w';go_simp;with_reducible rfl
              rotate_left
              ·simp only [nm_];rfl
              refine pure_ (i:=2) (N:=some 67) (v:=?_) (a':=?_) #[O,U,U,O,O,O,O] rfl rfl (by kernel_rfl) hh_ (Or.inl ⟨by rfl,?_⟩) ?_ ?_;rotate_left
              ·intro w';go_simp;with_reducible rfl
              rotate_left
              ·simp only [nm_];rfl
              refine pure_ (i:=3) (N:=some 68) (v:=?_) (a':=?_) #[O,U,U,U,O,O,O] rfl rfl (by kernel_rfl) hh_ (Or.inl ⟨by rfl,?_⟩) ?_ ?_;rotate_left
              ·intro w';go_simp;with_reducible rfl
              rotate_left
              ·simp only [nm_];rfl
              refine take_ (i:=0) (N:=some 65) (v:=?_) (a':=?_) (ar 4 3) rfl rfl (by kernel_rfl) hh_ (Or.inl ⟨by rfl,?_⟩) hHeld ?_ ?_;rotate_left
              ·rintro w' ⟨s0,s1,s2⟩;go_simp;with_reducible rfl
              rotate_left
              ·simp only [nm_];rfl
              refine take_ (i:=4) (N:=some 69) (v:=?_) (a':=?_) (ar 5 2) rfl rfl (by kernel_rfl) hh_ (Or.inl ⟨by rfl,?_⟩) hHeld ?_ ?_;rotate_left
              ·rintro w' ⟨s0,s1,s2⟩;go_simp;with_reducible rfl
              rotate_left
              ·simp only [nm_];rfl
              refine one_ (i:=5) (N:=some 70) (ar 6 1) rfl rfl (by kernel_rfl) (by decide) (fun K hK=>?_);refine gr Tryz.func61 #[.agg #[.int .i64 a0_0,.slice (some ad116) l0_1.length c0_1],.int .i64 (rd t117 x6_3)] ?_;with_reducible refine(spec_l01Has.calls k3 a0_0 _ _ l0_1 (rd t117 x6_3) false _ (cb (Kd.C_below HR0_1.out HB.out)) HC0_1.out A32.out).mono ?_
              rintro e w39 ⟨rfl,hb⟩;have HS2_:=(hb.cell (World.block_lt_of_cell? _ _ (hHeld.2.2))).trans (hHeld.2.2);refine⟨_,rfl,?_⟩;replace HO_5:=krA HO_5 hb;replace BK109:=bkA BK109 hb;replace HB:=bsA HB hb;(try clear hb)
              (try clear hb2)
              (try clear hk)
              (try clear hi)
              refine hK.out _ _ ⟨(blk_cell BK109.out 0).trans rfl,(blk_cell BK109.out 1).trans rfl,HS2_⟩ (fun hHeld=>?_);clear hK K;refine nr 70 ?_;refine pure_ (i:=6) (N:=some 71) (v:=?_) (a':=?_) (ar 7 0) rfl rfl (by kernel_rfl) hh_ (Or.inl ⟨by rfl,?_⟩) ?_ ?_;rotate_left
              ·intro w';go_simp;with_reducible rfl
              rotate_left
              ·simp only [nm_];rfl
              refine done_ (by kernel_rfl) ?_;try go_wp2
              go_ret;exact⟨rr,bl HB.out⟩
            ·rw[if_neg c31] at H;exact absurd H (by simp)
           ·rw[if_neg c30] at H;have c30b0:decide (x6_3<(t117.length:Int))=false:=decide_eq_false c30;clear c30;have H':=Aside0.mk H;clear H;obtain ⟨Ao40,co40,eo40⟩:=Kd.R_slice HO_5.out;subst eo40;go_wp2
            go_roundg k3
            case measure=>have:=HK1.out;have:=HK2.out;have:=HK3.out;omega
            case rel=>exact⟨(wrap64 (x4_2+1)),rs,H',⟨by have:=HK1.out;have:=HK2.out;have:=HK3.out;omega⟩,⟨bk BK109.out⟩,⟨bl HB.out⟩⟩
        ·rw[if_neg c26] at H;exact absurd H (by simp)
       ·rw[if_neg c25] at H;have c25b0:decide (x4_2<(l0_1.length:Int))=false:=decide_eq_false c25;clear c25;obtain rfl:=Option.some.inj H;have hcz41_0:=z0_ BK109;have hcz41_1:=z1_ BK109;have hfz41_0:=hf_ BK109 0;have hfz41_1:=hf_ BK109 1;go_wp2
        go_ret;exact⟨rr,bl HB.out⟩
 ·replace c3:=Bool.eq_false_iff.mpr c3;subst c3;have H1:(some false)=some r:=by rw[if_neg (show ¬ (false=true) by decide)] at H;exact H
  clear H;have H:=H1;clear H1;obtain rfl:=Option.some.inj H;go_enter Tryz.func71,Tryz.ntmps71;go_wp2_with (first|((with_reducible refine gate_dst (N:=1) rfl ?_);refine bx 1 #[.int .i64 a0_0,.slice A0_1 l0_1.length c0_1] 26 ?_;intro gb109 hg w42 hbox hb;have BK109:=Aside0.mk (hbox);have GE109:=gzA hg HB;replace HB:=bsA HB hb;clear hb hbox hg;have hcz43_0:=z0_ BK109;have hcz43_1:=z1_ BK109;have hfz43_0:=hf_ BK109 0;have hfz43_1:=hf_ BK109 1)|((with_reducible refine gate_callee (f:=95) rfl ?_);refine gl (some 9) Tryz.func95 #[.int .i64 a0_0,.int .i64 1,.int .i64 6] ?_;(with_reducible refine(spec_l01In.calls a0_0 1 6 false _ A2.out).mono ?_);rintro e w' ⟨rfl,⟨nd,rfl⟩⟩;refine⟨_,rfl,?_⟩))
  go_ret;exact⟨rr,bl HB.out⟩
end Go.Proofs.YtbnnamejnjfkjaaGreat.Q
end

section
namespace Go.Proofs.YtbnnamejnjfkjaaGreat.K
open Go.RowKit Go.Shelf Go.Proofs.YtbnnamejnjfkjaaGreat.Q Go.Proofs.YtbnnamejnjfkjaaGreatW.PrintWords Go.Proofs.YtbnnamejnjfkjaaGreatW.PrintLast Go.Proofs.YtbnnamejnjfkjaaGreatW.PrintMore
set_option linter.unusedVariables false
set_option linter.unusedSimpArgs false
theorem specHas_loop (n x:Int) (l:List Int) (hl:l.length≤9223372036854775806):∀(d i k:Nat),l.length - i=d→i≤l.length→d<k →
  spec_l01Has.l0 k x (i:Int) n l=some (decide (x ∈ l.drop i)):=by
 intro d
 induction d with
 |zero=>
  intro i k hd hi hk
  obtain ⟨k,rfl⟩:∃ m,k=m+1:=⟨k - 1,by omega⟩
  obtain rfl:i=l.length:=by omega
  simp only [spec_l01Has.l0]
  rw[if_neg (by omega)]
  simp
 |succ d ih=>
  intro i k hd hi hk
  obtain ⟨k,rfl⟩:∃ m,k=m+1:=⟨k - 1,by omega⟩
  simp only [spec_l01Has.l0]
  have hil:i<l.length:=by omega
  rw[if_pos (by omega),if_pos (by omega),rd_nat l i hil,w64 _ (by omega) (by omega),nat_succ,List.drop_eq_getElem_cons hil]
  by_cases h:l[i]=x
  ·rw[if_pos h]
   exact congrArg some (decide_eq_true (by rw[h];exact List.mem_cons_self)).symm
  ·rw[if_neg h,ih (i+1) k (by omega) (by omega) (by omega)]
   exact congrArg some (decide_eq_decide.2 (by rw[List.mem_cons];constructor <;> intro h2;exact .inr h2;exact h2.resolve_left (fun e=>h e.symm)))
theorem specHas_is (n x:Int) (l:List Int) (hl:l.length≤9223372036854775806) (k:Nat) (hk:l.length<k):spec_l01Has.f k n l x=some (decide (x ∈ l)):=by
 unfold spec_l01Has.f
 have:=specHas_loop n x l hl l.length 0 k (by omega) (by omega) hk
 simpa using this
theorem specBelow_64:∀ m:Fin 64,m.val≠0→spec_l01Below.f 64 (m.val:Int)=some (bords (m.val:Int)):=by decide +kernel
theorem specBelow_is (f:Int) (h1:1≤f) (h2:f≤63) (k:Nat) (hk:64≤k):spec_l01Below.f k f=some (bords f):=by
 obtain ⟨m,rfl⟩:=Int.eq_ofNat_of_zero_le (show 0≤f by omega)
 exact at_rounds (fun k=>spec_l01Below.mono _ k) hk (specBelow_64 ⟨m,by omega⟩ (by show m≠0;omega))
theorem asc_of_good (n:Int) (l:List Int) (h:∀ j,j<l.length→goodAt n l j):Asc l:=by
 rw[Asc,List.pairwise_iff_getElem]
 intro i j hi hj hij
 induction j with
 |zero=>omega
 |succ j ih=>
  have h1:=(h (j+1) hj hj).2.2 (by omega)
  simp only [Nat.add_sub_cancel] at h1
  rcases Nat.lt_or_ge i j with h2|h2
  ·have:=ih (by omega) h2
   omega
  ·obtain rfl:i=j:=by omega
   exact h1
theorem good_iff (n:Int) (l:List Int):rangeAsc n l=true↔∀ j,j<l.length→goodAt n l j:=by simp [rangeAsc]
theorem isC_iff (n:Int) (l:List Int):isC n l=true↔(1≤n∧n≤6)∧(∀ j,j<l.length→goodAt n l j)∧∀ f ∈ l,closedAt l f=true:=by
 simp [isC,good_iff,and_assoc]
theorem specIs_l2 (n:Int) (l:List Int) (hl:l.length≤2097152) (hs:Asc l) (x4:Int) (bs:List Int) (hb:bs.length≤6) (R:Nat) (r:Bool)
  (hnext:∀ k,R≤k→spec_l01Is.l1 k (wrap64 (x4+1)) n l=some r):∀(d i k:Nat),bs.length - i=d→i≤bs.length→R+l.length+1+d<k →
  spec_l01Is.l2 k x4 bs (i:Int) n l=some ((bs.drop i).all (hasB l) && r):=by
 intro d
 induction d with
 |zero=>
  intro i k hd hi hk
  obtain ⟨k,rfl⟩:∃ m,k=m+1:=⟨k - 1,by omega⟩
  obtain rfl:i=bs.length:=by omega
  simp only [spec_l01Is.l2]
  rw[if_neg (by omega),hnext k (by omega)]
  simp
 |succ d ih=>
  intro i k hd hi hk
  obtain ⟨k,rfl⟩:∃ m,k=m+1:=⟨k - 1,by omega⟩
  simp only [spec_l01Is.l2]
  have hil:i<bs.length:=by omega
  rw[if_pos (by omega),if_pos (by omega),rd_nat bs i hil,specHas_is n _ l (by omega) k (by omega)]
  simp only [Option.bind_some]
  rw[w64 ((i:Int)+1) (by omega) (by omega),nat_succ,List.drop_eq_getElem_cons hil,List.all_cons,has_asc l _ (by omega) hs]
  by_cases h:bs[i] ∈ l
  ·simp only [h,decide_true,if_true,Bool.true_and]
   exact ih (i+1) k (by omega) (by omega) (by omega)
  ·simp only [h,decide_false,Bool.false_and,Bool.false_eq_true,if_false]
theorem specIs_l1 (n:Int) (l:List Int) (hl:l.length≤2097152) (hn:1≤n∧n≤6) (hg:∀ j,j<l.length→goodAt n l j):∀(d i k:Nat),l.length - i=d→i≤l.length→9*d+(d+1)*(l.length+2)+70<k →
  spec_l01Is.l1 k (i:Int) n l=some ((l.drop i).all (closedAt l)):=by
 have hs:=asc_of_good n l hg
 have hF:=full_range n hn
 intro d
 induction d with
 |zero=>
  intro i k hd hi hk
  obtain ⟨k,rfl⟩:∃ m,k=m+1:=⟨k - 1,by omega⟩
  obtain rfl:i=l.length:=by omega
  simp only [spec_l01Is.l1]
  rw[if_neg (by omega)]
  simp
 |succ d ih=>
  intro i k hd hi hk
  obtain ⟨k,rfl⟩:∃ m,k=m+1:=⟨k - 1,by omega⟩
  simp only [spec_l01Is.l1]
  have hil:i<l.length:=by omega
  have hgi:=hg i hil hil
  have hmul:(d+1+1)*(l.length+2)=(d+1)*(l.length+2)+(l.length+2):=by rw[Nat.add_mul];omega
  rw[if_pos (by omega),if_pos (by omega),rd_nat l i hil,specBelow_is l[i] (by omega) (by omega) k (by omega)]
  simp only [Option.bind_some]
  have:=specIs_l2 n l hl hs (i:Int) (bords l[i]) (bords_length _) (9*d+(d+1)*(l.length+2)+71) ((l.drop (i+1)).all (closedAt l))
   (fun k hk=>by rw[w64 _ (by omega) (by omega),nat_succ];exact ih (i+1) k (by omega) (by omega) (by omega)) (bords l[i]).length 0 k (by omega) (by omega) (by have:=bords_length l[i];omega)
  rw[show ((0:Nat):Int)=0 from rfl] at this
  rw[this,List.drop_eq_getElem_cons hil,List.all_cons,List.drop_zero]
  rfl
theorem specIs_l0 (n:Int) (l:List Int) (hl:l.length≤2097152) (hn:1≤n∧n≤6):∀(d i k:Nat),l.length - i=d→i≤l.length→(∀ j,j<i→goodAt n l j) →
  d+9*l.length+(l.length+1)*(l.length+2)+72<k→spec_l01Is.l0 k (i:Int) n l=some (isC n l):=by
 have hF:=full_range n hn
 intro d
 induction d with
 |zero=>
  intro i k hd hi hg hk
  obtain ⟨k,rfl⟩:∃ m,k=m+1:=⟨k - 1,by omega⟩
  obtain rfl:i=l.length:=by omega
  simp only [spec_l01Is.l0]
  rw[if_neg (by omega)]
  have:=specIs_l1 n l hl hn hg l.length 0 k (by omega) (by omega) (by omega)
  rw[show ((0:Nat):Int)=0 from rfl] at this
  rw[this,List.drop_zero]
  have h2:=(good_iff n l).2 hg
  simp [isC,hn,h2]
 |succ d ih=>
  intro i k hd hi hg hk
  obtain ⟨k,rfl⟩:∃ m,k=m+1:=⟨k - 1,by omega⟩
  simp only [spec_l01Is.l0]
  have hil:i<l.length:=by omega
  have hbad:¬ goodAt n l i→isC n l=false:=fun hb=>by
   unfold isC
   rw[rangeAsc_false n l i hil hb]
   simp
  rw[if_pos (by omega),if_pos (by omega),specAll_is n (by omega) (by omega)]
  simp only [Option.bind_some]
  rw[rd_nat l i hil,specIn_is,w64 ((i:Int)+1) (by omega) (by omega),nat_succ]
  simp only [Option.bind_some]
  by_cases hin:1≤l[i]∧l[i]≤fullOf n
  ·simp only [hin,and_self,decide_true,if_true]
   by_cases hi0:i=0
   ·subst hi0
    rw[if_neg (by omega)]
    exact ih 1 k (by omega) (by omega) (fun j hj=>(show j=0 by omega) ▸ (fun h=>⟨hin.1,hin.2,fun h0=>absurd h0 (Nat.lt_irrefl 0)⟩)) (by omega)
   ·have e1:((i:Int) - 1)=((i - 1:Nat):Int):=by omega
    rw[if_pos (by omega),w64 _ (by omega) (by omega),e1,if_pos (by omega),if_pos (by omega),rd_nat l (i - 1) (by omega)]
    by_cases hle:l[i]≤l[i - 1]
    ·rw[if_pos hle,hbad (fun h=>by have:=(h hil).2.2 (by omega);omega)]
    ·rw[if_neg hle]
     exact ih (i+1) k (by omega) (by omega) (fun j hj=>by
      rcases Nat.lt_or_ge j i with h|h
      ·exact hg j h
      ·obtain rfl:j=i:=by omega
       exact fun _=>⟨hin.1,hin.2,fun _=>by omega⟩) (by omega)
  ·simp only [hin,decide_false,Bool.false_eq_true,if_false]
   rw[hbad (fun h=>hin ⟨(h hil).1,(h hil).2.1⟩)]
def isK (l:List Int):Nat:=10*l.length+(l.length+1)*(l.length+2)+73
theorem specIs_is (n:Int) (l:List Int) (hl:l.length≤2097152) (k:Nat) (hk:isK l≤k):spec_l01Is.f k n l=some (isC n l):=by
 unfold isK at hk
 unfold spec_l01Is.f
 rw[specIn_is]
 simp only [Option.bind_some]
 by_cases hn:1≤n∧n≤6
 ·simp only [hn,and_self,decide_true,if_true]
  have:=specIs_l0 n l hl hn l.length 0 k (by omega) (by omega) (fun j hj=>absurd hj (Nat.not_lt_zero _)) (by omega)
  simpa using this
 ·simp only [hn,decide_false,Bool.false_eq_true,if_false]
  simp [isC,hn]
end Go.Proofs.YtbnnamejnjfkjaaGreat.K
end

section
namespace Go.Proofs.YtbnnamejnjfkjaaGreat.K
open Go.RowKit Go.Shelf Go.Proofs.YtbnnamejnjfkjaaGreat.Q Go.Proofs.YtbnnamejnjfkjaaGreatW.PrintWords Go.Proofs.YtbnnamejnjfkjaaGreatW.PrintLast Go.Proofs.YtbnnamejnjfkjaaGreatW.PrintMore
set_option linter.unusedVariables false
set_option linter.unusedSimpArgs false
def inB (f g:Int):Bool:=Go.bits .andNot .i64 f g == 0
end Go.Proofs.YtbnnamejnjfkjaaGreat.K
end

section
namespace Go.Proofs.YtbnnamejnjfkjaaGreat.K
open Go.RowKit Go.Shelf Go.Proofs.YtbnnamejnjfkjaaGreatW.PrintWords Go.Proofs.YtbnnamejnjfkjaaGreatW.PrintLast Go.Proofs.YtbnnamejnjfkjaaGreatW.PrintMore
set_option linter.unusedVariables false
set_option linter.unusedSimpArgs false
theorem or_64:∀ a b:Fin 64,Go.bits .or .i64 (a.val:Int) (b.val:Int)=Go.bits .or .i64 (b.val:Int) (a.val:Int):=by decide +kernel
theorem small2 {P:Int→Int→Prop} (h:∀ a b:Fin 64,P (a.val:Int) (b.val:Int)) (x y:Int) (hx:0≤x∧x≤63) (hy:0≤y∧y≤63):P x y:=by
 obtain ⟨m,rfl⟩:=Int.eq_ofNat_of_zero_le hx.1
 obtain ⟨k,rfl⟩:=Int.eq_ofNat_of_zero_le hy.1
 exact h ⟨m,by omega⟩ ⟨k,by omega⟩
theorem or_comm' (x y:Int) (hx:0≤x∧x≤63) (hy:0≤y∧y≤63):Go.bits .or .i64 x y=Go.bits .or .i64 y x:=small2 (P:=fun x y=>Go.bits .or .i64 x y=Go.bits .or .i64 y x) or_64 x y hx hy
end Go.Proofs.YtbnnamejnjfkjaaGreat.K
end

section
namespace Go.Proofs.YtbnnamejnjfkjaaGreat.K
open Go.RowKit Go.Shelf Go.Proofs.YtbnnamejnjfkjaaGreat.Q Go.Proofs.YtbnnamejnjfkjaaGreatW.PrintWords Go.Proofs.YtbnnamejnjfkjaaGreatW.PrintLast Go.Proofs.YtbnnamejnjfkjaaGreatW.PrintMore
set_option linter.unusedVariables false
set_option linter.unusedSimpArgs false
theorem up_64:∀ f g:Fin 64,f.val≠0→f≠g→inB (f.val:Int) (g.val:Int)=true→onesI (f.val:Int)<onesI (g.val:Int)∧(bords (g.val:Int)).any (fun h=>inB (f.val:Int) h && decide (onesI h+1=onesI (g.val:Int)∧(h=(f.val:Int)∨onesI (f.val:Int)<onesI h)))=true:=by decide +kernel
theorem up_is (f g:Int) (hf:1≤f∧f≤63) (hg:0≤g∧g≤63) (hne:f≠g) (hi:inB f g=true):onesI f<onesI g∧∃ h ∈ bords g,inB f h=true∧onesI h+1=onesI g∧(h=f∨onesI f<onesI h):=by
 obtain ⟨m,rfl⟩:=Int.eq_ofNat_of_zero_le (show 0≤f by omega)
 obtain ⟨k,rfl⟩:=Int.eq_ofNat_of_zero_le hg.1
 have:=up_64 ⟨m,by omega⟩ ⟨k,by omega⟩ (by show m≠0;omega) (fun e=>hne (by injection e with e;rw[e])) hi
 refine⟨this.1,?_⟩
 obtain ⟨h,h1,h2⟩:=List.any_eq_true.1 this.2
 simp only [Bool.and_eq_true,decide_eq_true_eq] at h2
 exact⟨h,h1,h2.1,h2.2.1,h2.2.2⟩
theorem closed_mem {n:Int} {l:List Int} (hi:isC n l=true) (g:Int) (hg:g ∈ l) (h:Int) (hh:h ∈ bords g):h ∈ l:=by
 obtain ⟨hn,hs,hr,h63⟩:=isC_faces hi
 have h1:=((isC_iff n l).1 hi).2.2 g hg
 unfold closedAt at h1
 rw[List.all_eq_true] at h1
 have h2:=h1 h hh
 rw[has_asc l h (by omega) hs] at h2
 exact of_decide_eq_true h2
theorem sub_mem {n:Int} {l:List Int} (hi:isC n l=true) (h:Int) (hh:1≤h∧h≤63):∀(d:Nat) (g:Int),g ∈ l→inB h g=true→onesI g≤onesI h+d→h ∈ l:=by
 obtain ⟨hn,hs,hr,h63⟩:=isC_faces hi
 intro d
 induction d with
 |zero=>
  intro g hg hin hle
  have hgr:=hr g hg
  by_cases e:h=g
  ·rw[e];exact hg
  ·have:=(up_is h g hh (by omega) e hin).1
   omega
 |succ d ih=>
  intro g hg hin hle
  have hgr:=hr g hg
  by_cases e:h=g
  ·rw[e];exact hg
  ·obtain ⟨h1,x,hx,h2,h3,h4⟩:=up_is h g hh (by omega) e hin
   exact ih x (closed_mem hi g hg x hx) h2 (by omega)
theorem sub_in {n:Int} {l:List Int} (hi:isC n l=true) (h g:Int) (hh:1≤h∧h≤63) (hg:g ∈ l) (hin:inB h g=true):h ∈ l:=by
 have h1:0≤onesI h:=by unfold onesI;omega
 exact sub_mem hi h hh (onesI g).toNat g hg hin (by omega)
def bt (f:Int) (v:Nat):Bool:=f.toNat.testBit v
theorem inB_bt_64:∀ a b:Fin 64,inB (a.val:Int) (b.val:Int)=(List.range 6).all (fun v=>!(bt (a.val:Int) v) ||bt (b.val:Int) v):=by decide +kernel
theorem and_bt_64:∀ a b:Fin 64,decide (Go.bits .and .i64 (a.val:Int) (b.val:Int)=0)=(List.range 6).all (fun v=>!(bt (a.val:Int) v && bt (b.val:Int) v)):=by decide +kernel
theorem or_bt_64:∀ a b:Fin 64,((List.range 6).all (fun v=>bt (Go.bits .or .i64 (a.val:Int) (b.val:Int)) v == (bt (a.val:Int) v ||bt (b.val:Int) v)) && decide ((a.val:Int)≤Go.bits .or .i64 (a.val:Int) (b.val:Int)∧Go.bits .or .i64 (a.val:Int) (b.val:Int)≤63))=true:=by decide +kernel
theorem inB_iff (a b:Int) (ha:0≤a∧a≤63) (hb:0≤b∧b≤63):inB a b=true↔∀ v,v<6→bt a v=true→bt b v=true:=by
 rw[small2 (P:=fun a b=>inB a b=(List.range 6).all (fun v=>!(bt a v) ||bt b v)) inB_bt_64 a b ha hb,List.all_eq_true]
 constructor
 ·intro h v hv h1
  have:=h v (List.mem_range.2 hv)
  simpa [h1] using this
 ·intro h v hv
  have:=h v (List.mem_range.1 hv)
  cases h1:bt a v
  ·rfl
  ·simp [this h1]
theorem and_iff (a b:Int) (ha:0≤a∧a≤63) (hb:0≤b∧b≤63):¬ Go.bits .and .i64 a b=0↔∃ v,v<6∧bt a v=true∧bt b v=true:=by
 have h:=small2 (P:=fun a b=>decide (Go.bits .and .i64 a b=0)=(List.range 6).all (fun v=>!(bt a v && bt b v))) and_bt_64 a b ha hb
 constructor
 ·intro h1
  rw[decide_eq_false h1] at h
  have h2:=h.symm
  rw[List.all_eq_false] at h2
  obtain ⟨v,hv,h3⟩:=h2
  simp at h3
  exact⟨v,List.mem_range.1 hv,h3⟩
 ·rintro ⟨v,hv,h1,h2⟩ h3
  rw[decide_eq_true h3] at h
  have h4:=List.all_eq_true.1 h.symm v (List.mem_range.2 hv)
  simp [h1,h2] at h4
theorem or_bt (a b:Int) (ha:0≤a∧a≤63) (hb:0≤b∧b≤63):(∀ v,v<6→bt (Go.bits .or .i64 a b) v=(bt a v ||bt b v))∧a≤Go.bits .or .i64 a b∧Go.bits .or .i64 a b≤63:=by
 have h:=small2 (P:=fun a b=>((List.range 6).all (fun v=>bt (Go.bits .or .i64 a b) v == (bt a v ||bt b v)) && decide (a≤Go.bits .or .i64 a b∧Go.bits .or .i64 a b≤63))=true) or_bt_64 a b ha hb
 rw[Bool.and_eq_true,List.all_eq_true,decide_eq_true_eq] at h
 exact⟨fun v hv=>by simpa using h.1 v (List.mem_range.2 hv),h.2⟩
theorem inB_refl (a:Int) (ha:0≤a∧a≤63):inB a a=true:=(inB_iff a a ha ha).2 fun _ _ h=>h
theorem inB_trans (a b c:Int) (ha:0≤a∧a≤63) (hb:0≤b∧b≤63) (hc:0≤c∧c≤63) (h1:inB a b=true) (h2:inB b c=true):inB a c=true:=
 (inB_iff a c ha hc).2 fun v hv h=>(inB_iff b c hb hc).1 h2 v hv ((inB_iff a b ha hb).1 h1 v hv h)
theorem inB_or (a b:Int) (ha:0≤a∧a≤63) (hb:0≤b∧b≤63):inB a (Go.bits .or .i64 a b)=true:=by
 obtain ⟨h1,h2,h3⟩:=or_bt a b ha hb
 exact(inB_iff a _ ha ⟨by omega,h3⟩).2 fun v hv h=>by rw[h1 v hv,h];rfl
theorem or_inB (a b c:Int) (ha:0≤a∧a≤63) (hb:0≤b∧b≤63) (hc:0≤c∧c≤63) (h1:inB a c=true) (h2:inB b c=true):inB (Go.bits .or .i64 a b) c=true:=by
 obtain ⟨h3,h4,h5⟩:=or_bt a b ha hb
 refine(inB_iff _ c ⟨by omega,h5⟩ hc).2 fun v hv h=>?_
 rw[h3 v hv,Bool.or_eq_true] at h
 rcases h with h|h
 ·exact(inB_iff a c ha hc).1 h1 v hv h
 ·exact(inB_iff b c hb hc).1 h2 v hv h
theorem and_mono (e a c:Int) (he:0≤e∧e≤63) (ha:0≤a∧a≤63) (hc:0≤c∧c≤63) (h1:inB a c=true) (h2:¬ Go.bits .and .i64 e a=0):¬ Go.bits .and .i64 e c=0:=by
 obtain ⟨v,hv,h3,h4⟩:=(and_iff e a he ha).1 h2
 exact(and_iff e c he hc).2 ⟨v,hv,h3,(inB_iff a c ha hc).1 h1 v hv h4⟩
theorem or_lt (a e:Int) (ha:0≤a∧a≤63) (he:0≤e∧e≤63) (h:inB e a=false):a<Go.bits .or .i64 a e:=by
 obtain ⟨h3,h4,h5⟩:=or_bt a e ha he
 rcases Int.lt_or_eq_of_le h4 with h6|h6
 ·exact h6
 ·exfalso
  have:inB e a=true:=(inB_iff e a he ha).2 fun v hv h7=>by
   rw[h6,h3 v hv,h7];simp
  rw[this] at h
  cases h
theorem pow_bt:∀ u v:Fin 6,bt ((2:Int) ^ v.val) u.val=decide (u=v)∧1≤(2:Int) ^ v.val∧(2:Int) ^ v.val≤32:=by decide +kernel
theorem bt_pow (u v:Nat) (hu:u<6) (hv:v<6):bt ((2:Int) ^ v) u=decide (u=v):=by
 rw[(pow_bt ⟨u,hu⟩ ⟨v,hv⟩).1]
 exact decide_eq_decide.2 ⟨fun e=>by injection e,fun e=>by subst e;rfl⟩
theorem pow_range (v:Nat) (hv:v<6):1≤(2:Int) ^ v∧(2:Int) ^ v≤32:=(pow_bt ⟨v,hv⟩ ⟨v,hv⟩).2
end Go.Proofs.YtbnnamejnjfkjaaGreat.K
end

section
namespace Go.Proofs.YtbnnamejnjfkjaaGreat.K
open Go.RowKit Go.Shelf Go.Proofs.YtbnnamejnjfkjaaGreatW.PrintWords Go.Proofs.YtbnnamejnjfkjaaGreatW.PrintLast Go.Proofs.YtbnnamejnjfkjaaGreatW.PrintMore
set_option linter.unusedVariables false
set_option linter.unusedSimpArgs false
theorem place_is (cs:List Int) (g:Int) (hl:cs.length≤63) (hs:Asc cs) (hg:g ∈ cs):∃ h:place cs g<cs.length,cs[place cs g]=g∧(∀ q (hq:q<cs.length),q<place cs g→cs[q]<g)∧(bsOf cs g).1=(place cs g:Int):=by
 obtain ⟨m,h1,h2,h3,h4,h5⟩:=bs_asc cs g (by omega) hs
 obtain ⟨j,hj,hjg⟩:=List.mem_iff_getElem.1 hg
 have hp:place cs g=m:=by unfold place;rw[h1];simp
 have hmj:m≤j:=by
  rcases Nat.lt_or_ge j m with h|h
  ·have:=h3 j hj h
   omega
  ·exact h
 have hmj2:m=j:=by
  rcases Nat.lt_or_eq_of_le hmj with h|h
  ·have h6:=List.pairwise_iff_getElem.1 hs m j (by omega) hj h
   have h7:=h4 m (by omega) (Nat.le_refl _)
   omega
  ·exact h
 subst hmj2
 exact⟨by rw[hp];exact hj,by simp only [hp];exact hjg,fun q hq hlt=>h3 q hq (by omega),by rw[hp];exact h1⟩
theorem bords_dim_64:∀ m:Fin 64,(bords (m.val:Int)).all (fun g=>decide (dimI g=dimI (m.val:Int) - 1∧1≤g∧g≤63))=true:=by decide +kernel
theorem bords_dim (f:Int) (h0:0≤f) (h1:f≤63) (g:Int) (hg:g ∈ bords f):dimI g=dimI f - 1∧1≤g∧g≤63:=by
 obtain ⟨m,rfl⟩:=Int.eq_ofNat_of_zero_le h0
 exact of_decide_eq_true (List.all_eq_true.1 (bords_dim_64 ⟨m,by omega⟩) g hg)
theorem bords_of {n:Int} {l:List Int} (hi:isC n l=true) (d f:Int) (hf:f ∈ ofL l d) (g:Int) (hg:g ∈ bords f):g ∈ ofL l (d - 1):=by
 obtain ⟨hf1,hf2⟩:=List.mem_filter.1 hf
 have hr:=isC_of hi f hf1
 have h1:=bords_dim f hr.1 hr.2 g hg
 unfold ofL
 rw[List.mem_filter]
 have h2:dimI f=d:=by simpa [bne] using hf2
 exact⟨closed_mem hi f hf1 g hg,by simp only [h1.1,h2];simp⟩
theorem of_asc {n:Int} {l:List Int} (hi:isC n l=true) (d:Int):Asc (ofL l d):=(isC_faces hi).2.1.filter _
theorem sign_64:∀ m:Fin 64,(signsL (m.val:Int)).all (fun s=>decide (s=1∨s = -1))=true:=by decide +kernel
theorem sign_is (f:Int) (h0:0≤f) (h1:f≤63) (s:Int) (hs:s ∈ signsL f):s=1∨s = -1:=by
 obtain ⟨m,rfl⟩:=Int.eq_ofNat_of_zero_le h0
 exact of_decide_eq_true (List.all_eq_true.1 (sign_64 ⟨m,by omega⟩) s hs)
end Go.Proofs.YtbnnamejnjfkjaaGreat.K
end

section
namespace Go.Proofs.YtbnnamejnjfkjaaGreat.K
open Go.RowKit Go.Shelf Go.Proofs.YtbnnamejnjfkjaaGreatW.PrintWords Go.Proofs.YtbnnamejnjfkjaaGreatW.PrintLast Go.Proofs.YtbnnamejnjfkjaaGreatW.PrintMore
set_option linter.unusedVariables false
set_option linter.unusedSimpArgs false
def incT (bs sg:List Int) (kk:Nat) (v:Int):Int:=((List.range kk).map fun k=>if bs.getD k 0=v then sg.getD k 0 else 0).sum
def inc (F f:Int):Int:=incT (bords F) (signsL F) (bords F).length f
theorem incT_succ (bs sg:List Int) (kk:Nat) (v:Int):incT bs sg (kk+1) v=incT bs sg kk v+(if bs.getD kk 0=v then sg.getD kk 0 else 0):=by
 unfold incT
 rw[List.range_succ,List.map_append,List.sum_append]
 simp
theorem incT_zero (bs sg:List Int) (v:Int):∀ kk,(∀ k,k<kk→bs.getD k 0≠v)→incT bs sg kk v=0:=by
 intro kk
 induction kk with
 |zero=>intro _;rfl
 |succ kk ih=>
  intro h
  rw[incT_succ,ih (fun k hk=>h k (by omega)),if_neg (h kk (by omega))]
  rfl
theorem fill_inc (cs:List Int) (p:Int) (hp:2≤p) (bs sg:List Int) (hl:cs.length≤63) (hs:Asc cs) (hb:∀ g ∈ bs,g ∈ cs) (hn:bs.Nodup) (i:Nat) (hi:i<cs.length):∀ kk,kk≤bs.length→((fillR cs p bs sg kk).getD i 0 - incT bs sg kk cs[i]) % p=0:=by
 intro kk
 induction kk with
 |zero=>
  intro _
  have:(fillR cs p bs sg 0).getD i 0=0:=by simp [fillR,hi]
  rw[this]
  simp [incT]
 |succ kk ih=>
  intro hk
  have h:=ih (by omega)
  rw[fillR_succ,incT_succ]
  have hbk:bs.getD kk 0=bs[kk]'(by omega):=by simp [show kk<bs.length by omega]
  have hm:bs.getD kk 0 ∈ cs:=by rw[hbk];exact hb _ (List.getElem_mem _)
  obtain ⟨hpl,he,hlt,_⟩:=place_is cs (bs.getD kk 0) hl hs hm
  have hlen:=(fillR_good cs p hp bs sg kk).1
  by_cases e:cs[i]=bs.getD kk 0
  ·have hpi:place cs (bs.getD kk 0)=i:=by
    rcases Nat.lt_trichotomy (place cs (bs.getD kk 0)) i with h1|h1|h1
    ·have:=List.pairwise_iff_getElem.1 hs _ i hpl hi h1
     omega
    ·exact h1
    ·have:=hlt i hi h1
     omega
   have hz:incT bs sg kk cs[i]=0:=incT_zero bs sg _ kk (fun k hk2 e2=>by
    rw[e,hbk] at e2
    have hk3:bs.getD k 0=bs[k]'(by omega):=by simp [show k<bs.length by omega]
    rw[hk3] at e2
    have:=(List.getElem_inj hn).1 e2
    omega)
   rw[hpi,hz,if_pos e.symm]
   have:((fillR cs p bs sg kk).set i ((sg.getD kk 0+p) % p)).getD i 0=(sg.getD kk 0+p) % p:=by simp [hlen,hi]
   rw[this,Int.zero_add,Int.sub_emod,Int.emod_emod,← Int.sub_emod]
   have e3:sg.getD kk 0+p - sg.getD kk 0=p:=by omega
   rw[e3]
   exact Int.emod_self
  ·have hpi:place cs (bs.getD kk 0)≠i:=fun e2=>e (by subst e2;exact he)
   rw[if_neg (fun e2=>e e2.symm),Int.add_zero]
   have:((fillR cs p bs sg kk).set (place cs (bs.getD kk 0)) ((sg.getD kk 0+p) % p)).getD i 0=(fillR cs p bs sg kk).getD i 0:=by
    generalize place cs (bs.getD kk 0)=P at hpi
    rw[List.getD_eq_getElem?_getD,List.getElem?_set_ne hpi,List.getD_eq_getElem?_getD]
   rw[this]
   exact h
theorem bnod_64:∀ m:Fin 64,(bords (m.val:Int)).Nodup:=by decide +kernel
theorem row_inc {n:Int} {l:List Int} (hi:isC n l=true) (d p:Int) (hp:2≤p) (F:Int) (hF:F ∈ ofL l d) (i:Nat) (h:i<(ofL l (d - 1)).length):(toV (rowR (ofL l (d - 1)) p F) i - inc F (ofL l (d - 1))[i]) % p=0:=by
 have hI:=isC_faces hi
 have hr:=hI.2.2.1 F (List.mem_filter.1 hF).1
 obtain ⟨m,rfl⟩:=Int.eq_ofNat_of_zero_le (show 0≤F by omega)
 have hl:(ofL l (d - 1)).length≤63:=Nat.le_trans (of_length l (d - 1)) hI.2.2.2
 exact fill_inc _ p hp _ _ hl (of_asc hi (d - 1)) (fun g hg=>bords_of hi d _ hF g hg) (bnod_64 ⟨m,by omega⟩) i h _ (Nat.le_refl _)
theorem inc_out (F f:Int) (h:¬ f ∈ bords F):inc F f=0:=incT_zero _ _ _ _ (fun k hk e=>h (by
 have:(bords F).getD k 0=(bords F)[k]:=by simp [hk]
 rw[this] at e
 rw[← e]
 exact List.getElem_mem _))
theorem perm_sum {a b:List Int} (h:a.Perm b) (f:Int→Int):(a.map f).sum=(b.map f).sum:=by
 induction h with
 |nil=>rfl
 |cons x _ ih=>simp [ih]
 |swap x y l=>simp;omega
 |trans _ _ ih1 ih2=>exact ih1.trans ih2
theorem filter_sum (q:Int→Bool) (f:Int→Int):∀ l:List Int,(∀ x ∈ l,q x=false→f x=0)→(l.map f).sum=((l.filter q).map f).sum
 |[],_=>rfl
 |x :: l,h=>by
  have ih:=filter_sum q f l (fun y hy=>h y (List.mem_cons_of_mem _ hy))
  cases hq:q x with
  |true=>simp [hq,ih]
  |false=>simp [hq,ih,h x List.mem_cons_self hq]
theorem sub_sum {L S:List Int} (hL:L.Nodup) (hS:S.Nodup) (hs:∀ x ∈ S,x ∈ L) (f:Int→Int) (hz:∀ x ∈ L,¬ x ∈ S→f x=0):(L.map f).sum=(S.map f).sum:=by
 rw[filter_sum (fun x=>decide (x ∈ S)) f L (fun x hx h=>hz x hx (of_decide_eq_false h))]
 refine perm_sum ((List.perm_ext_iff_of_nodup (hL.filter _) hS).2 (fun x=>?_)) f
 rw[List.mem_filter,decide_eq_true_eq]
 exact⟨fun h=>h.2,fun h=>⟨hs x h,h⟩⟩
theorem app_sum {p:Int} (m:Nat) (v:VV) (R:Int→List Int) (x y:Int→Int):∀(cs:List Int) (o:Nat),(∀(j:Nat) (hj:j<cs.length),(v (o+j) - x cs[j]) % p=0)→(∀ f ∈ cs,(toV (R f) m - y f) % p=0)→(appO ((cs.map R).map toV) o v m - (cs.map fun f=>x f*y f).sum) % p=0
 |[],o,_,_=>by simp [appO]
 |f :: cs,o,h1,h2=>by
  simp only [List.map_cons,appO,List.sum_cons]
  have h3:=h1 0 (by simp)
  simp only [List.getElem_cons_zero,Nat.add_zero] at h3
  have h4:=h2 f List.mem_cons_self
  have h5:=app_sum m v R x y cs (o+1) (fun j hj=>by have:=h1 (j+1) (by simpa using hj);rw[show o+1+j=o+(j+1) by omega];exact this) (fun g hg=>h2 g (List.mem_cons_of_mem _ hg))
  have e:v o*toV (R f) m+appO ((cs.map R).map toV) (o+1) v m - (x f*y f+(cs.map fun f=>x f*y f).sum)=((v o - x f)*toV (R f) m+x f*(toV (R f) m - y f))+(appO ((cs.map R).map toV) (o+1) v m - (cs.map fun f=>x f*y f).sum):=by
   simp only [Int.sub_mul,Int.mul_sub]
   omega
  have h6:((v o - x f)*toV (R f) m) % p=0:=by rw[Int.mul_emod,h3];simp
  have h7:(x f*(toV (R f) m - y f)) % p=0:=by rw[Int.mul_emod,h4];simp
  have h8:((v o - x f)*toV (R f) m+x f*(toV (R f) m - y f)) % p=0:=by rw[Int.add_emod,h6,h7];simp
  rw[e,Int.add_emod,h5,h8]
  simp
theorem dd_64:∀ F g:Fin 64,((bords (F.val:Int)).map fun f=>inc (F.val:Int) f*inc f (g.val:Int)).sum=0:=by decide +kernel
theorem indep_congr {p:Int} {N:Nat} {vs ws:List VV} (hl:vs.length=ws.length) (h:∀(i:Nat) (h:i<vs.length) (h':i<ws.length) (n:Nat),n<N→(vs[i] n - ws[i] n) % p=0) (hi:Indep p N vs):Indep p N ws:=fun cs hc hz c hm=>hi cs (by omega) (fun n hn=>by
 have h1:=comb_congr n cs vs ws hl (fun i h1 h2=>h i h1 h2 n hn)
 have e:comb cs vs n=(comb cs vs n - comb cs ws n)+comb cs ws n:=by omega
 rw[e,Int.add_emod,h1,hz n hn]
 simp) c hm
theorem app_eq (u:List Int) (m:Nat):∀(B:List VV) (o:Nat),u.length=o+B.length→appO B o (fun i=>u.getD i 0) m=comb (u.drop o) B m
 |[],o,h=>by
  rw[List.drop_of_length_le (by simp at h;omega)]
  rfl
 |b :: B,o,h=>by
  simp only [List.length_cons] at h
  rw[List.drop_eq_getElem_cons (by omega)]
  simp only [appO,comb]
  rw[app_eq u m B (o+1) (by omega)]
  congr 2
  simp [show o<u.length by omega]
theorem rank_le {p:Int} (hp:2≤p∧p≤3) {m1 m2:Nat} {A B:List (List Int)} (hA:Good p m1 A) (hB:Good p m2 B) (hm:B.length=m1) (hz:∀ row ∈ A,∀ m,m<m2→appO (B.map toV) 0 (toV row) m % p=0):rankM p m1 A+rankM p m2 B≤m1:=by
 obtain ⟨EA,a1,a2,a3,_⟩:=rank_basis hp hA
 obtain ⟨EB,b1,b2,b3,b4_⟩:=rank_basis hp hB
 have hl:(B.map toV).length=m1:=by rw[List.length_map];exact hm
 obtain ⟨us,hu,huc⟩:∃ us:List (List Int),us.length=EB.length∧∀(i:Nat) (h:i<EB.length) (h':i<us.length),us[i].length=(B.map toV).length∧∀ n,n<m2→(EB[i] n - comb us[i] (B.map toV) n) % p=0:=by
  clear b1 b2 b4_
  induction EB with
  |nil=>exact⟨[],rfl,fun i h=>by cases h⟩
  |cons v vs ih=>
   obtain ⟨us,h1,h2⟩:=ih (fun w hw=>b3 w (List.mem_cons_of_mem _ hw))
   obtain ⟨a,ha,hb⟩:=b3 v List.mem_cons_self
   refine⟨a :: us,by simp [h1],fun i h h'=>?_⟩
   cases i with
   |zero=>exact⟨ha,hb⟩
   |succ i=>exact h2 i (by simpa using h) (by simpa using h')
 have hk:=ker_le hp (B:=B.map toV) (vs:=EA) (us:=us.map fun u=>fun i=>u.getD i 0) (K:=m2) (by rw[hl];exact a2) (fun v hv m hm2=>?_) ?_
 ·rw[List.length_map,hl] at hk
  omega
 ·obtain ⟨a,ha,hac⟩:=a3 v hv
  have h1:=app_zero (p:=p) m (fun n=>v n - comb a (A.map toV) n) (B.map toV) 0 (fun n hn=>hac n (by omega))
  have h2:appO (B.map toV) 0 (fun n=>v n - comb a (A.map toV) n) m=appO (B.map toV) 0 v m - appO (B.map toV) 0 (comb a (A.map toV)) m:=by
   have h3:=app_lin (-1) (comb a (A.map toV)) v (B.map toV) 0 m
   have e:(fun n=> -1*comb a (A.map toV) n+v n)=fun n=>v n - comb a (A.map toV) n:=by funext n;omega
   rw[e] at h3
   rw[h3]
   omega
  rw[h2,app_comb] at h1
  have h4:=comb_zero a ((A.map toV).map (appO (B.map toV) 0)) p m (fun w hw=>by
   obtain ⟨x,hx,rfl⟩:=List.mem_map.1 hw
   obtain ⟨row,hr,rfl⟩:=List.mem_map.1 hx
   exact hz row hr m hm2)
  have e:appO (B.map toV) 0 v m=(appO (B.map toV) 0 v m - comb a ((A.map toV).map (appO (B.map toV) 0)) m)+comb a ((A.map toV).map (appO (B.map toV) 0)) m:=by omega
  rw[e,Int.add_emod,h1,h4]
  simp
 ·refine indep_congr (by rw[List.length_map,List.length_map];exact hu.symm) (fun i h h' n hn=>?_) b2
  rw[List.length_map,List.length_map] at h'
  rw[List.getElem_map,List.getElem_map]
  have:=huc i h h'
  rw[app_eq us[i] n (B.map toV) 0 (by rw[this.1];omega),List.drop_zero]
  exact this.2 n hn
theorem asc_nod {l:List Int} (h:Asc l):l.Nodup:=List.Pairwise.imp (fun h e=>by omega) h
theorem two_ranks {n:Int} {l:List Int} (hi:isC n l=true) (d p:Int) (hp:2≤p∧p≤3):rankL l d p+rankL l (d+1) p≤(ofL l d).length:=by
 have e1:d+1 - 1=d:=by omega
 have hA:=rowsL_good l (d+1) p hp.1
 have hB:=rowsL_good l d p hp.1
 rw[e1] at hA
 have hI:=isC_faces hi
 have:=rank_le hp hA hB (by simp [rowsL]) (fun row hr m hm=>?_)
 ·unfold rankL
  rw[e1]
  omega
 ·obtain ⟨F,hF,rfl⟩:=List.mem_map.1 hr
  rw[e1]
  have h1:=app_sum (p:=p) m (toV (rowR (ofL l d) p F)) (rowR (ofL l (d - 1)) p) (inc F) (fun f=>inc f ((ofL l (d - 1))[m])) (ofL l d) 0 (fun j hj=>by
   have:=row_inc hi (d+1) p hp.1 F hF j (by rw[e1];exact hj)
   simp only [e1] at this
   rw[Nat.zero_add]
   exact this) (fun f hf=>row_inc hi d p hp.1 f hf m hm)
  have hFr:=hI.2.2.1 F (List.mem_filter.1 hF).1
  have hgr:=hI.2.2.1 _ (List.mem_filter.1 (List.getElem_mem hm)).1
  have hbo:∀ f ∈ bords F,f ∈ ofL l d:=fun f hf=>by
   have:=bords_of hi (d+1) F hF f hf
   rw[e1] at this
   exact this
  obtain ⟨M,rfl⟩:=Int.eq_ofNat_of_zero_le (show 0≤F by omega)
  obtain ⟨G,hG⟩:=Int.eq_ofNat_of_zero_le (show 0≤(ofL l (d - 1))[m] by omega)
  have h2:=sub_sum (asc_nod (of_asc hi d)) (bnod_64 ⟨M,by omega⟩) hbo (fun f=>inc (M:Int) f*inc f ((ofL l (d - 1))[m])) (fun f _ hf=>by rw[inc_out _ _ hf,Int.zero_mul])
  have h3:=dd_64 ⟨M,by omega⟩ ⟨G,by omega⟩
  simp only at h3
  rw[← hG] at h3
  rw[h2,h3,Int.sub_zero] at h1
  exact h1
end Go.Proofs.YtbnnamejnjfkjaaGreat.K
end

section
namespace Go.Proofs.YtbnnamejnjfkjaaGreat.K
open Go.RowKit Go.Shelf Go.Proofs.YtbnnamejnjfkjaaGreatW.PrintWords Go.Proofs.YtbnnamejnjfkjaaGreatW.PrintLast Go.Proofs.YtbnnamejnjfkjaaGreatW.PrintMore
set_option linter.unusedVariables false
set_option linter.unusedSimpArgs false
theorem below_setCells {base:Nat} {w:World} {G:Nat} (hb:base≤G):∀(vs:List Value) (i:Nat) (W:World),Below base w W→Below base w (W.setCells G i vs)
 |[],_,_,h=>h
 |v :: r,i,W,h=>below_setCells hb r (i+1) _ (Below.setCell h hb v)
theorem Ri.clear {base:Nat} {ok:Nat→Prop} {G n c:Nat}:∀(m i:Nat) (W:World) (xs:List Int),Ki.R 2 W base ok (.slice (some ⟨G,0,none⟩) n c) xs →
  ∃ ys:List Int,ys.take i=xs.take i∧ys.length=xs.length∧Ki.R 2 (W.setCells G i (List.replicate m (I 0))) base ok (.slice (some ⟨G,0,none⟩) n c) ys
 |0,i,W,xs,h=>⟨xs,rfl,rfl,h⟩
 |m+1,i,W,xs,h=>by
  have h1:=Kd.R_putn h (i:Int) 0
  rw[Int.toNat_natCast] at h1
  obtain ⟨ys,e1,e2,e3⟩:=Ri.clear m (i+1) _ _ h1
  refine⟨ys,?_,by rw[e2,List.length_set],e3⟩
  have:=congrArg (List.take i) e1
  rw[List.take_take,List.take_take,List.take_set,List.set_eq_of_length_le (by simp;omega)] at this
  simpa [Nat.min_eq_left (Nat.le_succ i)] using this
theorem del_keep (q:Int→Bool) (l xs:List Int) (i j:Nat) (hij:i<j) (hj:j<l.length) (hx:xs.length=l.length) (h1:xs.take i=(l.take j).filter q) (h2:xs.drop j=l.drop j) (hp:q l[j]=true) :
  (xs.set i l[j]).take (i+1)=(l.take (j+1)).filter q∧(xs.set i l[j]).drop (j+1)=l.drop (j+1):=by
 constructor
 ·rw[List.take_succ_eq_append_getElem hj,List.filter_append,← h1,List.take_set,List.take_succ_eq_append_getElem (show i<xs.length by omega),List.set_append_right _ _ (by simp;omega)]
  simp [hp]
  have:i - min i xs.length=0:=by omega
  rw[this]
  rfl
 ·rw[List.drop_set_of_lt (by omega)]
  have:=congrArg (List.drop 1) h2
  simpa using this
theorem del_skip (q:Int→Bool) (l xs:List Int) (i j:Nat) (hj:j<l.length) (h1:xs.take i=(l.take j).filter q) (h2:xs.drop j=l.drop j) (hp:q l[j]=false) :
  xs.take i=(l.take (j+1)).filter q∧xs.drop (j+1)=l.drop (j+1):=by
 constructor
 ·rw[List.take_succ_eq_append_getElem hj,List.filter_append,← h1]
  simp [hp]
 ·have:=congrArg (List.drop 1) h2
  simpa using this
theorem del_get (l xs:List Int) (j:Nat) (hj:j<l.length) (hx:xs.length=l.length) (h2:xs.drop j=l.drop j):xs[j]'(by omega)=l[j]:=by
 rw[List.drop_eq_getElem_cons hj,List.drop_eq_getElem_cons (show j<xs.length by omega)] at h2
 injection h2
theorem idx_some {p:Int→Bool} {l:List Int} (h:idx p l ≠ -1):∃ i:Nat,idx p l=i∧∃ hi:i<l.length,p l[i]=true∧∀ j (hj:j<i),p (l[j]'(by omega))=false:=by
 unfold idx at h ⊢
 cases hf:l.findIdx? p with
 |none=>rw[hf] at h;exact absurd rfl h
 |some i=>
  rw[List.findIdx?_eq_some_iff_getElem] at hf
  obtain ⟨hi,hp,hn⟩:=hf
  exact⟨i,rfl,hi,hp,fun j hj=>by have:=hn j hj;simpa using this⟩
theorem idx_none {p:Int→Bool} {l:List Int} (h:idx p l = -1):l.filter (fun x=>!p x)=l:=by
 unfold idx at h
 cases hf:l.findIdx? p with
 |some i=>rw[hf] at h;have:((i:Int)) = -1:=h;omega
 |none=>
  rw[List.findIdx?_eq_none_iff] at hf
  rw[List.filter_eq_self]
  intro x hx
  simp [hf x hx]
theorem del_start {p:Int→Bool} {l:List Int} {i:Nat} (hi:i<l.length) (hp:p l[i]=true) (hn:∀ j (hj:j<i),p (l[j]'(by omega))=false):l.take i=(l.take (i+1)).filter (fun x=>!p x):=by
 rw[List.take_succ_eq_append_getElem hi,List.filter_append]
 have:(l.take i).filter (fun x=>!p x)=l.take i:=by
  rw[List.filter_eq_self]
  intro x hx
  obtain ⟨j,hj,rfl⟩:=List.mem_iff_getElem.1 hx
  rw[List.length_take] at hj
  rw[List.getElem_take,hn j (by omega)]
  rfl
 rw[this]
 simp [hp]
set_option maxRecDepth 100000 in
set_option maxHeartbeats 4000000 in
theorem DeleteFunc_calls (p:Int→Bool) (base:Nat) (v:Value) (l:List Int) (g:Nat) (first caps:Array Value) (w:World) (hbase:base≤w.heap.size) (hR:Ki.R 2 w base (fun _=>True) v l) (hbig:l.length≤1000000000) (eg:EntersG g)
  (hp:∀ x,x ∈ l→∀ W,Below base w W→Calls Tryz.prog g (first.push (I x) ++ caps) W fun e w'=>e = .returned (.bool (p x))∧Grew W w') :
  Calls Tryz.prog 138 #[v,.func (.func g) first caps] w fun e w'=>∃ v',e = .returned v'∧Ki.R 2 w' base (fun _=>True) v' (l.filter fun x=>!p x)∧Below base w w':=by
 obtain ⟨A,c,hv,hc,hC⟩:=Kd.R_reads hR
 subst hv
 have H:=Aside0.mk (IndexFunc_int p A c l g first caps w hC hc (by omega) eg (fun x hx W hW=>hp x hx W (hW.mono hbase)))
 have HR:=Aside0.mk hR
 have HP:=Aside0.mk hp
 have HC:=Aside0.mk hc
 clear hR hp hC hc
 by_cases hi:idx p l = -1
 ·have HV:=Aside0.mk (idx_none hi)
  rw[hi] at H
  rw[HV.out]
  go_enter Tryz.func138,Tryz.ntmps138
  go_wp2_with fail
  refine H.out.mono ?_
  rintro e w1 ⟨rfl,hG1⟩
  go_wp2_with fail
  go_ret
  exact⟨_,rfl,Kd.R_below HR.out hG1,hG1.mono hbase⟩
 ·obtain ⟨i0,he,hi0,hp0,hn0⟩:=idx_some hi
  rw[he] at H hi
  have HS:=Aside0.mk (del_start hi0 hp0 hn0)
  clear hn0 hp0 he
  go_enter Tryz.func138,Tryz.ntmps138
  go_wp2_with fail
  refine H.out.mono ?_
  rintro e w1 ⟨rfl,hG1⟩
  have HR1:=Aside0.mk (Kd.R_below HR.out hG1)
  have HG1:Aside0 (Below base w w1):=⟨hG1.mono hbase⟩
  clear hG1 H HR
  obtain ⟨G,cc,eo,gb,gl,_⟩:=Kd.R_form HR1.out (by omega)
  injection eo with ea en ec
  subst ea ec
  clear en
  go_wp2_with fail
  go_loopg [5,6] l.length (fun gg s5 s6 wr=>∃(i j:Nat) (xs:List Int),s5 = .int .i64 i∧s6 = .int .i64 j∧i<j∧j≤l.length∧l.length - j≤gg∧xs.length=l.length ∧
   Aside0 (xs.take i=(l.take j).filter (fun x=>!p x))∧Aside0 (xs.drop j=l.drop j)∧Aside0 (Ki.R 2 wr base (fun _=>True) (.slice (some ⟨G,0,none⟩) l.length c) xs)∧Aside0 (Below base w wr))
  case atStart=>exact⟨i0,i0+1,l,rfl,by go_num,by omega,by omega,by omega,rfl,HS,⟨rfl⟩,HR1,HG1⟩
  case round=>
   obtain ⟨i,j,xs,rfl,rfl,hij,hj,hg,hxl,HT,HD,HRr,HGr⟩:=hrel
   by_cases hlt:j<l.length
   ·have hltz:(j:Int)<(l.length:Int):=by omega
    obtain ⟨hx,_⟩:=Kd.R_celln 0 HRr.out (j:Int) (by omega) (by omega)
    obtain ⟨hy,hf⟩:=Kd.R_celln 0 HRr.out (i:Int) (by omega) (by omega)
    have hrd:rdOf 0 xs (j:Int)=l[j]:=by rw[← del_get l xs j hlt hxl HD.out];simp [rdOf,show j<xs.length by omega]
    rw[hrd,Int.toNat_natCast] at hx
    rw[Int.toNat_natCast] at hy hf
    have hcall:=HP.out l[j] (List.getElem_mem hlt) wr HGr.out
    have HK:=Aside0.mk (fun h=>del_keep (fun x=>!p x) l xs i j hij hlt hxl HT.out HD.out h)
    have HS2:=Aside0.mk (fun h=>del_skip (fun x=>!p x) l xs i j hlt HT.out HD.out h)
    clear hrd
    generalize l[j]=y at hx hcall HK HS2
    cases hq:p y with
    |false=>
     rw[hq] at hcall
     have HK2:=Aside0.mk (HK.out (by simp [hq]))
     clear HK HS2
     go_wp2_with fail
     refine hcall.mono ?_
     rintro e w2 ⟨rfl,hG2⟩
     have HR2:=Aside0.mk (Kd.R_below HRr.out hG2)
     have HG2:=Aside0.mk (Below.trans HGr.out (hG2.mono (Nat.le_trans hbase HGr.out.size)))
     obtain ⟨hy,hf⟩:=Kd.R_celln 0 HR2.out (i:Int) (by omega) (by omega)
     rw[Int.toNat_natCast] at hy hf
     have HW:=Aside0.mk (Kd.R_putn HR2.out (i:Int) y)
     clear hcall hx hG2
     go_wp2_with fail
     go_roundg (l.length - (j+1))
     case measure=>omega
     case rel=>exact⟨i+1,j+1,xs.set i y,by go_num,by go_num,by omega,by omega,by omega,by rw[List.length_set];exact hxl,⟨HK2.out.1⟩,⟨HK2.out.2⟩,HW,⟨Below.setCell HG2.out gb _⟩⟩
    |true=>
     rw[hq] at hcall
     have HK2:=Aside0.mk (HS2.out (by simp [hq]))
     clear HK HS2
     go_wp2_with fail
     refine hcall.mono ?_
     rintro e w2 ⟨rfl,hG2⟩
     have HR2:=Aside0.mk (Kd.R_below HRr.out hG2)
     have HG2:=Aside0.mk (Below.trans HGr.out (hG2.mono (Nat.le_trans hbase HGr.out.size)))
     clear hcall hx hy hf hG2
     go_wp2_with fail
     go_roundg (l.length - (j+1))
     case measure=>omega
     case rel=>exact⟨i,j+1,xs,rfl,by go_num,by omega,by omega,by omega,hxl,⟨HK2.out.1⟩,⟨HK2.out.2⟩,HR2,HG2⟩
   ·obtain rfl:j=l.length:=by omega
    have hltz:¬ (l.length:Int)<(l.length:Int):=by omega
    have HT2:Aside0 (xs.take i=l.filter (fun x=>!p x)):=⟨by have:=HT.out;rwa [List.take_length] at this⟩
    clear HT HD
    have hcl:∀ ty,(Builtin.clear_ #[24] ty #[.slice (some ⟨G,i,none⟩) (l.length - i) (c - i)]).run Tryz.prog wr = .ok (.tuple #[]) (wr.setCells G i (List.replicate (l.length - i) (I 0))):=
     fun ty=>Lib.run_clear_slice wr _ _ ty _ Tryz.underlying24 (fun w=>by kernel_rfl) rfl rfl G i _ _ (by omega) (fun t ht=>by
      obtain ⟨h1,h2⟩:=Kd.R_celln 0 HRr.out ((i+t:Nat):Int) (by omega) (by omega)
      rw[Int.toNat_natCast] at h1
      rw[h1];rfl) (fun t ht=>by
      obtain ⟨h1,h2⟩:=Kd.R_celln 0 HRr.out ((i+t:Nat):Int) (by omega) (by omega)
      rw[Int.toNat_natCast] at h2
      exact h2)
    have hic:i<c:=by have:=HC.out;omega
    go_wp2_with fail
    go_ret
    obtain ⟨ys,h1,h2,h3⟩:=Ri.clear (l.length - i) i wr xs HRr.out
    refine⟨_,rfl,?_,below_setCells gb _ _ _ HGr.out⟩
    have h4:=Kd.R_take h3 (m:=i) (by omega)
    rw[h1,HT2.out] at h4
    exact h4
end Go.Proofs.YtbnnamejnjfkjaaGreat.K
end

section
namespace Go.Proofs.YtbnnamejnjfkjaaGreat.K
open Go.RowKit Go.Shelf Go.Proofs.YtbnnamejnjfkjaaGreatW.PrintWords Go.Proofs.YtbnnamejnjfkjaaGreatW.PrintLast Go.Proofs.YtbnnamejnjfkjaaGreatW.PrintMore
set_option linter.unusedVariables false
set_option linter.unusedSimpArgs false
section
variable {ops : Array Oper} {rest : List Oper} {o : Oper} {a : Act} {Q : Exit → Act → World → Prop}
theorem append_ints {W:World} (base:Nat) (hgd:o.guard=none) (s x:Operand)
  (ho:o.op = .call { callee:= .builtin .append,args:=#[s,x],argTypes:=#[24,24] })
  (v:Value) (xs ys:List Int) (A:Option Addr) (c:Nat) (hs:a.eval s=v) (hx:a.eval x = .slice A ys.length c)
  (HO:Ki.R 2 W base (fun _=>True) v xs) (HR:Ki.C W A ys.length ys) (hbase:base≤W.heap.size) (hl:xs.length+ys.length≤1000000000000)
  (h:∀ A' c' w1,Ki.R 2 w1 base (fun _=>True) (.slice A' (xs.length+ys.length) c') (xs ++ ys)→Below base W w1→W.grownBy w1 v.ownBlock→wpList Tryz.prog ops Q rest (a.put o.dst (.slice A' (xs.length+ys.length) c')) w1) :
  wpList Tryz.prog ops Q (o :: rest) a W:=by
 refine Kd.R_append_rows Ki (w0:=W) base hgd s x 24 2 (.int .i64 0) 8 ho Tryz.underlying24 infoI rfl (by decide) (by omega) v xs ys A ys.length c (fun _=>True) (fun _=>False) hs hx HO HR (fun _ _ h=>h) (fun _ h=>h.elim) (fun _ _=>trivial) (Below.refl _ _) hbase (by omega) ?_
 intro v1 w1 hR hB hg _
 obtain ⟨A',c',e⟩:=Kd.R_slice hR
 rw[List.length_append] at e
 subst e
 exact h A' c' w1 hR hB hg
end
theorem Ri.empty (w:World) (base:Nat) (hb:base≤w.heap.size):Ki.R 2 (w.alloc (.cells #[] 2)) base (fun _=>True) (.slice (some ⟨w.heap.size,0,none⟩) 0 0) []:=by
 have:=own_lit w base 2 .i64 [] hb (by simp)
 exact⟨fun _ _=>trivial,[],this,Reps.none _ _⟩
end Go.Proofs.YtbnnamejnjfkjaaGreat.K
end

section
namespace Go.Proofs.YtbnnamejnjfkjaaGreat.K
open Go.RowKit Go.Shelf Go.Proofs.YtbnnamejnjfkjaaGreatW.PrintWords Go.Proofs.YtbnnamejnjfkjaaGreatW.PrintLast Go.Proofs.YtbnnamejnjfkjaaGreatW.PrintMore
set_option linter.unusedVariables false
set_option linter.unusedSimpArgs false
set_option maxHeartbeats 2000000 in
theorem Clone_calls (A:Option Addr) (c:Nat) (l:List Int) (w:World) (hr:Ki.C w A l.length l) (hc:l.length≤c) (hl:l.length≤1000000000) :
  Calls Tryz.prog 139 #[.slice A l.length c] w fun e w'=>∃ v,e = .returned v∧Ki.R 2 w' w.heap.size (fun _=>True) v l∧Grew w w':=by
 have hq:∀(w:World) (a:Option Addr) (n c n' c':Nat),(binOp .eql 24 (.slice a n c) (.slice none n' c')).run Tryz.prog w = .ok (.bool a.isNone) w:=fun w a n c n' c'=>Lib.run_eql_slice_nil w _ _ a n c n' c' Tryz.underlying24
 cases A with
 |none=>
  have h0:l.length=0:=by
   rcases Nat.eq_zero_or_pos l.length with h|h
   ·exact h
   ·obtain ⟨a,ha,_⟩:=hr.2.2 h
    cases ha
  have HL:Aside0 (l = []):=⟨List.length_eq_zero_iff.1 h0⟩
  clear hr
  go_enter Tryz.func139,Tryz.ntmps139
  go_wp2_with fail
  go_ret
  exact⟨_,rfl,by rw[HL.out];exact Kd.R_nil _ _ _ _ _,Grew.refl w⟩
 |some ad=>
  have HR:=Aside0.mk hr
  have HG:Aside0 (Grew w (w.alloc (.cells #[] 2))):=⟨below_alloc (Grew.refl w) _⟩
  clear hr
  go_enter Tryz.func139,Tryz.ntmps139
  go_wp2_with (at_builtin;refine append_ints w.heap.size rfl (.tmp 5) (.tmp 6) rfl _ [] l (some ad) c rfl rfl (Ri.empty w _ (Nat.le_refl _)) (Kd.C_below HR.out HG.out) HG.out.size (by simp;omega) ?_;intro A3 c3 w3 hR3 hB3 hg3;have HR3:=Aside0.mk hR3;have HG3:Aside0 (Below w.heap.size w w3):=⟨Below.trans HG.out hB3⟩;clear hR3 hB3 hg3)
  go_ret
  refine⟨_,rfl,?_,HG3.out⟩
  have:=HR3.out
  rw[List.length_nil,Nat.zero_add,List.nil_append] at this
  exact this
end Go.Proofs.YtbnnamejnjfkjaaGreat.K
end

section
namespace Go.Proofs.YtbnnamejnjfkjaaGreat.Q
open Go.RowKit Go.Proofs.YtbnnamejnjfkjaaGreat.Q Go.Proofs.YtbnnamejnjfkjaaGreatW.PrintWords Go.Proofs.YtbnnamejnjfkjaaGreatW.PrintLast Go.Proofs.YtbnnamejnjfkjaaGreatW.PrintMore
attribute [local go_sem] max2_int min2_int max_two min_two max_three min_three max_four min_four
set_option linter.unusedVariables false
set_option linter.unusedSimpArgs false
theorem info24:(Tryz.prog.info? 24).map (fun i=>(i.zero,i.size,i.bytes))=some (some (.slice none 0 0),1,24):=by kernel_rfl
end Go.Proofs.YtbnnamejnjfkjaaGreat.Q
end

section
namespace Go.Proofs.YtbnnamejnjfkjaaGreat.Q
open Go.RowKit Go.Proofs.YtbnnamejnjfkjaaGreat.Q Go.Proofs.YtbnnamejnjfkjaaGreatW.PrintWords Go.Proofs.YtbnnamejnjfkjaaGreatW.PrintLast Go.Proofs.YtbnnamejnjfkjaaGreatW.PrintMore
attribute [local go_sem] max2_int min2_int max_two min_two max_three min_three max_four min_four
set_option linter.unusedVariables false
set_option linter.unusedSimpArgs false
def impl_isDimension.f (a0:Int):Option (Bool):=(impl_within.f a0 0 5).bind fun t188=>(some t188)
set_option maxHeartbeats 8000000 in
set_option maxRecDepth 100000 in
theorem impl_isDimension.calls (a0:Int) (r:Bool) (w:World) (h:impl_isDimension.f a0=some r) :
  Calls Tryz.prog 109 #[.int .i64 a0] w fun e w'=>e = .returned (.bool r)∧Drawn0 w w':=by
 have H:((impl_within.f a0 0 5).bind fun t188=>(some t188))=some r:=h;clear h;replace H:=Option.bind_eq_some_iff.mp H;obtain ⟨t188,A20,H⟩:=H;replace H:(some t188)=some r:=H;have A2:=Aside0.mk A20;clear A20;obtain rfl:=Option.some.inj H;go_enter Tryz.func109,Tryz.ntmps109;go_wp2_with (first|((with_reducible refine gate_callee (f:=93) rfl ?_);refine gl (some 4) Tryz.func93 #[.int .i64 a0,.int .i64 0,.int .i64 5] ?_;(with_reducible refine(impl_within.calls a0 0 5 t188 _ A2.out).mono ?_);rintro e w' ⟨rfl,⟨nd,rfl⟩⟩;refine⟨_,rfl,?_⟩))
 go_ret;exact⟨rs,by repeat(first|exact Drawn0.refl _|apply Drawn0.step)⟩
def impl_isModulus.f (a0:Int):Option (Bool):=(impl_within.f a0 2 3).bind fun t189=>(some t189)
set_option maxHeartbeats 8000000 in
set_option maxRecDepth 100000 in
theorem impl_isModulus.calls (a0:Int) (r:Bool) (w:World) (h:impl_isModulus.f a0=some r) :
  Calls Tryz.prog 104 #[.int .i64 a0] w fun e w'=>e = .returned (.bool r)∧Drawn0 w w':=by
 have H:((impl_within.f a0 2 3).bind fun t189=>(some t189))=some r:=h;clear h;replace H:=Option.bind_eq_some_iff.mp H;obtain ⟨t189,A20,H⟩:=H;replace H:(some t189)=some r:=H;have A2:=Aside0.mk A20;clear A20;obtain rfl:=Option.some.inj H;go_enter Tryz.func104,Tryz.ntmps104;go_wp2_with (first|((with_reducible refine gate_callee (f:=93) rfl ?_);refine gl (some 4) Tryz.func93 #[.int .i64 a0,.int .i64 2,.int .i64 3] ?_;(with_reducible refine(impl_within.calls a0 2 3 t189 _ A2.out).mono ?_);rintro e w' ⟨rfl,⟨nd,rfl⟩⟩;refine⟨_,rfl,?_⟩))
 go_ret;exact⟨rs,by repeat(first|exact Drawn0.refl _|apply Drawn0.step)⟩
end Go.Proofs.YtbnnamejnjfkjaaGreat.Q
end

section
namespace Go.Proofs.YtbnnamejnjfkjaaGreat.K
open Go.RowKit Go.Shelf Go.Proofs.YtbnnamejnjfkjaaGreat.Q Go.Proofs.YtbnnamejnjfkjaaGreatW.PrintWords Go.Proofs.YtbnnamejnjfkjaaGreatW.PrintLast Go.Proofs.YtbnnamejnjfkjaaGreatW.PrintMore
set_option linter.unusedVariables false
set_option linter.unusedSimpArgs false
theorem isDim_calls (d:Int) (w:World):Calls Tryz.prog 109 #[I d] w fun e w'=>e = .returned (.bool (decide (0≤d∧d≤5)))∧Grew w w':=
 (impl_isDimension.calls d _ w (by unfold impl_isDimension.f;rw[within_is];rfl)).mono fun e w' ⟨he,hd⟩=>⟨he,hd.below⟩
theorem isMod_calls (d:Int) (w:World):Calls Tryz.prog 104 #[I d] w fun e w'=>e = .returned (.bool (decide (2≤d∧d≤3)))∧Grew w w':=
 (impl_isModulus.calls d _ w (by unfold impl_isModulus.f;rw[within_is];rfl)).mono fun e w' ⟨he,hd⟩=>⟨he,hd.below⟩
set_option maxHeartbeats 1000000 in
theorem of1_calls (f d:Int) (h0:0≤f) (h1:f≤63) (B:Nat) (w:World) (hb:w.cell? ⟨B,0,none⟩=some (I d)) :
  Calls Tryz.prog 140 #[I f,.pointer (some ⟨B,0,none⟩)] w fun e w'=>e = .returned (.bool (dimI f != d))∧Grew w w':=by
 have hlt:B<w.heap.size:=World.block_lt_of_cell? w _ hb
 have H:=Aside0.mk (fun w=>dimension_calls f h0 h1 w)
 clear h0 h1
 generalize dimI f=q at H ⊢
 go_enter Tryz.func140,Tryz.ntmps140
 go_wp2_with fail
 go_region_held3 (fun w'=>w'.cell? ⟨B,0,none⟩=some (I d))
  (first|exact(HG.out.cell (p:=⟨B,0,none⟩) hlt).trans hb|go_keep)
  ((go_at_call 99;refine(H.out _).mono ?_;rintro e w1 ⟨rfl,hG⟩;have HG:Aside0 (Grew w w1):=⟨Below.trans ((Below.refl _ w).drew) hG⟩;clear hG))
 all_goals (go_wp2_with fail;go_ret;exact⟨by first|rfl|(simp [bne];done),HG.out⟩)
set_option maxHeartbeats 2000000 in
theorem of_calls (n:Int) (A:Option Addr) (c:Nat) (l:List Int) (d:Int) (w:World) (hk:Kx w A c l) (hl:l.length≤1000000000) (hf:∀ x ∈ l,0≤x∧x≤63) :
  Calls Tryz.prog 111 #[.agg #[I n,.slice A l.length c],I d] w fun e w'=>∃ v,e = .returned v∧Ki.R 2 w' w.heap.size (fun _=>True) v (ofL l d)∧Grew w w':=by
 obtain ⟨W3,hW3⟩:∃ W3,W3=(w.alloc (.cells #[I n,.slice A l.length c] 26)).alloc (.cells #[I d] 2):=⟨_,rfl⟩
 have hB:CB W3 w.heap.size n (.slice A l.length c):=by rw[hW3];exact blk_alloc (blk_new w _) _
 have hF:W3.heap[w.heap.size+1]?=some (.cells #[I d] 2 (0,0)):=by
  rw[hW3]
  have:=blk_new (w.alloc (.cells #[I n,.slice A l.length c] 26)) (.cells #[I d] 2)
  rwa [World.size_alloc] at this
 have hg:Grew w W3:=by rw[hW3];exact below_alloc (below_alloc (Grew.refl w) _) _
 have hsz:W3.heap.size=w.heap.size+2:=by rw[hW3,World.size_alloc,World.size_alloc]
 have H:=Aside0.mk (Clone_calls A c l _ (hk.later hg).r hk.c hl)
 have k1:=hB.c1
 have HK:=Aside0.mk hk
 have HG:=Aside0.mk hg
 have HF:=Aside0.mk hF
 have HFA:=Aside0.mk hf
 have HSZ:=Aside0.mk hsz
 clear hk hg hB hF hf hsz
 subst hW3
 go_enter Tryz.func111,Tryz.ntmps111
 go_wp2_with fail
 refine H.out.mono ?_
 rintro e w1 ⟨v,rfl,hR,hG1⟩
 have HR1:=Aside0.mk hR
 have HG1:=Aside0.mk hG1
 clear hR hG1 k1
 have hs:=HG.out.size
 have hs2:w.heap.size+2≤w1.heap.size:=by have:=HG1.out.size;rwa [HSZ.out] at this
 have HF1:=Aside0.mk (blk_below HF.out HG1.out)
 have H2:=Aside0.mk (DeleteFunc_calls (fun x=>dimI x != d) (w.heap.size+2) v l 140 #[] #[.pointer (some ⟨w.heap.size+1,0,none⟩)] w1 hs2 (by have:=HR1.out;rwa [HSZ.out] at this) hl (enters_of Tryz.func140 (by kernel_rfl) rfl)
  (fun x hx W hW=>of1_calls x d (HFA.out x hx).1 (HFA.out x hx).2 (w.heap.size+1) W (blk_cell (show W.heap[w.heap.size+1]?=some (.cells #[I d] 2 (0,0)) by rw[hW.block _ (Nat.lt_succ_self _)];exact HF1.out) 0)))
 go_wp2_with fail
 refine H2.out.mono ?_
 rintro e w2 ⟨v2,rfl,hR2,hG2⟩
 go_wp2_with fail
 go_ret
 exact⟨_,rfl,Kd.R_lower hR2 (by omega),Below.trans (Grew.trans HG.out HG1.out) (hG2.mono (by omega))⟩
end Go.Proofs.YtbnnamejnjfkjaaGreat.K
end

section
namespace Go.Proofs.YtbnnamejnjfkjaaGreat.K
open Go.RowKit Go.Shelf Go.Proofs.YtbnnamejnjfkjaaGreat.Q Go.Proofs.YtbnnamejnjfkjaaGreatW.PrintWords Go.Proofs.YtbnnamejnjfkjaaGreatW.PrintLast Go.Proofs.YtbnnamejnjfkjaaGreatW.PrintMore
set_option linter.unusedVariables false
set_option linter.unusedSimpArgs false
def topI (l:List Int):Int:=l.foldl (fun d f=>mx d (dimI f)) (-1)
theorem mx_is (a b:Int):mx a b=if a<b then b else a:=by
 unfold mx
 repeat' split
 all_goals omega
theorem top_loop (l:List Int) (hl:l.length≤1000000000) (hf:∀ x ∈ l,0≤x∧x≤63):∀(d i k:Nat) (s:Int),l.length - i=d→i≤l.length→d<k →
  impl_Complex_dimension.l0 k s l (l.length:Int) (i:Int)=some ((l.drop i).foldl (fun d f=>mx d (dimI f)) s):=by
 intro d
 induction d with
 |zero=>
  intro i k s hd hi hk
  obtain ⟨k,rfl⟩:∃ m,k=m+1:=⟨k - 1,by omega⟩
  obtain rfl:i=l.length:=by omega
  simp only [impl_Complex_dimension.l0]
  rw[if_neg (by omega)]
  simp
 |succ d ih=>
  intro i k s hd hi hk
  obtain ⟨k,rfl⟩:∃ m,k=m+1:=⟨k - 1,by omega⟩
  simp only [impl_Complex_dimension.l0]
  have hil:i<l.length:=by omega
  have hx:=hf _ (List.getElem_mem hil)
  have hrd:rd l (i:Int)=l[i]:=by simp [rd,hil]
  have hw:wrap64 ((i:Int)+1)=((i+1:Nat):Int):=by unfold wrap64;omega
  rw[if_pos (by omega),if_pos (by omega),if_pos (by omega),hrd,dim_is l[i] (by omega) hx.2]
  simp only [Option.bind_some]
  rw[hw,ih (i+1) k _ (by omega) (by omega) (by omega),List.drop_eq_getElem_cons hil,List.foldl_cons]
theorem top_is (n:Int) (l:List Int) (hl:l.length≤1000000000) (hf:∀ x ∈ l,0≤x∧x≤63):impl_Complex_dimension.f (l.length+1) n l=some (topI l):=by
 unfold impl_Complex_dimension.f
 have:=top_loop l hl hf l.length 0 (l.length+1) (-1) (by omega) (by omega) (by omega)
 simpa [topI] using this
theorem top_calls (n:Int) (A:Option Addr) (c:Nat) (l:List Int) (w:World) (hk:Kx w A c l) (hl:l.length≤1000000000) (hf:∀ x ∈ l,0≤x∧x≤63) :
  Calls Tryz.prog 136 #[.agg #[I n,.slice A l.length c]] w fun e w'=>e = .returned (I (topI l))∧Grew w w':=
 impl_Complex_dimension.calls (l.length+1) n A c l (topI l) w hk.r hk.c (top_is n l hl hf)
theorem top_ge (l:List Int):∀(s:Int),s≤l.foldl (fun d f=>mx d (dimI f)) s∧∀ x ∈ l,dimI x≤l.foldl (fun d f=>mx d (dimI f)) s:=by
 induction l with
 |nil=>intro s;simp
 |cons y l ih=>
  intro s
  obtain ⟨h1,h2⟩:=ih (mx s (dimI y))
  have h3:s≤mx s (dimI y)∧dimI y≤mx s (dimI y):=by rw[mx_is];split <;> omega
  rw[List.foldl_cons]
  refine⟨by omega,fun x hx=>?_⟩
  rcases List.mem_cons.1 hx with rfl|hx
  ·omega
  ·exact h2 x hx
theorem top_le (l:List Int):∀(s:Int),s≤5→l.foldl (fun d f=>mx d (dimI f)) s≤5:=by
 induction l with
 |nil=>intro s hs;exact hs
 |cons y l ih=>
  intro s hs
  rw[List.foldl_cons]
  refine ih _ ?_
  have:=dim_range y
  rw[mx_is];split <;> omega
theorem top_range (l:List Int): -1≤topI l∧topI l≤5:=⟨(top_ge l (-1)).1,top_le l (-1) (by omega)⟩
theorem top_mem (l:List Int) (x:Int) (hx:x ∈ l):dimI x≤topI l:=(top_ge l (-1)).2 x hx
def tick (xs:List Int) (f:Int):List Int:=xs.set (dimI f).toNat (rdOf 0 xs (dimI f)+1)
def countL (m:Nat) (q:List Int):List Int:=q.foldl tick (List.replicate m 0)
theorem tick_length (xs:List Int) (f:Int):(tick xs f).length=xs.length:=by simp [tick]
theorem ticks_length (q:List Int):∀ xs:List Int,(q.foldl tick xs).length=xs.length:=by
 induction q with
 |nil=>intro xs;rfl
 |cons f q ih=>intro xs;rw[List.foldl_cons,ih,tick_length]
theorem countL_length (m:Nat) (q:List Int):(countL m q).length=m:=by rw[countL,ticks_length,List.length_replicate]
theorem ticks_get (q:List Int) (hq:∀ x ∈ q,0≤dimI x):∀(xs:List Int) (i:Nat) (h:i<xs.length),(q.foldl tick xs)[i]'(by rw[ticks_length];exact h)=xs[i]+((q.filter fun x=>dimI x == (i:Int)).length:Int):=by
 induction q with
 |nil=>intro xs i h;simp
 |cons f q ih=>
  intro xs i h
  have h2:=ih (fun x hx=>hq x (List.mem_cons_of_mem _ hx)) (tick xs f) i (by rw[tick_length];exact h)
  simp only [List.foldl_cons]
  rw[h2]
  have hd:=hq f List.mem_cons_self
  by_cases e:dimI f=(i:Int)
  ·have e2:(dimI f).toNat=i:=by omega
   have h3:(tick xs f)[i]'(by rw[tick_length];exact h)=xs[i]+1:=by
    simp [tick,e,rdOf,h]
   rw[h3,List.filter_cons,if_pos (by simp [e]),List.length_cons]
   omega
  ·have e2:(dimI f).toNat≠i:=by omega
   have h3:(tick xs f)[i]'(by rw[tick_length];exact h)=xs[i]:=by
    simp [tick,List.getElem_set,e2]
   rw[h3,List.filter_cons,if_neg (by simp [e])]
theorem countL_get (m:Nat) (q:List Int) (hq:∀ x ∈ q,0≤dimI x) (i:Nat) (h:i<m):(countL m q)[i]'(by rw[countL_length];exact h)=((q.filter fun x=>dimI x == (i:Int)).length:Int):=by
 have:=ticks_get q hq (List.replicate m 0) i (by rw[List.length_replicate];exact h)
 rw[List.getElem_replicate,Int.zero_add] at this
 exact this
theorem ticks_range (q:List Int) (hq:∀ x ∈ q,0≤dimI x) (m:Nat) (i:Int) (h0:0≤i) (h:i<m):0≤rdOf 0 (countL m q) i∧rdOf 0 (countL m q) i≤q.length:=by
 obtain ⟨j,rfl⟩:=Int.eq_ofNat_of_zero_le h0
 have hj:j<m:=by omega
 have h1:=countL_get m q hq j hj
 have h2:rdOf 0 (countL m q) (j:Int)=(countL m q)[j]'(by rw[countL_length];exact hj):=by simp [rdOf,countL_length,hj]
 have h3:=List.length_filter_le (fun x=>dimI x == (j:Int)) q
 rw[h2,h1]
 omega
theorem dim_pos_64:∀ m:Fin 64,m.val≠0→0≤dimI (m.val:Int):=by decide +kernel
theorem dim_pos (f:Int) (h0:1≤f) (h1:f≤63):0≤dimI f:=by
 obtain ⟨m,rfl⟩:=Int.eq_ofNat_of_zero_le (show 0≤f by omega)
 exact dim_pos_64 ⟨m,by omega⟩ (by show m≠0;omega)
set_option maxRecDepth 100000 in
set_option maxHeartbeats 4000000 in
theorem count_calls (n:Int) (A:Option Addr) (c:Nat) (l:List Int) (A2:Option Addr) (c2:Nat) (q:List Int) (w:World) (hk:Kx w A c l) (hl:l.length≤1000000000) (hf:∀ x ∈ l,1≤x∧x≤63) (hr:Ki.C w A2 q.length q) (hc:q.length≤c2) (hq:∀ x ∈ q,x ∈ l) (hql:q.length≤1000000000) :
  Calls Tryz.prog 101 #[.agg #[I n,.slice A l.length c],.slice A2 q.length c2] w fun e w'=>∃ v,e = .returned v∧Ki.R 2 w' w.heap.size (fun _=>True) v (countL (topI l+1).toNat q)∧Grew w w':=by
 have hg:Grew w (w.alloc (.cells #[I n,.slice A l.length c] 26)):=below_alloc (Grew.refl w) _
 have hB:CB (w.alloc (.cells #[I n,.slice A l.length c] 26)) w.heap.size n (.slice A l.length c):=blk_new w _
 have H:=Aside0.mk (top_calls n A c l _ (hk.later hg) hl (fun x hx=>by have:=hf x hx;omega))
 have hT:=top_range l
 have HT:=Aside0.mk (fun x (hx:x ∈ q)=>And.intro (dim_pos x (hf x (hq x hx)).1 (hf x (hq x hx)).2) (top_mem l x (hq x hx)))
 have HF:=Aside0.mk (fun x (hx:x ∈ q)=>hf x (hq x hx))
 have HR:=Aside0.mk hr
 have HC:=Aside0.mk hc
 have HG:=Aside0.mk hg
 have k0:=hB.c0
 have k1:=hB.c1
 obtain ⟨t,ht⟩:∃ t,t=topI l:=⟨_,rfl⟩
 rw[← ht] at H hT HT ⊢
 clear hk hg hB hf hq hr hc ht
 obtain ⟨m,hm⟩:∃ m:Nat,t+1=(m:Int):=⟨(t+1).toNat,by omega⟩
 have hm6:m≤6:=by omega
 rw[show (t+1).toNat=m by omega]
 have HM:=Aside0.mk hm
 clear hm
 have h0m:0≤(m:Int):=by omega
 go_enter Tryz.func101,Tryz.ntmps101
 go_wp2_with fail
 refine H.out.mono ?_
 rintro e w1 ⟨rfl,hG1⟩
 have HG1:=Aside0.mk (Grew.trans HG.out hG1)
 clear hG1 k0 k1
 have hm:=HM.out
 go_wp2_with (first|((with_reducible refine gate_dst (N:=11) rfl ?_);refine Kd.R_make (Kd.int .i64) _ 2 rfl (N:=11) rfl 24 _ _ rfl (m:Int) (by go_num) (by go_num) Tryz.underlying24 (.int .i64 0) 8 infoI rfl (by decide) (by omega) 0 (ok:=fun _=>True) (okp:=fun _=>True) rfl (fun _ hk=>hk) trivial h0m (by omega) (Below.refl _ _) (Nat.le_refl _) ?_;intro v w2 ho hb hg_ hnew_;clear hg_ hnew_;have HO2:=Aside0.mk (Kd.R_lower ho HG1.out.size);have HG2:=Aside0.mk (Grew.trans HG1.out hb);clear ho hb))
 rw[Int.toNat_natCast] at HO2
 obtain ⟨A5,c5,e5⟩:=Kd.R_slice HO2.out
 rw[List.length_replicate] at e5
 subst e5
 go_wp2_with fail
 go_loopg [14] q.length (fun gg s14 wr=>∃ kk:Nat,kk≤q.length∧q.length - kk≤gg∧s14 = .int .i64 kk∧Aside0 (Ki.R 2 wr w.heap.size (fun _=>True) (.slice A5 m c5) (countL m (q.take kk)))∧Aside0 (Grew w wr))
 case atStart=>exact⟨0,Nat.zero_le _,by omega,rfl,HO2,HG2⟩
 case round=>
  obtain ⟨kk,hkk,hg,rfl,HRr,HGr⟩:=hrel
  by_cases hlt:kk<q.length
  ·have hltz:(kk:Int)<(q.length:Int):=by omega
   obtain ⟨ad,e0,hx⟩:=Kd.at_int (Kd.C_below HR.out HGr.out) (kk:Int) (by omega) (by omega)
   cases e0
   have hrd:rd q (kk:Int)=q[kk]:=by simp [rd,hlt]
   rw[hrd,Int.toNat_natCast] at hx
   have hy1:=HF.out _ (List.getElem_mem hlt)
   have hy2:=HT.out _ (List.getElem_mem hlt)
   have HN:Aside0 (countL m (q.take (kk+1))=tick (countL m (q.take kk)) q[kk]):=⟨by rw[List.take_succ_eq_append_getElem hlt,countL,List.foldl_append];rfl⟩
   have hb2:=ticks_range (q.take kk) (fun x hx=>(HT.out x (List.mem_of_mem_take hx)).1) m (dimI q[kk]) hy2.1 (by omega)
   have hLl:=countL_length m (q.take kk)
   have htk:(q.take kk).length=kk:=by rw[List.length_take];omega
   rw[htk] at hb2
   generalize countL m (q.take kk)=L at HRr HN hb2 hLl
   generalize q[kk]=y at hx hy1 hy2 HN hb2
   clear hrd htk
   have H3:=Aside0.mk (dimension_calls y (by omega) (by omega) wr)
   unfold tick at HN
   generalize dimI y=e at hy2 HN hb2 H3
   go_wp2_with fail
   refine H3.out.mono ?_
   rintro e' w3 ⟨rfl,hG3⟩
   have HR3:=Aside0.mk (Kd.R_below HRr.out hG3)
   have HG3:=Aside0.mk (Grew.trans HGr.out hG3)
   clear HRr hx hG3
   obtain ⟨G,cc,eo,gb,gl,_⟩:=Kd.R_form HR3.out (by omega)
   injection eo with ea en ec
   subst ea ec
   clear en
   obtain ⟨hx,hf⟩:=Kd.R_celln 0 HR3.out e (by omega) (by omega)
   generalize rdOf 0 L e=z at hx HN hb2
   have HW:=Aside0.mk (Kd.R_putn HR3.out e (z+1))
   have e0:=hy2.1
   have e1:e<m:=by omega
   go_wp2_with fail
   go_roundg (q.length - (kk+1))
   case measure=>omega
   case rel=>exact⟨kk+1,by omega,by omega,by go_num,⟨by rw[HN.out];exact HW.out⟩,⟨Below.setCell HG3.out gb _⟩⟩
  ·obtain rfl:kk=q.length:=by omega
   rw[List.take_length] at HRr
   go_wp2_with fail
   go_ret
   exact⟨_,rfl,HRr.out,HGr.out⟩
end Go.Proofs.YtbnnamejnjfkjaaGreat.K
end

section
namespace Go.Proofs.YtbnnamejnjfkjaaGreat.K
open Go.RowKit Go.Shelf Go.Proofs.YtbnnamejnjfkjaaGreat.Q Go.Proofs.YtbnnamejnjfkjaaGreatW.PrintWords Go.Proofs.YtbnnamejnjfkjaaGreatW.PrintLast Go.Proofs.YtbnnamejnjfkjaaGreatW.PrintMore
set_option linter.unusedVariables false
set_option linter.unusedSimpArgs false
def stepF (s:Int×Bool) (e:Int):Int×Bool:=if Go.bits .and .i64 e s.1=0 then s else if inB e s.1=true then s else (Go.bits .or .i64 s.1 e,true)
def passF (es:List Int) (s:Int×Bool):Int×Bool:=es.foldl stepF s
def Shut (es:List Int) (c:Int):Prop:=∀ e ∈ es,Go.bits .and .i64 e c=0∨inB e c=true
theorem pass_facts (es:List Int):(∀ x ∈ es,0≤x∧x≤63)→∀ s:Int×Bool,0≤s.1∧s.1≤63 →
  (s.1≤(passF es s).1∧(passF es s).1≤63)∧inB s.1 (passF es s).1=true∧((passF es s).2=false→s.2=false∧(passF es s).1=s.1∧Shut es s.1)∧((passF es s).2=true→s.2=true∨s.1<(passF es s).1) ∧
  (∀ c,0≤c∧c≤63→inB s.1 c=true→Shut es c→inB (passF es s).1 c=true):=by
 induction es with
 |nil=>exact fun _ s hs=>⟨⟨Int.le_refl _,hs.2⟩,inB_refl _ hs,fun h=>⟨h,rfl,fun _ h=>by cases h⟩,fun h=> .inl h,fun c hc h _=>h⟩
 |cons e es ih=>
  intro hes s hs
  have he:=hes e List.mem_cons_self
  have ih:=ih (fun x hx=>hes x (List.mem_cons_of_mem _ hx))
  have hp:passF (e :: es) s=passF es (stepF s e):=rfl
  rw[hp]
  by_cases h0:Go.bits .and .i64 e s.1=0
  ·have hst:stepF s e=s:=by unfold stepF;rw[if_pos h0]
   rw[hst]
   obtain ⟨a1,a2,a3,a4,a5⟩:=ih s hs
   refine⟨a1,a2,fun h=>?_,a4,fun c hc h1 h2=>a5 c hc h1 fun x hx=>h2 x (List.mem_cons_of_mem _ hx)⟩
   obtain ⟨b1,b2,b3⟩:=a3 h
   refine⟨b1,b2,fun x hx=>?_⟩
   rcases List.mem_cons.1 hx with rfl|hx
   ·exact .inl h0
   ·exact b3 x hx
  ·by_cases h1:inB e s.1=true
   ·have hst:stepF s e=s:=by unfold stepF;rw[if_neg h0,if_pos h1]
    rw[hst]
    obtain ⟨a1,a2,a3,a4,a5⟩:=ih s hs
    refine⟨a1,a2,fun h=>?_,a4,fun c hc h1 h2=>a5 c hc h1 fun x hx=>h2 x (List.mem_cons_of_mem _ hx)⟩
    obtain ⟨b1,b2,b3⟩:=a3 h
    refine⟨b1,b2,fun x hx=>?_⟩
    rcases List.mem_cons.1 hx with rfl|hx
    ·exact .inr h1
    ·exact b3 x hx
   ·have hst:stepF s e=(Go.bits .or .i64 s.1 e,true):=by unfold stepF;rw[if_neg h0,if_neg h1]
    rw[hst]
    have h1':inB e s.1=false:=by simpa using h1
    have hlt:=or_lt s.1 e hs he h1'
    obtain ⟨h3,h4,h5⟩:=or_bt s.1 e hs he
    obtain ⟨a1,a2,a3,a4,a5⟩:=ih (Go.bits .or .i64 s.1 e,true) ⟨by show 0≤Go.bits .or .i64 s.1 e;omega,h5⟩
    simp only at a1 a2 a3 a4 a5
    refine⟨⟨by omega,a1.2⟩,inB_trans _ _ _ hs ⟨by omega,h5⟩ ⟨by omega,a1.2⟩ (inB_or _ _ hs he) a2,fun h=>absurd (a3 h).1 (by simp),fun _=> .inr (by omega),fun c hc b1 b2=>a5 c hc ?_ fun x hx=>b2 x (List.mem_cons_of_mem _ hx)⟩
    refine or_inB _ _ _ hs he hc b1 ?_
    rcases b2 e List.mem_cons_self with b3|b3
    ·exact absurd b3 (and_mono e s.1 c he hs hc b1 h0)
    ·exact b3
def growN:Nat→List Int→Int→Int
 |0,_,o=>o
 |m+1,es,o=>if (passF es (o,false)).2=true then growN m es (passF es (o,false)).1 else (passF es (o,false)).1
def growF (es:List Int) (o:Int):Int:=growN 64 es o
theorem grow_enough (es:List Int) (hes:∀ x ∈ es,0≤x∧x≤63):∀(k m:Nat) (o:Int),0≤o∧o≤63→64 - o≤k→64 - o≤m→growN k es o=growN m es o:=by
 intro k
 induction k with
 |zero=>intro m o ho h1;omega
 |succ k ih=>
  intro m o ho h1 h2
  obtain ⟨m,rfl⟩:∃ q,m=q+1:=⟨m - 1,by omega⟩
  simp only [growN]
  obtain ⟨a1,a2,a3,a4,a5⟩:=pass_facts es hes (o,false) ho
  simp only at a1 a4
  by_cases h:(passF es (o,false)).2=true
  ·rw[if_pos h,if_pos h]
   rcases a4 h with h4|h4
   ·cases h4
   ·exact ih m _ ⟨by omega,a1.2⟩ (by omega) (by omega)
  ·rw[if_neg h,if_neg h]
theorem grow_step (es:List Int) (hes:∀ x ∈ es,0≤x∧x≤63) (o:Int) (ho:0≤o∧o≤63):growF es o=if (passF es (o,false)).2=true then growF es (passF es (o,false)).1 else (passF es (o,false)).1:=by
 obtain ⟨a1,a2,a3,a4,a5⟩:=pass_facts es hes (o,false) ho
 simp only at a1 a4
 unfold growF
 rw[show growN 64 es o=if (passF es (o,false)).2=true then growN 63 es (passF es (o,false)).1 else (passF es (o,false)).1 from rfl]
 by_cases h:(passF es (o,false)).2=true
 ·rw[if_pos h,if_pos h]
  rcases a4 h with h4|h4
  ·cases h4
  ·exact grow_enough es hes 63 64 _ ⟨by omega,a1.2⟩ (by omega) (by omega)
 ·rw[if_neg h,if_neg h]
theorem growN_facts (es:List Int) (hes:∀ x ∈ es,0≤x∧x≤63):∀(k:Nat) (o:Int),0≤o∧o≤63→64 - o≤k →
  (0≤growN k es o∧growN k es o≤63)∧inB o (growN k es o)=true∧Shut es (growN k es o)∧(∀ c,0≤c∧c≤63→inB o c=true→Shut es c→inB (growN k es o) c=true):=by
 intro k
 induction k with
 |zero=>intro o ho h1;omega
 |succ k ih=>
  intro o ho h1
  simp only [growN]
  obtain ⟨a1,a2,a3,a4,a5⟩:=pass_facts es hes (o,false) ho
  simp only at a1 a2 a3 a4 a5
  by_cases h:(passF es (o,false)).2=true
  ·rw[if_pos h]
   rcases a4 h with h4|h4
   ·cases h4
   ·obtain ⟨b1,b2,b3,b4⟩:=ih _ ⟨by omega,a1.2⟩ (by omega)
    exact⟨b1,inB_trans _ _ _ ho ⟨by omega,a1.2⟩ b1 a2 b2,b3,fun c hc h1 h2=>b4 c hc (a5 c hc h1 h2) h2⟩
  ·rw[if_neg h]
   obtain ⟨c1,c2,c3⟩:=a3 (by simpa using h)
   rw[c2]
   exact⟨ho,inB_refl o ho,c3,fun c hc h1 h2=>h1⟩
theorem grow_facts (es:List Int) (hes:∀ x ∈ es,0≤x∧x≤63) (o:Int) (ho:0≤o∧o≤63) :
  (0≤growF es o∧growF es o≤63)∧inB o (growF es o)=true∧Shut es (growF es o)∧(∀ c,0≤c∧c≤63→inB o c=true→Shut es c→inB (growF es o) c=true):=growN_facts es hes 64 o ho (by omega)
def compsI (es:List Int):List Int→Int→List Int→List Int
 |[],_,out=>out
 |f :: fs,seen,out=>if inB f seen=true then compsI es fs seen out else compsI es fs (Go.bits .or .i64 seen (growF es f)) (out ++ [growF es f])
def componentsL (l:List Int):List Int:=compsI (ofL l 1) (ofL l 0) 0 []
end Go.Proofs.YtbnnamejnjfkjaaGreat.K
end

section
namespace Go.Proofs.YtbnnamejnjfkjaaGreat.Q
open Go.RowKit Go.Proofs.YtbnnamejnjfkjaaGreatW.PrintWords Go.Proofs.YtbnnamejnjfkjaaGreatW.PrintLast Go.Proofs.YtbnnamejnjfkjaaGreatW.PrintMore
attribute [local go_sem] max2_int min2_int max_two min_two max_three min_three max_four min_four
set_option linter.unusedVariables false
set_option linter.unusedSimpArgs false
mutual
def spec_l01Made.l0:Nat→Int→List Int→Int→Int→List Int→Option (Int×List Int)
 |0,_,_,_,_,_=>none
 |k+1,x0,x1,x6,x230000,x230001=>(spec_l01All.f x0).bind fun t230=>(if x6≤t230 then (spec_l01Made.l1 k x0 x1 x6 0 x230000 x230001) else (some (x230000,x230001)))
def spec_l01Made.l1:Nat→Int→List Int→Int→Int→Int→List Int→Option (Int×List Int)
 |0,_,_,_,_,_,_=>none
 |k+1,x0,x1,x6,x7,x230000,x230001=>if x7<(x1.length:Int) then (if 0≤x7 then (if (Go.bits .and .i64 x6 (rd x1 x7))=x6 then (if x230001.length<17592186044416 then (spec_l01Made.l0 k x0 x1 (wrap64 (x6+1)) x230000 (x230001 ++ [x6])) else (none)) else (spec_l01Made.l1 k x0 x1 x6 (wrap64 (x7+1)) x230000 x230001)) else (none)) else (spec_l01Made.l0 k x0 x1 (wrap64 (x6+1)) x230000 x230001)
end
def spec_l01Made.f (k:Nat) (a0:Int) (l1:List Int):Option (Int×List Int):=spec_l01Made.l0 k a0 l1 1 a0 (([]:List Int))
theorem spec_l01Made.mono_l:∀ k,(∀ y0 y1 y2 y3 y4,LeO (spec_l01Made.l0 k y0 y1 y2 y3 y4) (spec_l01Made.l0 (k+1) y0 y1 y2 y3 y4))∧(∀ y0 y1 y2 y3 y4 y5,LeO (spec_l01Made.l1 k y0 y1 y2 y3 y4 y5) (spec_l01Made.l1 (k+1) y0 y1 y2 y3 y4 y5))
 |0=>⟨fun _ _ _ _ _ r h=>by simp [spec_l01Made.l0] at h,fun _ _ _ _ _ _ r h=>by simp [spec_l01Made.l1] at h⟩
 |k+1=>by
  obtain ⟨ih0,ih1⟩:=spec_l01Made.mono_l k;refine⟨?_,?_⟩
  ·intro y0 y1 y2 y3 y4;unfold spec_l01Made.l0;repeat' first
   |(with_reducible first|exact ih0 _ _ _ _ _|exact ih1 _ _ _ _ _ _|exact LeO.refl _|exact LeO.none _|refine LeO.ite ?_ ?_|refine LeO.bind ?_ (fun _=>?_))
  ·intro y0 y1 y2 y3 y4 y5;unfold spec_l01Made.l1;repeat' first
   |(with_reducible first|exact ih0 _ _ _ _ _|exact ih1 _ _ _ _ _ _|exact LeO.refl _|exact LeO.none _|refine LeO.ite ?_ ?_|refine LeO.bind ?_ (fun _=>?_))
theorem spec_l01Made.mono:∀ a0 a1 k,LeO (spec_l01Made.f k a0 a1) (spec_l01Made.f (k+1) a0 a1):=by
 intro a0 a1 k;obtain ⟨ih0,ih1⟩:=spec_l01Made.mono_l k;unfold spec_l01Made.f;repeat' first
   |(with_reducible first|exact ih0 _ _ _ _ _|exact ih1 _ _ _ _ _ _|exact LeO.refl _|exact LeO.none _|refine LeO.ite ?_ ?_|refine LeO.bind ?_ (fun _=>?_))
set_option maxHeartbeats 8000000 in
set_option maxRecDepth 100000 in
theorem spec_l01Made.calls (k:Nat) (a0:Int) (A1:Option Addr) (c1:Nat) (l1:List Int) (r1:Int) (r2:List Int) (w:World) (hr1:Kd.C (Kd.int .i64) w A1 l1.length l1) (hc1:l1.length≤c1) (h:spec_l01Made.f k a0 l1=some (r1,r2)) :
  Calls Tryz.prog 124 #[.int .i64 a0,.slice A1 l1.length c1] w fun e w'=>∃ v1_:Value,e = .returned (.agg #[.int .i64 r1,v1_])∧Kd.R (Kd.int .i64) 2 w' w.heap.size (fun _=>True) v1_ r2∧Below w.heap.size w w':=by
 have hu26:=Tryz.underlying26;have HR1:=Aside0.mk hr1;have HC1:=Aside0.mk hc1;clear hr1 hc1;have HB:=Aside0.mk (Below.refl w.heap.size w);have H:(spec_l01Made.l0 k a0 l1 1 a0 (([]:List Int)))=some (r1,r2):=h;clear h;obtain ⟨y226,hy226⟩:∃ y_:List Int,y_=(([]:List Int)):=⟨_,rfl⟩
 replace H:(spec_l01Made.l0 k a0 l1 1 a0 y226)=some (r1,r2):=by first|(rw[hy226];with_reducible exact H)|(have H2_:=(Option.bind_some _ _).symm.trans H;rw[hy226];with_reducible exact H2_)|(have H2_:=(Option.bind_some _ _).symm.trans H;with_reducible exact H2_)|with_reducible exact H|(rw[hy226];exact H)|exact H
 have Ny226:=Aside0.mk hy226;clear hy226;have H':=Aside0.mk H;clear H;go_enter Tryz.func124,Tryz.ntmps124;go_wp2_with (first|((with_reducible refine gate_dst (N:=4) rfl ?_);refine bx 4 #[.int .i64 0,.slice none 0 0] 26 ?_;intro gb225 hg w3 hbox hb;have BK225:=Aside0.mk (hbox);have GE225:=gzA hg HB;replace HB:=bsA HB hb;clear hb hbox hg)|((with_reducible refine gate_dst (N:=9) rfl ?_);refine Kd.R_lit (Kd.int .i64) _ 2 ?hg (N:=9) ?hd (xs:=([]:List Int)) (inner:= []) (ok:=fun _=>True) (okp:=fun _=>True) ?hr ?hp (fun _ hk=>hk) trivial (Below.refl _ _) (Nat.le_refl _) (by simp) ?_;(case hd=>rfl);(case hg=>rfl);(case hr=>first|(go_simp;done)|(go_simp;rfl));(case hp=>exact(Reps.none _ _));intro v227 w4 ho5 hb hg_ hnew_;clear hg_ hnew_;(first|rw[← Ny226.out] at ho5|(simp only [Int.reduceToNat] at ho5;rw[← Ny226.out] at ho5));have HO228:=klA ho5 HB;replace BK225:=bkA BK225 hb;replace HB:=bsA HB hb;clear hb ho5;obtain ⟨Ao6,co6,eo6⟩:=Kd.R_slice HO228.out;subst eo6)|((with_reducible refine gate_dst (N:=5) rfl ?_);refine bx 5 #[.int .i64 0,.slice none 0 0] 26 ?_;intro gb229 hg w7 hbox hb;replace HO228:=krA HO228 hb;have BK229:=Aside0.mk (hbox);have GE229:=gzA hg HB;replace HB:=bsA HB hb;have NB225_229:=nlA hg BK225;have NB229_225:=ngA hg BK225;replace BK225:=bkA BK225 hb;clear hb hbox hg;have hnb8:=NB229_225.out;have hnc8:=NB225_229.out;have hcz9_0:=z0_ BK229;have hcz9_1:=z1_ BK229;have hfz9_0:=hf_ BK229 0;have hfz9_1:=hf_ BK229 1))
 go_loopg [6] k (fun kq v6 w'=>∃(x6_1:Int) (x230001_1:List Int) (u230001:Value),v6 = .int .i64 x6_1∧Aside0 (spec_l01Made.l0 kq a0 l1 x6_1 a0 x230001_1=some (r1,r2))∧Aside0 (kq≤k)∧Aside0 (Kd.R (Kd.int .i64) 2 w' w.heap.size (fun _=>True) u230001 x230001_1)∧Aside0 (w'.heap[gb225]?=some (.cells #[.int .i64 0,(.slice none 0 0)] 26 (0,0)))∧Aside0 (w'.heap[gb229]?=some (.cells #[.int .i64 a0,u230001] 26 (0,0)))∧Aside0 (Below w.heap.size w w'))
 case atStart=>exact⟨(1),(y226),(.slice Ao6 y226.length co6),rs,H',⟨Nat.le_refl _⟩,⟨by(with_reducible repeat(first|apply Kd.R_alloc|apply Kd.R_drewN|apply Kd.R_drew));exact Kd.R_mono (Kd.R_far (p:=⟨gb229,1,none⟩) (Kd.R_far (p:=⟨gb229,0,none⟩) (Kd.R_types HO228.out BK229.out (by decide)) (fun _ hk=>hk.2) (.int .i64 a0)) (fun _ hk=>hk.2) (.slice Ao6 y226.length co6)) (fun _ hk=>trivial)⟩,⟨bp BK225.out⟩,⟨bp BK229.out⟩,⟨bl HB.out⟩⟩
 case round=>
  clear H';try clear c1
  try clear p2
  try clear c8
  try clear hcz9_0
  try clear hcz9_1
  try clear hfz9_0
  try clear hfz9_1
  obtain ⟨x6_1,x230001_1,u230001,rfl,HA,HK1,HO_230001,BK225,BK229,HB⟩:=hrel;cases gk with
  |zero=>exact absurd HA.out (by simp [spec_l01Made.l0])
  |succ k1=>
   have H:=HA.out;clear HA;simp only [spec_l01Made.l0] at H;replace H:=Option.bind_eq_some_iff.mp H;obtain ⟨t230,A100,H⟩:=H;replace H:(if x6_1≤t230 then (spec_l01Made.l1 k1 a0 l1 x6_1 0 a0 x230001_1) else (some (a0,x230001_1)))=some (r1,r2):=H;have A10:=Aside0.mk A100;clear A100;by_cases c11:x6_1≤t230
   ·rw[if_pos c11] at H;have c11b0:decide (x6_1≤t230)=true:=decide_eq_true c11;clear c11;have H':=Aside0.mk H;clear H;go_wp2_with (first|((with_reducible refine gate_callee (f:=91) rfl ?_);refine gl (some 13) Tryz.func91 #[.int .i64 a0] ?_;(with_reducible refine(spec_l01All.calls a0 t230 _ A10.out).mono ?_);rintro e w' ⟨rfl,⟨nd,rfl⟩⟩;refine⟨_,rfl,?_⟩))
    go_loopg [7] k1 (fun kq v7 w'=>∃(x7_2:Int) (x230001_2:List Int) (u230001:Value),v7 = .int .i64 x7_2∧Aside0 (spec_l01Made.l1 kq a0 l1 x6_1 x7_2 a0 x230001_2=some (r1,r2))∧Aside0 (kq≤k1)∧Aside0 (Kd.R (Kd.int .i64) 2 w' w.heap.size (fun _=>True) u230001 x230001_2)∧Aside0 (w'.heap[gb225]?=some (.cells #[.int .i64 0,(.slice none 0 0)] 26 (0,0)))∧Aside0 (w'.heap[gb229]?=some (.cells #[.int .i64 a0,u230001] 26 (0,0)))∧Aside0 (Below w.heap.size w w'))
    case atStart=>exact⟨(0),(x230001_1),(u230001),rs,H',⟨Nat.le_refl _⟩,⟨kr HO_230001.out⟩,⟨bk BK225.out⟩,⟨bk BK229.out⟩,⟨bl HB.out⟩⟩
    case round=>
     clear H';try clear c1
     try clear p2
     try clear c8
     try clear c9
     try clear c11
     try clear c11b0
     try clear hcz9_0
     try clear hcz9_1
     try clear hfz9_0
     try clear hfz9_1
     try clear p2
     obtain ⟨x7_2,x230001_2,u230001,rfl,HA,HK2,HO_230001,BK225,BK229,HB⟩:=hrel;cases gk with
     |zero=>exact absurd HA.out (by simp [spec_l01Made.l1])
     |succ k2=>
      have H:=HA.out;clear HA;simp only [spec_l01Made.l1] at H;by_cases c12:x7_2<(l1.length:Int)
      ·rw[if_pos c12] at H;have c12b0:decide (x7_2<(l1.length:Int))=true:=decide_eq_true c12;clear c12;by_cases c13:0≤x7_2
       ·rw[if_pos c13] at H;have c13b0:decide (0≤x7_2)=true:=decide_eq_true c13;clear c13;by_cases c14:(Go.bits .and .i64 x6_1 (rd l1 x7_2))=x6_1
        ·rw[if_pos c14] at H;have c14b0:((Go.bits .and .i64 x6_1 (rd l1 x7_2)) == x6_1)=true:=beq_iff_eq.mpr c14;have c14b1:((Go.bits .and .i64 x6_1 (rd l1 x7_2)) != x6_1)=false:=bne_eq_false_iff_eq.mpr c14;clear c14;by_cases c15:x230001_2.length<17592186044416
         ·rw[if_pos c15] at H;have LMc15:=Aside0.mk c15;clear c15;obtain ⟨y232,hy232⟩:∃ y_:List Int,y_=(x230001_2 ++ [x6_1]):=⟨_,rfl⟩
          replace H:(spec_l01Made.l0 k2 a0 l1 (wrap64 (x6_1+1)) a0 y232)=some (r1,r2):=by first|(rw[hy232];with_reducible exact H)|(have H2_:=(Option.bind_some _ _).symm.trans H;rw[hy232];with_reducible exact H2_)|(have H2_:=(Option.bind_some _ _).symm.trans H;with_reducible exact H2_)|with_reducible exact H|(rw[hy232];exact H)|exact H
          have Ny232:=Aside0.mk hy232;clear hy232;have H':=Aside0.mk H;clear H;have p231:0≤(x7_2:Int):=dd;have q231:x7_2<(l1.length:Int):=dd;obtain ⟨ad231,e231,hx231_0⟩:=Kd.at_int HR1.out x7_2 p231 q231;cases e231;replace hx231_0:=hx_ HB hx231_0;replace p231:=eq_true p231;replace q231:=eq_true q231;have hnb16:=NB229_225.out;have hnc16:=NB225_229.out;have hcz17_0:=z0_ BK229;have hcz17_1:=z1_ BK229;have hfz17_0:=hf_ BK229 0;have hfz17_1:=hf_ BK229 1;go_wp2_with (first|((with_reducible refine gate_builtin (b:= .append) (xs:=#[.tmp 32,.tmp 34]) rfl ?_);at_builtin;refine Kd.R_append (Kd.int .i64) (w0:=w) w.heap.size rfl (.tmp 32) (.tmp 34) 24 2 (.int .i64 0) 8 rfl Tryz.underlying24 info2 rfl (by decide) (by omega) u230001 x230001_2 x6_1 [.int .i64 x6_1] (fun _=>True) (fun _=>False) rfl rfl ?aP (fun _ hk=>hk.elim) ?aF ?aO ?aB ?aS ?aL ?_;(case aP=>exact rfl);(case aB=>exact(bl HB.out));(case aF=>exact(fun _ _=>trivial));(case aO=>exact(kr HO_230001.out));(case aS=>exact(below_size (bl HB.out)));(case aL=>have:=LMc15.out;omega);intro v233 w18 ho hb hg hat;rw[← Ny232.out] at ho;have n0_:=Aside0.mk (blk_grown (bk BK225.out) hg (Kd.R_ne HO_230001.out BK225.out (by decide)));have n1_:=Aside0.mk (blk_grown (bk BK229.out) hg (Kd.R_ne HO_230001.out BK229.out (by decide)));have n2_:=Aside0.mk (hb);have n3_:=Aside0.mk (ho);clear BK225;clear BK229;clear HB;clear HO_230001;have BK225:=n0_;have BK229:=n1_;have HB:=n2_;have HO234:=n3_;clear n0_ n1_ n2_ n3_;clear ho hb hg hat;obtain ⟨Ao19,co19,eo19⟩:=Kd.R_slice HO234.out;subst eo19;have hcz20_0:=z0_ BK229;have hcz20_1:=z1_ BK229;have hfz20_0:=hf_ BK229 0;have hfz20_1:=hf_ BK229 1))
          go_roundg k2
          case measure=>have:=HK1.out;have:=HK2.out;omega
          case rel=>exact⟨(wrap64 (x6_1+1)),(y232),(.slice Ao19 y232.length co19),rs,H',⟨by have:=HK1.out;have:=HK2.out;omega⟩,⟨by(with_reducible repeat(first|apply Kd.R_alloc|apply Kd.R_drewN|apply Kd.R_drew));exact Kd.R_mono (Kd.R_far (p:=⟨gb229,1,none⟩) (Kd.R_types HO234.out BK229.out (by decide)) (fun _ hk=>hk.2) (.slice Ao19 y232.length co19)) (fun _ hk=>trivial)⟩,⟨bp BK225.out⟩,⟨bp BK229.out⟩,⟨bl HB.out⟩⟩
         ·rw[if_neg c15] at H;exact absurd H (by simp)
        ·rw[if_neg c14] at H;have c14b0:((Go.bits .and .i64 x6_1 (rd l1 x7_2)) == x6_1)=false:=beq_eq_false_iff_ne.mpr c14;have c14b1:((Go.bits .and .i64 x6_1 (rd l1 x7_2)) != x6_1)=true:=bne_iff_ne.mpr c14;have H':=Aside0.mk H;clear H;have p231:0≤(x7_2:Int):=dd;have q231:x7_2<(l1.length:Int):=dd;obtain ⟨ad231,e231,hx231_0⟩:=Kd.at_int HR1.out x7_2 p231 q231;cases e231;replace hx231_0:=hx_ HB hx231_0;replace p231:=eq_true p231;replace q231:=eq_true q231;go_wp2
         go_roundg k2
         case measure=>have:=HK1.out;have:=HK2.out;omega
         case rel=>exact⟨(wrap64 (x7_2+1)),(x230001_2),(u230001),rs,H',⟨by have:=HK1.out;have:=HK2.out;omega⟩,⟨kr HO_230001.out⟩,⟨bk BK225.out⟩,⟨bk BK229.out⟩,⟨bl HB.out⟩⟩
       ·rw[if_neg c13] at H;exact absurd H (by simp)
      ·rw[if_neg c12] at H;have c12b0:decide (x7_2<(l1.length:Int))=false:=decide_eq_false c12;clear c12;have H':=Aside0.mk H;clear H;go_wp2
       go_roundg k2
       case measure=>have:=HK1.out;have:=HK2.out;omega
       case rel=>exact⟨(wrap64 (x6_1+1)),(x230001_2),(u230001),rs,H',⟨by have:=HK1.out;have:=HK2.out;omega⟩,⟨kr HO_230001.out⟩,⟨bk BK225.out⟩,⟨bk BK229.out⟩,⟨bl HB.out⟩⟩
   ·rw[if_neg c11] at H;have c11b0:decide (x6_1≤t230)=false:=decide_eq_false c11;clear c11;simp only [Option.some.injEq,Prod.mk.injEq] at H;obtain ⟨rfl,rfl⟩:=H;go_wp2_with (first|((with_reducible refine gate_callee (f:=91) rfl ?_);refine gl (some 13) Tryz.func91 #[.int .i64 a0] ?_;(with_reducible refine(spec_l01All.calls a0 t230 _ A10.out).mono ?_);rintro e w' ⟨rfl,⟨nd,rfl⟩⟩;refine⟨_,rfl,?_⟩;(try(rw[drewN_self wr];generalize hq_:World.drewN wr _=wr;have n0_:Aside0 (Kd.R (Kd.int .i64) 2 wr w.heap.size (fun _=>True) u230001 x230001_1):=⟨by rw[← hq_];exact(kr HO_230001.out)⟩;have n1_:Aside0 (wr.heap[gb225]?=some (.cells #[.int .i64 0,.slice none 0 0] 26 (0,0))):=⟨by rw[← hq_];exact(bk BK225.out)⟩;have n2_:Aside0 (wr.heap[gb229]?=some (.cells #[.int .i64 a0,u230001] 26 (0,0))):=⟨by rw[← hq_];exact(bk BK229.out)⟩;have n3_:Aside0 (Below w.heap.size w wr):=⟨by rw[← hq_];exact(bl HB.out)⟩;clear HO_230001 BK225 BK229 HB hq_;have HO_230001:=n0_;have BK225:=n1_;have BK229:=n2_;have HB:=n3_;clear n0_ n1_ n2_ n3_));have hnb21:=NB229_225.out;have hnc21:=NB225_229.out;have hcz22_0:=z0_ BK229;have hcz22_1:=z1_ BK229;have hfz22_0:=hf_ BK229 0;have hfz22_1:=hf_ BK229 1;have hcz23_0:=z0_ BK225;have hcz23_1:=z1_ BK225;have hfz23_0:=hf_ BK225 0;have hfz23_1:=hf_ BK225 1;obtain ⟨Ao24,co24,eo24⟩:=Kd.R_slice HO_230001.out;subst eo24))
    refine bodyPost_ret (results_cell_row rfl _ _ gb225 26 #[.int .i64 a0,.slice Ao24 x230001_1.length co24] (0,0) _ rfl (bp BK225.out) Tryz.underlying26 rfl (by kernel_rfl)) rfl ?_;exact⟨_,rr,by(with_reducible repeat(first|apply Kd.R_alloc|apply Kd.R_drewN|apply Kd.R_drew));exact Kd.R_mono (Kd.R_far (p:=⟨gb225,1,none⟩) (Kd.R_far (p:=⟨gb225,0,none⟩) (Kd.R_types HO_230001.out BK225.out (by decide)) (fun _ hk=>hk.2) (.int .i64 a0)) (fun _ hk=>hk.2) (.slice Ao24 x230001_1.length co24)) (fun _ hk=>trivial),bl HB.out⟩
def spec_l01Moved.l0:Nat→Int→List Int→Int→Int→Option (Int)
 |0,_,_,_,_=>none
 |k+1,x0,x1,x5,x6=>if x6<(x1.length:Int) then (if 0≤(IntKind.u64.wrap (x6)) then (if (Go.bits .and .i64 (shr .i64 x0 (IntKind.u64.wrap (x6))) 1)=1 then (if 0≤x6 then (if 0≤(IntKind.u64.wrap (rd x1 x6)) then (spec_l01Moved.l0 k x0 x1 (Go.bits .or .i64 x5 (shl .i64 1 (IntKind.u64.wrap (rd x1 x6)))) (wrap64 (x6+1))) else (none)) else (none)) else (spec_l01Moved.l0 k x0 x1 x5 (wrap64 (x6+1)))) else (none)) else (some x5)
def spec_l01Moved.f (k:Nat) (a0:Int) (l1:List Int):Option (Int):=spec_l01Moved.l0 k a0 l1 0 0
theorem spec_l01Moved.mono_l:∀ k,(∀ y0 y1 y2 y3,LeO (spec_l01Moved.l0 k y0 y1 y2 y3) (spec_l01Moved.l0 (k+1) y0 y1 y2 y3))
 |0=>fun _ _ _ _ r h=>by simp [spec_l01Moved.l0] at h
 |k+1=>by
  have ih0:=spec_l01Moved.mono_l k
  ·intro y0 y1 y2 y3;unfold spec_l01Moved.l0;repeat' first
   |(with_reducible first|exact ih0 _ _ _ _|exact LeO.refl _|exact LeO.none _|refine LeO.ite ?_ ?_|refine LeO.bind ?_ (fun _=>?_))
theorem spec_l01Moved.mono:∀ a0 a1 k,LeO (spec_l01Moved.f k a0 a1) (spec_l01Moved.f (k+1) a0 a1):=by
 intro a0 a1 k;have ih0:=spec_l01Moved.mono_l k;unfold spec_l01Moved.f;repeat' first
   |(with_reducible first|exact ih0 _ _ _ _|exact LeO.refl _|exact LeO.none _|refine LeO.ite ?_ ?_|refine LeO.bind ?_ (fun _=>?_))
set_option maxHeartbeats 8000000 in
set_option maxRecDepth 100000 in
theorem spec_l01Moved.calls (k:Nat) (a0:Int) (A1:Option Addr) (c1:Nat) (l1:List Int) (r:Int) (w:World) (hr1:Kd.C (Kd.int .i64) w A1 l1.length l1) (hc1:l1.length≤c1) (h:spec_l01Moved.f k a0 l1=some r) :
  Calls Tryz.prog 134 #[.int .i64 a0,.slice A1 l1.length c1] w fun e w'=>e = .returned (.int .i64 r)∧Drawn0 w w':=by
 have HR1:=Aside0.mk hr1;have HC1:=Aside0.mk hc1;clear hr1 hc1;have H:(spec_l01Moved.l0 k a0 l1 0 0)=some r:=h;clear h;have H':=Aside0.mk H;clear H;go_enter Tryz.func134,Tryz.ntmps134;go_wp2
 go_loopg [5,6] k (fun kq v5 v6 w'=>∃(x5_1:Int) (x6_1:Int),v5 = .int .i64 x5_1∧v6 = .int .i64 x6_1∧Aside0 (spec_l01Moved.l0 kq a0 l1 x5_1 x6_1=some r)∧Aside0 (kq≤k)∧Drawn0 w w')
 case atStart=>exact⟨(0),(0),rs,rs,H',⟨Nat.le_refl _⟩,by repeat(first|exact Drawn0.refl _|apply Drawn0.step)⟩
 case round=>
  clear H';try clear c1
  try clear p2
  obtain ⟨x5_1,x6_1,rfl,rfl,HA,HK1,⟨m1,rfl⟩⟩:=hrel;cases gk with
  |zero=>exact absurd HA.out (by simp [spec_l01Moved.l0])
  |succ k1=>
   have H:=HA.out;clear HA;simp only [spec_l01Moved.l0] at H;by_cases c3:x6_1<(l1.length:Int)
   ·rw[if_pos c3] at H;have c3b0:decide (x6_1<(l1.length:Int))=true:=decide_eq_true c3;clear c3;obtain ⟨ji4,hji4⟩:∃ j_:Int,(IntKind.u64.wrap (x6_1))=j_:=⟨_,rfl⟩
    replace H:(if 0≤(ji4) then (if (Go.bits .and .i64 (shr .i64 a0 (ji4)) 1)=1 then (if 0≤x6_1 then (if 0≤(IntKind.u64.wrap (rd l1 x6_1)) then (spec_l01Moved.l0 k1 a0 l1 (Go.bits .or .i64 x5_1 (shl .i64 1 (IntKind.u64.wrap (rd l1 x6_1)))) (wrap64 (x6_1+1))) else (none)) else (none)) else (spec_l01Moved.l0 k1 a0 l1 x5_1 (wrap64 (x6_1+1)))) else (none))=some r:=by first|(rw[hji4] at H;exact H)|(simp only [hji4] at H ⊢;exact H)
    by_cases c5:0≤(ji4)
    ·rw[if_pos c5] at H;have c5b0:=eq_true c5;have c5b1:decide (0≤(ji4))=true:=decide_eq_true c5;clear c5;obtain ⟨ji6,hji6⟩:∃ j_:Int,(shr .i64 a0 (ji4))=j_:=⟨_,rfl⟩
     replace H:(if (Go.bits .and .i64 (ji6) 1)=1 then (if 0≤x6_1 then (if 0≤(IntKind.u64.wrap (rd l1 x6_1)) then (spec_l01Moved.l0 k1 a0 l1 (Go.bits .or .i64 x5_1 (shl .i64 1 (IntKind.u64.wrap (rd l1 x6_1)))) (wrap64 (x6_1+1))) else (none)) else (none)) else (spec_l01Moved.l0 k1 a0 l1 x5_1 (wrap64 (x6_1+1))))=some r:=by first|(rw[hji6] at H;exact H)|(simp only [hji6] at H ⊢;exact H)
     have hji6_:(a0 / 2 ^ min (ji4).toNat 64)=ji6:=hji6;have hji6z:(ji4)≤64→(a0 / 2 ^ (ji4).toNat)=ji6:=shr_small hji6;by_cases c7:(Go.bits .and .i64 (ji6) 1)=1
     ·rw[if_pos c7] at H;have c7b0:((Go.bits .and .i64 (ji6) 1) == 1)=true:=beq_iff_eq.mpr c7;have c7b1:((Go.bits .and .i64 (ji6) 1) != 1)=false:=bne_eq_false_iff_eq.mpr c7;clear c7;by_cases c8:0≤x6_1
      ·rw[if_pos c8] at H;have c8b0:decide (0≤x6_1)=true:=decide_eq_true c8;clear c8;obtain ⟨ji9,hji9⟩:∃ j_:Int,(IntKind.u64.wrap (rd l1 x6_1))=j_:=⟨_,rfl⟩
       replace H:(if 0≤(ji9) then (spec_l01Moved.l0 k1 a0 l1 (Go.bits .or .i64 x5_1 (shl .i64 1 (ji9))) (wrap64 (x6_1+1))) else (none))=some r:=by first|(rw[hji9] at H;exact H)|(simp only [hji9] at H ⊢;exact H)
       by_cases c10:0≤(ji9)
       ·rw[if_pos c10] at H;have c10b0:=eq_true c10;have c10b1:decide (0≤(ji9))=true:=decide_eq_true c10;clear c10;obtain ⟨ji11,hji11⟩:∃ j_:Int,(shl .i64 1 (ji9))=j_:=⟨_,rfl⟩
        replace H:(spec_l01Moved.l0 k1 a0 l1 (Go.bits .or .i64 x5_1 (ji11)) (wrap64 (x6_1+1)))=some r:=by first|(rw[hji11] at H;exact H)|(simp only [hji11] at H ⊢;exact H)
        have hji11_:(IntKind.i64.wrap (1*2 ^ min (ji9).toNat 64))=ji11:=hji11;have hji11z:(ji9)≤64→(IntKind.i64.wrap (1*2 ^ (ji9).toNat))=ji11:=shl_small hji11;have hji11u:(IntKind.i64.wrap (2 ^ min (ji9).toNat 64))=ji11:=by have h_:=hji11_;rw[Int.one_mul] at h_;exact h_
        have hji11v:(ji9)≤64→(IntKind.i64.wrap (2 ^ (ji9).toNat))=ji11:=fun hle_=>by have h_:=hji11z hle_;rw[Int.one_mul] at h_;exact h_
        have hji11y:(wrap64 (1*2 ^ min (ji9).toNat 64))=ji11:=(i64_w _).symm.trans hji11_;have hji11x:(ji9)≤64→(wrap64 (1*2 ^ (ji9).toNat))=ji11:=fun h_=>(i64_w _).symm.trans (hji11z h_)
        have H':=Aside0.mk H;clear H;have p235:0≤(x6_1:Int):=dd;have q235:x6_1<(l1.length:Int):=dd;obtain ⟨ad235,e235,hx235_0⟩:=Kd.at_int HR1.out x6_1 p235 q235;cases e235;replace p235:=eq_true p235;replace q235:=eq_true q235;go_wp2
        go_roundg k1
        case measure=>have:=HK1.out;omega
        case rel=>exact⟨(Go.bits .or .i64 x5_1 (ji11)),(wrap64 (x6_1+1)),(by first|rfl|(simp;done)|(simp only [← hji11] <;> (first|rfl|simp))|(simp [*];done)),rs,H',⟨by have:=HK1.out;omega⟩,by repeat(first|exact Drawn0.refl _|apply Drawn0.step)⟩
       ·rw[if_neg c10] at H;exact absurd H (by simp)
      ·rw[if_neg c8] at H;exact absurd H (by simp)
     ·rw[if_neg c7] at H;have c7b0:((Go.bits .and .i64 (ji6) 1) == 1)=false:=beq_eq_false_iff_ne.mpr c7;have c7b1:((Go.bits .and .i64 (ji6) 1) != 1)=true:=bne_iff_ne.mpr c7;have H':=Aside0.mk H;clear H;go_wp2
      go_roundg k1
      case measure=>have:=HK1.out;omega
      case rel=>exact⟨(x5_1),(wrap64 (x6_1+1)),rs,rs,H',⟨by have:=HK1.out;omega⟩,by repeat(first|exact Drawn0.refl _|apply Drawn0.step)⟩
    ·rw[if_neg c5] at H;exact absurd H (by simp)
   ·rw[if_neg c3] at H;have c3b0:decide (x6_1<(l1.length:Int))=false:=decide_eq_false c3;clear c3;obtain rfl:=Option.some.inj H;go_wp2
    go_ret;exact⟨rs,by repeat(first|exact Drawn0.refl _|apply Drawn0.step)⟩
end Go.Proofs.YtbnnamejnjfkjaaGreat.Q
end

section
namespace Go.Proofs.YtbnnamejnjfkjaaGreat.K
open Go.RowKit Go.Shelf Go.Proofs.YtbnnamejnjfkjaaGreat.Q Go.Proofs.YtbnnamejnjfkjaaGreatW.PrintWords Go.Proofs.YtbnnamejnjfkjaaGreatW.PrintLast Go.Proofs.YtbnnamejnjfkjaaGreatW.PrintMore
set_option linter.unusedVariables false
set_option linter.unusedSimpArgs false
theorem specMade_l1 (n:Int) (sets:List Int) (hl:sets.length≤2097152) (x:Int) (acc:List Int) (ha:acc.length≤1000000) (R:Nat) (b:Bool) (r:Int×List Int)
  (h:∀ k,R≤k→spec_l01Made.l0 k n sets (wrap64 (x+1)) n (if b then acc ++ [x] else acc)=some r) :
  ∀(d i k:Nat),sets.length - i=d→i≤sets.length→R+d<k→(sets.drop i).any (fun s=>decide (Go.bits .and .i64 x s=x))=b →
  spec_l01Made.l1 k n sets x (i:Int) n acc=some r:=by
 intro d
 induction d with
 |zero=>
  intro i k hd hi hk hb
  obtain ⟨k,rfl⟩:∃ m,k=m+1:=⟨k - 1,by omega⟩
  obtain rfl:i=sets.length:=by omega
  simp at hb
  subst hb
  simp only [spec_l01Made.l1]
  rw[if_neg (by omega)]
  exact h k (by omega)
 |succ d ih=>
  intro i k hd hi hk hb
  obtain ⟨k,rfl⟩:∃ m,k=m+1:=⟨k - 1,by omega⟩
  simp only [spec_l01Made.l1]
  have hil:i<sets.length:=by omega
  rw[List.drop_eq_getElem_cons hil,List.any_cons] at hb
  rw[if_pos (by omega),if_pos (by omega),rd_nat sets i hil,w64 ((i:Int)+1) (by omega) (by omega),nat_succ]
  by_cases hx:Go.bits .and .i64 x sets[i]=x
  ·have e:b=true:=by rw[← hb];simp [hx]
   rw[e] at h
   rw[if_pos hx,if_pos (by omega)]
   exact h k (by omega)
  ·rw[if_neg hx]
   exact ih (i+1) k (by omega) (by omega) (by omega) (by rw[← hb];simp [hx])
end Go.Proofs.YtbnnamejnjfkjaaGreat.K
end

section
namespace Go.Proofs.YtbnnamejnjfkjaaGreat.K
open Go.RowKit Go.Shelf Go.Proofs.YtbnnamejnjfkjaaGreat.Q Go.Proofs.YtbnnamejnjfkjaaGreatW.PrintWords Go.Proofs.YtbnnamejnjfkjaaGreatW.PrintLast Go.Proofs.YtbnnamejnjfkjaaGreatW.PrintMore
set_option linter.unusedVariables false
set_option linter.unusedSimpArgs false
theorem specMade_g0 (n:Int) (hn:1≤n∧n≤6) (sets:List Int) (hs:sets.length≤2097152) (M:Nat) (hM:sets.length+6≤M) (p:Int→Bool) (hp:∀ x,1≤x→x≤fullOf n→p x=sets.any (fun s=>decide (Go.bits .and .i64 x s=x))) :
  ∀(d m k:Nat),2 ^ n.toNat - 1 - m=d→m≤2 ^ n.toNat - 1→M*d+1<k →
  spec_l01Made.l0 k n sets ((m:Int)+1) n ((upTo m).filter p)=some (n,thoseL n p):=by
 have hF:=full_range n hn
 have hFN:=full_nat n
 obtain ⟨N,hN⟩:∃ N,N=2 ^ n.toNat - 1:=⟨_,rfl⟩
 have hTh:thoseL n p=(upTo N).filter p:=by rw[hN];rfl
 rw[← hN] at hFN
 rw[← hN,hTh]
 clear hN hTh
 intro d
 induction d with
 |zero=>
  intro m k hd hm hk
  obtain ⟨k,rfl⟩:∃ m,k=m+1:=⟨k - 1,by omega⟩
  simp only [spec_l01Made.l0]
  rw[specAll_is n (by omega) (by omega)]
  simp only [Option.bind_some]
  rw[if_neg (by omega)]
  obtain rfl:m=N:=by omega
  rfl
 |succ d ih=>
  intro m k hd hm hk
  rw[Nat.mul_succ] at hk
  obtain ⟨Z,hZ⟩:∃ Z,Z=M*d:=⟨_,rfl⟩
  rw[← hZ] at hk ih
  clear hZ
  obtain ⟨k,rfl⟩:∃ m,k=m+1:=⟨k - 1,by omega⟩
  simp only [spec_l01Made.l0]
  rw[specAll_is n (by omega) (by omega)]
  simp only [Option.bind_some]
  rw[if_pos (by omega)]
  have hlen:=upTo_filter_length p m
  have hq:=hp ((m:Int)+1) (by omega) (by omega)
  have HW:Aside0 (wrap64 ((m:Int)+1+1)=((m+1:Nat):Int)+1):=⟨by rw[w64 _ (by omega) (by omega)];omega⟩
  have e:(if p ((m:Int)+1)=true then (upTo m).filter p ++ [(m:Int)+1] else (upTo m).filter p)=(upTo (m+1)).filter p:=by
   rw[upTo_succ,List.filter_append]
   cases hc:p ((m:Int)+1) <;> simp [hc]
  exact specMade_l1 n sets hs ((m:Int)+1) ((upTo m).filter p) (by omega) (Z+2) (p ((m:Int)+1)) _ (fun k hk=>by rw[HW.out,e];exact ih (m+1) k (by omega) (by omega) (by omega))
   sets.length 0 k (by omega) (by omega) (by omega) hq.symm
end Go.Proofs.YtbnnamejnjfkjaaGreat.K
end

section
namespace Go.Proofs.YtbnnamejnjfkjaaGreat.Q
open Go.RowKit Go.Proofs.YtbnnamejnjfkjaaGreatW.PrintWords Go.Proofs.YtbnnamejnjfkjaaGreatW.PrintLast Go.Proofs.YtbnnamejnjfkjaaGreatW.PrintMore
attribute [local go_sem] max2_int min2_int max_two min_two max_three min_three max_four min_four
set_option linter.unusedVariables false
set_option linter.unusedSimpArgs false
def spec_l01Face.f (k:Nat) (a0_0:Int) (l0_1:List Int) (a1:Int):Option (Int):=(spec_l01Is.f k a0_0 l0_1).bind fun t123=>(if t123=true then ((spec_l01Has.f k a0_0 l0_1 a1).bind fun t124=>(if t124=true then (some 0) else (some 2))) else (some 1))
theorem spec_l01Face.mono:∀ a0 a1 a2 k,LeO (spec_l01Face.f k a0 a1 a2) (spec_l01Face.f (k+1) a0 a1 a2):=by
 intro a0 a1 a2 k;unfold spec_l01Face.f;repeat' first
   |(with_reducible first|exact spec_l01Has.mono _ _ _ _|exact spec_l01Is.mono _ _ _|exact LeO.refl _|exact LeO.none _|refine LeO.ite ?_ ?_|refine LeO.bind ?_ (fun _=>?_))
set_option maxHeartbeats 8000000 in
set_option maxRecDepth 100000 in
theorem spec_l01Face.calls (k:Nat) (a0_0:Int) (A0_1:Option Addr) (c0_1:Nat) (l0_1:List Int) (a1:Int) (r:Int) (w:World) (hr0_1:Kd.C (Kd.int .i64) w A0_1 l0_1.length l0_1) (hc0_1:l0_1.length≤c0_1) (h:spec_l01Face.f k a0_0 l0_1 a1=some r) :
  Calls Tryz.prog 57 #[.agg #[.int .i64 a0_0,.slice A0_1 l0_1.length c0_1],.int .i64 a1] w fun e w'=>e = .returned (.int .i64 r)∧Below w.heap.size w w':=by
 have hu26:=Tryz.underlying26;have HR0_1:=Aside0.mk hr0_1;have HC0_1:=Aside0.mk hc0_1;clear hr0_1 hc0_1;have HB:=Aside0.mk (Below.refl w.heap.size w);have H:((spec_l01Is.f k a0_0 l0_1).bind fun t123=>(if t123=true then ((spec_l01Has.f k a0_0 l0_1 a1).bind fun t124=>(if t124=true then (some 0) else (some 2))) else (some 1)))=some r:=h;clear h;replace H:=Option.bind_eq_some_iff.mp H;obtain ⟨t123,A30,H⟩:=H;replace H:(if t123=true then ((spec_l01Has.f k a0_0 l0_1 a1).bind fun t124=>(if t124=true then (some 0) else (some 2))) else (some 1))=some r:=H;have A3:=Aside0.mk A30;clear A30;by_cases c4:t123=true
 ·subst c4;have H1:((spec_l01Has.f k a0_0 l0_1 a1).bind fun t124=>(if t124=true then (some 0) else (some 2)))=some r:=by rw[if_pos rfl] at H;exact H
  clear H;have H:=H1;clear H1;replace H:=Option.bind_eq_some_iff.mp H;obtain ⟨t124,A50,H⟩:=H;replace H:(if t124=true then (some 0) else (some 2))=some r:=H;have A5:=Aside0.mk A50;clear A50;by_cases c6:t124=true
  ·subst c6;have H1:(some 0)=some r:=by rw[if_pos rfl] at H;exact H
   clear H;have H:=H1;clear H1;obtain rfl:=Option.some.inj H;go_enter Tryz.func57,Tryz.ntmps57;go_wp2_with (first|((with_reducible refine gate_dst (N:=2) rfl ?_);refine bx 2 #[.int .i64 a0_0,.slice A0_1 l0_1.length c0_1] 26 ?_;intro gb122 hg w7 hbox hb;have BK122:=Aside0.mk (hbox);have GE122:=gzA hg HB;replace HB:=bsA HB hb;clear hb hbox hg;have hcz8_0:=z0_ BK122;have hcz8_1:=z1_ BK122;have hfz8_0:=hf_ BK122 0;have hfz8_1:=hf_ BK122 1)|((with_reducible refine gate_callee (f:=71) rfl ?_);refine gl (some 7) Tryz.func71 #[.agg #[.int .i64 a0_0,.slice A0_1 l0_1.length c0_1]] ?_;(with_reducible refine(spec_l01Is.calls k a0_0 _ _ l0_1 true _ (cb (Kd.C_below HR0_1.out HB.out)) HC0_1.out A3.out).mono ?_);rintro e w9 ⟨rfl,hb⟩;refine⟨_,rfl,?_⟩;replace BK122:=bkA BK122 hb;replace HB:=bsA HB hb;(try clear hb);(try clear hb2);(try clear hk);(try clear hi);have hcz10_0:=z0_ BK122;have hcz10_1:=z1_ BK122;have hfz10_0:=hf_ BK122 0;have hfz10_1:=hf_ BK122 1)|((with_reducible refine gate_callee (f:=61) rfl ?_);refine gl (some 12) Tryz.func61 #[.agg #[.int .i64 a0_0,.slice A0_1 l0_1.length c0_1],.int .i64 a1] ?_;(with_reducible refine(spec_l01Has.calls k a0_0 _ _ l0_1 a1 true _ (cb (Kd.C_below HR0_1.out HB.out)) HC0_1.out A5.out).mono ?_);rintro e w11 ⟨rfl,hb⟩;refine⟨_,rfl,?_⟩;replace BK122:=bkA BK122 hb;replace HB:=bsA HB hb;(try clear hb);(try clear hb2);(try clear hk);(try clear hi)))
   go_ret;exact⟨rr,bl HB.out⟩
  ·replace c6:=Bool.eq_false_iff.mpr c6;subst c6;have H1:(some 2)=some r:=by rw[if_neg (show ¬ (false=true) by decide)] at H;exact H
   clear H;have H:=H1;clear H1;obtain rfl:=Option.some.inj H;go_enter Tryz.func57,Tryz.ntmps57;go_wp2_with (first|((with_reducible refine gate_dst (N:=2) rfl ?_);refine bx 2 #[.int .i64 a0_0,.slice A0_1 l0_1.length c0_1] 26 ?_;intro gb122 hg w12 hbox hb;have BK122:=Aside0.mk (hbox);have GE122:=gzA hg HB;replace HB:=bsA HB hb;clear hb hbox hg;have hcz13_0:=z0_ BK122;have hcz13_1:=z1_ BK122;have hfz13_0:=hf_ BK122 0;have hfz13_1:=hf_ BK122 1)|((with_reducible refine gate_callee (f:=71) rfl ?_);refine gl (some 7) Tryz.func71 #[.agg #[.int .i64 a0_0,.slice A0_1 l0_1.length c0_1]] ?_;(with_reducible refine(spec_l01Is.calls k a0_0 _ _ l0_1 true _ (cb (Kd.C_below HR0_1.out HB.out)) HC0_1.out A3.out).mono ?_);rintro e w14 ⟨rfl,hb⟩;refine⟨_,rfl,?_⟩;replace BK122:=bkA BK122 hb;replace HB:=bsA HB hb;(try clear hb);(try clear hb2);(try clear hk);(try clear hi);have hcz15_0:=z0_ BK122;have hcz15_1:=z1_ BK122;have hfz15_0:=hf_ BK122 0;have hfz15_1:=hf_ BK122 1)|((with_reducible refine gate_callee (f:=61) rfl ?_);refine gl (some 12) Tryz.func61 #[.agg #[.int .i64 a0_0,.slice A0_1 l0_1.length c0_1],.int .i64 a1] ?_;(with_reducible refine(spec_l01Has.calls k a0_0 _ _ l0_1 a1 false _ (cb (Kd.C_below HR0_1.out HB.out)) HC0_1.out A5.out).mono ?_);rintro e w16 ⟨rfl,hb⟩;refine⟨_,rfl,?_⟩;replace BK122:=bkA BK122 hb;replace HB:=bsA HB hb;(try clear hb);(try clear hb2);(try clear hk);(try clear hi)))
   go_ret;exact⟨rr,bl HB.out⟩
 ·replace c4:=Bool.eq_false_iff.mpr c4;subst c4;have H1:(some 1)=some r:=by rw[if_neg (show ¬ (false=true) by decide)] at H;exact H
  clear H;have H:=H1;clear H1;obtain rfl:=Option.some.inj H;go_enter Tryz.func57,Tryz.ntmps57;go_wp2_with (first|((with_reducible refine gate_dst (N:=2) rfl ?_);refine bx 2 #[.int .i64 a0_0,.slice A0_1 l0_1.length c0_1] 26 ?_;intro gb122 hg w17 hbox hb;have BK122:=Aside0.mk (hbox);have GE122:=gzA hg HB;replace HB:=bsA HB hb;clear hb hbox hg;have hcz18_0:=z0_ BK122;have hcz18_1:=z1_ BK122;have hfz18_0:=hf_ BK122 0;have hfz18_1:=hf_ BK122 1)|((with_reducible refine gate_callee (f:=71) rfl ?_);refine gl (some 7) Tryz.func71 #[.agg #[.int .i64 a0_0,.slice A0_1 l0_1.length c0_1]] ?_;(with_reducible refine(spec_l01Is.calls k a0_0 _ _ l0_1 false _ (cb (Kd.C_below HR0_1.out HB.out)) HC0_1.out A3.out).mono ?_);rintro e w19 ⟨rfl,hb⟩;refine⟨_,rfl,?_⟩;replace BK122:=bkA BK122 hb;replace HB:=bsA HB hb;(try clear hb);(try clear hb2);(try clear hk);(try clear hi)))
  go_ret;exact⟨rr,bl HB.out⟩
end Go.Proofs.YtbnnamejnjfkjaaGreat.Q
end

section
namespace Go.Proofs.YtbnnamejnjfkjaaGreat.Q
open Go.RowKit Go.Proofs.YtbnnamejnjfkjaaGreatW.PrintWords Go.Proofs.YtbnnamejnjfkjaaGreatW.PrintLast Go.Proofs.YtbnnamejnjfkjaaGreatW.PrintMore
attribute [local go_sem] max2_int min2_int max_two min_two max_three min_three max_four min_four
set_option linter.unusedVariables false
set_option linter.unusedSimpArgs false
def spec_l01Own.f (l0:List Int):Option (List Int):=(some (([]:List Int):List Int)).bind fun y176=>(if y176.length+l0.length<17592186044416 then (some (y176 ++ l0)) else (none))
set_option maxHeartbeats 8000000 in
set_option maxRecDepth 100000 in
theorem spec_l01Own.calls (A0:Option Addr) (c0:Nat) (l0:List Int) (r:List Int) (w:World) (hr0:Kd.C (Kd.int .i64) w A0 l0.length l0) (hc0:l0.length≤c0) (h:spec_l01Own.f l0=some r) :
  Calls Tryz.prog 123 #[.slice A0 l0.length c0] w fun e w'=>∃ v0_:Value,e = .returned (v0_)∧Kd.R (Kd.int .i64) 2 w' w.heap.size (fun _=>True) v0_ r∧Below w.heap.size w w':=by
 have HR0:=Aside0.mk hr0;have HC0:=Aside0.mk hc0;clear hr0 hc0;have HB:=Aside0.mk (Below.refl w.heap.size w);have H:((some (([]:List Int):List Int)).bind fun y176=>(if y176.length+l0.length<17592186044416 then (some (y176 ++ l0)) else (none)))=some r:=h;clear h;obtain ⟨y176,hy176⟩:∃ y_:List Int,y_=(([]:List Int)):=⟨_,rfl⟩
 replace H:(if y176.length+l0.length<17592186044416 then (some (y176 ++ l0)) else (none))=some r:=by first|(rw[hy176];with_reducible exact H)|(have H2_:=(Option.bind_some _ _).symm.trans H;rw[hy176];with_reducible exact H2_)|(have H2_:=(Option.bind_some _ _).symm.trans H;with_reducible exact H2_)|with_reducible exact H|(rw[hy176];exact H)|exact H
 have Ny176:=Aside0.mk hy176;clear hy176;by_cases c2:y176.length+l0.length<17592186044416
 ·rw[if_pos c2] at H;have LMc2:=Aside0.mk c2;clear c2;obtain ⟨y179,hy179⟩:∃ y_:List Int,y_=(y176 ++ l0):=⟨_,rfl⟩
  replace H:(some y179)=some r:=by first|(rw[hy179];with_reducible exact H)|(have H2_:=(Option.bind_some _ _).symm.trans H;rw[hy179];with_reducible exact H2_)|(have H2_:=(Option.bind_some _ _).symm.trans H;with_reducible exact H2_)|with_reducible exact H|(rw[hy179];exact H)|exact H
  have Ny179:=Aside0.mk hy179;clear hy179;obtain rfl:=Option.some.inj H;go_enter Tryz.func123,Tryz.ntmps123;go_wp2_with (first|((with_reducible refine gate_dst (N:=3) rfl ?_);refine Kd.R_lit (Kd.int .i64) _ 2 ?hg (N:=3) ?hd (xs:=([]:List Int)) (inner:= []) (ok:=fun _=>True) (okp:=fun _=>True) ?hr ?hp (fun _ hk=>hk) trivial (Below.refl _ _) (Nat.le_refl _) (by simp) ?_;(case hd=>rfl);(case hg=>rfl);(case hr=>first|(go_simp;done)|(go_simp;rfl));(case hp=>exact(Reps.none _ _));intro v177 w3 ho4 hb hg_ hnew_;clear hg_ hnew_;(first|rw[← Ny176.out] at ho4|(simp only [Int.reduceToNat] at ho4;rw[← Ny176.out] at ho4));have HO178:=klA ho4 HB;replace HB:=bsA HB hb;clear hb ho4)|((with_reducible refine gate_builtin (b:= .append) (xs:=#[.tmp 3,.tmp 4]) rfl ?_);at_builtin;refine Kd.R_append_rows (Kd.int .i64) (w0:=w) w.heap.size rfl (.tmp 3) (.tmp 4) 24 2 (.int .i64 0) 8 rfl Tryz.underlying24 info2 rfl (by decide) (by omega) v177 y176 l0 _ _ _ (fun _=>True) (fun _=>False) rfl rfl ?aO ?aR (fun _ _ h=>h) (fun _ h=>h.elim) ?aF ?aB ?aS ?aL ?_;(case aR=>repeat(first|exact(Kd.C_below HR0.out HB.out)|(with_reducible refine Kd.C_alloc ?_ _)|(with_reducible refine Kd.C_drewN ?_ _)|(with_reducible refine Kd.C_drew ?_)));(case aB=>exact(bl HB.out));(case aF=>exact(fun _ _=>trivial));(case aO=>exact(kr HO178.out));(case aS=>exact(below_size (bl HB.out)));(case aL=>have:=LMc2.out;omega);intro v180 w5 ho hb hg hat;rw[← Ny179.out] at ho;have n0_:=Aside0.mk (hb);have n1_:=Aside0.mk (ho);clear HB;clear HO178;have HB:=n0_;have HO181:=n1_;clear n0_ n1_;clear ho hb hg hat))
  go_ret;exact⟨_,rr,by(with_reducible repeat(first|apply Kd.R_alloc|apply Kd.R_drewN|apply Kd.R_drew));exact HO181.out,bl HB.out⟩
 ·rw[if_neg c2] at H;exact absurd H (by simp)
end Go.Proofs.YtbnnamejnjfkjaaGreat.Q
end

section
namespace Go.Proofs.YtbnnamejnjfkjaaGreat.Q
open Go.RowKit Go.Proofs.YtbnnamejnjfkjaaGreatW.PrintWords Go.Proofs.YtbnnamejnjfkjaaGreatW.PrintLast Go.Proofs.YtbnnamejnjfkjaaGreatW.PrintMore
attribute [local go_sem] max2_int min2_int max_two min_two max_three min_three max_four min_four
set_option linter.unusedVariables false
set_option linter.unusedSimpArgs false
mutual
def spec_l01Join.l0:Nat→Int→Int→List Int→Int→List Int→Int→List Int→Option (Int×List Int)
 |0,_,_,_,_,_,_,_=>none
 |k+1,x6,x183000,x183001,x184000,x184001,x189000,x189001=>if x6<(x184001.length:Int) then (if 0≤x6 then (if 0≤(IntKind.u64.wrap (x183000)) then (if x189001.length<17592186044416 then (spec_l01Join.l1 k x6 (shl .i64 (rd x184001 x6) (IntKind.u64.wrap (x183000))) 0 x183000 x183001 x184000 x184001 x189000 (x189001 ++ [shl .i64 (rd x184001 x6) (IntKind.u64.wrap (x183000))])) else (none)) else (none)) else (none)) else (some (x189000,x189001))
def spec_l01Join.l1:Nat→Int→Int→Int→Int→List Int→Int→List Int→Int→List Int→Option (Int×List Int)
 |0,_,_,_,_,_,_,_,_,_=>none
 |k+1,x6,x7,x8,x183000,x183001,x184000,x184001,x189000,x189001=>if x8<(x183001.length:Int) then (if 0≤x8 then (if x189001.length<17592186044416 then (spec_l01Join.l1 k x6 x7 (wrap64 (x8+1)) x183000 x183001 x184000 x184001 x189000 (x189001 ++ [wrap64 (x7+(rd x183001 x8))])) else (none)) else (none)) else (spec_l01Join.l0 k (wrap64 (x6+1)) x183000 x183001 x184000 x184001 x189000 x189001)
end
def spec_l01Join.f (k:Nat) (a0_0:Int) (l0_1:List Int) (a1_0:Int) (l1_1:List Int):Option (Int×List Int):=(spec_l01Own.f l0_1).bind fun t185=>(spec_l01Join.l0 k 0 a0_0 l0_1 a1_0 l1_1 (wrap64 (a0_0+a1_0)) t185)
theorem spec_l01Join.mono_l:∀ k,(∀ y0 y1 y2 y3 y4 y5 y6,LeO (spec_l01Join.l0 k y0 y1 y2 y3 y4 y5 y6) (spec_l01Join.l0 (k+1) y0 y1 y2 y3 y4 y5 y6))∧(∀ y0 y1 y2 y3 y4 y5 y6 y7 y8,LeO (spec_l01Join.l1 k y0 y1 y2 y3 y4 y5 y6 y7 y8) (spec_l01Join.l1 (k+1) y0 y1 y2 y3 y4 y5 y6 y7 y8))
 |0=>⟨fun _ _ _ _ _ _ _ r h=>by simp [spec_l01Join.l0] at h,fun _ _ _ _ _ _ _ _ _ r h=>by simp [spec_l01Join.l1] at h⟩
 |k+1=>by
  obtain ⟨ih0,ih1⟩:=spec_l01Join.mono_l k;refine⟨?_,?_⟩
  ·intro y0 y1 y2 y3 y4 y5 y6;unfold spec_l01Join.l0;repeat' first
   |(with_reducible first|exact ih0 _ _ _ _ _ _ _|exact ih1 _ _ _ _ _ _ _ _ _|exact LeO.refl _|exact LeO.none _|refine LeO.ite ?_ ?_|refine LeO.bind ?_ (fun _=>?_))
  ·intro y0 y1 y2 y3 y4 y5 y6 y7 y8;unfold spec_l01Join.l1;repeat' first
   |(with_reducible first|exact ih0 _ _ _ _ _ _ _|exact ih1 _ _ _ _ _ _ _ _ _|exact LeO.refl _|exact LeO.none _|refine LeO.ite ?_ ?_|refine LeO.bind ?_ (fun _=>?_))
theorem spec_l01Join.mono:∀ a0 a1 a2 a3 k,LeO (spec_l01Join.f k a0 a1 a2 a3) (spec_l01Join.f (k+1) a0 a1 a2 a3):=by
 intro a0 a1 a2 a3 k;obtain ⟨ih0,ih1⟩:=spec_l01Join.mono_l k;unfold spec_l01Join.f;repeat' first
   |(with_reducible first|exact ih0 _ _ _ _ _ _ _|exact ih1 _ _ _ _ _ _ _ _ _|exact LeO.refl _|exact LeO.none _|refine LeO.ite ?_ ?_|refine LeO.bind ?_ (fun _=>?_))
def spec_l01Join.T1:Bool×List (List Nat×List Nat):=(true,[([],[]),([0],[0]),([],[]),([2],[2]),([1,3],[1,3]),([],[]),([5],[5]),([6],[6]),([4,7],[4,7]),([],[]),([9,8,7,0,1,2,3,4,5,6,7,8,9],[8,9])])
def spec_l01Join.B1:List Nat:= [0,1,0,4,15,0,32,96,255,0,1023]
theorem spec_l01Join.tab1:rtab .any (opsOf Tryz.f72 1)=spec_l01Join.T1:=by kernel_rfl
theorem spec_l01Join.bits1:waitsOk spec_l01Join.T1.2 spec_l01Join.B1=true:=by kernel_rfl
def spec_l01Join.T5:Bool×List (List Nat×List Nat):=(true,[([],[]),([0],[0]),([],[]),([1,2],[1,2]),([3],[3]),([],[]),([5],[5]),([6],[6]),([4,7],[4,7]),([8,0,1,2,3,4,5,6,7,8],[8])])
def spec_l01Join.B5:List Nat:= [0,1,0,7,15,0,32,96,255,511]
theorem spec_l01Join.tab5:rtab .any (opsOf Tryz.f72 5)=spec_l01Join.T5:=by kernel_rfl
theorem spec_l01Join.bits5:waitsOk spec_l01Join.T5.2 spec_l01Join.B5=true:=by kernel_rfl
def spec_l01Join.T10:Bool×List (List Nat×List Nat):=(true,[([],[]),([0],[0]),([],[]),([],[]),([3],[3]),([],[]),([4,5],[4,5]),([6],[6]),([2,7],[2,7]),([8],[8]),([1,9],[1,9]),([0,1,2,3,4,5,6,7,8,9,10],[]),([11,10,10,0,1,2,3,4,5,6,7,8,9,10],[10,11])])
def spec_l01Join.B10:List Nat:= [0,1,0,0,8,0,56,120,252,508,1023,2047,4095]
theorem spec_l01Join.tab10:rtab .any (opsOf Tryz.f72 10)=spec_l01Join.T10:=by kernel_rfl
theorem spec_l01Join.bits10:waitsOk spec_l01Join.T10.2 spec_l01Join.B10=true:=by kernel_rfl
set_option maxHeartbeats 8000000 in
set_option maxRecDepth 100000 in
theorem spec_l01Join.calls (k:Nat) (a0_0:Int) (A0_1:Option Addr) (c0_1:Nat) (l0_1:List Int) (a1_0:Int) (A1_1:Option Addr) (c1_1:Nat) (l1_1:List Int) (r1:Int) (r2:List Int) (w:World) (hr0_1:Kd.C (Kd.int .i64) w A0_1 l0_1.length l0_1) (hc0_1:l0_1.length≤c0_1) (hr1_1:Kd.C (Kd.int .i64) w A1_1 l1_1.length l1_1) (hc1_1:l1_1.length≤c1_1) (h:spec_l01Join.f k a0_0 l0_1 a1_0 l1_1=some (r1,r2)) :
  Calls Tryz.prog 72 #[.agg #[.int .i64 a0_0,.slice A0_1 l0_1.length c0_1],.agg #[.int .i64 a1_0,.slice A1_1 l1_1.length c1_1]] w fun e w'=>∃ v1_:Value,e = .returned (.agg #[.int .i64 r1,v1_])∧Kd.R (Kd.int .i64) 2 w' w.heap.size (fun _=>True) v1_ r2∧Below w.heap.size w w':=by
 have hu26:=Tryz.underlying26;have HR0_1:=Aside0.mk hr0_1;have HC0_1:=Aside0.mk hc0_1;clear hr0_1 hc0_1;have HR1_1:=Aside0.mk hr1_1;have HC1_1:=Aside0.mk hc1_1;clear hr1_1 hc1_1;have HB:=Aside0.mk (Below.refl w.heap.size w);have H:((spec_l01Own.f l0_1).bind fun t185=>(spec_l01Join.l0 k 0 a0_0 l0_1 a1_0 l1_1 (wrap64 (a0_0+a1_0)) t185))=some (r1,r2):=h;clear h;replace H:=Option.bind_eq_some_iff.mp H;obtain ⟨t185,A30,H⟩:=H;replace H:(spec_l01Join.l0 k 0 a0_0 l0_1 a1_0 l1_1 (wrap64 (a0_0+a1_0)) t185)=some (r1,r2):=H;have A3:=Aside0.mk A30;clear A30;have H':=Aside0.mk H;clear H;go_enter Tryz.func72,Tryz.ntmps72;try go_wp2_with (first|((with_reducible refine gate_dst (N:=2) rfl ?_);refine bx 2 #[.int .i64 a0_0,.slice A0_1 l0_1.length c0_1] 26 ?_;intro gb182 hg w4 hbox hb;have BK182:=Aside0.mk (hbox);have GE182:=gzA hg HB;replace HB:=bsA HB hb;clear hb hbox hg)|((with_reducible refine gate_dst (N:=3) rfl ?_);refine bx 3 #[.int .i64 a1_0,.slice A1_1 l1_1.length c1_1] 26 ?_;intro gb183 hg w5 hbox hb;have BK183:=Aside0.mk (hbox);have GE183:=gzA hg HB;replace HB:=bsA HB hb;have NB182_183:=nlA hg BK182;have NB183_182:=ngA hg BK182;replace BK182:=bkA BK182 hb;clear hb hbox hg)|((with_reducible refine gate_dst (N:=4) rfl ?_);refine bx 4 #[.int .i64 0,.slice none 0 0] 26 ?_;intro gb184 hg w6 hbox hb;have BK184:=Aside0.mk (hbox);have GE184:=gzA hg HB;replace HB:=bsA HB hb;have NB182_184:=nlA hg BK182;have NB184_182:=ngA hg BK182;replace BK182:=bkA BK182 hb;have NB183_184:=nlA hg BK183;have NB184_183:=ngA hg BK183;replace BK183:=bkA BK183 hb;clear hb hbox hg))
 replace BK182:=Aside0.mk (blk_drew BK182.out);replace BK183:=Aside0.mk (blk_drew BK183.out);replace BK184:=Aside0.mk (blk_drew BK184.out);replace HB:=Aside0.mk (below_drew1 HB.out);refine start_ (n:=11) (S:=fun w'=>w'.cell? ⟨gb182,0,none⟩=some (.int .i64 a0_0)∧w'.cell? ⟨gb182,1,none⟩=some (.slice A0_1 l0_1.length c0_1)∧w'.cell? ⟨gb183,0,none⟩=some (.int .i64 a1_0)∧w'.cell? ⟨gb183,1,none⟩=some (.slice A1_1 l1_1.length c1_1)) (ds:= []) (ar 0 11) (by kernel_rfl) rfl rfl ⟨(blk_cell BK182.out 0).trans rfl,(blk_cell BK182.out 1).trans rfl,(blk_cell BK183.out 0).trans rfl,(blk_cell BK183.out 1).trans rfl⟩ (fun hHeld=>?_);refine with_tabW spec_l01Join.tab1 spec_l01Join.bits1 (fun HT_ HW_=>?_);generalize w6.drew=w7 at BK182 BK183 BK184 HB hHeld ⊢;refine pu 0 (some 9) (ar 1 10) HT_ ?_;refine pu 2 (some 11) #[U,O,U,O,O,O,O,O,O,O,O] HT_ ?_;refine pu 5 (some 14) #[U,O,U,O,O,U,O,O,O,O,O] HT_ ?_;refine tk 1 (some 10) #[U,U,U,O,O,U,O,O,O,O,O] HT_ HW_ hHeld ?_;refine tk 3 (some 12) #[U,U,U,U,O,U,O,O,O,O,O] HT_ HW_ hHeld ?_;refine pu 4 (some 13) (ar 6 5) HT_ ?_;refine tk 6 (some 15) (ar 7 4) HT_ HW_ hHeld ?_;refine join_ (σ:=Value×Nat) 1 (ar 10 1) (fun s_=> [(16,s_.1),(5,.pointer (some ⟨s_.2,0,none⟩)),(17,.agg #[.int .i64 (wrap64 (a0_0+a1_0)),s_.1])]) (fun s_ w'=>(w'.cell? ⟨gb182,0,none⟩=some (.int .i64 a0_0)∧w'.cell? ⟨gb182,1,none⟩=some (.slice A0_1 l0_1.length c0_1)∧w'.cell? ⟨gb183,0,none⟩=some (.int .i64 a1_0)∧w'.cell? ⟨gb183,1,none⟩=some (.slice A1_1 l1_1.length c1_1))∧(Kd.R (Kd.int .i64) 2 w' w.heap.size (fun _=>True) s_.1 t185)∧(w'.heap[gb182]?=some (.cells #[.int .i64 a0_0,.slice A0_1 l0_1.length c0_1] 26 (0,0)))∧(w'.heap[gb183]?=some (.cells #[.int .i64 a1_0,.slice A1_1 l1_1.length c1_1] 26 (0,0)))∧(w'.heap[gb184]?=some (.cells #[.int .i64 0,.slice none 0 0] 26 (0,0)))∧(w'.heap[s_.2]?=some (.cells #[.int .i64 0,.slice none 0 0] 26 (0,0)))∧(w.heap.size≤s_.2)∧(w.heap.size≤s_.2)∧(gb182≠s_.2)∧(s_.2≠gb182)∧(gb183≠s_.2)∧(s_.2≠gb183)∧(gb184≠s_.2)∧(s_.2≠gb184)∧(Below w.heap.size w w')) ?_ ?_;rotate_left
 ·intro hCont;refine two_ (i:=7) (j:=9) (Ni:=some 16) (Nj:=some 5) (ar 8 3) #[U,U,U,U,U,U,U,O,O,U,O] rfl rfl rfl rfl (two_of HT_.out (by kernel_rfl)) (by decide) (by decide) (fun K hK=>?_) (fun K hK=>?_)
  ·skip
   refine gr Tryz.func123 #[.slice A0_1 l0_1.length c0_1] ?_;with_reducible refine(spec_l01Own.calls _ _ l0_1 t185 _ (cb (Kd.C_below HR0_1.out HB.out)) HC0_1.out A3.out).mono ?_
   rintro e w8 ⟨v186,rfl,ho0,hb⟩;refine⟨_,rfl,?_⟩;have HO187:=klA ho0 HB;replace BK182:=bkA BK182 hb;replace BK183:=bkA BK183 hb;replace BK184:=bkA BK184 hb;replace HB:=bsA HB hb;(try clear hb)
   (try clear hb2)
   (try clear hk)
   (try clear hi)
   (try clear ho0)
   obtain ⟨Ao9,co9,eo9⟩:=Kd.R_slice HO187.out;(first|subst eo9|(injection eo9 with f1_ f2_ f3_;have f4_:=f1_.symm;have f5_:=f3_.symm;clear f1_ f2_ f3_;subst f4_;subst f5_))
   refine hK.out _ _ ⟨(blk_cell BK182.out 0).trans rfl,(blk_cell BK182.out 1).trans rfl,(blk_cell BK183.out 0).trans rfl,(blk_cell BK183.out 1).trans rfl⟩ (fun hHeld=>?_);clear hK K;refine nr 16 ?_;refine pu 8 (some 17) (ar 9 2) HT_ ?_;refine on_ 9 (some 5) (ar 10 1) HT_ fun K hK=>?_;refine box_step ?hg (N:=5) ?hd (cs:=#[.int .i64 0,.slice none 0 0]) (t:=26) ?hr ?_;(case hd=>rfl);(case hg=>rfl);(case hr=>first|(go_simp;done)|(go_simp;rfl));intro gb188 hg w10 hbox hb;replace HO187:=krA HO187 hb;have BK188:=Aside0.mk (hbox);have GW188:=gzA hg HB;have GE188:=gzA hg HB;replace HB:=bsA HB hb;have NB182_188:=nlA hg BK182;have NB188_182:=ngA hg BK182;replace BK182:=bkA BK182 hb;have NB183_188:=nlA hg BK183;have NB188_183:=ngA hg BK183;replace BK183:=bkA BK183 hb;have NB184_188:=nlA hg BK184;have NB188_184:=ngA hg BK184;replace BK184:=bkA BK184 hb;clear hb hbox hg;refine hK.out _ _ ⟨(blk_cell BK182.out 0).trans rfl,(blk_cell BK182.out 1).trans rfl,(blk_cell BK183.out 0).trans rfl,(blk_cell BK183.out 1).trans rfl⟩ (fun hHeld=>?_);clear hK K;refine nr 5 ?_;exact norm_ (by simp only [putAll,Act.put,List.setIfInBounds_toArray,List.set_cons_zero,List.set_cons_succ]) (hCont (.slice Ao9 t185.length co9,gb188) _ ⟨hHeld,(kr HO187.out),(bk BK182.out),(bk BK183.out),(bk BK184.out),(bk BK188.out),GW188.out,GE188.out,NB182_188.out,NB188_182.out,NB183_188.out,NB188_183.out,NB184_188.out,NB188_184.out,(bl HB.out)⟩)
  ·skip
   refine box_step ?hg (N:=5) ?hd (cs:=#[.int .i64 0,.slice none 0 0]) (t:=26) ?hr ?_;(case hd=>rfl);(case hg=>rfl);(case hr=>first|(go_simp;done)|(go_simp;rfl));intro gb188 hg w8 hbox hb;have BK188:=Aside0.mk (hbox);have GW188:=gzA hg HB;have GE188:=gzA hg HB;replace HB:=bsA HB hb;have NB182_188:=nlA hg BK182;have NB188_182:=ngA hg BK182;replace BK182:=bkA BK182 hb;have NB183_188:=nlA hg BK183;have NB188_183:=ngA hg BK183;replace BK183:=bkA BK183 hb;have NB184_188:=nlA hg BK184;have NB188_184:=ngA hg BK184;replace BK184:=bkA BK184 hb;clear hb hbox hg;refine hK.out _ _ ⟨(blk_cell BK182.out 0).trans rfl,(blk_cell BK182.out 1).trans rfl,(blk_cell BK183.out 0).trans rfl,(blk_cell BK183.out 1).trans rfl⟩ (fun hHeld=>?_);clear hK K;refine nr 5 ?_;refine on_ 7 (some 16) #[U,U,U,U,U,U,U,U,O,U,O] HT_ fun K hK=>?_;refine gr Tryz.func123 #[.slice A0_1 l0_1.length c0_1] ?_;with_reducible refine(spec_l01Own.calls _ _ l0_1 t185 _ (cb (Kd.C_below HR0_1.out HB.out)) HC0_1.out A3.out).mono ?_
   rintro e w9 ⟨v186,rfl,ho0,hb⟩;refine⟨_,rfl,?_⟩;have HO187:=klA ho0 HB;replace BK182:=bkA BK182 hb;replace BK183:=bkA BK183 hb;replace BK184:=bkA BK184 hb;replace BK188:=bkA BK188 hb;replace HB:=bsA HB hb;(try clear hb)
   (try clear hb2)
   (try clear hk)
   (try clear hi)
   (try clear ho0)
   obtain ⟨Ao10,co10,eo10⟩:=Kd.R_slice HO187.out;(first|subst eo10|(injection eo10 with f1_ f2_ f3_;have f4_:=f1_.symm;have f5_:=f3_.symm;clear f1_ f2_ f3_;subst f4_;subst f5_))
   refine hK.out _ _ ⟨(blk_cell BK182.out 0).trans rfl,(blk_cell BK182.out 1).trans rfl,(blk_cell BK183.out 0).trans rfl,(blk_cell BK183.out 1).trans rfl⟩ (fun hHeld=>?_);clear hK K;refine nr 16 ?_;refine pu 8 (some 17) (ar 10 1) HT_ ?_;exact norm_ (by simp only [putAll,Act.put,List.setIfInBounds_toArray,List.set_cons_zero,List.set_cons_succ]) (hCont (.slice Ao10 t185.length co10,gb188) _ ⟨hHeld,(kr HO187.out),(bk BK182.out),(bk BK183.out),(bk BK184.out),(bk BK188.out),GW188.out,GE188.out,NB182_188.out,NB188_182.out,NB183_188.out,NB188_183.out,NB184_188.out,NB188_184.out,(bl HB.out)⟩)
 rintro ⟨v186,gb188⟩ w11 ⟨hS_,h0_,h1_,h2_,h3_,h4_,h5_,h6_,h7_,h8_,h9_,h10_,h11_,h12_,h13_⟩;have n0_:Aside0 (Kd.R (Kd.int .i64) 2 w11 w.heap.size (fun _=>True) v186 t185):=⟨h0_⟩
 have n1_:Aside0 (w11.heap[gb182]?=some (.cells #[.int .i64 a0_0,.slice A0_1 l0_1.length c0_1] 26 (0,0))):=⟨h1_⟩
 have n2_:Aside0 (w11.heap[gb183]?=some (.cells #[.int .i64 a1_0,.slice A1_1 l1_1.length c1_1] 26 (0,0))):=⟨h2_⟩
 have n3_:Aside0 (w11.heap[gb184]?=some (.cells #[.int .i64 0,.slice none 0 0] 26 (0,0))):=⟨h3_⟩
 have n4_:Aside0 (w11.heap[gb188]?=some (.cells #[.int .i64 0,.slice none 0 0] 26 (0,0))):=⟨h4_⟩
 have n5_:Aside0 (w.heap.size≤gb188):=⟨h5_⟩
 have n6_:Aside0 (w.heap.size≤gb188):=⟨h6_⟩
 have n7_:Aside0 (gb182≠gb188):=⟨h7_⟩
 have n8_:Aside0 (gb188≠gb182):=⟨h8_⟩
 have n9_:Aside0 (gb183≠gb188):=⟨h9_⟩
 have n10_:Aside0 (gb188≠gb183):=⟨h10_⟩
 have n11_:Aside0 (gb184≠gb188):=⟨h11_⟩
 have n12_:Aside0 (gb188≠gb184):=⟨h12_⟩
 have n13_:Aside0 (Below w.heap.size w w11):=⟨h13_⟩
 clear BK182;clear BK183;clear BK184;clear HB;clear h0_ h1_ h2_ h3_ h4_ h5_ h6_ h7_ h8_ h9_ h10_ h11_ h12_ h13_;have HO187:=n0_;have BK182:=n1_;have BK183:=n2_;have BK184:=n3_;have BK188:=n4_;have GW188:=n5_;have GE188:=n6_;have NB182_188:=n7_;have NB188_182:=n8_;have NB183_188:=n9_;have NB188_183:=n10_;have NB184_188:=n11_;have NB188_184:=n12_;have HB:=n13_;clear n0_ n1_ n2_ n3_ n4_ n5_ n6_ n7_ n8_ n9_ n10_ n11_ n12_ n13_;have hHeld:w11.cell? ⟨gb182,0,none⟩=some (.int .i64 a0_0)∧w11.cell? ⟨gb182,1,none⟩=some (.slice A0_1 l0_1.length c0_1)∧w11.cell? ⟨gb183,0,none⟩=some (.int .i64 a1_0)∧w11.cell? ⟨gb183,1,none⟩=some (.slice A1_1 l1_1.length c1_1):=hS_;obtain ⟨Ao12,co12,eo12⟩:=Kd.R_slice HO187.out;(first|subst eo12|(injection eo12 with f1_ f2_ f3_;have f4_:=f1_.symm;have f5_:=f3_.symm;clear f1_ f2_ f3_;subst f4_;subst f5_))
 refine norm_ (a':=?_) ?_ ?_;rotate_left
 ·simp only [putAll,Act.put,List.setIfInBounds_toArray,List.set_cons_zero,List.set_cons_succ];rfl
 refine on_ 10 (none) (ar 11 0) HT_ fun K hK=>?_;have hs13:w11.cell? ⟨gb188,0,none⟩=some (.int .i64 0):=(blk_cell BK188.out 0).trans rfl;have hfs13:=blk_frozen BK188.out 0;have hns13_0:=NB182_188.out;have hns13_1:=NB183_188.out;have hns13_2:=NB184_188.out;have hms13_0:=NB188_182.out;have hms13_1:=NB188_183.out;have hms13_2:=NB188_184.out;have hs14:w11.cell? ⟨gb188,1,none⟩=some (.slice none 0 0):=(blk_cell BK188.out 1).trans rfl;have hfs14:=blk_frozen BK188.out 1;have hns14_0:=NB182_188.out;have hns14_1:=NB183_188.out;have hns14_2:=NB184_188.out;have hms14_0:=NB188_182.out;have hms14_1:=NB188_183.out;have hms14_2:=NB188_184.out;refine skip_ (w1:=?_) (by rfl) rfl ?_ ?_;rotate_left
 ·go_simp;rfl
 refine hK.out _ _ ⟨((cell_far (p:=⟨gb188,_,none⟩) NB182_188.out _).trans (((cell_far (p:=⟨gb188,_,none⟩) NB182_188.out _).trans (hHeld.1)))),((cell_far (p:=⟨gb188,_,none⟩) NB182_188.out _).trans (((cell_far (p:=⟨gb188,_,none⟩) NB182_188.out _).trans (hHeld.2.1)))),((cell_far (p:=⟨gb188,_,none⟩) NB183_188.out _).trans (((cell_far (p:=⟨gb188,_,none⟩) NB183_188.out _).trans (hHeld.2.2.1)))),((cell_far (p:=⟨gb188,_,none⟩) NB183_188.out _).trans (((cell_far (p:=⟨gb188,_,none⟩) NB183_188.out _).trans (hHeld.2.2.2))))⟩ (fun hHeld=>?_);clear hK K;refine done_ (done_of HT_.out (by kernel_rfl)) ?_;try go_wp2
 go_loopg [6] k (fun kq v6 w'=>∃(x6_1:Int) (x189001_1:List Int) (u189001:Value),v6 = .int .i64 x6_1∧Aside0 (spec_l01Join.l0 kq x6_1 a0_0 l0_1 a1_0 l1_1 (wrap64 (a0_0+a1_0)) x189001_1=some (r1,r2))∧Aside0 (kq≤k)∧Aside0 (Kd.R (Kd.int .i64) 2 w' w.heap.size (fun _=>True) u189001 x189001_1)∧Aside0 (w'.heap[gb182]?=some (.cells #[.int .i64 a0_0,(.slice A0_1 l0_1.length c0_1)] 26 (0,0)))∧Aside0 (w'.heap[gb183]?=some (.cells #[.int .i64 a1_0,(.slice A1_1 l1_1.length c1_1)] 26 (0,0)))∧Aside0 (w'.heap[gb184]?=some (.cells #[.int .i64 0,(.slice none 0 0)] 26 (0,0)))∧Aside0 (w'.heap[gb188]?=some (.cells #[.int .i64 (wrap64 (a0_0+a1_0)),u189001] 26 (0,0)))∧Aside0 (Below w.heap.size w w'))
 case atStart=>exact⟨(0),(t185),(.slice Ao12 t185.length co12),rs,H',⟨Nat.le_refl _⟩,⟨by(with_reducible repeat(first|apply Kd.R_alloc|apply Kd.R_drewN|apply Kd.R_drew));exact Kd.R_mono (Kd.R_far (p:=⟨gb188,1,none⟩) (Kd.R_far (p:=⟨gb188,0,none⟩) (Kd.R_types HO187.out BK188.out (by decide)) (fun _ hk=>hk.2) (.int .i64 (wrap64 (a0_0+a1_0)))) (fun _ hk=>hk.2) (.slice Ao12 t185.length co12)) (fun _ hk=>trivial)⟩,⟨bp BK182.out⟩,⟨bp BK183.out⟩,⟨bp BK184.out⟩,⟨bp BK188.out⟩,⟨bl HB.out⟩⟩
 case round=>
  clear H';try clear c1
  try clear p2
  try clear p6
  try clear c7
  try clear c12
  obtain ⟨x6_1,x189001_1,u189001,rfl,HA,HK1,HO_189001,BK182,BK183,BK184,BK188,HB⟩:=hrel;cases gk with
  |zero=>exact absurd HA.out (by simp [spec_l01Join.l0])
  |succ k1=>
   have H:=HA.out;clear HA;simp only [spec_l01Join.l0] at H;by_cases c15:x6_1<(l1_1.length:Int)
   ·rw[if_pos c15] at H;have c15b0:decide (x6_1<(l1_1.length:Int))=true:=decide_eq_true c15;clear c15;by_cases c16:0≤x6_1
    ·rw[if_pos c16] at H;have c16b0:decide (0≤x6_1)=true:=decide_eq_true c16;clear c16;obtain ⟨ji17,hji17⟩:∃ j_:Int,(IntKind.u64.wrap (a0_0))=j_:=⟨_,rfl⟩
     replace H:(if 0≤(ji17) then (if x189001_1.length<17592186044416 then (spec_l01Join.l1 k1 x6_1 (shl .i64 (rd l1_1 x6_1) (ji17)) 0 a0_0 l0_1 a1_0 l1_1 (wrap64 (a0_0+a1_0)) (x189001_1 ++ [shl .i64 (rd l1_1 x6_1) (ji17)])) else (none)) else (none))=some (r1,r2):=by first|(rw[hji17] at H;exact H)|(simp only [hji17] at H ⊢;exact H)
     by_cases c18:0≤(ji17)
     ·rw[if_pos c18] at H;have c18b0:=eq_true c18;have c18b1:decide (0≤(ji17))=true:=decide_eq_true c18;clear c18;obtain ⟨ji19,hji19⟩:∃ j_:Int,(shl .i64 (rd l1_1 x6_1) (ji17))=j_:=⟨_,rfl⟩
      replace H:(if x189001_1.length<17592186044416 then (spec_l01Join.l1 k1 x6_1 ji19 0 a0_0 l0_1 a1_0 l1_1 (wrap64 (a0_0+a1_0)) (x189001_1 ++ [ji19])) else (none))=some (r1,r2):=by first|(rw[hji19] at H;exact H)|(simp only [hji19] at H ⊢;exact H)
      have hji19_:(IntKind.i64.wrap ((rd l1_1 x6_1)*2 ^ min (ji17).toNat 64))=ji19:=hji19;have hji19z:(ji17)≤64→(IntKind.i64.wrap ((rd l1_1 x6_1)*2 ^ (ji17).toNat))=ji19:=shl_small hji19;have hji19y:(wrap64 ((rd l1_1 x6_1)*2 ^ min (ji17).toNat 64))=ji19:=(i64_w _).symm.trans hji19_;have hji19x:(ji17)≤64→(wrap64 ((rd l1_1 x6_1)*2 ^ (ji17).toNat))=ji19:=fun h_=>(i64_w _).symm.trans (hji19z h_)
      by_cases c20:x189001_1.length<17592186044416
      ·rw[if_pos c20] at H;have LMc20:=Aside0.mk c20;clear c20;obtain ⟨y190,hy190⟩:∃ y_:List Int,y_=(x189001_1 ++ [ji19]):=⟨_,rfl⟩
       replace H:(spec_l01Join.l1 k1 x6_1 ji19 0 a0_0 l0_1 a1_0 l1_1 (wrap64 (a0_0+a1_0)) y190)=some (r1,r2):=by first|(rw[hy190];with_reducible exact H)|(have H2_:=(Option.bind_some _ _).symm.trans H;rw[hy190];with_reducible exact H2_)|(have H2_:=(Option.bind_some _ _).symm.trans H;with_reducible exact H2_)|with_reducible exact H|(rw[hy190];exact H)|exact H
       have Ny190:=Aside0.mk hy190;clear hy190;have H':=Aside0.mk H;clear H;have hnb21:=NB183_182.out;have hnc21:=NB182_183.out;have hnb22:=NB183_184.out;have hnc22:=NB184_183.out;have hnb23:=NB183_188.out;have hnc23:=NB188_183.out;have hcz24_0:=z0_ BK183;have hcz24_1:=z1_ BK183;have hfz24_0:=hf_ BK183 0;have hfz24_1:=hf_ BK183 1;try go_wp2
       replace HO_189001:=Aside0.mk (Kd.R_drew HO_189001.out);replace BK182:=Aside0.mk (blk_drew BK182.out);replace BK183:=Aside0.mk (blk_drew BK183.out);replace BK184:=Aside0.mk (blk_drew BK184.out);replace BK188:=Aside0.mk (blk_drew BK188.out);replace HB:=Aside0.mk (below_drew1 HB.out);have p189:0≤(x6_1:Int):=dd;have q189:x6_1<(l1_1.length:Int):=dd;obtain ⟨ad189,e189,hx189_0⟩:=Kd.at_int HR1_1.out x6_1 p189 q189;have hw189_0:=hx189_0;cases e189;replace hx189_0:=hx_ HB hx189_0;replace p189:=eq_true p189;replace q189:=eq_true q189;refine start_ (n:=10) (S:=fun w'=>w'.cell? ⟨gb183,0,none⟩=some (.int .i64 a1_0)∧w'.cell? ⟨gb183,1,none⟩=some (.slice (some ad189) l1_1.length c1_1)∧w'.cell? ⟨gb182,0,none⟩=some (.int .i64 a0_0)∧w'.cell? ⟨gb182,1,none⟩=some (.slice A0_1 l0_1.length c0_1)∧w'.cell? (ad189.add (x6_1).toNat)=some (.int .i64 (rd l1_1 x6_1))) (ds:= []) (ar 0 10) (by kernel_rfl) rfl rfl ⟨(blk_cell BK183.out 0).trans rfl,(blk_cell BK183.out 1).trans rfl,(blk_cell BK182.out 0).trans rfl,(blk_cell BK182.out 1).trans rfl,hx_ HB hw189_0⟩ (fun hHeld=>?_);refine with_tabW spec_l01Join.tab5 spec_l01Join.bits5 (fun HT_ HW_=>?_);generalize wr.drew=w25 at HO_189001 BK182 BK183 BK184 BK188 HB hx189_0 hHeld ⊢;refine pu 0 (some 25) (ar 1 9) HT_ ?_;refine pu 2 (some 27) #[U,O,U,O,O,O,O,O,O,O] HT_ ?_;refine pu 5 (some 30) #[U,O,U,O,O,U,O,O,O,O] HT_ ?_;refine tk 1 (some 26) #[U,U,U,O,O,U,O,O,O,O] HT_ HW_ hHeld ?_;refine pu 3 (some 28) #[U,U,U,U,O,U,O,O,O,O] HT_ ?_;refine tk 4 (some 29) (ar 6 4) HT_ HW_ hHeld ?_;refine tk 6 (some 31) (ar 7 3) HT_ HW_ hHeld ?_;refine pu 7 (some 32) (ar 8 2) HT_ ?_;refine pu 8 (some 33) (ar 9 1) HT_ ?_;refine pu 9 (some 7) (ar 10 0) HT_ ?_;refine done_ (done_of HT_.out (by kernel_rfl)) ?_;have hnb26:=NB188_182.out;have hnc26:=NB182_188.out;have hnb27:=NB188_184.out;have hnc27:=NB184_188.out;have hcz28_0:=z0_ BK188;have hcz28_1:=z1_ BK188;have hfz28_0:=hf_ BK188 0;have hfz28_1:=hf_ BK188 1;try go_wp2_with (first|((with_reducible refine gate_builtin (b:= .append) (xs:=#[.tmp 35,.tmp 37]) rfl ?_);at_builtin;refine Kd.R_append (Kd.int .i64) (w0:=w) w.heap.size rfl (.tmp 35) (.tmp 37) 24 2 (.int .i64 0) 8 rfl Tryz.underlying24 info2 rfl (by decide) (by omega) u189001 x189001_1 ji19 [.int .i64 ji19] (fun _=>True) (fun _=>False) rfl rfl ?aP (fun _ hk=>hk.elim) ?aF ?aO ?aB ?aS ?aL ?_;(case aP=>exact rfl);(case aB=>exact(bl HB.out));(case aF=>exact(fun _ _=>trivial));(case aO=>exact(kr HO_189001.out));(case aS=>exact(below_size (bl HB.out)));(case aL=>have:=LMc20.out;omega);intro v191 w29 ho hb hg hat;rw[← Ny190.out] at ho;have n0_:=Aside0.mk (blk_grown (bk BK182.out) hg (Kd.R_ne HO_189001.out BK182.out (by decide)));have n1_:=Aside0.mk (blk_grown (bk BK183.out) hg (Kd.R_ne HO_189001.out BK183.out (by decide)));have n2_:=Aside0.mk (blk_grown (bk BK184.out) hg (Kd.R_ne HO_189001.out BK184.out (by decide)));have n3_:=Aside0.mk (blk_grown (bk BK188.out) hg (Kd.R_ne HO_189001.out BK188.out (by decide)));have n4_:=Aside0.mk (hb);have n5_:=Aside0.mk (ho);clear BK182;clear BK183;clear BK184;clear BK188;clear HB;clear HO_189001;have BK182:=n0_;have BK183:=n1_;have BK184:=n2_;have BK188:=n3_;have HB:=n4_;have HO192:=n5_;clear n0_ n1_ n2_ n3_ n4_ n5_;clear ho hb hg hat;obtain ⟨Ao30,co30,eo30⟩:=Kd.R_slice HO192.out;subst eo30;have hcz31_0:=z0_ BK188;have hcz31_1:=z1_ BK188;have hfz31_0:=hf_ BK188 0;have hfz31_1:=hf_ BK188 1))
       go_loopg [8] k1 (fun kq v8 w'=>∃(x8_2:Int) (x189001_2:List Int) (u189001:Value),v8 = .int .i64 x8_2∧Aside0 (spec_l01Join.l1 kq x6_1 ji19 x8_2 a0_0 l0_1 a1_0 l1_1 (wrap64 (a0_0+a1_0)) x189001_2=some (r1,r2))∧Aside0 (kq≤k1)∧Aside0 (Kd.R (Kd.int .i64) 2 w' w.heap.size (fun _=>True) u189001 x189001_2)∧Aside0 (w'.heap[gb182]?=some (.cells #[.int .i64 a0_0,(.slice A0_1 l0_1.length c0_1)] 26 (0,0)))∧Aside0 (w'.heap[gb183]?=some (.cells #[.int .i64 a1_0,(.slice (some ad189) l1_1.length c1_1)] 26 (0,0)))∧Aside0 (w'.heap[gb184]?=some (.cells #[.int .i64 0,(.slice none 0 0)] 26 (0,0)))∧Aside0 (w'.heap[gb188]?=some (.cells #[.int .i64 (wrap64 (a0_0+a1_0)),u189001] 26 (0,0)))∧Aside0 (Below w.heap.size w w'))
       case atStart=>exact⟨(0),(y190),(.slice Ao30 y190.length co30),rs,H',⟨Nat.le_refl _⟩,⟨by(with_reducible repeat(first|apply Kd.R_alloc|apply Kd.R_drewN|apply Kd.R_drew));exact Kd.R_mono (Kd.R_far (p:=⟨gb188,1,none⟩) (Kd.R_types HO192.out BK188.out (by decide)) (fun _ hk=>hk.2) (.slice Ao30 y190.length co30)) (fun _ hk=>trivial)⟩,⟨bp BK182.out⟩,⟨bp BK183.out⟩,⟨bp BK184.out⟩,⟨bp BK188.out⟩,⟨bl HB.out⟩⟩
       case round=>
        clear H';try clear c1
        try clear p1
        try clear q1
        try clear hx1
        try clear c2
        try clear p2
        try clear p6
        try clear c7
        try clear c12
        try clear c15
        try clear c15b0
        try clear c16
        try clear c16b0
        try clear c18
        try clear c18b0
        try clear c18b1
        try clear p18
        try clear q18
        try clear hx18
        try clear c20
        try clear c21
        try clear c22
        try clear c23
        try clear c26
        try clear c27
        try clear hcz24_0
        try clear hcz24_1
        try clear hcz28_0
        try clear hcz28_1
        try clear hcz31_0
        try clear hcz31_1
        try clear hfz24_0
        try clear hfz24_1
        try clear hfz28_0
        try clear hfz28_1
        try clear hfz31_0
        try clear hfz31_1
        try clear hx189_0
        try clear p189
        try clear p2
        try clear p6
        try clear q189
        obtain ⟨x8_2,x189001_2,u189001,rfl,HA,HK2,HO_189001,BK182,BK183,BK184,BK188,HB⟩:=hrel;cases gk with
        |zero=>exact absurd HA.out (by simp [spec_l01Join.l1])
        |succ k2=>
         have H:=HA.out;clear HA;simp only [spec_l01Join.l1] at H;by_cases c32:x8_2<(l0_1.length:Int)
         ·rw[if_pos c32] at H;have c32b0:decide (x8_2<(l0_1.length:Int))=true:=decide_eq_true c32;clear c32;by_cases c33:0≤x8_2
          ·rw[if_pos c33] at H;have c33b0:decide (0≤x8_2)=true:=decide_eq_true c33;clear c33;by_cases c34:x189001_2.length<17592186044416
           ·rw[if_pos c34] at H;have LMc34:=Aside0.mk c34;clear c34;obtain ⟨y194,hy194⟩:∃ y_:List Int,y_=(x189001_2 ++ [wrap64 (ji19+(rd l0_1 x8_2))]):=⟨_,rfl⟩
            replace H:(spec_l01Join.l1 k2 x6_1 ji19 (wrap64 (x8_2+1)) a0_0 l0_1 a1_0 l1_1 (wrap64 (a0_0+a1_0)) y194)=some (r1,r2):=by first|(rw[hy194];with_reducible exact H)|(have H2_:=(Option.bind_some _ _).symm.trans H;rw[hy194];with_reducible exact H2_)|(have H2_:=(Option.bind_some _ _).symm.trans H;with_reducible exact H2_)|with_reducible exact H|(rw[hy194];exact H)|exact H
            have Ny194:=Aside0.mk hy194;clear hy194;have H':=Aside0.mk H;clear H;have hnb35:=NB182_183.out;have hnc35:=NB183_182.out;have hnb36:=NB182_184.out;have hnc36:=NB184_182.out;have hnb37:=NB182_188.out;have hnc37:=NB188_182.out;have hcz38_0:=z0_ BK182;have hcz38_1:=z1_ BK182;have hfz38_0:=hf_ BK182 0;have hfz38_1:=hf_ BK182 1;try go_wp2
            replace HO_189001:=Aside0.mk (Kd.R_drew HO_189001.out);replace BK182:=Aside0.mk (blk_drew BK182.out);replace BK183:=Aside0.mk (blk_drew BK183.out);replace BK184:=Aside0.mk (blk_drew BK184.out);replace BK188:=Aside0.mk (blk_drew BK188.out);replace HB:=Aside0.mk (below_drew1 HB.out);have p193:0≤(x8_2:Int):=dd;have q193:x8_2<(l0_1.length:Int):=dd;obtain ⟨ad193,e193,hx193_0⟩:=Kd.at_int HR0_1.out x8_2 p193 q193;have hw193_0:=hx193_0;cases e193;replace hx193_0:=hx_ HB hx193_0;replace p193:=eq_true p193;replace q193:=eq_true q193;refine start_ (n:=13) (S:=fun w'=>w'.cell? ⟨gb188,0,none⟩=some (.int .i64 (wrap64 (a0_0+a1_0)))∧w'.cell? ⟨gb188,1,none⟩=some (u189001)∧w'.cell? ⟨gb182,0,none⟩=some (.int .i64 a0_0)∧w'.cell? ⟨gb182,1,none⟩=some (.slice (some ad193) l0_1.length c0_1)∧w'.cell? (ad193.add (x8_2).toNat)=some (.int .i64 (rd l0_1 x8_2))) (ds:= [12]) (ar 0 13) (by kernel_rfl) rfl rfl ⟨(blk_cell BK188.out 0).trans rfl,(blk_cell BK188.out 1).trans rfl,(blk_cell BK182.out 0).trans rfl,(blk_cell BK182.out 1).trans rfl,hx_ HB hw193_0⟩ (fun hHeld=>?_);refine with_tabW spec_l01Join.tab10 spec_l01Join.bits10 (fun HT_ HW_=>?_);generalize wr.drew=w39 at HO_189001 BK182 BK183 BK184 BK188 HB hx193_0 hHeld ⊢;refine pu 0 (some 47) (ar 1 12) HT_ ?_;refine pu 2 (some 49) #[U,O,U,O,O,O,O,O,O,O,O,O,O] HT_ ?_;refine pu 3 (some 50) #[U,O,U,U,O,O,O,O,O,O,O,O,O] HT_ ?_;refine pu 5 (some 52) #[U,O,U,U,O,U,O,O,O,O,O,O,O] HT_ ?_;refine tk 1 (some 48) #[U,U,U,U,O,U,O,O,O,O,O,O,O] HT_ HW_ hHeld ?_;refine tk 4 (some 51) (ar 6 7) HT_ HW_ hHeld ?_;refine pu 6 (some 53) (ar 7 6) HT_ ?_;refine tk 7 (some 54) (ar 8 5) HT_ HW_ hHeld ?_;refine pu 8 (some 55) (ar 9 4) HT_ ?_;refine on_ 9 (some 56) (ar 10 3) HT_ fun K hK=>?_;refine value_ (w1:=?_) (v:=?_) (by rfl) rfl ?_ ?_;rotate_left 2
            ·go_simp;constructor
             ·rfl
             ·rfl
            refine hK.out _ _ ⟨(blk_cell (blk_alloc BK188.out _) 0).trans rfl,(blk_cell (blk_alloc BK188.out _) 1).trans rfl,(blk_cell (blk_alloc BK182.out _) 0).trans rfl,(blk_cell (blk_alloc BK182.out _) 1).trans rfl,(World.cell?_alloc_lt _ _ _ (World.block_lt_of_cell? _ _ ((hx_ HB hw193_0)))).trans ((hx_ HB hw193_0))⟩ (fun hHeld=>?_);clear hK K;refine nr 56 ?_;refine on_ 10 (some 57) (ar 11 2) HT_ fun K hK=>?_;refine Kd.R_append_step (Kd.int .i64) (w0:=w) w.heap.size (by rfl) (.tmp 48) (.tmp 56) 24 2 (.int .i64 0) 8 rfl Tryz.underlying24 info2 rfl (by decide) (by omega) u189001 x189001_2 (wrap64 (ji19+(rd l0_1 x8_2))) [.int .i64 (wrap64 (ji19+(rd l0_1 x8_2)))] (fun _=>True) (fun _=>False) rfl rfl ?aP (fun _ hk=>hk.elim) ?aF ?aO ?aB ?aS ?aL ?_;(case aP=>exact rfl)
            (case aB=>exact(bl HB.out))
            (case aF=>exact(fun _ _=>trivial))
            (case aO=>exact(kr HO_189001.out))
            (case aS=>exact(below_size (bl HB.out)))
            (case aL=>have:=LMc34.out;omega)
            intro v195 w40 ho hb hg hat;rw[← Ny194.out] at ho;have n0_:=Aside0.mk (blk_grown (bk BK182.out) hg (Kd.R_ne HO_189001.out BK182.out (by decide)));have n1_:=Aside0.mk (blk_grown (bk BK183.out) hg (Kd.R_ne HO_189001.out BK183.out (by decide)));have n2_:=Aside0.mk (blk_grown (bk BK184.out) hg (Kd.R_ne HO_189001.out BK184.out (by decide)));have n3_:=Aside0.mk (blk_grown (bk BK188.out) hg (Kd.R_ne HO_189001.out BK188.out (by decide)));have n4_:=Aside0.mk (hb);have n5_:=Aside0.mk (ho);clear BK182;clear BK183;clear BK184;clear BK188;clear HB;clear HO_189001;have BK182:=n0_;have BK183:=n1_;have BK184:=n2_;have BK188:=n3_;have HB:=n4_;have HO196:=n5_;clear n0_ n1_ n2_ n3_ n4_ n5_;clear ho hb hg hat;obtain ⟨Ao41,co41,eo41⟩:=Kd.R_slice HO196.out;(first|subst eo41|(injection eo41 with f1_ f2_ f3_;have f4_:=f1_.symm;have f5_:=f3_.symm;clear f1_ f2_ f3_;subst f4_;subst f5_))
            refine hK.out _ _ ⟨(blk_cell BK188.out 0).trans rfl,(blk_cell BK188.out 1).trans rfl,(blk_cell BK182.out 0).trans rfl,(blk_cell BK182.out 1).trans rfl,hx_ HB hw193_0⟩ (fun hHeld=>?_);clear hK K;refine nr 57 ?_;refine pu 11 (some 58) (ar 12 1) HT_ ?_;refine last_ (i:=12) (N:=none) (ar 13 0) rfl rfl (one_of HT_.out (by kernel_rfl)) (by decide) (fun K hK=>?_);have hs42:w40.cell? ⟨gb188,1,none⟩=some (u189001):=(blk_cell BK188.out 1).trans rfl;have hfs42:=blk_frozen BK188.out 1;have hns42_0:=NB182_188.out;have hns42_1:=NB183_188.out;have hns42_2:=NB184_188.out;have hms42_0:=NB188_182.out;have hms42_1:=NB188_183.out;have hms42_2:=NB188_184.out;refine skip_ (w1:=?_) (by rfl) rfl ?_ ?_;rotate_left
            ·go_simp;rfl
            refine hK.out _ _ ?_;clear hK K;refine done_ (done_of HT_.out (by kernel_rfl)) ?_;try go_wp2
            go_roundg k2
            case measure=>have:=HK1.out;have:=HK2.out;omega
            case rel=>exact⟨(wrap64 (x8_2+1)),(y194),(.slice Ao41 y194.length co41),rs,H',⟨by have:=HK1.out;have:=HK2.out;omega⟩,⟨by(with_reducible repeat(first|apply Kd.R_alloc|apply Kd.R_drewN|apply Kd.R_drew));exact Kd.R_mono (Kd.R_far (p:=⟨gb188,1,none⟩) (Kd.R_types HO196.out BK188.out (by decide)) (fun _ hk=>hk.2) (.slice Ao41 y194.length co41)) (fun _ hk=>trivial)⟩,⟨bp BK182.out⟩,⟨bp BK183.out⟩,⟨bp BK184.out⟩,⟨bp BK188.out⟩,⟨bl HB.out⟩⟩
           ·rw[if_neg c34] at H;exact absurd H (by simp)
          ·rw[if_neg c33] at H;exact absurd H (by simp)
         ·rw[if_neg c32] at H;have c32b0:decide (x8_2<(l0_1.length:Int))=false:=decide_eq_false c32;clear c32;have H':=Aside0.mk H;clear H;have hnb43:=NB182_183.out;have hnc43:=NB183_182.out;have hnb44:=NB182_184.out;have hnc44:=NB184_182.out;have hnb45:=NB182_188.out;have hnc45:=NB188_182.out;have hcz46_0:=z0_ BK182;have hcz46_1:=z1_ BK182;have hfz46_0:=hf_ BK182 0;have hfz46_1:=hf_ BK182 1;go_wp2
          go_roundg k2
          case measure=>have:=HK1.out;have:=HK2.out;omega
          case rel=>exact⟨(wrap64 (x6_1+1)),(x189001_2),(u189001),rs,H',⟨by have:=HK1.out;have:=HK2.out;omega⟩,⟨kr HO_189001.out⟩,⟨bk BK182.out⟩,⟨bk BK183.out⟩,⟨bk BK184.out⟩,⟨bk BK188.out⟩,⟨bl HB.out⟩⟩
      ·rw[if_neg c20] at H;exact absurd H (by simp)
     ·rw[if_neg c18] at H;exact absurd H (by simp)
    ·rw[if_neg c16] at H;exact absurd H (by simp)
   ·rw[if_neg c15] at H;have c15b0:decide (x6_1<(l1_1.length:Int))=false:=decide_eq_false c15;clear c15;simp only [Option.some.injEq,Prod.mk.injEq] at H;obtain ⟨rfl,rfl⟩:=H;have hnb47:=NB183_182.out;have hnc47:=NB182_183.out;have hnb48:=NB183_184.out;have hnc48:=NB184_183.out;have hnb49:=NB183_188.out;have hnc49:=NB188_183.out;have hcz50_0:=z0_ BK183;have hcz50_1:=z1_ BK183;have hfz50_0:=hf_ BK183 0;have hfz50_1:=hf_ BK183 1;have hnb51:=NB188_182.out;have hnc51:=NB182_188.out;have hnb52:=NB188_184.out;have hnc52:=NB184_188.out;have hcz53_0:=z0_ BK188;have hcz53_1:=z1_ BK188;have hfz53_0:=hf_ BK188 0;have hfz53_1:=hf_ BK188 1;have hnb54:=NB184_182.out;have hnc54:=NB182_184.out;have hcz55_0:=z0_ BK184;have hcz55_1:=z1_ BK184;have hfz55_0:=hf_ BK184 0;have hfz55_1:=hf_ BK184 1;obtain ⟨Ao56,co56,eo56⟩:=Kd.R_slice HO_189001.out;subst eo56;go_wp2
    refine bodyPost_ret (results_cell_row rfl _ _ gb184 26 #[.int .i64 (wrap64 (a0_0+a1_0)),.slice Ao56 x189001_1.length co56] (0,0) _ rfl (bp BK184.out) Tryz.underlying26 rfl (by kernel_rfl)) rfl ?_;exact⟨_,rr,by(with_reducible repeat(first|apply Kd.R_alloc|apply Kd.R_drewN|apply Kd.R_drew));exact Kd.R_mono (Kd.R_far (p:=⟨gb184,1,none⟩) (Kd.R_far (p:=⟨gb184,0,none⟩) (Kd.R_types HO_189001.out BK184.out (by decide)) (fun _ hk=>hk.2) (.int .i64 (wrap64 (a0_0+a1_0)))) (fun _ hk=>hk.2) (.slice Ao56 x189001_1.length co56)) (fun _ hk=>trivial),bl HB.out⟩
end Go.Proofs.YtbnnamejnjfkjaaGreat.Q
end

section
namespace Go.Proofs.YtbnnamejnjfkjaaGreat.K
open Go.RowKit Go.Shelf Go.Proofs.YtbnnamejnjfkjaaGreat.Q Go.Proofs.YtbnnamejnjfkjaaGreatW.PrintWords Go.Proofs.YtbnnamejnjfkjaaGreatW.PrintLast Go.Proofs.YtbnnamejnjfkjaaGreatW.PrintMore
set_option linter.unusedVariables false
set_option linter.unusedSimpArgs false
def blkL (p:Int) (k:List Int) (g:Int):List Int:=(g*p) :: k.map (fun a=>g*p+a)
def joinL (p:Int) (k l:List Int):List Int:=k ++ l.flatMap (blkL p k)
theorem shl_is (g n:Int) (h0:0≤n∧n≤6) (hg:0≤g∧g≤63):shl .i64 g n=g*2 ^ n.toNat:=by
 have h:n=0∨n=1∨n=2∨n=3∨n=4∨n=5∨n=6:=by omega
 unfold shl
 rw[Nat.min_eq_left (by show n.toNat≤64;omega)]
 show IntKind.wrap .i64 _=_
 rw[IntKind.wrap_i64]
 rcases h with rfl|rfl|rfl|rfl|rfl|rfl|rfl <;> simp <;> omega
theorem blk_length (p:Int) (k:List Int) (g:Int):(blkL p k g).length=k.length+1:=by simp [blkL]
theorem specJoin_l1 (n:Int) (k:List Int) (m:Int) (l:List Int) (N:Int) (hk:k.length≤63) (p g:Int) (hp:1≤p∧p≤64) (hg:0≤g∧g≤63) (hr:∀ x ∈ k,1≤x∧x≤63) (i:Int) (R:Nat) (r:Int×List Int) (tot:List Int) (ht:tot.length≤100000)
  (h:∀ f,R≤f→spec_l01Join.l0 f (wrap64 (i+1)) n k m l N tot=some r) :
  ∀(d j f:Nat) (acc:List Int),k.length - j=d→j≤k.length→R+d<f→acc ++ (k.drop j).map (fun a=>g*p+a)=tot →
  spec_l01Join.l1 f i (g*p) (j:Int) n k m l N acc=some r:=by
 have hgp:0≤g*p∧g*p≤63*64:=⟨Int.mul_nonneg hg.1 (by omega),Int.mul_le_mul hg.2 hp.2 (by omega) (by omega)⟩
 intro d
 induction d with
 |zero=>
  intro j f acc hd hj hf hacc
  obtain ⟨f,rfl⟩:∃ m,f=m+1:=⟨f - 1,by omega⟩
  obtain rfl:j=k.length:=by omega
  simp at hacc
  subst hacc
  simp only [spec_l01Join.l1]
  rw[if_neg (by omega)]
  exact h f (by omega)
 |succ d ih=>
  intro j f acc hd hj hf hacc
  obtain ⟨f,rfl⟩:∃ m,f=m+1:=⟨f - 1,by omega⟩
  simp only [spec_l01Join.l1]
  have hjl:j<k.length:=by omega
  have hx:=hr _ (List.getElem_mem hjl)
  have hal:acc.length≤100000:=by
   have:=congrArg List.length hacc
   rw[List.length_append] at this
   omega
  rw[List.drop_eq_getElem_cons hjl,List.map_cons] at hacc
  rw[if_pos (by omega),if_pos (by omega),if_pos (by omega),rd_nat k j hjl]
  generalize g*p=q at hgp hacc ih ⊢
  rw[w64 (q+k[j]) (by omega) (by omega),w64 ((j:Int)+1) (by omega) (by omega),nat_succ]
  exact ih (j+1) f _ (by omega) (by omega) (by omega) (by rw[List.append_assoc];exact hacc)
theorem specJoin_l0 (n:Int) (hn:1≤n∧n≤6) (k:List Int) (m:Int) (l:List Int) (N:Int) (hk:k.length≤63) (hl:l.length≤63) (hr:∀ x ∈ k,1≤x∧x≤63) (hr2:∀ x ∈ l,1≤x∧x≤63) :
  ∀(d i f:Nat) (acc:List Int),l.length - i=d→i≤l.length→70*d<f→acc.length≤64*i+63 →
  spec_l01Join.l0 f (i:Int) n k m l N acc=some (N,acc ++ (l.drop i).flatMap (blkL (2 ^ n.toNat) k)):=by
 have hp:=two_pow n.toNat 6 (by omega)
 have hu:IntKind.u64.wrap n=n:=u64_id n (by omega) (by omega)
 intro d
 induction d with
 |zero=>
  intro i f acc hd hi hf ha
  obtain ⟨f,rfl⟩:∃ m,f=m+1:=⟨f - 1,by omega⟩
  obtain rfl:i=l.length:=by omega
  simp only [spec_l01Join.l0]
  rw[if_neg (by omega)]
  simp
 |succ d ih=>
  intro i f acc hd hi hf ha
  obtain ⟨f,rfl⟩:∃ m,f=m+1:=⟨f - 1,by omega⟩
  simp only [spec_l01Join.l0]
  have hil:i<l.length:=by omega
  have hx:=hr2 _ (List.getElem_mem hil)
  rw[if_pos (by omega),if_pos (by omega),hu,if_pos (by omega),if_pos (by omega),rd_nat l i hil,shl_is _ n (by omega) (by omega),List.drop_eq_getElem_cons hil,List.flatMap_cons]
  have hb:=blk_length (2 ^ n.toNat) k l[i]
  refine specJoin_l1 n k m l N hk (2 ^ n.toNat) l[i] ⟨hp.1,by have:=hp.2;omega⟩ (by omega) hr (i:Int) (70*d+1) _ (acc ++ blkL (2 ^ n.toNat) k l[i]) (by rw[List.length_append];omega)
   (fun f hf=>?_) k.length 0 f _ (by omega) (by omega) (by omega) (by rw[List.drop_zero,List.append_assoc];rfl)
  rw[w64 _ (by omega) (by omega),nat_succ,ih (i+1) f _ (by omega) (by omega) (by omega) (by rw[List.length_append];omega),List.append_assoc]
theorem specJoinL_is {n:Int} {k:List Int} {m:Int} {l:List Int} (hk:isC n k=true) (hl:isC m l=true) (f:Nat) (hf:4500≤f):spec_l01Join.f f n k m l=some (n+m,joinL (2 ^ n.toNat) k l):=by
 obtain ⟨hn,ks,kr,k63⟩:=isC_faces hk
 obtain ⟨hm,ls,lr,l63⟩:=isC_faces hl
 unfold spec_l01Join.f spec_l01Own.f
 simp only [Option.bind_some,List.length_nil,List.nil_append]
 rw[if_pos (by omega)]
 simp only [Option.bind_some]
 rw[w64 _ (by omega) (by omega)]
 have:=specJoin_l0 n hn k m l (n+m) k63 l63 (fun x hx=>⟨(kr x hx).1,(kr x hx).2.2⟩) (fun x hx=>⟨(lr x hx).1,(lr x hx).2.2⟩) l.length 0 f k (by omega) (by omega) (by omega) (by omega)
 exact this
end Go.Proofs.YtbnnamejnjfkjaaGreat.K
end

section
namespace Go.Proofs.YtbnnamejnjfkjaaGreat.K
open Go.RowKit Go.Shelf Go.Proofs.YtbnnamejnjfkjaaGreat.Q Go.Proofs.YtbnnamejnjfkjaaGreatW.PrintWords Go.Proofs.YtbnnamejnjfkjaaGreatW.PrintLast Go.Proofs.YtbnnamejnjfkjaaGreatW.PrintMore
set_option linter.unusedVariables false
set_option linter.unusedSimpArgs false
theorem nodup_le:∀(a b:List Int),a.Nodup→(∀ x ∈ a,x ∈ b)→a.length≤b.length
 |[],b,_,_=>Nat.zero_le _
 |x :: a,b,h,hs=>by
  rw[List.nodup_cons] at h
  have hx:=hs x List.mem_cons_self
  have:=nodup_le a (b.erase x) h.2 (fun y hy=>(List.mem_erase_of_ne (fun e:y=x=>h.1 (by rw[← e];exact hy))).2 (hs y (List.mem_cons_of_mem _ hy)))
  rw[List.length_erase_of_mem hx] at this
  have:=List.length_pos_of_mem hx
  simp only [List.length_cons]
  omega
end Go.Proofs.YtbnnamejnjfkjaaGreat.K
end

section
namespace Go.Proofs.YtbnnamejnjfkjaaGreat.Q
open Go.RowKit Go.Proofs.YtbnnamejnjfkjaaGreatW.PrintWords Go.Proofs.YtbnnamejnjfkjaaGreatW.PrintLast Go.Proofs.YtbnnamejnjfkjaaGreatW.PrintMore
attribute [local go_sem] max2_int min2_int max_two min_two max_three min_three max_four min_four
set_option linter.unusedVariables false
set_option linter.unusedSimpArgs false
def spec_l01Renamed.l0:Nat→List Int→List Int→Int→Int→List Int→Option (Int×List Int)
 |0,_,_,_,_,_=>none
 |k+1,x1,x5,x6,x237000,x237001=>if x6<(x237001.length:Int) then (if 0≤x6 then ((spec_l01Moved.f k (rd x237001 x6) x1).bind fun t242=>(if x5.length<17592186044416 then (spec_l01Renamed.l0 k x1 (x5 ++ [t242]) (wrap64 (x6+1)) x237000 x237001) else (none))) else (none)) else ((spec_l01Made.f k x237000 x5).bind fun bt246=>(some (bt246.1,bt246.2)))
def spec_l01Renamed.f (k:Nat) (a0_0:Int) (l0_1:List Int) (l1:List Int):Option (Int×List Int):=spec_l01Renamed.l0 k l1 (([]:List Int)) 0 a0_0 l0_1
theorem spec_l01Renamed.mono_l:∀ k,(∀ y0 y1 y2 y3 y4,LeO (spec_l01Renamed.l0 k y0 y1 y2 y3 y4) (spec_l01Renamed.l0 (k+1) y0 y1 y2 y3 y4))
 |0=>fun _ _ _ _ _ r h=>by simp [spec_l01Renamed.l0] at h
 |k+1=>by
  have ih0:=spec_l01Renamed.mono_l k
  ·intro y0 y1 y2 y3 y4;unfold spec_l01Renamed.l0;repeat' first
   |(with_reducible first|exact ih0 _ _ _ _ _|exact spec_l01Made.mono _ _ _|exact spec_l01Moved.mono _ _ _|exact LeO.refl _|exact LeO.none _|refine LeO.ite ?_ ?_|refine LeO.bind ?_ (fun _=>?_))
theorem spec_l01Renamed.mono:∀ a0 a1 a2 k,LeO (spec_l01Renamed.f k a0 a1 a2) (spec_l01Renamed.f (k+1) a0 a1 a2):=by
 intro a0 a1 a2 k;have ih0:=spec_l01Renamed.mono_l k;unfold spec_l01Renamed.f;repeat' first
   |(with_reducible first|exact ih0 _ _ _ _ _|exact spec_l01Made.mono _ _ _|exact spec_l01Moved.mono _ _ _|exact LeO.refl _|exact LeO.none _|refine LeO.ite ?_ ?_|refine LeO.bind ?_ (fun _=>?_))
set_option maxHeartbeats 8000000 in
set_option maxRecDepth 100000 in
theorem spec_l01Renamed.calls (k:Nat) (a0_0:Int) (A0_1:Option Addr) (c0_1:Nat) (l0_1:List Int) (A1:Option Addr) (c1:Nat) (l1:List Int) (r1:Int) (r2:List Int) (w:World) (hr0_1:Kd.C (Kd.int .i64) w A0_1 l0_1.length l0_1) (hc0_1:l0_1.length≤c0_1) (hr1:Kd.C (Kd.int .i64) w A1 l1.length l1) (hc1:l1.length≤c1) (h:spec_l01Renamed.f k a0_0 l0_1 l1=some (r1,r2)) :
  Calls Tryz.prog 87 #[.agg #[.int .i64 a0_0,.slice A0_1 l0_1.length c0_1],.slice A1 l1.length c1] w fun e w'=>∃ v1_:Value,e = .returned (.agg #[.int .i64 r1,v1_])∧Kd.R (Kd.int .i64) 2 w' w.heap.size (fun _=>True) v1_ r2∧Below w.heap.size w w':=by
 have hu26:=Tryz.underlying26;have HR0_1:=Aside0.mk hr0_1;have HC0_1:=Aside0.mk hc0_1;clear hr0_1 hc0_1;have HR1:=Aside0.mk hr1;have HC1:=Aside0.mk hc1;clear hr1 hc1;have HB:=Aside0.mk (Below.refl w.heap.size w);have H:(spec_l01Renamed.l0 k l1 (([]:List Int)) 0 a0_0 l0_1)=some (r1,r2):=h;clear h;obtain ⟨y238,hy238⟩:∃ y_:List Int,y_=(([]:List Int)):=⟨_,rfl⟩
 replace H:(spec_l01Renamed.l0 k l1 y238 0 a0_0 l0_1)=some (r1,r2):=by first|(rw[hy238];with_reducible exact H)|(have H2_:=(Option.bind_some _ _).symm.trans H;rw[hy238];with_reducible exact H2_)|(have H2_:=(Option.bind_some _ _).symm.trans H;with_reducible exact H2_)|with_reducible exact H|(rw[hy238];exact H)|exact H
 have Ny238:=Aside0.mk hy238;clear hy238;have H':=Aside0.mk H;clear H;go_enter Tryz.func87,Tryz.ntmps87;go_wp2_with (first|((with_reducible refine gate_dst (N:=2) rfl ?_);refine bx 2 #[.int .i64 a0_0,.slice A0_1 l0_1.length c0_1] 26 ?_;intro gb236 hg w3 hbox hb;have BK236:=Aside0.mk (hbox);have GE236:=gzA hg HB;replace HB:=bsA HB hb;clear hb hbox hg)|((with_reducible refine gate_dst (N:=4) rfl ?_);refine bx 4 #[.int .i64 0,.slice none 0 0] 26 ?_;intro gb237 hg w4 hbox hb;have BK237:=Aside0.mk (hbox);have GE237:=gzA hg HB;replace HB:=bsA HB hb;have NB236_237:=nlA hg BK236;have NB237_236:=ngA hg BK236;replace BK236:=bkA BK236 hb;clear hb hbox hg)|((with_reducible refine gate_dst (N:=7) rfl ?_);refine Kd.R_lit (Kd.int .i64) _ 2 ?hg (N:=7) ?hd (xs:=([]:List Int)) (inner:= []) (ok:=fun _=>True) (okp:=fun _=>True) ?hr ?hp (fun _ hk=>hk) trivial (Below.refl _ _) (Nat.le_refl _) (by simp) ?_;(case hd=>rfl);(case hg=>rfl);(case hr=>first|(go_simp;done)|(go_simp;rfl));(case hp=>exact(Reps.none _ _));intro v239 w5 ho6 hb hg_ hnew_;clear hg_ hnew_;(first|rw[← Ny238.out] at ho6|(simp only [Int.reduceToNat] at ho6;rw[← Ny238.out] at ho6));have HO240:=klA ho6 HB;replace BK236:=bkA BK236 hb;replace BK237:=bkA BK237 hb;replace HB:=bsA HB hb;clear hb ho6))
 go_loopg [5,6] k (fun kq v5 v6 w'=>∃(x5_1:List Int) (x6_1:Int),v6 = .int .i64 x6_1∧Aside0 (spec_l01Renamed.l0 kq l1 x5_1 x6_1 a0_0 l0_1=some (r1,r2))∧Aside0 (kq≤k)∧Aside0 (Kd.R (Kd.int .i64) 2 w' w.heap.size (fun _=>True) v5 x5_1)∧Aside0 (w'.heap[gb236]?=some (.cells #[.int .i64 a0_0,(.slice A0_1 l0_1.length c0_1)] 26 (0,0)))∧Aside0 (w'.heap[gb237]?=some (.cells #[.int .i64 0,(.slice none 0 0)] 26 (0,0)))∧Aside0 (Below w.heap.size w w'))
 case atStart=>exact⟨(y238),(0),rs,H',⟨Nat.le_refl _⟩,⟨kr HO240.out⟩,⟨bk BK236.out⟩,⟨bk BK237.out⟩,⟨bl HB.out⟩⟩
 case round=>
  clear H';try clear c1
  try clear p2
  obtain ⟨x5_1,x6_1,rfl,HA,HK1,HO_5,BK236,BK237,HB⟩:=hrel;cases gk with
  |zero=>exact absurd HA.out (by simp [spec_l01Renamed.l0])
  |succ k1=>
   have H:=HA.out;clear HA;simp only [spec_l01Renamed.l0] at H;by_cases c7:x6_1<(l0_1.length:Int)
   ·rw[if_pos c7] at H;have c7b0:decide (x6_1<(l0_1.length:Int))=true:=decide_eq_true c7;clear c7;by_cases c8:0≤x6_1
    ·rw[if_pos c8] at H;have c8b0:decide (0≤x6_1)=true:=decide_eq_true c8;clear c8;replace H:=Option.bind_eq_some_iff.mp H;obtain ⟨t242,A90,H⟩:=H;replace H:(if x5_1.length<17592186044416 then (spec_l01Renamed.l0 k1 l1 (x5_1 ++ [t242]) (wrap64 (x6_1+1)) a0_0 l0_1) else (none))=some (r1,r2):=H;have A9:=Aside0.mk A90;clear A90;by_cases c10:x5_1.length<17592186044416
     ·rw[if_pos c10] at H;have LMc10:=Aside0.mk c10;clear c10;obtain ⟨y243,hy243⟩:∃ y_:List Int,y_=(x5_1 ++ [t242]):=⟨_,rfl⟩
      replace H:(spec_l01Renamed.l0 k1 l1 y243 (wrap64 (x6_1+1)) a0_0 l0_1)=some (r1,r2):=by first|(rw[hy243];with_reducible exact H)|(have H2_:=(Option.bind_some _ _).symm.trans H;rw[hy243];with_reducible exact H2_)|(have H2_:=(Option.bind_some _ _).symm.trans H;with_reducible exact H2_)|with_reducible exact H|(rw[hy243];exact H)|exact H
      have Ny243:=Aside0.mk hy243;clear hy243;have H':=Aside0.mk H;clear H;have hnb11:=NB236_237.out;have hnc11:=NB237_236.out;have hcz12_0:=z0_ BK236;have hcz12_1:=z1_ BK236;have hfz12_0:=hf_ BK236 0;have hfz12_1:=hf_ BK236 1;have p241:0≤(x6_1:Int):=dd;have q241:x6_1<(l0_1.length:Int):=dd;obtain ⟨ad241,e241,hx241_0⟩:=Kd.at_int HR0_1.out x6_1 p241 q241;cases e241;replace hx241_0:=hx_ HB hx241_0;replace p241:=eq_true p241;replace q241:=eq_true q241;go_wp2_with (first|((with_reducible refine gate_callee (f:=134) rfl ?_);refine gl (some 22) Tryz.func134 #[.int .i64 (rd l0_1 x6_1),.slice A1 l1.length c1] ?_;(with_reducible refine(spec_l01Moved.calls k1 (rd l0_1 x6_1) _ _ l1 t242 _ (cb (Kd.C_below HR1.out HB.out)) HC1.out A9.out).mono ?_);rintro e w' ⟨rfl,⟨nd,rfl⟩⟩;refine⟨_,rfl,?_⟩)|((with_reducible refine gate_builtin (b:= .append) (xs:=#[.tmp 15,.tmp 23]) rfl ?_);at_builtin;refine Kd.R_append (Kd.int .i64) (w0:=w) w.heap.size rfl (.tmp 15) (.tmp 23) 24 2 (.int .i64 0) 8 rfl Tryz.underlying24 info2 rfl (by decide) (by omega) u5 x5_1 t242 [.int .i64 t242] (fun _=>True) (fun _=>False) rfl rfl ?aP (fun _ hk=>hk.elim) ?aF ?aO ?aB ?aS ?aL ?_;(case aP=>exact rfl);(case aB=>exact(bl HB.out));(case aF=>exact(fun _ _=>trivial));(case aO=>exact(kr HO_5.out));(case aS=>exact(below_size (bl HB.out)));(case aL=>have:=LMc10.out;omega);intro v244 w13 ho hb hg hat;rw[← Ny243.out] at ho;have n0_:=Aside0.mk (blk_grown (bk BK236.out) hg (Kd.R_ne HO_5.out BK236.out (by decide)));have n1_:=Aside0.mk (blk_grown (bk BK237.out) hg (Kd.R_ne HO_5.out BK237.out (by decide)));have n2_:=Aside0.mk (hb);have n3_:=Aside0.mk (ho);clear BK236;clear BK237;clear HB;clear HO_5;have BK236:=n0_;have BK237:=n1_;have HB:=n2_;have HO245:=n3_;clear n0_ n1_ n2_ n3_;clear ho hb hg hat))
      go_roundg k1
      case measure=>have:=HK1.out;omega
      case rel=>exact⟨(y243),(wrap64 (x6_1+1)),rs,H',⟨by have:=HK1.out;omega⟩,⟨kr HO245.out⟩,⟨bk BK236.out⟩,⟨bk BK237.out⟩,⟨bl HB.out⟩⟩
     ·rw[if_neg c10] at H;exact absurd H (by simp)
    ·rw[if_neg c8] at H;exact absurd H (by simp)
   ·rw[if_neg c7] at H;have c7b0:decide (x6_1<(l0_1.length:Int))=false:=decide_eq_false c7;clear c7;replace H:=Option.bind_eq_some_iff.mp H;obtain ⟨⟨t246,t247⟩,A140,H⟩:=H;replace H:(some (t246,t247))=some (r1,r2):=H;have A14:=Aside0.mk A140;clear A140;simp only [Option.some.injEq,Prod.mk.injEq] at H;obtain ⟨rfl,rfl⟩:=H;have hnb15:=NB236_237.out;have hnc15:=NB237_236.out;have hcz16_0:=z0_ BK236;have hcz16_1:=z1_ BK236;have hfz16_0:=hf_ BK236 0;have hfz16_1:=hf_ BK236 1;obtain ⟨Ao17,co17,eo17⟩:=Kd.R_slice HO_5.out;subst eo17;go_wp2_with (first|((with_reducible refine gate_callee (f:=124) rfl ?_);refine gl (some 28) Tryz.func124 #[.int .i64 a0_0,.slice Ao17 x5_1.length co17] ?_;(with_reducible refine(spec_l01Made.calls k1 a0_0 _ _ x5_1 t246 t247 _ (cb (Kd.R_reads' HO_5.out).2.2) ((Kd.R_reads' HO_5.out).2.1) A14.out).mono ?_);rintro e w18 ⟨v248,rfl,ho0,hb⟩;refine⟨_,rfl,?_⟩;have HO249:=Aside0.mk (Kd.R_lower (Kd.R_new' ho0 (Kd.R_lt (kr HO_5.out))) (below_size (bl HB.out)));replace HO_5:=Aside0.mk (Kd.R_elder' (kr HO_5.out) (Kd.R_base ho0) hb);replace BK236:=bkA BK236 hb;replace BK237:=bkA BK237 hb;replace HB:=bsA HB hb;(try clear hb);(try clear hb2);(try clear hk);(try clear hi);(try clear ho0);have hcz19_0:=z0_ BK237;have hcz19_1:=z1_ BK237;have hfz19_0:=hf_ BK237 0;have hfz19_1:=hf_ BK237 1;obtain ⟨Ao20,co20,eo20⟩:=Kd.R_slice HO249.out;subst eo20))
    refine bodyPost_ret (results_cell_row rfl _ _ gb237 26 #[.int .i64 t246,.slice Ao20 t247.length co20] (0,0) _ rfl (bp BK237.out) Tryz.underlying26 rfl (by kernel_rfl)) rfl ?_;exact⟨_,rr,by(with_reducible repeat(first|apply Kd.R_alloc|apply Kd.R_drewN|apply Kd.R_drew));exact Kd.R_mono (Kd.R_far (p:=⟨gb237,1,none⟩) (Kd.R_far (p:=⟨gb237,0,none⟩) (Kd.R_types HO249.out BK237.out (by decide)) (fun _ hk=>hk.2) (.int .i64 t246)) (fun _ hk=>hk.2) (.slice Ao20 t247.length co20)) (fun _ hk=>trivial),bl HB.out⟩
end Go.Proofs.YtbnnamejnjfkjaaGreat.Q
end

section
namespace Go.Proofs.YtbnnamejnjfkjaaGreat.K
open Go.RowKit Go.Shelf Go.Proofs.YtbnnamejnjfkjaaGreat.Q Go.Proofs.YtbnnamejnjfkjaaGreatW.PrintWords Go.Proofs.YtbnnamejnjfkjaaGreatW.PrintLast Go.Proofs.YtbnnamejnjfkjaaGreatW.PrintMore
set_option linter.unusedVariables false
set_option linter.unusedSimpArgs false
def freshB (pre rest:List Int):Bool:=decide rest.Nodup && rest.all fun v=>!decide (v ∈ pre)
end Go.Proofs.YtbnnamejnjfkjaaGreat.K
end

section
namespace Go.Proofs.YtbnnamejnjfkjaaGreat.K
open Go.RowKit Go.Shelf Go.Proofs.YtbnnamejnjfkjaaGreat.Q Go.Proofs.YtbnnamejnjfkjaaGreatW.PrintWords Go.Proofs.YtbnnamejnjfkjaaGreatW.PrintLast Go.Proofs.YtbnnamejnjfkjaaGreatW.PrintMore
set_option linter.unusedVariables false
set_option linter.unusedSimpArgs false
theorem one_isC:isC 1 [1]=true:=by decide +kernel
end Go.Proofs.YtbnnamejnjfkjaaGreat.K
end

section
namespace Go.Proofs.YtbnnamejnjfkjaaGreat.K
open Go.RowKit Go.Shelf Go.Proofs.YtbnnamejnjfkjaaGreat.Q Go.Proofs.YtbnnamejnjfkjaaGreatW.PrintWords Go.Proofs.YtbnnamejnjfkjaaGreatW.PrintLast Go.Proofs.YtbnnamejnjfkjaaGreatW.PrintMore
set_option linter.unusedVariables false
set_option linter.unusedSimpArgs false
theorem comp_64:∀ a b:Fin 64,(Go.bits .and .i64 (a.val:Int) (b.val:Int)=0→inB (a.val:Int) (63 - (b.val:Int))=true)∧(inB (a.val:Int) (b.val:Int)=true→Go.bits .and .i64 (a.val:Int) (63 - (b.val:Int))=0)∧(inB (a.val:Int) (63 - (b.val:Int))=true→Go.bits .and .i64 (a.val:Int) (b.val:Int)=0)∧(dimI (a.val:Int)=0→a.val≠0→inB (a.val:Int) (b.val:Int)=false→Go.bits .and .i64 (a.val:Int) (b.val:Int)=0):=by decide +kernel
theorem comp_is (a b:Int) (ha:0≤a∧a≤63) (hb:0≤b∧b≤63):(Go.bits .and .i64 a b=0→inB a (63 - b)=true)∧(inB a b=true→Go.bits .and .i64 a (63 - b)=0)∧(inB a (63 - b)=true→Go.bits .and .i64 a b=0)∧(dimI a=0→a≠0→inB a b=false→Go.bits .and .i64 a b=0):=
 small2 (P:=fun a b=>(Go.bits .and .i64 a b=0→inB a (63 - b)=true)∧(inB a b=true→Go.bits .and .i64 a (63 - b)=0)∧(inB a (63 - b)=true→Go.bits .and .i64 a b=0)∧(dimI a=0→a≠0→inB a b=false→Go.bits .and .i64 a b=0)) (fun a b=>⟨(comp_64 a b).1,(comp_64 a b).2.1,(comp_64 a b).2.2.1,fun h1 h2=>(comp_64 a b).2.2.2 h1 (by omega)⟩) a b ha hb
theorem or_shut {es:List Int} (hes:∀ x ∈ es,0≤x∧x≤63) {a b:Int} (ha:0≤a∧a≤63) (hb:0≤b∧b≤63) (h1:Shut es a) (h2:Shut es b):Shut es (Go.bits .or .i64 a b):=by
 intro e he
 have hr:=hes e he
 have ho:=or_bt a b ha hb
 have hor:0≤Go.bits .or .i64 a b∧Go.bits .or .i64 a b≤63:=⟨by omega,ho.2.2⟩
 rcases h1 e he with h|h
 ·rcases h2 e he with h'|h'
  ·left
   apply Classical.byContradiction
   intro hne
   obtain ⟨v,hv,e1,e2⟩:=(and_iff e _ hr hor).1 hne
   rw[ho.1 v hv,Bool.or_eq_true] at e2
   rcases e2 with e2|e2
   ·exact(and_iff e a hr ha).2 ⟨v,hv,e1,e2⟩ h
   ·exact(and_iff e b hr hb).2 ⟨v,hv,e1,e2⟩ h'
  ·right
   rw[or_comm' a b ha hb] at hor ⊢
   exact inB_trans e b _ hr hb hor h' (inB_or b a hb ha)
 ·right
  exact inB_trans e a _ hr ha hor h (inB_or a b ha hb)
theorem comps_apart {es:List Int} (hes:∀ x ∈ es,0≤x∧x≤63):∀(fs:List Int) (seen:Int) (out:List Int),(∀ f ∈ fs,(1≤f∧f≤63)∧dimI f=0)→(0≤seen∧seen≤63)→Shut es seen→(∀ x ∈ out,(0≤x∧x≤63)∧inB x seen=true) →
  out.Pairwise (fun a b=>Go.bits .and .i64 b a=0)→(compsI es fs seen out).Pairwise (fun a b=>Go.bits .and .i64 b a=0)
 |[],seen,out,_,_,_,_,h=>h
 |f :: fs,seen,out,hf,hs,hsh,ho,h=>by
  unfold compsI
  have hff:=hf f List.mem_cons_self
  have hfs:∀ g ∈ fs,(1≤g∧g≤63)∧dimI g=0:=fun g hg=>hf g (List.mem_cons_of_mem _ hg)
  by_cases hin:inB f seen=true
  ·rw[if_pos hin]
   exact comps_apart hes fs seen out hfs hs hsh ho h
  ·rw[if_neg hin]
   have hg:=grow_facts es hes f ⟨by omega,hff.1.2⟩
   have hcf:=comp_is f seen ⟨by omega,hff.1.2⟩ hs
   have hshc:Shut es (63 - seen):=fun e he=>by
    have hce:=comp_is e seen (hes e he) hs
    rcases hsh e he with h1|h1
    ·exact Or.inr (hce.1 h1)
    ·exact Or.inl (hce.2.1 h1)
   have hGc:=hg.2.2.2 (63 - seen) ⟨by omega,by omega⟩ (hcf.1 (hcf.2.2.2 hff.2 (by omega) (by simpa using hin))) hshc
   have hG0:Go.bits .and .i64 (growF es f) seen=0:=(comp_is (growF es f) seen hg.1 hs).2.2.1 hGc
   have hor:=or_bt seen (growF es f) hs hg.1
   have hors:0≤Go.bits .or .i64 seen (growF es f)∧Go.bits .or .i64 seen (growF es f)≤63:=⟨by omega,hor.2.2⟩
   refine comps_apart hes fs _ _ hfs hors (or_shut hes hs hg.1 hsh hg.2.2.1) (fun x hx=>?_) ?_
   ·rcases List.mem_append.1 hx with hx|hx
    ·exact⟨(ho x hx).1,inB_trans x seen _ (ho x hx).1 hs hors (ho x hx).2 (inB_or seen (growF es f) hs hg.1)⟩
    ·rw[List.mem_singleton] at hx
     subst hx
     refine⟨hg.1,?_⟩
     rw[or_comm' seen (growF es f) hs hg.1]
     exact inB_or _ _ hg.1 hs
   ·rw[List.pairwise_append]
    refine⟨h,List.pairwise_singleton _ _,fun x hx y hy=>?_⟩
    rw[List.mem_singleton] at hy
    subst hy
    apply Classical.byContradiction
    intro hne
    obtain ⟨v,hv,e1,e2⟩:=(and_iff (growF es f) x hg.1 (ho x hx).1).1 hne
    exact(and_iff (growF es f) seen hg.1 hs).2 ⟨v,hv,e1,(inB_iff x seen (ho x hx).1 hs).1 (ho x hx).2 v hv e2⟩ hG0
theorem and_zero_64:∀ a:Fin 64,Go.bits .and .i64 (a.val:Int) 0=0:=by decide +kernel
end Go.Proofs.YtbnnamejnjfkjaaGreat.K
end

section
namespace Go.Proofs.YtbnnamejnjfkjaaGreat.K
open Go.RowKit Go.Shelf Go.Proofs.YtbnnamejnjfkjaaGreatW.PrintWords Go.Proofs.YtbnnamejnjfkjaaGreatW.PrintLast Go.Proofs.YtbnnamejnjfkjaaGreatW.PrintMore
set_option linter.unusedVariables false
set_option linter.unusedSimpArgs false
theorem comps_map (es fs0:List Int):∀(fs:List Int) (seen:Int) (out:List Int),(∀ f ∈ fs,f ∈ fs0)→(∃ rs:List Int,out=rs.map (growF es)∧∀ r ∈ rs,r ∈ fs0)→∃ rs:List Int,compsI es fs seen out=rs.map (growF es)∧∀ r ∈ rs,r ∈ fs0
 |[],_,_,_,h=>h
 |f :: fs,seen,out,hf,h=>by
  unfold compsI
  have hfs:∀ g ∈ fs,g ∈ fs0:=fun g hg=>hf g (List.mem_cons_of_mem _ hg)
  by_cases hin:inB f seen=true
  ·rw[if_pos hin]
   exact comps_map es fs0 fs seen out hfs h
  ·rw[if_neg hin]
   obtain ⟨rs,rfl,hr⟩:=h
   exact comps_map es fs0 fs _ _ hfs ⟨rs ++ [f],by simp,fun r hr2=>by
    rcases List.mem_append.1 hr2 with h1|h1
    ·exact hr r h1
    ·rw[List.mem_singleton] at h1
     rw[h1]
     exact hf f List.mem_cons_self⟩
theorem comps_cover {es:List Int} (hes:∀ x ∈ es,0≤x∧x≤63):∀(fs:List Int) (seen:Int) (out:List Int),(∀ f ∈ fs,1≤f∧f≤63)→(0≤seen∧seen≤63)→(∀ c ∈ out,0≤c∧c≤63)→(∀ v,v<6→bt seen v=true→∃ c ∈ out,bt c v=true) →
  (∀ c ∈ out,c ∈ compsI es fs seen out)∧∀ f ∈ fs,∀ v,v<6→bt f v=true→∃ c ∈ compsI es fs seen out,bt c v=true
 |[],_,_,_,_,_,_=>⟨fun _ h=>h,fun _ h=>by cases h⟩
 |f :: fs,seen,out,hf,hs,ho,h=>by
  unfold compsI
  have hfs:∀ g ∈ fs,1≤g∧g≤63:=fun g hg=>hf g (List.mem_cons_of_mem _ hg)
  have hff:=hf f List.mem_cons_self
  by_cases hin:inB f seen=true
  ·rw[if_pos hin]
   obtain ⟨h1,h2⟩:=comps_cover hes fs seen out hfs hs ho h
   refine⟨h1,fun g hg v hv hb=>?_⟩
   rcases List.mem_cons.1 hg with rfl|hg
   ·obtain ⟨c,hc,hcb⟩:=h v hv ((inB_iff g seen ⟨by omega,hff.2⟩ hs).1 hin v hv hb)
    exact⟨c,h1 c hc,hcb⟩
   ·exact h2 g hg v hv hb
  ·rw[if_neg hin]
   have hg:=grow_facts es hes f ⟨by omega,hff.2⟩
   have hor:=or_bt seen (growF es f) hs hg.1
   obtain ⟨h1,h2⟩:=comps_cover hes fs (Go.bits .or .i64 seen (growF es f)) (out ++ [growF es f]) hfs ⟨by omega,hor.2.2⟩ (fun c hc=>by
    rcases List.mem_append.1 hc with h1|h1
    ·exact ho c h1
    ·rw[List.mem_singleton] at h1
     rw[h1]
     exact hg.1) (fun v hv hb=>by
    rw[hor.1 v hv,Bool.or_eq_true] at hb
    rcases hb with hb|hb
    ·obtain ⟨c,hc,hcb⟩:=h v hv hb
     exact⟨c,List.mem_append_left _ hc,hcb⟩
    ·exact⟨_,List.mem_append_right _ (List.mem_singleton.2 rfl),hb⟩)
   refine⟨fun c hc=>h1 c (List.mem_append_left _ hc),fun g hg2 v hv hb=>?_⟩
   rcases List.mem_cons.1 hg2 with rfl|hg2
   ·exact⟨_,h1 _ (List.mem_append_right _ (List.mem_singleton.2 rfl)),(inB_iff g _ ⟨by omega,hff.2⟩ hg.1).1 hg.2.1 v hv hb⟩
   ·exact h2 g hg2 v hv hb
def Uv (V:List Int) (w:Int):VV:=fun n=>if n<V.length∧V.getD n 0=w then 1 else 0
theorem uv_comb (V:List Int) (n:Nat) (hn:n<V.length):∀(cs ws:List Int),cs.length=ws.length→ws.Nodup→∀(i:Nat) (h:i<ws.length) (h':i<cs.length),V[n]=ws[i]→comb cs (ws.map (Uv V)) n=cs[i]
 |[],[],_,_,i,h,_,_=>by cases h
 |c :: cs,w :: ws,hl,hd,i,h,h',e=>by
  simp only [List.map_cons,comb]
  rw[List.nodup_cons] at hd
  have hz:∀(cs ws:List Int),cs.length=ws.length→(∀ x ∈ ws,x≠V[n])→comb cs (ws.map (Uv V)) n=0:=by
   intro cs
   induction cs with
   |nil=>intro ws h _;cases ws with
    |nil=>rfl
    |cons w ws=>cases h
   |cons c cs ih=>intro ws h hx;cases ws with
    |nil=>cases h
    |cons w ws=>
     simp only [List.map_cons,comb]
     rw[ih ws (by simpa using h) (fun x hx2=>hx x (List.mem_cons_of_mem _ hx2))]
     have:=hx w List.mem_cons_self
     simp [Uv,hn,this.symm]
  cases i with
  |zero=>
   simp only [List.getElem_cons_zero] at e ⊢
   rw[hz cs ws (by simpa using hl) (fun x hx e2=>hd.1 (by rw[← e,← e2];exact hx))]
   simp [Uv,hn,e]
  |succ i=>
   simp only [List.getElem_cons_succ] at e ⊢
   rw[uv_comb V n hn cs ws (by simpa using hl) hd.2 i (by simpa using h) (by simpa using h') e]
   have:w≠V[n]:=fun e2=>hd.1 (by rw[e2,e];exact List.getElem_mem _)
   simp [Uv,hn,this.symm]
 |[],_ :: _,hl,_,_,_,_,_=>by cases hl
 |_ :: _,[],hl,_,_,_,_,_=>by cases hl
theorem uv_indep (p:Int) (V ws:List Int) (hd:ws.Nodup) (hs:∀ w ∈ ws,w ∈ V):Indep p V.length (ws.map (Uv V)):=by
 intro cs hl hz c hc
 rw[List.length_map] at hl
 obtain ⟨i,hi,rfl⟩:=List.mem_iff_getElem.1 hc
 obtain ⟨n,hn,e⟩:=List.mem_iff_getElem.1 (hs _ (List.getElem_mem (show i<ws.length by omega)))
 have:=uv_comb V n hn cs ws hl hd i (by omega) hi e
 rw[← this]
 exact hz n hn
theorem cut1_64:∀ F C:Fin 64,dimI (F.val:Int)=1→(Go.bits .and .i64 (F.val:Int) (C.val:Int)=0∨inB (F.val:Int) (C.val:Int)=true)→((bords (F.val:Int)).map fun v=>inc (F.val:Int) v*(if inB v (C.val:Int)=true then 1 else 0)).sum=0:=by decide +kernel
theorem ends_64:∀ e:Fin 64,dimI (e.val:Int)=1→∀ u v:Fin 6,u≠v→bt (e.val:Int) u.val=true→bt (e.val:Int) v.val=true→inc (e.val:Int) ((2:Int) ^ u.val) = - inc (e.val:Int) ((2:Int) ^ v.val)∧inc (e.val:Int) ((2:Int) ^ v.val)*inc (e.val:Int) ((2:Int) ^ v.val)=1∧(bords (e.val:Int)).all (fun f=>decide (f=(2:Int) ^ u.val∨f=(2:Int) ^ v.val))=true:=by decide +kernel
def maskN (a b c d e f:Bool):Nat:=(if a then 1 else 0)+(if b then 2 else 0)+(if c then 4 else 0)+(if d then 8 else 0)+(if e then 16 else 0)+(if f then 32 else 0)
theorem mask_64:∀ a b c d e f:Bool,maskN a b c d e f≤63∧bt (maskN a b c d e f:Int) 0=a∧bt (maskN a b c d e f:Int) 1=b∧bt (maskN a b c d e f:Int) 2=c∧bt (maskN a b c d e f:Int) 3=d∧bt (maskN a b c d e f:Int) 4=e∧bt (maskN a b c d e f:Int) 5=f:=by decide +kernel
open Classical in
theorem mask (P:Nat→Prop):∃ x:Int,(0≤x∧x≤63)∧∀ v,v<6→(bt x v=true↔P v):=by
 obtain ⟨h,h0,h1,h2,h3,h4,h5⟩:=mask_64 (decide (P 0)) (decide (P 1)) (decide (P 2)) (decide (P 3)) (decide (P 4)) (decide (P 5))
 refine⟨(maskN (decide (P 0)) (decide (P 1)) (decide (P 2)) (decide (P 3)) (decide (P 4)) (decide (P 5)):Int),⟨by omega,by omega⟩,fun v hv=>?_⟩
 generalize maskN (decide (P 0)) (decide (P 1)) (decide (P 2)) (decide (P 3)) (decide (P 4)) (decide (P 5))=x at *
 have:v=0∨v=1∨v=2∨v=3∨v=4∨v=5:=by omega
 rcases this with rfl|rfl|rfl|rfl|rfl|rfl
 ·rw[h0];exact decide_eq_true_iff
 ·rw[h1];exact decide_eq_true_iff
 ·rw[h2];exact decide_eq_true_iff
 ·rw[h3];exact decide_eq_true_iff
 ·rw[h4];exact decide_eq_true_iff
 ·rw[h5];exact decide_eq_true_iff
theorem pow_of:∀ m:Fin 64,dimI (m.val:Int)=0→m.val≠0→∃ v:Fin 6,(m.val:Int)=(2:Int) ^ v.val:=by decide +kernel
end Go.Proofs.YtbnnamejnjfkjaaGreat.K
end

section
namespace Go.Proofs.YtbnnamejnjfkjaaGreat.K
open Go.RowKit Go.Shelf Go.Proofs.YtbnnamejnjfkjaaGreatW.PrintWords Go.Proofs.YtbnnamejnjfkjaaGreatW.PrintLast Go.Proofs.YtbnnamejnjfkjaaGreatW.PrintMore
set_option linter.unusedVariables false
set_option linter.unusedSimpArgs false
theorem dimp_64:∀ v:Fin 6,dimI ((2:Int) ^ v.val)=0:=by decide +kernel
theorem vert_pow {n:Int} {l:List Int} (hi:isC n l=true) {w:Int} (hw:w ∈ ofL l 0):∃ v,v<6∧w=(2:Int) ^ v:=by
 have h1:=List.mem_filter.1 hw
 have hr:=(isC_faces hi).2.2.1 w h1.1
 obtain ⟨m,rfl⟩:=Int.eq_ofNat_of_zero_le (show 0≤w by omega)
 obtain ⟨v,hv⟩:=pow_of ⟨m,by omega⟩ (by simpa [bne] using h1.2) (by show m≠0;omega)
 exact⟨v.val,v.isLt,hv⟩
theorem vert_in {n:Int} {l:List Int} (hi:isC n l=true) {e:Int} (he:e ∈ ofL l 1) (u:Nat) (hu:u<6) (hb:bt e u=true):(2:Int) ^ u ∈ ofL l 0:=by
 have h1:=List.mem_filter.1 he
 have hr:=(isC_faces hi).2.2.1 e h1.1
 have hp:=pow_range u hu
 have hin:inB ((2:Int) ^ u) e=true:=(inB_iff _ e ⟨by omega,by omega⟩ ⟨by omega,hr.2.2⟩).2 (fun v hv h=>by
  rw[bt_pow v u hv hu] at h
  have:=of_decide_eq_true h
  rw[this]
  exact hb)
 refine List.mem_filter.2 ⟨sub_in hi _ e ⟨by omega,by omega⟩ h1.1 hin,?_⟩
 have:=dimp_64 ⟨u,hu⟩
 simp only at this
 rw[this]
 rfl
theorem reach {n:Int} {l:List Int} (hi:isC n l=true) {p:Int} (hp:2≤p∧p≤3) {r:Int} (hr:r ∈ ofL l 0) (v:Nat) (hv:v<6) (hb:bt (growF (ofL l 1) r) v=true) :
  Sp p (ofL l 0).length ((rowsL l 1 p).map toV) (fun n=>Uv (ofL l 0) ((2:Int) ^ v) n - Uv (ofL l 0) r n):=by
 have hI:=isC_faces hi
 have hes:∀ x ∈ ofL l 1,0≤x∧x≤63:=fun x hx=>by have:=hI.2.2.1 x (List.mem_filter.1 hx).1;omega
 have hrr:=hI.2.2.1 r (List.mem_filter.1 hr).1
 have hg:=grow_facts (ofL l 1) hes r ⟨by omega,hrr.2.2⟩
 obtain ⟨x,hx,hxb⟩:=mask (fun v=>(2:Int) ^ v ∈ ofL l 0∧Sp p (ofL l 0).length ((rowsL l 1 p).map toV) (fun n=>Uv (ofL l 0) ((2:Int) ^ v) n - Uv (ofL l 0) r n))
 obtain ⟨k,hk,hrk⟩:=vert_pow hi hr
 have hin:inB r x=true:=(inB_iff r x ⟨by omega,hrr.2.2⟩ hx).2 (fun u hu h=>by
  rw[hrk,bt_pow u k hu hk] at h
  have e:=of_decide_eq_true h
  subst e
  refine(hxb u hu).2 ⟨by rw[← hrk];exact hr,sp_zero _ (fun n _=>?_)⟩
  rw[← hrk,Int.sub_self]
  rfl)
 have hsh:Shut (ofL l 1) x:=by
  intro e he
  by_cases h0:Go.bits .and .i64 e x=0
  ·exact Or.inl h0
  ·right
   have her:=hes e he
   obtain ⟨w,hw,h1,h2⟩:=(and_iff e x her hx).1 h0
   refine(inB_iff e x her hx).2 (fun u hu h3=>?_)
   by_cases huw:u=w
   ·rw[huw];exact h2
   ·have hP:=(hxb w hw).1 h2
    refine(hxb u hu).2 ⟨vert_in hi he u hu h3,?_⟩
    have hd:dimI e=1:=by simpa [bne] using (List.mem_filter.1 he).2
    obtain ⟨m,rfl⟩:=Int.eq_ofNat_of_zero_le her.1
    have hE:=ends_64 ⟨m,by omega⟩ hd ⟨u,hu⟩ ⟨w,hw⟩ (fun e=>huw (by injection e)) h3 h1
    simp only at hE
    have hpu:(2:Int) ^ u≠(2:Int) ^ w:=fun e2=>by
     have:=bt_pow w u hw hu
     rw[e2,bt_pow w w hw hw] at this
     simp at this
     exact huw this.symm
    have hrow:Sp p (ofL l 0).length ((rowsL l 1 p).map toV) (toV (rowR (ofL l 0) p (m:Int))):=by
     refine sp_mem (List.mem_map_of_mem ?_)
     have:rowR (ofL l (1 - 1)) p (m:Int) ∈ rowsL l 1 p:=List.mem_map_of_mem he
     exact this
    refine sp_lin (-(inc (m:Int) ((2:Int) ^ w))) hP.2 hrow (fun q hq=>?_)
    have h5:=row_inc hi 1 p hp.1 (m:Int) he q hq
    have h5':(toV (rowR (ofL l 0) p (m:Int)) q - inc (m:Int) (ofL l 0)[q]) % p=0:=h5
    have hgq:(ofL l 0).getD q 0=(ofL l 0)[q]:=by simp [hq]
    have hU:∀ y:Int,Uv (ofL l 0) y q=if (ofL l 0)[q]=y then 1 else 0:=fun y=>by
     unfold Uv
     rw[hgq]
     by_cases h:(ofL l 0)[q]=y
     ·rw[if_pos ⟨hq,h⟩,if_pos h]
     ·rw[if_neg (fun h2=>h h2.2),if_neg h]
    rw[hU,hU,hU]
    generalize (ofL l 0)[q]=z at h5' ⊢
    generalize toV (rowR (ofL l 0) p (m:Int)) q=y at h5' ⊢
    have hkey:(if z=(2:Int) ^ u then (1:Int) else 0) - (if z=(2:Int) ^ w then 1 else 0) = -(inc (m:Int) ((2:Int) ^ w))*inc (m:Int) z:=by
     by_cases h6:z=(2:Int) ^ u
     ·rw[if_pos h6,if_neg (by rw[h6];exact hpu),h6,hE.1,Int.neg_mul_neg,hE.2.1]
      rfl
     ·rw[if_neg h6]
      by_cases h7:z=(2:Int) ^ w
      ·rw[if_pos h7,h7,Int.neg_mul,hE.2.1]
       rfl
      ·rw[if_neg h7,inc_out (m:Int) z (fun hz=>by
        have:=of_decide_eq_true (List.all_eq_true.1 hE.2.2 z hz)
        rcases this with h|h
        ·exact h6 h
        ·exact h7 h)]
       simp
    have e2:(if z=(2:Int) ^ u then (1:Int) else 0) - (if z=r then 1 else 0) - (-(inc (m:Int) ((2:Int) ^ w))*y+((if z=(2:Int) ^ w then 1 else 0) - (if z=r then 1 else 0)))=inc (m:Int) ((2:Int) ^ w)*(y - inc (m:Int) z):=by
     rw[Int.mul_sub]
     rw[Int.neg_mul] at hkey ⊢
     omega
    rw[e2,Int.mul_emod,h5']
    simp
 have:=hg.2.2.2 x hx hin hsh
 exact((hxb v hv).1 ((inB_iff _ x hg.1 hx).1 this v hv hb)).2
theorem betti_zero {n:Int} {l:List Int} (hi:isC n l=true) (p:Int) (hp:2≤p∧p≤3):rankL l 1 p+(componentsL l).length=(ofL l 0).length:=by
 have hI:=isC_faces hi
 have hes:∀ x ∈ ofL l 1,0≤x∧x≤63:=fun x hx=>by have:=hI.2.2.1 x (List.mem_filter.1 hx).1;omega
 have hvr:∀ x ∈ ofL l 0,1≤x∧x≤63:=fun x hx=>by have:=hI.2.2.1 x (List.mem_filter.1 hx).1;omega
 have hVn:(ofL l 0).Nodup:=asc_nod (of_asc hi 0)
 obtain ⟨rs,hC,hrs⟩:=comps_map (ofL l 1) (ofL l 0) (ofL l 0) 0 [] (fun _ h=>h) ⟨[],rfl,fun _ h=>by cases h⟩
 have hap:=comps_apart hes (ofL l 0) 0 [] (fun f hf=>⟨hvr f hf,by simpa [bne] using (List.mem_filter.1 hf).2⟩) ⟨by omega,by omega⟩ (fun e he=>Or.inl (by
  exact small2 (P:=fun a b=>b=0→Go.bits .and .i64 a b=0) (fun a b h=>by rw[h];exact and_zero_64 a) e 0 (hes e he) ⟨by omega,by omega⟩ rfl)) (fun x hx=>by cases hx) List.Pairwise.nil
 obtain ⟨_,hcov⟩:=comps_cover hes (ofL l 0) 0 [] hvr ⟨by omega,by omega⟩ (fun c hc=>by cases hc) (fun v hv h=>by
  have:bt 0 v=false:=by simp [bt]
  rw[this] at h
  cases h)
 have hCe:componentsL l=rs.map (growF (ofL l 1)):=hC
 have hcr:∀ c ∈ componentsL l,0≤c∧c≤63:=fun c hc=>by
  rw[hCe] at hc
  obtain ⟨r,hr,rfl⟩:=List.mem_map.1 hc
  have:=hvr r (hrs r hr)
  exact(grow_facts (ofL l 1) hes r ⟨by omega,this.2⟩).1
 have hA:=rowsL_good l 1 p hp.1
 have hA':Good p (ofL l 0).length (rowsL l 1 p):=hA
 have hlC:(componentsL l).length=rs.length:=by rw[hCe,List.length_map]
 obtain ⟨EA,a1,a2,a3,a4⟩:=rank_basis hp hA'
 have hrank:rankL l 1 p=rankM p (ofL l 0).length (rowsL l 1 p):=rfl
 obtain ⟨R,hR⟩:∃ R:Int→List Int,∀ v,R v=(componentsL l).map fun c=>if inB v c=true then (1:Int) else 0:=⟨_,fun _=>rfl⟩
 have hRg:∀(v:Int) (m:Nat) (hm:m<(componentsL l).length),toV (R v) m=if inB v (componentsL l)[m]=true then 1 else 0:=fun v m hm=>by
  unfold toV
  rw[hR,List.getD_eq_getElem?_getD]
  simp [hm]
 have hBg:Good p (componentsL l).length ((ofL l 0).map R):=fun row hrow=>by
  obtain ⟨v,_,rfl⟩:=List.mem_map.1 hrow
  rw[hR]
  refine⟨by simp,fun x hx=>?_⟩
  obtain ⟨c,_,rfl⟩:=List.mem_map.1 hx
  split <;> omega
 have hup:=rank_le hp hA' hBg (by simp) (fun row hrow m hm=>by
  obtain ⟨F,hF,rfl⟩:=List.mem_map.1 hrow
  have h1:=app_sum (p:=p) m (toV (rowR (ofL l (1 - 1)) p F)) R (inc F) (fun v=>if inB v (componentsL l)[m]=true then 1 else 0) (ofL l 0) 0 (fun j hj=>by
   rw[Nat.zero_add]
   exact row_inc hi 1 p hp.1 F hF j hj) (fun f hf=>by rw[hRg f m hm,Int.sub_self];rfl)
  have hFr:=hes F hF
  obtain ⟨M,rfl⟩:=Int.eq_ofNat_of_zero_le hFr.1
  have hcm:=hcr _ (List.getElem_mem hm)
  have hsh:Shut (ofL l 1) (componentsL l)[m]:=by
   have:(componentsL l)[m] ∈ rs.map (growF (ofL l 1)):=by rw[← hCe];exact List.getElem_mem hm
   obtain ⟨r,hr,e⟩:=List.mem_map.1 this
   rw[← e]
   have:=hvr r (hrs r hr)
   exact(grow_facts (ofL l 1) hes r ⟨by omega,this.2⟩).2.2.1
  obtain ⟨G,hG⟩:=Int.eq_ofNat_of_zero_le hcm.1
  have hshF:=hsh _ hF
  have h2:=sub_sum hVn (bnod_64 ⟨M,by omega⟩) (fun f hf=>bords_of hi 1 _ hF f hf) (fun v=>inc (M:Int) v*(if inB v (componentsL l)[m]=true then 1 else 0)) (fun f _ hf=>by rw[inc_out _ _ hf,Int.zero_mul])
  rw[hG] at hshF h2 h1
  have h3:=cut1_64 ⟨M,by omega⟩ ⟨G,by omega⟩ (by simpa [bne] using (List.mem_filter.1 hF).2) hshF
  simp only at h3
  rw[h2,h3,Int.sub_zero] at h1
  exact h1)
 have hlow:((componentsL l).length:Int)≤rankM p (componentsL l).length ((ofL l 0).map R):=by
  obtain ⟨EB,b1,b2,b3,b4⟩:=rank_basis hp hBg
  have hin:Indep p (componentsL l).length (rs.map fun r=>toV (R r)):=ech_indep hp _ (fun i hi2=>by
   rw[List.length_map] at hi2
   have hiC:i<(componentsL l).length:=by omega
   have hg:∀(j:Nat) (hj:j<(rs.map fun r=>toV (R r)).length),(rs.map fun r=>toV (R r))[j] i=if inB (rs[j]'(by rw[List.length_map] at hj;exact hj)) (componentsL l)[i]=true then 1 else 0:=fun j hj=>by
    rw[List.getElem_map]
    exact hRg _ i hiC
   have hci:∀(j:Nat) (hj:j<rs.length),(componentsL l)[j]'(by omega)=growF (ofL l 1) rs[j]:=fun j hj=>by simp only [hCe,List.getElem_map]
   refine⟨i,hiC,?_,fun j hj hij=>?_⟩
   ·rw[hg,hci i hi2]
    have hv:=hvr _ (hrs _ (List.getElem_mem hi2))
    rw[if_pos (grow_facts (ofL l 1) hes rs[i] ⟨by omega,hv.2⟩).2.1]
    rcases (show p=2∨p=3 by omega) with rfl|rfl <;> decide
   ·rw[hg]
    rw[List.length_map] at hj
    have hv:=hvr _ (hrs _ (List.getElem_mem hj))
    have hgj:=grow_facts (ofL l 1) hes rs[j] ⟨by omega,hv.2⟩
    have hd:Go.bits .and .i64 (componentsL l)[j] (componentsL l)[i]=0:=(List.pairwise_iff_getElem.1 hap) i j hiC (show j<(componentsL l).length by omega) hij
    rw[if_neg (fun h=>by
     obtain ⟨k,hk,e⟩:=vert_pow hi (hrs _ (List.getElem_mem hj))
     have hbk:bt rs[j] k=true:=by rw[e,bt_pow k k hk hk];simp
     have hci2:=hcr _ (List.getElem_mem hiC)
     have hcj:=hcr _ (List.getElem_mem (show j<(componentsL l).length by omega))
     refine(and_iff _ _ hcj hci2).2 ⟨k,hk,?_,(inB_iff rs[j] _ ⟨by omega,hv.2⟩ hci2).1 h k hk hbk⟩ hd
     rw[hci j hj]
     exact(inB_iff rs[j] _ ⟨by omega,hv.2⟩ hgj.1).1 hgj.2.1 k hk hbk)]
    simp)
  have:=steinitz hp hin (us:=EB) (fun v hv=>by
   obtain ⟨r,hr,rfl⟩:=List.mem_map.1 hv
   exact b4 _ (List.mem_map_of_mem (hrs r hr)))
  rw[List.length_map] at this
  omega
 have hlow2:=steinitz hp (uv_indep p (ofL l 0) (ofL l 0) hVn (fun _ h=>h)) (us:=EA ++ rs.map (Uv (ofL l 0))) (fun v hv=>by
  obtain ⟨w,hw,rfl⟩:=List.mem_map.1 hv
  obtain ⟨k,hk,e⟩:=vert_pow hi hw
  obtain ⟨c,hc,hcb⟩:=hcov w hw k hk (by rw[e,bt_pow k k hk hk];simp)
  have hc2:c ∈ rs.map (growF (ofL l 1)):=by rw[← hC];exact hc
  obtain ⟨r,hr,rfl⟩:=List.mem_map.1 hc2
  have h1:=reach hi hp (hrs r hr) k hk hcb
  rw[← e] at h1
  have h2:Sp p (ofL l 0).length (EA ++ rs.map (Uv (ofL l 0))) (fun n=>Uv (ofL l 0) w n - Uv (ofL l 0) r n):=by
   refine sp_trans (vs:=EA) (fun v hv=>sp_mem (List.mem_append_left _ hv)) (sp_trans (fun v hv=>?_) h1)
   obtain ⟨row,hrow,rfl⟩:=List.mem_map.1 hv
   exact a4 row hrow
  refine sp_lin 1 h2 (sp_mem (List.mem_append_right _ (List.mem_map_of_mem hr))) (fun n _=>?_)
  have:Uv (ofL l 0) w n - (1*Uv (ofL l 0) r n+(Uv (ofL l 0) w n - Uv (ofL l 0) r n))=0:=by omega
  rw[this]
  rfl)
 rw[List.length_map,List.length_append,List.length_map] at hlow2
 omega
end Go.Proofs.YtbnnamejnjfkjaaGreat.K
end

section
namespace Go.Proofs.YtbnnamejnjfkjaaGreat.K
open Go.RowKit Go.Shelf Go.Proofs.YtbnnamejnjfkjaaGreatW.PrintWords Go.Proofs.YtbnnamejnjfkjaaGreatW.PrintLast Go.Proofs.YtbnnamejnjfkjaaGreatW.PrintMore
set_option linter.unusedVariables false
abbrev OneV:Type:={ v:Value // v.oneCell'=true }
abbrev Kv:Kd OneV:=Kd.scalar (fun v=>v.1) (fun v=>v.2)
def nilV:OneV:=⟨.slice none 0 0,rfl⟩
end Go.Proofs.YtbnnamejnjfkjaaGreat.K
end

section
namespace Go.Proofs.YtbnnamejnjfkjaaGreat.K
open Go.RowKit Go.Shelf Go.Proofs.YtbnnamejnjfkjaaGreatW.PrintWords Go.Proofs.YtbnnamejnjfkjaaGreatW.PrintLast Go.Proofs.YtbnnamejnjfkjaaGreatW.PrintMore
set_option linter.unusedVariables false
set_option linter.unusedSimpArgs false
theorem infoS:(Tryz.prog.info? 24).map (fun i=>(i.zero,i.size,i.bytes))=some (some (.slice none 0 0),1,24):=by kernel_rfl
structure Rws (w:World) (base:Nat) (vs:List OneV) (f:Nat→Nat) (M:List (List Int)):Prop where
 len:vs.length=M.length
 row:∀ i (h:i<M.length),Ki.R 2 w base (fun k=>f k=i) (vs[i]'(by omega)).1 M[i]
structure Mat (w:World) (base:Nat) (v:Value) (vs:List OneV) (f:Nat→Nat) (M:List (List Int)):Prop extends Rws w base vs f M where
 outer:Kv.R 24 w base (fun k=>M.length≤f k) v vs
 fresh:∀ k,w.heap.size≤k→M.length≤f k
theorem Rws.step {w w1:World} {base:Nat} {vs:List OneV} {f:Nat→Nat} {M:List (List Int)} (h:Rws w base vs f M) (hm:∀ k,f k<M.length→k<w.heap.size→w1.heap[k]?=w.heap[k]?):Rws w1 base vs f M:=
 ⟨h.len,fun i hi=>Kd.R_step (h.row i hi) (fun k ho hk=>hm k (by rw[ho];exact hi) hk)⟩
theorem Rws.below {w w1:World} {base:Nat} {vs:List OneV} {f:Nat→Nat} {M:List (List Int)} (h:Rws w base vs f M) (hb:Below w.heap.size w w1):Rws w1 base vs f M:=
 h.step (fun k _ hk=>hb.block k hk)
theorem Mat.below {w w1:World} {base:Nat} {v:Value} {vs:List OneV} {f:Nat→Nat} {M:List (List Int)} (h:Mat w base v vs f M) (hb:Below w.heap.size w w1):Mat w1 base v vs f M:=
 ⟨h.toRws.below hb,Kd.R_below h.outer hb,fun k hk=>h.fresh k (Nat.le_trans hb.size hk)⟩
theorem Mat.nil (w:World) (base:Nat):Mat w base (.slice none 0 0) [] (fun _=>0) []:=
 ⟨⟨rfl,fun i h=>absurd h (Nat.not_lt_zero i)⟩,Kd.R_nil _ _ _ _ _,fun _ _=>Nat.zero_le _⟩
theorem Mat.slice {w:World} {base:Nat} {v:Value} {vs:List OneV} {f:Nat→Nat} {M:List (List Int)} (h:Mat w base v vs f M):∃ A c,v = .slice A M.length c∧M.length≤c:=by
 obtain ⟨A,c,h1,h2,_⟩:=Kd.R_reads h.outer
 rw[h.len] at h1 h2
 exact⟨A,c,h1,h2⟩
theorem Rws.form {w:World} {base:Nat} {vs:List OneV} {f:Nat→Nat} {M:List (List Int)} (h:Rws w base vs f M) (i:Nat) (hi:i<M.length) (hp:0<M[i].length) :
  ∃ g c,(vs[i]'(by have:=h.len;omega)).1 = .slice (some ⟨g,0,none⟩) M[i].length c∧M[i].length≤c∧f g=i∧base≤g∧g<w.heap.size:=by
 obtain ⟨g,c,h1,h2,h3,_⟩:=Kd.R_form (h.row i hi) hp
 have hr:=h.row i hi
 obtain ⟨A,c',h4,h5,_⟩:=Kd.R_reads hr
 rw[h1] at h4
 injection h4 with e1 e2 e3
 have h6:=hr.1 g (by rw[h1];simp [Value.ownBlock])
 exact⟨g,c,h1,by omega,h6,h2,h3⟩
theorem Mat.put {w:World} {base:Nat} {v:Value} {vs:List OneV} {f:Nat→Nat} {M:List (List Int)} (h:Mat w base v vs f M) (i:Nat) (hi:i<M.length) (g n c:Nat) (hv:(vs[i]'(by have:=h.len;omega)).1 = .slice (some ⟨g,0,none⟩) n c) (j:Int) (x:Int) :
  Mat (w.setCell ⟨g,j.toNat,none⟩ (I x)) base v vs f (M.set i (M[i].set j.toNat x)):=by
 have hr:=h.row i hi
 rw[hv] at hr
 have hg:f g=i:=hr.1 g (by simp [Value.ownBlock])
 have hw:=Kd.R_putn hr j x
 have hfar:∀ k,k≠g→(w.setCell ⟨g,j.toNat,none⟩ (I x)).heap[k]?=w.heap[k]?:=fun k hk=>Below.heap_setCell w _ _ k hk
 refine⟨⟨by rw[List.length_set];exact h.len,fun k hk=>?_⟩,?_,fun k hk=>?_⟩
 ·rw[List.length_set] at hk
  by_cases e:i=k
  ·subst e
   rw[List.getElem_set_self,hv]
   exact hw
  ·rw[List.getElem_set_ne e]
   exact Kd.R_step (h.row k hk) (fun b ho _=>hfar b (fun e2=>e (by rw[← hg,← ho,e2])))
 ·rw[List.length_set]
  exact Kd.R_step h.outer (fun k ho _=>hfar k (fun e2=>by rw[e2,hg] at ho;omega))
 ·rw[List.length_set]
  rw[World.size_setCell] at hk
  exact h.fresh k hk
def swapT (a b i:Nat):Nat:=if i=b then a else if i=a then b else i
theorem swapT_lt {a b i m:Nat} (ha:a<m) (hb:b<m):swapT a b i<m↔i<m:=by
 unfold swapT
 split
 ·omega
 ·split <;> omega
theorem swapT_swap (a b i:Nat):swapT a b (swapT a b i)=i:=by
 unfold swapT
 by_cases h1:i=b <;> by_cases h2:i=a <;> by_cases h3:a=b <;> simp_all
theorem swap_get {α:Type} (l:List α) (a b:Nat) (ha:a<l.length) (hb:b<l.length) (i:Nat) (hi:i<l.length):((l.set a l[b]).set b l[a])[i]'(by simpa using hi)=l[swapT a b i]'((swapT_lt ha hb).2 hi):=by
 rw[List.getElem_set]
 by_cases e:b=i
 ·rw[if_pos e]
  have:swapT a b i=a:=if_pos e.symm
  simp only [this]
 ·rw[if_neg e,List.getElem_set]
  by_cases e2:a=i
  ·rw[if_pos e2]
   have:swapT a b i=b:=by unfold swapT;rw[if_neg (fun x=>e x.symm),if_pos e2.symm]
   simp only [this]
  ·rw[if_neg e2]
   have:swapT a b i=i:=by unfold swapT;rw[if_neg (fun x=>e x.symm),if_neg (fun x=>e2 x.symm)]
   simp only [this]
theorem Mat.swap {w:World} {base:Nat} {vs:List OneV} {f:Nat→Nat} {M:List (List Int)} {G n c:Nat} (h:Mat w base (.slice (some ⟨G,0,none⟩) n c) vs f M) (a b:Nat) (ha:a<M.length) (hb:b<M.length) :
  Mat ((w.setCell ⟨G,a,none⟩ (vs[b]'(by have:=h.len;omega)).1).setCell ⟨G,b,none⟩ (vs[a]'(by have:=h.len;omega)).1) base (.slice (some ⟨G,0,none⟩) n c) ((vs.set a (vs[b]'(by have:=h.len;omega))).set b (vs[a]'(by have:=h.len;omega))) (fun k=>swapT a b (f k)) ((M.set a M[b]).set b M[a]):=by
 have hl:=h.len
 have h1:=Kd.R_putn h.outer (a:Int) (vs[b]'(by omega))
 rw[Int.toNat_natCast] at h1
 have h2:=Kd.R_putn h1 (b:Int) (vs[a]'(by omega))
 rw[Int.toNat_natCast] at h2
 have hG:M.length≤f G:=h.outer.1 G (by simp [Value.ownBlock])
 have hfar:∀ k,f k<M.length→((w.setCell ⟨G,a,none⟩ (vs[b]'(by omega)).1).setCell ⟨G,b,none⟩ (vs[a]'(by omega)).1).heap[k]?=w.heap[k]?:=fun k hk=>
  have hne:k≠G:=fun e=>by rw[e] at hk;omega
  (Below.heap_setCell _ _ _ _ hne).trans (Below.heap_setCell _ _ _ _ hne)
 refine⟨⟨by simp [hl],fun i hi=>?_⟩,?_,fun k hk=>?_⟩
 ·simp only [List.length_set] at hi
  have hs:=(swapT_lt (i:=i) ha hb).2 hi
  rw[swap_get M a b ha hb i hi,swap_get vs a b (by omega) (by omega) i (by omega)]
  refine Kd.R_mono (Kd.R_step (h.row _ hs) (fun k ho _=>hfar k (by rw[ho];exact hs))) (fun k hk=>?_)
  show swapT a b (f k)=i
  rw[hk,swapT_swap]
 ·simp only [List.length_set]
  refine Kd.R_mono h2 (fun k hk=>?_)
  show M.length≤swapT a b (f k)
  have:=swapT_lt (i:=f k) ha hb
  omega
 ·simp only [List.length_set]
  rw[World.size_setCell,World.size_setCell] at hk
  have h3:=h.fresh k hk
  show M.length≤swapT a b (f k)
  have:=swapT_lt (i:=f k) ha hb
  omega
section
variable {ops : Array Oper} {rest : List Oper} {o : Oper} {a : Act} {Q : Exit → Act → World → Prop}
theorem append_val {W:World} (base:Nat) (hgd:o.guard=none) (s x:Operand)
  (ho:o.op = .call { callee:= .builtin .append,args:=#[s,x],argTypes:=#[105,105] })
  (ok:Nat→Prop) (hfresh:∀ k,W.heap.size≤k→ok k) (v:Value) (vs:List OneV) (p:OneV) (hs:a.eval s=v) (hx:a.eval x = .slice (some ⟨W.heap.size,0,none⟩) 1 1)
  (HO:Kv.R 24 W base ok v vs) (hbase:base≤W.heap.size) (hl:vs.length≤1000000000)
  (h:∀ A c w1,Kv.R 24 w1 base ok (.slice A (vs.length+1) c) (vs ++ [p])→Below base W w1→W.grownBy w1 v.ownBlock→wpList Tryz.prog ops Q rest (a.put o.dst (.slice A (vs.length+1) c)) w1) :
  wpList Tryz.prog ops Q (o :: rest) a (W.alloc (.cells #[p.1] 24)):=by
 refine Kd.R_append Kv (w0:=W) base hgd s x 105 24 (.slice none 0 0) 24 ho Tryz.underlying105 infoS rfl (by decide) (by omega) v vs p [p.1] ok (fun _=>False) hs hx rfl (fun _ hk=>hk.elim) hfresh HO (Below.refl _ _) hbase (by omega) ?_
 intro v1 w1 hR hB hg _
 obtain ⟨A,c,e⟩:=Kd.R_slice hR
 rw[List.length_append] at e
 subst e
 exact h A c w1 hR hB hg
end
theorem Mat.push {w w1:World} {base:Nat} {v v1:Value} {vs:List OneV} {f:Nat→Nat} {M:List (List Int)} {r:OneV} {l:List Int} {b:Nat} (h:Rws w base vs (fun k=>if k=b then M.length else f k) M) (hr:Ki.R 2 w base (fun k=>k=b) r.1 l)
  (ho:Kv.R 24 w1 base (fun k=>M.length≤f k∧k≠b) v1 (vs ++ [r])) (hg:w.grownBy w1 v.ownBlock) (hv:∀ k,v.ownBlock=some k→M.length≤f k∧k≠b) (hb:b<w.heap.size) (hfr:∀ k,w.heap.size≤k→M.length≤f k) :
  Mat w1 base v1 (vs ++ [r]) (fun k=>if k=b then M.length else if M.length≤f k then M.length+1 else f k) (M ++ [l]):=by
 have hl:=h.len
 refine⟨⟨by simp [hl],fun i hi=>?_⟩,?_,fun k hk=>?_⟩
 ·rw[List.length_append,List.length_singleton] at hi
  by_cases e:i<M.length
  ·have e1:(vs ++ [r])[i]'(by simp;omega)=vs[i]'(by omega):=List.getElem_append_left (by omega)
   have e2:(M ++ [l])[i]'(by simp;omega)=M[i]:=List.getElem_append_left e
   rw[e1,e2]
   refine Kd.R_mono (Kd.R_step (h.row i e) (fun k ho hk=>hg.block k hk (fun e3=>?_))) (fun k hk=>?_)
   ·have h3:=hv k e3.symm
    have h4:(if k=b then M.length else f k)=i:=ho
    rw[if_neg h3.2] at h4
    omega
   ·have h4:(if k=b then M.length else f k)=i:=hk
    show (if k=b then M.length else if M.length≤f k then M.length+1 else f k)=i
    split at h4
    ·omega
    ·rename_i h5
     rw[if_neg h5,if_neg (by omega)]
     exact h4
  ·obtain rfl:i=M.length:=by omega
   have e1:(vs ++ [r])[M.length]'(by simp;omega)=r:=by rw[List.getElem_append_right (by omega)];simp [hl]
   have e2:(M ++ [l])[M.length]'(by simp)=l:=by simp
   rw[e1,e2]
   exact Kd.R_mono (Kd.R_step hr (fun k ho hk=>hg.block k hk (fun e3=>(hv k e3.symm).2 ho))) (fun k hk=>if_pos hk)
 ·rw[List.length_append,List.length_singleton]
  refine Kd.R_mono ho (fun k hk=>?_)
  show M.length+1≤if k=b then M.length else if M.length≤f k then M.length+1 else f k
  rw[if_neg hk.2,if_pos hk.1]
  exact Nat.le_refl _
 ·rw[List.length_append,List.length_singleton]
  have h2:=hg.size
  show M.length+1≤if k=b then M.length else if M.length≤f k then M.length+1 else f k
  rw[if_neg (by omega),if_pos (hfr k (by omega))]
  exact Nat.le_refl _
set_option maxHeartbeats 2000000 in
theorem IndexFunc_rows (p:Nat→Bool) (A:Option Addr) (c:Nat) (vs:List OneV) (g:Nat) (first caps:Array Value) (w:World)
  (hA:∀ i (h:i<vs.length),∃ ad,A=some ad∧w.cell? (ad.add i)=some vs[i].1) (hA2:∀ ad,A=some ad→ad.block<w.heap.size∨vs.length=0) (hbig:vs.length≤1000000000) (eg:EntersG g)
  (hp:∀ i (h:i<vs.length),Answers w g (first.push vs[i].1 ++ caps) (.bool (p i))) :
  Calls Tryz.prog 141 #[.slice A vs.length c,.func (.func g) first caps] w fun e w'=>e = .returned (I (idx p (List.range vs.length)))∧Grew w w':=by
 have HA:=Aside0.mk hA
 have HA2:=Aside0.mk hA2
 have HP:=Aside0.mk hp
 clear hA hp hA2
 go_enter Tryz.func141,Tryz.ntmps141
 go_wp2
 go_loopg [5,8] vs.length (fun gg _ s8 wr=>∃ kk:Nat,kk≤vs.length∧vs.length - kk≤gg∧s8 = .int .i64 kk∧Aside0 (Grew w wr)∧Aside0 (∀ j,j<vs.length→j<kk→p j=false))
 case atStart=>exact⟨0,Nat.zero_le _,by omega,rfl,⟨Below.refl _ w⟩,⟨fun j _ hj=>absurd hj (Nat.not_lt_zero _)⟩⟩
 case round=>
  obtain ⟨kk,hkk,hg,rfl,BW,A0⟩:=hrel
  by_cases hlt:kk<vs.length
  ·have hltz:(kk:Int)<(vs.length:Int):=by omega
   obtain ⟨ad,e0,hx0⟩:=HA.out kk hlt
   have hx:wr.cell? (ad.add kk)=some vs[kk].1:=(BW.out.cell (p:=ad.add kk) (by
    rw[show (ad.add kk).block=ad.block by unfold Addr.add;split <;> rfl]
    rcases HA2.out ad e0 with h|h
    ·exact h
    ·omega)).trans hx0
   clear hx0
   cases e0
   have hcall:=HP.out kk hlt wr BW.out
   generalize vs[kk]=y at hx hcall
   cases hq:p kk with
   |true=>
    rw[hq] at hcall
    go_wp2_with fail
    refine hcall.mono ?_
    rintro e w' ⟨rfl,hb'⟩
    clear hcall
    go_wp2_with fail
    go_ret
    refine⟨?_,Grew.trans BW.out hb'⟩
    rw[idx_hit p (List.range vs.length) kk (by simpa using hlt) (by simpa using hq) (fun j hj=>by simpa using A0.out j (by omega) hj)]
    rfl
   |false=>
    rw[hq] at hcall
    go_wp2_with fail
    refine hcall.mono ?_
    rintro e w' ⟨rfl,hb'⟩
    clear hcall
    go_wp2_with fail
    go_roundg (vs.length - (kk+1))
    case measure=>omega
    case rel=>
     refine⟨kk+1,by omega,by omega,by go_num,⟨Grew.trans BW.out hb'⟩,⟨fun j h hj=>?_⟩⟩
     by_cases e:j=kk
     ·subst e
      exact hq
     ·exact A0.out j h (by omega)
  ·have hltz:¬ (kk:Int)<(vs.length:Int):=by omega
   have e:kk=vs.length:=by omega
   have H:=idx_miss p (List.range vs.length) (fun j hj=>by have hj2:j<vs.length:=(by simpa using hj);simpa using A0.out j hj2 (by omega))
   have HM:=Aside0.mk H
   clear H e
   go_wp2
   go_ret
   exact⟨by rw[HM.out];rfl,BW.out⟩
theorem idx_range {α:Type} (q:α→Bool) (l:List α) (d:α):idx (fun i=>q (l.getD i d)) (List.range l.length)=idx q l:=by
 have h:(List.range l.length).map (fun i=>l.getD i d)=l:=by
  apply List.ext_getElem
  ·simp
  ·intro i h1 h2
   simp [h2]
 have h2:l.findIdx? q=(List.range l.length).findIdx? (fun i=>q (l.getD i d)):=by
  conv=>lhs;rw[← h]
  rw[List.findIdx?_map]
  rfl
 unfold idx
 rw[h2]
end Go.Proofs.YtbnnamejnjfkjaaGreat.K
end

section
namespace Go.Proofs.YtbnnamejnjfkjaaGreat.K
open Go.RowKit Go.Shelf Go.Proofs.YtbnnamejnjfkjaaGreatW.PrintWords Go.Proofs.YtbnnamejnjfkjaaGreatW.PrintLast Go.Proofs.YtbnnamejnjfkjaaGreatW.PrintMore
set_option linter.unusedVariables false
set_option linter.unusedSimpArgs false
theorem Mat.of_S {w:World} {base:Nat} {ok:Nat→Prop} {v:Value} {M:List (List Int)} (h:Kd.S (Kd.slice 2 Ki) 24 w base ok v M):∃ vs f,Mat w base v vs f M:=by
 obtain ⟨f,h⟩:=h
 obtain ⟨h0,inner,ho,hlen,hr⟩:=Kd.R_bound h
 rw[List.length_zipIdx] at ho hlen
 have hl:inner.length=M.length:=by
  have:inner.length=M.length*1:=hlen
  omega
 have hd:∀ j (hj:j<inner.length),(inner.drop (j*1)).take 1 = [inner[j]]:=fun j hj=>by
  rw[Nat.mul_one,List.drop_eq_getElem_cons hj,List.take_succ_cons,List.take_zero]
 have hj:∀ j (hj:j<M.length),(inner[j]'(by omega)).oneCell'=true∧Ki.R 2 w base (fun k=>(k<w.heap.size∧some k≠v.ownBlock)∧f k=j) (inner[j]'(by omega)) M[j]:=by
  intro j hj
  have hq:=hr j (M[j],j) (Kd.zip_at (List.getElem?_eq_getElem hj))
  have hq':(Kd.slice 2 Ki).M w base (fun k=>((ok k∧base≤k∧k<w.heap.size∧∃ q,q ∈ 24 :: (Kd.tag f (Kd.slice 2 Ki)).E∧∃ cells,w.heap[k]?=some (.cells cells q (0,0)))∧some k≠v.ownBlock)∧f k=j) M[j] ((inner.drop (j*1)).take 1):=hq
  rw[hd j (by omega)] at hq'
  have hone:=(Kd.slice 2 Ki).K_one ((Kd.slice 2 Ki).K_of_M hq') (inner[j]'(by omega)) (by simp)
  obtain ⟨u,hu,hR⟩:=hq'
  injection hu with hu
  rw[hu]
  rw[hu] at hone
  exact⟨hone,Kd.R_mono hR (fun k hk=>⟨⟨hk.1.1.2.2.1,hk.1.2⟩,hk.2⟩)⟩
 let vs:List OneV:=(List.range M.length).attach.map fun j=>⟨inner[j.1]'(by have:=List.mem_range.1 j.2;omega),(hj j.1 (List.mem_range.1 j.2)).1⟩
 have hvl:vs.length=M.length:=by simp [vs]
 have hv:∀ j (h1:j<M.length),(vs[j]'(by omega)).1=inner[j]'(by omega):=fun j h1=>by simp [vs]
 refine⟨vs,fun k=>if k<w.heap.size∧some k≠v.ownBlock∧f k<M.length then f k else M.length,⟨⟨hvl,fun i hi=>?_⟩,?_,fun k hk=>?_⟩⟩
 ·rw[hv i hi]
  refine Kd.R_mono (hj i hi).2 (fun k hk=>?_)
  show (if k<w.heap.size∧some k≠v.ownBlock∧f k<M.length then f k else M.length)=i
  rw[if_pos ⟨hk.1.1,hk.1.2,by rw[hk.2];exact hi⟩]
  exact hk.2
 ·refine⟨fun k hk=>?_,inner,by rw[hvl];exact ho,by rw[hvl];exact hlen,fun j p hp=>?_⟩
  ·show M.length≤if k<w.heap.size∧some k≠v.ownBlock∧f k<M.length then f k else M.length
   rw[if_neg (fun h=>h.2.1 hk.symm)]
   exact Nat.le_refl _
  ·obtain ⟨hj2,rfl⟩:=List.getElem?_eq_some_iff.1 hp
   show (inner.drop (j*1)).take 1 = [(vs[j]).1]
   rw[hd j (by omega),hv j (by omega)]
 ·show M.length≤if k<w.heap.size∧some k≠v.ownBlock∧f k<M.length then f k else M.length
  rw[if_neg (fun h=>by omega)]
  exact Nat.le_refl _
theorem Mat.at {w:World} {base:Nat} {vs:List OneV} {f:Nat→Nat} {M:List (List Int)} {G n c:Nat} (h:Mat w base (.slice (some ⟨G,0,none⟩) n c) vs f M) (i m:Nat) (hi:i<M.length) (hm:(M.getD i []).length=m) (hp:0<m) :
  ∃ g cc,(vs[i]'(by have:=h.len;omega)).1 = .slice (some ⟨g,0,none⟩) m cc∧m≤cc∧f g=i∧base≤g∧base≤G∧M.length≤f G∧w.cell? ⟨G,i,none⟩=some (.slice (some ⟨g,0,none⟩) m cc)∧w.frozen? ⟨G,i,none⟩=false ∧
   ∀ j,j<m→w.cell? ⟨g,j,none⟩=some (I ((M.getD i []).getD j 0))∧w.frozen? ⟨g,j,none⟩=false:=by
 have hl:=h.len
 rw[getD_get M i [] hi] at hm ⊢
 obtain ⟨g,cc,h1,h2,h3,h4,h5⟩:=h.form i hi (by omega)
 rw[hm] at h1 h2
 have hr:=h.row i hi
 rw[h1] at hr
 obtain ⟨h6,h7⟩:=Kd.R_celln nilV h.outer (i:Int) (by omega) (by
  have:=(Kd.R_reads' h.outer).1
  omega)
 rw[Int.toNat_natCast] at h6 h7
 have h8:rdOf nilV vs (i:Int)=vs[i]'(by omega):=by simp [rdOf,show i<vs.length by omega]
 rw[h8] at h6
 have h6':w.cell? ⟨G,i,none⟩=some (vs[i]'(by omega)).1:=h6
 rw[h1] at h6'
 obtain ⟨G',c',e,hG,_,_⟩:=Kd.R_form h.outer (by omega)
 injection e with e1 e2 e3
 injection e1 with e1
 injection e1 with e1
 subst e1
 refine⟨g,cc,h1,h2,h3,h4,hG,h.outer.1 G (by simp [Value.ownBlock]),h6',h7,fun j hj=>?_⟩
 obtain ⟨h9,h10⟩:=Kd.R_celln 0 hr (j:Int) (by omega) (by omega)
 rw[Int.toNat_natCast] at h9 h10
 have h11:rdOf 0 M[i] (j:Int)=M[i].getD j 0:=by simp [rdOf]
 rw[h11] at h9
 exact⟨h9,h10⟩
theorem Mat.typed {w:World} {base:Nat} {v:Value} {vs:List OneV} {f:Nat→Nat} {M:List (List Int)} (h:Mat w base v vs f M) (i:Nat) (hi:i<M.length) {g n c:Nat} (hv:(vs[i]'(by have:=h.len;omega)).1 = .slice (some ⟨g,0,none⟩) n c):∃ cells,w.heap[g]?=some (.cells cells 2 (0,0)):=by
 have hr:=h.row i hi
 rw[hv] at hr
 exact Kd.R_typed hr g (by simp [Value.ownBlock])
theorem Mat.split {w:World} {base:Nat} {v:Value} {vs:List OneV} {f:Nat→Nat} {M:List (List Int)} (h:Mat w base v vs f M) (b:Nat) (hb:w.heap.size≤b) :
  Rws w base vs (fun k=>if k=b then M.length else f k) M∧Kv.R 24 w base (fun k=>M.length≤f k∧k≠b) v vs:=by
 refine⟨⟨h.len,fun i hi=>Kd.R_mono (Kd.R_bound (h.row i hi)) (fun k hk=>?_)⟩,Kd.R_mono (Kd.R_bound h.outer) (fun k hk=>⟨hk.1,by have:=hk.2.2.1;omega⟩)⟩
 show (if k=b then M.length else f k)=i
 rw[if_neg (by have:=hk.2.2.1;omega)]
 exact hk.1
theorem Mat.head {w:World} {base:Nat} {v:Value} {vs:List OneV} {f:Nat→Nat} {M:List (List Int)} (h:Mat w base v vs f M) (hp:0<M.length):∃ G c,v = .slice (some ⟨G,0,none⟩) M.length c∧M.length≤c:=by
 obtain ⟨A,c,h1,h2⟩:=h.slice
 obtain ⟨G,c',e,_⟩:=Kd.R_form h.outer (by rw[h.len];exact hp)
 rw[h.len] at e
 rw[h1] at e
 injection e with e1 e2 e3
 exact⟨G,c,by rw[h1,e1],h2⟩
theorem Mat.mid {w:World} {base:Nat} {vs:List OneV} {f:Nat→Nat} {M:List (List Int)} {G n c:Nat} (h:Mat w base (.slice (some ⟨G,0,none⟩) n c) vs f M) (a b:Nat) (ha:a<M.length) (hb:b<M.length) :
  (w.setCell ⟨G,a,none⟩ (vs[b]'(by have:=h.len;omega)).1).cell? ⟨G,b,none⟩=some (vs[b]'(by have:=h.len;omega)).1∧(w.setCell ⟨G,a,none⟩ (vs[b]'(by have:=h.len;omega)).1).frozen? ⟨G,b,none⟩=false:=by
 have hl:=h.len
 have h1:=Kd.R_putn h.outer (a:Int) (vs[b]'(by omega))
 rw[Int.toNat_natCast] at h1
 have hn:=(Kd.R_reads' h1).1
 rw[List.length_set] at hn
 obtain ⟨h2,h3⟩:=Kd.R_celln nilV h1 (b:Int) (by omega) (by omega)
 rw[Int.toNat_natCast] at h2 h3
 refine⟨?_,h3⟩
 rw[h2]
 have:rdOf nilV (vs.set a (vs[b]'(by omega))) (b:Int)=vs[b]'(by omega):=by
  have hb2:b<(vs.set a (vs[b]'(by omega))).length:=by rw[List.length_set];omega
  have:rdOf nilV (vs.set a (vs[b]'(by omega))) (b:Int)=(vs.set a (vs[b]'(by omega)))[b]:=by simp [rdOf,show b<vs.length by omega]
  rw[this,List.getElem_set]
  split <;> rfl
 rw[this]
theorem swapM_is (M:List (List Int)) (a b:Nat) (ha:a<M.length) (hb:b<M.length):(M.set a M[b]).set b M[a]=swapM M a b:=by
 unfold swapM
 rw[getD_get M a [] ha,getD_get M b [] hb]
theorem list_ext_getD (A B:List (List Int)) (h:A.length=B.length) (h2:∀ i,i<A.length→A.getD i []=B.getD i []):A=B:=by
 apply List.ext_getElem h
 intro i h3 h4
 have:=h2 i h3
 rw[getD_get A i [] h3,getD_get B i [] h4] at this
 exact this
theorem swapM_comm (M:List (List Int)) (a b:Nat) (ha:a<M.length) (hb:b<M.length):swapM M a b=swapM M b a:=by
 refine list_ext_getD _ _ (by rw[swapM_length,swapM_length]) fun i hi=>?_
 rw[swapM_get M a b i ha hb,swapM_get M b a i hb ha]
 by_cases e:i=b <;> by_cases e2:i=a
 ·rw[if_pos e,if_pos e2,← e,← e2]
 ·rw[if_pos e,if_neg e2,if_pos e]
 ·rw[if_neg e,if_pos e2,if_pos e2]
 ·rw[if_neg e,if_neg e2,if_neg e2,if_neg e]
def elimP (p:Int) (c:Nat) (pv row:List Int) (j:Nat):List Int:=(List.range row.length).map fun n=>if n<j then elimAt p c pv row n else row.getD n 0
theorem elimP_length (p:Int) (c:Nat) (pv row:List Int) (j:Nat):(elimP p c pv row j).length=row.length:=by simp [elimP]
theorem elimP_get (p:Int) (c:Nat) (pv row:List Int) (j n:Nat) (h:n<row.length):(elimP p c pv row j).getD n 0=if n<j then elimAt p c pv row n else row.getD n 0:=by
 unfold elimP
 rw[List.getD_eq_getElem?_getD,List.getElem?_map,List.getElem?_range h]
 rfl
theorem int_ext_getD (A B:List Int) (h:A.length=B.length) (h2:∀ i,i<A.length→A.getD i 0=B.getD i 0):A=B:=by
 apply List.ext_getElem h
 intro i h3 h4
 have:=h2 i h3
 rw[getD_get A i 0 h3,getD_get B i 0 h4] at this
 exact this
theorem elimP_zero (p:Int) (c:Nat) (pv row:List Int):elimP p c pv row 0=row:=by
 refine int_ext_getD _ _ (elimP_length _ _ _ _ _) fun i hi=>?_
 rw[elimP_length] at hi
 rw[elimP_get _ _ _ _ _ _ hi,if_neg (Nat.not_lt_zero i)]
theorem elimP_start (p:Int) (c:Nat) (pv row:List Int) (hr:∀ x ∈ row,0≤x∧x<p) (hz:∀ n,n<c→pv.getD n 0=0):elimP p c pv row c=row:=by
 refine int_ext_getD _ _ (elimP_length _ _ _ _ _) fun i hi=>?_
 rw[elimP_length] at hi
 rw[elimP_get _ _ _ _ _ _ hi]
 split
 ·rename_i h
  unfold elimAt
  rw[hz i h,Int.mul_zero,Int.sub_zero,getD_get row i 0 hi]
  have:=hr _ (List.getElem_mem hi)
  exact Int.emod_eq_of_lt this.1 this.2
 ·rfl
theorem elimP_end (p:Int) (c:Nat) (pv row:List Int):elimP p c pv row row.length=elimR p c pv row:=by
 refine int_ext_getD _ _ (by rw[elimP_length,elimR_length]) fun i hi=>?_
 rw[elimP_length] at hi
 rw[elimP_get _ _ _ _ _ _ hi,elimR_get _ _ _ _ _ hi,if_pos hi]
theorem elimP_succ (p:Int) (c:Nat) (pv row:List Int) (j:Nat):elimP p c pv row (j+1)=(elimP p c pv row j).set j (elimAt p c pv row j):=by
 apply List.ext_getElem
 ·simp [elimP_length]
 ·intro i h1 h2
  rw[elimP_length] at h1
  rw[List.getElem_set]
  simp only [elimP,List.getElem_map,List.getElem_range]
  by_cases e:j=i
  ·subst e
   simp
  ·rw[if_neg e]
   by_cases h3:i<j
   ·rw[if_pos (by omega),if_pos h3]
   ·rw[if_neg (by omega),if_neg h3]
theorem elimM_start (p:Int) (c r:Nat) (M:List (List Int)):elimM p c r M (r+1)=M:=by
 refine list_ext_getD _ _ (elimM_length _ _ _ _ _) fun i hi=>?_
 rw[elimM_length] at hi
 rw[elimM_get _ _ _ _ _ _ hi,if_neg (by omega)]
theorem elimM_succ (p:Int) (c r:Nat) (M:List (List Int)) (hi:Nat) (h:r<hi):elimM p c r M (hi+1)=(elimM p c r M hi).set hi (elimR p c (M.getD r []) (M.getD hi [])):=by
 apply List.ext_getElem
 ·simp [elimM_length]
 ·intro i h1 h2
  rw[elimM_length] at h1
  rw[List.getElem_set]
  simp only [elimM,List.getElem_map,List.getElem_range]
  by_cases e:hi=i
  ·subst e
   rw[if_pos ⟨h,by omega⟩,if_pos rfl]
  ·rw[if_neg e]
   by_cases h3:r<i∧i<hi
   ·rw[if_pos ⟨h3.1,by omega⟩,if_pos h3]
   ·rw[if_neg (by omega),if_neg h3]
theorem set_same (M:List (List Int)) (i:Nat) (x:List Int) (h:i<M.length) (hx:M.getD i []=x):M.set i x=M:=by
 rw[← hx,getD_get M i [] h,List.set_getElem_self]
theorem set_getD (M:List (List Int)) (i:Nat) (x:List Int) (h:i<M.length):(M.set i x).getD i []=x:=by
 rw[getD_get _ i [] (by rw[List.length_set];exact h),List.getElem_set_self]
theorem set_getD_ne (M:List (List Int)) (i j:Nat) (x:List Int) (h:i≠j):(M.set i x).getD j []=M.getD j []:=by
 rw[List.getD_eq_getElem?_getD,List.getElem?_set_ne h,List.getD_eq_getElem?_getD]
theorem pivI_hit {M:List (List Int)} {r c j:Nat} (hr:r≤j) (hj:j<M.length) (h:(M.getD j []).getD c 0≠0) (hz:∀ i,r≤i→i<j→(M.getD i []).getD c 0=0):pivI M r c=((j - r:Nat):Int):=by
 refine idx_hit _ (M.drop r) (j - r) (by rw[List.length_drop];omega) ?_ (fun i hi=>?_)
 ·rw[List.getElem_drop]
  have e:M[r+(j - r)]'(by omega)=M.getD j []:=by rw[getD_get M j [] hj];congr 1;omega
  rw[e]
  simpa using h
 ·rw[List.getElem_drop]
  have e:M[r+i]'(by omega)=M.getD (r+i) []:=(getD_get M (r+i) [] (by omega)).symm
  rw[e,hz (r+i) (by omega) (by omega)]
  rfl
theorem pivI_miss {M:List (List Int)} {r c:Nat} (hz:∀ i,r≤i→i<M.length→(M.getD i []).getD c 0=0):pivI M r c = -1:=by
 refine idx_miss _ (M.drop r) (fun i hi=>?_)
 rw[List.length_drop] at hi
 rw[List.getElem_drop]
 have e:M[r+i]'(by omega)=M.getD (r+i) []:=(getD_get M (r+i) [] (by omega)).symm
 rw[e,hz (r+i) (by omega) (by omega)]
 rfl
theorem specv:∀(p:Fin 4) (x a b y:Fin 3),2≤p.val→x.val<p.val→a.val<p.val→b.val<p.val→y.val<p.val→((x.val:Int)+((p.val:Int) - (a.val*b.val:Int) % p.val)*y.val) % p.val=((x.val:Int) - (a.val:Int)*b.val*y.val) % p.val:=by decide +kernel
theorem implv:∀(p:Fin 4) (x a b y:Fin 3),2≤p.val→x.val<p.val→a.val<p.val→b.val<p.val→y.val<p.val→Int.tmod (Int.tmod ((x.val:Int) - (a.val:Int)*b.val*y.val) p.val+p.val) p.val=((x.val:Int) - (a.val:Int)*b.val*y.val) % p.val:=by decide +kernel
theorem i64w (z:Int) (h: -1000000000≤z∧z≤1000000000):IntKind.i64.wrap z=z:=by
 rw[IntKind.wrap_i64]
 omega
theorem fins (p x:Int) (hp:2≤p∧p≤3) (hx:0≤x∧x<p):∃ k:Fin 3,x=(k.val:Int)∧(k.val:Int)<p:=⟨⟨x.toNat,by omega⟩,by show x=((x.toNat:Nat):Int);omega,by show ((x.toNat:Nat):Int)<p;omega⟩
theorem spec_val (p x a b y:Int) (hp:2≤p∧p≤3) (hx:0≤x∧x<p) (ha:0≤a∧a<p) (hb:0≤b∧b<p) (hy:0≤y∧y<p):(x+(p - a*b % p)*y) % p=(x - a*b*y) % p:=by
 obtain ⟨p',rfl⟩:=Int.eq_ofNat_of_zero_le (show 0≤p by omega)
 obtain ⟨x',rfl,h1⟩:=fins _ x hp hx
 obtain ⟨a',rfl,h2⟩:=fins _ a hp ha
 obtain ⟨b',rfl,h3⟩:=fins _ b hp hb
 obtain ⟨y',rfl,h4⟩:=fins _ y hp hy
 exact specv ⟨p',by omega⟩ x' a' b' y' (by show 2≤p';omega) (by show x'.val<p';omega) (by show a'.val<p';omega) (by show b'.val<p';omega) (by show y'.val<p';omega)
theorem impl_val (p x a b y:Int) (hp:2≤p∧p≤3) (hx:0≤x∧x<p) (ha:0≤a∧a<p) (hb:0≤b∧b<p) (hy:0≤y∧y<p):Int.tmod (Int.tmod (x - a*b*y) p+p) p=(x - a*b*y) % p:=by
 obtain ⟨p',rfl⟩:=Int.eq_ofNat_of_zero_le (show 0≤p by omega)
 obtain ⟨x',rfl,h1⟩:=fins _ x hp hx
 obtain ⟨a',rfl,h2⟩:=fins _ a hp ha
 obtain ⟨b',rfl,h3⟩:=fins _ b hp hb
 obtain ⟨y',rfl,h4⟩:=fins _ y hp hy
 exact implv ⟨p',by omega⟩ x' a' b' y' (by show 2≤p';omega) (by show x'.val<p';omega) (by show a'.val<p';omega) (by show b'.val<p';omega) (by show y'.val<p';omega)
end Go.Proofs.YtbnnamejnjfkjaaGreat.K
end

section
namespace Go.Proofs.YtbnnamejnjfkjaaGreat.Q
open Go.RowKit Go.Proofs.YtbnnamejnjfkjaaGreatW.PrintWords Go.Proofs.YtbnnamejnjfkjaaGreatW.PrintLast Go.Proofs.YtbnnamejnjfkjaaGreatW.PrintMore
attribute [local go_sem] max2_int min2_int max_two min_two max_three min_three max_four min_four
set_option linter.unusedVariables false
set_option linter.unusedSimpArgs false
def spec_l01Ones.l0:Nat→Int→Int→Option (Int)
 |0,_,_=>none
 |k+1,x0,x3=>if x0>0 then (spec_l01Ones.l0 k (wrap64 (Int.tdiv x0 2)) (wrap64 (x3+(Int.tmod x0 2)))) else (some x3)
def spec_l01Ones.f (k:Nat) (a0:Int):Option (Int):=spec_l01Ones.l0 k a0 0
theorem spec_l01Ones.mono_l:∀ k,(∀ y0 y1,LeO (spec_l01Ones.l0 k y0 y1) (spec_l01Ones.l0 (k+1) y0 y1))
 |0=>fun _ _ r h=>by simp [spec_l01Ones.l0] at h
 |k+1=>by
  have ih0:=spec_l01Ones.mono_l k
  ·intro y0 y1;unfold spec_l01Ones.l0;repeat' first
   |(with_reducible first|exact ih0 _ _|exact LeO.refl _|exact LeO.none _|refine LeO.ite ?_ ?_|refine LeO.bind ?_ (fun _=>?_))
theorem spec_l01Ones.mono:∀ a0 k,LeO (spec_l01Ones.f k a0) (spec_l01Ones.f (k+1) a0):=by
 intro a0 k;have ih0:=spec_l01Ones.mono_l k;unfold spec_l01Ones.f;repeat' first
   |(with_reducible first|exact ih0 _ _|exact LeO.refl _|exact LeO.none _|refine LeO.ite ?_ ?_|refine LeO.bind ?_ (fun _=>?_))
set_option maxHeartbeats 8000000 in
set_option maxRecDepth 100000 in
theorem spec_l01Ones.calls (k:Nat) (a0:Int) (r:Int) (w:World) (h:spec_l01Ones.f k a0=some r) :
  Calls Tryz.prog 100 #[.int .i64 a0] w fun e w'=>e = .returned (.int .i64 r)∧Drawn0 w w':=by
 have H:(spec_l01Ones.l0 k a0 0)=some r:=h;clear h;have H':=Aside0.mk H;clear H;go_enter Tryz.func100,Tryz.ntmps100;go_wp2
 go_loopg [0,3] k (fun kq v0 v3 w'=>∃(x0_1:Int) (x3_1:Int),v0 = .int .i64 x0_1∧v3 = .int .i64 x3_1∧Aside0 (spec_l01Ones.l0 kq x0_1 x3_1=some r)∧Aside0 (kq≤k)∧Drawn0 w w')
 case atStart=>exact⟨(a0),(0),rs,rs,H',⟨Nat.le_refl _⟩,by repeat(first|exact Drawn0.refl _|apply Drawn0.step)⟩
 case round=>
  clear H';try clear c1
  obtain ⟨x0_1,x3_1,rfl,rfl,HA,HK1,⟨m1,rfl⟩⟩:=hrel;cases gk with
  |zero=>exact absurd HA.out (by simp [spec_l01Ones.l0])
  |succ k1=>
   have H:=HA.out;clear HA;simp only [spec_l01Ones.l0] at H;by_cases c2:x0_1>0
   ·rw[if_pos c2] at H;have c2b0:decide (0<x0_1)=true:=decide_eq_true c2;clear c2;have H':=Aside0.mk H;clear H;go_wp2
    go_roundg k1
    case measure=>have:=HK1.out;omega
    case rel=>exact⟨(wrap64 (Int.tdiv x0_1 2)),(wrap64 (x3_1+(Int.tmod x0_1 2))),rs,rs,H',⟨by have:=HK1.out;omega⟩,by repeat(first|exact Drawn0.refl _|apply Drawn0.step)⟩
   ·rw[if_neg c2] at H;have c2b0:decide (0<x0_1)=false:=decide_eq_false c2;clear c2;obtain rfl:=Option.some.inj H;go_wp2
    go_ret;exact⟨rs,by repeat(first|exact Drawn0.refl _|apply Drawn0.step)⟩
end Go.Proofs.YtbnnamejnjfkjaaGreat.Q
end

section
namespace Go.Proofs.YtbnnamejnjfkjaaGreat.Q
open Go.RowKit Go.Proofs.YtbnnamejnjfkjaaGreat.Q Go.Proofs.YtbnnamejnjfkjaaGreatW.PrintWords Go.Proofs.YtbnnamejnjfkjaaGreatW.PrintLast Go.Proofs.YtbnnamejnjfkjaaGreatW.PrintMore
attribute [local go_sem] max2_int min2_int max_two min_two max_three min_three max_four min_four
set_option linter.unusedVariables false
set_option linter.unusedSimpArgs false
def spec_l03Signs.l0:Nat→List Int→Int→Option (List Int)
 |0,_,_=>none
 |k+1,x3,x4=>if x4≥0 then (if x3.length<17592186044416 then (spec_l03Signs.l0 k (x3 ++ [wrap64 (1 - (wrap64 (2*(Int.tmod x4 2))))]) (wrap64 (x4 - 1))) else (none)) else (some x3)
def spec_l03Signs.f (k:Nat) (a0:Int):Option (List Int):=(some (([]:List Int):List Int)).bind fun y101=>((spec_l01Ones.f k a0).bind fun t104=>(if (wrap64 (t104 - 1))=0 then (some y101) else (spec_l03Signs.l0 k y101 (wrap64 (t104 - 1)))))
theorem spec_l03Signs.mono_l:∀ k,(∀ y0 y1,LeO (spec_l03Signs.l0 k y0 y1) (spec_l03Signs.l0 (k+1) y0 y1))
 |0=>fun _ _ r h=>by simp [spec_l03Signs.l0] at h
 |k+1=>by
  have ih0:=spec_l03Signs.mono_l k
  ·intro y0 y1;unfold spec_l03Signs.l0;repeat' first
   |(with_reducible first|exact ih0 _ _|exact spec_l01Ones.mono _ _|exact LeO.refl _|exact LeO.none _|refine LeO.ite ?_ ?_|refine LeO.bind ?_ (fun _=>?_))
theorem spec_l03Signs.mono:∀ a0 k,LeO (spec_l03Signs.f k a0) (spec_l03Signs.f (k+1) a0):=by
 intro a0 k;have ih0:=spec_l03Signs.mono_l k;unfold spec_l03Signs.f;repeat' first
   |(with_reducible first|exact ih0 _ _|exact spec_l01Ones.mono _ _|exact LeO.refl _|exact LeO.none _|refine LeO.ite ?_ ?_|refine LeO.bind ?_ (fun _=>?_))
set_option maxHeartbeats 8000000 in
set_option maxRecDepth 100000 in
theorem spec_l03Signs.calls (k:Nat) (a0:Int) (r:List Int) (w:World) (h:spec_l03Signs.f k a0=some r) :
  Calls Tryz.prog 120 #[.int .i64 a0] w fun e w'=>∃ v0_:Value,e = .returned (v0_)∧Kd.R (Kd.int .i64) 2 w' w.heap.size (fun _=>True) v0_ r∧Below w.heap.size w w':=by
 have HB:=Aside0.mk (Below.refl w.heap.size w);have H:((some (([]:List Int):List Int)).bind fun y101=>((spec_l01Ones.f k a0).bind fun t104=>(if (wrap64 (t104 - 1))=0 then (some y101) else (spec_l03Signs.l0 k y101 (wrap64 (t104 - 1))))))=some r:=h;clear h;obtain ⟨y101,hy101⟩:∃ y_:List Int,y_=(([]:List Int)):=⟨_,rfl⟩
 replace H:((spec_l01Ones.f k a0).bind fun t104=>(if (wrap64 (t104 - 1))=0 then (some y101) else (spec_l03Signs.l0 k y101 (wrap64 (t104 - 1)))))=some r:=by first|(rw[hy101];with_reducible exact H)|(have H2_:=(Option.bind_some _ _).symm.trans H;rw[hy101];with_reducible exact H2_)|(have H2_:=(Option.bind_some _ _).symm.trans H;with_reducible exact H2_)|with_reducible exact H|(rw[hy101];exact H)|exact H
 have Ny101:=Aside0.mk hy101;clear hy101;replace H:=Option.bind_eq_some_iff.mp H;obtain ⟨t104,A20,H⟩:=H;replace H:(if (wrap64 (t104 - 1))=0 then (some y101) else (spec_l03Signs.l0 k y101 (wrap64 (t104 - 1))))=some r:=H;have A2:=Aside0.mk A20;clear A20;by_cases c3:(wrap64 (t104 - 1))=0
 ·rw[if_pos c3] at H;have c3b0:((wrap64 (t104 - 1)) == 0)=true:=beq_iff_eq.mpr c3;have c3b1:((wrap64 (t104 - 1)) != 0)=false:=bne_eq_false_iff_eq.mpr c3;clear c3;obtain rfl:=Option.some.inj H;go_enter Tryz.func120,Tryz.ntmps120;go_wp2_with (first|((with_reducible refine gate_dst (N:=5) rfl ?_);refine Kd.R_lit (Kd.int .i64) _ 2 ?hg (N:=5) ?hd (xs:=([]:List Int)) (inner:= []) (ok:=fun _=>True) (okp:=fun _=>True) ?hr ?hp (fun _ hk=>hk) trivial (Below.refl _ _) (Nat.le_refl _) (by simp) ?_;(case hd=>rfl);(case hg=>rfl);(case hr=>first|(go_simp;done)|(go_simp;rfl));(case hp=>exact(Reps.none _ _));intro v102 w4 ho5 hb hg_ hnew_;clear hg_ hnew_;(first|rw[← Ny101.out] at ho5|(simp only [Int.reduceToNat] at ho5;rw[← Ny101.out] at ho5));have HO103:=klA ho5 HB;replace HB:=bsA HB hb;clear hb ho5)|((with_reducible refine gate_callee (f:=100) rfl ?_);refine gl (some 7) Tryz.func100 #[.int .i64 a0] ?_;(with_reducible refine(spec_l01Ones.calls k a0 t104 _ A2.out).mono ?_);rintro e w' ⟨rfl,⟨nd,rfl⟩⟩;refine⟨_,rfl,?_⟩))
  go_ret;exact⟨_,rr,by(with_reducible repeat(first|apply Kd.R_alloc|apply Kd.R_drewN|apply Kd.R_drew));exact HO103.out,bl HB.out⟩
 ·rw[if_neg c3] at H;have c3b0:((wrap64 (t104 - 1)) == 0)=false:=beq_eq_false_iff_ne.mpr c3;have c3b1:((wrap64 (t104 - 1)) != 0)=true:=bne_iff_ne.mpr c3;have H':=Aside0.mk H;clear H;go_enter Tryz.func120,Tryz.ntmps120;go_wp2_with (first|((with_reducible refine gate_dst (N:=5) rfl ?_);refine Kd.R_lit (Kd.int .i64) _ 2 ?hg (N:=5) ?hd (xs:=([]:List Int)) (inner:= []) (ok:=fun _=>True) (okp:=fun _=>True) ?hr ?hp (fun _ hk=>hk) trivial (Below.refl _ _) (Nat.le_refl _) (by simp) ?_;(case hd=>rfl);(case hg=>rfl);(case hr=>first|(go_simp;done)|(go_simp;rfl));(case hp=>exact(Reps.none _ _));intro v102 w6 ho7 hb hg_ hnew_;clear hg_ hnew_;(first|rw[← Ny101.out] at ho7|(simp only [Int.reduceToNat] at ho7;rw[← Ny101.out] at ho7));have HO103:=klA ho7 HB;replace HB:=bsA HB hb;clear hb ho7)|((with_reducible refine gate_callee (f:=100) rfl ?_);refine gl (some 7) Tryz.func100 #[.int .i64 a0] ?_;(with_reducible refine(spec_l01Ones.calls k a0 t104 _ A2.out).mono ?_);rintro e w' ⟨rfl,⟨nd,rfl⟩⟩;refine⟨_,rfl,?_⟩))
  go_loopg [3,4] k (fun kq v3 v4 w'=>∃(x3_1:List Int) (x4_1:Int),v4 = .int .i64 x4_1∧Aside0 (spec_l03Signs.l0 kq x3_1 x4_1=some r)∧Aside0 (kq≤k)∧Aside0 (Kd.R (Kd.int .i64) 2 w' w.heap.size (fun _=>True) v3 x3_1)∧Aside0 (Below w.heap.size w w'))
  case atStart=>exact⟨(y101),(wrap64 (t104 - 1)),rs,H',⟨Nat.le_refl _⟩,⟨kr HO103.out⟩,⟨bl HB.out⟩⟩
  case round=>
   clear H';try clear c1
   try clear p2
   try clear c3
   try clear c3b0
   try clear c3b1
   try clear p6
   obtain ⟨x3_1,x4_1,rfl,HA,HK1,HO_3,HB⟩:=hrel;cases gk with
   |zero=>exact absurd HA.out (by simp [spec_l03Signs.l0])
   |succ k1=>
    have H:=HA.out;clear HA;simp only [spec_l03Signs.l0] at H;by_cases c8:x4_1≥0
    ·rw[if_pos c8] at H;have c8b0:decide (0≤x4_1)=true:=decide_eq_true c8;clear c8;by_cases c9:x3_1.length<17592186044416
     ·rw[if_pos c9] at H;have LMc9:=Aside0.mk c9;clear c9;obtain ⟨y105,hy105⟩:∃ y_:List Int,y_=(x3_1 ++ [wrap64 (1 - (wrap64 (2*(Int.tmod x4_1 2))))]):=⟨_,rfl⟩
      replace H:(spec_l03Signs.l0 k1 y105 (wrap64 (x4_1 - 1)))=some r:=by first|(rw[hy105];with_reducible exact H)|(have H2_:=(Option.bind_some _ _).symm.trans H;rw[hy105];with_reducible exact H2_)|(have H2_:=(Option.bind_some _ _).symm.trans H;with_reducible exact H2_)|with_reducible exact H|(rw[hy105];exact H)|exact H
      have Ny105:=Aside0.mk hy105;clear hy105;have H':=Aside0.mk H;clear H;go_wp2_with (first|((with_reducible refine gate_builtin (b:= .append) (xs:=#[.tmp 16,.tmp 21]) rfl ?_);at_builtin;refine Kd.R_append (Kd.int .i64) (w0:=w) w.heap.size rfl (.tmp 16) (.tmp 21) 24 2 (.int .i64 0) 8 rfl Tryz.underlying24 info2 rfl (by decide) (by omega) u3 x3_1 (wrap64 (1 - (wrap64 (2*(Int.tmod x4_1 2))))) [.int .i64 (wrap64 (1 - (wrap64 (2*(Int.tmod x4_1 2)))))] (fun _=>True) (fun _=>False) rfl rfl ?aP (fun _ hk=>hk.elim) ?aF ?aO ?aB ?aS ?aL ?_;(case aP=>exact rfl);(case aB=>exact(bl HB.out));(case aF=>exact(fun _ _=>trivial));(case aO=>exact(kr HO_3.out));(case aS=>exact(below_size (bl HB.out)));(case aL=>have:=LMc9.out;omega);intro v106 w10 ho hb hg hat;rw[← Ny105.out] at ho;have n0_:=Aside0.mk (hb);have n1_:=Aside0.mk (ho);clear HB;clear HO_3;have HB:=n0_;have HO107:=n1_;clear n0_ n1_;clear ho hb hg hat))
      go_roundg k1
      case measure=>have:=HK1.out;omega
      case rel=>exact⟨(y105),(wrap64 (x4_1 - 1)),rs,H',⟨by have:=HK1.out;omega⟩,⟨kr HO107.out⟩,⟨bl HB.out⟩⟩
     ·rw[if_neg c9] at H;exact absurd H (by simp)
    ·rw[if_neg c8] at H;have c8b0:decide (0≤x4_1)=false:=decide_eq_false c8;clear c8;obtain rfl:=Option.some.inj H;go_wp2
     go_ret;exact⟨_,rr,by(with_reducible repeat(first|apply Kd.R_alloc|apply Kd.R_drewN|apply Kd.R_drew));exact HO_3.out,bl HB.out⟩
def spec_SignsOf.f (k:Nat) (a0_0:Int) (l0_1:List Int) (a1:Int):Option (List Int×Int):=(spec_l01Face.f k a0_0 l0_1 a1).bind fun t109=>(if t109=0 then ((spec_l03Signs.f k a1).bind fun t110=>(some (t110,0))) else (some (([]:List Int),t109)))
theorem spec_SignsOf.mono:∀ a0 a1 a2 k,LeO (spec_SignsOf.f k a0 a1 a2) (spec_SignsOf.f (k+1) a0 a1 a2):=by
 intro a0 a1 a2 k;unfold spec_SignsOf.f;repeat' first
   |(with_reducible first|exact spec_l01Face.mono _ _ _ _|exact spec_l03Signs.mono _ _|exact LeO.refl _|exact LeO.none _|refine LeO.ite ?_ ?_|refine LeO.bind ?_ (fun _=>?_))
set_option maxHeartbeats 8000000 in
set_option maxRecDepth 100000 in
theorem spec_SignsOf.calls (k:Nat) (a0_0:Int) (A0_1:Option Addr) (c0_1:Nat) (l0_1:List Int) (a1:Int) (r1:List Int) (r2:Int) (w:World) (hr0_1:Kd.C (Kd.int .i64) w A0_1 l0_1.length l0_1) (hc0_1:l0_1.length≤c0_1) (h:spec_SignsOf.f k a0_0 l0_1 a1=some (r1,r2)) :
  Calls Tryz.prog 50 #[.agg #[.int .i64 a0_0,.slice A0_1 l0_1.length c0_1],.int .i64 a1] w fun e w'=>∃ v0_:Value,e = .returned (.tuple #[v0_,.int .i64 r2])∧Kd.R (Kd.int .i64) 2 w' w.heap.size (fun _=>True) v0_ r1∧Below w.heap.size w w':=by
 have hu26:=Tryz.underlying26;have HR0_1:=Aside0.mk hr0_1;have HC0_1:=Aside0.mk hc0_1;clear hr0_1 hc0_1;have HB:=Aside0.mk (Below.refl w.heap.size w);have H:((spec_l01Face.f k a0_0 l0_1 a1).bind fun t109=>(if t109=0 then ((spec_l03Signs.f k a1).bind fun t110=>(some (t110,0))) else (some (([]:List Int),t109))))=some (r1,r2):=h;clear h;replace H:=Option.bind_eq_some_iff.mp H;obtain ⟨t109,A30,H⟩:=H;replace H:(if t109=0 then ((spec_l03Signs.f k a1).bind fun t110=>(some (t110,0))) else (some (([]:List Int),t109)))=some (r1,r2):=H;have A3:=Aside0.mk A30;clear A30;by_cases c4:t109=0
 ·rw[if_pos c4] at H;have c4b0:(t109 == 0)=true:=beq_iff_eq.mpr c4;have c4b1:(t109 != 0)=false:=bne_eq_false_iff_eq.mpr c4;clear c4;replace H:=Option.bind_eq_some_iff.mp H;obtain ⟨t110,A50,H⟩:=H;replace H:(some (t110,0))=some (r1,r2):=H;have A5:=Aside0.mk A50;clear A50;simp only [Option.some.injEq,Prod.mk.injEq] at H;obtain ⟨rfl,rfl⟩:=H;go_enter Tryz.func50,Tryz.ntmps50;go_wp2_with (first|((with_reducible refine gate_dst (N:=2) rfl ?_);refine bx 2 #[.int .i64 a0_0,.slice A0_1 l0_1.length c0_1] 26 ?_;intro gb108 hg w6 hbox hb;have BK108:=Aside0.mk (hbox);have GE108:=gzA hg HB;replace HB:=bsA HB hb;clear hb hbox hg;have hcz7_0:=z0_ BK108;have hcz7_1:=z1_ BK108;have hfz7_0:=hf_ BK108 0;have hfz7_1:=hf_ BK108 1)|((with_reducible refine gate_callee (f:=57) rfl ?_);refine gl (some 9) Tryz.func57 #[.agg #[.int .i64 a0_0,.slice A0_1 l0_1.length c0_1],.int .i64 a1] ?_;(with_reducible refine(spec_l01Face.calls k a0_0 _ _ l0_1 a1 t109 _ (cb (Kd.C_below HR0_1.out HB.out)) HC0_1.out A3.out).mono ?_);rintro e w8 ⟨rfl,hb⟩;refine⟨_,rfl,?_⟩;replace BK108:=bkA BK108 hb;replace HB:=bsA HB hb;(try clear hb);(try clear hb2);(try clear hk);(try clear hi))|((with_reducible refine gate_callee (f:=120) rfl ?_);refine gl (some 14) Tryz.func120 #[.int .i64 a1] ?_;(with_reducible refine(spec_l03Signs.calls k a1 t110 _ A5.out).mono ?_);rintro e w9 ⟨v111,rfl,ho0,hb⟩;refine⟨_,rfl,?_⟩;have HO112:=klA ho0 HB;replace BK108:=bkA BK108 hb;replace HB:=bsA HB hb;(try clear hb);(try clear hb2);(try clear hk);(try clear hi);(try clear ho0)))
  go_ret2;exact⟨_,rr,by(with_reducible repeat(first|apply Kd.R_alloc|apply Kd.R_drewN|apply Kd.R_drew));exact HO112.out,bl HB.out⟩
 ·rw[if_neg c4] at H;have c4b0:(t109 == 0)=false:=beq_eq_false_iff_ne.mpr c4;have c4b1:(t109 != 0)=true:=bne_iff_ne.mpr c4;simp only [Option.some.injEq,Prod.mk.injEq] at H;obtain ⟨rfl,rfl⟩:=H;go_enter Tryz.func50,Tryz.ntmps50;go_wp2_with (first|((with_reducible refine gate_dst (N:=2) rfl ?_);refine bx 2 #[.int .i64 a0_0,.slice A0_1 l0_1.length c0_1] 26 ?_;intro gb108 hg w10 hbox hb;have BK108:=Aside0.mk (hbox);have GE108:=gzA hg HB;replace HB:=bsA HB hb;clear hb hbox hg;have hcz11_0:=z0_ BK108;have hcz11_1:=z1_ BK108;have hfz11_0:=hf_ BK108 0;have hfz11_1:=hf_ BK108 1)|((with_reducible refine gate_callee (f:=57) rfl ?_);refine gl (some 9) Tryz.func57 #[.agg #[.int .i64 a0_0,.slice A0_1 l0_1.length c0_1],.int .i64 a1] ?_;(with_reducible refine(spec_l01Face.calls k a0_0 _ _ l0_1 a1 t109 _ (cb (Kd.C_below HR0_1.out HB.out)) HC0_1.out A3.out).mono ?_);rintro e w12 ⟨rfl,hb⟩;refine⟨_,rfl,?_⟩;replace BK108:=bkA BK108 hb;replace HB:=bsA HB hb;(try clear hb);(try clear hb2);(try clear hk);(try clear hi)))
  go_ret2;exact⟨_,rr,by first|exact Kd.R_nil _ _ _ _ _|exact Kd.N_nil _ _ _ _ _|exact Kd.V_nil _ _ _ _ _|exact Kd.Q_nil _ _ _ _ _|exact Kd.S_nil _ _ _ _ _,bl HB.out⟩
def spec_l03Code.f (k:Nat) (a0_0:Int) (l0_1:List Int) (a1:Int):Option (Int):=(spec_l01Is.f k a0_0 l0_1).bind fun t114=>(if t114=true then (if a1=2 then (some 0) else (if a1=3 then (some 0) else (some 2))) else (some 1))
theorem spec_l03Code.mono:∀ a0 a1 a2 k,LeO (spec_l03Code.f k a0 a1 a2) (spec_l03Code.f (k+1) a0 a1 a2):=by
 intro a0 a1 a2 k;unfold spec_l03Code.f;repeat' first
   |(with_reducible first|exact spec_l01Is.mono _ _ _|exact LeO.refl _|exact LeO.none _|refine LeO.ite ?_ ?_|refine LeO.bind ?_ (fun _=>?_))
set_option maxHeartbeats 8000000 in
set_option maxRecDepth 100000 in
theorem spec_l03Code.calls (k:Nat) (a0_0:Int) (A0_1:Option Addr) (c0_1:Nat) (l0_1:List Int) (a1:Int) (r:Int) (w:World) (hr0_1:Kd.C (Kd.int .i64) w A0_1 l0_1.length l0_1) (hc0_1:l0_1.length≤c0_1) (h:spec_l03Code.f k a0_0 l0_1 a1=some r) :
  Calls Tryz.prog 106 #[.agg #[.int .i64 a0_0,.slice A0_1 l0_1.length c0_1],.int .i64 a1] w fun e w'=>e = .returned (.int .i64 r)∧Below w.heap.size w w':=by
 have hu26:=Tryz.underlying26;have HR0_1:=Aside0.mk hr0_1;have HC0_1:=Aside0.mk hc0_1;clear hr0_1 hc0_1;have HB:=Aside0.mk (Below.refl w.heap.size w);have H:((spec_l01Is.f k a0_0 l0_1).bind fun t114=>(if t114=true then (if a1=2 then (some 0) else (if a1=3 then (some 0) else (some 2))) else (some 1)))=some r:=h;clear h;replace H:=Option.bind_eq_some_iff.mp H;obtain ⟨t114,A30,H⟩:=H;replace H:(if t114=true then (if a1=2 then (some 0) else (if a1=3 then (some 0) else (some 2))) else (some 1))=some r:=H;have A3:=Aside0.mk A30;clear A30;by_cases c4:t114=true
 ·subst c4;have H1:(if a1=2 then (some 0) else (if a1=3 then (some 0) else (some 2)))=some r:=by rw[if_pos rfl] at H;exact H
  clear H;have H:=H1;clear H1;by_cases c5:a1=2
  ·rw[if_pos c5] at H;have c5b0:(a1 == 2)=true:=beq_iff_eq.mpr c5;have c5b1:(a1 != 2)=false:=bne_eq_false_iff_eq.mpr c5;clear c5;obtain rfl:=Option.some.inj H;go_enter Tryz.func106,Tryz.ntmps106;go_wp2_with (first|((with_reducible refine gate_dst (N:=2) rfl ?_);refine bx 2 #[.int .i64 a0_0,.slice A0_1 l0_1.length c0_1] 26 ?_;intro gb113 hg w6 hbox hb;have BK113:=Aside0.mk (hbox);have GE113:=gzA hg HB;replace HB:=bsA HB hb;clear hb hbox hg;have hcz7_0:=z0_ BK113;have hcz7_1:=z1_ BK113;have hfz7_0:=hf_ BK113 0;have hfz7_1:=hf_ BK113 1)|((with_reducible refine gate_callee (f:=71) rfl ?_);refine gl (some 7) Tryz.func71 #[.agg #[.int .i64 a0_0,.slice A0_1 l0_1.length c0_1]] ?_;(with_reducible refine(spec_l01Is.calls k a0_0 _ _ l0_1 true _ (cb (Kd.C_below HR0_1.out HB.out)) HC0_1.out A3.out).mono ?_);rintro e w8 ⟨rfl,hb⟩;refine⟨_,rfl,?_⟩;replace BK113:=bkA BK113 hb;replace HB:=bsA HB hb;(try clear hb);(try clear hb2);(try clear hk);(try clear hi)))
   go_ret;exact⟨rr,bl HB.out⟩
  ·rw[if_neg c5] at H;have c5b0:(a1 == 2)=false:=beq_eq_false_iff_ne.mpr c5;have c5b1:(a1 != 2)=true:=bne_iff_ne.mpr c5;by_cases c9:a1=3
   ·rw[if_pos c9] at H;have c9b0:(a1 == 3)=true:=beq_iff_eq.mpr c9;have c9b1:(a1 != 3)=false:=bne_eq_false_iff_eq.mpr c9;clear c9;obtain rfl:=Option.some.inj H;go_enter Tryz.func106,Tryz.ntmps106;go_wp2_with (first|((with_reducible refine gate_dst (N:=2) rfl ?_);refine bx 2 #[.int .i64 a0_0,.slice A0_1 l0_1.length c0_1] 26 ?_;intro gb113 hg w10 hbox hb;have BK113:=Aside0.mk (hbox);have GE113:=gzA hg HB;replace HB:=bsA HB hb;clear hb hbox hg;have hcz11_0:=z0_ BK113;have hcz11_1:=z1_ BK113;have hfz11_0:=hf_ BK113 0;have hfz11_1:=hf_ BK113 1)|((with_reducible refine gate_callee (f:=71) rfl ?_);refine gl (some 7) Tryz.func71 #[.agg #[.int .i64 a0_0,.slice A0_1 l0_1.length c0_1]] ?_;(with_reducible refine(spec_l01Is.calls k a0_0 _ _ l0_1 true _ (cb (Kd.C_below HR0_1.out HB.out)) HC0_1.out A3.out).mono ?_);rintro e w12 ⟨rfl,hb⟩;refine⟨_,rfl,?_⟩;replace BK113:=bkA BK113 hb;replace HB:=bsA HB hb;(try clear hb);(try clear hb2);(try clear hk);(try clear hi)))
    go_ret;exact⟨rr,bl HB.out⟩
   ·rw[if_neg c9] at H;have c9b0:(a1 == 3)=false:=beq_eq_false_iff_ne.mpr c9;have c9b1:(a1 != 3)=true:=bne_iff_ne.mpr c9;obtain rfl:=Option.some.inj H;go_enter Tryz.func106,Tryz.ntmps106;go_wp2_with (first|((with_reducible refine gate_dst (N:=2) rfl ?_);refine bx 2 #[.int .i64 a0_0,.slice A0_1 l0_1.length c0_1] 26 ?_;intro gb113 hg w13 hbox hb;have BK113:=Aside0.mk (hbox);have GE113:=gzA hg HB;replace HB:=bsA HB hb;clear hb hbox hg;have hcz14_0:=z0_ BK113;have hcz14_1:=z1_ BK113;have hfz14_0:=hf_ BK113 0;have hfz14_1:=hf_ BK113 1)|((with_reducible refine gate_callee (f:=71) rfl ?_);refine gl (some 7) Tryz.func71 #[.agg #[.int .i64 a0_0,.slice A0_1 l0_1.length c0_1]] ?_;(with_reducible refine(spec_l01Is.calls k a0_0 _ _ l0_1 true _ (cb (Kd.C_below HR0_1.out HB.out)) HC0_1.out A3.out).mono ?_);rintro e w15 ⟨rfl,hb⟩;refine⟨_,rfl,?_⟩;replace BK113:=bkA BK113 hb;replace HB:=bsA HB hb;(try clear hb);(try clear hb2);(try clear hk);(try clear hi)))
    go_ret;exact⟨rr,bl HB.out⟩
 ·replace c4:=Bool.eq_false_iff.mpr c4;subst c4;have H1:(some 1)=some r:=by rw[if_neg (show ¬ (false=true) by decide)] at H;exact H
  clear H;have H:=H1;clear H1;obtain rfl:=Option.some.inj H;go_enter Tryz.func106,Tryz.ntmps106;go_wp2_with (first|((with_reducible refine gate_dst (N:=2) rfl ?_);refine bx 2 #[.int .i64 a0_0,.slice A0_1 l0_1.length c0_1] 26 ?_;intro gb113 hg w16 hbox hb;have BK113:=Aside0.mk (hbox);have GE113:=gzA hg HB;replace HB:=bsA HB hb;clear hb hbox hg;have hcz17_0:=z0_ BK113;have hcz17_1:=z1_ BK113;have hfz17_0:=hf_ BK113 0;have hfz17_1:=hf_ BK113 1)|((with_reducible refine gate_callee (f:=71) rfl ?_);refine gl (some 7) Tryz.func71 #[.agg #[.int .i64 a0_0,.slice A0_1 l0_1.length c0_1]] ?_;(with_reducible refine(spec_l01Is.calls k a0_0 _ _ l0_1 false _ (cb (Kd.C_below HR0_1.out HB.out)) HC0_1.out A3.out).mono ?_);rintro e w18 ⟨rfl,hb⟩;refine⟨_,rfl,?_⟩;replace BK113:=bkA BK113 hb;replace HB:=bsA HB hb;(try clear hb);(try clear hb2);(try clear hk);(try clear hi)))
  go_ret;exact⟨rr,bl HB.out⟩
end Go.Proofs.YtbnnamejnjfkjaaGreat.Q
end

section
namespace Go.Proofs.YtbnnamejnjfkjaaGreat.K
open Go.RowKit Go.Shelf Go.Proofs.YtbnnamejnjfkjaaGreat.Q Go.Proofs.YtbnnamejnjfkjaaGreatW.PrintWords Go.Proofs.YtbnnamejnjfkjaaGreatW.PrintLast Go.Proofs.YtbnnamejnjfkjaaGreatW.PrintMore
set_option linter.unusedVariables false
set_option linter.unusedSimpArgs false
theorem specSigns_64:∀ m:Fin 64,m.val≠0→spec_l03Signs.f 20 (m.val:Int)=some (signsL (m.val:Int)):=by decide +kernel
theorem specSigns_is (f:Int) (h1:1≤f) (h2:f≤63) (k:Nat) (hk:20≤k):spec_l03Signs.f k f=some (signsL f):=by
 obtain ⟨m,rfl⟩:=Int.eq_ofNat_of_zero_le (show 0≤f by omega)
 exact at_rounds (fun k=>spec_l03Signs.mono _ k) hk (specSigns_64 ⟨m,by omega⟩ (by show m≠0;omega))
theorem signs_length (f:Int):(signsL f).length≤6:=by
 have:=bords_length f
 simpa [signsL] using this
end Go.Proofs.YtbnnamejnjfkjaaGreat.K
end

section
namespace Go.Proofs.YtbnnamejnjfkjaaGreat.K
open Go.RowKit Go.Shelf Go.Proofs.YtbnnamejnjfkjaaGreat.Q Go.Proofs.YtbnnamejnjfkjaaGreatW.PrintWords Go.Proofs.YtbnnamejnjfkjaaGreatW.PrintLast Go.Proofs.YtbnnamejnjfkjaaGreatW.PrintMore
set_option linter.unusedVariables false
set_option linter.unusedSimpArgs false
theorem specOnes_64:∀ m:Fin 64,spec_l01Ones.f 8 (m.val:Int)=some (onesI (m.val:Int)):=by decide +kernel
theorem specOnes_is (f:Int) (h1:0≤f) (h2:f≤63) (k:Nat) (hk:8≤k):spec_l01Ones.f k f=some (onesI f):=by
 obtain ⟨m,rfl⟩:=Int.eq_ofNat_of_zero_le h1
 exact at_rounds (fun k=>spec_l01Ones.mono _ k) hk (specOnes_64 ⟨m,by omega⟩)
end Go.Proofs.YtbnnamejnjfkjaaGreat.K
end

section
namespace Go.Proofs.YtbnnamejnjfkjaaGreat.Q
open Go.RowKit Go.Proofs.YtbnnamejnjfkjaaGreat.Q Go.Proofs.YtbnnamejnjfkjaaGreatW.PrintWords Go.Proofs.YtbnnamejnjfkjaaGreatW.PrintLast Go.Proofs.YtbnnamejnjfkjaaGreatW.PrintMore
attribute [local go_sem] max2_int min2_int max_two min_two max_three min_three max_four min_four
set_option linter.unusedVariables false
set_option linter.unusedSimpArgs false
def spec_l01Dim.l0:Nat→Int→Int→Int→List Int→Option (Int)
 |0,_,_,_,_=>none
 |k+1,x3,x4,x116000,x116001=>if x4<(x116001.length:Int) then (if 0≤x4 then ((spec_l01Ones.f k (rd x116001 x4)).bind fun t117=>(spec_l01Dim.l0 k (mx x3 (wrap64 (t117 - 1))) (wrap64 (x4+1)) x116000 x116001)) else (none)) else (some x3)
def spec_l01Dim.f (k:Nat) (a0_0:Int) (l0_1:List Int):Option (Int):=spec_l01Dim.l0 k (-1) 0 a0_0 l0_1
theorem spec_l01Dim.mono_l:∀ k,(∀ y0 y1 y2 y3,LeO (spec_l01Dim.l0 k y0 y1 y2 y3) (spec_l01Dim.l0 (k+1) y0 y1 y2 y3))
 |0=>fun _ _ _ _ r h=>by simp [spec_l01Dim.l0] at h
 |k+1=>by
  have ih0:=spec_l01Dim.mono_l k
  ·intro y0 y1 y2 y3;unfold spec_l01Dim.l0;repeat' first
   |(with_reducible first|exact ih0 _ _ _ _|exact spec_l01Ones.mono _ _|exact LeO.refl _|exact LeO.none _|refine LeO.ite ?_ ?_|refine LeO.bind ?_ (fun _=>?_))
theorem spec_l01Dim.mono:∀ a0 a1 k,LeO (spec_l01Dim.f k a0 a1) (spec_l01Dim.f (k+1) a0 a1):=by
 intro a0 a1 k;have ih0:=spec_l01Dim.mono_l k;unfold spec_l01Dim.f;repeat' first
   |(with_reducible first|exact ih0 _ _ _ _|exact spec_l01Ones.mono _ _|exact LeO.refl _|exact LeO.none _|refine LeO.ite ?_ ?_|refine LeO.bind ?_ (fun _=>?_))
set_option maxHeartbeats 8000000 in
set_option maxRecDepth 100000 in
theorem spec_l01Dim.calls (k:Nat) (a0_0:Int) (A0_1:Option Addr) (c0_1:Nat) (l0_1:List Int) (r:Int) (w:World) (hr0_1:Kd.C (Kd.int .i64) w A0_1 l0_1.length l0_1) (hc0_1:l0_1.length≤c0_1) (h:spec_l01Dim.f k a0_0 l0_1=some r) :
  Calls Tryz.prog 137 #[.agg #[.int .i64 a0_0,.slice A0_1 l0_1.length c0_1]] w fun e w'=>e = .returned (.int .i64 r)∧Below w.heap.size w w':=by
 have hu26:=Tryz.underlying26;have HR0_1:=Aside0.mk hr0_1;have HC0_1:=Aside0.mk hc0_1;clear hr0_1 hc0_1;have HB:=Aside0.mk (Below.refl w.heap.size w);have H:(spec_l01Dim.l0 k (-1) 0 a0_0 l0_1)=some r:=h;clear h;have H':=Aside0.mk H;clear H;go_enter Tryz.func137,Tryz.ntmps137;go_wp2_with (first|((with_reducible refine gate_dst (N:=1) rfl ?_);refine bx 1 #[.int .i64 a0_0,.slice A0_1 l0_1.length c0_1] 26 ?_;intro gb115 hg w2 hbox hb;have BK115:=Aside0.mk (hbox);have GE115:=gzA hg HB;replace HB:=bsA HB hb;clear hb hbox hg))
 go_loopg [3,4] k (fun kq v3 v4 w'=>∃(x3_1:Int) (x4_1:Int),v3 = .int .i64 x3_1∧v4 = .int .i64 x4_1∧Aside0 (spec_l01Dim.l0 kq x3_1 x4_1 a0_0 l0_1=some r)∧Aside0 (kq≤k)∧Aside0 (w'.heap[gb115]?=some (.cells #[.int .i64 a0_0,(.slice A0_1 l0_1.length c0_1)] 26 (0,0)))∧Aside0 (Below w.heap.size w w'))
 case atStart=>exact⟨((-1)),(0),rs,rs,H',⟨Nat.le_refl _⟩,⟨bk BK115.out⟩,⟨bl HB.out⟩⟩
 case round=>
  clear H';try clear c1
  try clear p2
  obtain ⟨x3_1,x4_1,rfl,rfl,HA,HK1,BK115,HB⟩:=hrel;cases gk with
  |zero=>exact absurd HA.out (by simp [spec_l01Dim.l0])
  |succ k1=>
   have H:=HA.out;clear HA;simp only [spec_l01Dim.l0] at H;by_cases c3:x4_1<(l0_1.length:Int)
   ·rw[if_pos c3] at H;have c3b0:decide (x4_1<(l0_1.length:Int))=true:=decide_eq_true c3;clear c3;by_cases c4:0≤x4_1
    ·rw[if_pos c4] at H;have c4b0:decide (0≤x4_1)=true:=decide_eq_true c4;clear c4;replace H:=Option.bind_eq_some_iff.mp H;obtain ⟨t117,A50,H⟩:=H;replace H:(spec_l01Dim.l0 k1 (mx x3_1 (wrap64 (t117 - 1))) (wrap64 (x4_1+1)) a0_0 l0_1)=some r:=H;have A5:=Aside0.mk A50;clear A50;obtain ⟨ji6,hji6⟩:∃ j_:Int,(mx x3_1 (wrap64 (t117 - 1)))=j_:=⟨_,rfl⟩
     replace H:(spec_l01Dim.l0 k1 ji6 (wrap64 (x4_1+1)) a0_0 l0_1)=some r:=by first|(rw[hji6] at H;exact H)|(simp only [hji6] at H ⊢;exact H)
     (try rw[hji6] at A5)
     have hji6_:(if x3_1<(wrap64 (t117 - 1)) then (wrap64 (t117 - 1)) else x3_1)=ji6:=hji6;have H':=Aside0.mk H;clear H;have hcz7_0:=z0_ BK115;have hcz7_1:=z1_ BK115;have hfz7_0:=hf_ BK115 0;have hfz7_1:=hf_ BK115 1;have p116:0≤(x4_1:Int):=dd;have q116:x4_1<(l0_1.length:Int):=dd;obtain ⟨ad116,e116,hx116_0⟩:=Kd.at_int HR0_1.out x4_1 p116 q116;cases e116;replace hx116_0:=hx_ HB hx116_0;replace p116:=eq_true p116;replace q116:=eq_true q116;go_wp2_with (first|((with_reducible refine gate_callee (f:=100) rfl ?_);refine gl (some 18) Tryz.func100 #[.int .i64 (rd l0_1 x4_1)] ?_;(with_reducible refine(spec_l01Ones.calls k1 (rd l0_1 x4_1) t117 _ A5.out).mono ?_);rintro e w' ⟨rfl,⟨nd,rfl⟩⟩;refine⟨_,rfl,?_⟩))
     go_roundg k1
     case measure=>have:=HK1.out;omega
     case rel=>exact⟨(ji6),(wrap64 (x4_1+1)),(by first|rfl|(simp;done)|(simp only [← hji6] <;> (first|rfl|simp))|(simp [*];done)),rs,H',⟨by have:=HK1.out;omega⟩,⟨bk BK115.out⟩,⟨bl HB.out⟩⟩
    ·rw[if_neg c4] at H;exact absurd H (by simp)
   ·rw[if_neg c3] at H;have c3b0:decide (x4_1<(l0_1.length:Int))=false:=decide_eq_false c3;clear c3;obtain rfl:=Option.some.inj H;have hcz8_0:=z0_ BK115;have hcz8_1:=z1_ BK115;have hfz8_0:=hf_ BK115 0;have hfz8_1:=hf_ BK115 1;go_wp2
    go_ret;exact⟨rr,bl HB.out⟩
def spec_l01Of.l0:Nat→Int→List Int→Int→Int→List Int→Option (List Int)
 |0,_,_,_,_,_=>none
 |k+1,x1,x5,x6,x124000,x124001=>if x6<(x124001.length:Int) then (if 0≤x6 then ((spec_l01Ones.f k (rd x124001 x6)).bind fun t128=>(if t128=(wrap64 (x1+1)) then (if x5.length<17592186044416 then (spec_l01Of.l0 k x1 (x5 ++ [rd x124001 x6]) (wrap64 (x6+1)) x124000 x124001) else (none)) else (spec_l01Of.l0 k x1 x5 (wrap64 (x6+1)) x124000 x124001))) else (none)) else (some x5)
def spec_l01Of.f (k:Nat) (a0_0:Int) (l0_1:List Int) (a1:Int):Option (List Int):=spec_l01Of.l0 k a1 (([]:List Int)) 0 a0_0 l0_1
theorem spec_l01Of.mono_l:∀ k,(∀ y0 y1 y2 y3 y4,LeO (spec_l01Of.l0 k y0 y1 y2 y3 y4) (spec_l01Of.l0 (k+1) y0 y1 y2 y3 y4))
 |0=>fun _ _ _ _ _ r h=>by simp [spec_l01Of.l0] at h
 |k+1=>by
  have ih0:=spec_l01Of.mono_l k
  ·intro y0 y1 y2 y3 y4;unfold spec_l01Of.l0;repeat' first
   |(with_reducible first|exact ih0 _ _ _ _ _|exact spec_l01Ones.mono _ _|exact LeO.refl _|exact LeO.none _|refine LeO.ite ?_ ?_|refine LeO.bind ?_ (fun _=>?_))
theorem spec_l01Of.mono:∀ a0 a1 a2 k,LeO (spec_l01Of.f k a0 a1 a2) (spec_l01Of.f (k+1) a0 a1 a2):=by
 intro a0 a1 a2 k;have ih0:=spec_l01Of.mono_l k;unfold spec_l01Of.f;repeat' first
   |(with_reducible first|exact ih0 _ _ _ _ _|exact spec_l01Ones.mono _ _|exact LeO.refl _|exact LeO.none _|refine LeO.ite ?_ ?_|refine LeO.bind ?_ (fun _=>?_))
set_option maxHeartbeats 8000000 in
set_option maxRecDepth 100000 in
theorem spec_l01Of.calls (k:Nat) (a0_0:Int) (A0_1:Option Addr) (c0_1:Nat) (l0_1:List Int) (a1:Int) (r:List Int) (w:World) (hr0_1:Kd.C (Kd.int .i64) w A0_1 l0_1.length l0_1) (hc0_1:l0_1.length≤c0_1) (h:spec_l01Of.f k a0_0 l0_1 a1=some r) :
  Calls Tryz.prog 117 #[.agg #[.int .i64 a0_0,.slice A0_1 l0_1.length c0_1],.int .i64 a1] w fun e w'=>∃ v0_:Value,e = .returned (v0_)∧Kd.R (Kd.int .i64) 2 w' w.heap.size (fun _=>True) v0_ r∧Below w.heap.size w w':=by
 have hu26:=Tryz.underlying26;have HR0_1:=Aside0.mk hr0_1;have HC0_1:=Aside0.mk hc0_1;clear hr0_1 hc0_1;have HB:=Aside0.mk (Below.refl w.heap.size w);have H:(spec_l01Of.l0 k a1 (([]:List Int)) 0 a0_0 l0_1)=some r:=h;clear h;obtain ⟨y124,hy124⟩:∃ y_:List Int,y_=(([]:List Int)):=⟨_,rfl⟩
 replace H:(spec_l01Of.l0 k a1 y124 0 a0_0 l0_1)=some r:=by first|(rw[hy124];with_reducible exact H)|(have H2_:=(Option.bind_some _ _).symm.trans H;rw[hy124];with_reducible exact H2_)|(have H2_:=(Option.bind_some _ _).symm.trans H;with_reducible exact H2_)|with_reducible exact H|(rw[hy124];exact H)|exact H
 have Ny124:=Aside0.mk hy124;clear hy124;have H':=Aside0.mk H;clear H;go_enter Tryz.func117,Tryz.ntmps117;go_wp2_with (first|((with_reducible refine gate_dst (N:=2) rfl ?_);refine bx 2 #[.int .i64 a0_0,.slice A0_1 l0_1.length c0_1] 26 ?_;intro gb123 hg w3 hbox hb;have BK123:=Aside0.mk (hbox);have GE123:=gzA hg HB;replace HB:=bsA HB hb;clear hb hbox hg)|((with_reducible refine gate_dst (N:=7) rfl ?_);refine Kd.R_lit (Kd.int .i64) _ 2 ?hg (N:=7) ?hd (xs:=([]:List Int)) (inner:= []) (ok:=fun _=>True) (okp:=fun _=>True) ?hr ?hp (fun _ hk=>hk) trivial (Below.refl _ _) (Nat.le_refl _) (by simp) ?_;(case hd=>rfl);(case hg=>rfl);(case hr=>first|(go_simp;done)|(go_simp;rfl));(case hp=>exact(Reps.none _ _));intro v125 w4 ho5 hb hg_ hnew_;clear hg_ hnew_;(first|rw[← Ny124.out] at ho5|(simp only [Int.reduceToNat] at ho5;rw[← Ny124.out] at ho5));have HO126:=klA ho5 HB;replace BK123:=bkA BK123 hb;replace HB:=bsA HB hb;clear hb ho5))
 go_loopg [5,6] k (fun kq v5 v6 w'=>∃(x5_1:List Int) (x6_1:Int),v6 = .int .i64 x6_1∧Aside0 (spec_l01Of.l0 kq a1 x5_1 x6_1 a0_0 l0_1=some r)∧Aside0 (kq≤k)∧Aside0 (Kd.R (Kd.int .i64) 2 w' w.heap.size (fun _=>True) v5 x5_1)∧Aside0 (w'.heap[gb123]?=some (.cells #[.int .i64 a0_0,(.slice A0_1 l0_1.length c0_1)] 26 (0,0)))∧Aside0 (Below w.heap.size w w'))
 case atStart=>exact⟨(y124),(0),rs,H',⟨Nat.le_refl _⟩,⟨kr HO126.out⟩,⟨bk BK123.out⟩,⟨bl HB.out⟩⟩
 case round=>
  clear H';try clear c1
  try clear p2
  obtain ⟨x5_1,x6_1,rfl,HA,HK1,HO_5,BK123,HB⟩:=hrel;cases gk with
  |zero=>exact absurd HA.out (by simp [spec_l01Of.l0])
  |succ k1=>
   have H:=HA.out;clear HA;simp only [spec_l01Of.l0] at H;by_cases c6:x6_1<(l0_1.length:Int)
   ·rw[if_pos c6] at H;have c6b0:decide (x6_1<(l0_1.length:Int))=true:=decide_eq_true c6;clear c6;by_cases c7:0≤x6_1
    ·rw[if_pos c7] at H;have c7b0:decide (0≤x6_1)=true:=decide_eq_true c7;clear c7;replace H:=Option.bind_eq_some_iff.mp H;obtain ⟨t128,A80,H⟩:=H;replace H:(if t128=(wrap64 (a1+1)) then (if x5_1.length<17592186044416 then (spec_l01Of.l0 k1 a1 (x5_1 ++ [rd l0_1 x6_1]) (wrap64 (x6_1+1)) a0_0 l0_1) else (none)) else (spec_l01Of.l0 k1 a1 x5_1 (wrap64 (x6_1+1)) a0_0 l0_1))=some r:=H;have A8:=Aside0.mk A80;clear A80;by_cases c9:t128=(wrap64 (a1+1))
     ·rw[if_pos c9] at H;have c9b0:(t128 == (wrap64 (a1+1)))=true:=beq_iff_eq.mpr c9;have c9b1:(t128 != (wrap64 (a1+1)))=false:=bne_eq_false_iff_eq.mpr c9;clear c9;by_cases c10:x5_1.length<17592186044416
      ·rw[if_pos c10] at H;have LMc10:=Aside0.mk c10;clear c10;obtain ⟨y130,hy130⟩:∃ y_:List Int,y_=(x5_1 ++ [rd l0_1 x6_1]):=⟨_,rfl⟩
       replace H:(spec_l01Of.l0 k1 a1 y130 (wrap64 (x6_1+1)) a0_0 l0_1)=some r:=by first|(rw[hy130];with_reducible exact H)|(have H2_:=(Option.bind_some _ _).symm.trans H;rw[hy130];with_reducible exact H2_)|(have H2_:=(Option.bind_some _ _).symm.trans H;with_reducible exact H2_)|with_reducible exact H|(rw[hy130];exact H)|exact H
       have Ny130:=Aside0.mk hy130;clear hy130;have H':=Aside0.mk H;clear H;have hcz11_0:=z0_ BK123;have hcz11_1:=z1_ BK123;have hfz11_0:=hf_ BK123 0;have hfz11_1:=hf_ BK123 1;have p127:0≤(x6_1:Int):=dd;have q127:x6_1<(l0_1.length:Int):=dd;obtain ⟨ad127,e127,hx127_0⟩:=Kd.at_int HR0_1.out x6_1 p127 q127;cases e127;replace hx127_0:=hx_ HB hx127_0;replace p127:=eq_true p127;replace q127:=eq_true q127;go_wp2_with (first|((with_reducible refine gate_callee (f:=100) rfl ?_);refine gl (some 20) Tryz.func100 #[.int .i64 (rd l0_1 x6_1)] ?_;(with_reducible refine(spec_l01Ones.calls k1 (rd l0_1 x6_1) t128 _ A8.out).mono ?_);rintro e w' ⟨rfl,⟨nd,rfl⟩⟩;refine⟨_,rfl,?_⟩;have p129:0≤(x6_1:Int):=dd;have q129:x6_1<(l0_1.length:Int):=dd;obtain ⟨ad129,e129,hx129_0⟩:=Kd.at_int HR0_1.out x6_1 p129 q129;obtain rfl:ad127=ad129:=(by injection e129);replace hx129_0:=hx_ HB hx129_0;replace p129:=eq_true p129;replace q129:=eq_true q129)|((with_reducible refine gate_builtin (b:= .append) (xs:=#[.tmp 24,.tmp 30]) rfl ?_);at_builtin;refine Kd.R_append (Kd.int .i64) (w0:=w) w.heap.size rfl (.tmp 24) (.tmp 30) 24 2 (.int .i64 0) 8 rfl Tryz.underlying24 info2 rfl (by decide) (by omega) u5 x5_1 (rd l0_1 x6_1) [.int .i64 (rd l0_1 x6_1)] (fun _=>True) (fun _=>False) rfl rfl ?aP (fun _ hk=>hk.elim) ?aF ?aO ?aB ?aS ?aL ?_;(case aP=>exact rfl);(case aB=>exact(bl HB.out));(case aF=>exact(fun _ _=>trivial));(case aO=>exact(kr HO_5.out));(case aS=>exact(below_size (bl HB.out)));(case aL=>have:=LMc10.out;omega);intro v131 w12 ho hb hg hat;rw[← Ny130.out] at ho;have n0_:=Aside0.mk (blk_grown (bk BK123.out) hg (Kd.R_ne HO_5.out BK123.out (by decide)));have n1_:=Aside0.mk (hb);have n2_:=Aside0.mk (ho);clear BK123;clear HB;clear HO_5;have BK123:=n0_;have HB:=n1_;have HO132:=n2_;clear n0_ n1_ n2_;clear ho hb hg hat))
       go_roundg k1
       case measure=>have:=HK1.out;omega
       case rel=>exact⟨(y130),(wrap64 (x6_1+1)),rs,H',⟨by have:=HK1.out;omega⟩,⟨kr HO132.out⟩,⟨bk BK123.out⟩,⟨bl HB.out⟩⟩
      ·rw[if_neg c10] at H;exact absurd H (by simp)
     ·rw[if_neg c9] at H;have c9b0:(t128 == (wrap64 (a1+1)))=false:=beq_eq_false_iff_ne.mpr c9;have c9b1:(t128 != (wrap64 (a1+1)))=true:=bne_iff_ne.mpr c9;have H':=Aside0.mk H;clear H;have hcz13_0:=z0_ BK123;have hcz13_1:=z1_ BK123;have hfz13_0:=hf_ BK123 0;have hfz13_1:=hf_ BK123 1;have p127:0≤(x6_1:Int):=dd;have q127:x6_1<(l0_1.length:Int):=dd;obtain ⟨ad127,e127,hx127_0⟩:=Kd.at_int HR0_1.out x6_1 p127 q127;cases e127;replace hx127_0:=hx_ HB hx127_0;replace p127:=eq_true p127;replace q127:=eq_true q127;go_wp2_with (first|((with_reducible refine gate_callee (f:=100) rfl ?_);refine gl (some 20) Tryz.func100 #[.int .i64 (rd l0_1 x6_1)] ?_;(with_reducible refine(spec_l01Ones.calls k1 (rd l0_1 x6_1) t128 _ A8.out).mono ?_);rintro e w' ⟨rfl,⟨nd,rfl⟩⟩;refine⟨_,rfl,?_⟩))
      go_roundg k1
      case measure=>have:=HK1.out;omega
      case rel=>exact⟨(x5_1),(wrap64 (x6_1+1)),rs,H',⟨by have:=HK1.out;omega⟩,⟨kr HO_5.out⟩,⟨bk BK123.out⟩,⟨bl HB.out⟩⟩
    ·rw[if_neg c7] at H;exact absurd H (by simp)
   ·rw[if_neg c6] at H;have c6b0:decide (x6_1<(l0_1.length:Int))=false:=decide_eq_false c6;clear c6;obtain rfl:=Option.some.inj H;have hcz14_0:=z0_ BK123;have hcz14_1:=z1_ BK123;have hfz14_0:=hf_ BK123 0;have hfz14_1:=hf_ BK123 1;go_wp2
    go_ret;exact⟨_,rr,by(with_reducible repeat(first|apply Kd.R_alloc|apply Kd.R_drewN|apply Kd.R_drew));exact HO_5.out,bl HB.out⟩
end Go.Proofs.YtbnnamejnjfkjaaGreat.Q
end
