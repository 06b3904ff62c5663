/- Texts of this work, put together by its pack.py. No conditions. -/
import Derived.Test.YtlhkdbkjafiikaaGreatJ1
import Derived.Below
import Derived.Deep.Draws
import Derived.Deep.AppendLies
import Derived.Maps.AppendAt
import Derived.OwnWalk
import Derived.Laws.BytesArg
import Derived.Laws.MakeOwn
import Derived.Laws.OwnMore
import Derived.Deep.OwnRows
import Derived.Tactics
import Derived.Lib.ConvBytes
import Derived.Laws.Slices
import Derived.WalkKit
import Derived.KernelRfl
import Derived.RowKit3
import Derived.Deep.LoopGhost
import Derived.Deep.QuietTactic
import Derived.BigQuiet
import Derived.WideLaws
import Derived.Deep.DeepCutAuto
import Derived.Deep.CutBlock
import Derived.Deep.RegionHeld3
import Derived.Laws.Rows
import Derived.Lib.AppendStr
import Derived.ArgAppend
import Derived.Laws.IdiomCopy
import Derived.RowKit
import Derived.OrdersHeld
import Derived.Laws.BitsLemmas
import Derived.Laws.StructEq
import Derived.Test.YtlhkdbkjafiikaaGreatProg
import Derived.Shelf.Abstract
import Derived.RangeFuncBox
import Derived.RangeFuncLeaves
import Derived.OwnWalkIn
import Derived.TacticsInMore
import Derived.LoopNIn
import Derived.LoopIn
section
namespace Go.Proofs.YtlhkdbkjafiikaaGreat.Q
open Go.RowKit Go.Proofs.YtlhkdbkjafiikaaGreatW.PrintWords Go.Proofs.YtlhkdbkjafiikaaGreatW.PrintLast Go.Proofs.YtlhkdbkjafiikaaGreatW.PrintMore
attribute [local go_sem] max2_int min2_int max_two min_two max_three min_three max_four min_four
set_option linter.unusedVariables false
set_option linter.unusedSimpArgs false
mutual
def spec_l01Made.l0:Nat→Int→List Int→Int→Int→List Int→Option (Int×List Int)
 |0,_,_,_,_,_=>none
 |k+1,x0,x1,x6,x230000,x230001=>(spec_l01All.f x0).bind fun t230=>(if x6≤t230 then (spec_l01Made.l1 k x0 x1 x6 0 x230000 x230001) else (some (x230000,x230001)))
def spec_l01Made.l1:Nat→Int→List Int→Int→Int→Int→List Int→Option (Int×List Int)
 |0,_,_,_,_,_,_=>none
 |k+1,x0,x1,x6,x7,x230000,x230001=>if x7<(x1.length:Int) then (if 0≤x7 then (if (Go.bits .and .i64 x6 (rd x1 x7))=x6 then (if x230001.length<17592186044416 then (spec_l01Made.l0 k x0 x1 (wrap64 (x6+1)) x230000 (x230001 ++ [x6])) else (none)) else (spec_l01Made.l1 k x0 x1 x6 (wrap64 (x7+1)) x230000 x230001)) else (none)) else (spec_l01Made.l0 k x0 x1 (wrap64 (x6+1)) x230000 x230001)
end
def spec_l01Made.f (k:Nat) (a0:Int) (l1:List Int):Option (Int×List Int):=spec_l01Made.l0 k a0 l1 1 a0 (([]:List Int))
theorem spec_l01Made.mono_l:∀ k,(∀ y0 y1 y2 y3 y4,LeO (spec_l01Made.l0 k y0 y1 y2 y3 y4) (spec_l01Made.l0 (k+1) y0 y1 y2 y3 y4))∧(∀ y0 y1 y2 y3 y4 y5,LeO (spec_l01Made.l1 k y0 y1 y2 y3 y4 y5) (spec_l01Made.l1 (k+1) y0 y1 y2 y3 y4 y5))
 |0=>⟨fun _ _ _ _ _ r h=>by simp [spec_l01Made.l0] at h,fun _ _ _ _ _ _ r h=>by simp [spec_l01Made.l1] at h⟩
 |k+1=>by
  obtain ⟨ih0,ih1⟩:=spec_l01Made.mono_l k;refine⟨?_,?_⟩
  ·intro y0 y1 y2 y3 y4;unfold spec_l01Made.l0;repeat' first
   |(with_reducible first|exact ih0 _ _ _ _ _|exact ih1 _ _ _ _ _ _|exact LeO.refl _|exact LeO.none _|refine LeO.ite ?_ ?_|refine LeO.bind ?_ (fun _=>?_))
  ·intro y0 y1 y2 y3 y4 y5;unfold spec_l01Made.l1;repeat' first
   |(with_reducible first|exact ih0 _ _ _ _ _|exact ih1 _ _ _ _ _ _|exact LeO.refl _|exact LeO.none _|refine LeO.ite ?_ ?_|refine LeO.bind ?_ (fun _=>?_))
theorem spec_l01Made.mono:∀ a0 a1 k,LeO (spec_l01Made.f k a0 a1) (spec_l01Made.f (k+1) a0 a1):=by
 intro a0 a1 k;obtain ⟨ih0,ih1⟩:=spec_l01Made.mono_l k;unfold spec_l01Made.f;repeat' first
   |(with_reducible first|exact ih0 _ _ _ _ _|exact ih1 _ _ _ _ _ _|exact LeO.refl _|exact LeO.none _|refine LeO.ite ?_ ?_|refine LeO.bind ?_ (fun _=>?_))
set_option maxHeartbeats 8000000 in
set_option maxRecDepth 100000 in
theorem spec_l01Made.calls (k:Nat) (a0:Int) (A1:Option Addr) (c1:Nat) (l1:List Int) (r1:Int) (r2:List Int) (w:World) (hr1:Kd.C (Kd.int .i64) w A1 l1.length l1) (hc1:l1.length≤c1) (h:spec_l01Made.f k a0 l1=some (r1,r2)) :
  Calls Tryz.prog 124 #[.int .i64 a0,.slice A1 l1.length c1] w fun e w'=>∃ v1_:Value,e = .returned (.agg #[.int .i64 r1,v1_])∧Kd.R (Kd.int .i64) 2 w' w.heap.size (fun _=>True) v1_ r2∧Below w.heap.size w w':=by
 have hu26:=Tryz.underlying26;have HR1:=Aside0.mk hr1;have HC1:=Aside0.mk hc1;clear hr1 hc1;have HB:=Aside0.mk (Below.refl w.heap.size w);have H:(spec_l01Made.l0 k a0 l1 1 a0 (([]:List Int)))=some (r1,r2):=h;clear h;obtain ⟨y226,hy226⟩:∃ y_:List Int,y_=(([]:List Int)):=⟨_,rfl⟩
 replace H:(spec_l01Made.l0 k a0 l1 1 a0 y226)=some (r1,r2):=by first|(rw[hy226];with_reducible exact H)|(have H2_:=(Option.bind_some _ _).symm.trans H;rw[hy226];with_reducible exact H2_)|(have H2_:=(Option.bind_some _ _).symm.trans H;with_reducible exact H2_)|with_reducible exact H|(rw[hy226];exact H)|exact H
 have Ny226:=Aside0.mk hy226;clear hy226;have H':=Aside0.mk H;clear H;go_enter Tryz.func124,Tryz.ntmps124;go_wp2_with (first|((with_reducible refine gate_dst (N:=4) rfl ?_);refine bx 4 #[.int .i64 0,.slice none 0 0] 26 ?_;intro gb225 hg w3 hbox hb;have BK225:=Aside0.mk (hbox);have GE225:=gzA hg HB;replace HB:=bsA HB hb;clear hb hbox hg)|((with_reducible refine gate_dst (N:=9) rfl ?_);refine Kd.R_lit (Kd.int .i64) _ 2 ?hg (N:=9) ?hd (xs:=([]:List Int)) (inner:= []) (ok:=fun _=>True) (okp:=fun _=>True) ?hr ?hp (fun _ hk=>hk) trivial (Below.refl _ _) (Nat.le_refl _) (by simp) ?_;(case hd=>rfl);(case hg=>rfl);(case hr=>first|(go_simp;done)|(go_simp;rfl));(case hp=>exact(Reps.none _ _));intro v227 w4 ho5 hb hg_ hnew_;clear hg_ hnew_;(first|rw[← Ny226.out] at ho5|(simp only [Int.reduceToNat] at ho5;rw[← Ny226.out] at ho5));have HO228:=klA ho5 HB;replace BK225:=bkA BK225 hb;replace HB:=bsA HB hb;clear hb ho5;obtain ⟨Ao6,co6,eo6⟩:=Kd.R_slice HO228.out;subst eo6)|((with_reducible refine gate_dst (N:=5) rfl ?_);refine bx 5 #[.int .i64 0,.slice none 0 0] 26 ?_;intro gb229 hg w7 hbox hb;replace HO228:=krA HO228 hb;have BK229:=Aside0.mk (hbox);have GE229:=gzA hg HB;replace HB:=bsA HB hb;have NB225_229:=nlA hg BK225;have NB229_225:=ngA hg BK225;replace BK225:=bkA BK225 hb;clear hb hbox hg;have hnb8:=NB229_225.out;have hnc8:=NB225_229.out;have hcz9_0:=z0_ BK229;have hcz9_1:=z1_ BK229;have hfz9_0:=hf_ BK229 0;have hfz9_1:=hf_ BK229 1))
 go_loopg [6] k (fun kq v6 w'=>∃(x6_1:Int) (x230001_1:List Int) (u230001:Value),v6 = .int .i64 x6_1∧Aside0 (spec_l01Made.l0 kq a0 l1 x6_1 a0 x230001_1=some (r1,r2))∧Aside0 (kq≤k)∧Aside0 (Kd.R (Kd.int .i64) 2 w' w.heap.size (fun _=>True) u230001 x230001_1)∧Aside0 (w'.heap[gb225]?=some (.cells #[.int .i64 0,(.slice none 0 0)] 26 (0,0)))∧Aside0 (w'.heap[gb229]?=some (.cells #[.int .i64 a0,u230001] 26 (0,0)))∧Aside0 (Below w.heap.size w w'))
 case atStart=>exact⟨(1),(y226),(.slice Ao6 y226.length co6),rs,H',⟨Nat.le_refl _⟩,⟨by(with_reducible repeat(first|apply Kd.R_alloc|apply Kd.R_drewN|apply Kd.R_drew));exact Kd.R_mono (Kd.R_far (p:=⟨gb229,1,none⟩) (Kd.R_far (p:=⟨gb229,0,none⟩) (Kd.R_types HO228.out BK229.out (by decide)) (fun _ hk=>hk.2) (.int .i64 a0)) (fun _ hk=>hk.2) (.slice Ao6 y226.length co6)) (fun _ hk=>trivial)⟩,⟨bp BK225.out⟩,⟨bp BK229.out⟩,⟨bl HB.out⟩⟩
 case round=>
  clear H';try clear c1
  try clear p2
  try clear c8
  try clear hcz9_0
  try clear hcz9_1
  try clear hfz9_0
  try clear hfz9_1
  obtain ⟨x6_1,x230001_1,u230001,rfl,HA,HK1,HO_230001,BK225,BK229,HB⟩:=hrel;cases gk with
  |zero=>exact absurd HA.out (by simp [spec_l01Made.l0])
  |succ k1=>
   have H:=HA.out;clear HA;simp only [spec_l01Made.l0] at H;replace H:=Option.bind_eq_some_iff.mp H;obtain ⟨t230,A100,H⟩:=H;replace H:(if x6_1≤t230 then (spec_l01Made.l1 k1 a0 l1 x6_1 0 a0 x230001_1) else (some (a0,x230001_1)))=some (r1,r2):=H;have A10:=Aside0.mk A100;clear A100;by_cases c11:x6_1≤t230
   ·rw[if_pos c11] at H;have c11b0:decide (x6_1≤t230)=true:=decide_eq_true c11;clear c11;have H':=Aside0.mk H;clear H;go_wp2_with (first|((with_reducible refine gate_callee (f:=91) rfl ?_);refine gl (some 13) Tryz.func91 #[.int .i64 a0] ?_;(with_reducible refine(spec_l01All.calls a0 t230 _ A10.out).mono ?_);rintro e w' ⟨rfl,⟨nd,rfl⟩⟩;refine⟨_,rfl,?_⟩))
    go_loopg [7] k1 (fun kq v7 w'=>∃(x7_2:Int) (x230001_2:List Int) (u230001:Value),v7 = .int .i64 x7_2∧Aside0 (spec_l01Made.l1 kq a0 l1 x6_1 x7_2 a0 x230001_2=some (r1,r2))∧Aside0 (kq≤k1)∧Aside0 (Kd.R (Kd.int .i64) 2 w' w.heap.size (fun _=>True) u230001 x230001_2)∧Aside0 (w'.heap[gb225]?=some (.cells #[.int .i64 0,(.slice none 0 0)] 26 (0,0)))∧Aside0 (w'.heap[gb229]?=some (.cells #[.int .i64 a0,u230001] 26 (0,0)))∧Aside0 (Below w.heap.size w w'))
    case atStart=>exact⟨(0),(x230001_1),(u230001),rs,H',⟨Nat.le_refl _⟩,⟨kr HO_230001.out⟩,⟨bk BK225.out⟩,⟨bk BK229.out⟩,⟨bl HB.out⟩⟩
    case round=>
     clear H';try clear c1
     try clear p2
     try clear c8
     try clear c9
     try clear c11
     try clear c11b0
     try clear hcz9_0
     try clear hcz9_1
     try clear hfz9_0
     try clear hfz9_1
     try clear p2
     obtain ⟨x7_2,x230001_2,u230001,rfl,HA,HK2,HO_230001,BK225,BK229,HB⟩:=hrel;cases gk with
     |zero=>exact absurd HA.out (by simp [spec_l01Made.l1])
     |succ k2=>
      have H:=HA.out;clear HA;simp only [spec_l01Made.l1] at H;by_cases c12:x7_2<(l1.length:Int)
      ·rw[if_pos c12] at H;have c12b0:decide (x7_2<(l1.length:Int))=true:=decide_eq_true c12;clear c12;by_cases c13:0≤x7_2
       ·rw[if_pos c13] at H;have c13b0:decide (0≤x7_2)=true:=decide_eq_true c13;clear c13;by_cases c14:(Go.bits .and .i64 x6_1 (rd l1 x7_2))=x6_1
        ·rw[if_pos c14] at H;have c14b0:((Go.bits .and .i64 x6_1 (rd l1 x7_2)) == x6_1)=true:=beq_iff_eq.mpr c14;have c14b1:((Go.bits .and .i64 x6_1 (rd l1 x7_2)) != x6_1)=false:=bne_eq_false_iff_eq.mpr c14;clear c14;by_cases c15:x230001_2.length<17592186044416
         ·rw[if_pos c15] at H;have LMc15:=Aside0.mk c15;clear c15;obtain ⟨y232,hy232⟩:∃ y_:List Int,y_=(x230001_2 ++ [x6_1]):=⟨_,rfl⟩
          replace H:(spec_l01Made.l0 k2 a0 l1 (wrap64 (x6_1+1)) a0 y232)=some (r1,r2):=by first|(rw[hy232];with_reducible exact H)|(have H2_:=(Option.bind_some _ _).symm.trans H;rw[hy232];with_reducible exact H2_)|(have H2_:=(Option.bind_some _ _).symm.trans H;with_reducible exact H2_)|with_reducible exact H|(rw[hy232];exact H)|exact H
          have Ny232:=Aside0.mk hy232;clear hy232;have H':=Aside0.mk H;clear H;have p231:0≤(x7_2:Int):=dd;have q231:x7_2<(l1.length:Int):=dd;obtain ⟨ad231,e231,hx231_0⟩:=Kd.at_int HR1.out x7_2 p231 q231;cases e231;replace hx231_0:=hx_ HB hx231_0;replace p231:=eq_true p231;replace q231:=eq_true q231;have hnb16:=NB229_225.out;have hnc16:=NB225_229.out;have hcz17_0:=z0_ BK229;have hcz17_1:=z1_ BK229;have hfz17_0:=hf_ BK229 0;have hfz17_1:=hf_ BK229 1;go_wp2_with (first|((with_reducible refine gate_builtin (b:= .append) (xs:=#[.tmp 32,.tmp 34]) rfl ?_);at_builtin;refine Kd.R_append (Kd.int .i64) (w0:=w) w.heap.size rfl (.tmp 32) (.tmp 34) 24 2 (.int .i64 0) 8 rfl Tryz.underlying24 info2 rfl (by decide) (by omega) u230001 x230001_2 x6_1 [.int .i64 x6_1] (fun _=>True) (fun _=>False) rfl rfl ?aP (fun _ hk=>hk.elim) ?aF ?aO ?aB ?aS ?aL ?_;(case aP=>exact rfl);(case aB=>exact(bl HB.out));(case aF=>exact(fun _ _=>trivial));(case aO=>exact(kr HO_230001.out));(case aS=>exact(below_size (bl HB.out)));(case aL=>have:=LMc15.out;omega);intro v233 w18 ho hb hg hat;rw[← Ny232.out] at ho;have n0_:=Aside0.mk (blk_grown (bk BK225.out) hg (Kd.R_ne HO_230001.out BK225.out (by decide)));have n1_:=Aside0.mk (blk_grown (bk BK229.out) hg (Kd.R_ne HO_230001.out BK229.out (by decide)));have n2_:=Aside0.mk (hb);have n3_:=Aside0.mk (ho);clear BK225;clear BK229;clear HB;clear HO_230001;have BK225:=n0_;have BK229:=n1_;have HB:=n2_;have HO234:=n3_;clear n0_ n1_ n2_ n3_;clear ho hb hg hat;obtain ⟨Ao19,co19,eo19⟩:=Kd.R_slice HO234.out;subst eo19;have hcz20_0:=z0_ BK229;have hcz20_1:=z1_ BK229;have hfz20_0:=hf_ BK229 0;have hfz20_1:=hf_ BK229 1))
          go_roundg k2
          case measure=>have:=HK1.out;have:=HK2.out;omega
          case rel=>exact⟨(wrap64 (x6_1+1)),(y232),(.slice Ao19 y232.length co19),rs,H',⟨by have:=HK1.out;have:=HK2.out;omega⟩,⟨by(with_reducible repeat(first|apply Kd.R_alloc|apply Kd.R_drewN|apply Kd.R_drew));exact Kd.R_mono (Kd.R_far (p:=⟨gb229,1,none⟩) (Kd.R_types HO234.out BK229.out (by decide)) (fun _ hk=>hk.2) (.slice Ao19 y232.length co19)) (fun _ hk=>trivial)⟩,⟨bp BK225.out⟩,⟨bp BK229.out⟩,⟨bl HB.out⟩⟩
         ·rw[if_neg c15] at H;exact absurd H (by simp)
        ·rw[if_neg c14] at H;have c14b0:((Go.bits .and .i64 x6_1 (rd l1 x7_2)) == x6_1)=false:=beq_eq_false_iff_ne.mpr c14;have c14b1:((Go.bits .and .i64 x6_1 (rd l1 x7_2)) != x6_1)=true:=bne_iff_ne.mpr c14;have H':=Aside0.mk H;clear H;have p231:0≤(x7_2:Int):=dd;have q231:x7_2<(l1.length:Int):=dd;obtain ⟨ad231,e231,hx231_0⟩:=Kd.at_int HR1.out x7_2 p231 q231;cases e231;replace hx231_0:=hx_ HB hx231_0;replace p231:=eq_true p231;replace q231:=eq_true q231;go_wp2
         go_roundg k2
         case measure=>have:=HK1.out;have:=HK2.out;omega
         case rel=>exact⟨(wrap64 (x7_2+1)),(x230001_2),(u230001),rs,H',⟨by have:=HK1.out;have:=HK2.out;omega⟩,⟨kr HO_230001.out⟩,⟨bk BK225.out⟩,⟨bk BK229.out⟩,⟨bl HB.out⟩⟩
       ·rw[if_neg c13] at H;exact absurd H (by simp)
      ·rw[if_neg c12] at H;have c12b0:decide (x7_2<(l1.length:Int))=false:=decide_eq_false c12;clear c12;have H':=Aside0.mk H;clear H;go_wp2
       go_roundg k2
       case measure=>have:=HK1.out;have:=HK2.out;omega
       case rel=>exact⟨(wrap64 (x6_1+1)),(x230001_2),(u230001),rs,H',⟨by have:=HK1.out;have:=HK2.out;omega⟩,⟨kr HO_230001.out⟩,⟨bk BK225.out⟩,⟨bk BK229.out⟩,⟨bl HB.out⟩⟩
   ·rw[if_neg c11] at H;have c11b0:decide (x6_1≤t230)=false:=decide_eq_false c11;clear c11;simp only [Option.some.injEq,Prod.mk.injEq] at H;obtain ⟨rfl,rfl⟩:=H;go_wp2_with (first|((with_reducible refine gate_callee (f:=91) rfl ?_);refine gl (some 13) Tryz.func91 #[.int .i64 a0] ?_;(with_reducible refine(spec_l01All.calls a0 t230 _ A10.out).mono ?_);rintro e w' ⟨rfl,⟨nd,rfl⟩⟩;refine⟨_,rfl,?_⟩;(try(rw[drewN_self wr];generalize hq_:World.drewN wr _=wr;have n0_:Aside0 (Kd.R (Kd.int .i64) 2 wr w.heap.size (fun _=>True) u230001 x230001_1):=⟨by rw[← hq_];exact(kr HO_230001.out)⟩;have n1_:Aside0 (wr.heap[gb225]?=some (.cells #[.int .i64 0,.slice none 0 0] 26 (0,0))):=⟨by rw[← hq_];exact(bk BK225.out)⟩;have n2_:Aside0 (wr.heap[gb229]?=some (.cells #[.int .i64 a0,u230001] 26 (0,0))):=⟨by rw[← hq_];exact(bk BK229.out)⟩;have n3_:Aside0 (Below w.heap.size w wr):=⟨by rw[← hq_];exact(bl HB.out)⟩;clear HO_230001 BK225 BK229 HB hq_;have HO_230001:=n0_;have BK225:=n1_;have BK229:=n2_;have HB:=n3_;clear n0_ n1_ n2_ n3_));have hnb21:=NB229_225.out;have hnc21:=NB225_229.out;have hcz22_0:=z0_ BK229;have hcz22_1:=z1_ BK229;have hfz22_0:=hf_ BK229 0;have hfz22_1:=hf_ BK229 1;have hcz23_0:=z0_ BK225;have hcz23_1:=z1_ BK225;have hfz23_0:=hf_ BK225 0;have hfz23_1:=hf_ BK225 1;obtain ⟨Ao24,co24,eo24⟩:=Kd.R_slice HO_230001.out;subst eo24))
    refine bodyPost_ret (results_cell_row rfl _ _ gb225 26 #[.int .i64 a0,.slice Ao24 x230001_1.length co24] (0,0) _ rfl (bp BK225.out) Tryz.underlying26 rfl (by kernel_rfl)) rfl ?_;exact⟨_,rr,by(with_reducible repeat(first|apply Kd.R_alloc|apply Kd.R_drewN|apply Kd.R_drew));exact Kd.R_mono (Kd.R_far (p:=⟨gb225,1,none⟩) (Kd.R_far (p:=⟨gb225,0,none⟩) (Kd.R_types HO_230001.out BK225.out (by decide)) (fun _ hk=>hk.2) (.int .i64 a0)) (fun _ hk=>hk.2) (.slice Ao24 x230001_1.length co24)) (fun _ hk=>trivial),bl HB.out⟩
def spec_l01Moved.l0:Nat→Int→List Int→Int→Int→Option (Int)
 |0,_,_,_,_=>none
 |k+1,x0,x1,x5,x6=>if x6<(x1.length:Int) then (if 0≤(IntKind.u64.wrap (x6)) then (if (Go.bits .and .i64 (shr .i64 x0 (IntKind.u64.wrap (x6))) 1)=1 then (if 0≤x6 then (if 0≤(IntKind.u64.wrap (rd x1 x6)) then (spec_l01Moved.l0 k x0 x1 (Go.bits .or .i64 x5 (shl .i64 1 (IntKind.u64.wrap (rd x1 x6)))) (wrap64 (x6+1))) else (none)) else (none)) else (spec_l01Moved.l0 k x0 x1 x5 (wrap64 (x6+1)))) else (none)) else (some x5)
def spec_l01Moved.f (k:Nat) (a0:Int) (l1:List Int):Option (Int):=spec_l01Moved.l0 k a0 l1 0 0
theorem spec_l01Moved.mono_l:∀ k,(∀ y0 y1 y2 y3,LeO (spec_l01Moved.l0 k y0 y1 y2 y3) (spec_l01Moved.l0 (k+1) y0 y1 y2 y3))
 |0=>fun _ _ _ _ r h=>by simp [spec_l01Moved.l0] at h
 |k+1=>by
  have ih0:=spec_l01Moved.mono_l k
  ·intro y0 y1 y2 y3;unfold spec_l01Moved.l0;repeat' first
   |(with_reducible first|exact ih0 _ _ _ _|exact LeO.refl _|exact LeO.none _|refine LeO.ite ?_ ?_|refine LeO.bind ?_ (fun _=>?_))
theorem spec_l01Moved.mono:∀ a0 a1 k,LeO (spec_l01Moved.f k a0 a1) (spec_l01Moved.f (k+1) a0 a1):=by
 intro a0 a1 k;have ih0:=spec_l01Moved.mono_l k;unfold spec_l01Moved.f;repeat' first
   |(with_reducible first|exact ih0 _ _ _ _|exact LeO.refl _|exact LeO.none _|refine LeO.ite ?_ ?_|refine LeO.bind ?_ (fun _=>?_))
set_option maxHeartbeats 8000000 in
set_option maxRecDepth 100000 in
theorem spec_l01Moved.calls (k:Nat) (a0:Int) (A1:Option Addr) (c1:Nat) (l1:List Int) (r:Int) (w:World) (hr1:Kd.C (Kd.int .i64) w A1 l1.length l1) (hc1:l1.length≤c1) (h:spec_l01Moved.f k a0 l1=some r) :
  Calls Tryz.prog 134 #[.int .i64 a0,.slice A1 l1.length c1] w fun e w'=>e = .returned (.int .i64 r)∧Drawn0 w w':=by
 have HR1:=Aside0.mk hr1;have HC1:=Aside0.mk hc1;clear hr1 hc1;have H:(spec_l01Moved.l0 k a0 l1 0 0)=some r:=h;clear h;have H':=Aside0.mk H;clear H;go_enter Tryz.func134,Tryz.ntmps134;go_wp2
 go_loopg [5,6] k (fun kq v5 v6 w'=>∃(x5_1:Int) (x6_1:Int),v5 = .int .i64 x5_1∧v6 = .int .i64 x6_1∧Aside0 (spec_l01Moved.l0 kq a0 l1 x5_1 x6_1=some r)∧Aside0 (kq≤k)∧Drawn0 w w')
 case atStart=>exact⟨(0),(0),rs,rs,H',⟨Nat.le_refl _⟩,by repeat(first|exact Drawn0.refl _|apply Drawn0.step)⟩
 case round=>
  clear H';try clear c1
  try clear p2
  obtain ⟨x5_1,x6_1,rfl,rfl,HA,HK1,⟨m1,rfl⟩⟩:=hrel;cases gk with
  |zero=>exact absurd HA.out (by simp [spec_l01Moved.l0])
  |succ k1=>
   have H:=HA.out;clear HA;simp only [spec_l01Moved.l0] at H;by_cases c3:x6_1<(l1.length:Int)
   ·rw[if_pos c3] at H;have c3b0:decide (x6_1<(l1.length:Int))=true:=decide_eq_true c3;clear c3;obtain ⟨ji4,hji4⟩:∃ j_:Int,(IntKind.u64.wrap (x6_1))=j_:=⟨_,rfl⟩
    replace H:(if 0≤(ji4) then (if (Go.bits .and .i64 (shr .i64 a0 (ji4)) 1)=1 then (if 0≤x6_1 then (if 0≤(IntKind.u64.wrap (rd l1 x6_1)) then (spec_l01Moved.l0 k1 a0 l1 (Go.bits .or .i64 x5_1 (shl .i64 1 (IntKind.u64.wrap (rd l1 x6_1)))) (wrap64 (x6_1+1))) else (none)) else (none)) else (spec_l01Moved.l0 k1 a0 l1 x5_1 (wrap64 (x6_1+1)))) else (none))=some r:=by first|(rw[hji4] at H;exact H)|(simp only [hji4] at H ⊢;exact H)
    by_cases c5:0≤(ji4)
    ·rw[if_pos c5] at H;have c5b0:=eq_true c5;have c5b1:decide (0≤(ji4))=true:=decide_eq_true c5;clear c5;obtain ⟨ji6,hji6⟩:∃ j_:Int,(shr .i64 a0 (ji4))=j_:=⟨_,rfl⟩
     replace H:(if (Go.bits .and .i64 (ji6) 1)=1 then (if 0≤x6_1 then (if 0≤(IntKind.u64.wrap (rd l1 x6_1)) then (spec_l01Moved.l0 k1 a0 l1 (Go.bits .or .i64 x5_1 (shl .i64 1 (IntKind.u64.wrap (rd l1 x6_1)))) (wrap64 (x6_1+1))) else (none)) else (none)) else (spec_l01Moved.l0 k1 a0 l1 x5_1 (wrap64 (x6_1+1))))=some r:=by first|(rw[hji6] at H;exact H)|(simp only [hji6] at H ⊢;exact H)
     have hji6_:(a0 / 2 ^ min (ji4).toNat 64)=ji6:=hji6;have hji6z:(ji4)≤64→(a0 / 2 ^ (ji4).toNat)=ji6:=shr_small hji6;by_cases c7:(Go.bits .and .i64 (ji6) 1)=1
     ·rw[if_pos c7] at H;have c7b0:((Go.bits .and .i64 (ji6) 1) == 1)=true:=beq_iff_eq.mpr c7;have c7b1:((Go.bits .and .i64 (ji6) 1) != 1)=false:=bne_eq_false_iff_eq.mpr c7;clear c7;by_cases c8:0≤x6_1
      ·rw[if_pos c8] at H;have c8b0:decide (0≤x6_1)=true:=decide_eq_true c8;clear c8;obtain ⟨ji9,hji9⟩:∃ j_:Int,(IntKind.u64.wrap (rd l1 x6_1))=j_:=⟨_,rfl⟩
       replace H:(if 0≤(ji9) then (spec_l01Moved.l0 k1 a0 l1 (Go.bits .or .i64 x5_1 (shl .i64 1 (ji9))) (wrap64 (x6_1+1))) else (none))=some r:=by first|(rw[hji9] at H;exact H)|(simp only [hji9] at H ⊢;exact H)
       by_cases c10:0≤(ji9)
       ·rw[if_pos c10] at H;have c10b0:=eq_true c10;have c10b1:decide (0≤(ji9))=true:=decide_eq_true c10;clear c10;obtain ⟨ji11,hji11⟩:∃ j_:Int,(shl .i64 1 (ji9))=j_:=⟨_,rfl⟩
        replace H:(spec_l01Moved.l0 k1 a0 l1 (Go.bits .or .i64 x5_1 (ji11)) (wrap64 (x6_1+1)))=some r:=by first|(rw[hji11] at H;exact H)|(simp only [hji11] at H ⊢;exact H)
        have hji11_:(IntKind.i64.wrap (1*2 ^ min (ji9).toNat 64))=ji11:=hji11;have hji11z:(ji9)≤64→(IntKind.i64.wrap (1*2 ^ (ji9).toNat))=ji11:=shl_small hji11;have hji11u:(IntKind.i64.wrap (2 ^ min (ji9).toNat 64))=ji11:=by have h_:=hji11_;rw[Int.one_mul] at h_;exact h_
        have hji11v:(ji9)≤64→(IntKind.i64.wrap (2 ^ (ji9).toNat))=ji11:=fun hle_=>by have h_:=hji11z hle_;rw[Int.one_mul] at h_;exact h_
        have hji11y:(wrap64 (1*2 ^ min (ji9).toNat 64))=ji11:=(i64_w _).symm.trans hji11_;have hji11x:(ji9)≤64→(wrap64 (1*2 ^ (ji9).toNat))=ji11:=fun h_=>(i64_w _).symm.trans (hji11z h_)
        have H':=Aside0.mk H;clear H;have p235:0≤(x6_1:Int):=dd;have q235:x6_1<(l1.length:Int):=dd;obtain ⟨ad235,e235,hx235_0⟩:=Kd.at_int HR1.out x6_1 p235 q235;cases e235;replace p235:=eq_true p235;replace q235:=eq_true q235;go_wp2
        go_roundg k1
        case measure=>have:=HK1.out;omega
        case rel=>exact⟨(Go.bits .or .i64 x5_1 (ji11)),(wrap64 (x6_1+1)),(by first|rfl|(simp;done)|(simp only [← hji11] <;> (first|rfl|simp))|(simp [*];done)),rs,H',⟨by have:=HK1.out;omega⟩,by repeat(first|exact Drawn0.refl _|apply Drawn0.step)⟩
       ·rw[if_neg c10] at H;exact absurd H (by simp)
      ·rw[if_neg c8] at H;exact absurd H (by simp)
     ·rw[if_neg c7] at H;have c7b0:((Go.bits .and .i64 (ji6) 1) == 1)=false:=beq_eq_false_iff_ne.mpr c7;have c7b1:((Go.bits .and .i64 (ji6) 1) != 1)=true:=bne_iff_ne.mpr c7;have H':=Aside0.mk H;clear H;go_wp2
      go_roundg k1
      case measure=>have:=HK1.out;omega
      case rel=>exact⟨(x5_1),(wrap64 (x6_1+1)),rs,rs,H',⟨by have:=HK1.out;omega⟩,by repeat(first|exact Drawn0.refl _|apply Drawn0.step)⟩
    ·rw[if_neg c5] at H;exact absurd H (by simp)
   ·rw[if_neg c3] at H;have c3b0:decide (x6_1<(l1.length:Int))=false:=decide_eq_false c3;clear c3;obtain rfl:=Option.some.inj H;go_wp2
    go_ret;exact⟨rs,by repeat(first|exact Drawn0.refl _|apply Drawn0.step)⟩
end Go.Proofs.YtlhkdbkjafiikaaGreat.Q
end

section
namespace Go.Proofs.YtlhkdbkjafiikaaGreat.K
open Go.RowKit Go.Shelf Go.Proofs.YtlhkdbkjafiikaaGreat.Q Go.Proofs.YtlhkdbkjafiikaaGreatW.PrintWords Go.Proofs.YtlhkdbkjafiikaaGreatW.PrintLast Go.Proofs.YtlhkdbkjafiikaaGreatW.PrintMore
set_option linter.unusedVariables false
set_option linter.unusedSimpArgs false
theorem specMade_l1 (n:Int) (sets:List Int) (hl:sets.length≤2097152) (x:Int) (acc:List Int) (ha:acc.length≤1000000) (R:Nat) (b:Bool) (r:Int×List Int)
  (h:∀ k,R≤k→spec_l01Made.l0 k n sets (wrap64 (x+1)) n (if b then acc ++ [x] else acc)=some r) :
  ∀(d i k:Nat),sets.length - i=d→i≤sets.length→R+d<k→(sets.drop i).any (fun s=>decide (Go.bits .and .i64 x s=x))=b →
  spec_l01Made.l1 k n sets x (i:Int) n acc=some r:=by
 intro d
 induction d with
 |zero=>
  intro i k hd hi hk hb
  obtain ⟨k,rfl⟩:∃ m,k=m+1:=⟨k - 1,by omega⟩
  obtain rfl:i=sets.length:=by omega
  simp at hb
  subst hb
  simp only [spec_l01Made.l1]
  rw[if_neg (by omega)]
  exact h k (by omega)
 |succ d ih=>
  intro i k hd hi hk hb
  obtain ⟨k,rfl⟩:∃ m,k=m+1:=⟨k - 1,by omega⟩
  simp only [spec_l01Made.l1]
  have hil:i<sets.length:=by omega
  rw[List.drop_eq_getElem_cons hil,List.any_cons] at hb
  rw[if_pos (by omega),if_pos (by omega),rd_nat sets i hil,w64 ((i:Int)+1) (by omega) (by omega),nat_succ]
  by_cases hx:Go.bits .and .i64 x sets[i]=x
  ·have e:b=true:=by rw[← hb];simp [hx]
   rw[e] at h
   rw[if_pos hx,if_pos (by omega)]
   exact h k (by omega)
  ·rw[if_neg hx]
   exact ih (i+1) k (by omega) (by omega) (by omega) (by rw[← hb];simp [hx])
theorem specMade_l0 (n:Int) (hn:1≤n∧n≤6) (sets:List Int) (h64:sets.length≤64) (p:Int→Bool) (hp:∀ x,1≤x→x≤fullOf n→p x=sets.any (fun s=>decide (Go.bits .and .i64 x s=x))) :
  ∀(d m k:Nat),2 ^ n.toNat - 1 - m=d→m≤2 ^ n.toNat - 1→70*d+1<k →
  spec_l01Made.l0 k n sets ((m:Int)+1) n ((upTo m).filter p)=some (n,thoseL n p):=by
 have hF:=full_range n hn
 have hFN:=full_nat n
 obtain ⟨N,hN⟩:∃ N,N=2 ^ n.toNat - 1:=⟨_,rfl⟩
 have hTh:thoseL n p=(upTo N).filter p:=by rw[hN];rfl
 rw[← hN] at hFN
 rw[← hN,hTh]
 clear hN hTh
 intro d
 induction d with
 |zero=>
  intro m k hd hm hk
  obtain ⟨k,rfl⟩:∃ m,k=m+1:=⟨k - 1,by omega⟩
  simp only [spec_l01Made.l0]
  rw[specAll_is n (by omega) (by omega)]
  simp only [Option.bind_some]
  rw[if_neg (by omega)]
  obtain rfl:m=N:=by omega
  rfl
 |succ d ih=>
  intro m k hd hm hk
  obtain ⟨k,rfl⟩:∃ m,k=m+1:=⟨k - 1,by omega⟩
  simp only [spec_l01Made.l0]
  rw[specAll_is n (by omega) (by omega)]
  simp only [Option.bind_some]
  rw[if_pos (by omega)]
  have hlen:=upTo_filter_length p m
  have hw:wrap64 ((m:Int)+1+1)=((m+1:Nat):Int)+1:=by rw[w64 _ (by omega) (by omega)];omega
  have hq:=hp ((m:Int)+1) (by omega) (by omega)
  have e:(if p ((m:Int)+1)=true then (upTo m).filter p ++ [(m:Int)+1] else (upTo m).filter p)=(upTo (m+1)).filter p:=by
   rw[upTo_succ,List.filter_append]
   cases hc:p ((m:Int)+1) <;> simp [hc]
  exact specMade_l1 n sets (by omega) ((m:Int)+1) ((upTo m).filter p) (by omega) (70*d+2) (p ((m:Int)+1)) _ (fun k hk=>by rw[hw,e];exact ih (m+1) k (by omega) (by omega) (by omega))
   sets.length 0 k (by omega) (by omega) (by omega) hq.symm
end Go.Proofs.YtlhkdbkjafiikaaGreat.K
end

section
namespace Go.Proofs.YtlhkdbkjafiikaaGreat.K
open Go.RowKit Go.Shelf Go.Proofs.YtlhkdbkjafiikaaGreatW.PrintWords Go.Proofs.YtlhkdbkjafiikaaGreatW.PrintLast Go.Proofs.YtlhkdbkjafiikaaGreatW.PrintMore
set_option linter.unusedVariables false
set_option linter.unusedSimpArgs false
theorem asc_get (l:List Int) (hs:l.Pairwise (· < ·)) (h1:∀ x ∈ l,1≤x):∀ i (h:i<l.length),(i:Int)+1≤l[i]:=by
 intro i
 induction i with
 |zero=>intro h;have:=h1 _ (List.getElem_mem h);omega
 |succ i ih=>
  intro h
  have h2:=ih (by omega)
  have h3:=List.pairwise_iff_getElem.1 hs i (i+1) (by omega) h (by omega)
  omega
theorem asc_length (l:List Int) (N:Nat) (hs:l.Pairwise (· < ·)) (h1:∀ x ∈ l,1≤x∧x≤(N:Int)):l.length≤N:=by
 rcases Nat.eq_zero_or_pos l.length with h|h
 ·omega
 ·have h2:=asc_get l hs (fun x hx=>(h1 x hx).1) (l.length - 1) (by omega)
  have h3:=h1 _ (List.getElem_mem (show l.length - 1<l.length by omega))
  omega
theorem isC_faces {n:Int} {l:List Int} (h:isC n l=true):(1≤n∧n≤6)∧l.Pairwise (· < ·)∧(∀ x ∈ l,1≤x∧x≤fullOf n∧x≤63)∧l.length≤63:=by
 have hn:=isC_size h
 have hF:=full_range n hn
 unfold isC at h
 simp only [Bool.and_eq_true,decide_eq_true_eq,rangeAsc] at h
 obtain ⟨_,hg,_⟩:=h
 have hr:∀ x ∈ l,1≤x∧x≤fullOf n∧x≤63:=by
  intro x hx
  obtain ⟨i,hi,rfl⟩:=List.mem_iff_getElem.1 hx
  have:=hg i hi hi
  omega
 have hs:l.Pairwise (· < ·):=by
  rw[List.pairwise_iff_getElem]
  intro i j hi hj hij
  induction j with
  |zero=>omega
  |succ j ih=>
   have h1:=(hg (j+1) hj hj).2.2 (by omega)
   simp only [Nat.add_sub_cancel] at h1
   rcases Nat.lt_or_ge i j with h2|h2
   ·have:=ih (by omega) h2
    omega
   ·obtain rfl:i=j:=by omega
    exact h1
 exact⟨hn,hs,hr,asc_length l 63 hs (fun x hx=>⟨(hr x hx).1,(hr x hx).2.2⟩)⟩
theorem asc_ext:∀(a b:List Int),a.Pairwise (· < ·)→b.Pairwise (· < ·)→(∀ x,x ∈ a↔x ∈ b)→a=b
 |[],[],_,_,_=>rfl
 |[],y :: b,_,_,h=>absurd ((h y).2 List.mem_cons_self) (by simp)
 |x :: a,[],_,_,h=>absurd ((h x).1 List.mem_cons_self) (by simp)
 |x :: a,y :: b,ha,hb,h=>by
  rw[List.pairwise_cons] at ha hb
  have hxy:x=y:=by
   have h1:=(h x).1 List.mem_cons_self
   have h2:=(h y).2 List.mem_cons_self
   rw[List.mem_cons] at h1 h2
   rcases h1 with h1|h1
   ·exact h1
   ·rcases h2 with h2|h2
    ·exact h2.symm
    ·have:=hb.1 x h1
     have:=ha.1 y h2
     omega
  subst hxy
  congr 1
  refine asc_ext a b ha.2 hb.2 fun z=>?_
  have hz:=h z
  rw[List.mem_cons,List.mem_cons] at hz
  constructor
  ·intro h1
   rcases hz.1 (.inr h1) with h2|h2
   ·have:=ha.1 z h1
    omega
   ·exact h2
  ·intro h1
   rcases hz.2 (.inr h1) with h2|h2
   ·have:=hb.1 z h1
    omega
   ·exact h2
theorem upTo_asc (m:Nat):(upTo m).Pairwise (· < ·):=by
 unfold upTo
 rw[List.pairwise_map]
 refine List.Pairwise.imp ?_ List.pairwise_lt_range
 intro a b h
 omega
theorem mem_upTo (m:Nat) (x:Int):x ∈ upTo m↔1≤x∧x≤m:=by
 unfold upTo
 rw[List.mem_map]
 constructor
 ·rintro ⟨i,hi,rfl⟩
  rw[List.mem_range] at hi
  omega
 ·rintro ⟨h1,h2⟩
  exact⟨(x - 1).toNat,by rw[List.mem_range];omega,by omega⟩
theorem those_asc (n:Int) (p:Int→Bool):(thoseL n p).Pairwise (· < ·):=(upTo_asc _).filter _
theorem mem_those (n:Int) (p:Int→Bool) (x:Int):x ∈ thoseL n p↔(1≤x∧x≤fullOf n)∧p x=true:=by
 unfold thoseL
 rw[List.mem_filter,mem_upTo,full_nat]
theorem those_filter {n:Int} {l:List Int} (h:isC n l=true) (p:Int→Bool):thoseL n (fun x=>hasB l x && p x)=l.filter p:=by
 obtain ⟨hn,hs,hr,hl⟩:=isC_faces h
 refine asc_ext _ _ (those_asc _ _) (hs.filter _) fun x=>?_
 rw[mem_those,List.mem_filter,has_asc l x (by omega) hs]
 simp only [Bool.and_eq_true,decide_eq_true_eq]
 constructor
 ·rintro ⟨_,h1,h2⟩
  exact⟨h1,h2⟩
 ·rintro ⟨h1,h2⟩
  have:=hr x h1
  exact⟨⟨this.1,this.2.1⟩,h1,h2⟩
end Go.Proofs.YtlhkdbkjafiikaaGreat.K
end

section
namespace Go.Proofs.YtlhkdbkjafiikaaGreat.Q
open Go.RowKit Go.Proofs.YtlhkdbkjafiikaaGreatW.PrintWords Go.Proofs.YtlhkdbkjafiikaaGreatW.PrintLast Go.Proofs.YtlhkdbkjafiikaaGreatW.PrintMore
attribute [local go_sem] max2_int min2_int max_two min_two max_three min_three max_four min_four
set_option linter.unusedVariables false
set_option linter.unusedSimpArgs false
mutual
def spec_l01Is.l0:Nat→Int→Int→List Int→Option (Bool)
 |0,_,_,_=>none
 |k+1,x3,x110000,x110001=>if x3<(x110001.length:Int) then (if 0≤x3 then ((spec_l01All.f x110000).bind fun t112=>((spec_l01In.f (rd x110001 x3) 1 t112).bind fun t113=>(if t113=true then (if x3>0 then (if 0≤(wrap64 (x3 - 1)) then (if (wrap64 (x3 - 1))<(x110001.length:Int) then (if (rd x110001 x3)≤(rd x110001 (wrap64 (x3 - 1))) then (some false) else (spec_l01Is.l0 k (wrap64 (x3+1)) x110000 x110001)) else (none)) else (none)) else (spec_l01Is.l0 k (wrap64 (x3+1)) x110000 x110001)) else (some false)))) else (none)) else (spec_l01Is.l1 k 0 x110000 x110001)
def spec_l01Is.l1:Nat→Int→Int→List Int→Option (Bool)
 |0,_,_,_=>none
 |k+1,x4,x110000,x110001=>if x4<(x110001.length:Int) then (if 0≤x4 then ((spec_l01Below.f k (rd x110001 x4)).bind fun t117=>(spec_l01Is.l2 k x4 t117 0 x110000 x110001)) else (none)) else (some true)
def spec_l01Is.l2:Nat→Int→List Int→Int→Int→List Int→Option (Bool)
 |0,_,_,_,_,_=>none
 |k+1,x4,x5,x6,x110000,x110001=>if x6<(x5.length:Int) then (if 0≤x6 then ((spec_l01Has.f k x110000 x110001 (rd x5 x6)).bind fun t121=>(if t121=true then (spec_l01Is.l2 k x4 x5 (wrap64 (x6+1)) x110000 x110001) else (some false))) else (none)) else (spec_l01Is.l1 k (wrap64 (x4+1)) x110000 x110001)
end
def spec_l01Is.f (k:Nat) (a0_0:Int) (l0_1:List Int):Option (Bool):=(spec_l01In.f a0_0 1 6).bind fun t110=>(if t110=true then (spec_l01Is.l0 k 0 a0_0 l0_1) else (some false))
theorem spec_l01Is.mono_l:∀ k,(∀ y0 y1 y2,LeO (spec_l01Is.l0 k y0 y1 y2) (spec_l01Is.l0 (k+1) y0 y1 y2))∧(∀ y0 y1 y2,LeO (spec_l01Is.l1 k y0 y1 y2) (spec_l01Is.l1 (k+1) y0 y1 y2))∧(∀ y0 y1 y2 y3 y4,LeO (spec_l01Is.l2 k y0 y1 y2 y3 y4) (spec_l01Is.l2 (k+1) y0 y1 y2 y3 y4))
 |0=>⟨fun _ _ _ r h=>by simp [spec_l01Is.l0] at h,fun _ _ _ r h=>by simp [spec_l01Is.l1] at h,fun _ _ _ _ _ r h=>by simp [spec_l01Is.l2] at h⟩
 |k+1=>by
  obtain ⟨ih0,ih1,ih2⟩:=spec_l01Is.mono_l k;refine⟨?_,?_,?_⟩
  ·intro y0 y1 y2;unfold spec_l01Is.l0;repeat' first
   |(with_reducible first|exact ih0 _ _ _|exact ih1 _ _ _|exact ih2 _ _ _ _ _|exact spec_l01Below.mono _ _|exact spec_l01Has.mono _ _ _ _|exact LeO.refl _|exact LeO.none _|refine LeO.ite ?_ ?_|refine LeO.bind ?_ (fun _=>?_))
  ·intro y0 y1 y2;unfold spec_l01Is.l1;repeat' first
   |(with_reducible first|exact ih0 _ _ _|exact ih1 _ _ _|exact ih2 _ _ _ _ _|exact spec_l01Below.mono _ _|exact spec_l01Has.mono _ _ _ _|exact LeO.refl _|exact LeO.none _|refine LeO.ite ?_ ?_|refine LeO.bind ?_ (fun _=>?_))
  ·intro y0 y1 y2 y3 y4;unfold spec_l01Is.l2;repeat' first
   |(with_reducible first|exact ih0 _ _ _|exact ih1 _ _ _|exact ih2 _ _ _ _ _|exact spec_l01Below.mono _ _|exact spec_l01Has.mono _ _ _ _|exact LeO.refl _|exact LeO.none _|refine LeO.ite ?_ ?_|refine LeO.bind ?_ (fun _=>?_))
theorem spec_l01Is.mono:∀ a0 a1 k,LeO (spec_l01Is.f k a0 a1) (spec_l01Is.f (k+1) a0 a1):=by
 intro a0 a1 k;obtain ⟨ih0,ih1,ih2⟩:=spec_l01Is.mono_l k;unfold spec_l01Is.f;repeat' first
   |(with_reducible first|exact ih0 _ _ _|exact ih1 _ _ _|exact ih2 _ _ _ _ _|exact spec_l01Below.mono _ _|exact spec_l01Has.mono _ _ _ _|exact LeO.refl _|exact LeO.none _|refine LeO.ite ?_ ?_|refine LeO.bind ?_ (fun _=>?_))
def spec_l01Is.T6:Bool×List (List Nat×List Nat):=(true,[([],[]),([0],[0]),([],[]),([1,2],[1,2]),([3],[3]),([],[]),([5],[5]),([6],[6]),([4,7,7],[4,7]),([8],[8]),([9,8],[9]),([10],[10]),([11,10],[10,11]),([12,10,10],[10,12]),([13],[13]),([14,13],[13,14]),([13],[13]),([15,16,13],[13,15,16]),([17,13],[13,17]),([13],[13]),([19,13],[13,19]),([13],[13]),([21,13],[13,21]),([20,22,13],[13,20,22]),([23,13],[13,23]),([18,24,13],[13,18,24]),([13,25,10],[10,13,25]),([10,26],[10,26])])
def spec_l01Is.B6:List Nat:= [0,1,0,7,15,0,32,96,255,511,1023,2047,4095,8191,16383,32767,16383,131071,262143,16383,540671,16383,2113535,7880703,16269311,33554431,67108863,134217727]
theorem spec_l01Is.tab6:rtab .any (opsOf Tryz.f71 6)=spec_l01Is.T6:=by kernel_rfl
theorem spec_l01Is.bits6:waitsOk spec_l01Is.T6.2 spec_l01Is.B6=true:=by kernel_rfl
set_option maxHeartbeats 8000000 in
set_option maxRecDepth 100000 in
theorem spec_l01Is.calls (k:Nat) (a0_0:Int) (A0_1:Option Addr) (c0_1:Nat) (l0_1:List Int) (r:Bool) (w:World) (hr0_1:Kd.C (Kd.int .i64) w A0_1 l0_1.length l0_1) (hc0_1:l0_1.length≤c0_1) (h:spec_l01Is.f k a0_0 l0_1=some r) :
  Calls Tryz.prog 71 #[.agg #[.int .i64 a0_0,.slice A0_1 l0_1.length c0_1]] w fun e w'=>e = .returned (.bool r)∧Below w.heap.size w w':=by
 have hu26:=Tryz.underlying26;have HR0_1:=Aside0.mk hr0_1;have HC0_1:=Aside0.mk hc0_1;clear hr0_1 hc0_1;have HB:=Aside0.mk (Below.refl w.heap.size w);have H:((spec_l01In.f a0_0 1 6).bind fun t110=>(if t110=true then (spec_l01Is.l0 k 0 a0_0 l0_1) else (some false)))=some r:=h;clear h;replace H:=Option.bind_eq_some_iff.mp H;obtain ⟨t110,A20,H⟩:=H;replace H:(if t110=true then (spec_l01Is.l0 k 0 a0_0 l0_1) else (some false))=some r:=H;have A2:=Aside0.mk A20;clear A20;by_cases c3:t110=true
 ·subst c3;have H1:(spec_l01Is.l0 k 0 a0_0 l0_1)=some r:=by rw[if_pos rfl] at H;exact H
  clear H;have H:=H1;clear H1;have H':=Aside0.mk H;clear H;go_enter Tryz.func71,Tryz.ntmps71;go_wp2_with (first|((with_reducible refine gate_dst (N:=1) rfl ?_);refine bx 1 #[.int .i64 a0_0,.slice A0_1 l0_1.length c0_1] 26 ?_;intro gb109 hg w4 hbox hb;have BK109:=Aside0.mk (hbox);have GE109:=gzA hg HB;replace HB:=bsA HB hb;clear hb hbox hg;have hcz5_0:=z0_ BK109;have hcz5_1:=z1_ BK109;have hfz5_0:=hf_ BK109 0;have hfz5_1:=hf_ BK109 1)|((with_reducible refine gate_callee (f:=95) rfl ?_);refine gl (some 9) Tryz.func95 #[.int .i64 a0_0,.int .i64 1,.int .i64 6] ?_;(with_reducible refine(spec_l01In.calls a0_0 1 6 true _ A2.out).mono ?_);rintro e w' ⟨rfl,⟨nd,rfl⟩⟩;refine⟨_,rfl,?_⟩))
  go_loopg [3] k (fun kq v3 w'=>∃(x3_1:Int),v3 = .int .i64 x3_1∧Aside0 (spec_l01Is.l0 kq x3_1 a0_0 l0_1=some r)∧Aside0 (kq≤k)∧Aside0 (w'.heap[gb109]?=some (.cells #[.int .i64 a0_0,(.slice A0_1 l0_1.length c0_1)] 26 (0,0)))∧Aside0 (Below w.heap.size w w'))
  case atStart=>exact⟨(0),rs,H',⟨Nat.le_refl _⟩,⟨bk BK109.out⟩,⟨bl HB.out⟩⟩
  case round=>
   clear H';try clear p2
   try clear c3
   try clear hcz5_0
   try clear hcz5_1
   try clear hfz5_0
   try clear hfz5_1
   obtain ⟨x3_1,rfl,HA,HK1,BK109,HB⟩:=hrel;cases gk with
   |zero=>exact absurd HA.out (by simp [spec_l01Is.l0])
   |succ k1=>
    have H:=HA.out;clear HA;simp only [spec_l01Is.l0] at H;by_cases c6:x3_1<(l0_1.length:Int)
    ·rw[if_pos c6] at H;have c6b0:decide (x3_1<(l0_1.length:Int))=true:=decide_eq_true c6;clear c6;by_cases c7:0≤x3_1
     ·rw[if_pos c7] at H;have c7b0:decide (0≤x3_1)=true:=decide_eq_true c7;clear c7;replace H:=Option.bind_eq_some_iff.mp H;obtain ⟨t112,A80,H⟩:=H;replace H:((spec_l01In.f (rd l0_1 x3_1) 1 t112).bind fun t113=>(if t113=true then (if x3_1>0 then (if 0≤(wrap64 (x3_1 - 1)) then (if (wrap64 (x3_1 - 1))<(l0_1.length:Int) then (if (rd l0_1 x3_1)≤(rd l0_1 (wrap64 (x3_1 - 1))) then (some false) else (spec_l01Is.l0 k1 (wrap64 (x3_1+1)) a0_0 l0_1)) else (none)) else (none)) else (spec_l01Is.l0 k1 (wrap64 (x3_1+1)) a0_0 l0_1)) else (some false)))=some r:=H;have A8:=Aside0.mk A80;clear A80;replace H:=Option.bind_eq_some_iff.mp H;obtain ⟨t113,A90,H⟩:=H;replace H:(if t113=true then (if x3_1>0 then (if 0≤(wrap64 (x3_1 - 1)) then (if (wrap64 (x3_1 - 1))<(l0_1.length:Int) then (if (rd l0_1 x3_1)≤(rd l0_1 (wrap64 (x3_1 - 1))) then (some false) else (spec_l01Is.l0 k1 (wrap64 (x3_1+1)) a0_0 l0_1)) else (none)) else (none)) else (spec_l01Is.l0 k1 (wrap64 (x3_1+1)) a0_0 l0_1)) else (some false))=some r:=H;have A9:=Aside0.mk A90;clear A90;by_cases c10:t113=true
      ·subst c10;have H1:(if x3_1>0 then (if 0≤(wrap64 (x3_1 - 1)) then (if (wrap64 (x3_1 - 1))<(l0_1.length:Int) then (if (rd l0_1 x3_1)≤(rd l0_1 (wrap64 (x3_1 - 1))) then (some false) else (spec_l01Is.l0 k1 (wrap64 (x3_1+1)) a0_0 l0_1)) else (none)) else (none)) else (spec_l01Is.l0 k1 (wrap64 (x3_1+1)) a0_0 l0_1))=some r:=by rw[if_pos rfl] at H;exact H
       clear H;have H:=H1;clear H1;by_cases c11:x3_1>0
       ·rw[if_pos c11] at H;have c11b0:decide (0<x3_1)=true:=decide_eq_true c11;clear c11;obtain ⟨ji12,hji12⟩:∃ j_:Int,(wrap64 (x3_1 - 1))=j_:=⟨_,rfl⟩
        replace H:(if 0≤(ji12) then (if (ji12)<(l0_1.length:Int) then (if (rd l0_1 x3_1)≤(rd l0_1 (ji12)) then (some false) else (spec_l01Is.l0 k1 (wrap64 (x3_1+1)) a0_0 l0_1)) else (none)) else (none))=some r:=by first|(rw[hji12] at H;exact H)|(simp only [hji12] at H ⊢;exact H)
        (try rw[hji12] at A8)
        (try rw[hji12] at A9)
        have hji12w:(IntKind.i64.wrap (x3_1 - 1))=ji12:=(i64_w _).trans hji12;by_cases c13:0≤(ji12)
        ·rw[if_pos c13] at H;have c13b0:decide (0≤(ji12))=true:=decide_eq_true c13;clear c13;by_cases c14:(ji12)<(l0_1.length:Int)
         ·rw[if_pos c14] at H;have c14b0:decide ((ji12)<(l0_1.length:Int))=true:=decide_eq_true c14;clear c14;by_cases c15:(rd l0_1 x3_1)≤(rd l0_1 (ji12))
          ·rw[if_pos c15] at H;have c15b0:decide ((rd l0_1 x3_1)≤(rd l0_1 (ji12)))=true:=decide_eq_true c15;clear c15;obtain rfl:=Option.some.inj H;have hcz16_0:=z0_ BK109;have hcz16_1:=z1_ BK109;have hfz16_0:=hf_ BK109 0;have hfz16_1:=hf_ BK109 1;try go_wp2
           replace BK109:=Aside0.mk (blk_drew BK109.out);replace HB:=Aside0.mk (below_drew1 HB.out);have p111:0≤(x3_1:Int):=dd;have q111:x3_1<(l0_1.length:Int):=dd;obtain ⟨ad111,e111,hx111_0⟩:=Kd.at_int HR0_1.out x3_1 p111 q111;have hw111_0:=hx111_0;cases e111;replace hx111_0:=hx_ HB hx111_0;replace p111:=eq_true p111;replace q111:=eq_true q111;have p114:0≤(x3_1:Int):=dd;have q114:x3_1<(l0_1.length:Int):=dd;obtain ⟨ad114,e114,hx114_0⟩:=Kd.at_int HR0_1.out x3_1 p114 q114;have hw114_0:=hx114_0;obtain rfl:ad111=ad114:=(by injection e114)
           replace hx114_0:=hx_ HB hx114_0;replace p114:=eq_true p114;replace q114:=eq_true q114;have p115:0≤((ji12):Int):=dd;have q115:(ji12)<(l0_1.length:Int):=dd;obtain ⟨ad115,e115,hx115_0⟩:=Kd.at_int HR0_1.out (ji12) p115 q115;have hw115_0:=hx115_0;obtain rfl:ad111=ad115:=(by injection e115)
           replace hx115_0:=hx_ HB hx115_0;replace p115:=eq_true p115;replace q115:=eq_true q115;refine start_ (n:=28) (S:=fun w'=>w'.cell? ⟨gb109,0,none⟩=some (.int .i64 a0_0)∧w'.cell? ⟨gb109,1,none⟩=some (.slice (some ad111) l0_1.length c0_1)∧w'.cell? (ad111.add (x3_1).toNat)=some (.int .i64 (rd l0_1 x3_1))∧w'.cell? (ad111.add (x3_1).toNat)=some (.int .i64 (rd l0_1 x3_1))∧w'.cell? (ad111.add ((ji12)).toNat)=some (.int .i64 (rd l0_1 (ji12)))) (ds:= []) (ar 0 28) (by kernel_rfl) rfl rfl ⟨(blk_cell BK109.out 0).trans rfl,(blk_cell BK109.out 1).trans rfl,hx_ HB hw111_0,hx_ HB hw114_0,hx_ HB hw115_0⟩ (fun hHeld=>?_);refine with_tabW spec_l01Is.tab6 spec_l01Is.bits6 (fun HT_ HW_=>?_);generalize wr.drew=w17 at BK109 HB hx111_0 hx114_0 hx115_0 hHeld ⊢;refine pu 0 (some 18) (ar 1 27) HT_ ?_;refine pu 2 (some 20) #[U,O,U,O,O,O,O,O,O,O,O,O,O,O,O,O,O,O,O,O,O,O,O,O,O,O,O,O] HT_ ?_;refine pu 5 (some 23) #[U,O,U,O,O,U,O,O,O,O,O,O,O,O,O,O,O,O,O,O,O,O,O,O,O,O,O,O] HT_ ?_;refine tk 1 (some 19) #[U,U,U,O,O,U,O,O,O,O,O,O,O,O,O,O,O,O,O,O,O,O,O,O,O,O,O,O] HT_ HW_ hHeld ?_;refine pu 3 (some 21) #[U,U,U,U,O,U,O,O,O,O,O,O,O,O,O,O,O,O,O,O,O,O,O,O,O,O,O,O] HT_ ?_;refine tk 4 (some 22) (ar 6 22) HT_ HW_ hHeld ?_;refine tk 6 (some 24) (ar 7 21) HT_ HW_ hHeld ?_;refine on_ 7 (some 25) (ar 8 20) HT_ fun K hK=>?_;refine gr Tryz.func91 #[.int .i64 a0_0] ?_;with_reducible refine(spec_l01All.calls a0_0 t112 _ A8.out).mono ?_
           rintro e w' ⟨rfl,⟨nd,rfl⟩⟩;refine⟨_,rfl,?_⟩;refine hK.out _ _ ⟨(blk_cell BK109.out 0).trans rfl,(blk_cell BK109.out 1).trans rfl,hx_ HB hw111_0,hx_ HB hw114_0,hx_ HB hw115_0⟩ (fun hHeld=>?_);clear hK K;refine nr 25 ?_;refine on_ 8 (some 26) (ar 9 19) HT_ fun K hK=>?_;refine gr Tryz.func95 #[.int .i64 (rd l0_1 x3_1),.int .i64 1,.int .i64 t112] ?_;with_reducible refine(spec_l01In.calls (rd l0_1 x3_1) 1 t112 true _ A9.out).mono ?_
           rintro e w' ⟨rfl,⟨nd,rfl⟩⟩;refine⟨_,rfl,?_⟩;refine hK.out _ _ ⟨(blk_cell BK109.out 0).trans rfl,(blk_cell BK109.out 1).trans rfl,hx_ HB hw111_0,hx_ HB hw114_0,hx_ HB hw115_0⟩ (fun hHeld=>?_);clear hK K;refine nr 26 ?_;refine pu 9 (some 27) (ar 10 18) HT_ ?_;refine pu 10 (some 28) (ar 11 17) HT_ ?_;refine pu 11 (some 29) (ar 12 16) HT_ ?_;refine pu 12 (some 30) (ar 13 15) HT_ ?_;refine pu 13 (some 31) (ar 14 14) HT_ ?_;refine pu 14 (some 32) (ar 15 13) HT_ ?_;refine pu 16 (some 34) #[U,U,U,U,U,U,U,U,U,U,U,U,U,U,U,O,U,O,O,O,O,O,O,O,O,O,O,O] HT_ ?_;refine pu 19 (some 37) #[U,U,U,U,U,U,U,U,U,U,U,U,U,U,U,O,U,O,O,U,O,O,O,O,O,O,O,O] HT_ ?_;refine pu 21 (some 39) #[U,U,U,U,U,U,U,U,U,U,U,U,U,U,U,O,U,O,O,U,O,U,O,O,O,O,O,O] HT_ ?_;refine pu 22 (some 40) #[U,U,U,U,U,U,U,U,U,U,U,U,U,U,U,O,U,O,O,U,O,U,U,O,O,O,O,O] HT_ ?_;refine tk 15 (some 33) #[U,U,U,U,U,U,U,U,U,U,U,U,U,U,U,U,U,O,O,U,O,U,U,O,O,O,O,O] HT_ HW_ hHeld ?_;refine pu 17 (some 35) #[U,U,U,U,U,U,U,U,U,U,U,U,U,U,U,U,U,U,O,U,O,U,U,O,O,O,O,O] HT_ ?_;refine tk 18 (some 36) #[U,U,U,U,U,U,U,U,U,U,U,U,U,U,U,U,U,U,U,U,O,U,U,O,O,O,O,O] HT_ HW_ hHeld ?_;refine tk 20 (some 38) (ar 23 5) HT_ HW_ hHeld ?_;refine pu 23 (some 41) (ar 24 4) HT_ ?_;refine tk 24 (some 42) (ar 25 3) HT_ HW_ hHeld ?_;refine pu 25 (some 43) (ar 26 2) HT_ ?_;refine pu 26 (some 44) (ar 27 1) HT_ ?_;refine pu 27 (some 45) (ar 28 0) HT_ ?_;refine done_ (done_of HT_.out (by kernel_rfl)) ?_;try go_wp2
           go_ret;exact⟨by first|rfl|(simp [errW_none,errW_some] <;> rfl)|(simp only [← hji12];first|rfl|(simp [errW_none,errW_some] <;> rfl))|(simp [*,errW_none,errW_some] <;> rfl),bl HB.out⟩
          ·rw[if_neg c15] at H;have c15b0:decide ((rd l0_1 x3_1)≤(rd l0_1 (ji12)))=false:=decide_eq_false c15;clear c15;have H':=Aside0.mk H;clear H;have hcz18_0:=z0_ BK109;have hcz18_1:=z1_ BK109;have hfz18_0:=hf_ BK109 0;have hfz18_1:=hf_ BK109 1;try go_wp2
           replace BK109:=Aside0.mk (blk_drew BK109.out);replace HB:=Aside0.mk (below_drew1 HB.out);have p111:0≤(x3_1:Int):=dd;have q111:x3_1<(l0_1.length:Int):=dd;obtain ⟨ad111,e111,hx111_0⟩:=Kd.at_int HR0_1.out x3_1 p111 q111;have hw111_0:=hx111_0;cases e111;replace hx111_0:=hx_ HB hx111_0;replace p111:=eq_true p111;replace q111:=eq_true q111;have p114:0≤(x3_1:Int):=dd;have q114:x3_1<(l0_1.length:Int):=dd;obtain ⟨ad114,e114,hx114_0⟩:=Kd.at_int HR0_1.out x3_1 p114 q114;have hw114_0:=hx114_0;obtain rfl:ad111=ad114:=(by injection e114)
           replace hx114_0:=hx_ HB hx114_0;replace p114:=eq_true p114;replace q114:=eq_true q114;have p115:0≤((ji12):Int):=dd;have q115:(ji12)<(l0_1.length:Int):=dd;obtain ⟨ad115,e115,hx115_0⟩:=Kd.at_int HR0_1.out (ji12) p115 q115;have hw115_0:=hx115_0;obtain rfl:ad111=ad115:=(by injection e115)
           replace hx115_0:=hx_ HB hx115_0;replace p115:=eq_true p115;replace q115:=eq_true q115;refine start_ (n:=28) (S:=fun w'=>w'.cell? ⟨gb109,0,none⟩=some (.int .i64 a0_0)∧w'.cell? ⟨gb109,1,none⟩=some (.slice (some ad111) l0_1.length c0_1)∧w'.cell? (ad111.add (x3_1).toNat)=some (.int .i64 (rd l0_1 x3_1))∧w'.cell? (ad111.add (x3_1).toNat)=some (.int .i64 (rd l0_1 x3_1))∧w'.cell? (ad111.add ((ji12)).toNat)=some (.int .i64 (rd l0_1 (ji12)))) (ds:= []) (ar 0 28) (by kernel_rfl) rfl rfl ⟨(blk_cell BK109.out 0).trans rfl,(blk_cell BK109.out 1).trans rfl,hx_ HB hw111_0,hx_ HB hw114_0,hx_ HB hw115_0⟩ (fun hHeld=>?_);refine with_tabW spec_l01Is.tab6 spec_l01Is.bits6 (fun HT_ HW_=>?_);generalize wr.drew=w19 at BK109 HB hx111_0 hx114_0 hx115_0 hHeld ⊢;refine pu 0 (some 18) (ar 1 27) HT_ ?_;refine pu 2 (some 20) #[U,O,U,O,O,O,O,O,O,O,O,O,O,O,O,O,O,O,O,O,O,O,O,O,O,O,O,O] HT_ ?_;refine pu 5 (some 23) #[U,O,U,O,O,U,O,O,O,O,O,O,O,O,O,O,O,O,O,O,O,O,O,O,O,O,O,O] HT_ ?_;refine tk 1 (some 19) #[U,U,U,O,O,U,O,O,O,O,O,O,O,O,O,O,O,O,O,O,O,O,O,O,O,O,O,O] HT_ HW_ hHeld ?_;refine pu 3 (some 21) #[U,U,U,U,O,U,O,O,O,O,O,O,O,O,O,O,O,O,O,O,O,O,O,O,O,O,O,O] HT_ ?_;refine tk 4 (some 22) (ar 6 22) HT_ HW_ hHeld ?_;refine tk 6 (some 24) (ar 7 21) HT_ HW_ hHeld ?_;refine on_ 7 (some 25) (ar 8 20) HT_ fun K hK=>?_;refine gr Tryz.func91 #[.int .i64 a0_0] ?_;with_reducible refine(spec_l01All.calls a0_0 t112 _ A8.out).mono ?_
           rintro e w' ⟨rfl,⟨nd,rfl⟩⟩;refine⟨_,rfl,?_⟩;refine hK.out _ _ ⟨(blk_cell BK109.out 0).trans rfl,(blk_cell BK109.out 1).trans rfl,hx_ HB hw111_0,hx_ HB hw114_0,hx_ HB hw115_0⟩ (fun hHeld=>?_);clear hK K;refine nr 25 ?_;refine on_ 8 (some 26) (ar 9 19) HT_ fun K hK=>?_;refine gr Tryz.func95 #[.int .i64 (rd l0_1 x3_1),.int .i64 1,.int .i64 t112] ?_;with_reducible refine(spec_l01In.calls (rd l0_1 x3_1) 1 t112 true _ A9.out).mono ?_
           rintro e w' ⟨rfl,⟨nd,rfl⟩⟩;refine⟨_,rfl,?_⟩;refine hK.out _ _ ⟨(blk_cell BK109.out 0).trans rfl,(blk_cell BK109.out 1).trans rfl,hx_ HB hw111_0,hx_ HB hw114_0,hx_ HB hw115_0⟩ (fun hHeld=>?_);clear hK K;refine nr 26 ?_;refine pu 9 (some 27) (ar 10 18) HT_ ?_;refine pu 10 (some 28) (ar 11 17) HT_ ?_;refine pu 11 (some 29) (ar 12 16) HT_ ?_;refine pu 12 (some 30) (ar 13 15) HT_ ?_;refine pu 13 (some 31) (ar 14 14) HT_ ?_;refine pu 14 (some 32) (ar 15 13) HT_ ?_;refine pu 16 (some 34) #[U,U,U,U,U,U,U,U,U,U,U,U,U,U,U,O,U,O,O,O,O,O,O,O,O,O,O,O] HT_ ?_;refine pu 19 (some 37) #[U,U,U,U,U,U,U,U,U,U,U,U,U,U,U,O,U,O,O,U,O,O,O,O,O,O,O,O] HT_ ?_;refine pu 21 (some 39) #[U,U,U,U,U,U,U,U,U,U,U,U,U,U,U,O,U,O,O,U,O,U,O,O,O,O,O,O] HT_ ?_;refine pu 22 (some 40) #[U,U,U,U,U,U,U,U,U,U,U,U,U,U,U,O,U,O,O,U,O,U,U,O,O,O,O,O] HT_ ?_;refine tk 15 (some 33) #[U,U,U,U,U,U,U,U,U,U,U,U,U,U,U,U,U,O,O,U,O,U,U,O,O,O,O,O] HT_ HW_ hHeld ?_;refine pu 17 (some 35) #[U,U,U,U,U,U,U,U,U,U,U,U,U,U,U,U,U,U,O,U,O,U,U,O,O,O,O,O] HT_ ?_;refine tk 18 (some 36) #[U,U,U,U,U,U,U,U,U,U,U,U,U,U,U,U,U,U,U,U,O,U,U,O,O,O,O,O] HT_ HW_ hHeld ?_;refine tk 20 (some 38) (ar 23 5) HT_ HW_ hHeld ?_;refine pu 23 (some 41) (ar 24 4) HT_ ?_;refine tk 24 (some 42) (ar 25 3) HT_ HW_ hHeld ?_;refine pu 25 (some 43) (ar 26 2) HT_ ?_;refine pu 26 (some 44) (ar 27 1) HT_ ?_;refine pu 27 (some 45) (ar 28 0) HT_ ?_;refine done_ (done_of HT_.out (by kernel_rfl)) ?_;try go_wp2
           go_roundg k1
           case measure=>have:=HK1.out;omega
           case rel=>exact⟨(wrap64 (x3_1+1)),rs,H',⟨by have:=HK1.out;omega⟩,⟨bk BK109.out⟩,⟨bl HB.out⟩⟩
         ·rw[if_neg c14] at H;exact absurd H (by simp)
        ·rw[if_neg c13] at H;exact absurd H (by simp)
       ·rw[if_neg c11] at H;have c11b0:decide (0<x3_1)=false:=decide_eq_false c11;clear c11;have H':=Aside0.mk H;clear H;have hcz20_0:=z0_ BK109;have hcz20_1:=z1_ BK109;have hfz20_0:=hf_ BK109 0;have hfz20_1:=hf_ BK109 1;try go_wp2
        replace BK109:=Aside0.mk (blk_drew BK109.out);replace HB:=Aside0.mk (below_drew1 HB.out);have p111:0≤(x3_1:Int):=dd;have q111:x3_1<(l0_1.length:Int):=dd;obtain ⟨ad111,e111,hx111_0⟩:=Kd.at_int HR0_1.out x3_1 p111 q111;have hw111_0:=hx111_0;cases e111;replace hx111_0:=hx_ HB hx111_0;replace p111:=eq_true p111;replace q111:=eq_true q111;refine start_ (n:=28) (S:=fun w'=>w'.cell? ⟨gb109,0,none⟩=some (.int .i64 a0_0)∧w'.cell? ⟨gb109,1,none⟩=some (.slice (some ad111) l0_1.length c0_1)∧w'.cell? (ad111.add (x3_1).toNat)=some (.int .i64 (rd l0_1 x3_1))) (ds:= []) (ar 0 28) (by kernel_rfl) rfl rfl ⟨(blk_cell BK109.out 0).trans rfl,(blk_cell BK109.out 1).trans rfl,hx_ HB hw111_0⟩ (fun hHeld=>?_);refine with_tabW spec_l01Is.tab6 spec_l01Is.bits6 (fun HT_ HW_=>?_);generalize wr.drew=w21 at BK109 HB hx111_0 hHeld ⊢;refine pu 0 (some 18) (ar 1 27) HT_ ?_;refine pu 2 (some 20) #[U,O,U,O,O,O,O,O,O,O,O,O,O,O,O,O,O,O,O,O,O,O,O,O,O,O,O,O] HT_ ?_;refine pu 5 (some 23) #[U,O,U,O,O,U,O,O,O,O,O,O,O,O,O,O,O,O,O,O,O,O,O,O,O,O,O,O] HT_ ?_;refine tk 1 (some 19) #[U,U,U,O,O,U,O,O,O,O,O,O,O,O,O,O,O,O,O,O,O,O,O,O,O,O,O,O] HT_ HW_ hHeld ?_;refine pu 3 (some 21) #[U,U,U,U,O,U,O,O,O,O,O,O,O,O,O,O,O,O,O,O,O,O,O,O,O,O,O,O] HT_ ?_;refine tk 4 (some 22) (ar 6 22) HT_ HW_ hHeld ?_;refine tk 6 (some 24) (ar 7 21) HT_ HW_ hHeld ?_;refine on_ 7 (some 25) (ar 8 20) HT_ fun K hK=>?_;refine gr Tryz.func91 #[.int .i64 a0_0] ?_;with_reducible refine(spec_l01All.calls a0_0 t112 _ A8.out).mono ?_
        rintro e w' ⟨rfl,⟨nd,rfl⟩⟩;refine⟨_,rfl,?_⟩;refine hK.out _ _ ⟨(blk_cell BK109.out 0).trans rfl,(blk_cell BK109.out 1).trans rfl,hx_ HB hw111_0⟩ (fun hHeld=>?_);clear hK K;refine nr 25 ?_;refine on_ 8 (some 26) (ar 9 19) HT_ fun K hK=>?_;refine gr Tryz.func95 #[.int .i64 (rd l0_1 x3_1),.int .i64 1,.int .i64 t112] ?_;with_reducible refine(spec_l01In.calls (rd l0_1 x3_1) 1 t112 true _ A9.out).mono ?_
        rintro e w' ⟨rfl,⟨nd,rfl⟩⟩;refine⟨_,rfl,?_⟩;refine hK.out _ _ ⟨(blk_cell BK109.out 0).trans rfl,(blk_cell BK109.out 1).trans rfl,hx_ HB hw111_0⟩ (fun hHeld=>?_);clear hK K;refine nr 26 ?_;refine pu 9 (some 27) (ar 10 18) HT_ ?_;refine pu 10 (some 28) (ar 11 17) HT_ ?_;refine pu 11 (some 29) (ar 12 16) HT_ ?_;refine pu 12 (some 30) (ar 13 15) HT_ ?_;refine pu 13 (some 31) (ar 14 14) HT_ ?_;refine pv 14 (some 32) (ar 15 13) HT_ ?_;refine pv 15 (some 33) (ar 16 12) HT_ ?_;refine pv 16 (some 34) (ar 17 11) HT_ ?_;refine pv 17 (some 35) (ar 18 10) HT_ ?_;refine pv 18 (some 36) (ar 19 9) HT_ ?_;refine pv 19 (some 37) (ar 20 8) HT_ ?_;refine pv 20 (some 38) (ar 21 7) HT_ ?_;refine pv 21 (some 39) (ar 22 6) HT_ ?_;refine pv 22 (some 40) (ar 23 5) HT_ ?_;refine pv 23 (some 41) (ar 24 4) HT_ ?_;refine pv 24 (some 42) (ar 25 3) HT_ ?_;refine pv 25 (some 43) (ar 26 2) HT_ ?_;refine pu 26 (some 44) (ar 27 1) HT_ ?_;refine pu 27 (some 45) (ar 28 0) HT_ ?_;refine done_ (done_of HT_.out (by kernel_rfl)) ?_;try go_wp2
        go_roundg k1
        case measure=>have:=HK1.out;omega
        case rel=>exact⟨(wrap64 (x3_1+1)),rs,H',⟨by have:=HK1.out;omega⟩,⟨bk BK109.out⟩,⟨bl HB.out⟩⟩
      ·replace c10:=Bool.eq_false_iff.mpr c10;subst c10;have H1:(some false)=some r:=by rw[if_neg (show ¬ (false=true) by decide)] at H;exact H
       clear H;have H:=H1;clear H1;obtain rfl:=Option.some.inj H;have hcz22_0:=z0_ BK109;have hcz22_1:=z1_ BK109;have hfz22_0:=hf_ BK109 0;have hfz22_1:=hf_ BK109 1;try go_wp2
       replace BK109:=Aside0.mk (blk_drew BK109.out);replace HB:=Aside0.mk (below_drew1 HB.out);have p111:0≤(x3_1:Int):=dd;have q111:x3_1<(l0_1.length:Int):=dd;obtain ⟨ad111,e111,hx111_0⟩:=Kd.at_int HR0_1.out x3_1 p111 q111;have hw111_0:=hx111_0;cases e111;replace hx111_0:=hx_ HB hx111_0;replace p111:=eq_true p111;replace q111:=eq_true q111;refine start_ (n:=28) (S:=fun w'=>w'.cell? ⟨gb109,0,none⟩=some (.int .i64 a0_0)∧w'.cell? ⟨gb109,1,none⟩=some (.slice (some ad111) l0_1.length c0_1)∧w'.cell? (ad111.add (x3_1).toNat)=some (.int .i64 (rd l0_1 x3_1))) (ds:= []) (ar 0 28) (by kernel_rfl) rfl rfl ⟨(blk_cell BK109.out 0).trans rfl,(blk_cell BK109.out 1).trans rfl,hx_ HB hw111_0⟩ (fun hHeld=>?_);refine with_tabW spec_l01Is.tab6 spec_l01Is.bits6 (fun HT_ HW_=>?_);generalize wr.drew=w23 at BK109 HB hx111_0 hHeld ⊢;refine pu 0 (some 18) (ar 1 27) HT_ ?_;refine pu 2 (some 20) #[U,O,U,O,O,O,O,O,O,O,O,O,O,O,O,O,O,O,O,O,O,O,O,O,O,O,O,O] HT_ ?_;refine pu 5 (some 23) #[U,O,U,O,O,U,O,O,O,O,O,O,O,O,O,O,O,O,O,O,O,O,O,O,O,O,O,O] HT_ ?_;refine tk 1 (some 19) #[U,U,U,O,O,U,O,O,O,O,O,O,O,O,O,O,O,O,O,O,O,O,O,O,O,O,O,O] HT_ HW_ hHeld ?_;refine pu 3 (some 21) #[U,U,U,U,O,U,O,O,O,O,O,O,O,O,O,O,O,O,O,O,O,O,O,O,O,O,O,O] HT_ ?_;refine tk 4 (some 22) (ar 6 22) HT_ HW_ hHeld ?_;refine tk 6 (some 24) (ar 7 21) HT_ HW_ hHeld ?_;refine on_ 7 (some 25) (ar 8 20) HT_ fun K hK=>?_;refine gr Tryz.func91 #[.int .i64 a0_0] ?_;with_reducible refine(spec_l01All.calls a0_0 t112 _ A8.out).mono ?_
       rintro e w' ⟨rfl,⟨nd,rfl⟩⟩;refine⟨_,rfl,?_⟩;refine hK.out _ _ ⟨(blk_cell BK109.out 0).trans rfl,(blk_cell BK109.out 1).trans rfl,hx_ HB hw111_0⟩ (fun hHeld=>?_);clear hK K;refine nr 25 ?_;refine on_ 8 (some 26) (ar 9 19) HT_ fun K hK=>?_;refine gr Tryz.func95 #[.int .i64 (rd l0_1 x3_1),.int .i64 1,.int .i64 t112] ?_;with_reducible refine(spec_l01In.calls (rd l0_1 x3_1) 1 t112 false _ A9.out).mono ?_
       rintro e w' ⟨rfl,⟨nd,rfl⟩⟩;refine⟨_,rfl,?_⟩;refine hK.out _ _ ⟨(blk_cell BK109.out 0).trans rfl,(blk_cell BK109.out 1).trans rfl,hx_ HB hw111_0⟩ (fun hHeld=>?_);clear hK K;refine nr 26 ?_;refine pu 9 (some 27) (ar 10 18) HT_ ?_;refine pu 10 (some 28) (ar 11 17) HT_ ?_;refine pv 11 (some 29) (ar 12 16) HT_ ?_;refine pv 12 (some 30) (ar 13 15) HT_ ?_;refine pv 13 (some 31) (ar 14 14) HT_ ?_;refine pv 14 (some 32) (ar 15 13) HT_ ?_;refine pv 15 (some 33) (ar 16 12) HT_ ?_;refine pv 16 (some 34) (ar 17 11) HT_ ?_;refine pv 17 (some 35) (ar 18 10) HT_ ?_;refine pv 18 (some 36) (ar 19 9) HT_ ?_;refine pv 19 (some 37) (ar 20 8) HT_ ?_;refine pv 20 (some 38) (ar 21 7) HT_ ?_;refine pv 21 (some 39) (ar 22 6) HT_ ?_;refine pv 22 (some 40) (ar 23 5) HT_ ?_;refine pv 23 (some 41) (ar 24 4) HT_ ?_;refine pv 24 (some 42) (ar 25 3) HT_ ?_;refine pv 25 (some 43) (ar 26 2) HT_ ?_;refine pv 26 (some 44) (ar 27 1) HT_ ?_;refine pu 27 (some 45) (ar 28 0) HT_ ?_;refine done_ (done_of HT_.out (by kernel_rfl)) ?_;try go_wp2
       go_ret;exact⟨rr,bl HB.out⟩
     ·rw[if_neg c7] at H;exact absurd H (by simp)
    ·rw[if_neg c6] at H;have c6b0:decide (x3_1<(l0_1.length:Int))=false:=decide_eq_false c6;clear c6;have H':=Aside0.mk H;clear H;have hcz24_0:=z0_ BK109;have hcz24_1:=z1_ BK109;have hfz24_0:=hf_ BK109 0;have hfz24_1:=hf_ BK109 1;go_wp2
     go_loopg [4] k1 (fun kq v4 w'=>∃(x4_2:Int),v4 = .int .i64 x4_2∧Aside0 (spec_l01Is.l1 kq x4_2 a0_0 l0_1=some r)∧Aside0 (kq≤k1)∧Aside0 (w'.heap[gb109]?=some (.cells #[.int .i64 a0_0,(.slice A0_1 l0_1.length c0_1)] 26 (0,0)))∧Aside0 (Below w.heap.size w w'))
     case atStart=>exact⟨(0),rs,H',⟨Nat.le_refl _⟩,⟨bk BK109.out⟩,⟨bl HB.out⟩⟩
     case round=>
      clear H';try clear c1
      try clear p1
      try clear q1
      try clear hx1
      try clear p2
      try clear c6
      try clear c6b0
      try clear p6
      try clear c7
      try clear c9
      try clear c10
      try clear c11
      try clear c11b0
      try clear p11
      try clear q11
      try clear hx11
      try clear c13
      try clear c14
      try clear hcz20_0
      try clear hcz20_1
      try clear hcz22_0
      try clear hcz22_1
      try clear hcz24_0
      try clear hcz24_1
      try clear hfz20_0
      try clear hfz20_1
      try clear hfz22_0
      try clear hfz22_1
      try clear hfz24_0
      try clear hfz24_1
      try clear hx111_0
      try clear p111
      try clear q111
      obtain ⟨x4_2,rfl,HA,HK2,BK109,HB⟩:=hrel;cases gk with
      |zero=>exact absurd HA.out (by simp [spec_l01Is.l1])
      |succ k2=>
       have H:=HA.out;clear HA;simp only [spec_l01Is.l1] at H;by_cases c25:x4_2<(l0_1.length:Int)
       ·rw[if_pos c25] at H;have c25b0:decide (x4_2<(l0_1.length:Int))=true:=decide_eq_true c25;clear c25;by_cases c26:0≤x4_2
        ·rw[if_pos c26] at H;have c26b0:decide (0≤x4_2)=true:=decide_eq_true c26;clear c26;replace H:=Option.bind_eq_some_iff.mp H;obtain ⟨t117,A270,H⟩:=H;replace H:(spec_l01Is.l2 k2 x4_2 t117 0 a0_0 l0_1)=some r:=H;have A27:=Aside0.mk A270;clear A270;have H':=Aside0.mk H;clear H;have hcz28_0:=z0_ BK109;have hcz28_1:=z1_ BK109;have hfz28_0:=hf_ BK109 0;have hfz28_1:=hf_ BK109 1;have p116:0≤(x4_2:Int):=dd;have q116:x4_2<(l0_1.length:Int):=dd;obtain ⟨ad116,e116,hx116_0⟩:=Kd.at_int HR0_1.out x4_2 p116 q116;cases e116;replace hx116_0:=hx_ HB hx116_0;replace p116:=eq_true p116;replace q116:=eq_true q116;go_wp2_with (first|((with_reducible refine gate_callee (f:=125) rfl ?_);refine gl (some 58) Tryz.func125 #[.int .i64 (rd l0_1 x4_2)] ?_;(with_reducible refine(spec_l01Below.calls k2 (rd l0_1 x4_2) t117 _ A27.out).mono ?_);rintro e w29 ⟨v118,rfl,ho0,hb⟩;refine⟨_,rfl,?_⟩;have HO119:=klA ho0 HB;replace BK109:=bkA BK109 hb;replace HB:=bsA HB hb;(try clear hb);(try clear hb2);(try clear hk);(try clear hi);(try clear ho0)))
         go_loopg [6] k2 (fun kq v6 w'=>∃(x6_3:Int),v6 = .int .i64 x6_3∧Aside0 (spec_l01Is.l2 kq x4_2 t117 x6_3 a0_0 l0_1=some r)∧Aside0 (kq≤k2)∧Aside0 (Kd.R (Kd.int .i64) 2 w' w.heap.size (fun _=>True) v118 t117)∧Aside0 (w'.heap[gb109]?=some (.cells #[.int .i64 a0_0,(.slice (some ad116) l0_1.length c0_1)] 26 (0,0)))∧Aside0 (Below w.heap.size w w'))
         case atStart=>exact⟨(0),rs,H',⟨Nat.le_refl _⟩,⟨kr HO119.out⟩,⟨bk BK109.out⟩,⟨bl HB.out⟩⟩
         case round=>
          clear H';try clear c1
          try clear p1
          try clear q1
          try clear hx1
          try clear c2
          try clear p2
          try clear c6
          try clear c6b0
          try clear p6
          try clear c7
          try clear c9
          try clear c10
          try clear c11
          try clear c11b0
          try clear p11
          try clear q11
          try clear hx11
          try clear c12
          try clear c13
          try clear c14
          try clear c25
          try clear c25b0
          try clear c26
          try clear c26b0
          try clear hcz20_0
          try clear hcz20_1
          try clear hcz22_0
          try clear hcz22_1
          try clear hcz24_0
          try clear hcz24_1
          try clear hcz28_0
          try clear hcz28_1
          try clear hfz20_0
          try clear hfz20_1
          try clear hfz22_0
          try clear hfz22_1
          try clear hfz24_0
          try clear hfz24_1
          try clear hfz28_0
          try clear hfz28_1
          try clear hx111_0
          try clear hx116_0
          try clear p1
          try clear p11
          try clear p111
          try clear p116
          try clear p2
          try clear p6
          try clear q1
          try clear q11
          try clear q111
          try clear q116
          obtain ⟨x6_3,rfl,HA,HK3,HO_5,BK109,HB⟩:=hrel;cases gk with
          |zero=>exact absurd HA.out (by simp [spec_l01Is.l2])
          |succ k3=>
           have H:=HA.out;clear HA;simp only [spec_l01Is.l2] at H;by_cases c30:x6_3<(t117.length:Int)
           ·rw[if_pos c30] at H;have c30b0:decide (x6_3<(t117.length:Int))=true:=decide_eq_true c30;clear c30;by_cases c31:0≤x6_3
            ·rw[if_pos c31] at H;have c31b0:decide (0≤x6_3)=true:=decide_eq_true c31;clear c31;replace H:=Option.bind_eq_some_iff.mp H;obtain ⟨t121,A320,H⟩:=H;replace H:(if t121=true then (spec_l01Is.l2 k3 x4_2 t117 (wrap64 (x6_3+1)) a0_0 l0_1) else (some false))=some r:=H;have A32:=Aside0.mk A320;clear A320;by_cases c33:t121=true
             ·subst c33;have H1:(spec_l01Is.l2 k3 x4_2 t117 (wrap64 (x6_3+1)) a0_0 l0_1)=some r:=by rw[if_pos rfl] at H;exact H
              clear H;have H:=H1;clear H1;have H':=Aside0.mk H;clear H;obtain ⟨Ao34,co34,eo34⟩:=Kd.R_slice HO_5.out;subst eo34;try go_wp2
              replace HO_5:=Aside0.mk (Kd.R_drew HO_5.out);replace BK109:=Aside0.mk (blk_drew BK109.out);replace HB:=Aside0.mk (below_drew1 HB.out);have p120:0≤(x6_3:Int):=dd;have q120:x6_3<(t117.length:Int):=dd;obtain ⟨ad120,e120,hx120_0⟩:=Kd.at_int (Kd.R_reads' HO_5.out).2.2 x6_3 p120 q120;cases e120;replace p120:=eq_true p120;replace q120:=eq_true q120;refine start_ (n:=7) (S:=fun w'=>w'.cell? ⟨gb109,0,none⟩=some (.int .i64 a0_0)∧w'.cell? ⟨gb109,1,none⟩=some (.slice (some ad116) l0_1.length c0_1)∧w'.cell? (ad120.add (x6_3).toNat)=some (.int .i64 (rd t117 x6_3))) (ds:= []) (ar 0 7) (by kernel_rfl) rfl rfl ⟨(blk_cell BK109.out 0).trans rfl,(blk_cell BK109.out 1).trans rfl,hx120_0⟩ (fun hHeld=>?_);generalize wr.drew=w35 at HO_5 BK109 HB hx120_0 hHeld ⊢;refine pure_ (i:=1) (N:=some 66) (v:=?_) (a':=?_) #[O,U,O,O,O,O,O] rfl rfl (by kernel_rfl) hh_ (Or.inl ⟨by rfl,?_⟩) ?_ ?_;rotate_left
              ·intro w';go_simp;with_reducible rfl
              rotate_left
              ·simp only [nm_];rfl
              refine pure_ (i:=2) (N:=some 67) (v:=?_) (a':=?_) #[O,U,U,O,O,O,O] rfl rfl (by kernel_rfl) hh_ (Or.inl ⟨by rfl,?_⟩) ?_ ?_;rotate_left
              ·intro w';go_simp;with_reducible rfl
              rotate_left
              ·simp only [nm_];rfl
              refine pure_ (i:=3) (N:=some 68) (v:=?_) (a':=?_) #[O,U,U,U,O,O,O] rfl rfl (by kernel_rfl) hh_ (Or.inl ⟨by rfl,?_⟩) ?_ ?_;rotate_left
              ·intro w';go_simp;with_reducible rfl
              rotate_left
              ·simp only [nm_];rfl
              refine take_ (i:=0) (N:=some 65) (v:=?_) (a':=?_) (ar 4 3) rfl rfl (by kernel_rfl) hh_ (Or.inl ⟨by rfl,?_⟩) hHeld ?_ ?_;rotate_left
              ·rintro w' ⟨s0,s1,s2⟩;go_simp;with_reducible rfl
              rotate_left
              ·simp only [nm_];rfl
              refine take_ (i:=4) (N:=some 69) (v:=?_) (a':=?_) (ar 5 2) rfl rfl (by kernel_rfl) hh_ (Or.inl ⟨by rfl,?_⟩) hHeld ?_ ?_;rotate_left
              ·rintro w' ⟨s0,s1,s2⟩;go_simp;with_reducible rfl
              rotate_left
              ·simp only [nm_];rfl
              refine one_ (i:=5) (N:=some 70) (ar 6 1) rfl rfl (by kernel_rfl) (by decide) (fun K hK=>?_);refine gr Tryz.func61 #[.agg #[.int .i64 a0_0,.slice (some ad116) l0_1.length c0_1],.int .i64 (rd t117 x6_3)] ?_;with_reducible refine(spec_l01Has.calls k3 a0_0 _ _ l0_1 (rd t117 x6_3) true _ (cb (Kd.C_below HR0_1.out HB.out)) HC0_1.out A32.out).mono ?_
              rintro e w36 ⟨rfl,hb⟩;have HS2_:=(hb.cell (World.block_lt_of_cell? _ _ (hHeld.2.2))).trans (hHeld.2.2);refine⟨_,rfl,?_⟩;replace HO_5:=krA HO_5 hb;replace BK109:=bkA BK109 hb;replace HB:=bsA HB hb;(try clear hb)
              (try clear hb2)
              (try clear hk)
              (try clear hi)
              refine hK.out _ _ ⟨(blk_cell BK109.out 0).trans rfl,(blk_cell BK109.out 1).trans rfl,HS2_⟩ (fun hHeld=>?_);clear hK K;refine nr 70 ?_;refine pure_ (i:=6) (N:=some 71) (v:=?_) (a':=?_) (ar 7 0) rfl rfl (by kernel_rfl) hh_ (Or.inl ⟨by rfl,?_⟩) ?_ ?_;rotate_left
              ·intro w';go_simp;with_reducible rfl
              rotate_left
              ·simp only [nm_];rfl
              refine done_ (by kernel_rfl) ?_;try go_wp2
              go_roundg k3
              case measure=>have:=HK1.out;have:=HK2.out;have:=HK3.out;omega
              case rel=>exact⟨(wrap64 (x6_3+1)),rs,H',⟨by have:=HK1.out;have:=HK2.out;have:=HK3.out;omega⟩,⟨kr HO_5.out⟩,⟨bk BK109.out⟩,⟨bl HB.out⟩⟩
             ·replace c33:=Bool.eq_false_iff.mpr c33;subst c33;have H1:(some false)=some r:=by rw[if_neg (show ¬ (false=true) by decide)] at H;exact H
              clear H;have H:=H1;clear H1;obtain rfl:=Option.some.inj H;obtain ⟨Ao37,co37,eo37⟩:=Kd.R_slice HO_5.out;subst eo37;try go_wp2
              replace HO_5:=Aside0.mk (Kd.R_drew HO_5.out);replace BK109:=Aside0.mk (blk_drew BK109.out);replace HB:=Aside0.mk (below_drew1 HB.out);have p120:0≤(x6_3:Int):=dd;have q120:x6_3<(t117.length:Int):=dd;obtain ⟨ad120,e120,hx120_0⟩:=Kd.at_int (Kd.R_reads' HO_5.out).2.2 x6_3 p120 q120;cases e120;replace p120:=eq_true p120;replace q120:=eq_true q120;refine start_ (n:=7) (S:=fun w'=>w'.cell? ⟨gb109,0,none⟩=some (.int .i64 a0_0)∧w'.cell? ⟨gb109,1,none⟩=some (.slice (some ad116) l0_1.length c0_1)∧w'.cell? (ad120.add (x6_3).toNat)=some (.int .i64 (rd t117 x6_3))) (ds:= []) (ar 0 7) (by kernel_rfl) rfl rfl ⟨(blk_cell BK109.out 0).trans rfl,(blk_cell BK109.out 1).trans rfl,hx120_0⟩ (fun hHeld=>?_);generalize wr.drew=w38 at HO_5 BK109 HB hx120_0 hHeld ⊢;refine pure_ (i:=1) (N:=some 66) (v:=?_) (a':=?_) #[O,U,O,O,O,O,O] rfl rfl (by kernel_rfl) hh_ (Or.inl ⟨by rfl,?_⟩) ?_ ?_;rotate_left
              ·intro w';go_simp;with_reducible rfl
              rotate_left
              ·simp only [nm_];rfl
              refine pure_ (i:=2) (N:=some 67) (v:=?_) (a':=?_) #[O,U,U,O,O,O,O] rfl rfl (by kernel_rfl) hh_ (Or.inl ⟨by rfl,?_⟩) ?_ ?_;rotate_left
              ·intro w';go_simp;with_reducible rfl
              rotate_left
              ·simp only [nm_];rfl
              refine pure_ (i:=3) (N:=some 68) (v:=?_) (a':=?_) #[O,U,U,U,O,O,O] rfl rfl (by kernel_rfl) hh_ (Or.inl ⟨by rfl,?_⟩) ?_ ?_;rotate_left
              ·intro w';go_simp;with_reducible rfl
              rotate_left
              ·simp only [nm_];rfl
              refine take_ (i:=0) (N:=some 65) (v:=?_) (a':=?_) (ar 4 3) rfl rfl (by kernel_rfl) hh_ (Or.inl ⟨by rfl,?_⟩) hHeld ?_ ?_;rotate_left
              ·rintro w' ⟨s0,s1,s2⟩;go_simp;with_reducible rfl
              rotate_left
              ·simp only [nm_];rfl
              refine take_ (i:=4) (N:=some 69) (v:=?_) (a':=?_) (ar 5 2) rfl rfl (by kernel_rfl) hh_ (Or.inl ⟨by rfl,?_⟩) hHeld ?_ ?_;rotate_left
              ·rintro w' ⟨s0,s1,s2⟩;go_simp;with_reducible rfl
              rotate_left
              ·simp only [nm_];rfl
              refine one_ (i:=5) (N:=some 70) (ar 6 1) rfl rfl (by kernel_rfl) (by decide) (fun K hK=>?_);refine gr Tryz.func61 #[.agg #[.int .i64 a0_0,.slice (some ad116) l0_1.length c0_1],.int .i64 (rd t117 x6_3)] ?_;with_reducible refine(spec_l01Has.calls k3 a0_0 _ _ l0_1 (rd t117 x6_3) false _ (cb (Kd.C_below HR0_1.out HB.out)) HC0_1.out A32.out).mono ?_
              rintro e w39 ⟨rfl,hb⟩;have HS2_:=(hb.cell (World.block_lt_of_cell? _ _ (hHeld.2.2))).trans (hHeld.2.2);refine⟨_,rfl,?_⟩;replace HO_5:=krA HO_5 hb;replace BK109:=bkA BK109 hb;replace HB:=bsA HB hb;(try clear hb)
              (try clear hb2)
              (try clear hk)
              (try clear hi)
              refine hK.out _ _ ⟨(blk_cell BK109.out 0).trans rfl,(blk_cell BK109.out 1).trans rfl,HS2_⟩ (fun hHeld=>?_);clear hK K;refine nr 70 ?_;refine pure_ (i:=6) (N:=some 71) (v:=?_) (a':=?_) (ar 7 0) rfl rfl (by kernel_rfl) hh_ (Or.inl ⟨by rfl,?_⟩) ?_ ?_;rotate_left
              ·intro w';go_simp;with_reducible rfl
              rotate_left
              ·simp only [nm_];rfl
              refine done_ (by kernel_rfl) ?_;try go_wp2
              go_ret;exact⟨rr,bl HB.out⟩
            ·rw[if_neg c31] at H;exact absurd H (by simp)
           ·rw[if_neg c30] at H;have c30b0:decide (x6_3<(t117.length:Int))=false:=decide_eq_false c30;clear c30;have H':=Aside0.mk H;clear H;obtain ⟨Ao40,co40,eo40⟩:=Kd.R_slice HO_5.out;subst eo40;go_wp2
            go_roundg k3
            case measure=>have:=HK1.out;have:=HK2.out;have:=HK3.out;omega
            case rel=>exact⟨(wrap64 (x4_2+1)),rs,H',⟨by have:=HK1.out;have:=HK2.out;have:=HK3.out;omega⟩,⟨bk BK109.out⟩,⟨bl HB.out⟩⟩
        ·rw[if_neg c26] at H;exact absurd H (by simp)
       ·rw[if_neg c25] at H;have c25b0:decide (x4_2<(l0_1.length:Int))=false:=decide_eq_false c25;clear c25;obtain rfl:=Option.some.inj H;have hcz41_0:=z0_ BK109;have hcz41_1:=z1_ BK109;have hfz41_0:=hf_ BK109 0;have hfz41_1:=hf_ BK109 1;go_wp2
        go_ret;exact⟨rr,bl HB.out⟩
 ·replace c3:=Bool.eq_false_iff.mpr c3;subst c3;have H1:(some false)=some r:=by rw[if_neg (show ¬ (false=true) by decide)] at H;exact H
  clear H;have H:=H1;clear H1;obtain rfl:=Option.some.inj H;go_enter Tryz.func71,Tryz.ntmps71;go_wp2_with (first|((with_reducible refine gate_dst (N:=1) rfl ?_);refine bx 1 #[.int .i64 a0_0,.slice A0_1 l0_1.length c0_1] 26 ?_;intro gb109 hg w42 hbox hb;have BK109:=Aside0.mk (hbox);have GE109:=gzA hg HB;replace HB:=bsA HB hb;clear hb hbox hg;have hcz43_0:=z0_ BK109;have hcz43_1:=z1_ BK109;have hfz43_0:=hf_ BK109 0;have hfz43_1:=hf_ BK109 1)|((with_reducible refine gate_callee (f:=95) rfl ?_);refine gl (some 9) Tryz.func95 #[.int .i64 a0_0,.int .i64 1,.int .i64 6] ?_;(with_reducible refine(spec_l01In.calls a0_0 1 6 false _ A2.out).mono ?_);rintro e w' ⟨rfl,⟨nd,rfl⟩⟩;refine⟨_,rfl,?_⟩))
  go_ret;exact⟨rr,bl HB.out⟩
end Go.Proofs.YtlhkdbkjafiikaaGreat.Q
end

section
namespace Go.Proofs.YtlhkdbkjafiikaaGreat.K
open Go.RowKit Go.Shelf Go.Proofs.YtlhkdbkjafiikaaGreat.Q Go.Proofs.YtlhkdbkjafiikaaGreatW.PrintWords Go.Proofs.YtlhkdbkjafiikaaGreatW.PrintLast Go.Proofs.YtlhkdbkjafiikaaGreatW.PrintMore
set_option linter.unusedVariables false
set_option linter.unusedSimpArgs false
theorem specHas_loop (n x:Int) (l:List Int) (hl:l.length≤9223372036854775806):∀(d i k:Nat),l.length - i=d→i≤l.length→d<k →
  spec_l01Has.l0 k x (i:Int) n l=some (decide (x ∈ l.drop i)):=by
 intro d
 induction d with
 |zero=>
  intro i k hd hi hk
  obtain ⟨k,rfl⟩:∃ m,k=m+1:=⟨k - 1,by omega⟩
  obtain rfl:i=l.length:=by omega
  simp only [spec_l01Has.l0]
  rw[if_neg (by omega)]
  simp
 |succ d ih=>
  intro i k hd hi hk
  obtain ⟨k,rfl⟩:∃ m,k=m+1:=⟨k - 1,by omega⟩
  simp only [spec_l01Has.l0]
  have hil:i<l.length:=by omega
  rw[if_pos (by omega),if_pos (by omega),rd_nat l i hil,w64 _ (by omega) (by omega),nat_succ,List.drop_eq_getElem_cons hil]
  by_cases h:l[i]=x
  ·rw[if_pos h]
   exact congrArg some (decide_eq_true (by rw[h];exact List.mem_cons_self)).symm
  ·rw[if_neg h,ih (i+1) k (by omega) (by omega) (by omega)]
   exact congrArg some (decide_eq_decide.2 (by rw[List.mem_cons];constructor <;> intro h2;exact .inr h2;exact h2.resolve_left (fun e=>h e.symm)))
theorem specHas_is (n x:Int) (l:List Int) (hl:l.length≤9223372036854775806) (k:Nat) (hk:l.length<k):spec_l01Has.f k n l x=some (decide (x ∈ l)):=by
 unfold spec_l01Has.f
 have:=specHas_loop n x l hl l.length 0 k (by omega) (by omega) hk
 simpa using this
theorem specBelow_64:∀ m:Fin 64,m.val≠0→spec_l01Below.f 64 (m.val:Int)=some (bords (m.val:Int)):=by decide +kernel
theorem specBelow_is (f:Int) (h1:1≤f) (h2:f≤63) (k:Nat) (hk:64≤k):spec_l01Below.f k f=some (bords f):=by
 obtain ⟨m,rfl⟩:=Int.eq_ofNat_of_zero_le (show 0≤f by omega)
 exact at_rounds (fun k=>spec_l01Below.mono _ k) hk (specBelow_64 ⟨m,by omega⟩ (by show m≠0;omega))
theorem asc_of_good (n:Int) (l:List Int) (h:∀ j,j<l.length→goodAt n l j):Asc l:=by
 rw[Asc,List.pairwise_iff_getElem]
 intro i j hi hj hij
 induction j with
 |zero=>omega
 |succ j ih=>
  have h1:=(h (j+1) hj hj).2.2 (by omega)
  simp only [Nat.add_sub_cancel] at h1
  rcases Nat.lt_or_ge i j with h2|h2
  ·have:=ih (by omega) h2
   omega
  ·obtain rfl:i=j:=by omega
   exact h1
theorem good_iff (n:Int) (l:List Int):rangeAsc n l=true↔∀ j,j<l.length→goodAt n l j:=by simp [rangeAsc]
theorem isC_iff (n:Int) (l:List Int):isC n l=true↔(1≤n∧n≤6)∧(∀ j,j<l.length→goodAt n l j)∧∀ f ∈ l,closedAt l f=true:=by
 simp [isC,good_iff,and_assoc]
theorem specIs_l2 (n:Int) (l:List Int) (hl:l.length≤2097152) (hs:Asc l) (x4:Int) (bs:List Int) (hb:bs.length≤6) (R:Nat) (r:Bool)
  (hnext:∀ k,R≤k→spec_l01Is.l1 k (wrap64 (x4+1)) n l=some r):∀(d i k:Nat),bs.length - i=d→i≤bs.length→R+l.length+1+d<k →
  spec_l01Is.l2 k x4 bs (i:Int) n l=some ((bs.drop i).all (hasB l) && r):=by
 intro d
 induction d with
 |zero=>
  intro i k hd hi hk
  obtain ⟨k,rfl⟩:∃ m,k=m+1:=⟨k - 1,by omega⟩
  obtain rfl:i=bs.length:=by omega
  simp only [spec_l01Is.l2]
  rw[if_neg (by omega),hnext k (by omega)]
  simp
 |succ d ih=>
  intro i k hd hi hk
  obtain ⟨k,rfl⟩:∃ m,k=m+1:=⟨k - 1,by omega⟩
  simp only [spec_l01Is.l2]
  have hil:i<bs.length:=by omega
  rw[if_pos (by omega),if_pos (by omega),rd_nat bs i hil,specHas_is n _ l (by omega) k (by omega)]
  simp only [Option.bind_some]
  rw[w64 ((i:Int)+1) (by omega) (by omega),nat_succ,List.drop_eq_getElem_cons hil,List.all_cons,has_asc l _ (by omega) hs]
  by_cases h:bs[i] ∈ l
  ·simp only [h,decide_true,if_true,Bool.true_and]
   exact ih (i+1) k (by omega) (by omega) (by omega)
  ·simp only [h,decide_false,Bool.false_and,Bool.false_eq_true,if_false]
theorem specIs_l1 (n:Int) (l:List Int) (hl:l.length≤2097152) (hn:1≤n∧n≤6) (hg:∀ j,j<l.length→goodAt n l j):∀(d i k:Nat),l.length - i=d→i≤l.length→9*d+(d+1)*(l.length+2)+70<k →
  spec_l01Is.l1 k (i:Int) n l=some ((l.drop i).all (closedAt l)):=by
 have hs:=asc_of_good n l hg
 have hF:=full_range n hn
 intro d
 induction d with
 |zero=>
  intro i k hd hi hk
  obtain ⟨k,rfl⟩:∃ m,k=m+1:=⟨k - 1,by omega⟩
  obtain rfl:i=l.length:=by omega
  simp only [spec_l01Is.l1]
  rw[if_neg (by omega)]
  simp
 |succ d ih=>
  intro i k hd hi hk
  obtain ⟨k,rfl⟩:∃ m,k=m+1:=⟨k - 1,by omega⟩
  simp only [spec_l01Is.l1]
  have hil:i<l.length:=by omega
  have hgi:=hg i hil hil
  have hmul:(d+1+1)*(l.length+2)=(d+1)*(l.length+2)+(l.length+2):=by rw[Nat.add_mul];omega
  rw[if_pos (by omega),if_pos (by omega),rd_nat l i hil,specBelow_is l[i] (by omega) (by omega) k (by omega)]
  simp only [Option.bind_some]
  have:=specIs_l2 n l hl hs (i:Int) (bords l[i]) (bords_length _) (9*d+(d+1)*(l.length+2)+71) ((l.drop (i+1)).all (closedAt l))
   (fun k hk=>by rw[w64 _ (by omega) (by omega),nat_succ];exact ih (i+1) k (by omega) (by omega) (by omega)) (bords l[i]).length 0 k (by omega) (by omega) (by have:=bords_length l[i];omega)
  rw[show ((0:Nat):Int)=0 from rfl] at this
  rw[this,List.drop_eq_getElem_cons hil,List.all_cons,List.drop_zero]
  rfl
theorem specIs_l0 (n:Int) (l:List Int) (hl:l.length≤2097152) (hn:1≤n∧n≤6):∀(d i k:Nat),l.length - i=d→i≤l.length→(∀ j,j<i→goodAt n l j) →
  d+9*l.length+(l.length+1)*(l.length+2)+72<k→spec_l01Is.l0 k (i:Int) n l=some (isC n l):=by
 have hF:=full_range n hn
 intro d
 induction d with
 |zero=>
  intro i k hd hi hg hk
  obtain ⟨k,rfl⟩:∃ m,k=m+1:=⟨k - 1,by omega⟩
  obtain rfl:i=l.length:=by omega
  simp only [spec_l01Is.l0]
  rw[if_neg (by omega)]
  have:=specIs_l1 n l hl hn hg l.length 0 k (by omega) (by omega) (by omega)
  rw[show ((0:Nat):Int)=0 from rfl] at this
  rw[this,List.drop_zero]
  have h2:=(good_iff n l).2 hg
  simp [isC,hn,h2]
 |succ d ih=>
  intro i k hd hi hg hk
  obtain ⟨k,rfl⟩:∃ m,k=m+1:=⟨k - 1,by omega⟩
  simp only [spec_l01Is.l0]
  have hil:i<l.length:=by omega
  have hbad:¬ goodAt n l i→isC n l=false:=fun hb=>by
   unfold isC
   rw[rangeAsc_false n l i hil hb]
   simp
  rw[if_pos (by omega),if_pos (by omega),specAll_is n (by omega) (by omega)]
  simp only [Option.bind_some]
  rw[rd_nat l i hil,specIn_is,w64 ((i:Int)+1) (by omega) (by omega),nat_succ]
  simp only [Option.bind_some]
  by_cases hin:1≤l[i]∧l[i]≤fullOf n
  ·simp only [hin,and_self,decide_true,if_true]
   by_cases hi0:i=0
   ·subst hi0
    rw[if_neg (by omega)]
    exact ih 1 k (by omega) (by omega) (fun j hj=>(show j=0 by omega) ▸ (fun h=>⟨hin.1,hin.2,fun h0=>absurd h0 (Nat.lt_irrefl 0)⟩)) (by omega)
   ·have e1:((i:Int) - 1)=((i - 1:Nat):Int):=by omega
    rw[if_pos (by omega),w64 _ (by omega) (by omega),e1,if_pos (by omega),if_pos (by omega),rd_nat l (i - 1) (by omega)]
    by_cases hle:l[i]≤l[i - 1]
    ·rw[if_pos hle,hbad (fun h=>by have:=(h hil).2.2 (by omega);omega)]
    ·rw[if_neg hle]
     exact ih (i+1) k (by omega) (by omega) (fun j hj=>by
      rcases Nat.lt_or_ge j i with h|h
      ·exact hg j h
      ·obtain rfl:j=i:=by omega
       exact fun _=>⟨hin.1,hin.2,fun _=>by omega⟩) (by omega)
  ·simp only [hin,decide_false,Bool.false_eq_true,if_false]
   rw[hbad (fun h=>hin ⟨(h hil).1,(h hil).2.1⟩)]
def isK (l:List Int):Nat:=10*l.length+(l.length+1)*(l.length+2)+73
theorem specIs_is (n:Int) (l:List Int) (hl:l.length≤2097152) (k:Nat) (hk:isK l≤k):spec_l01Is.f k n l=some (isC n l):=by
 unfold isK at hk
 unfold spec_l01Is.f
 rw[specIn_is]
 simp only [Option.bind_some]
 by_cases hn:1≤n∧n≤6
 ·simp only [hn,and_self,decide_true,if_true]
  have:=specIs_l0 n l hl hn l.length 0 k (by omega) (by omega) (fun j hj=>absurd hj (Nat.not_lt_zero _)) (by omega)
  simpa using this
 ·simp only [hn,decide_false,Bool.false_eq_true,if_false]
  simp [isC,hn]
end Go.Proofs.YtlhkdbkjafiikaaGreat.K
end

section
namespace Go.Proofs.YtlhkdbkjafiikaaGreat.Q
open Go.RowKit Go.Proofs.YtlhkdbkjafiikaaGreatW.PrintWords Go.Proofs.YtlhkdbkjafiikaaGreatW.PrintLast Go.Proofs.YtlhkdbkjafiikaaGreatW.PrintMore
attribute [local go_sem] max2_int min2_int max_two min_two max_three min_three max_four min_four
set_option linter.unusedVariables false
set_option linter.unusedSimpArgs false
def impl_isOrder.l0:Nat→List Int→Int→Int→List Int→Int→Int→Option (Bool)
 |0,_,_,_,_,_,_=>none
 |k+1,x0,x1,x5,x8,x9,x10=>if x10<x9 then (if 0≤x10 then (if x10<(x8.length:Int) then ((impl_within.f (rd x8 x10) 0 (wrap64 (x1 - 1))).bind fun t559=>(if t559=true then (if 0≤(rd x8 x10) then (impl_isOrder.l0 k x0 x1 (Go.bits .or .i64 x5 (shl .i64 1 (rd x8 x10))) x8 x9 (wrap64 (x10+1))) else (none)) else (some false))) else (none)) else (none)) else ((impl_length_int64.f x0).bind fun t560=>(if t560=x1 then (if 0≤x1 then (some (x5 == (wrap64 ((shl .i64 1 x1) - 1)))) else (none)) else (some false)))
def impl_isOrder.f (k:Nat) (l0:List Int) (a1:Int):Option (Bool):=impl_isOrder.l0 k l0 a1 0 l0 (l0.length:Int) 0
theorem impl_isOrder.mono_l:∀ k,(∀ y0 y1 y2 y3 y4 y5,LeO (impl_isOrder.l0 k y0 y1 y2 y3 y4 y5) (impl_isOrder.l0 (k+1) y0 y1 y2 y3 y4 y5))
 |0=>fun _ _ _ _ _ _ r h=>by simp [impl_isOrder.l0] at h
 |k+1=>by
  have ih0:=impl_isOrder.mono_l k
  ·intro y0 y1 y2 y3 y4 y5;unfold impl_isOrder.l0;repeat' first
   |(with_reducible first|exact ih0 _ _ _ _ _ _|exact LeO.refl _|exact LeO.none _|refine LeO.ite ?_ ?_|refine LeO.bind ?_ (fun _=>?_))
theorem impl_isOrder.mono:∀ a0 a1 k,LeO (impl_isOrder.f k a0 a1) (impl_isOrder.f (k+1) a0 a1):=by
 intro a0 a1 k;have ih0:=impl_isOrder.mono_l k;unfold impl_isOrder.f;repeat' first
   |(with_reducible first|exact ih0 _ _ _ _ _ _|exact LeO.refl _|exact LeO.none _|refine LeO.ite ?_ ?_|refine LeO.bind ?_ (fun _=>?_))
set_option maxHeartbeats 8000000 in
set_option maxRecDepth 100000 in
theorem impl_isOrder.calls (k:Nat) (A0:Option Addr) (c0:Nat) (l0:List Int) (a1:Int) (r:Bool) (w:World) (hr0:Kd.C (Kd.int .i64) w A0 l0.length l0) (hc0:l0.length≤c0) (h:impl_isOrder.f k l0 a1=some r) :
  Calls Tryz.prog 83 #[.slice A0 l0.length c0,.int .i64 a1] w fun e w'=>e = .returned (.bool r)∧Drawn0 w w':=by
 have HR0:=Aside0.mk hr0;have HC0:=Aside0.mk hc0;clear hr0 hc0;have H:(impl_isOrder.l0 k l0 a1 0 l0 (l0.length:Int) 0)=some r:=h;clear h;have H':=Aside0.mk H;clear H;go_enter Tryz.func83,Tryz.ntmps83;go_wp2
 go_loopg [5,10] k (fun kq v5 v10 w'=>∃(x5_1:Int) (x10_1:Int),v5 = .int .i64 x5_1∧v10 = .int .i64 x10_1∧Aside0 (impl_isOrder.l0 kq l0 a1 x5_1 l0 (l0.length:Int) x10_1=some r)∧Aside0 (kq≤k)∧Drawn0 w w')
 case atStart=>exact⟨(0),(0),rs,rs,H',⟨Nat.le_refl _⟩,by repeat(first|exact Drawn0.refl _|apply Drawn0.step)⟩
 case round=>
  clear H';try clear p2
  obtain ⟨x5_1,x10_1,rfl,rfl,HA,HK1,⟨m1,rfl⟩⟩:=hrel;cases gk with
  |zero=>exact absurd HA.out (by simp [impl_isOrder.l0])
  |succ k1=>
   have H:=HA.out;clear HA;simp only [impl_isOrder.l0] at H;by_cases c3:x10_1<(l0.length:Int)
   ·rw[if_pos c3] at H;have c3b0:decide (x10_1<(l0.length:Int))=true:=decide_eq_true c3;clear c3;by_cases c4:0≤x10_1
    ·rw[if_pos c4] at H;have c4b0:decide (0≤x10_1)=true:=decide_eq_true c4;clear c4;by_cases c5:x10_1<(l0.length:Int)
     ·rw[if_pos c5] at H;have c5b0:decide (x10_1<(l0.length:Int))=true:=decide_eq_true c5;clear c5;replace H:=Option.bind_eq_some_iff.mp H;obtain ⟨t559,A60,H⟩:=H;replace H:(if t559=true then (if 0≤(rd l0 x10_1) then (impl_isOrder.l0 k1 l0 a1 (Go.bits .or .i64 x5_1 (shl .i64 1 (rd l0 x10_1))) l0 (l0.length:Int) (wrap64 (x10_1+1))) else (none)) else (some false))=some r:=H;have A6:=Aside0.mk A60;clear A60;by_cases c7:t559=true
      ·subst c7;have H1:(if 0≤(rd l0 x10_1) then (impl_isOrder.l0 k1 l0 a1 (Go.bits .or .i64 x5_1 (shl .i64 1 (rd l0 x10_1))) l0 (l0.length:Int) (wrap64 (x10_1+1))) else (none))=some r:=by rw[if_pos rfl] at H;exact H
       clear H;have H:=H1;clear H1;by_cases c8:0≤(rd l0 x10_1)
       ·rw[if_pos c8] at H;have c8b0:=eq_true c8;have c8b1:decide (0≤(rd l0 x10_1))=true:=decide_eq_true c8;clear c8;obtain ⟨ji9,hji9⟩:∃ j_:Int,(shl .i64 1 (rd l0 x10_1))=j_:=⟨_,rfl⟩
        replace H:(impl_isOrder.l0 k1 l0 a1 (Go.bits .or .i64 x5_1 (ji9)) l0 (l0.length:Int) (wrap64 (x10_1+1)))=some r:=by first|(rw[hji9] at H;exact H)|(simp only [hji9] at H ⊢;exact H)
        (try rw[hji9] at A6)
        have hji9_:(IntKind.i64.wrap (1*2 ^ min (rd l0 x10_1).toNat 64))=ji9:=hji9;have hji9z:(rd l0 x10_1)≤64→(IntKind.i64.wrap (1*2 ^ (rd l0 x10_1).toNat))=ji9:=shl_small hji9;have hji9u:(IntKind.i64.wrap (2 ^ min (rd l0 x10_1).toNat 64))=ji9:=by have h_:=hji9_;rw[Int.one_mul] at h_;exact h_
        have hji9v:(rd l0 x10_1)≤64→(IntKind.i64.wrap (2 ^ (rd l0 x10_1).toNat))=ji9:=fun hle_=>by have h_:=hji9z hle_;rw[Int.one_mul] at h_;exact h_
        have hji9y:(wrap64 (1*2 ^ min (rd l0 x10_1).toNat 64))=ji9:=(i64_w _).symm.trans hji9_;have hji9x:(rd l0 x10_1)≤64→(wrap64 (1*2 ^ (rd l0 x10_1).toNat))=ji9:=fun h_=>(i64_w _).symm.trans (hji9z h_)
        have H':=Aside0.mk H;clear H;have p558:0≤(x10_1:Int):=dd;have q558:x10_1<(l0.length:Int):=dd;obtain ⟨ad558,e558,hx558_0⟩:=Kd.at_int HR0.out x10_1 p558 q558;cases e558;replace p558:=eq_true p558;replace q558:=eq_true q558;go_wp2_with (first|((with_reducible refine gate_callee (f:=93) rfl ?_);refine gl (some 17) Tryz.func93 #[.int .i64 (rd l0 x10_1),.int .i64 0,.int .i64 (wrap64 (a1 - 1))] ?_;(with_reducible refine(impl_within.calls (rd l0 x10_1) 0 (wrap64 (a1 - 1)) true _ A6.out).mono ?_);rintro e w' ⟨rfl,⟨nd,rfl⟩⟩;refine⟨_,rfl,?_⟩))
        go_roundg k1
        case measure=>have:=HK1.out;omega
        case rel=>exact⟨(Go.bits .or .i64 x5_1 (ji9)),(wrap64 (x10_1+1)),(by first|rfl|(simp;done)|(simp only [← hji9] <;> (first|rfl|simp))|(simp [*];done)),rs,H',⟨by have:=HK1.out;omega⟩,by repeat(first|exact Drawn0.refl _|apply Drawn0.step)⟩
       ·rw[if_neg c8] at H;exact absurd H (by simp)
      ·replace c7:=Bool.eq_false_iff.mpr c7;subst c7;have H1:(some false)=some r:=by rw[if_neg (show ¬ (false=true) by decide)] at H;exact H
       clear H;have H:=H1;clear H1;obtain rfl:=Option.some.inj H;have p558:0≤(x10_1:Int):=dd;have q558:x10_1<(l0.length:Int):=dd;obtain ⟨ad558,e558,hx558_0⟩:=Kd.at_int HR0.out x10_1 p558 q558;cases e558;replace p558:=eq_true p558;replace q558:=eq_true q558;go_wp2_with (first|((with_reducible refine gate_callee (f:=93) rfl ?_);refine gl (some 17) Tryz.func93 #[.int .i64 (rd l0 x10_1),.int .i64 0,.int .i64 (wrap64 (a1 - 1))] ?_;(with_reducible refine(impl_within.calls (rd l0 x10_1) 0 (wrap64 (a1 - 1)) false _ A6.out).mono ?_);rintro e w' ⟨rfl,⟨nd,rfl⟩⟩;refine⟨_,rfl,?_⟩))
       go_ret;exact⟨rs,by repeat(first|exact Drawn0.refl _|apply Drawn0.step)⟩
     ·rw[if_neg c5] at H;exact absurd H (by simp)
    ·rw[if_neg c4] at H;exact absurd H (by simp)
   ·rw[if_neg c3] at H;have c3b0:decide (x10_1<(l0.length:Int))=false:=decide_eq_false c3;clear c3;replace H:=Option.bind_eq_some_iff.mp H;obtain ⟨t560,A100,H⟩:=H;replace H:(if t560=a1 then (if 0≤a1 then (some (x5_1 == (wrap64 ((shl .i64 1 a1) - 1)))) else (none)) else (some false))=some r:=H;have A10:=Aside0.mk A100;clear A100;by_cases c11:t560=a1
    ·rw[if_pos c11] at H;have c11b0:(t560 == a1)=true:=beq_iff_eq.mpr c11;have c11b1:(t560 != a1)=false:=bne_eq_false_iff_eq.mpr c11;clear c11;by_cases c12:0≤a1
     ·rw[if_pos c12] at H;have c12b0:=eq_true c12;have c12b1:decide (0≤a1)=true:=decide_eq_true c12;clear c12;obtain ⟨ji13,hji13⟩:∃ j_:Int,(shl .i64 1 a1)=j_:=⟨_,rfl⟩
      replace H:(some (x5_1 == (wrap64 ((ji13) - 1))))=some r:=by first|(rw[hji13] at H;exact H)|(simp only [hji13] at H ⊢;exact H)
      (try rw[hji13] at A10)
      have hji13_:(IntKind.i64.wrap (1*2 ^ min a1.toNat 64))=ji13:=hji13;have hji13z:a1≤64→(IntKind.i64.wrap (1*2 ^ a1.toNat))=ji13:=shl_small hji13;have hji13u:(IntKind.i64.wrap (2 ^ min a1.toNat 64))=ji13:=by have h_:=hji13_;rw[Int.one_mul] at h_;exact h_
      have hji13v:a1≤64→(IntKind.i64.wrap (2 ^ a1.toNat))=ji13:=fun hle_=>by have h_:=hji13z hle_;rw[Int.one_mul] at h_;exact h_
      have hji13y:(wrap64 (1*2 ^ min a1.toNat 64))=ji13:=(i64_w _).symm.trans hji13_;have hji13x:a1≤64→(wrap64 (1*2 ^ a1.toNat))=ji13:=fun h_=>(i64_w _).symm.trans (hji13z h_)
      obtain rfl:=Option.some.inj H;go_wp2_with (first|((with_reducible refine gate_callee (f:=110) rfl ?_);refine gl (some 25) Tryz.func110 #[.slice A0 l0.length c0] ?_;(with_reducible refine(impl_length_int64.calls _ _ l0 t560 _ (cb HR0.out) HC0.out A10.out).mono ?_);rintro e w' ⟨rfl,⟨nd,rfl⟩⟩;refine⟨_,rfl,?_⟩))
      go_ret;exact⟨by first|rfl|(simp;done)|(simp only [← hji13] <;> (first|rfl|simp))|(simp [*];done),by repeat(first|exact Drawn0.refl _|apply Drawn0.step)⟩
     ·rw[if_neg c12] at H;exact absurd H (by simp)
    ·rw[if_neg c11] at H;have c11b0:(t560 == a1)=false:=beq_eq_false_iff_ne.mpr c11;have c11b1:(t560 != a1)=true:=bne_iff_ne.mpr c11;obtain rfl:=Option.some.inj H;go_wp2_with (first|((with_reducible refine gate_callee (f:=110) rfl ?_);refine gl (some 25) Tryz.func110 #[.slice A0 l0.length c0] ?_;(with_reducible refine(impl_length_int64.calls _ _ l0 t560 _ (cb HR0.out) HC0.out A10.out).mono ?_);rintro e w' ⟨rfl,⟨nd,rfl⟩⟩;refine⟨_,rfl,?_⟩))
     go_ret;exact⟨rs,by repeat(first|exact Drawn0.refl _|apply Drawn0.step)⟩
def impl_imageOf.l0:Nat→List Int→Int→List Int→Int→Int→Option (Int)
 |0,_,_,_,_,_=>none
 |k+1,x1,x5,x9,x10,x11=>if x11<x10 then (if 0≤x11 then (if x11<(x9.length:Int) then (if 0≤(rd x9 x11) then (if (rd x9 x11)<(x1.length:Int) then (if 0≤(rd x1 (rd x9 x11)) then (impl_imageOf.l0 k x1 (Go.bits .or .i64 x5 (shl .i64 1 (rd x1 (rd x9 x11)))) x9 x10 (wrap64 (x11+1))) else (none)) else (none)) else (none)) else (none)) else (none)) else (some x5)
def impl_imageOf.f (k:Nat) (a0:Int) (l1:List Int):Option (Int):=(impl_vertices.f k a0).bind fun t561=>(impl_imageOf.l0 k l1 0 t561 (t561.length:Int) 0)
theorem impl_imageOf.mono_l:∀ k,(∀ y0 y1 y2 y3 y4,LeO (impl_imageOf.l0 k y0 y1 y2 y3 y4) (impl_imageOf.l0 (k+1) y0 y1 y2 y3 y4))
 |0=>fun _ _ _ _ _ r h=>by simp [impl_imageOf.l0] at h
 |k+1=>by
  have ih0:=impl_imageOf.mono_l k
  ·intro y0 y1 y2 y3 y4;unfold impl_imageOf.l0;repeat' first
   |(with_reducible first|exact ih0 _ _ _ _ _|exact impl_vertices.mono _ _|exact LeO.refl _|exact LeO.none _|refine LeO.ite ?_ ?_|refine LeO.bind ?_ (fun _=>?_))
theorem impl_imageOf.mono:∀ a0 a1 k,LeO (impl_imageOf.f k a0 a1) (impl_imageOf.f (k+1) a0 a1):=by
 intro a0 a1 k;have ih0:=impl_imageOf.mono_l k;unfold impl_imageOf.f;repeat' first
   |(with_reducible first|exact ih0 _ _ _ _ _|exact impl_vertices.mono _ _|exact LeO.refl _|exact LeO.none _|refine LeO.ite ?_ ?_|refine LeO.bind ?_ (fun _=>?_))
set_option maxHeartbeats 8000000 in
set_option maxRecDepth 100000 in
theorem impl_imageOf.calls (k:Nat) (a0:Int) (A1:Option Addr) (c1:Nat) (l1:List Int) (r:Int) (w:World) (hr1:Kd.C (Kd.int .i64) w A1 l1.length l1) (hc1:l1.length≤c1) (h:impl_imageOf.f k a0 l1=some r) :
  Calls Tryz.prog 84 #[.int .i64 a0,.slice A1 l1.length c1] w fun e w'=>e = .returned (.int .i64 r)∧Below w.heap.size w w':=by
 have HR1:=Aside0.mk hr1;have HC1:=Aside0.mk hc1;clear hr1 hc1;have HB:=Aside0.mk (Below.refl w.heap.size w);have H:((impl_vertices.f k a0).bind fun t561=>(impl_imageOf.l0 k l1 0 t561 (t561.length:Int) 0))=some r:=h;clear h;replace H:=Option.bind_eq_some_iff.mp H;obtain ⟨t561,A30,H⟩:=H;replace H:(impl_imageOf.l0 k l1 0 t561 (t561.length:Int) 0)=some r:=H;have A3:=Aside0.mk A30;clear A30;have H':=Aside0.mk H;clear H;go_enter Tryz.func84,Tryz.ntmps84;go_wp2_with (first|((with_reducible refine gate_callee (f:=131) rfl ?_);refine gl (some 9) Tryz.func131 #[.int .i64 a0] ?_;(with_reducible refine(impl_vertices.calls k a0 t561 _ A3.out).mono ?_);rintro e w4 ⟨v562,rfl,ho0,hb⟩;refine⟨_,rfl,?_⟩;have HO563:=klA ho0 HB;replace HB:=bsA HB hb;(try clear hb);(try clear hb2);(try clear hk);(try clear hi);(try clear ho0);obtain ⟨Ao5,co5,eo5⟩:=Kd.R_slice HO563.out;subst eo5))
 go_loopg [5,11] k (fun kq v5 v11 w'=>∃(x5_1:Int) (x11_1:Int),v5 = .int .i64 x5_1∧v11 = .int .i64 x11_1∧Aside0 (impl_imageOf.l0 kq l1 x5_1 t561 (t561.length:Int) x11_1=some r)∧Aside0 (kq≤k)∧Aside0 (Kd.R (Kd.int .i64) 2 w' w.heap.size (fun _=>True) (.slice Ao5 t561.length co5) t561)∧Aside0 (Below w.heap.size w w'))
 case atStart=>exact⟨(0),(0),rs,rs,H',⟨Nat.le_refl _⟩,⟨kr HO563.out⟩,⟨bl HB.out⟩⟩
 case round=>
  clear H';try clear c1
  try clear p2
  obtain ⟨x5_1,x11_1,rfl,rfl,HA,HK1,HO_9,HB⟩:=hrel;cases gk with
  |zero=>exact absurd HA.out (by simp [impl_imageOf.l0])
  |succ k1=>
   have H:=HA.out;clear HA;simp only [impl_imageOf.l0] at H;by_cases c6:x11_1<(t561.length:Int)
   ·rw[if_pos c6] at H;have c6b0:decide (x11_1<(t561.length:Int))=true:=decide_eq_true c6;clear c6;by_cases c7:0≤x11_1
    ·rw[if_pos c7] at H;have c7b0:decide (0≤x11_1)=true:=decide_eq_true c7;clear c7;by_cases c8:x11_1<(t561.length:Int)
     ·rw[if_pos c8] at H;have c8b0:decide (x11_1<(t561.length:Int))=true:=decide_eq_true c8;clear c8;by_cases c9:0≤(rd t561 x11_1)
      ·rw[if_pos c9] at H;have c9b0:decide (0≤(rd t561 x11_1))=true:=decide_eq_true c9;clear c9;by_cases c10:(rd t561 x11_1)<(l1.length:Int)
       ·rw[if_pos c10] at H;have c10b0:decide ((rd t561 x11_1)<(l1.length:Int))=true:=decide_eq_true c10;clear c10;by_cases c11:0≤(rd l1 (rd t561 x11_1))
        ·rw[if_pos c11] at H;have c11b0:=eq_true c11;have c11b1:decide (0≤(rd l1 (rd t561 x11_1)))=true:=decide_eq_true c11;clear c11;obtain ⟨ji12,hji12⟩:∃ j_:Int,(shl .i64 1 (rd l1 (rd t561 x11_1)))=j_:=⟨_,rfl⟩
         replace H:(impl_imageOf.l0 k1 l1 (Go.bits .or .i64 x5_1 (ji12)) t561 (t561.length:Int) (wrap64 (x11_1+1)))=some r:=by first|(rw[hji12] at H;exact H)|(simp only [hji12] at H ⊢;exact H)
         have hji12_:(IntKind.i64.wrap (1*2 ^ min (rd l1 (rd t561 x11_1)).toNat 64))=ji12:=hji12;have hji12z:(rd l1 (rd t561 x11_1))≤64→(IntKind.i64.wrap (1*2 ^ (rd l1 (rd t561 x11_1)).toNat))=ji12:=shl_small hji12;have hji12u:(IntKind.i64.wrap (2 ^ min (rd l1 (rd t561 x11_1)).toNat 64))=ji12:=by have h_:=hji12_;rw[Int.one_mul] at h_;exact h_
         have hji12v:(rd l1 (rd t561 x11_1))≤64→(IntKind.i64.wrap (2 ^ (rd l1 (rd t561 x11_1)).toNat))=ji12:=fun hle_=>by have h_:=hji12z hle_;rw[Int.one_mul] at h_;exact h_
         have hji12y:(wrap64 (1*2 ^ min (rd l1 (rd t561 x11_1)).toNat 64))=ji12:=(i64_w _).symm.trans hji12_;have hji12x:(rd l1 (rd t561 x11_1))≤64→(wrap64 (1*2 ^ (rd l1 (rd t561 x11_1)).toNat))=ji12:=fun h_=>(i64_w _).symm.trans (hji12z h_)
         have H':=Aside0.mk H;clear H;have p564:0≤(x11_1:Int):=dd;have q564:x11_1<(t561.length:Int):=dd;obtain ⟨ad564,e564,hx564_0⟩:=Kd.at_int (Kd.R_reads' HO_9.out).2.2 x11_1 p564 q564;cases e564;replace p564:=eq_true p564;replace q564:=eq_true q564;have p565:0≤((rd t561 x11_1):Int):=dd;have q565:(rd t561 x11_1)<(l1.length:Int):=dd;obtain ⟨ad565,e565,hx565_0⟩:=Kd.at_int HR1.out (rd t561 x11_1) p565 q565;cases e565;replace hx565_0:=hx_ HB hx565_0;replace p565:=eq_true p565;replace q565:=eq_true q565;go_wp2
         go_roundg k1
         case measure=>have:=HK1.out;omega
         case rel=>exact⟨(Go.bits .or .i64 x5_1 (ji12)),(wrap64 (x11_1+1)),(by first|rfl|(simp;done)|(simp only [← hji12] <;> (first|rfl|simp))|(simp [*];done)),rs,H',⟨by have:=HK1.out;omega⟩,⟨kr HO_9.out⟩,⟨bl HB.out⟩⟩
        ·rw[if_neg c11] at H;exact absurd H (by simp)
       ·rw[if_neg c10] at H;exact absurd H (by simp)
      ·rw[if_neg c9] at H;exact absurd H (by simp)
     ·rw[if_neg c8] at H;exact absurd H (by simp)
    ·rw[if_neg c7] at H;exact absurd H (by simp)
   ·rw[if_neg c6] at H;have c6b0:decide (x11_1<(t561.length:Int))=false:=decide_eq_false c6;clear c6;obtain rfl:=Option.some.inj H;go_wp2
    go_ret;exact⟨rr,bl HB.out⟩
def impl_dimension.f (a0:Int):Option (Int):=(impl_size.f a0).bind fun t566=>(some (wrap64 (t566 - 1)))
set_option maxHeartbeats 8000000 in
set_option maxRecDepth 100000 in
theorem impl_dimension.calls (a0:Int) (r:Int) (w:World) (h:impl_dimension.f a0=some r) :
  Calls Tryz.prog 99 #[.int .i64 a0] w fun e w'=>e = .returned (.int .i64 r)∧Drawn0 w w':=by
 have H:((impl_size.f a0).bind fun t566=>(some (wrap64 (t566 - 1))))=some r:=h;clear h;replace H:=Option.bind_eq_some_iff.mp H;obtain ⟨t566,A20,H⟩:=H;replace H:(some (wrap64 (t566 - 1)))=some r:=H;have A2:=Aside0.mk A20;clear A20;obtain rfl:=Option.some.inj H;go_enter Tryz.func99,Tryz.ntmps99;go_wp2_with (first|((with_reducible refine gate_callee (f:=135) rfl ?_);refine gl (some 4) Tryz.func135 #[.int .i64 a0] ?_;(with_reducible refine(impl_size.calls a0 t566 _ A2.out).mono ?_);rintro e w' ⟨rfl,⟨nd,rfl⟩⟩;refine⟨_,rfl,?_⟩))
 go_ret;exact⟨rs,by repeat(first|exact Drawn0.refl _|apply Drawn0.step)⟩
end Go.Proofs.YtlhkdbkjafiikaaGreat.Q
end

section
namespace Go.Proofs.YtlhkdbkjafiikaaGreat.K
open Go.RowKit Go.Shelf Go.Proofs.YtlhkdbkjafiikaaGreat.Q Go.Proofs.YtlhkdbkjafiikaaGreatW.PrintWords Go.Proofs.YtlhkdbkjafiikaaGreatW.PrintLast Go.Proofs.YtlhkdbkjafiikaaGreatW.PrintMore
set_option linter.unusedVariables false
set_option linter.unusedSimpArgs false
def onesI (f:Int):Int:=f % 2+f / 2 % 2+f / 4 % 2+f / 8 % 2+f / 16 % 2+f / 32 % 2
def dimI (f:Int):Int:=onesI f - 1
theorem ones_le (f:Int):0≤onesI f∧onesI f≤6:=by unfold onesI;omega
theorem dim_64:∀ m:Fin 64,impl_dimension.f (m.val:Int)=some (dimI (m.val:Int)):=by decide +kernel
theorem dim_is (f:Int) (h0:0≤f) (h1:f≤63):impl_dimension.f f=some (dimI f):=by
 obtain ⟨m,rfl⟩:=Int.eq_ofNat_of_zero_le h0
 exact dim_64 ⟨m,by omega⟩
theorem dim_range (f:Int): -1≤dimI f∧dimI f≤5:=by
 unfold dimI onesI
 omega
theorem dimension_calls (f:Int) (h0:0≤f) (h1:f≤63) (w:World):Calls Tryz.prog 99 #[I f] w fun e w'=>e = .returned (I (dimI f))∧Grew w w':=
 (impl_dimension.calls f (dimI f) w (dim_is f h0 h1)).mono fun e w' ⟨he,hd⟩=>⟨he,hd.below⟩
theorem tm_range (d:Int) (h: -1≤d∧d≤5): -1≤Int.tmod d 2∧Int.tmod d 2≤1:=by
 have:d = -1∨d=0∨d=1∨d=2∨d=3∨d=4∨d=5:=by omega
 rcases this with rfl|rfl|rfl|rfl|rfl|rfl|rfl <;> decide
end Go.Proofs.YtlhkdbkjafiikaaGreat.K
end

section
namespace Go.Proofs.YtlhkdbkjafiikaaGreat.K
open Go.RowKit Go.Shelf Go.Proofs.YtlhkdbkjafiikaaGreat.Q Go.Proofs.YtlhkdbkjafiikaaGreatW.PrintWords Go.Proofs.YtlhkdbkjafiikaaGreatW.PrintLast Go.Proofs.YtlhkdbkjafiikaaGreatW.PrintMore
set_option linter.unusedVariables false
set_option linter.unusedSimpArgs false
theorem up_64:∀ f g:Fin 64,f.val≠0→f≠g→inB (f.val:Int) (g.val:Int)=true→onesI (f.val:Int)<onesI (g.val:Int)∧(bords (g.val:Int)).any (fun h=>inB (f.val:Int) h && decide (onesI h+1=onesI (g.val:Int)∧(h=(f.val:Int)∨onesI (f.val:Int)<onesI h)))=true:=by decide +kernel
theorem up_is (f g:Int) (hf:1≤f∧f≤63) (hg:0≤g∧g≤63) (hne:f≠g) (hi:inB f g=true):onesI f<onesI g∧∃ h ∈ bords g,inB f h=true∧onesI h+1=onesI g∧(h=f∨onesI f<onesI h):=by
 obtain ⟨m,rfl⟩:=Int.eq_ofNat_of_zero_le (show 0≤f by omega)
 obtain ⟨k,rfl⟩:=Int.eq_ofNat_of_zero_le hg.1
 have:=up_64 ⟨m,by omega⟩ ⟨k,by omega⟩ (by show m≠0;omega) (fun e=>hne (by injection e with e;rw[e])) hi
 refine⟨this.1,?_⟩
 obtain ⟨h,h1,h2⟩:=List.any_eq_true.1 this.2
 simp only [Bool.and_eq_true,decide_eq_true_eq] at h2
 exact⟨h,h1,h2.1,h2.2.1,h2.2.2⟩
theorem closed_mem {n:Int} {l:List Int} (hi:isC n l=true) (g:Int) (hg:g ∈ l) (h:Int) (hh:h ∈ bords g):h ∈ l:=by
 obtain ⟨hn,hs,hr,h63⟩:=isC_faces hi
 have h1:=((isC_iff n l).1 hi).2.2 g hg
 unfold closedAt at h1
 rw[List.all_eq_true] at h1
 have h2:=h1 h hh
 rw[has_asc l h (by omega) hs] at h2
 exact of_decide_eq_true h2
theorem sub_mem {n:Int} {l:List Int} (hi:isC n l=true) (h:Int) (hh:1≤h∧h≤63):∀(d:Nat) (g:Int),g ∈ l→inB h g=true→onesI g≤onesI h+d→h ∈ l:=by
 obtain ⟨hn,hs,hr,h63⟩:=isC_faces hi
 intro d
 induction d with
 |zero=>
  intro g hg hin hle
  have hgr:=hr g hg
  by_cases e:h=g
  ·rw[e];exact hg
  ·have:=(up_is h g hh (by omega) e hin).1
   omega
 |succ d ih=>
  intro g hg hin hle
  have hgr:=hr g hg
  by_cases e:h=g
  ·rw[e];exact hg
  ·obtain ⟨h1,x,hx,h2,h3,h4⟩:=up_is h g hh (by omega) e hin
   exact ih x (closed_mem hi g hg x hx) h2 (by omega)
theorem sub_in {n:Int} {l:List Int} (hi:isC n l=true) (h g:Int) (hh:1≤h∧h≤63) (hg:g ∈ l) (hin:inB h g=true):h ∈ l:=by
 have h1:0≤onesI h:=by unfold onesI;omega
 exact sub_mem hi h hh (onesI g).toNat g hg hin (by omega)
def bt (f:Int) (v:Nat):Bool:=f.toNat.testBit v
theorem inB_bt_64:∀ a b:Fin 64,inB (a.val:Int) (b.val:Int)=(List.range 6).all (fun v=>!(bt (a.val:Int) v) ||bt (b.val:Int) v):=by decide +kernel
theorem and_bt_64:∀ a b:Fin 64,decide (Go.bits .and .i64 (a.val:Int) (b.val:Int)=0)=(List.range 6).all (fun v=>!(bt (a.val:Int) v && bt (b.val:Int) v)):=by decide +kernel
theorem or_bt_64:∀ a b:Fin 64,((List.range 6).all (fun v=>bt (Go.bits .or .i64 (a.val:Int) (b.val:Int)) v == (bt (a.val:Int) v ||bt (b.val:Int) v)) && decide ((a.val:Int)≤Go.bits .or .i64 (a.val:Int) (b.val:Int)∧Go.bits .or .i64 (a.val:Int) (b.val:Int)≤63))=true:=by decide +kernel
theorem diff_bt_64:∀ a b:Fin 64,((List.range 6).all (fun v=>bt ((a.val:Int) - Go.bits .and .i64 (a.val:Int) (b.val:Int)) v == (bt (a.val:Int) v && !(bt (b.val:Int) v))) && decide (0≤(a.val:Int) - Go.bits .and .i64 (a.val:Int) (b.val:Int)∧(a.val:Int) - Go.bits .and .i64 (a.val:Int) (b.val:Int)≤63))=true:=by decide +kernel
theorem ext_bt_64:∀ a b:Fin 64,(List.range 6).all (fun v=>bt (a.val:Int) v == bt (b.val:Int) v)=true→(a.val:Int)=(b.val:Int):=by decide +kernel
theorem inB_iff (a b:Int) (ha:0≤a∧a≤63) (hb:0≤b∧b≤63):inB a b=true↔∀ v,v<6→bt a v=true→bt b v=true:=by
 rw[small2 (P:=fun a b=>inB a b=(List.range 6).all (fun v=>!(bt a v) ||bt b v)) inB_bt_64 a b ha hb,List.all_eq_true]
 constructor
 ·intro h v hv h1
  have:=h v (List.mem_range.2 hv)
  simpa [h1] using this
 ·intro h v hv
  have:=h v (List.mem_range.1 hv)
  cases h1:bt a v
  ·rfl
  ·simp [this h1]
theorem and_iff (a b:Int) (ha:0≤a∧a≤63) (hb:0≤b∧b≤63):¬ Go.bits .and .i64 a b=0↔∃ v,v<6∧bt a v=true∧bt b v=true:=by
 have h:=small2 (P:=fun a b=>decide (Go.bits .and .i64 a b=0)=(List.range 6).all (fun v=>!(bt a v && bt b v))) and_bt_64 a b ha hb
 constructor
 ·intro h1
  rw[decide_eq_false h1] at h
  have h2:=h.symm
  rw[List.all_eq_false] at h2
  obtain ⟨v,hv,h3⟩:=h2
  simp at h3
  exact⟨v,List.mem_range.1 hv,h3⟩
 ·rintro ⟨v,hv,h1,h2⟩ h3
  rw[decide_eq_true h3] at h
  have h4:=List.all_eq_true.1 h.symm v (List.mem_range.2 hv)
  simp [h1,h2] at h4
theorem or_bt (a b:Int) (ha:0≤a∧a≤63) (hb:0≤b∧b≤63):(∀ v,v<6→bt (Go.bits .or .i64 a b) v=(bt a v ||bt b v))∧a≤Go.bits .or .i64 a b∧Go.bits .or .i64 a b≤63:=by
 have h:=small2 (P:=fun a b=>((List.range 6).all (fun v=>bt (Go.bits .or .i64 a b) v == (bt a v ||bt b v)) && decide (a≤Go.bits .or .i64 a b∧Go.bits .or .i64 a b≤63))=true) or_bt_64 a b ha hb
 rw[Bool.and_eq_true,List.all_eq_true,decide_eq_true_eq] at h
 exact⟨fun v hv=>by simpa using h.1 v (List.mem_range.2 hv),h.2⟩
theorem diff_bt (a b:Int) (ha:0≤a∧a≤63) (hb:0≤b∧b≤63):(∀ v,v<6→bt (a - Go.bits .and .i64 a b) v=(bt a v && !(bt b v)))∧0≤a - Go.bits .and .i64 a b∧a - Go.bits .and .i64 a b≤63:=by
 have h:=small2 (P:=fun a b=>((List.range 6).all (fun v=>bt (a - Go.bits .and .i64 a b) v == (bt a v && !(bt b v))) && decide (0≤a - Go.bits .and .i64 a b∧a - Go.bits .and .i64 a b≤63))=true) diff_bt_64 a b ha hb
 rw[Bool.and_eq_true,List.all_eq_true,decide_eq_true_eq] at h
 exact⟨fun v hv=>by simpa using h.1 v (List.mem_range.2 hv),h.2⟩
theorem ext_bt (a b:Int) (ha:0≤a∧a≤63) (hb:0≤b∧b≤63) (h:∀ v,v<6→bt a v=bt b v):a=b:=
 small2 (P:=fun a b=>(List.range 6).all (fun v=>bt a v == bt b v)=true→a=b) ext_bt_64 a b ha hb (by
  rw[List.all_eq_true]
  intro v hv
  simpa using h v (List.mem_range.1 hv))
theorem inB_refl (a:Int) (ha:0≤a∧a≤63):inB a a=true:=(inB_iff a a ha ha).2 fun _ _ h=>h
theorem inB_trans (a b c:Int) (ha:0≤a∧a≤63) (hb:0≤b∧b≤63) (hc:0≤c∧c≤63) (h1:inB a b=true) (h2:inB b c=true):inB a c=true:=
 (inB_iff a c ha hc).2 fun v hv h=>(inB_iff b c hb hc).1 h2 v hv ((inB_iff a b ha hb).1 h1 v hv h)
theorem inB_antisymm (a b:Int) (ha:0≤a∧a≤63) (hb:0≤b∧b≤63) (h1:inB a b=true) (h2:inB b a=true):a=b:=
 ext_bt a b ha hb fun v hv=>by
  have h3:=(inB_iff a b ha hb).1 h1 v hv
  have h4:=(inB_iff b a hb ha).1 h2 v hv
  cases h5:bt a v <;> cases h6:bt b v <;> simp_all
theorem inB_or (a b:Int) (ha:0≤a∧a≤63) (hb:0≤b∧b≤63):inB a (Go.bits .or .i64 a b)=true:=by
 obtain ⟨h1,h2,h3⟩:=or_bt a b ha hb
 exact(inB_iff a _ ha ⟨by omega,h3⟩).2 fun v hv h=>by rw[h1 v hv,h];rfl
theorem or_inB (a b c:Int) (ha:0≤a∧a≤63) (hb:0≤b∧b≤63) (hc:0≤c∧c≤63) (h1:inB a c=true) (h2:inB b c=true):inB (Go.bits .or .i64 a b) c=true:=by
 obtain ⟨h3,h4,h5⟩:=or_bt a b ha hb
 refine(inB_iff _ c ⟨by omega,h5⟩ hc).2 fun v hv h=>?_
 rw[h3 v hv,Bool.or_eq_true] at h
 rcases h with h|h
 ·exact(inB_iff a c ha hc).1 h1 v hv h
 ·exact(inB_iff b c hb hc).1 h2 v hv h
theorem and_mono (e a c:Int) (he:0≤e∧e≤63) (ha:0≤a∧a≤63) (hc:0≤c∧c≤63) (h1:inB a c=true) (h2:¬ Go.bits .and .i64 e a=0):¬ Go.bits .and .i64 e c=0:=by
 obtain ⟨v,hv,h3,h4⟩:=(and_iff e a he ha).1 h2
 exact(and_iff e c he hc).2 ⟨v,hv,h3,(inB_iff a c ha hc).1 h1 v hv h4⟩
theorem or_lt (a e:Int) (ha:0≤a∧a≤63) (he:0≤e∧e≤63) (h:inB e a=false):a<Go.bits .or .i64 a e:=by
 obtain ⟨h3,h4,h5⟩:=or_bt a e ha he
 rcases Int.lt_or_eq_of_le h4 with h6|h6
 ·exact h6
 ·exfalso
  have:inB e a=true:=(inB_iff e a he ha).2 fun v hv h7=>by
   rw[h6,h3 v hv,h7];simp
  rw[this] at h
  cases h
theorem pow_bt:∀ u v:Fin 6,bt ((2:Int) ^ v.val) u.val=decide (u=v)∧1≤(2:Int) ^ v.val∧(2:Int) ^ v.val≤32:=by decide +kernel
theorem bt_pow (u v:Nat) (hu:u<6) (hv:v<6):bt ((2:Int) ^ v) u=decide (u=v):=by
 rw[(pow_bt ⟨u,hu⟩ ⟨v,hv⟩).1]
 exact decide_eq_decide.2 ⟨fun e=>by injection e,fun e=>by subst e;rfl⟩
theorem pow_range (v:Nat) (hv:v<6):1≤(2:Int) ^ v∧(2:Int) ^ v≤32:=(pow_bt ⟨v,hv⟩ ⟨v,hv⟩).2
end Go.Proofs.YtlhkdbkjafiikaaGreat.K
end

section
namespace Go.Proofs.YtlhkdbkjafiikaaGreat.K
open Go.RowKit Go.Shelf Go.Proofs.YtlhkdbkjafiikaaGreatW.PrintWords Go.Proofs.YtlhkdbkjafiikaaGreatW.PrintLast Go.Proofs.YtlhkdbkjafiikaaGreatW.PrintMore
set_option linter.unusedVariables false
set_option linter.unusedSimpArgs false
set_option maxRecDepth 100000 in
set_option maxHeartbeats 4000000 in
theorem those_calls (p:Int→Bool) (n:Int) (hn:0≤n∧n≤6) (g:Nat) (first caps:Array Value) (w:World) (eg:EntersG g)
  (hp:∀ x,1≤x→x≤fullOf n→Answers w g (first.push (I x) ++ caps) (.bool (p x))) :
  Calls Tryz.prog 77 #[I n,.func (.func g) first caps] w fun e w'=>∃ v,e = .returned (.agg #[I n,v])∧Ki.R 2 w' w.heap.size (fun _=>True) v (thoseL n p)∧Grew w w':=by
 have HP:=Aside0.mk hp
 clear hp
 obtain ⟨N,hN⟩:∃ N:Nat,N=2 ^ n.toNat - 1:=⟨_,rfl⟩
 have hpow:=two_pow n.toNat 6 (by omega)
 have hF:fullOf n=(N:Int):=by
  unfold fullOf
  have:((2 ^ n.toNat:Nat):Int)=(2:Int) ^ n.toNat:=by simp
  have h1:(1:Nat)≤2 ^ n.toNat:=Nat.one_le_two_pow
  omega
 have hN64:N≤63:=by
  unfold fullOf at hF
  omega
 have hs:(2:Int) ^ n.toNat=(N:Int)+1:=by unfold fullOf at hF;omega
 have HN:=Aside0.mk hN
 have HF:=Aside0.mk hF
 have HS:=Aside0.mk hs
 clear hN hF hpow hs
 go_enter Tryz.func77,Tryz.ntmps77
 go_wp2_with fail
 have HB0:Aside0 (CB ((w.alloc (.cells #[I 0,.slice none 0 0] 26)).alloc (.cells #[I n,.slice none 0 0] 26)) w.heap.size 0 (.slice none 0 0)):=⟨blk_alloc (blk_new w _) _⟩
 have HK0:Aside0 (CB ((w.alloc (.cells #[I 0,.slice none 0 0] 26)).alloc (.cells #[I n,.slice none 0 0] 26)) (w.heap.size+1) n (.slice none 0 0)):=⟨by
  have:=blk_new (w.alloc (.cells #[I 0,.slice none 0 0] 26)) (.cells #[I n,.slice none 0 0] 26)
  rwa [World.size_alloc] at this⟩
 go_loopg [6] N (fun gg s6 wr=>∃ m:Nat,m≤N∧N - m≤gg∧s6 = .int .i64 ((m:Int)+1)∧Aside0 (CB wr w.heap.size 0 (.slice none 0 0)) ∧
  (∃ A c,Aside0 (CB wr (w.heap.size+1) n (.slice A ((upTo m).filter p).length c))∧Aside0 (Ki.R 2 wr w.heap.size (fun _=>True) (.slice A ((upTo m).filter p).length c) ((upTo m).filter p)))∧Aside0 (Grew w wr))
 case atStart=>exact⟨0,Nat.zero_le _,by omega,rfl,HB0,⟨none,0,HK0,⟨Kd.R_nil _ _ _ _ _⟩⟩,⟨below_alloc (below_alloc (Grew.refl w) _) _⟩⟩
 case round=>
  clear HB0 HK0
  obtain ⟨m,hm,hg,rfl,HB,⟨A,c,HK,HR⟩,HG⟩:=hrel
  have hm63:m≤63:=by omega
  by_cases hlt:m<N
  ·have hcall:=HP.out ((m:Int)+1) (by omega) (by have:=HF.out;omega) wr HG.out
   have hs:=HS.out
   cases hq:p ((m:Int)+1) with
   |false=>
    rw[hq] at hcall
    have HF2:Aside0 ((upTo (m+1)).filter p=(upTo m).filter p):=⟨by rw[upTo_succ,List.filter_append];simp [hq]⟩
    go_wp2_with fail
    refine hcall.mono ?_
    rintro e w2 ⟨rfl,hG2⟩
    clear hcall
    go_wp2_with fail
    go_roundg (N - (m+1))
    case measure=>omega
    case rel=>exact⟨m+1,by omega,by omega,by go_num,⟨blk_below HB.out hG2⟩,⟨A,c,⟨by rw[HF2.out];exact blk_below HK.out hG2⟩,⟨by rw[HF2.out];exact Kd.R_below HR.out hG2⟩⟩,⟨Grew.trans HG.out hG2⟩⟩
   |true=>
    rw[hq] at hcall
    have HF2:Aside0 ((upTo (m+1)).filter p=(upTo m).filter p ++ [(m:Int)+1]):=⟨by rw[upTo_succ,List.filter_append];simp [hq]⟩
    have hln:=upTo_filter_length p m
    go_wp2_with fail
    refine hcall.mono ?_
    rintro e w2 ⟨rfl,hG2⟩
    clear hcall
    have HB2:Aside0 (CB w2 w.heap.size 0 (.slice none 0 0)):=⟨blk_below HB.out hG2⟩
    have HK2:Aside0 (CB w2 (w.heap.size+1) n (.slice A ((upTo m).filter p).length c)):=⟨blk_below HK.out hG2⟩
    have HR2:Aside0 (Ki.R 2 w2 w.heap.size (fun _=>True) (.slice A ((upTo m).filter p).length c) ((upTo m).filter p)):=⟨Kd.R_below HR.out hG2⟩
    have HG2:Aside0 (Grew w w2):=⟨Grew.trans HG.out hG2⟩
    clear hG2
    have k1:=HK2.out.c1
    generalize hL:(upTo m).filter p=L at HF2 HK2 HR2 k1 hln
    clear HK HR HB
    go_wp2_with (at_builtin;refine append_int w.heap.size rfl (.tmp 19) (.tmp 21) rfl _ L ((m:Int)+1) rfl rfl HR2.out HG2.out.size (by omega) ?_;intro A3 c3 w3 hR3 hB3 hg3;have HK3:Aside0 (CB w3 (w.heap.size+1) n (.slice A L.length c)):=⟨HK2.out.grown HR2.out hg3⟩;have HB3:Aside0 (CB w3 w.heap.size 0 (.slice none 0 0)):=⟨HB2.out.grown HR2.out hg3⟩;have k3:=HK3.out.c1;have f3:=blk_frozen HK3.out 1;have HR3:=Aside0.mk hR3;have HG3:Aside0 (Below w.heap.size w w3):=⟨Below.trans HG2.out hB3⟩;clear hR3 hB3 hg3)
    go_roundg (N - (m+1))
    case measure=>omega
    case rel=>
     refine⟨m+1,by omega,by omega,by go_num,⟨HB3.out.far (by simp) _⟩,⟨A3,c3,⟨?_⟩,⟨?_⟩⟩,⟨below_set HG3.out (by omega)⟩⟩
     ·have:=HK3.out.set1 (u:= .slice A3 (L.length+1) c3)
      rw[HF2.out,List.length_append]
      exact this
     ·have:=Ri.setCB HR3.out HK3.out 1 (.slice A3 (L.length+1) c3)
      rw[HF2.out,List.length_append]
      exact this
  ·have hs:=HS.out
   have e:m=N:=by omega
   have k0:=HK.out.c0
   have k1:=HK.out.c1
   have b0:=HB.out.c0
   have b1:=HB.out.c1
   have f0:=blk_frozen HB.out 0
   have f1:=blk_frozen HB.out 1
   have HN2:Aside0 ((upTo m).filter p=thoseL n p):=⟨by unfold thoseL;rw[e,← HN.out]⟩
   clear e
   go_wp2_with fail
   refine bodyPost_ret (results_cell_row rfl _ _ w.heap.size 26 #[I n,.slice A ((upTo m).filter p).length c] (0,0) _ rfl HB.out.set Tryz.underlying26 rfl (by kernel_rfl)) rfl ?_
   refine⟨_,rfl,?_,below_set (below_set HG.out (Nat.le_refl _)) (Nat.le_refl _)⟩
   rw[← HN2.out]
   exact Ri.setCB2 HR.out HB.out
end Go.Proofs.YtlhkdbkjafiikaaGreat.K
end

section
namespace Go.Proofs.YtlhkdbkjafiikaaGreat.K
open Go.RowKit Go.Shelf Go.Proofs.YtlhkdbkjafiikaaGreatW.PrintWords Go.Proofs.YtlhkdbkjafiikaaGreatW.PrintLast Go.Proofs.YtlhkdbkjafiikaaGreatW.PrintMore
set_option linter.unusedVariables false
set_option linter.unusedSimpArgs false
def madeL (n:Int) (sets:List Int):List Int:=thoseL n fun f=>sets.any (inB f)
end Go.Proofs.YtlhkdbkjafiikaaGreat.K
end

section
namespace Go.Proofs.YtlhkdbkjafiikaaGreat.K
open Go.RowKit Go.Shelf Go.Proofs.YtlhkdbkjafiikaaGreat.Q Go.Proofs.YtlhkdbkjafiikaaGreatW.PrintWords Go.Proofs.YtlhkdbkjafiikaaGreatW.PrintLast Go.Proofs.YtlhkdbkjafiikaaGreatW.PrintMore
set_option linter.unusedVariables false
set_option linter.unusedSimpArgs false
theorem specMade_g0 (n:Int) (hn:1≤n∧n≤6) (sets:List Int) (hs:sets.length≤2097152) (M:Nat) (hM:sets.length+6≤M) (p:Int→Bool) (hp:∀ x,1≤x→x≤fullOf n→p x=sets.any (fun s=>decide (Go.bits .and .i64 x s=x))) :
  ∀(d m k:Nat),2 ^ n.toNat - 1 - m=d→m≤2 ^ n.toNat - 1→M*d+1<k →
  spec_l01Made.l0 k n sets ((m:Int)+1) n ((upTo m).filter p)=some (n,thoseL n p):=by
 have hF:=full_range n hn
 have hFN:=full_nat n
 obtain ⟨N,hN⟩:∃ N,N=2 ^ n.toNat - 1:=⟨_,rfl⟩
 have hTh:thoseL n p=(upTo N).filter p:=by rw[hN];rfl
 rw[← hN] at hFN
 rw[← hN,hTh]
 clear hN hTh
 intro d
 induction d with
 |zero=>
  intro m k hd hm hk
  obtain ⟨k,rfl⟩:∃ m,k=m+1:=⟨k - 1,by omega⟩
  simp only [spec_l01Made.l0]
  rw[specAll_is n (by omega) (by omega)]
  simp only [Option.bind_some]
  rw[if_neg (by omega)]
  obtain rfl:m=N:=by omega
  rfl
 |succ d ih=>
  intro m k hd hm hk
  rw[Nat.mul_succ] at hk
  obtain ⟨Z,hZ⟩:∃ Z,Z=M*d:=⟨_,rfl⟩
  rw[← hZ] at hk ih
  clear hZ
  obtain ⟨k,rfl⟩:∃ m,k=m+1:=⟨k - 1,by omega⟩
  simp only [spec_l01Made.l0]
  rw[specAll_is n (by omega) (by omega)]
  simp only [Option.bind_some]
  rw[if_pos (by omega)]
  have hlen:=upTo_filter_length p m
  have hq:=hp ((m:Int)+1) (by omega) (by omega)
  have HW:Aside0 (wrap64 ((m:Int)+1+1)=((m+1:Nat):Int)+1):=⟨by rw[w64 _ (by omega) (by omega)];omega⟩
  have e:(if p ((m:Int)+1)=true then (upTo m).filter p ++ [(m:Int)+1] else (upTo m).filter p)=(upTo (m+1)).filter p:=by
   rw[upTo_succ,List.filter_append]
   cases hc:p ((m:Int)+1) <;> simp [hc]
  exact specMade_l1 n sets hs ((m:Int)+1) ((upTo m).filter p) (by omega) (Z+2) (p ((m:Int)+1)) _ (fun k hk=>by rw[HW.out,e];exact ih (m+1) k (by omega) (by omega) (by omega))
   sets.length 0 k (by omega) (by omega) (by omega) hq.symm
theorem bords_sub_64:∀ f:Fin 64,(bords (f.val:Int)).all (fun b=>decide (1≤b∧b≤(f.val:Int)) && inB b (f.val:Int))=true:=by decide +kernel
theorem bords_sub {f b:Int} (hf:0≤f∧f≤63) (hb:b ∈ bords f):1≤b∧b≤f∧inB b f=true:=by
 have h:=bords_sub_64 ⟨f.toNat,by omega⟩
 have e:((f.toNat:Nat):Int)=f:=by omega
 rw[e,List.all_eq_true] at h
 have:=h b hb
 simp only [Bool.and_eq_true,decide_eq_true_eq] at this
 exact⟨this.1.1,this.1.2,this.2⟩
theorem those_isC {n:Int} (hn:1≤n∧n≤6) {p:Int→Bool} (hp:∀ f b,1≤f→f≤63→b ∈ bords f→p f=true→p b=true):isC n (thoseL n p)=true:=by
 have hF:=full_range n hn
 have hs:=those_asc n p
 have hlen:(thoseL n p).length≤63:=by
  have h1:=upTo_filter_length p (2 ^ n.toNat - 1)
  have h2:=full_nat n
  show ((upTo (2 ^ n.toNat - 1)).filter p).length≤63
  omega
 unfold isC
 rw[Bool.and_eq_true,Bool.and_eq_true]
 refine⟨decide_eq_true hn,decide_eq_true fun j hj h=>?_,?_⟩
 ·have hm:=(mem_those n p _).1 (List.getElem_mem h)
  refine⟨hm.1.1,hm.1.2,fun h0=>?_⟩
  exact List.pairwise_iff_getElem.1 hs (j - 1) j (by omega) h (by omega)
 ·rw[List.all_eq_true]
  intro f hf
  obtain ⟨hfr,hfp⟩:=(mem_those n p f).1 hf
  unfold closedAt
  rw[List.all_eq_true]
  intro b hb
  obtain ⟨h1,h2,h3⟩:=bords_sub (f:=f) (by omega) hb
  rw[has_asc _ b (by omega) hs]
  exact decide_eq_true ((mem_those n p b).2 ⟨⟨h1,by omega⟩,hp f b hfr.1 (by omega) hb hfp⟩)
theorem made_isC {n:Int} (hn:1≤n∧n≤6) {sets:List Int} (hr:∀ s ∈ sets,0≤s∧s≤63):isC n (madeL n sets)=true:=by
 refine those_isC hn fun f b h1 h2 hb h=>?_
 obtain ⟨k1,k2,k3⟩:=bords_sub (f:=f) (by omega) hb
 rw[List.any_eq_true] at h ⊢
 obtain ⟨s,hm,hs⟩:=h
 exact⟨s,hm,inB_trans b f s (by omega) (by omega) (hr s hm) k3 hs⟩
end Go.Proofs.YtlhkdbkjafiikaaGreat.K
end

section
namespace Go.Proofs.YtlhkdbkjafiikaaGreat.K
open Go.RowKit Go.Shelf Go.Proofs.YtlhkdbkjafiikaaGreatW.PrintWords Go.Proofs.YtlhkdbkjafiikaaGreatW.PrintLast Go.Proofs.YtlhkdbkjafiikaaGreatW.PrintMore
set_option linter.unusedVariables false
set_option linter.unusedSimpArgs false
def joinP (n:Int) (k l:List Int) (x:Int):Bool:=(Go.bits .and .i64 x (fullOf n) == 0 ||hasB k (Go.bits .and .i64 x (fullOf n))) && (x / 2 ^ n.toNat == 0 ||hasB l (x / 2 ^ n.toNat))
set_option maxHeartbeats 4000000 in
theorem JoinOf1_calls (x n m:Int) (hn:1≤n∧n≤6) (Bk Bl:Nat) (A:Option Addr) (c:Nat) (k:List Int) (A':Option Addr) (c':Nat) (l:List Int) (w:World) (hb:CB w Bk n (.slice A k.length c)) (hf:CB w Bl m (.slice A' l.length c')) (hk:Kx w A c k) (hl:Kx w A' c' l) :
  Calls Tryz.prog 78 #[I x,.pointer (some ⟨Bk,0,none⟩),.pointer (some ⟨Bl,0,none⟩)] w fun e w'=>e = .returned (.bool (joinP n k l x))∧Grew w w':=by
 have k0:=hb.c0
 have k1:=hb.c1
 have l0:=hf.c0
 have l1:=hf.c1
 have hlk:Bk<w.heap.size:=World.block_lt_of_cell? w _ k0
 have hll:Bl<w.heap.size:=World.block_lt_of_cell? w _ l0
 obtain ⟨a,ha⟩:∃ a,a=Go.bits .and .i64 x (fullOf n):=⟨_,rfl⟩
 obtain ⟨b,hb2⟩:∃ b,b=x / 2 ^ n.toNat:=⟨_,rfl⟩
 have HJ:Aside0 (joinP n k l x=((a == 0 ||hasB k a) && (b == 0 ||hasB l b))):=⟨by rw[ha,hb2];rfl⟩
 have HK:=Aside0.mk hk
 have HL:=Aside0.mk hl
 clear hk hl hb hf
 obtain ⟨F,hF⟩:∃ F,F=fullOf n:=⟨_,rfl⟩
 rw[← hF] at ha
 have HFull:Aside0 (∀ W,Grew w W→Calls Tryz.prog 79 #[.agg #[I n,.slice A k.length c]] W fun e w'=>e = .returned (I F)∧Grew W w'):=
  ⟨fun W hW=>by rw[hF];exact full_calls n A c k W (by omega) (by omega) (Kd.C_below HK.out.r hW) HK.out.c⟩
 clear hF
 obtain ⟨r,hr⟩:∃ r,r=joinP n k l x:=⟨_,rfl⟩
 rw[← hr]
 rw[← hr] at HJ
 clear hr
 go_enter Tryz.func78,Tryz.ntmps78
 go_wp2_with fail
 go_region_held3 (fun w'=>w'.cell? ⟨Bk,0,none⟩=some (I n)∧w'.cell? ⟨Bk,1,none⟩=some (.slice A k.length c))
  (first|exact⟨(HG.out.cell (p:=⟨Bk,0,none⟩) hlk).trans k0,(HG.out.cell (p:=⟨Bk,1,none⟩) hlk).trans k1⟩|go_keep)
  ((go_at_call 79;refine(HFull.out _ ((Below.refl _ w).drew)).mono ?_;rintro e w1 ⟨rfl,hG⟩;have HG:Aside0 (Grew w w1):=⟨Below.trans ((Below.refl _ w).drew) hG⟩;clear hG))
 rw[← ha,← hb2]
 have q0:=(HG.out.cell (p:=⟨Bk,0,none⟩) hlk).trans k0
 have q1:=(HG.out.cell (p:=⟨Bk,1,none⟩) hlk).trans k1
 have r0:=(HG.out.cell (p:=⟨Bl,0,none⟩) hll).trans l0
 have r1:=(HG.out.cell (p:=⟨Bl,1,none⟩) hll).trans l1
 clear k0 k1 l0 l1 ha hb2
 have H1:=Aside0.mk ((HK.out.later HG.out).has n a)
 by_cases haz:a=0
 ·have ha2:(a == 0)=true:=by simp [haz]
  by_cases hbz:b=0
  ·have HV:Aside0 (r=true):=⟨by rw[HJ.out,ha2];simp [hbz]⟩
   clear ha2
   go_wp2_with fail
   go_ret
   exact⟨by rw[HV.out];rfl,HG.out⟩
  ·have HV:Aside0 (r=(b == 0 ||hasB l b)):=⟨by rw[HJ.out,ha2];rfl⟩
   have H2:=Aside0.mk ((HL.out.later HG.out).has m b)
   clear ha2
   go_wp2_with fail
   refine H2.out.mono ?_
   rintro e w2 ⟨rfl,hG2⟩
   go_wp2_with fail
   go_ret
   exact⟨by rw[HV.out];rfl,Grew.trans HG.out hG2⟩
 ·have ha2:(a == 0)=false:=by simp [haz]
  obtain ⟨h1,hh1⟩:∃ h1,h1=hasB k a:=⟨_,rfl⟩
  rw[← hh1] at H1 HJ
  clear hh1
  cases h1 with
  |false=>
   have HV:Aside0 (r=false):=⟨by rw[HJ.out,ha2];simp⟩
   clear ha2
   go_wp2_with fail
   refine H1.out.mono ?_
   rintro e w2 ⟨rfl,hG2⟩
   go_wp2_with fail
   go_ret
   exact⟨by rw[HV.out];rfl,Grew.trans HG.out hG2⟩
  |true=>
   by_cases hbz:b=0
   ·have HV:Aside0 (r=true):=⟨by rw[HJ.out,ha2];simp [hbz]⟩
    clear ha2
    go_wp2_with fail
    refine H1.out.mono ?_
    rintro e w2 ⟨rfl,hG2⟩
    go_wp2_with fail
    go_ret
    exact⟨by rw[HV.out];rfl,Grew.trans HG.out hG2⟩
   ·have HV:Aside0 (r=(b == 0 ||hasB l b)):=⟨by rw[HJ.out,ha2];simp⟩
    clear ha2
    go_wp2_with fail
    refine H1.out.mono ?_
    rintro e w2 ⟨rfl,hG2⟩
    have HG2:=Aside0.mk (Grew.trans HG.out hG2)
    have H2:=Aside0.mk ((HL.out.later HG2.out).has m b)
    have r0:=(hG2.cell (p:=⟨Bl,0,none⟩) (Nat.lt_of_lt_of_le hll HG.out.size)).trans r0
    have r1:=(hG2.cell (p:=⟨Bl,1,none⟩) (Nat.lt_of_lt_of_le hll HG.out.size)).trans r1
    clear hG2
    go_wp2_with fail
    refine H2.out.mono ?_
    rintro e w3 ⟨rfl,hG3⟩
    go_wp2_with fail
    go_ret
    exact⟨by rw[HV.out];rfl,Grew.trans HG2.out hG3⟩
def joinOf (n:Int) (k:List Int) (m:Int) (l:List Int):Int×List Int×Int:=
 if isC n k=true∧isC m l=true then (if 6<n+m then (0,[],3) else (n+m,thoseL (n+m) (joinP n k l),0)) else (0,[],1)
set_option maxHeartbeats 4000000 in
theorem JoinOf_calls (n:Int) (A:Option Addr) (c:Nat) (k:List Int) (m:Int) (A':Option Addr) (c':Nat) (l:List Int) (w:World) (hk:Kx w A c k) (hl:Kx w A' c' l) :
  Calls Tryz.prog 20 #[.agg #[I n,.slice A k.length c],.agg #[I m,.slice A' l.length c']] w fun e w'=>∃ v,e = .returned (.tuple #[.agg #[I (joinOf n k m l).1,v],I (joinOf n k m l).2.2])∧Ki.R 2 w' w.heap.size (fun _=>True) v (joinOf n k m l).2.1∧Grew w w':=by
 obtain ⟨W3,hW3⟩:∃ W3,W3=((w.alloc (.cells #[I n,.slice A k.length c] 26)).alloc (.cells #[I m,.slice A' l.length c'] 26)).alloc (.cells #[I 0,.slice none 0 0] 26):=⟨_,rfl⟩
 have hB:CB W3 w.heap.size n (.slice A k.length c):=by rw[hW3];exact blk_alloc (blk_alloc (blk_new w _) _) _
 have hF:CB W3 (w.heap.size+1) m (.slice A' l.length c'):=by
  rw[hW3]
  refine blk_alloc ?_ _
  have:=blk_new (w.alloc (.cells #[I n,.slice A k.length c] 26)) (.cells #[I m,.slice A' l.length c'] 26)
  rwa [World.size_alloc] at this
 have hO:CB W3 (w.heap.size+2) 0 (.slice none 0 0):=by
  rw[hW3]
  have:=blk_new ((w.alloc (.cells #[I n,.slice A k.length c] 26)).alloc (.cells #[I m,.slice A' l.length c'] 26)) (.cells #[I 0,.slice none 0 0] 26)
  rwa [World.size_alloc,World.size_alloc] at this
 have hg:Grew w W3:=by rw[hW3];exact below_alloc (below_alloc (below_alloc (Grew.refl w) _) _) _
 have H:=Aside0.mk (fun W (hW:Grew W3 W)=>IsComplex_calls n A c k W (hk.later (Grew.trans hg hW)).r hk.c hk.b)
 have HH:=Aside0.mk (fun W (hW:Grew W3 W)=>IsComplex_calls m A' c' l W (hl.later (Grew.trans hg hW)).r hl.c hl.b)
 obtain ⟨r,hr⟩:∃ r,r=joinOf n k m l:=⟨_,rfl⟩
 rw[← hr]
 have k0:=hB.c0
 have k1:=hB.c1
 have HK:=Aside0.mk hk
 have HL:=Aside0.mk hl
 have HB:=Aside0.mk hB
 have HF:=Aside0.mk hF
 have HO:=Aside0.mk hO
 have HG:=Aside0.mk hg
 clear hk hl hB hF hO hg
 obtain ⟨i,hi⟩:∃ i,i=isC n k:=⟨_,rfl⟩
 obtain ⟨j,hj⟩:∃ j,j=isC m l:=⟨_,rfl⟩
 rw[← hi] at H
 rw[← hj] at HH
 cases i with
 |false=>
  have HV:Aside0 (r=(0,[],1)):=⟨by rw[hr];unfold joinOf;rw[← hi];rfl⟩
  clear hr hi hj
  subst hW3
  go_enter Tryz.func20,Tryz.ntmps20
  go_wp2_with fail
  refine(H.out _ (Grew.refl _)).mono ?_
  rintro e w1 ⟨rfl,hG1⟩
  clear k0 k1
  have hB1:CB w1 (w.heap.size+2) 0 (.slice none 0 0):=blk_below HO.out hG1
  have HB1:=Aside0.mk hB1
  have HG1:=Aside0.mk (Grew.trans HG.out hG1)
  have k0:=hB1.c0
  have k1:=hB1.c1
  have f0:=blk_frozen hB1 0
  have f1:=blk_frozen hB1 1
  clear hB1 hG1
  go_wp2_with fail
  refine bodyPost_ret (results_ct rfl _ _ (w.heap.size+2) 26 #[I 0,.slice none 0 0] (0,0) _ rfl HB1.out.set Tryz.underlying26 rfl (by kernel_rfl)) rfl ?_
  rw[HV.out]
  exact⟨_,rfl,Kd.R_nil _ _ _ _ _,below_set (below_set HG1.out (by omega)) (by omega)⟩
 |true=>
  cases j with
  |false=>
   have HV:Aside0 (r=(0,[],1)):=⟨by rw[hr];unfold joinOf;rw[← hj];simp⟩
   clear hr hi hj
   subst hW3
   go_enter Tryz.func20,Tryz.ntmps20
   go_wp2_with fail
   refine(H.out _ (Grew.refl _)).mono ?_
   rintro e w1 ⟨rfl,hG1⟩
   have l0:=(CB.later HF.out hG1).c0
   have l1:=(CB.later HF.out hG1).c1
   clear k0 k1
   go_wp2_with fail
   refine(HH.out w1 hG1).mono ?_
   rintro e w2 ⟨rfl,hG2⟩
   clear l0 l1
   have hB1:CB w2 (w.heap.size+2) 0 (.slice none 0 0):=blk_below HO.out (Grew.trans hG1 hG2)
   have HB1:=Aside0.mk hB1
   have HG1:=Aside0.mk (Grew.trans HG.out (Grew.trans hG1 hG2))
   have k0:=hB1.c0
   have k1:=hB1.c1
   have f0:=blk_frozen hB1 0
   have f1:=blk_frozen hB1 1
   clear hB1 hG1 hG2
   go_wp2_with fail
   refine bodyPost_ret (results_ct rfl _ _ (w.heap.size+2) 26 #[I 0,.slice none 0 0] (0,0) _ rfl HB1.out.set Tryz.underlying26 rfl (by kernel_rfl)) rfl ?_
   rw[HV.out]
   exact⟨_,rfl,Kd.R_nil _ _ _ _ _,below_set (below_set HG1.out (by omega)) (by omega)⟩
  |true=>
   have hn:=isC_size hi.symm
   have hm:=isC_size hj.symm
   have hw:wrap64 (n+m)=n+m:=by unfold wrap64;omega
   by_cases h6:6<n+m
   ·have HV:Aside0 (r=(0,[],3)):=⟨by rw[hr];unfold joinOf;rw[← hi,← hj];simp [h6]⟩
    clear hr hi hj
    subst hW3
    go_enter Tryz.func20,Tryz.ntmps20
    go_wp2_with fail
    refine(H.out _ (Grew.refl _)).mono ?_
    rintro e w1 ⟨rfl,hG1⟩
    have l0:=(CB.later HF.out hG1).c0
    have l1:=(CB.later HF.out hG1).c1
    clear k0 k1
    go_wp2_with fail
    refine(HH.out w1 hG1).mono ?_
    rintro e w2 ⟨rfl,hG2⟩
    clear l0 l1
    have hB1:CB w2 (w.heap.size+2) 0 (.slice none 0 0):=blk_below HO.out (Grew.trans hG1 hG2)
    have HB1:=Aside0.mk hB1
    have HG1:=Aside0.mk (Grew.trans HG.out (Grew.trans hG1 hG2))
    have a0:=(CB.later HB.out (Grew.trans hG1 hG2)).c0
    have b0:=(CB.later HF.out (Grew.trans hG1 hG2)).c0
    have k0:=hB1.c0
    have k1:=hB1.c1
    have f0:=blk_frozen hB1 0
    have f1:=blk_frozen hB1 1
    clear hB1 hG1 hG2
    go_wp2_with fail
    refine bodyPost_ret (results_ct rfl _ _ (w.heap.size+2) 26 #[I 0,.slice none 0 0] (0,0) _ rfl HB1.out.set Tryz.underlying26 rfl (by kernel_rfl)) rfl ?_
    rw[HV.out]
    exact⟨_,rfl,Kd.R_nil _ _ _ _ _,below_set (below_set HG1.out (by omega)) (by omega)⟩
   ·have HV:Aside0 (r=(n+m,thoseL (n+m) (joinP n k l),0)):=⟨by rw[hr];unfold joinOf;rw[← hi,← hj];simp [h6]⟩
    clear hr hi hj
    subst hW3
    go_enter Tryz.func20,Tryz.ntmps20
    go_wp2_with fail
    refine(H.out _ (Grew.refl _)).mono ?_
    rintro e w1 ⟨rfl,hG1⟩
    have l0:=(CB.later HF.out hG1).c0
    have l1:=(CB.later HF.out hG1).c1
    clear k0 k1
    go_wp2_with fail
    refine(HH.out w1 hG1).mono ?_
    rintro e w2 ⟨rfl,hG2⟩
    clear l0 l1
    have hB2:CB w2 w.heap.size n (.slice A k.length c):=blk_below HB.out (Grew.trans hG1 hG2)
    have hF2:CB w2 (w.heap.size+1) m (.slice A' l.length c'):=blk_below HF.out (Grew.trans hG1 hG2)
    have HB2:=Aside0.mk hB2
    have HF2:=Aside0.mk hF2
    have HO2:Aside0 (CB w2 (w.heap.size+2) 0 (.slice none 0 0)):=⟨blk_below HO.out (Grew.trans hG1 hG2)⟩
    have HG2:=Aside0.mk (Grew.trans HG.out (Grew.trans hG1 hG2))
    have a0:=hB2.c0
    have b0:=hF2.c0
    clear hB2 hF2 hG1 hG2
    go_wp2_with fail
    refine(those_calls (joinP n k l) (n+m) (by omega) 78 #[] #[.pointer (some ⟨w.heap.size,0,none⟩),.pointer (some ⟨w.heap.size+1,0,none⟩)] w2 (enters_of Tryz.func78 (by kernel_rfl) rfl)
     (fun x _ _ W hW=>JoinOf1_calls x n m hn w.heap.size (w.heap.size+1) A c k A' c' l W (blk_below HB2.out hW) (blk_below HF2.out hW) (HK.out.later (Grew.trans HG2.out hW)) (HL.out.later (Grew.trans HG2.out hW)))).mono ?_
    rintro e w3 ⟨v,rfl,hR,hG⟩
    clear a0 b0
    have hB2:CB w3 (w.heap.size+2) 0 (.slice none 0 0):=blk_below HO2.out hG
    have HB3:=Aside0.mk hB2
    have HR3:=Aside0.mk hR
    have HG3:=Aside0.mk (Grew.trans HG2.out hG)
    have hsz:=HG2.out.size
    have k0:=hB2.c0
    have k1:=hB2.c1
    have f0:=blk_frozen hB2 0
    have f1:=blk_frozen hB2 1
    obtain ⟨A2,c2,e2⟩:=Kd.R_slice hR
    subst e2
    clear hB2 hR hG
    go_wp2_with fail
    refine bodyPost_ret (results_ct rfl _ _ (w.heap.size+2) 26 #[I (n+m),_] (0,0) _ rfl HB3.out.set Tryz.underlying26 rfl (by kernel_rfl)) rfl ?_
    rw[HV.out]
    exact⟨_,rfl,Kd.R_lower (Ri.setCB2 HR3.out HB3.out) hsz,below_set (below_set HG3.out (by omega)) (by omega)⟩
end Go.Proofs.YtlhkdbkjafiikaaGreat.K
end

section
namespace Go.Proofs.YtlhkdbkjafiikaaGreat.Q
open Go.RowKit Go.Proofs.YtlhkdbkjafiikaaGreatW.PrintWords Go.Proofs.YtlhkdbkjafiikaaGreatW.PrintLast Go.Proofs.YtlhkdbkjafiikaaGreatW.PrintMore
attribute [local go_sem] max2_int min2_int max_two min_two max_three min_three max_four min_four
set_option linter.unusedVariables false
set_option linter.unusedSimpArgs false
def spec_l01Face.f (k:Nat) (a0_0:Int) (l0_1:List Int) (a1:Int):Option (Int):=(spec_l01Is.f k a0_0 l0_1).bind fun t123=>(if t123=true then ((spec_l01Has.f k a0_0 l0_1 a1).bind fun t124=>(if t124=true then (some 0) else (some 2))) else (some 1))
theorem spec_l01Face.mono:∀ a0 a1 a2 k,LeO (spec_l01Face.f k a0 a1 a2) (spec_l01Face.f (k+1) a0 a1 a2):=by
 intro a0 a1 a2 k;unfold spec_l01Face.f;repeat' first
   |(with_reducible first|exact spec_l01Has.mono _ _ _ _|exact spec_l01Is.mono _ _ _|exact LeO.refl _|exact LeO.none _|refine LeO.ite ?_ ?_|refine LeO.bind ?_ (fun _=>?_))
set_option maxHeartbeats 8000000 in
set_option maxRecDepth 100000 in
theorem spec_l01Face.calls (k:Nat) (a0_0:Int) (A0_1:Option Addr) (c0_1:Nat) (l0_1:List Int) (a1:Int) (r:Int) (w:World) (hr0_1:Kd.C (Kd.int .i64) w A0_1 l0_1.length l0_1) (hc0_1:l0_1.length≤c0_1) (h:spec_l01Face.f k a0_0 l0_1 a1=some r) :
  Calls Tryz.prog 57 #[.agg #[.int .i64 a0_0,.slice A0_1 l0_1.length c0_1],.int .i64 a1] w fun e w'=>e = .returned (.int .i64 r)∧Below w.heap.size w w':=by
 have hu26:=Tryz.underlying26;have HR0_1:=Aside0.mk hr0_1;have HC0_1:=Aside0.mk hc0_1;clear hr0_1 hc0_1;have HB:=Aside0.mk (Below.refl w.heap.size w);have H:((spec_l01Is.f k a0_0 l0_1).bind fun t123=>(if t123=true then ((spec_l01Has.f k a0_0 l0_1 a1).bind fun t124=>(if t124=true then (some 0) else (some 2))) else (some 1)))=some r:=h;clear h;replace H:=Option.bind_eq_some_iff.mp H;obtain ⟨t123,A30,H⟩:=H;replace H:(if t123=true then ((spec_l01Has.f k a0_0 l0_1 a1).bind fun t124=>(if t124=true then (some 0) else (some 2))) else (some 1))=some r:=H;have A3:=Aside0.mk A30;clear A30;by_cases c4:t123=true
 ·subst c4;have H1:((spec_l01Has.f k a0_0 l0_1 a1).bind fun t124=>(if t124=true then (some 0) else (some 2)))=some r:=by rw[if_pos rfl] at H;exact H
  clear H;have H:=H1;clear H1;replace H:=Option.bind_eq_some_iff.mp H;obtain ⟨t124,A50,H⟩:=H;replace H:(if t124=true then (some 0) else (some 2))=some r:=H;have A5:=Aside0.mk A50;clear A50;by_cases c6:t124=true
  ·subst c6;have H1:(some 0)=some r:=by rw[if_pos rfl] at H;exact H
   clear H;have H:=H1;clear H1;obtain rfl:=Option.some.inj H;go_enter Tryz.func57,Tryz.ntmps57;go_wp2_with (first|((with_reducible refine gate_dst (N:=2) rfl ?_);refine bx 2 #[.int .i64 a0_0,.slice A0_1 l0_1.length c0_1] 26 ?_;intro gb122 hg w7 hbox hb;have BK122:=Aside0.mk (hbox);have GE122:=gzA hg HB;replace HB:=bsA HB hb;clear hb hbox hg;have hcz8_0:=z0_ BK122;have hcz8_1:=z1_ BK122;have hfz8_0:=hf_ BK122 0;have hfz8_1:=hf_ BK122 1)|((with_reducible refine gate_callee (f:=71) rfl ?_);refine gl (some 7) Tryz.func71 #[.agg #[.int .i64 a0_0,.slice A0_1 l0_1.length c0_1]] ?_;(with_reducible refine(spec_l01Is.calls k a0_0 _ _ l0_1 true _ (cb (Kd.C_below HR0_1.out HB.out)) HC0_1.out A3.out).mono ?_);rintro e w9 ⟨rfl,hb⟩;refine⟨_,rfl,?_⟩;replace BK122:=bkA BK122 hb;replace HB:=bsA HB hb;(try clear hb);(try clear hb2);(try clear hk);(try clear hi);have hcz10_0:=z0_ BK122;have hcz10_1:=z1_ BK122;have hfz10_0:=hf_ BK122 0;have hfz10_1:=hf_ BK122 1)|((with_reducible refine gate_callee (f:=61) rfl ?_);refine gl (some 12) Tryz.func61 #[.agg #[.int .i64 a0_0,.slice A0_1 l0_1.length c0_1],.int .i64 a1] ?_;(with_reducible refine(spec_l01Has.calls k a0_0 _ _ l0_1 a1 true _ (cb (Kd.C_below HR0_1.out HB.out)) HC0_1.out A5.out).mono ?_);rintro e w11 ⟨rfl,hb⟩;refine⟨_,rfl,?_⟩;replace BK122:=bkA BK122 hb;replace HB:=bsA HB hb;(try clear hb);(try clear hb2);(try clear hk);(try clear hi)))
   go_ret;exact⟨rr,bl HB.out⟩
  ·replace c6:=Bool.eq_false_iff.mpr c6;subst c6;have H1:(some 2)=some r:=by rw[if_neg (show ¬ (false=true) by decide)] at H;exact H
   clear H;have H:=H1;clear H1;obtain rfl:=Option.some.inj H;go_enter Tryz.func57,Tryz.ntmps57;go_wp2_with (first|((with_reducible refine gate_dst (N:=2) rfl ?_);refine bx 2 #[.int .i64 a0_0,.slice A0_1 l0_1.length c0_1] 26 ?_;intro gb122 hg w12 hbox hb;have BK122:=Aside0.mk (hbox);have GE122:=gzA hg HB;replace HB:=bsA HB hb;clear hb hbox hg;have hcz13_0:=z0_ BK122;have hcz13_1:=z1_ BK122;have hfz13_0:=hf_ BK122 0;have hfz13_1:=hf_ BK122 1)|((with_reducible refine gate_callee (f:=71) rfl ?_);refine gl (some 7) Tryz.func71 #[.agg #[.int .i64 a0_0,.slice A0_1 l0_1.length c0_1]] ?_;(with_reducible refine(spec_l01Is.calls k a0_0 _ _ l0_1 true _ (cb (Kd.C_below HR0_1.out HB.out)) HC0_1.out A3.out).mono ?_);rintro e w14 ⟨rfl,hb⟩;refine⟨_,rfl,?_⟩;replace BK122:=bkA BK122 hb;replace HB:=bsA HB hb;(try clear hb);(try clear hb2);(try clear hk);(try clear hi);have hcz15_0:=z0_ BK122;have hcz15_1:=z1_ BK122;have hfz15_0:=hf_ BK122 0;have hfz15_1:=hf_ BK122 1)|((with_reducible refine gate_callee (f:=61) rfl ?_);refine gl (some 12) Tryz.func61 #[.agg #[.int .i64 a0_0,.slice A0_1 l0_1.length c0_1],.int .i64 a1] ?_;(with_reducible refine(spec_l01Has.calls k a0_0 _ _ l0_1 a1 false _ (cb (Kd.C_below HR0_1.out HB.out)) HC0_1.out A5.out).mono ?_);rintro e w16 ⟨rfl,hb⟩;refine⟨_,rfl,?_⟩;replace BK122:=bkA BK122 hb;replace HB:=bsA HB hb;(try clear hb);(try clear hb2);(try clear hk);(try clear hi)))
   go_ret;exact⟨rr,bl HB.out⟩
 ·replace c4:=Bool.eq_false_iff.mpr c4;subst c4;have H1:(some 1)=some r:=by rw[if_neg (show ¬ (false=true) by decide)] at H;exact H
  clear H;have H:=H1;clear H1;obtain rfl:=Option.some.inj H;go_enter Tryz.func57,Tryz.ntmps57;go_wp2_with (first|((with_reducible refine gate_dst (N:=2) rfl ?_);refine bx 2 #[.int .i64 a0_0,.slice A0_1 l0_1.length c0_1] 26 ?_;intro gb122 hg w17 hbox hb;have BK122:=Aside0.mk (hbox);have GE122:=gzA hg HB;replace HB:=bsA HB hb;clear hb hbox hg;have hcz18_0:=z0_ BK122;have hcz18_1:=z1_ BK122;have hfz18_0:=hf_ BK122 0;have hfz18_1:=hf_ BK122 1)|((with_reducible refine gate_callee (f:=71) rfl ?_);refine gl (some 7) Tryz.func71 #[.agg #[.int .i64 a0_0,.slice A0_1 l0_1.length c0_1]] ?_;(with_reducible refine(spec_l01Is.calls k a0_0 _ _ l0_1 false _ (cb (Kd.C_below HR0_1.out HB.out)) HC0_1.out A3.out).mono ?_);rintro e w19 ⟨rfl,hb⟩;refine⟨_,rfl,?_⟩;replace BK122:=bkA BK122 hb;replace HB:=bsA HB hb;(try clear hb);(try clear hb2);(try clear hk);(try clear hi)))
  go_ret;exact⟨rr,bl HB.out⟩
end Go.Proofs.YtlhkdbkjafiikaaGreat.Q
end

section
namespace Go.Proofs.YtlhkdbkjafiikaaGreat.Q
open Go.RowKit Go.Proofs.YtlhkdbkjafiikaaGreatW.PrintWords Go.Proofs.YtlhkdbkjafiikaaGreatW.PrintLast Go.Proofs.YtlhkdbkjafiikaaGreatW.PrintMore
attribute [local go_sem] max2_int min2_int max_two min_two max_three min_three max_four min_four
set_option linter.unusedVariables false
set_option linter.unusedSimpArgs false
def spec_l01Take.l0:Nat→Int→Int→Int→List Int→Int→List Int→Option (Int×List Int)
 |0,_,_,_,_,_,_=>none
 |k+1,x1,x6,x159000,x159001,x164000,x164001=>if x6<(x159001.length:Int) then (if 0≤x6 then (if (Go.bits .and .i64 (rd x159001 x6) x1)=x1 then (spec_l01Take.l0 k x1 (wrap64 (x6+1)) x159000 x159001 x164000 x164001) else (if x164001.length<17592186044416 then (spec_l01Take.l0 k x1 (wrap64 (x6+1)) x159000 x159001 x164000 (x164001 ++ [rd x159001 x6])) else (none))) else (none)) else (some (x164000,x164001))
def spec_l01Take.f (k:Nat) (a0_0:Int) (l0_1:List Int) (a1:Int):Option (Int×List Int):=spec_l01Take.l0 k a1 0 a0_0 l0_1 a0_0 (([]:List Int))
theorem spec_l01Take.mono_l:∀ k,(∀ y0 y1 y2 y3 y4 y5,LeO (spec_l01Take.l0 k y0 y1 y2 y3 y4 y5) (spec_l01Take.l0 (k+1) y0 y1 y2 y3 y4 y5))
 |0=>fun _ _ _ _ _ _ r h=>by simp [spec_l01Take.l0] at h
 |k+1=>by
  have ih0:=spec_l01Take.mono_l k
  ·intro y0 y1 y2 y3 y4 y5;unfold spec_l01Take.l0;repeat' first
   |(with_reducible first|exact ih0 _ _ _ _ _ _|exact LeO.refl _|exact LeO.none _|refine LeO.ite ?_ ?_|refine LeO.bind ?_ (fun _=>?_))
theorem spec_l01Take.mono:∀ a0 a1 a2 k,LeO (spec_l01Take.f k a0 a1 a2) (spec_l01Take.f (k+1) a0 a1 a2):=by
 intro a0 a1 a2 k;have ih0:=spec_l01Take.mono_l k;unfold spec_l01Take.f;repeat' first
   |(with_reducible first|exact ih0 _ _ _ _ _ _|exact LeO.refl _|exact LeO.none _|refine LeO.ite ?_ ?_|refine LeO.bind ?_ (fun _=>?_))
def spec_l01Take.T6:Bool×List (List Nat×List Nat):=(true,[([],[]),([0],[0]),([],[]),([2],[2]),([],[]),([3,4],[3,4]),([5],[5]),([6],[6]),([1,7],[1,7]),([0,1,2,3,4,5,6,7,8],[]),([9,8,8,0,1,2,3,4,5,6,7,8],[8,9])])
def spec_l01Take.B6:List Nat:= [0,1,0,4,0,28,60,124,255,511,1023]
theorem spec_l01Take.tab6:rtab .any (opsOf Tryz.f65 6)=spec_l01Take.T6:=by kernel_rfl
theorem spec_l01Take.bits6:waitsOk spec_l01Take.T6.2 spec_l01Take.B6=true:=by kernel_rfl
set_option maxHeartbeats 8000000 in
set_option maxRecDepth 100000 in
theorem spec_l01Take.calls (k:Nat) (a0_0:Int) (A0_1:Option Addr) (c0_1:Nat) (l0_1:List Int) (a1:Int) (r1:Int) (r2:List Int) (w:World) (hr0_1:Kd.C (Kd.int .i64) w A0_1 l0_1.length l0_1) (hc0_1:l0_1.length≤c0_1) (h:spec_l01Take.f k a0_0 l0_1 a1=some (r1,r2)) :
  Calls Tryz.prog 65 #[.agg #[.int .i64 a0_0,.slice A0_1 l0_1.length c0_1],.int .i64 a1] w fun e w'=>∃ v1_:Value,e = .returned (.agg #[.int .i64 r1,v1_])∧Kd.R (Kd.int .i64) 2 w' w.heap.size (fun _=>True) v1_ r2∧Below w.heap.size w w':=by
 have hu26:=Tryz.underlying26;have HR0_1:=Aside0.mk hr0_1;have HC0_1:=Aside0.mk hc0_1;clear hr0_1 hc0_1;have HB:=Aside0.mk (Below.refl w.heap.size w);have H:(spec_l01Take.l0 k a1 0 a0_0 l0_1 a0_0 (([]:List Int)))=some (r1,r2):=h;clear h;obtain ⟨y160,hy160⟩:∃ y_:List Int,y_=(([]:List Int)):=⟨_,rfl⟩
 replace H:(spec_l01Take.l0 k a1 0 a0_0 l0_1 a0_0 y160)=some (r1,r2):=by first|(rw[hy160];with_reducible exact H)|(have H2_:=(Option.bind_some _ _).symm.trans H;rw[hy160];with_reducible exact H2_)|(have H2_:=(Option.bind_some _ _).symm.trans H;with_reducible exact H2_)|with_reducible exact H|(rw[hy160];exact H)|exact H
 have Ny160:=Aside0.mk hy160;clear hy160;have H':=Aside0.mk H;clear H;go_enter Tryz.func65,Tryz.ntmps65;go_wp2_with (first|((with_reducible refine gate_dst (N:=2) rfl ?_);refine bx 2 #[.int .i64 a0_0,.slice A0_1 l0_1.length c0_1] 26 ?_;intro gb158 hg w3 hbox hb;have BK158:=Aside0.mk (hbox);have GE158:=gzA hg HB;replace HB:=bsA HB hb;clear hb hbox hg)|((with_reducible refine gate_dst (N:=4) rfl ?_);refine bx 4 #[.int .i64 0,.slice none 0 0] 26 ?_;intro gb159 hg w4 hbox hb;have BK159:=Aside0.mk (hbox);have GE159:=gzA hg HB;replace HB:=bsA HB hb;have NB158_159:=nlA hg BK158;have NB159_158:=ngA hg BK158;replace BK158:=bkA BK158 hb;clear hb hbox hg;have hnb5:=NB158_159.out;have hnc5:=NB159_158.out;have hcz6_0:=z0_ BK158;have hcz6_1:=z1_ BK158;have hfz6_0:=hf_ BK158 0;have hfz6_1:=hf_ BK158 1)|((with_reducible refine gate_dst (N:=9) rfl ?_);refine Kd.R_lit (Kd.int .i64) _ 2 ?hg (N:=9) ?hd (xs:=([]:List Int)) (inner:= []) (ok:=fun _=>True) (okp:=fun _=>True) ?hr ?hp (fun _ hk=>hk) trivial (Below.refl _ _) (Nat.le_refl _) (by simp) ?_;(case hd=>rfl);(case hg=>rfl);(case hr=>first|(go_simp;done)|(go_simp;rfl));(case hp=>exact(Reps.none _ _));intro v161 w7 ho8 hb hg_ hnew_;clear hg_ hnew_;(first|rw[← Ny160.out] at ho8|(simp only [Int.reduceToNat] at ho8;rw[← Ny160.out] at ho8));have HO162:=klA ho8 HB;replace BK158:=bkA BK158 hb;replace BK159:=bkA BK159 hb;replace HB:=bsA HB hb;clear hb ho8;obtain ⟨Ao9,co9,eo9⟩:=Kd.R_slice HO162.out;subst eo9)|((with_reducible refine gate_dst (N:=5) rfl ?_);refine bx 5 #[.int .i64 0,.slice none 0 0] 26 ?_;intro gb163 hg w10 hbox hb;replace HO162:=krA HO162 hb;have BK163:=Aside0.mk (hbox);have GE163:=gzA hg HB;replace HB:=bsA HB hb;have NB158_163:=nlA hg BK158;have NB163_158:=ngA hg BK158;replace BK158:=bkA BK158 hb;have NB159_163:=nlA hg BK159;have NB163_159:=ngA hg BK159;replace BK159:=bkA BK159 hb;clear hb hbox hg;have hnb11:=NB163_158.out;have hnc11:=NB158_163.out;have hnb12:=NB163_159.out;have hnc12:=NB159_163.out;have hcz13_0:=z0_ BK163;have hcz13_1:=z1_ BK163;have hfz13_0:=hf_ BK163 0;have hfz13_1:=hf_ BK163 1))
 go_loopg [6] k (fun kq v6 w'=>∃(x6_1:Int) (x164001_1:List Int) (u164001:Value),v6 = .int .i64 x6_1∧Aside0 (spec_l01Take.l0 kq a1 x6_1 a0_0 l0_1 a0_0 x164001_1=some (r1,r2))∧Aside0 (kq≤k)∧Aside0 (Kd.R (Kd.int .i64) 2 w' w.heap.size (fun _=>True) u164001 x164001_1)∧Aside0 (w'.heap[gb158]?=some (.cells #[.int .i64 a0_0,(.slice A0_1 l0_1.length c0_1)] 26 (0,0)))∧Aside0 (w'.heap[gb159]?=some (.cells #[.int .i64 0,(.slice none 0 0)] 26 (0,0)))∧Aside0 (w'.heap[gb163]?=some (.cells #[.int .i64 a0_0,u164001] 26 (0,0)))∧Aside0 (Below w.heap.size w w'))
 case atStart=>exact⟨(0),(y160),(.slice Ao9 y160.length co9),rs,H',⟨Nat.le_refl _⟩,⟨by(with_reducible repeat(first|apply Kd.R_alloc|apply Kd.R_drewN|apply Kd.R_drew));exact Kd.R_mono (Kd.R_far (p:=⟨gb163,1,none⟩) (Kd.R_far (p:=⟨gb163,0,none⟩) (Kd.R_types HO162.out BK163.out (by decide)) (fun _ hk=>hk.2) (.int .i64 a0_0)) (fun _ hk=>hk.2) (.slice Ao9 y160.length co9)) (fun _ hk=>trivial)⟩,⟨bp BK158.out⟩,⟨bp BK159.out⟩,⟨bp BK163.out⟩,⟨bl HB.out⟩⟩
 case round=>
  clear H';try clear c1
  try clear p2
  try clear c5
  try clear c6
  try clear c11
  try clear c12
  try clear hcz13_0
  try clear hcz13_1
  try clear hcz6_0
  try clear hcz6_1
  try clear hfz13_0
  try clear hfz13_1
  try clear hfz6_0
  try clear hfz6_1
  obtain ⟨x6_1,x164001_1,u164001,rfl,HA,HK1,HO_164001,BK158,BK159,BK163,HB⟩:=hrel;cases gk with
  |zero=>exact absurd HA.out (by simp [spec_l01Take.l0])
  |succ k1=>
   have H:=HA.out;clear HA;simp only [spec_l01Take.l0] at H;by_cases c14:x6_1<(l0_1.length:Int)
   ·rw[if_pos c14] at H;have c14b0:decide (x6_1<(l0_1.length:Int))=true:=decide_eq_true c14;clear c14;by_cases c15:0≤x6_1
    ·rw[if_pos c15] at H;have c15b0:decide (0≤x6_1)=true:=decide_eq_true c15;clear c15;by_cases c16:(Go.bits .and .i64 (rd l0_1 x6_1) a1)=a1
     ·rw[if_pos c16] at H;have c16b0:((Go.bits .and .i64 (rd l0_1 x6_1) a1) == a1)=true:=beq_iff_eq.mpr c16;have c16b1:((Go.bits .and .i64 (rd l0_1 x6_1) a1) != a1)=false:=bne_eq_false_iff_eq.mpr c16;clear c16;have H':=Aside0.mk H;clear H;have hnb17:=NB158_159.out;have hnc17:=NB159_158.out;have hnb18:=NB158_163.out;have hnc18:=NB163_158.out;have hcz19_0:=z0_ BK158;have hcz19_1:=z1_ BK158;have hfz19_0:=hf_ BK158 0;have hfz19_1:=hf_ BK158 1;have p164:0≤(x6_1:Int):=dd;have q164:x6_1<(l0_1.length:Int):=dd;obtain ⟨ad164,e164,hx164_0⟩:=Kd.at_int HR0_1.out x6_1 p164 q164;cases e164;replace hx164_0:=hx_ HB hx164_0;replace p164:=eq_true p164;replace q164:=eq_true q164;go_wp2
      go_roundg k1
      case measure=>have:=HK1.out;omega
      case rel=>exact⟨(wrap64 (x6_1+1)),(x164001_1),(u164001),rs,H',⟨by have:=HK1.out;omega⟩,⟨kr HO_164001.out⟩,⟨bk BK158.out⟩,⟨bk BK159.out⟩,⟨bk BK163.out⟩,⟨bl HB.out⟩⟩
     ·rw[if_neg c16] at H;have c16b0:((Go.bits .and .i64 (rd l0_1 x6_1) a1) == a1)=false:=beq_eq_false_iff_ne.mpr c16;have c16b1:((Go.bits .and .i64 (rd l0_1 x6_1) a1) != a1)=true:=bne_iff_ne.mpr c16;by_cases c20:x164001_1.length<17592186044416
      ·rw[if_pos c20] at H;have LMc20:=Aside0.mk c20;clear c20;obtain ⟨y166,hy166⟩:∃ y_:List Int,y_=(x164001_1 ++ [rd l0_1 x6_1]):=⟨_,rfl⟩
       replace H:(spec_l01Take.l0 k1 a1 (wrap64 (x6_1+1)) a0_0 l0_1 a0_0 y166)=some (r1,r2):=by first|(rw[hy166];with_reducible exact H)|(have H2_:=(Option.bind_some _ _).symm.trans H;rw[hy166];with_reducible exact H2_)|(have H2_:=(Option.bind_some _ _).symm.trans H;with_reducible exact H2_)|with_reducible exact H|(rw[hy166];exact H)|exact H
       have Ny166:=Aside0.mk hy166;clear hy166;have H':=Aside0.mk H;clear H;have hnb21:=NB158_159.out;have hnc21:=NB159_158.out;have hnb22:=NB158_163.out;have hnc22:=NB163_158.out;have hcz23_0:=z0_ BK158;have hcz23_1:=z1_ BK158;have hfz23_0:=hf_ BK158 0;have hfz23_1:=hf_ BK158 1;have p164:0≤(x6_1:Int):=dd;have q164:x6_1<(l0_1.length:Int):=dd;obtain ⟨ad164,e164,hx164_0⟩:=Kd.at_int HR0_1.out x6_1 p164 q164;cases e164;replace hx164_0:=hx_ HB hx164_0;replace p164:=eq_true p164;replace q164:=eq_true q164;try go_wp2
       replace HO_164001:=Aside0.mk (Kd.R_drew HO_164001.out);replace BK158:=Aside0.mk (blk_drew BK158.out);replace BK159:=Aside0.mk (blk_drew BK159.out);replace BK163:=Aside0.mk (blk_drew BK163.out);replace HB:=Aside0.mk (below_drew1 HB.out);have p165:0≤(x6_1:Int):=dd;have q165:x6_1<(l0_1.length:Int):=dd;obtain ⟨ad165,e165,hx165_0⟩:=Kd.at_int HR0_1.out x6_1 p165 q165;have hw165_0:=hx165_0;obtain rfl:ad164=ad165:=(by injection e165)
       replace hx165_0:=hx_ HB hx165_0;replace p165:=eq_true p165;replace q165:=eq_true q165;refine start_ (n:=11) (S:=fun w'=>w'.cell? ⟨gb163,0,none⟩=some (.int .i64 a0_0)∧w'.cell? ⟨gb163,1,none⟩=some (u164001)∧w'.cell? ⟨gb158,0,none⟩=some (.int .i64 a0_0)∧w'.cell? ⟨gb158,1,none⟩=some (.slice (some ad164) l0_1.length c0_1)∧w'.cell? (ad164.add (x6_1).toNat)=some (.int .i64 (rd l0_1 x6_1))) (ds:= [10]) (ar 0 11) (by kernel_rfl) rfl rfl ⟨(blk_cell BK163.out 0).trans rfl,(blk_cell BK163.out 1).trans rfl,(blk_cell BK158.out 0).trans rfl,(blk_cell BK158.out 1).trans rfl,hx_ HB hw165_0⟩ (fun hHeld=>?_);refine with_tabW spec_l01Take.tab6 spec_l01Take.bits6 (fun HT_ HW_=>?_);generalize wr.drew=w24 at HO_164001 BK158 BK159 BK163 HB hx165_0 hHeld ⊢;refine pu 0 (some 27) (ar 1 10) HT_ ?_;refine pu 2 (some 29) #[U,O,U,O,O,O,O,O,O,O,O] HT_ ?_;refine pu 4 (some 31) #[U,O,U,O,U,O,O,O,O,O,O] HT_ ?_;refine tk 1 (some 28) #[U,U,U,O,U,O,O,O,O,O,O] HT_ HW_ hHeld ?_;refine tk 3 (some 30) (ar 5 6) HT_ HW_ hHeld ?_;refine pu 5 (some 32) (ar 6 5) HT_ ?_;refine tk 6 (some 33) (ar 7 4) HT_ HW_ hHeld ?_;refine on_ 7 (some 34) (ar 8 3) HT_ fun K hK=>?_;refine value_ (w1:=?_) (v:=?_) (by rfl) rfl ?_ ?_;rotate_left 2
       ·go_simp;constructor
        ·rfl
        ·rfl
       refine hK.out _ _ ⟨(blk_cell (blk_alloc BK163.out _) 0).trans rfl,(blk_cell (blk_alloc BK163.out _) 1).trans rfl,(blk_cell (blk_alloc BK158.out _) 0).trans rfl,(blk_cell (blk_alloc BK158.out _) 1).trans rfl,(World.cell?_alloc_lt _ _ _ (World.block_lt_of_cell? _ _ ((hx_ HB hw165_0)))).trans ((hx_ HB hw165_0))⟩ (fun hHeld=>?_);clear hK K;refine nr 34 ?_;refine on_ 8 (some 35) (ar 9 2) HT_ fun K hK=>?_;refine Kd.R_append_step (Kd.int .i64) (w0:=w) w.heap.size (by rfl) (.tmp 28) (.tmp 34) 24 2 (.int .i64 0) 8 rfl Tryz.underlying24 info2 rfl (by decide) (by omega) u164001 x164001_1 (rd l0_1 x6_1) [.int .i64 (rd l0_1 x6_1)] (fun _=>True) (fun _=>False) rfl rfl ?aP (fun _ hk=>hk.elim) ?aF ?aO ?aB ?aS ?aL ?_;(case aP=>exact rfl)
       (case aB=>exact(bl HB.out))
       (case aF=>exact(fun _ _=>trivial))
       (case aO=>exact(kr HO_164001.out))
       (case aS=>exact(below_size (bl HB.out)))
       (case aL=>have:=LMc20.out;omega)
       intro v167 w25 ho hb hg hat;rw[← Ny166.out] at ho;have n0_:=Aside0.mk (blk_grown (bk BK158.out) hg (Kd.R_ne HO_164001.out BK158.out (by decide)));have n1_:=Aside0.mk (blk_grown (bk BK159.out) hg (Kd.R_ne HO_164001.out BK159.out (by decide)));have n2_:=Aside0.mk (blk_grown (bk BK163.out) hg (Kd.R_ne HO_164001.out BK163.out (by decide)));have n3_:=Aside0.mk (hb);have n4_:=Aside0.mk (ho);clear BK158;clear BK159;clear BK163;clear HB;clear HO_164001;have BK158:=n0_;have BK159:=n1_;have BK163:=n2_;have HB:=n3_;have HO168:=n4_;clear n0_ n1_ n2_ n3_ n4_;clear ho hb hg hat;obtain ⟨Ao26,co26,eo26⟩:=Kd.R_slice HO168.out;(first|subst eo26|(injection eo26 with f1_ f2_ f3_;have f4_:=f1_.symm;have f5_:=f3_.symm;clear f1_ f2_ f3_;subst f4_;subst f5_))
       refine hK.out _ _ ⟨(blk_cell BK163.out 0).trans rfl,(blk_cell BK163.out 1).trans rfl,(blk_cell BK158.out 0).trans rfl,(blk_cell BK158.out 1).trans rfl,hx_ HB hw165_0⟩ (fun hHeld=>?_);clear hK K;refine nr 35 ?_;refine pu 9 (some 36) (ar 10 1) HT_ ?_;refine last_ (i:=10) (N:=none) (ar 11 0) rfl rfl (one_of HT_.out (by kernel_rfl)) (by decide) (fun K hK=>?_);have hs27:w25.cell? ⟨gb163,1,none⟩=some (u164001):=(blk_cell BK163.out 1).trans rfl;have hfs27:=blk_frozen BK163.out 1;have hns27_0:=NB158_163.out;have hns27_1:=NB159_163.out;have hms27_0:=NB163_158.out;have hms27_1:=NB163_159.out;refine skip_ (w1:=?_) (by rfl) rfl ?_ ?_;rotate_left
       ·go_simp;rfl
       refine hK.out _ _ ?_;clear hK K;refine done_ (done_of HT_.out (by kernel_rfl)) ?_;try go_wp2
       go_roundg k1
       case measure=>have:=HK1.out;omega
       case rel=>exact⟨(wrap64 (x6_1+1)),(y166),(.slice Ao26 y166.length co26),rs,H',⟨by have:=HK1.out;omega⟩,⟨by(with_reducible repeat(first|apply Kd.R_alloc|apply Kd.R_drewN|apply Kd.R_drew));exact Kd.R_mono (Kd.R_far (p:=⟨gb163,1,none⟩) (Kd.R_types HO168.out BK163.out (by decide)) (fun _ hk=>hk.2) (.slice Ao26 y166.length co26)) (fun _ hk=>trivial)⟩,⟨bp BK158.out⟩,⟨bp BK159.out⟩,⟨bp BK163.out⟩,⟨bl HB.out⟩⟩
      ·rw[if_neg c20] at H;exact absurd H (by simp)
    ·rw[if_neg c15] at H;exact absurd H (by simp)
   ·rw[if_neg c14] at H;have c14b0:decide (x6_1<(l0_1.length:Int))=false:=decide_eq_false c14;clear c14;simp only [Option.some.injEq,Prod.mk.injEq] at H;obtain ⟨rfl,rfl⟩:=H;have hnb28:=NB158_159.out;have hnc28:=NB159_158.out;have hnb29:=NB158_163.out;have hnc29:=NB163_158.out;have hcz30_0:=z0_ BK158;have hcz30_1:=z1_ BK158;have hfz30_0:=hf_ BK158 0;have hfz30_1:=hf_ BK158 1;have hnb31:=NB163_159.out;have hnc31:=NB159_163.out;have hcz32_0:=z0_ BK163;have hcz32_1:=z1_ BK163;have hfz32_0:=hf_ BK163 0;have hfz32_1:=hf_ BK163 1;have hcz33_0:=z0_ BK159;have hcz33_1:=z1_ BK159;have hfz33_0:=hf_ BK159 0;have hfz33_1:=hf_ BK159 1;obtain ⟨Ao34,co34,eo34⟩:=Kd.R_slice HO_164001.out;subst eo34;go_wp2
    refine bodyPost_ret (results_cell_row rfl _ _ gb159 26 #[.int .i64 a0_0,.slice Ao34 x164001_1.length co34] (0,0) _ rfl (bp BK159.out) Tryz.underlying26 rfl (by kernel_rfl)) rfl ?_;exact⟨_,rr,by(with_reducible repeat(first|apply Kd.R_alloc|apply Kd.R_drewN|apply Kd.R_drew));exact Kd.R_mono (Kd.R_far (p:=⟨gb159,1,none⟩) (Kd.R_far (p:=⟨gb159,0,none⟩) (Kd.R_types HO_164001.out BK159.out (by decide)) (fun _ hk=>hk.2) (.int .i64 a0_0)) (fun _ hk=>hk.2) (.slice Ao34 x164001_1.length co34)) (fun _ hk=>trivial),bl HB.out⟩
end Go.Proofs.YtlhkdbkjafiikaaGreat.Q
end

section
namespace Go.Proofs.YtlhkdbkjafiikaaGreat.Q
open Go.RowKit Go.Proofs.YtlhkdbkjafiikaaGreatW.PrintWords Go.Proofs.YtlhkdbkjafiikaaGreatW.PrintLast Go.Proofs.YtlhkdbkjafiikaaGreatW.PrintMore
attribute [local go_sem] max2_int min2_int max_two min_two max_three min_three max_four min_four
set_option linter.unusedVariables false
set_option linter.unusedSimpArgs false
def spec_TakeFace.f (k:Nat) (a0_0:Int) (l0_1:List Int) (a1:Int):Option (Int×List Int×Int):=(spec_l01Face.f k a0_0 l0_1 a1).bind fun t171=>(if t171=0 then ((spec_l01Take.f k a0_0 l0_1 a1).bind fun bt172=>(some (bt172.1,bt172.2,0))) else (some (0,([]:List Int),t171)))
theorem spec_TakeFace.mono:∀ a0 a1 a2 k,LeO (spec_TakeFace.f k a0 a1 a2) (spec_TakeFace.f (k+1) a0 a1 a2):=by
 intro a0 a1 a2 k;unfold spec_TakeFace.f;repeat' first
   |(with_reducible first|exact spec_l01Face.mono _ _ _ _|exact spec_l01Take.mono _ _ _ _|exact LeO.refl _|exact LeO.none _|refine LeO.ite ?_ ?_|refine LeO.bind ?_ (fun _=>?_))
set_option maxHeartbeats 8000000 in
set_option maxRecDepth 100000 in
theorem spec_TakeFace.calls (k:Nat) (a0_0:Int) (A0_1:Option Addr) (c0_1:Nat) (l0_1:List Int) (a1:Int) (r1:Int) (r2:List Int) (r3:Int) (w:World) (hr0_1:Kd.C (Kd.int .i64) w A0_1 l0_1.length l0_1) (hc0_1:l0_1.length≤c0_1) (h:spec_TakeFace.f k a0_0 l0_1 a1=some (r1,r2,r3)) :
  Calls Tryz.prog 12 #[.agg #[.int .i64 a0_0,.slice A0_1 l0_1.length c0_1],.int .i64 a1] w fun e w'=>∃ v1_:Value,e = .returned (.tuple #[.agg #[.int .i64 r1,v1_],.int .i64 r3])∧Kd.R (Kd.int .i64) 2 w' w.heap.size (fun _=>True) v1_ r2∧Below w.heap.size w w':=by
 have hu26:=Tryz.underlying26;have HR0_1:=Aside0.mk hr0_1;have HC0_1:=Aside0.mk hc0_1;clear hr0_1 hc0_1;have HB:=Aside0.mk (Below.refl w.heap.size w);have H:((spec_l01Face.f k a0_0 l0_1 a1).bind fun t171=>(if t171=0 then ((spec_l01Take.f k a0_0 l0_1 a1).bind fun bt172=>(some (bt172.1,bt172.2,0))) else (some (0,([]:List Int),t171))))=some (r1,r2,r3):=h;clear h;replace H:=Option.bind_eq_some_iff.mp H;obtain ⟨t171,A30,H⟩:=H;replace H:(if t171=0 then ((spec_l01Take.f k a0_0 l0_1 a1).bind fun bt172=>(some (bt172.1,bt172.2,0))) else (some (0,([]:List Int),t171)))=some (r1,r2,r3):=H;have A3:=Aside0.mk A30;clear A30;by_cases c4:t171=0
 ·rw[if_pos c4] at H;have c4b0:(t171 == 0)=true:=beq_iff_eq.mpr c4;have c4b1:(t171 != 0)=false:=bne_eq_false_iff_eq.mpr c4;clear c4;replace H:=Option.bind_eq_some_iff.mp H;obtain ⟨⟨t172,t173⟩,A50,H⟩:=H;replace H:(some (t172,t173,0))=some (r1,r2,r3):=H;have A5:=Aside0.mk A50;clear A50;simp only [Option.some.injEq,Prod.mk.injEq] at H;obtain ⟨rfl,rfl,rfl⟩:=H;go_enter Tryz.func12,Tryz.ntmps12;go_wp2_with (first|((with_reducible refine gate_dst (N:=2) rfl ?_);refine bx 2 #[.int .i64 a0_0,.slice A0_1 l0_1.length c0_1] 26 ?_;intro gb169 hg w6 hbox hb;have BK169:=Aside0.mk (hbox);have GE169:=gzA hg HB;replace HB:=bsA HB hb;clear hb hbox hg)|((with_reducible refine gate_dst (N:=4) rfl ?_);refine bx 4 #[.int .i64 0,.slice none 0 0] 26 ?_;intro gb170 hg w7 hbox hb;have BK170:=Aside0.mk (hbox);have GE170:=gzA hg HB;replace HB:=bsA HB hb;have NB169_170:=nlA hg BK169;have NB170_169:=ngA hg BK169;replace BK169:=bkA BK169 hb;clear hb hbox hg;have hnb8:=NB169_170.out;have hnc8:=NB170_169.out;have hcz9_0:=z0_ BK169;have hcz9_1:=z1_ BK169;have hfz9_0:=hf_ BK169 0;have hfz9_1:=hf_ BK169 1)|((with_reducible refine gate_callee (f:=57) rfl ?_);refine gl (some 9) Tryz.func57 #[.agg #[.int .i64 a0_0,.slice A0_1 l0_1.length c0_1],.int .i64 a1] ?_;(with_reducible refine(spec_l01Face.calls k a0_0 _ _ l0_1 a1 t171 _ (cb (Kd.C_below HR0_1.out HB.out)) HC0_1.out A3.out).mono ?_);rintro e w10 ⟨rfl,hb⟩;refine⟨_,rfl,?_⟩;replace BK169:=bkA BK169 hb;replace BK170:=bkA BK170 hb;replace HB:=bsA HB hb;(try clear hb);(try clear hb2);(try clear hk);(try clear hi);have hcz11_0:=z0_ BK169;have hcz11_1:=z1_ BK169;have hfz11_0:=hf_ BK169 0;have hfz11_1:=hf_ BK169 1)|((with_reducible refine gate_callee (f:=65) rfl ?_);refine gl (some 16) Tryz.func65 #[.agg #[.int .i64 a0_0,.slice A0_1 l0_1.length c0_1],.int .i64 a1] ?_;(with_reducible refine(spec_l01Take.calls k a0_0 _ _ l0_1 a1 t172 t173 _ (cb (Kd.C_below HR0_1.out HB.out)) HC0_1.out A5.out).mono ?_);rintro e w12 ⟨v174,rfl,ho0,hb⟩;refine⟨_,rfl,?_⟩;have HO175:=klA ho0 HB;replace BK169:=bkA BK169 hb;replace BK170:=bkA BK170 hb;replace HB:=bsA HB hb;(try clear hb);(try clear hb2);(try clear hk);(try clear hi);(try clear ho0);have hcz13_0:=z0_ BK170;have hcz13_1:=z1_ BK170;have hfz13_0:=hf_ BK170 0;have hfz13_1:=hf_ BK170 1;obtain ⟨Ao14,co14,eo14⟩:=Kd.R_slice HO175.out;subst eo14))
  refine bodyPost_ret (results_ct rfl _ _ gb170 26 #[.int .i64 t172,.slice Ao14 t173.length co14] (0,0) _ rfl (bp BK170.out) Tryz.underlying26 rfl (by kernel_rfl)) rfl ?_;exact⟨_,rr,by(with_reducible repeat(first|apply Kd.R_alloc|apply Kd.R_drewN|apply Kd.R_drew));exact Kd.R_mono (Kd.R_far (p:=⟨gb170,1,none⟩) (Kd.R_far (p:=⟨gb170,0,none⟩) (Kd.R_types HO175.out BK170.out (by decide)) (fun _ hk=>hk.2) (.int .i64 t172)) (fun _ hk=>hk.2) (.slice Ao14 t173.length co14)) (fun _ hk=>trivial),bl HB.out⟩
 ·rw[if_neg c4] at H;have c4b0:(t171 == 0)=false:=beq_eq_false_iff_ne.mpr c4;have c4b1:(t171 != 0)=true:=bne_iff_ne.mpr c4;simp only [Option.some.injEq,Prod.mk.injEq] at H;obtain ⟨rfl,rfl,rfl⟩:=H;go_enter Tryz.func12,Tryz.ntmps12;go_wp2_with (first|((with_reducible refine gate_dst (N:=2) rfl ?_);refine bx 2 #[.int .i64 a0_0,.slice A0_1 l0_1.length c0_1] 26 ?_;intro gb169 hg w15 hbox hb;have BK169:=Aside0.mk (hbox);have GE169:=gzA hg HB;replace HB:=bsA HB hb;clear hb hbox hg)|((with_reducible refine gate_dst (N:=4) rfl ?_);refine bx 4 #[.int .i64 0,.slice none 0 0] 26 ?_;intro gb170 hg w16 hbox hb;have BK170:=Aside0.mk (hbox);have GE170:=gzA hg HB;replace HB:=bsA HB hb;have NB169_170:=nlA hg BK169;have NB170_169:=ngA hg BK169;replace BK169:=bkA BK169 hb;clear hb hbox hg;have hnb17:=NB169_170.out;have hnc17:=NB170_169.out;have hcz18_0:=z0_ BK169;have hcz18_1:=z1_ BK169;have hfz18_0:=hf_ BK169 0;have hfz18_1:=hf_ BK169 1)|((with_reducible refine gate_callee (f:=57) rfl ?_);refine gl (some 9) Tryz.func57 #[.agg #[.int .i64 a0_0,.slice A0_1 l0_1.length c0_1],.int .i64 a1] ?_;(with_reducible refine(spec_l01Face.calls k a0_0 _ _ l0_1 a1 t171 _ (cb (Kd.C_below HR0_1.out HB.out)) HC0_1.out A3.out).mono ?_);rintro e w19 ⟨rfl,hb⟩;refine⟨_,rfl,?_⟩;replace BK169:=bkA BK169 hb;replace BK170:=bkA BK170 hb;replace HB:=bsA HB hb;(try clear hb);(try clear hb2);(try clear hk);(try clear hi);have hcz20_0:=z0_ BK170;have hcz20_1:=z1_ BK170;have hfz20_0:=hf_ BK170 0;have hfz20_1:=hf_ BK170 1))
  refine bodyPost_ret (results_ct rfl _ _ gb170 26 #[.int .i64 0,.slice none 0 0] (0,0) _ rfl (bp BK170.out) Tryz.underlying26 rfl (by kernel_rfl)) rfl ?_;exact⟨_,rr,by first|exact Kd.R_nil _ _ _ _ _|exact Kd.N_nil _ _ _ _ _|exact Kd.V_nil _ _ _ _ _|exact Kd.Q_nil _ _ _ _ _|exact Kd.S_nil _ _ _ _ _,bl HB.out⟩
def spec_l01Own.f (l0:List Int):Option (List Int):=(some (([]:List Int):List Int)).bind fun y176=>(if y176.length+l0.length<17592186044416 then (some (y176 ++ l0)) else (none))
set_option maxHeartbeats 8000000 in
set_option maxRecDepth 100000 in
theorem spec_l01Own.calls (A0:Option Addr) (c0:Nat) (l0:List Int) (r:List Int) (w:World) (hr0:Kd.C (Kd.int .i64) w A0 l0.length l0) (hc0:l0.length≤c0) (h:spec_l01Own.f l0=some r) :
  Calls Tryz.prog 123 #[.slice A0 l0.length c0] w fun e w'=>∃ v0_:Value,e = .returned (v0_)∧Kd.R (Kd.int .i64) 2 w' w.heap.size (fun _=>True) v0_ r∧Below w.heap.size w w':=by
 have HR0:=Aside0.mk hr0;have HC0:=Aside0.mk hc0;clear hr0 hc0;have HB:=Aside0.mk (Below.refl w.heap.size w);have H:((some (([]:List Int):List Int)).bind fun y176=>(if y176.length+l0.length<17592186044416 then (some (y176 ++ l0)) else (none)))=some r:=h;clear h;obtain ⟨y176,hy176⟩:∃ y_:List Int,y_=(([]:List Int)):=⟨_,rfl⟩
 replace H:(if y176.length+l0.length<17592186044416 then (some (y176 ++ l0)) else (none))=some r:=by first|(rw[hy176];with_reducible exact H)|(have H2_:=(Option.bind_some _ _).symm.trans H;rw[hy176];with_reducible exact H2_)|(have H2_:=(Option.bind_some _ _).symm.trans H;with_reducible exact H2_)|with_reducible exact H|(rw[hy176];exact H)|exact H
 have Ny176:=Aside0.mk hy176;clear hy176;by_cases c2:y176.length+l0.length<17592186044416
 ·rw[if_pos c2] at H;have LMc2:=Aside0.mk c2;clear c2;obtain ⟨y179,hy179⟩:∃ y_:List Int,y_=(y176 ++ l0):=⟨_,rfl⟩
  replace H:(some y179)=some r:=by first|(rw[hy179];with_reducible exact H)|(have H2_:=(Option.bind_some _ _).symm.trans H;rw[hy179];with_reducible exact H2_)|(have H2_:=(Option.bind_some _ _).symm.trans H;with_reducible exact H2_)|with_reducible exact H|(rw[hy179];exact H)|exact H
  have Ny179:=Aside0.mk hy179;clear hy179;obtain rfl:=Option.some.inj H;go_enter Tryz.func123,Tryz.ntmps123;go_wp2_with (first|((with_reducible refine gate_dst (N:=3) rfl ?_);refine Kd.R_lit (Kd.int .i64) _ 2 ?hg (N:=3) ?hd (xs:=([]:List Int)) (inner:= []) (ok:=fun _=>True) (okp:=fun _=>True) ?hr ?hp (fun _ hk=>hk) trivial (Below.refl _ _) (Nat.le_refl _) (by simp) ?_;(case hd=>rfl);(case hg=>rfl);(case hr=>first|(go_simp;done)|(go_simp;rfl));(case hp=>exact(Reps.none _ _));intro v177 w3 ho4 hb hg_ hnew_;clear hg_ hnew_;(first|rw[← Ny176.out] at ho4|(simp only [Int.reduceToNat] at ho4;rw[← Ny176.out] at ho4));have HO178:=klA ho4 HB;replace HB:=bsA HB hb;clear hb ho4)|((with_reducible refine gate_builtin (b:= .append) (xs:=#[.tmp 3,.tmp 4]) rfl ?_);at_builtin;refine Kd.R_append_rows (Kd.int .i64) (w0:=w) w.heap.size rfl (.tmp 3) (.tmp 4) 24 2 (.int .i64 0) 8 rfl Tryz.underlying24 info2 rfl (by decide) (by omega) v177 y176 l0 _ _ _ (fun _=>True) (fun _=>False) rfl rfl ?aO ?aR (fun _ _ h=>h) (fun _ h=>h.elim) ?aF ?aB ?aS ?aL ?_;(case aR=>repeat(first|exact(Kd.C_below HR0.out HB.out)|(with_reducible refine Kd.C_alloc ?_ _)|(with_reducible refine Kd.C_drewN ?_ _)|(with_reducible refine Kd.C_drew ?_)));(case aB=>exact(bl HB.out));(case aF=>exact(fun _ _=>trivial));(case aO=>exact(kr HO178.out));(case aS=>exact(below_size (bl HB.out)));(case aL=>have:=LMc2.out;omega);intro v180 w5 ho hb hg hat;rw[← Ny179.out] at ho;have n0_:=Aside0.mk (hb);have n1_:=Aside0.mk (ho);clear HB;clear HO178;have HB:=n0_;have HO181:=n1_;clear n0_ n1_;clear ho hb hg hat))
  go_ret;exact⟨_,rr,by(with_reducible repeat(first|apply Kd.R_alloc|apply Kd.R_drewN|apply Kd.R_drew));exact HO181.out,bl HB.out⟩
 ·rw[if_neg c2] at H;exact absurd H (by simp)
end Go.Proofs.YtlhkdbkjafiikaaGreat.Q
end

section
namespace Go.Proofs.YtlhkdbkjafiikaaGreat.Q
open Go.RowKit Go.Proofs.YtlhkdbkjafiikaaGreatW.PrintWords Go.Proofs.YtlhkdbkjafiikaaGreatW.PrintLast Go.Proofs.YtlhkdbkjafiikaaGreatW.PrintMore
attribute [local go_sem] max2_int min2_int max_two min_two max_three min_three max_four min_four
set_option linter.unusedVariables false
set_option linter.unusedSimpArgs false
mutual
def spec_l01Join.l0:Nat→Int→Int→List Int→Int→List Int→Int→List Int→Option (Int×List Int)
 |0,_,_,_,_,_,_,_=>none
 |k+1,x6,x183000,x183001,x184000,x184001,x189000,x189001=>if x6<(x184001.length:Int) then (if 0≤x6 then (if 0≤(IntKind.u64.wrap (x183000)) then (if x189001.length<17592186044416 then (spec_l01Join.l1 k x6 (shl .i64 (rd x184001 x6) (IntKind.u64.wrap (x183000))) 0 x183000 x183001 x184000 x184001 x189000 (x189001 ++ [shl .i64 (rd x184001 x6) (IntKind.u64.wrap (x183000))])) else (none)) else (none)) else (none)) else (some (x189000,x189001))
def spec_l01Join.l1:Nat→Int→Int→Int→Int→List Int→Int→List Int→Int→List Int→Option (Int×List Int)
 |0,_,_,_,_,_,_,_,_,_=>none
 |k+1,x6,x7,x8,x183000,x183001,x184000,x184001,x189000,x189001=>if x8<(x183001.length:Int) then (if 0≤x8 then (if x189001.length<17592186044416 then (spec_l01Join.l1 k x6 x7 (wrap64 (x8+1)) x183000 x183001 x184000 x184001 x189000 (x189001 ++ [wrap64 (x7+(rd x183001 x8))])) else (none)) else (none)) else (spec_l01Join.l0 k (wrap64 (x6+1)) x183000 x183001 x184000 x184001 x189000 x189001)
end
def spec_l01Join.f (k:Nat) (a0_0:Int) (l0_1:List Int) (a1_0:Int) (l1_1:List Int):Option (Int×List Int):=(spec_l01Own.f l0_1).bind fun t185=>(spec_l01Join.l0 k 0 a0_0 l0_1 a1_0 l1_1 (wrap64 (a0_0+a1_0)) t185)
theorem spec_l01Join.mono_l:∀ k,(∀ y0 y1 y2 y3 y4 y5 y6,LeO (spec_l01Join.l0 k y0 y1 y2 y3 y4 y5 y6) (spec_l01Join.l0 (k+1) y0 y1 y2 y3 y4 y5 y6))∧(∀ y0 y1 y2 y3 y4 y5 y6 y7 y8,LeO (spec_l01Join.l1 k y0 y1 y2 y3 y4 y5 y6 y7 y8) (spec_l01Join.l1 (k+1) y0 y1 y2 y3 y4 y5 y6 y7 y8))
 |0=>⟨fun _ _ _ _ _ _ _ r h=>by simp [spec_l01Join.l0] at h,fun _ _ _ _ _ _ _ _ _ r h=>by simp [spec_l01Join.l1] at h⟩
 |k+1=>by
  obtain ⟨ih0,ih1⟩:=spec_l01Join.mono_l k;refine⟨?_,?_⟩
  ·intro y0 y1 y2 y3 y4 y5 y6;unfold spec_l01Join.l0;repeat' first
   |(with_reducible first|exact ih0 _ _ _ _ _ _ _|exact ih1 _ _ _ _ _ _ _ _ _|exact LeO.refl _|exact LeO.none _|refine LeO.ite ?_ ?_|refine LeO.bind ?_ (fun _=>?_))
  ·intro y0 y1 y2 y3 y4 y5 y6 y7 y8;unfold spec_l01Join.l1;repeat' first
   |(with_reducible first|exact ih0 _ _ _ _ _ _ _|exact ih1 _ _ _ _ _ _ _ _ _|exact LeO.refl _|exact LeO.none _|refine LeO.ite ?_ ?_|refine LeO.bind ?_ (fun _=>?_))
theorem spec_l01Join.mono:∀ a0 a1 a2 a3 k,LeO (spec_l01Join.f k a0 a1 a2 a3) (spec_l01Join.f (k+1) a0 a1 a2 a3):=by
 intro a0 a1 a2 a3 k;obtain ⟨ih0,ih1⟩:=spec_l01Join.mono_l k;unfold spec_l01Join.f;repeat' first
   |(with_reducible first|exact ih0 _ _ _ _ _ _ _|exact ih1 _ _ _ _ _ _ _ _ _|exact LeO.refl _|exact LeO.none _|refine LeO.ite ?_ ?_|refine LeO.bind ?_ (fun _=>?_))
def spec_l01Join.T1:Bool×List (List Nat×List Nat):=(true,[([],[]),([0],[0]),([],[]),([2],[2]),([1,3],[1,3]),([],[]),([5],[5]),([6],[6]),([4,7],[4,7]),([],[]),([9,8,7,0,1,2,3,4,5,6,7,8,9],[8,9])])
def spec_l01Join.B1:List Nat:= [0,1,0,4,15,0,32,96,255,0,1023]
theorem spec_l01Join.tab1:rtab .any (opsOf Tryz.f72 1)=spec_l01Join.T1:=by kernel_rfl
theorem spec_l01Join.bits1:waitsOk spec_l01Join.T1.2 spec_l01Join.B1=true:=by kernel_rfl
def spec_l01Join.T5:Bool×List (List Nat×List Nat):=(true,[([],[]),([0],[0]),([],[]),([1,2],[1,2]),([3],[3]),([],[]),([5],[5]),([6],[6]),([4,7],[4,7]),([8,0,1,2,3,4,5,6,7,8],[8])])
def spec_l01Join.B5:List Nat:= [0,1,0,7,15,0,32,96,255,511]
theorem spec_l01Join.tab5:rtab .any (opsOf Tryz.f72 5)=spec_l01Join.T5:=by kernel_rfl
theorem spec_l01Join.bits5:waitsOk spec_l01Join.T5.2 spec_l01Join.B5=true:=by kernel_rfl
def spec_l01Join.T10:Bool×List (List Nat×List Nat):=(true,[([],[]),([0],[0]),([],[]),([],[]),([3],[3]),([],[]),([4,5],[4,5]),([6],[6]),([2,7],[2,7]),([8],[8]),([1,9],[1,9]),([0,1,2,3,4,5,6,7,8,9,10],[]),([11,10,10,0,1,2,3,4,5,6,7,8,9,10],[10,11])])
def spec_l01Join.B10:List Nat:= [0,1,0,0,8,0,56,120,252,508,1023,2047,4095]
theorem spec_l01Join.tab10:rtab .any (opsOf Tryz.f72 10)=spec_l01Join.T10:=by kernel_rfl
theorem spec_l01Join.bits10:waitsOk spec_l01Join.T10.2 spec_l01Join.B10=true:=by kernel_rfl
set_option maxHeartbeats 8000000 in
set_option maxRecDepth 100000 in
theorem spec_l01Join.calls (k:Nat) (a0_0:Int) (A0_1:Option Addr) (c0_1:Nat) (l0_1:List Int) (a1_0:Int) (A1_1:Option Addr) (c1_1:Nat) (l1_1:List Int) (r1:Int) (r2:List Int) (w:World) (hr0_1:Kd.C (Kd.int .i64) w A0_1 l0_1.length l0_1) (hc0_1:l0_1.length≤c0_1) (hr1_1:Kd.C (Kd.int .i64) w A1_1 l1_1.length l1_1) (hc1_1:l1_1.length≤c1_1) (h:spec_l01Join.f k a0_0 l0_1 a1_0 l1_1=some (r1,r2)) :
  Calls Tryz.prog 72 #[.agg #[.int .i64 a0_0,.slice A0_1 l0_1.length c0_1],.agg #[.int .i64 a1_0,.slice A1_1 l1_1.length c1_1]] w fun e w'=>∃ v1_:Value,e = .returned (.agg #[.int .i64 r1,v1_])∧Kd.R (Kd.int .i64) 2 w' w.heap.size (fun _=>True) v1_ r2∧Below w.heap.size w w':=by
 have hu26:=Tryz.underlying26;have HR0_1:=Aside0.mk hr0_1;have HC0_1:=Aside0.mk hc0_1;clear hr0_1 hc0_1;have HR1_1:=Aside0.mk hr1_1;have HC1_1:=Aside0.mk hc1_1;clear hr1_1 hc1_1;have HB:=Aside0.mk (Below.refl w.heap.size w);have H:((spec_l01Own.f l0_1).bind fun t185=>(spec_l01Join.l0 k 0 a0_0 l0_1 a1_0 l1_1 (wrap64 (a0_0+a1_0)) t185))=some (r1,r2):=h;clear h;replace H:=Option.bind_eq_some_iff.mp H;obtain ⟨t185,A30,H⟩:=H;replace H:(spec_l01Join.l0 k 0 a0_0 l0_1 a1_0 l1_1 (wrap64 (a0_0+a1_0)) t185)=some (r1,r2):=H;have A3:=Aside0.mk A30;clear A30;have H':=Aside0.mk H;clear H;go_enter Tryz.func72,Tryz.ntmps72;try go_wp2_with (first|((with_reducible refine gate_dst (N:=2) rfl ?_);refine bx 2 #[.int .i64 a0_0,.slice A0_1 l0_1.length c0_1] 26 ?_;intro gb182 hg w4 hbox hb;have BK182:=Aside0.mk (hbox);have GE182:=gzA hg HB;replace HB:=bsA HB hb;clear hb hbox hg)|((with_reducible refine gate_dst (N:=3) rfl ?_);refine bx 3 #[.int .i64 a1_0,.slice A1_1 l1_1.length c1_1] 26 ?_;intro gb183 hg w5 hbox hb;have BK183:=Aside0.mk (hbox);have GE183:=gzA hg HB;replace HB:=bsA HB hb;have NB182_183:=nlA hg BK182;have NB183_182:=ngA hg BK182;replace BK182:=bkA BK182 hb;clear hb hbox hg)|((with_reducible refine gate_dst (N:=4) rfl ?_);refine bx 4 #[.int .i64 0,.slice none 0 0] 26 ?_;intro gb184 hg w6 hbox hb;have BK184:=Aside0.mk (hbox);have GE184:=gzA hg HB;replace HB:=bsA HB hb;have NB182_184:=nlA hg BK182;have NB184_182:=ngA hg BK182;replace BK182:=bkA BK182 hb;have NB183_184:=nlA hg BK183;have NB184_183:=ngA hg BK183;replace BK183:=bkA BK183 hb;clear hb hbox hg))
 replace BK182:=Aside0.mk (blk_drew BK182.out);replace BK183:=Aside0.mk (blk_drew BK183.out);replace BK184:=Aside0.mk (blk_drew BK184.out);replace HB:=Aside0.mk (below_drew1 HB.out);refine start_ (n:=11) (S:=fun w'=>w'.cell? ⟨gb182,0,none⟩=some (.int .i64 a0_0)∧w'.cell? ⟨gb182,1,none⟩=some (.slice A0_1 l0_1.length c0_1)∧w'.cell? ⟨gb183,0,none⟩=some (.int .i64 a1_0)∧w'.cell? ⟨gb183,1,none⟩=some (.slice A1_1 l1_1.length c1_1)) (ds:= []) (ar 0 11) (by kernel_rfl) rfl rfl ⟨(blk_cell BK182.out 0).trans rfl,(blk_cell BK182.out 1).trans rfl,(blk_cell BK183.out 0).trans rfl,(blk_cell BK183.out 1).trans rfl⟩ (fun hHeld=>?_);refine with_tabW spec_l01Join.tab1 spec_l01Join.bits1 (fun HT_ HW_=>?_);generalize w6.drew=w7 at BK182 BK183 BK184 HB hHeld ⊢;refine pu 0 (some 9) (ar 1 10) HT_ ?_;refine pu 2 (some 11) #[U,O,U,O,O,O,O,O,O,O,O] HT_ ?_;refine pu 5 (some 14) #[U,O,U,O,O,U,O,O,O,O,O] HT_ ?_;refine tk 1 (some 10) #[U,U,U,O,O,U,O,O,O,O,O] HT_ HW_ hHeld ?_;refine tk 3 (some 12) #[U,U,U,U,O,U,O,O,O,O,O] HT_ HW_ hHeld ?_;refine pu 4 (some 13) (ar 6 5) HT_ ?_;refine tk 6 (some 15) (ar 7 4) HT_ HW_ hHeld ?_;refine join_ (σ:=Value×Nat) 1 (ar 10 1) (fun s_=> [(16,s_.1),(5,.pointer (some ⟨s_.2,0,none⟩)),(17,.agg #[.int .i64 (wrap64 (a0_0+a1_0)),s_.1])]) (fun s_ w'=>(w'.cell? ⟨gb182,0,none⟩=some (.int .i64 a0_0)∧w'.cell? ⟨gb182,1,none⟩=some (.slice A0_1 l0_1.length c0_1)∧w'.cell? ⟨gb183,0,none⟩=some (.int .i64 a1_0)∧w'.cell? ⟨gb183,1,none⟩=some (.slice A1_1 l1_1.length c1_1))∧(Kd.R (Kd.int .i64) 2 w' w.heap.size (fun _=>True) s_.1 t185)∧(w'.heap[gb182]?=some (.cells #[.int .i64 a0_0,.slice A0_1 l0_1.length c0_1] 26 (0,0)))∧(w'.heap[gb183]?=some (.cells #[.int .i64 a1_0,.slice A1_1 l1_1.length c1_1] 26 (0,0)))∧(w'.heap[gb184]?=some (.cells #[.int .i64 0,.slice none 0 0] 26 (0,0)))∧(w'.heap[s_.2]?=some (.cells #[.int .i64 0,.slice none 0 0] 26 (0,0)))∧(w.heap.size≤s_.2)∧(w.heap.size≤s_.2)∧(gb182≠s_.2)∧(s_.2≠gb182)∧(gb183≠s_.2)∧(s_.2≠gb183)∧(gb184≠s_.2)∧(s_.2≠gb184)∧(Below w.heap.size w w')) ?_ ?_;rotate_left
 ·intro hCont;refine two_ (i:=7) (j:=9) (Ni:=some 16) (Nj:=some 5) (ar 8 3) #[U,U,U,U,U,U,U,O,O,U,O] rfl rfl rfl rfl (two_of HT_.out (by kernel_rfl)) (by decide) (by decide) (fun K hK=>?_) (fun K hK=>?_)
  ·skip
   refine gr Tryz.func123 #[.slice A0_1 l0_1.length c0_1] ?_;with_reducible refine(spec_l01Own.calls _ _ l0_1 t185 _ (cb (Kd.C_below HR0_1.out HB.out)) HC0_1.out A3.out).mono ?_
   rintro e w8 ⟨v186,rfl,ho0,hb⟩;refine⟨_,rfl,?_⟩;have HO187:=klA ho0 HB;replace BK182:=bkA BK182 hb;replace BK183:=bkA BK183 hb;replace BK184:=bkA BK184 hb;replace HB:=bsA HB hb;(try clear hb)
   (try clear hb2)
   (try clear hk)
   (try clear hi)
   (try clear ho0)
   obtain ⟨Ao9,co9,eo9⟩:=Kd.R_slice HO187.out;(first|subst eo9|(injection eo9 with f1_ f2_ f3_;have f4_:=f1_.symm;have f5_:=f3_.symm;clear f1_ f2_ f3_;subst f4_;subst f5_))
   refine hK.out _ _ ⟨(blk_cell BK182.out 0).trans rfl,(blk_cell BK182.out 1).trans rfl,(blk_cell BK183.out 0).trans rfl,(blk_cell BK183.out 1).trans rfl⟩ (fun hHeld=>?_);clear hK K;refine nr 16 ?_;refine pu 8 (some 17) (ar 9 2) HT_ ?_;refine on_ 9 (some 5) (ar 10 1) HT_ fun K hK=>?_;refine box_step ?hg (N:=5) ?hd (cs:=#[.int .i64 0,.slice none 0 0]) (t:=26) ?hr ?_;(case hd=>rfl);(case hg=>rfl);(case hr=>first|(go_simp;done)|(go_simp;rfl));intro gb188 hg w10 hbox hb;replace HO187:=krA HO187 hb;have BK188:=Aside0.mk (hbox);have GW188:=gzA hg HB;have GE188:=gzA hg HB;replace HB:=bsA HB hb;have NB182_188:=nlA hg BK182;have NB188_182:=ngA hg BK182;replace BK182:=bkA BK182 hb;have NB183_188:=nlA hg BK183;have NB188_183:=ngA hg BK183;replace BK183:=bkA BK183 hb;have NB184_188:=nlA hg BK184;have NB188_184:=ngA hg BK184;replace BK184:=bkA BK184 hb;clear hb hbox hg;refine hK.out _ _ ⟨(blk_cell BK182.out 0).trans rfl,(blk_cell BK182.out 1).trans rfl,(blk_cell BK183.out 0).trans rfl,(blk_cell BK183.out 1).trans rfl⟩ (fun hHeld=>?_);clear hK K;refine nr 5 ?_;exact norm_ (by simp only [putAll,Act.put,List.setIfInBounds_toArray,List.set_cons_zero,List.set_cons_succ]) (hCont (.slice Ao9 t185.length co9,gb188) _ ⟨hHeld,(kr HO187.out),(bk BK182.out),(bk BK183.out),(bk BK184.out),(bk BK188.out),GW188.out,GE188.out,NB182_188.out,NB188_182.out,NB183_188.out,NB188_183.out,NB184_188.out,NB188_184.out,(bl HB.out)⟩)
  ·skip
   refine box_step ?hg (N:=5) ?hd (cs:=#[.int .i64 0,.slice none 0 0]) (t:=26) ?hr ?_;(case hd=>rfl);(case hg=>rfl);(case hr=>first|(go_simp;done)|(go_simp;rfl));intro gb188 hg w8 hbox hb;have BK188:=Aside0.mk (hbox);have GW188:=gzA hg HB;have GE188:=gzA hg HB;replace HB:=bsA HB hb;have NB182_188:=nlA hg BK182;have NB188_182:=ngA hg BK182;replace BK182:=bkA BK182 hb;have NB183_188:=nlA hg BK183;have NB188_183:=ngA hg BK183;replace BK183:=bkA BK183 hb;have NB184_188:=nlA hg BK184;have NB188_184:=ngA hg BK184;replace BK184:=bkA BK184 hb;clear hb hbox hg;refine hK.out _ _ ⟨(blk_cell BK182.out 0).trans rfl,(blk_cell BK182.out 1).trans rfl,(blk_cell BK183.out 0).trans rfl,(blk_cell BK183.out 1).trans rfl⟩ (fun hHeld=>?_);clear hK K;refine nr 5 ?_;refine on_ 7 (some 16) #[U,U,U,U,U,U,U,U,O,U,O] HT_ fun K hK=>?_;refine gr Tryz.func123 #[.slice A0_1 l0_1.length c0_1] ?_;with_reducible refine(spec_l01Own.calls _ _ l0_1 t185 _ (cb (Kd.C_below HR0_1.out HB.out)) HC0_1.out A3.out).mono ?_
   rintro e w9 ⟨v186,rfl,ho0,hb⟩;refine⟨_,rfl,?_⟩;have HO187:=klA ho0 HB;replace BK182:=bkA BK182 hb;replace BK183:=bkA BK183 hb;replace BK184:=bkA BK184 hb;replace BK188:=bkA BK188 hb;replace HB:=bsA HB hb;(try clear hb)
   (try clear hb2)
   (try clear hk)
   (try clear hi)
   (try clear ho0)
   obtain ⟨Ao10,co10,eo10⟩:=Kd.R_slice HO187.out;(first|subst eo10|(injection eo10 with f1_ f2_ f3_;have f4_:=f1_.symm;have f5_:=f3_.symm;clear f1_ f2_ f3_;subst f4_;subst f5_))
   refine hK.out _ _ ⟨(blk_cell BK182.out 0).trans rfl,(blk_cell BK182.out 1).trans rfl,(blk_cell BK183.out 0).trans rfl,(blk_cell BK183.out 1).trans rfl⟩ (fun hHeld=>?_);clear hK K;refine nr 16 ?_;refine pu 8 (some 17) (ar 10 1) HT_ ?_;exact norm_ (by simp only [putAll,Act.put,List.setIfInBounds_toArray,List.set_cons_zero,List.set_cons_succ]) (hCont (.slice Ao10 t185.length co10,gb188) _ ⟨hHeld,(kr HO187.out),(bk BK182.out),(bk BK183.out),(bk BK184.out),(bk BK188.out),GW188.out,GE188.out,NB182_188.out,NB188_182.out,NB183_188.out,NB188_183.out,NB184_188.out,NB188_184.out,(bl HB.out)⟩)
 rintro ⟨v186,gb188⟩ w11 ⟨hS_,h0_,h1_,h2_,h3_,h4_,h5_,h6_,h7_,h8_,h9_,h10_,h11_,h12_,h13_⟩;have n0_:Aside0 (Kd.R (Kd.int .i64) 2 w11 w.heap.size (fun _=>True) v186 t185):=⟨h0_⟩
 have n1_:Aside0 (w11.heap[gb182]?=some (.cells #[.int .i64 a0_0,.slice A0_1 l0_1.length c0_1] 26 (0,0))):=⟨h1_⟩
 have n2_:Aside0 (w11.heap[gb183]?=some (.cells #[.int .i64 a1_0,.slice A1_1 l1_1.length c1_1] 26 (0,0))):=⟨h2_⟩
 have n3_:Aside0 (w11.heap[gb184]?=some (.cells #[.int .i64 0,.slice none 0 0] 26 (0,0))):=⟨h3_⟩
 have n4_:Aside0 (w11.heap[gb188]?=some (.cells #[.int .i64 0,.slice none 0 0] 26 (0,0))):=⟨h4_⟩
 have n5_:Aside0 (w.heap.size≤gb188):=⟨h5_⟩
 have n6_:Aside0 (w.heap.size≤gb188):=⟨h6_⟩
 have n7_:Aside0 (gb182≠gb188):=⟨h7_⟩
 have n8_:Aside0 (gb188≠gb182):=⟨h8_⟩
 have n9_:Aside0 (gb183≠gb188):=⟨h9_⟩
 have n10_:Aside0 (gb188≠gb183):=⟨h10_⟩
 have n11_:Aside0 (gb184≠gb188):=⟨h11_⟩
 have n12_:Aside0 (gb188≠gb184):=⟨h12_⟩
 have n13_:Aside0 (Below w.heap.size w w11):=⟨h13_⟩
 clear BK182;clear BK183;clear BK184;clear HB;clear h0_ h1_ h2_ h3_ h4_ h5_ h6_ h7_ h8_ h9_ h10_ h11_ h12_ h13_;have HO187:=n0_;have BK182:=n1_;have BK183:=n2_;have BK184:=n3_;have BK188:=n4_;have GW188:=n5_;have GE188:=n6_;have NB182_188:=n7_;have NB188_182:=n8_;have NB183_188:=n9_;have NB188_183:=n10_;have NB184_188:=n11_;have NB188_184:=n12_;have HB:=n13_;clear n0_ n1_ n2_ n3_ n4_ n5_ n6_ n7_ n8_ n9_ n10_ n11_ n12_ n13_;have hHeld:w11.cell? ⟨gb182,0,none⟩=some (.int .i64 a0_0)∧w11.cell? ⟨gb182,1,none⟩=some (.slice A0_1 l0_1.length c0_1)∧w11.cell? ⟨gb183,0,none⟩=some (.int .i64 a1_0)∧w11.cell? ⟨gb183,1,none⟩=some (.slice A1_1 l1_1.length c1_1):=hS_;obtain ⟨Ao12,co12,eo12⟩:=Kd.R_slice HO187.out;(first|subst eo12|(injection eo12 with f1_ f2_ f3_;have f4_:=f1_.symm;have f5_:=f3_.symm;clear f1_ f2_ f3_;subst f4_;subst f5_))
 refine norm_ (a':=?_) ?_ ?_;rotate_left
 ·simp only [putAll,Act.put,List.setIfInBounds_toArray,List.set_cons_zero,List.set_cons_succ];rfl
 refine on_ 10 (none) (ar 11 0) HT_ fun K hK=>?_;have hs13:w11.cell? ⟨gb188,0,none⟩=some (.int .i64 0):=(blk_cell BK188.out 0).trans rfl;have hfs13:=blk_frozen BK188.out 0;have hns13_0:=NB182_188.out;have hns13_1:=NB183_188.out;have hns13_2:=NB184_188.out;have hms13_0:=NB188_182.out;have hms13_1:=NB188_183.out;have hms13_2:=NB188_184.out;have hs14:w11.cell? ⟨gb188,1,none⟩=some (.slice none 0 0):=(blk_cell BK188.out 1).trans rfl;have hfs14:=blk_frozen BK188.out 1;have hns14_0:=NB182_188.out;have hns14_1:=NB183_188.out;have hns14_2:=NB184_188.out;have hms14_0:=NB188_182.out;have hms14_1:=NB188_183.out;have hms14_2:=NB188_184.out;refine skip_ (w1:=?_) (by rfl) rfl ?_ ?_;rotate_left
 ·go_simp;rfl
 refine hK.out _ _ ⟨((cell_far (p:=⟨gb188,_,none⟩) NB182_188.out _).trans (((cell_far (p:=⟨gb188,_,none⟩) NB182_188.out _).trans (hHeld.1)))),((cell_far (p:=⟨gb188,_,none⟩) NB182_188.out _).trans (((cell_far (p:=⟨gb188,_,none⟩) NB182_188.out _).trans (hHeld.2.1)))),((cell_far (p:=⟨gb188,_,none⟩) NB183_188.out _).trans (((cell_far (p:=⟨gb188,_,none⟩) NB183_188.out _).trans (hHeld.2.2.1)))),((cell_far (p:=⟨gb188,_,none⟩) NB183_188.out _).trans (((cell_far (p:=⟨gb188,_,none⟩) NB183_188.out _).trans (hHeld.2.2.2))))⟩ (fun hHeld=>?_);clear hK K;refine done_ (done_of HT_.out (by kernel_rfl)) ?_;try go_wp2
 go_loopg [6] k (fun kq v6 w'=>∃(x6_1:Int) (x189001_1:List Int) (u189001:Value),v6 = .int .i64 x6_1∧Aside0 (spec_l01Join.l0 kq x6_1 a0_0 l0_1 a1_0 l1_1 (wrap64 (a0_0+a1_0)) x189001_1=some (r1,r2))∧Aside0 (kq≤k)∧Aside0 (Kd.R (Kd.int .i64) 2 w' w.heap.size (fun _=>True) u189001 x189001_1)∧Aside0 (w'.heap[gb182]?=some (.cells #[.int .i64 a0_0,(.slice A0_1 l0_1.length c0_1)] 26 (0,0)))∧Aside0 (w'.heap[gb183]?=some (.cells #[.int .i64 a1_0,(.slice A1_1 l1_1.length c1_1)] 26 (0,0)))∧Aside0 (w'.heap[gb184]?=some (.cells #[.int .i64 0,(.slice none 0 0)] 26 (0,0)))∧Aside0 (w'.heap[gb188]?=some (.cells #[.int .i64 (wrap64 (a0_0+a1_0)),u189001] 26 (0,0)))∧Aside0 (Below w.heap.size w w'))
 case atStart=>exact⟨(0),(t185),(.slice Ao12 t185.length co12),rs,H',⟨Nat.le_refl _⟩,⟨by(with_reducible repeat(first|apply Kd.R_alloc|apply Kd.R_drewN|apply Kd.R_drew));exact Kd.R_mono (Kd.R_far (p:=⟨gb188,1,none⟩) (Kd.R_far (p:=⟨gb188,0,none⟩) (Kd.R_types HO187.out BK188.out (by decide)) (fun _ hk=>hk.2) (.int .i64 (wrap64 (a0_0+a1_0)))) (fun _ hk=>hk.2) (.slice Ao12 t185.length co12)) (fun _ hk=>trivial)⟩,⟨bp BK182.out⟩,⟨bp BK183.out⟩,⟨bp BK184.out⟩,⟨bp BK188.out⟩,⟨bl HB.out⟩⟩
 case round=>
  clear H';try clear c1
  try clear p2
  try clear p6
  try clear c7
  try clear c12
  obtain ⟨x6_1,x189001_1,u189001,rfl,HA,HK1,HO_189001,BK182,BK183,BK184,BK188,HB⟩:=hrel;cases gk with
  |zero=>exact absurd HA.out (by simp [spec_l01Join.l0])
  |succ k1=>
   have H:=HA.out;clear HA;simp only [spec_l01Join.l0] at H;by_cases c15:x6_1<(l1_1.length:Int)
   ·rw[if_pos c15] at H;have c15b0:decide (x6_1<(l1_1.length:Int))=true:=decide_eq_true c15;clear c15;by_cases c16:0≤x6_1
    ·rw[if_pos c16] at H;have c16b0:decide (0≤x6_1)=true:=decide_eq_true c16;clear c16;obtain ⟨ji17,hji17⟩:∃ j_:Int,(IntKind.u64.wrap (a0_0))=j_:=⟨_,rfl⟩
     replace H:(if 0≤(ji17) then (if x189001_1.length<17592186044416 then (spec_l01Join.l1 k1 x6_1 (shl .i64 (rd l1_1 x6_1) (ji17)) 0 a0_0 l0_1 a1_0 l1_1 (wrap64 (a0_0+a1_0)) (x189001_1 ++ [shl .i64 (rd l1_1 x6_1) (ji17)])) else (none)) else (none))=some (r1,r2):=by first|(rw[hji17] at H;exact H)|(simp only [hji17] at H ⊢;exact H)
     by_cases c18:0≤(ji17)
     ·rw[if_pos c18] at H;have c18b0:=eq_true c18;have c18b1:decide (0≤(ji17))=true:=decide_eq_true c18;clear c18;obtain ⟨ji19,hji19⟩:∃ j_:Int,(shl .i64 (rd l1_1 x6_1) (ji17))=j_:=⟨_,rfl⟩
      replace H:(if x189001_1.length<17592186044416 then (spec_l01Join.l1 k1 x6_1 ji19 0 a0_0 l0_1 a1_0 l1_1 (wrap64 (a0_0+a1_0)) (x189001_1 ++ [ji19])) else (none))=some (r1,r2):=by first|(rw[hji19] at H;exact H)|(simp only [hji19] at H ⊢;exact H)
      have hji19_:(IntKind.i64.wrap ((rd l1_1 x6_1)*2 ^ min (ji17).toNat 64))=ji19:=hji19;have hji19z:(ji17)≤64→(IntKind.i64.wrap ((rd l1_1 x6_1)*2 ^ (ji17).toNat))=ji19:=shl_small hji19;have hji19y:(wrap64 ((rd l1_1 x6_1)*2 ^ min (ji17).toNat 64))=ji19:=(i64_w _).symm.trans hji19_;have hji19x:(ji17)≤64→(wrap64 ((rd l1_1 x6_1)*2 ^ (ji17).toNat))=ji19:=fun h_=>(i64_w _).symm.trans (hji19z h_)
      by_cases c20:x189001_1.length<17592186044416
      ·rw[if_pos c20] at H;have LMc20:=Aside0.mk c20;clear c20;obtain ⟨y190,hy190⟩:∃ y_:List Int,y_=(x189001_1 ++ [ji19]):=⟨_,rfl⟩
       replace H:(spec_l01Join.l1 k1 x6_1 ji19 0 a0_0 l0_1 a1_0 l1_1 (wrap64 (a0_0+a1_0)) y190)=some (r1,r2):=by first|(rw[hy190];with_reducible exact H)|(have H2_:=(Option.bind_some _ _).symm.trans H;rw[hy190];with_reducible exact H2_)|(have H2_:=(Option.bind_some _ _).symm.trans H;with_reducible exact H2_)|with_reducible exact H|(rw[hy190];exact H)|exact H
       have Ny190:=Aside0.mk hy190;clear hy190;have H':=Aside0.mk H;clear H;have hnb21:=NB183_182.out;have hnc21:=NB182_183.out;have hnb22:=NB183_184.out;have hnc22:=NB184_183.out;have hnb23:=NB183_188.out;have hnc23:=NB188_183.out;have hcz24_0:=z0_ BK183;have hcz24_1:=z1_ BK183;have hfz24_0:=hf_ BK183 0;have hfz24_1:=hf_ BK183 1;try go_wp2
       replace HO_189001:=Aside0.mk (Kd.R_drew HO_189001.out);replace BK182:=Aside0.mk (blk_drew BK182.out);replace BK183:=Aside0.mk (blk_drew BK183.out);replace BK184:=Aside0.mk (blk_drew BK184.out);replace BK188:=Aside0.mk (blk_drew BK188.out);replace HB:=Aside0.mk (below_drew1 HB.out);have p189:0≤(x6_1:Int):=dd;have q189:x6_1<(l1_1.length:Int):=dd;obtain ⟨ad189,e189,hx189_0⟩:=Kd.at_int HR1_1.out x6_1 p189 q189;have hw189_0:=hx189_0;cases e189;replace hx189_0:=hx_ HB hx189_0;replace p189:=eq_true p189;replace q189:=eq_true q189;refine start_ (n:=10) (S:=fun w'=>w'.cell? ⟨gb183,0,none⟩=some (.int .i64 a1_0)∧w'.cell? ⟨gb183,1,none⟩=some (.slice (some ad189) l1_1.length c1_1)∧w'.cell? ⟨gb182,0,none⟩=some (.int .i64 a0_0)∧w'.cell? ⟨gb182,1,none⟩=some (.slice A0_1 l0_1.length c0_1)∧w'.cell? (ad189.add (x6_1).toNat)=some (.int .i64 (rd l1_1 x6_1))) (ds:= []) (ar 0 10) (by kernel_rfl) rfl rfl ⟨(blk_cell BK183.out 0).trans rfl,(blk_cell BK183.out 1).trans rfl,(blk_cell BK182.out 0).trans rfl,(blk_cell BK182.out 1).trans rfl,hx_ HB hw189_0⟩ (fun hHeld=>?_);refine with_tabW spec_l01Join.tab5 spec_l01Join.bits5 (fun HT_ HW_=>?_);generalize wr.drew=w25 at HO_189001 BK182 BK183 BK184 BK188 HB hx189_0 hHeld ⊢;refine pu 0 (some 25) (ar 1 9) HT_ ?_;refine pu 2 (some 27) #[U,O,U,O,O,O,O,O,O,O] HT_ ?_;refine pu 5 (some 30) #[U,O,U,O,O,U,O,O,O,O] HT_ ?_;refine tk 1 (some 26) #[U,U,U,O,O,U,O,O,O,O] HT_ HW_ hHeld ?_;refine pu 3 (some 28) #[U,U,U,U,O,U,O,O,O,O] HT_ ?_;refine tk 4 (some 29) (ar 6 4) HT_ HW_ hHeld ?_;refine tk 6 (some 31) (ar 7 3) HT_ HW_ hHeld ?_;refine pu 7 (some 32) (ar 8 2) HT_ ?_;refine pu 8 (some 33) (ar 9 1) HT_ ?_;refine pu 9 (some 7) (ar 10 0) HT_ ?_;refine done_ (done_of HT_.out (by kernel_rfl)) ?_;have hnb26:=NB188_182.out;have hnc26:=NB182_188.out;have hnb27:=NB188_184.out;have hnc27:=NB184_188.out;have hcz28_0:=z0_ BK188;have hcz28_1:=z1_ BK188;have hfz28_0:=hf_ BK188 0;have hfz28_1:=hf_ BK188 1;try go_wp2_with (first|((with_reducible refine gate_builtin (b:= .append) (xs:=#[.tmp 35,.tmp 37]) rfl ?_);at_builtin;refine Kd.R_append (Kd.int .i64) (w0:=w) w.heap.size rfl (.tmp 35) (.tmp 37) 24 2 (.int .i64 0) 8 rfl Tryz.underlying24 info2 rfl (by decide) (by omega) u189001 x189001_1 ji19 [.int .i64 ji19] (fun _=>True) (fun _=>False) rfl rfl ?aP (fun _ hk=>hk.elim) ?aF ?aO ?aB ?aS ?aL ?_;(case aP=>exact rfl);(case aB=>exact(bl HB.out));(case aF=>exact(fun _ _=>trivial));(case aO=>exact(kr HO_189001.out));(case aS=>exact(below_size (bl HB.out)));(case aL=>have:=LMc20.out;omega);intro v191 w29 ho hb hg hat;rw[← Ny190.out] at ho;have n0_:=Aside0.mk (blk_grown (bk BK182.out) hg (Kd.R_ne HO_189001.out BK182.out (by decide)));have n1_:=Aside0.mk (blk_grown (bk BK183.out) hg (Kd.R_ne HO_189001.out BK183.out (by decide)));have n2_:=Aside0.mk (blk_grown (bk BK184.out) hg (Kd.R_ne HO_189001.out BK184.out (by decide)));have n3_:=Aside0.mk (blk_grown (bk BK188.out) hg (Kd.R_ne HO_189001.out BK188.out (by decide)));have n4_:=Aside0.mk (hb);have n5_:=Aside0.mk (ho);clear BK182;clear BK183;clear BK184;clear BK188;clear HB;clear HO_189001;have BK182:=n0_;have BK183:=n1_;have BK184:=n2_;have BK188:=n3_;have HB:=n4_;have HO192:=n5_;clear n0_ n1_ n2_ n3_ n4_ n5_;clear ho hb hg hat;obtain ⟨Ao30,co30,eo30⟩:=Kd.R_slice HO192.out;subst eo30;have hcz31_0:=z0_ BK188;have hcz31_1:=z1_ BK188;have hfz31_0:=hf_ BK188 0;have hfz31_1:=hf_ BK188 1))
       go_loopg [8] k1 (fun kq v8 w'=>∃(x8_2:Int) (x189001_2:List Int) (u189001:Value),v8 = .int .i64 x8_2∧Aside0 (spec_l01Join.l1 kq x6_1 ji19 x8_2 a0_0 l0_1 a1_0 l1_1 (wrap64 (a0_0+a1_0)) x189001_2=some (r1,r2))∧Aside0 (kq≤k1)∧Aside0 (Kd.R (Kd.int .i64) 2 w' w.heap.size (fun _=>True) u189001 x189001_2)∧Aside0 (w'.heap[gb182]?=some (.cells #[.int .i64 a0_0,(.slice A0_1 l0_1.length c0_1)] 26 (0,0)))∧Aside0 (w'.heap[gb183]?=some (.cells #[.int .i64 a1_0,(.slice (some ad189) l1_1.length c1_1)] 26 (0,0)))∧Aside0 (w'.heap[gb184]?=some (.cells #[.int .i64 0,(.slice none 0 0)] 26 (0,0)))∧Aside0 (w'.heap[gb188]?=some (.cells #[.int .i64 (wrap64 (a0_0+a1_0)),u189001] 26 (0,0)))∧Aside0 (Below w.heap.size w w'))
       case atStart=>exact⟨(0),(y190),(.slice Ao30 y190.length co30),rs,H',⟨Nat.le_refl _⟩,⟨by(with_reducible repeat(first|apply Kd.R_alloc|apply Kd.R_drewN|apply Kd.R_drew));exact Kd.R_mono (Kd.R_far (p:=⟨gb188,1,none⟩) (Kd.R_types HO192.out BK188.out (by decide)) (fun _ hk=>hk.2) (.slice Ao30 y190.length co30)) (fun _ hk=>trivial)⟩,⟨bp BK182.out⟩,⟨bp BK183.out⟩,⟨bp BK184.out⟩,⟨bp BK188.out⟩,⟨bl HB.out⟩⟩
       case round=>
        clear H';try clear c1
        try clear p1
        try clear q1
        try clear hx1
        try clear c2
        try clear p2
        try clear p6
        try clear c7
        try clear c12
        try clear c15
        try clear c15b0
        try clear c16
        try clear c16b0
        try clear c18
        try clear c18b0
        try clear c18b1
        try clear p18
        try clear q18
        try clear hx18
        try clear c20
        try clear c21
        try clear c22
        try clear c23
        try clear c26
        try clear c27
        try clear hcz24_0
        try clear hcz24_1
        try clear hcz28_0
        try clear hcz28_1
        try clear hcz31_0
        try clear hcz31_1
        try clear hfz24_0
        try clear hfz24_1
        try clear hfz28_0
        try clear hfz28_1
        try clear hfz31_0
        try clear hfz31_1
        try clear hx189_0
        try clear p189
        try clear p2
        try clear p6
        try clear q189
        obtain ⟨x8_2,x189001_2,u189001,rfl,HA,HK2,HO_189001,BK182,BK183,BK184,BK188,HB⟩:=hrel;cases gk with
        |zero=>exact absurd HA.out (by simp [spec_l01Join.l1])
        |succ k2=>
         have H:=HA.out;clear HA;simp only [spec_l01Join.l1] at H;by_cases c32:x8_2<(l0_1.length:Int)
         ·rw[if_pos c32] at H;have c32b0:decide (x8_2<(l0_1.length:Int))=true:=decide_eq_true c32;clear c32;by_cases c33:0≤x8_2
          ·rw[if_pos c33] at H;have c33b0:decide (0≤x8_2)=true:=decide_eq_true c33;clear c33;by_cases c34:x189001_2.length<17592186044416
           ·rw[if_pos c34] at H;have LMc34:=Aside0.mk c34;clear c34;obtain ⟨y194,hy194⟩:∃ y_:List Int,y_=(x189001_2 ++ [wrap64 (ji19+(rd l0_1 x8_2))]):=⟨_,rfl⟩
            replace H:(spec_l01Join.l1 k2 x6_1 ji19 (wrap64 (x8_2+1)) a0_0 l0_1 a1_0 l1_1 (wrap64 (a0_0+a1_0)) y194)=some (r1,r2):=by first|(rw[hy194];with_reducible exact H)|(have H2_:=(Option.bind_some _ _).symm.trans H;rw[hy194];with_reducible exact H2_)|(have H2_:=(Option.bind_some _ _).symm.trans H;with_reducible exact H2_)|with_reducible exact H|(rw[hy194];exact H)|exact H
            have Ny194:=Aside0.mk hy194;clear hy194;have H':=Aside0.mk H;clear H;have hnb35:=NB182_183.out;have hnc35:=NB183_182.out;have hnb36:=NB182_184.out;have hnc36:=NB184_182.out;have hnb37:=NB182_188.out;have hnc37:=NB188_182.out;have hcz38_0:=z0_ BK182;have hcz38_1:=z1_ BK182;have hfz38_0:=hf_ BK182 0;have hfz38_1:=hf_ BK182 1;try go_wp2
            replace HO_189001:=Aside0.mk (Kd.R_drew HO_189001.out);replace BK182:=Aside0.mk (blk_drew BK182.out);replace BK183:=Aside0.mk (blk_drew BK183.out);replace BK184:=Aside0.mk (blk_drew BK184.out);replace BK188:=Aside0.mk (blk_drew BK188.out);replace HB:=Aside0.mk (below_drew1 HB.out);have p193:0≤(x8_2:Int):=dd;have q193:x8_2<(l0_1.length:Int):=dd;obtain ⟨ad193,e193,hx193_0⟩:=Kd.at_int HR0_1.out x8_2 p193 q193;have hw193_0:=hx193_0;cases e193;replace hx193_0:=hx_ HB hx193_0;replace p193:=eq_true p193;replace q193:=eq_true q193;refine start_ (n:=13) (S:=fun w'=>w'.cell? ⟨gb188,0,none⟩=some (.int .i64 (wrap64 (a0_0+a1_0)))∧w'.cell? ⟨gb188,1,none⟩=some (u189001)∧w'.cell? ⟨gb182,0,none⟩=some (.int .i64 a0_0)∧w'.cell? ⟨gb182,1,none⟩=some (.slice (some ad193) l0_1.length c0_1)∧w'.cell? (ad193.add (x8_2).toNat)=some (.int .i64 (rd l0_1 x8_2))) (ds:= [12]) (ar 0 13) (by kernel_rfl) rfl rfl ⟨(blk_cell BK188.out 0).trans rfl,(blk_cell BK188.out 1).trans rfl,(blk_cell BK182.out 0).trans rfl,(blk_cell BK182.out 1).trans rfl,hx_ HB hw193_0⟩ (fun hHeld=>?_);refine with_tabW spec_l01Join.tab10 spec_l01Join.bits10 (fun HT_ HW_=>?_);generalize wr.drew=w39 at HO_189001 BK182 BK183 BK184 BK188 HB hx193_0 hHeld ⊢;refine pu 0 (some 47) (ar 1 12) HT_ ?_;refine pu 2 (some 49) #[U,O,U,O,O,O,O,O,O,O,O,O,O] HT_ ?_;refine pu 3 (some 50) #[U,O,U,U,O,O,O,O,O,O,O,O,O] HT_ ?_;refine pu 5 (some 52) #[U,O,U,U,O,U,O,O,O,O,O,O,O] HT_ ?_;refine tk 1 (some 48) #[U,U,U,U,O,U,O,O,O,O,O,O,O] HT_ HW_ hHeld ?_;refine tk 4 (some 51) (ar 6 7) HT_ HW_ hHeld ?_;refine pu 6 (some 53) (ar 7 6) HT_ ?_;refine tk 7 (some 54) (ar 8 5) HT_ HW_ hHeld ?_;refine pu 8 (some 55) (ar 9 4) HT_ ?_;refine on_ 9 (some 56) (ar 10 3) HT_ fun K hK=>?_;refine value_ (w1:=?_) (v:=?_) (by rfl) rfl ?_ ?_;rotate_left 2
            ·go_simp;constructor
             ·rfl
             ·rfl
            refine hK.out _ _ ⟨(blk_cell (blk_alloc BK188.out _) 0).trans rfl,(blk_cell (blk_alloc BK188.out _) 1).trans rfl,(blk_cell (blk_alloc BK182.out _) 0).trans rfl,(blk_cell (blk_alloc BK182.out _) 1).trans rfl,(World.cell?_alloc_lt _ _ _ (World.block_lt_of_cell? _ _ ((hx_ HB hw193_0)))).trans ((hx_ HB hw193_0))⟩ (fun hHeld=>?_);clear hK K;refine nr 56 ?_;refine on_ 10 (some 57) (ar 11 2) HT_ fun K hK=>?_;refine Kd.R_append_step (Kd.int .i64) (w0:=w) w.heap.size (by rfl) (.tmp 48) (.tmp 56) 24 2 (.int .i64 0) 8 rfl Tryz.underlying24 info2 rfl (by decide) (by omega) u189001 x189001_2 (wrap64 (ji19+(rd l0_1 x8_2))) [.int .i64 (wrap64 (ji19+(rd l0_1 x8_2)))] (fun _=>True) (fun _=>False) rfl rfl ?aP (fun _ hk=>hk.elim) ?aF ?aO ?aB ?aS ?aL ?_;(case aP=>exact rfl)
            (case aB=>exact(bl HB.out))
            (case aF=>exact(fun _ _=>trivial))
            (case aO=>exact(kr HO_189001.out))
            (case aS=>exact(below_size (bl HB.out)))
            (case aL=>have:=LMc34.out;omega)
            intro v195 w40 ho hb hg hat;rw[← Ny194.out] at ho;have n0_:=Aside0.mk (blk_grown (bk BK182.out) hg (Kd.R_ne HO_189001.out BK182.out (by decide)));have n1_:=Aside0.mk (blk_grown (bk BK183.out) hg (Kd.R_ne HO_189001.out BK183.out (by decide)));have n2_:=Aside0.mk (blk_grown (bk BK184.out) hg (Kd.R_ne HO_189001.out BK184.out (by decide)));have n3_:=Aside0.mk (blk_grown (bk BK188.out) hg (Kd.R_ne HO_189001.out BK188.out (by decide)));have n4_:=Aside0.mk (hb);have n5_:=Aside0.mk (ho);clear BK182;clear BK183;clear BK184;clear BK188;clear HB;clear HO_189001;have BK182:=n0_;have BK183:=n1_;have BK184:=n2_;have BK188:=n3_;have HB:=n4_;have HO196:=n5_;clear n0_ n1_ n2_ n3_ n4_ n5_;clear ho hb hg hat;obtain ⟨Ao41,co41,eo41⟩:=Kd.R_slice HO196.out;(first|subst eo41|(injection eo41 with f1_ f2_ f3_;have f4_:=f1_.symm;have f5_:=f3_.symm;clear f1_ f2_ f3_;subst f4_;subst f5_))
            refine hK.out _ _ ⟨(blk_cell BK188.out 0).trans rfl,(blk_cell BK188.out 1).trans rfl,(blk_cell BK182.out 0).trans rfl,(blk_cell BK182.out 1).trans rfl,hx_ HB hw193_0⟩ (fun hHeld=>?_);clear hK K;refine nr 57 ?_;refine pu 11 (some 58) (ar 12 1) HT_ ?_;refine last_ (i:=12) (N:=none) (ar 13 0) rfl rfl (one_of HT_.out (by kernel_rfl)) (by decide) (fun K hK=>?_);have hs42:w40.cell? ⟨gb188,1,none⟩=some (u189001):=(blk_cell BK188.out 1).trans rfl;have hfs42:=blk_frozen BK188.out 1;have hns42_0:=NB182_188.out;have hns42_1:=NB183_188.out;have hns42_2:=NB184_188.out;have hms42_0:=NB188_182.out;have hms42_1:=NB188_183.out;have hms42_2:=NB188_184.out;refine skip_ (w1:=?_) (by rfl) rfl ?_ ?_;rotate_left
            ·go_simp;rfl
            refine hK.out _ _ ?_;clear hK K;refine done_ (done_of HT_.out (by kernel_rfl)) ?_;try go_wp2
            go_roundg k2
            case measure=>have:=HK1.out;have:=HK2.out;omega
            case rel=>exact⟨(wrap64 (x8_2+1)),(y194),(.slice Ao41 y194.length co41),rs,H',⟨by have:=HK1.out;have:=HK2.out;omega⟩,⟨by(with_reducible repeat(first|apply Kd.R_alloc|apply Kd.R_drewN|apply Kd.R_drew));exact Kd.R_mono (Kd.R_far (p:=⟨gb188,1,none⟩) (Kd.R_types HO196.out BK188.out (by decide)) (fun _ hk=>hk.2) (.slice Ao41 y194.length co41)) (fun _ hk=>trivial)⟩,⟨bp BK182.out⟩,⟨bp BK183.out⟩,⟨bp BK184.out⟩,⟨bp BK188.out⟩,⟨bl HB.out⟩⟩
           ·rw[if_neg c34] at H;exact absurd H (by simp)
          ·rw[if_neg c33] at H;exact absurd H (by simp)
         ·rw[if_neg c32] at H;have c32b0:decide (x8_2<(l0_1.length:Int))=false:=decide_eq_false c32;clear c32;have H':=Aside0.mk H;clear H;have hnb43:=NB182_183.out;have hnc43:=NB183_182.out;have hnb44:=NB182_184.out;have hnc44:=NB184_182.out;have hnb45:=NB182_188.out;have hnc45:=NB188_182.out;have hcz46_0:=z0_ BK182;have hcz46_1:=z1_ BK182;have hfz46_0:=hf_ BK182 0;have hfz46_1:=hf_ BK182 1;go_wp2
          go_roundg k2
          case measure=>have:=HK1.out;have:=HK2.out;omega
          case rel=>exact⟨(wrap64 (x6_1+1)),(x189001_2),(u189001),rs,H',⟨by have:=HK1.out;have:=HK2.out;omega⟩,⟨kr HO_189001.out⟩,⟨bk BK182.out⟩,⟨bk BK183.out⟩,⟨bk BK184.out⟩,⟨bk BK188.out⟩,⟨bl HB.out⟩⟩
      ·rw[if_neg c20] at H;exact absurd H (by simp)
     ·rw[if_neg c18] at H;exact absurd H (by simp)
    ·rw[if_neg c16] at H;exact absurd H (by simp)
   ·rw[if_neg c15] at H;have c15b0:decide (x6_1<(l1_1.length:Int))=false:=decide_eq_false c15;clear c15;simp only [Option.some.injEq,Prod.mk.injEq] at H;obtain ⟨rfl,rfl⟩:=H;have hnb47:=NB183_182.out;have hnc47:=NB182_183.out;have hnb48:=NB183_184.out;have hnc48:=NB184_183.out;have hnb49:=NB183_188.out;have hnc49:=NB188_183.out;have hcz50_0:=z0_ BK183;have hcz50_1:=z1_ BK183;have hfz50_0:=hf_ BK183 0;have hfz50_1:=hf_ BK183 1;have hnb51:=NB188_182.out;have hnc51:=NB182_188.out;have hnb52:=NB188_184.out;have hnc52:=NB184_188.out;have hcz53_0:=z0_ BK188;have hcz53_1:=z1_ BK188;have hfz53_0:=hf_ BK188 0;have hfz53_1:=hf_ BK188 1;have hnb54:=NB184_182.out;have hnc54:=NB182_184.out;have hcz55_0:=z0_ BK184;have hcz55_1:=z1_ BK184;have hfz55_0:=hf_ BK184 0;have hfz55_1:=hf_ BK184 1;obtain ⟨Ao56,co56,eo56⟩:=Kd.R_slice HO_189001.out;subst eo56;go_wp2
    refine bodyPost_ret (results_cell_row rfl _ _ gb184 26 #[.int .i64 (wrap64 (a0_0+a1_0)),.slice Ao56 x189001_1.length co56] (0,0) _ rfl (bp BK184.out) Tryz.underlying26 rfl (by kernel_rfl)) rfl ?_;exact⟨_,rr,by(with_reducible repeat(first|apply Kd.R_alloc|apply Kd.R_drewN|apply Kd.R_drew));exact Kd.R_mono (Kd.R_far (p:=⟨gb184,1,none⟩) (Kd.R_far (p:=⟨gb184,0,none⟩) (Kd.R_types HO_189001.out BK184.out (by decide)) (fun _ hk=>hk.2) (.int .i64 (wrap64 (a0_0+a1_0)))) (fun _ hk=>hk.2) (.slice Ao56 x189001_1.length co56)) (fun _ hk=>trivial),bl HB.out⟩
end Go.Proofs.YtlhkdbkjafiikaaGreat.Q
end

section
namespace Go.Proofs.YtlhkdbkjafiikaaGreat.Q
open Go.RowKit Go.Proofs.YtlhkdbkjafiikaaGreatW.PrintWords Go.Proofs.YtlhkdbkjafiikaaGreatW.PrintLast Go.Proofs.YtlhkdbkjafiikaaGreatW.PrintMore
attribute [local go_sem] max2_int min2_int max_two min_two max_three min_three max_four min_four
set_option linter.unusedVariables false
set_option linter.unusedSimpArgs false
def spec_ConeOf.f (k:Nat) (a0_0:Int) (l0_1:List Int):Option (Int×List Int×Int):=(spec_l01Is.f k a0_0 l0_1).bind fun t199=>(if t199=true then (if a0_0=6 then (some (0,([]:List Int),3)) else ((spec_l01Join.f k a0_0 l0_1 1 (([1]:List Int))).bind fun bt203=>(some (bt203.1,bt203.2,0)))) else (some (0,([]:List Int),1)))
theorem spec_ConeOf.mono:∀ a0 a1 k,LeO (spec_ConeOf.f k a0 a1) (spec_ConeOf.f (k+1) a0 a1):=by
 intro a0 a1 k;unfold spec_ConeOf.f;repeat' first
   |(with_reducible first|exact spec_l01Is.mono _ _ _|exact spec_l01Join.mono _ _ _ _ _|exact LeO.refl _|exact LeO.none _|refine LeO.ite ?_ ?_|refine LeO.bind ?_ (fun _=>?_))
set_option maxHeartbeats 8000000 in
set_option maxRecDepth 100000 in
theorem spec_ConeOf.calls (k:Nat) (a0_0:Int) (A0_1:Option Addr) (c0_1:Nat) (l0_1:List Int) (r1:Int) (r2:List Int) (r3:Int) (w:World) (hr0_1:Kd.C (Kd.int .i64) w A0_1 l0_1.length l0_1) (hc0_1:l0_1.length≤c0_1) (h:spec_ConeOf.f k a0_0 l0_1=some (r1,r2,r3)) :
  Calls Tryz.prog 17 #[.agg #[.int .i64 a0_0,.slice A0_1 l0_1.length c0_1]] w fun e w'=>∃ v1_:Value,e = .returned (.tuple #[.agg #[.int .i64 r1,v1_],.int .i64 r3])∧Kd.R (Kd.int .i64) 2 w' w.heap.size (fun _=>True) v1_ r2∧Below w.heap.size w w':=by
 have hu26:=Tryz.underlying26;have HR0_1:=Aside0.mk hr0_1;have HC0_1:=Aside0.mk hc0_1;clear hr0_1 hc0_1;have HB:=Aside0.mk (Below.refl w.heap.size w);have H:((spec_l01Is.f k a0_0 l0_1).bind fun t199=>(if t199=true then (if a0_0=6 then (some (0,([]:List Int),3)) else ((spec_l01Join.f k a0_0 l0_1 1 (([1]:List Int))).bind fun bt203=>(some (bt203.1,bt203.2,0)))) else (some (0,([]:List Int),1))))=some (r1,r2,r3):=h;clear h;replace H:=Option.bind_eq_some_iff.mp H;obtain ⟨t199,A20,H⟩:=H;replace H:(if t199=true then (if a0_0=6 then (some (0,([]:List Int),3)) else ((spec_l01Join.f k a0_0 l0_1 1 (([1]:List Int))).bind fun bt203=>(some (bt203.1,bt203.2,0)))) else (some (0,([]:List Int),1)))=some (r1,r2,r3):=H;have A2:=Aside0.mk A20;clear A20;by_cases c3:t199=true
 ·subst c3;have H1:(if a0_0=6 then (some (0,([]:List Int),3)) else ((spec_l01Join.f k a0_0 l0_1 1 (([1]:List Int))).bind fun bt203=>(some (bt203.1,bt203.2,0))))=some (r1,r2,r3):=by rw[if_pos rfl] at H;exact H
  clear H;have H:=H1;clear H1;by_cases c4:a0_0=6
  ·rw[if_pos c4] at H;have c4b0:(a0_0 == 6)=true:=beq_iff_eq.mpr c4;have c4b1:(a0_0 != 6)=false:=bne_eq_false_iff_eq.mpr c4;clear c4;simp only [Option.some.injEq,Prod.mk.injEq] at H;obtain ⟨rfl,rfl,rfl⟩:=H;go_enter Tryz.func17,Tryz.ntmps17;go_wp2_with (first|((with_reducible refine gate_dst (N:=1) rfl ?_);refine bx 1 #[.int .i64 a0_0,.slice A0_1 l0_1.length c0_1] 26 ?_;intro gb197 hg w5 hbox hb;have BK197:=Aside0.mk (hbox);have GE197:=gzA hg HB;replace HB:=bsA HB hb;clear hb hbox hg)|((with_reducible refine gate_dst (N:=2) rfl ?_);refine bx 2 #[.int .i64 0,.slice none 0 0] 26 ?_;intro gb198 hg w6 hbox hb;have BK198:=Aside0.mk (hbox);have GE198:=gzA hg HB;replace HB:=bsA HB hb;have NB197_198:=nlA hg BK197;have NB198_197:=ngA hg BK197;replace BK197:=bkA BK197 hb;clear hb hbox hg;have hnb7:=NB197_198.out;have hnc7:=NB198_197.out;have hcz8_0:=z0_ BK197;have hcz8_1:=z1_ BK197;have hfz8_0:=hf_ BK197 0;have hfz8_1:=hf_ BK197 1)|((with_reducible refine gate_callee (f:=71) rfl ?_);refine gl (some 6) Tryz.func71 #[.agg #[.int .i64 a0_0,.slice A0_1 l0_1.length c0_1]] ?_;(with_reducible refine(spec_l01Is.calls k a0_0 _ _ l0_1 true _ (cb (Kd.C_below HR0_1.out HB.out)) HC0_1.out A2.out).mono ?_);rintro e w9 ⟨rfl,hb⟩;refine⟨_,rfl,?_⟩;replace BK197:=bkA BK197 hb;replace BK198:=bkA BK198 hb;replace HB:=bsA HB hb;(try clear hb);(try clear hb2);(try clear hk);(try clear hi);have hcz10_0:=z0_ BK197;have hcz10_1:=z1_ BK197;have hfz10_0:=hf_ BK197 0;have hfz10_1:=hf_ BK197 1;have hcz11_0:=z0_ BK198;have hcz11_1:=z1_ BK198;have hfz11_0:=hf_ BK198 0;have hfz11_1:=hf_ BK198 1))
   refine bodyPost_ret (results_ct rfl _ _ gb198 26 #[.int .i64 0,.slice none 0 0] (0,0) _ rfl (bp BK198.out) Tryz.underlying26 rfl (by kernel_rfl)) rfl ?_;exact⟨_,rr,by first|exact Kd.R_nil _ _ _ _ _|exact Kd.N_nil _ _ _ _ _|exact Kd.V_nil _ _ _ _ _|exact Kd.Q_nil _ _ _ _ _|exact Kd.S_nil _ _ _ _ _,bl HB.out⟩
  ·rw[if_neg c4] at H;have c4b0:(a0_0 == 6)=false:=beq_eq_false_iff_ne.mpr c4;have c4b1:(a0_0 != 6)=true:=bne_iff_ne.mpr c4;obtain ⟨y200,hy200⟩:∃ y_:List Int,y_=(([1]:List Int)):=⟨_,rfl⟩
   replace H:((spec_l01Join.f k a0_0 l0_1 1 y200).bind fun bt203=>(some (bt203.1,bt203.2,0)))=some (r1,r2,r3):=by first|(rw[hy200];with_reducible exact H)|(have H2_:=(Option.bind_some _ _).symm.trans H;rw[hy200];with_reducible exact H2_)|(have H2_:=(Option.bind_some _ _).symm.trans H;with_reducible exact H2_)|with_reducible exact H|(rw[hy200];exact H)|exact H
   have Ny200:=Aside0.mk hy200;clear hy200;replace H:=Option.bind_eq_some_iff.mp H;obtain ⟨⟨t203,t204⟩,A120,H⟩:=H;replace H:(some (t203,t204,0))=some (r1,r2,r3):=H;have A12:=Aside0.mk A120;clear A120;simp only [Option.some.injEq,Prod.mk.injEq] at H;obtain ⟨rfl,rfl,rfl⟩:=H;go_enter Tryz.func17,Tryz.ntmps17;go_wp2_with (first|((with_reducible refine gate_dst (N:=1) rfl ?_);refine bx 1 #[.int .i64 a0_0,.slice A0_1 l0_1.length c0_1] 26 ?_;intro gb197 hg w13 hbox hb;have BK197:=Aside0.mk (hbox);have GE197:=gzA hg HB;replace HB:=bsA HB hb;clear hb hbox hg)|((with_reducible refine gate_dst (N:=2) rfl ?_);refine bx 2 #[.int .i64 0,.slice none 0 0] 26 ?_;intro gb198 hg w14 hbox hb;have BK198:=Aside0.mk (hbox);have GE198:=gzA hg HB;replace HB:=bsA HB hb;have NB197_198:=nlA hg BK197;have NB198_197:=ngA hg BK197;replace BK197:=bkA BK197 hb;clear hb hbox hg;have hnb15:=NB197_198.out;have hnc15:=NB198_197.out;have hcz16_0:=z0_ BK197;have hcz16_1:=z1_ BK197;have hfz16_0:=hf_ BK197 0;have hfz16_1:=hf_ BK197 1)|((with_reducible refine gate_callee (f:=71) rfl ?_);refine gl (some 6) Tryz.func71 #[.agg #[.int .i64 a0_0,.slice A0_1 l0_1.length c0_1]] ?_;(with_reducible refine(spec_l01Is.calls k a0_0 _ _ l0_1 true _ (cb (Kd.C_below HR0_1.out HB.out)) HC0_1.out A2.out).mono ?_);rintro e w17 ⟨rfl,hb⟩;refine⟨_,rfl,?_⟩;replace BK197:=bkA BK197 hb;replace BK198:=bkA BK198 hb;replace HB:=bsA HB hb;(try clear hb);(try clear hb2);(try clear hk);(try clear hi);have hcz18_0:=z0_ BK197;have hcz18_1:=z1_ BK197;have hfz18_0:=hf_ BK197 0;have hfz18_1:=hf_ BK197 1)|((with_reducible refine gate_dst (N:=15) rfl ?_);refine Kd.R_lit (Kd.int .i64) _ 2 ?hg (N:=15) ?hd (xs:=([1]:List Int)) (inner:= [.int .i64 1]) (ok:=fun _=>True) (okp:=fun _=>True) ?hr ?hp (fun _ hk=>hk) trivial (Below.refl _ _) (Nat.le_refl _) (by simp) ?_;(case hd=>rfl);(case hg=>rfl);(case hr=>first|(go_simp;done)|(go_simp;rfl));(case hp=>exact(Reps.one (show Kd.M (Kd.int .i64) _ _ _ 1 [.int .i64 1] from rfl) (Reps.none _ _)));intro v201 w19 ho20 hb hg_ hnew_;clear hg_ hnew_;(first|rw[← Ny200.out] at ho20|(simp only [Int.reduceToNat] at ho20;rw[← Ny200.out] at ho20));have HO202:=klA ho20 HB;replace BK197:=bkA BK197 hb;replace BK198:=bkA BK198 hb;replace HB:=bsA HB hb;clear hb ho20;obtain ⟨Ao21,co21,eo21⟩:=Kd.R_slice HO202.out;subst eo21)|((with_reducible refine gate_callee (f:=72) rfl ?_);refine gl (some 17) Tryz.func72 #[.agg #[.int .i64 a0_0,.slice A0_1 l0_1.length c0_1],.agg #[.int .i64 1,.slice Ao21 y200.length co21]] ?_;(with_reducible refine(spec_l01Join.calls k a0_0 _ _ l0_1 1 _ _ y200 t203 t204 _ (cb (Kd.C_below HR0_1.out HB.out)) HC0_1.out (cb (Kd.R_reads' HO202.out).2.2) ((Kd.R_reads' HO202.out).2.1) A12.out).mono ?_);rintro e w22 ⟨v205,rfl,ho0,hb⟩;refine⟨_,rfl,?_⟩;have HO206:=Aside0.mk (Kd.R_lower (Kd.R_new' ho0 (Kd.R_lt (kr HO202.out))) (below_size (bl HB.out)));replace HO202:=Aside0.mk (Kd.R_elder' (kr HO202.out) (Kd.R_base ho0) hb);replace BK197:=bkA BK197 hb;replace BK198:=bkA BK198 hb;replace HB:=bsA HB hb;(try clear hb);(try clear hb2);(try clear hk);(try clear hi);(try clear ho0);have hcz23_0:=z0_ BK198;have hcz23_1:=z1_ BK198;have hfz23_0:=hf_ BK198 0;have hfz23_1:=hf_ BK198 1;obtain ⟨Ao24,co24,eo24⟩:=Kd.R_slice HO206.out;subst eo24))
   refine bodyPost_ret (results_ct rfl _ _ gb198 26 #[.int .i64 t203,.slice Ao24 t204.length co24] (0,0) _ rfl (bp BK198.out) Tryz.underlying26 rfl (by kernel_rfl)) rfl ?_;exact⟨_,rr,by(with_reducible repeat(first|apply Kd.R_alloc|apply Kd.R_drewN|apply Kd.R_drew));exact Kd.R_mono (Kd.R_far (p:=⟨gb198,1,none⟩) (Kd.R_far (p:=⟨gb198,0,none⟩) (Kd.R_types HO206.out BK198.out (by decide)) (fun _ hk=>hk.2) (.int .i64 t203)) (fun _ hk=>hk.2) (.slice Ao24 t204.length co24)) (fun _ hk=>trivial),bl HB.out⟩
 ·replace c3:=Bool.eq_false_iff.mpr c3;subst c3;have H1:(some (0,([]:List Int),1))=some (r1,r2,r3):=by rw[if_neg (show ¬ (false=true) by decide)] at H;exact H
  clear H;have H:=H1;clear H1;simp only [Option.some.injEq,Prod.mk.injEq] at H;obtain ⟨rfl,rfl,rfl⟩:=H;go_enter Tryz.func17,Tryz.ntmps17;go_wp2_with (first|((with_reducible refine gate_dst (N:=1) rfl ?_);refine bx 1 #[.int .i64 a0_0,.slice A0_1 l0_1.length c0_1] 26 ?_;intro gb197 hg w25 hbox hb;have BK197:=Aside0.mk (hbox);have GE197:=gzA hg HB;replace HB:=bsA HB hb;clear hb hbox hg)|((with_reducible refine gate_dst (N:=2) rfl ?_);refine bx 2 #[.int .i64 0,.slice none 0 0] 26 ?_;intro gb198 hg w26 hbox hb;have BK198:=Aside0.mk (hbox);have GE198:=gzA hg HB;replace HB:=bsA HB hb;have NB197_198:=nlA hg BK197;have NB198_197:=ngA hg BK197;replace BK197:=bkA BK197 hb;clear hb hbox hg;have hnb27:=NB197_198.out;have hnc27:=NB198_197.out;have hcz28_0:=z0_ BK197;have hcz28_1:=z1_ BK197;have hfz28_0:=hf_ BK197 0;have hfz28_1:=hf_ BK197 1)|((with_reducible refine gate_callee (f:=71) rfl ?_);refine gl (some 6) Tryz.func71 #[.agg #[.int .i64 a0_0,.slice A0_1 l0_1.length c0_1]] ?_;(with_reducible refine(spec_l01Is.calls k a0_0 _ _ l0_1 false _ (cb (Kd.C_below HR0_1.out HB.out)) HC0_1.out A2.out).mono ?_);rintro e w29 ⟨rfl,hb⟩;refine⟨_,rfl,?_⟩;replace BK197:=bkA BK197 hb;replace BK198:=bkA BK198 hb;replace HB:=bsA HB hb;(try clear hb);(try clear hb2);(try clear hk);(try clear hi);have hcz30_0:=z0_ BK198;have hcz30_1:=z1_ BK198;have hfz30_0:=hf_ BK198 0;have hfz30_1:=hf_ BK198 1))
  refine bodyPost_ret (results_ct rfl _ _ gb198 26 #[.int .i64 0,.slice none 0 0] (0,0) _ rfl (bp BK198.out) Tryz.underlying26 rfl (by kernel_rfl)) rfl ?_;exact⟨_,rr,by first|exact Kd.R_nil _ _ _ _ _|exact Kd.N_nil _ _ _ _ _|exact Kd.V_nil _ _ _ _ _|exact Kd.Q_nil _ _ _ _ _|exact Kd.S_nil _ _ _ _ _,bl HB.out⟩
def spec_JoinOf.j0:Nat→Bool→Int→List Int→Int→List Int→Option (Int×List Int×Int)
 |0,_,_,_,_,_=>none
 |k+1,x6,x208000,x208001,x209000,x209001=>if x6=true then (some (0,([]:List Int),1)) else (if (wrap64 (x208000+x209000))>6 then (some (0,([]:List Int),3)) else ((spec_l01Join.f k x208000 x208001 x209000 x209001).bind fun bt212=>(some (bt212.1,bt212.2,0))))
def spec_JoinOf.f (k:Nat) (a0_0:Int) (l0_1:List Int) (a1_0:Int) (l1_1:List Int):Option (Int×List Int×Int):=(spec_l01Is.f k a0_0 l0_1).bind fun t210=>(if t210=true then ((spec_l01Is.f k a1_0 l1_1).bind fun t211=>(spec_JoinOf.j0 k (!t211) a0_0 l0_1 a1_0 l1_1)) else (spec_JoinOf.j0 k true a0_0 l0_1 a1_0 l1_1))
theorem spec_JoinOf.mono_l:∀ k,(∀ y0 y1 y2 y3 y4,LeO (spec_JoinOf.j0 k y0 y1 y2 y3 y4) (spec_JoinOf.j0 (k+1) y0 y1 y2 y3 y4))
 |0=>fun _ _ _ _ _ r h=>by simp [spec_JoinOf.j0] at h
 |k+1=>by
  have ih0:=spec_JoinOf.mono_l k
  ·intro y0 y1 y2 y3 y4;unfold spec_JoinOf.j0;repeat' first
   |(with_reducible first|exact ih0 _ _ _ _ _|exact spec_l01Is.mono _ _ _|exact spec_l01Join.mono _ _ _ _ _|exact LeO.refl _|exact LeO.none _|refine LeO.ite ?_ ?_|refine LeO.bind ?_ (fun _=>?_))
theorem spec_JoinOf.mono:∀ a0 a1 a2 a3 k,LeO (spec_JoinOf.f k a0 a1 a2 a3) (spec_JoinOf.f (k+1) a0 a1 a2 a3):=by
 intro a0 a1 a2 a3 k;have ih0:=spec_JoinOf.mono_l k;unfold spec_JoinOf.f;repeat' first
   |(with_reducible first|exact ih0 _ _ _ _ _|exact spec_l01Is.mono _ _ _|exact spec_l01Join.mono _ _ _ _ _|exact LeO.refl _|exact LeO.none _|refine LeO.ite ?_ ?_|refine LeO.bind ?_ (fun _=>?_))
set_option maxHeartbeats 8000000 in
set_option maxRecDepth 100000 in
theorem spec_JoinOf.calls (k:Nat) (a0_0:Int) (A0_1:Option Addr) (c0_1:Nat) (l0_1:List Int) (a1_0:Int) (A1_1:Option Addr) (c1_1:Nat) (l1_1:List Int) (r1:Int) (r2:List Int) (r3:Int) (w:World) (hr0_1:Kd.C (Kd.int .i64) w A0_1 l0_1.length l0_1) (hc0_1:l0_1.length≤c0_1) (hr1_1:Kd.C (Kd.int .i64) w A1_1 l1_1.length l1_1) (hc1_1:l1_1.length≤c1_1) (h:spec_JoinOf.f k a0_0 l0_1 a1_0 l1_1=some (r1,r2,r3)) :
  Calls Tryz.prog 21 #[.agg #[.int .i64 a0_0,.slice A0_1 l0_1.length c0_1],.agg #[.int .i64 a1_0,.slice A1_1 l1_1.length c1_1]] w fun e w'=>∃ v1_:Value,e = .returned (.tuple #[.agg #[.int .i64 r1,v1_],.int .i64 r3])∧Kd.R (Kd.int .i64) 2 w' w.heap.size (fun _=>True) v1_ r2∧Below w.heap.size w w':=by
 have hu26:=Tryz.underlying26;have HR0_1:=Aside0.mk hr0_1;have HC0_1:=Aside0.mk hc0_1;clear hr0_1 hc0_1;have HR1_1:=Aside0.mk hr1_1;have HC1_1:=Aside0.mk hc1_1;clear hr1_1 hc1_1;have HB:=Aside0.mk (Below.refl w.heap.size w);have H:((spec_l01Is.f k a0_0 l0_1).bind fun t210=>(if t210=true then ((spec_l01Is.f k a1_0 l1_1).bind fun t211=>(spec_JoinOf.j0 k (!t211) a0_0 l0_1 a1_0 l1_1)) else (spec_JoinOf.j0 k true a0_0 l0_1 a1_0 l1_1)))=some (r1,r2,r3):=h;clear h;have HC3:=Aside0.mk H;clear H;go_enter Tryz.func21,Tryz.ntmps21;go_upto_region 1 with (first|((with_reducible refine gate_dst (N:=2) rfl ?_);refine bx 2 #[.int .i64 a0_0,.slice A0_1 l0_1.length c0_1] 26 ?_;intro gb207 hg w4 hbox hb;have BK207:=Aside0.mk (hbox);have GE207:=gzA hg HB;replace HB:=bsA HB hb;clear hb hbox hg)|((with_reducible refine gate_dst (N:=3) rfl ?_);refine bx 3 #[.int .i64 a1_0,.slice A1_1 l1_1.length c1_1] 26 ?_;intro gb208 hg w5 hbox hb;have BK208:=Aside0.mk (hbox);have GE208:=gzA hg HB;replace HB:=bsA HB hb;have NB207_208:=nlA hg BK207;have NB208_207:=ngA hg BK207;replace BK207:=bkA BK207 hb;clear hb hbox hg)|((with_reducible refine gate_dst (N:=4) rfl ?_);refine bx 4 #[.int .i64 0,.slice none 0 0] 26 ?_;intro gb209 hg w6 hbox hb;have BK209:=Aside0.mk (hbox);have GE209:=gzA hg HB;replace HB:=bsA HB hb;have NB207_209:=nlA hg BK207;have NB209_207:=ngA hg BK207;replace BK207:=bkA BK207 hb;have NB208_209:=nlA hg BK208;have NB209_208:=ngA hg BK208;replace BK208:=bkA BK208 hb;clear hb hbox hg))
 (try simp only [Act.put,List.setIfInBounds_toArray,List.set_cons_zero,List.set_cons_succ])
 go_cut [6] (fun v6 wc=>∃(kq:Nat) (x6_2:Bool),v6 = .bool x6_2∧Aside0 (spec_JoinOf.j0 kq x6_2 a0_0 l0_1 a1_0 l1_1=some (r1,r2,r3))∧Aside0 (kq≤k)∧Aside0 (wc.heap[gb207]?=some (.cells #[.int .i64 a0_0,(.slice A0_1 l0_1.length c0_1)] 26 (0,0)))∧Aside0 (wc.heap[gb208]?=some (.cells #[.int .i64 a1_0,(.slice A1_1 l1_1.length c1_1)] 26 (0,0)))∧Aside0 (wc.heap[gb209]?=some (.cells #[.int .i64 0,(.slice none 0 0)] 26 (0,0)))∧Aside0 (Below w.heap.size w wc))
 case first=>
  have H:=HC3.out;clear HC3;replace H:=Option.bind_eq_some_iff.mp H;obtain ⟨t210,A70,H⟩:=H;replace H:(if t210=true then ((spec_l01Is.f k a1_0 l1_1).bind fun t211=>(spec_JoinOf.j0 k (!t211) a0_0 l0_1 a1_0 l1_1)) else (spec_JoinOf.j0 k true a0_0 l0_1 a1_0 l1_1))=some (r1,r2,r3):=H;have A7:=Aside0.mk A70;clear A70;by_cases c8:t210=true
  ·subst c8;have H1:((spec_l01Is.f k a1_0 l1_1).bind fun t211=>(spec_JoinOf.j0 k (!t211) a0_0 l0_1 a1_0 l1_1))=some (r1,r2,r3):=by rw[if_pos rfl] at H;exact H
   clear H;have H:=H1;clear H1;replace H:=Option.bind_eq_some_iff.mp H;obtain ⟨t211,A90,H⟩:=H;replace H:(spec_JoinOf.j0 k (!t211) a0_0 l0_1 a1_0 l1_1)=some (r1,r2,r3):=H;have A9:=Aside0.mk A90;clear A90;have H':=Aside0.mk H;clear H;have hnb10:=NB207_208.out;have hnc10:=NB208_207.out;have hnb11:=NB207_209.out;have hnc11:=NB209_207.out;have hcz12_0:=z0_ BK207;have hcz12_1:=z1_ BK207;have hfz12_0:=hf_ BK207 0;have hfz12_1:=hf_ BK207 1;go_wp2_with (first|((with_reducible refine gate_callee (f:=71) rfl ?_);refine gl (some 8) Tryz.func71 #[.agg #[.int .i64 a0_0,.slice A0_1 l0_1.length c0_1]] ?_;(with_reducible refine(spec_l01Is.calls k a0_0 _ _ l0_1 true _ (cb (Kd.C_below HR0_1.out HB.out)) HC0_1.out A7.out).mono ?_);rintro e w13 ⟨rfl,hb⟩;refine⟨_,rfl,?_⟩;replace BK207:=bkA BK207 hb;replace BK208:=bkA BK208 hb;replace BK209:=bkA BK209 hb;replace HB:=bsA HB hb;(try clear hb);(try clear hb2);(try clear hk);(try clear hi);have hnb14:=NB208_209.out;have hnc14:=NB209_208.out;have hcz15_0:=z0_ BK208;have hcz15_1:=z1_ BK208;have hfz15_0:=hf_ BK208 0;have hfz15_1:=hf_ BK208 1)|(go_at_call 71;(with_reducible refine(spec_l01Is.calls k a1_0 _ _ l1_1 t211 _ (cb (Kd.C_below HR1_1.out HB.out)) HC1_1.out A9.out).mono ?_);rintro e w16 ⟨rfl,hb⟩;replace BK207:=bkA BK207 hb;replace BK208:=bkA BK208 hb;replace BK209:=bkA BK209 hb;replace HB:=bsA HB hb;(try clear hb);(try clear hb2);(try clear hk);(try clear hi)))
   go_meet
   case rel=>exact⟨_,(!t211),rs,H',⟨by first|omega|exact Nat.le_refl _⟩,⟨bk BK207.out⟩,⟨bk BK208.out⟩,⟨bk BK209.out⟩,⟨bl HB.out⟩⟩
  ·replace c8:=Bool.eq_false_iff.mpr c8;subst c8;have H1:(spec_JoinOf.j0 k true a0_0 l0_1 a1_0 l1_1)=some (r1,r2,r3):=by rw[if_neg (show ¬ (false=true) by decide)] at H;exact H
   clear H;have H:=H1;clear H1;have H':=Aside0.mk H;clear H;have hnb17:=NB207_208.out;have hnc17:=NB208_207.out;have hnb18:=NB207_209.out;have hnc18:=NB209_207.out;have hcz19_0:=z0_ BK207;have hcz19_1:=z1_ BK207;have hfz19_0:=hf_ BK207 0;have hfz19_1:=hf_ BK207 1;go_wp2_with (first|((with_reducible refine gate_callee (f:=71) rfl ?_);refine gl (some 8) Tryz.func71 #[.agg #[.int .i64 a0_0,.slice A0_1 l0_1.length c0_1]] ?_;(with_reducible refine(spec_l01Is.calls k a0_0 _ _ l0_1 false _ (cb (Kd.C_below HR0_1.out HB.out)) HC0_1.out A7.out).mono ?_);rintro e w20 ⟨rfl,hb⟩;refine⟨_,rfl,?_⟩;replace BK207:=bkA BK207 hb;replace BK208:=bkA BK208 hb;replace BK209:=bkA BK209 hb;replace HB:=bsA HB hb;(try clear hb);(try clear hb2);(try clear hk);(try clear hi)))
   go_meet
   case rel=>exact⟨_,(true),rs,H',⟨by first|omega|exact Nat.le_refl _⟩,⟨bk BK207.out⟩,⟨bk BK208.out⟩,⟨bk BK209.out⟩,⟨bl HB.out⟩⟩
 case rest=>
  clear HC3;try clear c1
  try clear c2
  try clear p2
  try clear c7
  try clear c8
  try clear c10
  try clear c11
  try clear c14
  try clear c17
  try clear c18
  try clear hcz12_0
  try clear hcz12_1
  try clear hcz15_0
  try clear hcz15_1
  try clear hcz19_0
  try clear hcz19_1
  try clear hfz12_0
  try clear hfz12_1
  try clear hfz15_0
  try clear hfz15_1
  try clear hfz19_0
  try clear hfz19_1
  obtain ⟨kq,x6_2,rfl,HA,HJ2,BK207,BK208,BK209,HB⟩:=hcut;cases kq with
  |zero=>exact absurd HA.out (by simp [spec_JoinOf.j0])
  |succ kj2=>
   have H:=HA.out;clear HA;simp only [spec_JoinOf.j0] at H;by_cases c21:x6_2=true
   ·subst c21;have H1:(some (0,([]:List Int),1))=some (r1,r2,r3):=by rw[if_pos rfl] at H;exact H
    clear H;have H:=H1;clear H1;simp only [Option.some.injEq,Prod.mk.injEq] at H;obtain ⟨rfl,rfl,rfl⟩:=H;have hnb22:=NB209_207.out;have hnc22:=NB207_209.out;have hnb23:=NB209_208.out;have hnc23:=NB208_209.out;have hcz24_0:=z0_ BK209;have hcz24_1:=z1_ BK209;have hfz24_0:=hf_ BK209 0;have hfz24_1:=hf_ BK209 1;go_wp2
    refine bodyPost_ret (results_ct rfl _ _ gb209 26 #[.int .i64 0,.slice none 0 0] (0,0) _ rfl (bp BK209.out) Tryz.underlying26 rfl (by kernel_rfl)) rfl ?_;exact⟨_,rr,by first|exact Kd.R_nil _ _ _ _ _|exact Kd.N_nil _ _ _ _ _|exact Kd.V_nil _ _ _ _ _|exact Kd.Q_nil _ _ _ _ _|exact Kd.S_nil _ _ _ _ _,bl HB.out⟩
   ·replace c21:=Bool.eq_false_iff.mpr c21;subst c21;have H1:(if (wrap64 (a0_0+a1_0))>6 then (some (0,([]:List Int),3)) else ((spec_l01Join.f kj2 a0_0 l0_1 a1_0 l1_1).bind fun bt212=>(some (bt212.1,bt212.2,0))))=some (r1,r2,r3):=by rw[if_neg (show ¬ (false=true) by decide)] at H;exact H
    clear H;have H:=H1;clear H1;by_cases c25:(wrap64 (a0_0+a1_0))>6
    ·rw[if_pos c25] at H;have c25b0:decide (6<(wrap64 (a0_0+a1_0)))=true:=decide_eq_true c25;clear c25;simp only [Option.some.injEq,Prod.mk.injEq] at H;obtain ⟨rfl,rfl,rfl⟩:=H;have hnb26:=NB207_208.out;have hnc26:=NB208_207.out;have hnb27:=NB207_209.out;have hnc27:=NB209_207.out;have hcz28_0:=z0_ BK207;have hcz28_1:=z1_ BK207;have hfz28_0:=hf_ BK207 0;have hfz28_1:=hf_ BK207 1;have hnb29:=NB208_209.out;have hnc29:=NB209_208.out;have hcz30_0:=z0_ BK208;have hcz30_1:=z1_ BK208;have hfz30_0:=hf_ BK208 0;have hfz30_1:=hf_ BK208 1;have hcz31_0:=z0_ BK209;have hcz31_1:=z1_ BK209;have hfz31_0:=hf_ BK209 0;have hfz31_1:=hf_ BK209 1;go_wp2
     refine bodyPost_ret (results_ct rfl _ _ gb209 26 #[.int .i64 0,.slice none 0 0] (0,0) _ rfl (bp BK209.out) Tryz.underlying26 rfl (by kernel_rfl)) rfl ?_;exact⟨_,rr,by first|exact Kd.R_nil _ _ _ _ _|exact Kd.N_nil _ _ _ _ _|exact Kd.V_nil _ _ _ _ _|exact Kd.Q_nil _ _ _ _ _|exact Kd.S_nil _ _ _ _ _,bl HB.out⟩
    ·rw[if_neg c25] at H;have c25b0:decide (6<(wrap64 (a0_0+a1_0)))=false:=decide_eq_false c25;clear c25;replace H:=Option.bind_eq_some_iff.mp H;obtain ⟨⟨t212,t213⟩,A320,H⟩:=H;replace H:(some (t212,t213,0))=some (r1,r2,r3):=H;have A32:=Aside0.mk A320;clear A320;simp only [Option.some.injEq,Prod.mk.injEq] at H;obtain ⟨rfl,rfl,rfl⟩:=H;have hnb33:=NB207_208.out;have hnc33:=NB208_207.out;have hnb34:=NB207_209.out;have hnc34:=NB209_207.out;have hcz35_0:=z0_ BK207;have hcz35_1:=z1_ BK207;have hfz35_0:=hf_ BK207 0;have hfz35_1:=hf_ BK207 1;have hnb36:=NB208_209.out;have hnc36:=NB209_208.out;have hcz37_0:=z0_ BK208;have hcz37_1:=z1_ BK208;have hfz37_0:=hf_ BK208 0;have hfz37_1:=hf_ BK208 1;go_wp2_with (first|((with_reducible refine gate_callee (f:=72) rfl ?_);refine gl (some 26) Tryz.func72 #[.agg #[.int .i64 a0_0,.slice A0_1 l0_1.length c0_1],.agg #[.int .i64 a1_0,.slice A1_1 l1_1.length c1_1]] ?_;(with_reducible refine(spec_l01Join.calls kj2 a0_0 _ _ l0_1 a1_0 _ _ l1_1 t212 t213 _ (cb (Kd.C_below HR0_1.out HB.out)) HC0_1.out (cb (Kd.C_below HR1_1.out HB.out)) HC1_1.out A32.out).mono ?_);rintro e w38 ⟨v214,rfl,ho0,hb⟩;refine⟨_,rfl,?_⟩;have HO215:=klA ho0 HB;replace BK207:=bkA BK207 hb;replace BK208:=bkA BK208 hb;replace BK209:=bkA BK209 hb;replace HB:=bsA HB hb;(try clear hb);(try clear hb2);(try clear hk);(try clear hi);(try clear ho0);have hcz39_0:=z0_ BK209;have hcz39_1:=z1_ BK209;have hfz39_0:=hf_ BK209 0;have hfz39_1:=hf_ BK209 1;obtain ⟨Ao40,co40,eo40⟩:=Kd.R_slice HO215.out;subst eo40))
     refine bodyPost_ret (results_ct rfl _ _ gb209 26 #[.int .i64 t212,.slice Ao40 t213.length co40] (0,0) _ rfl (bp BK209.out) Tryz.underlying26 rfl (by kernel_rfl)) rfl ?_;exact⟨_,rr,by(with_reducible repeat(first|apply Kd.R_alloc|apply Kd.R_drewN|apply Kd.R_drew));exact Kd.R_mono (Kd.R_far (p:=⟨gb209,1,none⟩) (Kd.R_far (p:=⟨gb209,0,none⟩) (Kd.R_types HO215.out BK209.out (by decide)) (fun _ hk=>hk.2) (.int .i64 t212)) (fun _ hk=>hk.2) (.slice Ao40 t213.length co40)) (fun _ hk=>trivial),bl HB.out⟩
end Go.Proofs.YtlhkdbkjafiikaaGreat.Q
end

section
namespace Go.Proofs.YtlhkdbkjafiikaaGreat.K
open Go.RowKit Go.Shelf Go.Proofs.YtlhkdbkjafiikaaGreat.Q Go.Proofs.YtlhkdbkjafiikaaGreatW.PrintWords Go.Proofs.YtlhkdbkjafiikaaGreatW.PrintLast Go.Proofs.YtlhkdbkjafiikaaGreatW.PrintMore
set_option linter.unusedVariables false
set_option linter.unusedSimpArgs false
def blkL (p:Int) (k:List Int) (g:Int):List Int:=(g*p) :: k.map (fun a=>g*p+a)
def joinL (p:Int) (k l:List Int):List Int:=k ++ l.flatMap (blkL p k)
theorem shl_is (g n:Int) (h0:0≤n∧n≤6) (hg:0≤g∧g≤63):shl .i64 g n=g*2 ^ n.toNat:=by
 have h:n=0∨n=1∨n=2∨n=3∨n=4∨n=5∨n=6:=by omega
 unfold shl
 rw[Nat.min_eq_left (by show n.toNat≤64;omega)]
 show IntKind.wrap .i64 _=_
 rw[IntKind.wrap_i64]
 rcases h with rfl|rfl|rfl|rfl|rfl|rfl|rfl <;> simp <;> omega
theorem blk_length (p:Int) (k:List Int) (g:Int):(blkL p k g).length=k.length+1:=by simp [blkL]
theorem specJoin_l1 (n:Int) (k:List Int) (m:Int) (l:List Int) (N:Int) (hk:k.length≤63) (p g:Int) (hp:1≤p∧p≤64) (hg:0≤g∧g≤63) (hr:∀ x ∈ k,1≤x∧x≤63) (i:Int) (R:Nat) (r:Int×List Int) (tot:List Int) (ht:tot.length≤100000)
  (h:∀ f,R≤f→spec_l01Join.l0 f (wrap64 (i+1)) n k m l N tot=some r) :
  ∀(d j f:Nat) (acc:List Int),k.length - j=d→j≤k.length→R+d<f→acc ++ (k.drop j).map (fun a=>g*p+a)=tot →
  spec_l01Join.l1 f i (g*p) (j:Int) n k m l N acc=some r:=by
 have hgp:0≤g*p∧g*p≤63*64:=⟨Int.mul_nonneg hg.1 (by omega),Int.mul_le_mul hg.2 hp.2 (by omega) (by omega)⟩
 intro d
 induction d with
 |zero=>
  intro j f acc hd hj hf hacc
  obtain ⟨f,rfl⟩:∃ m,f=m+1:=⟨f - 1,by omega⟩
  obtain rfl:j=k.length:=by omega
  simp at hacc
  subst hacc
  simp only [spec_l01Join.l1]
  rw[if_neg (by omega)]
  exact h f (by omega)
 |succ d ih=>
  intro j f acc hd hj hf hacc
  obtain ⟨f,rfl⟩:∃ m,f=m+1:=⟨f - 1,by omega⟩
  simp only [spec_l01Join.l1]
  have hjl:j<k.length:=by omega
  have hx:=hr _ (List.getElem_mem hjl)
  have hal:acc.length≤100000:=by
   have:=congrArg List.length hacc
   rw[List.length_append] at this
   omega
  rw[List.drop_eq_getElem_cons hjl,List.map_cons] at hacc
  rw[if_pos (by omega),if_pos (by omega),if_pos (by omega),rd_nat k j hjl]
  generalize g*p=q at hgp hacc ih ⊢
  rw[w64 (q+k[j]) (by omega) (by omega),w64 ((j:Int)+1) (by omega) (by omega),nat_succ]
  exact ih (j+1) f _ (by omega) (by omega) (by omega) (by rw[List.append_assoc];exact hacc)
theorem specJoin_l0 (n:Int) (hn:1≤n∧n≤6) (k:List Int) (m:Int) (l:List Int) (N:Int) (hk:k.length≤63) (hl:l.length≤63) (hr:∀ x ∈ k,1≤x∧x≤63) (hr2:∀ x ∈ l,1≤x∧x≤63) :
  ∀(d i f:Nat) (acc:List Int),l.length - i=d→i≤l.length→70*d<f→acc.length≤64*i+63 →
  spec_l01Join.l0 f (i:Int) n k m l N acc=some (N,acc ++ (l.drop i).flatMap (blkL (2 ^ n.toNat) k)):=by
 have hp:=two_pow n.toNat 6 (by omega)
 have hu:IntKind.u64.wrap n=n:=u64_id n (by omega) (by omega)
 intro d
 induction d with
 |zero=>
  intro i f acc hd hi hf ha
  obtain ⟨f,rfl⟩:∃ m,f=m+1:=⟨f - 1,by omega⟩
  obtain rfl:i=l.length:=by omega
  simp only [spec_l01Join.l0]
  rw[if_neg (by omega)]
  simp
 |succ d ih=>
  intro i f acc hd hi hf ha
  obtain ⟨f,rfl⟩:∃ m,f=m+1:=⟨f - 1,by omega⟩
  simp only [spec_l01Join.l0]
  have hil:i<l.length:=by omega
  have hx:=hr2 _ (List.getElem_mem hil)
  rw[if_pos (by omega),if_pos (by omega),hu,if_pos (by omega),if_pos (by omega),rd_nat l i hil,shl_is _ n (by omega) (by omega),List.drop_eq_getElem_cons hil,List.flatMap_cons]
  have hb:=blk_length (2 ^ n.toNat) k l[i]
  refine specJoin_l1 n k m l N hk (2 ^ n.toNat) l[i] ⟨hp.1,by have:=hp.2;omega⟩ (by omega) hr (i:Int) (70*d+1) _ (acc ++ blkL (2 ^ n.toNat) k l[i]) (by rw[List.length_append];omega)
   (fun f hf=>?_) k.length 0 f _ (by omega) (by omega) (by omega) (by rw[List.drop_zero,List.append_assoc];rfl)
  rw[w64 _ (by omega) (by omega),nat_succ,ih (i+1) f _ (by omega) (by omega) (by omega) (by rw[List.length_append];omega),List.append_assoc]
theorem and_full_64:∀(x:Fin 64) (n:Fin 7),Go.bits .and .i64 (x.val:Int) (fullOf (n.val:Int))=(x.val:Int) % 2 ^ n.val:=by decide +kernel
theorem and_full (x n:Int) (hx:0≤x∧x≤63) (hn:0≤n∧n≤6):Go.bits .and .i64 x (fullOf n)=x % 2 ^ n.toNat:=by
 obtain ⟨a,rfl⟩:=Int.eq_ofNat_of_zero_le hx.1
 obtain ⟨b,rfl⟩:=Int.eq_ofNat_of_zero_le hn.1
 exact and_full_64 ⟨a,by omega⟩ ⟨b,by omega⟩
theorem mem_blk (p:Int) (k:List Int) (g x:Int):x ∈ blkL p k g↔x=g*p∨∃ a ∈ k,x=g*p+a:=by
 unfold blkL
 rw[List.mem_cons,List.mem_map]
 constructor
 ·rintro (h|⟨a,ha,h⟩)
  ·exact .inl h
  ·exact .inr ⟨a,ha,h.symm⟩
 ·rintro (h|⟨a,ha,h⟩)
  ·exact .inl h
  ·exact .inr ⟨a,ha,h.symm⟩
theorem mem_join (p:Int) (k l:List Int) (x:Int):x ∈ joinL p k l↔x ∈ k∨∃ g ∈ l,x=g*p∨∃ a ∈ k,x=g*p+a:=by
 unfold joinL
 rw[List.mem_append,List.mem_flatMap]
 simp only [mem_blk]
theorem join_asc (p:Int) (hp:1≤p) (k l:List Int) (hk:k.Pairwise (· < ·)) (hl:l.Pairwise (· < ·)) (hr:∀ x ∈ k,1≤x∧x<p) (hr2:∀ x ∈ l,1≤x):(joinL p k l).Pairwise (· < ·):=by
 have hmul:∀ g g':Int,g<g'→g*p+p≤g'*p:=fun g g' h=>by
  have:(g+1)*p≤g'*p:=Int.mul_le_mul_of_nonneg_right (by omega) (by omega)
  rw[Int.add_mul,Int.one_mul] at this
  exact this
 unfold joinL
 rw[List.pairwise_append]
 refine⟨hk,?_,?_⟩
 ·rw[List.pairwise_flatMap]
  refine⟨fun g _=>?_,hl.imp_of_mem ?_⟩
  ·unfold blkL
   rw[List.pairwise_cons,List.pairwise_map]
   refine⟨fun x hx=>?_,hk.imp fun h=>by omega⟩
   obtain ⟨a,ha,rfl⟩:=List.mem_map.1 hx
   have:=hr a ha
   omega
  ·intro g g' _ _ h x hx y hy
   have hm:=hmul g g' h
   rw[mem_blk] at hx hy
   have h1:x<g*p+p:=by
    rcases hx with h1|⟨a,ha,h1⟩
    ·omega
    ·have:=hr a ha
     omega
   have h2:g'*p≤y:=by
    rcases hy with h1|⟨a,ha,h1⟩
    ·omega
    ·have:=hr a ha
     omega
   omega
 ·intro x hx y hy
  obtain ⟨g,hg,hy⟩:=List.mem_flatMap.1 hy
  have h1:=hr x hx
  have h3:=hr2 g hg
  have hm:=hmul 0 g (by omega)
  rw[Int.zero_mul,Int.zero_add] at hm
  rw[mem_blk] at hy
  rcases hy with h2|⟨a,ha,h2⟩
  ·omega
  ·have:=hr a ha
   omega
theorem join_eq {n:Int} {k:List Int} {m:Int} {l:List Int} (hk:isC n k=true) (hl:isC m l=true) (h6:n+m≤6):thoseL (n+m) (joinP n k l)=joinL (2 ^ n.toNat) k l:=by
 obtain ⟨hn,ks,kr,k63⟩:=isC_faces hk
 obtain ⟨hm,ls,lr,l63⟩:=isC_faces hl
 have hp:=two_pow n.toNat 6 (by omega)
 have hF:fullOf n=2 ^ n.toNat - 1:=rfl
 have hG:fullOf m=2 ^ m.toNat - 1:=rfl
 have hFm:=full_range (n+m) (by omega)
 have hpm:fullOf (n+m)+1=2 ^ n.toNat*2 ^ m.toNat:=by
  unfold fullOf
  rw[show (n+m).toNat=n.toNat+m.toNat by omega,Int.pow_add]
  omega
 obtain ⟨p,hpp⟩:∃ p:Int,p=2 ^ n.toNat:=⟨_,rfl⟩
 obtain ⟨q,hqq⟩:∃ q:Int,q=2 ^ m.toNat:=⟨_,rfl⟩
 rw[← hpp] at hp hF hpm ⊢
 rw[← hqq] at hG hpm
 refine asc_ext _ _ (those_asc _ _) (join_asc p (by omega) k l ks ls (fun x hx=>by have:=kr x hx;omega) (fun x hx=>(lr x hx).1)) fun x=>?_
 rw[mem_those,mem_join]
 unfold joinP
 simp only [Bool.and_eq_true,Bool.or_eq_true,beq_iff_eq]
 constructor
 ·rintro ⟨⟨h1,h2⟩,h3,h4⟩
  rw[and_full x n (by omega) (by omega),← hpp] at h3
  rw[← hpp] at h4
  rw[has_asc k _ (by omega) ks,decide_eq_true_eq] at h3
  rw[has_asc l _ (by omega) ls,decide_eq_true_eq] at h4
  have hd:p*(x / p)+x % p=x:=Int.mul_ediv_add_emod x p
  rcases h4 with h4|h4
  ·rw[h4,Int.mul_zero,Int.zero_add] at hd
   rcases h3 with h3|h3
   ·omega
   ·rw[hd] at h3
    exact .inl h3
  ·refine .inr ⟨_,h4,?_⟩
   rw[Int.mul_comm]
   rcases h3 with h3|h3
   ·exact .inl (by omega)
   ·exact .inr ⟨_,h3,by omega⟩
 ·have key:∀ g a:Int,(g=0∨g ∈ l)→(a=0∨a ∈ k)→(g≠0∨a≠0)→x=g*p+a→((1≤x∧x≤fullOf (n+m))∧(x % p=a∧x / p=g)):=by
   intro g a hg ha hne hx
   have hgr:0≤g∧g+1≤q:=by
    rcases hg with h|h
    ·have:=two_pow m.toNat 6 (by omega)
     omega
    ·have:=lr g h
     omega
   have har:0≤a∧a<p:=by
    rcases ha with h|h
    ·omega
    ·have:=kr a h
     omega
   have e1:(g+1)*p≤q*p:=Int.mul_le_mul_of_nonneg_right hgr.2 (by omega)
   rw[Int.add_mul,Int.one_mul,Int.mul_comm q p] at e1
   have e2:0≤g*p:=Int.mul_nonneg hgr.1 (by omega)
   have e3:g≠0→p≤g*p:=fun h=>by
    have:1*p≤g*p:=Int.mul_le_mul_of_nonneg_right (by omega) (by omega)
    omega
   refine⟨⟨?_,by omega⟩,?_,?_⟩
   ·rcases hne with h|h
    ·have:=e3 h
     omega
    ·omega
   ·rw[hx,Int.add_comm,Int.add_mul_emod_self_right]
    exact Int.emod_eq_of_lt har.1 har.2
   ·rw[hx,Int.add_comm,Int.add_mul_ediv_right _ _ (by omega),Int.ediv_eq_zero_of_lt har.1 har.2]
    omega
  have fin:∀ g a:Int,(g=0∨g ∈ l)→(a=0∨a ∈ k)→(g≠0∨a≠0)→x=g*p+a→(1≤x∧x≤fullOf (n+m))∧(Go.bits .and .i64 x (fullOf n)=0∨hasB k (Go.bits .and .i64 x (fullOf n))=true)∧(x / 2 ^ n.toNat=0∨hasB l (x / 2 ^ n.toNat)=true):=by
   intro g a hg ha hne hx
   obtain ⟨h1,h2,h3⟩:=key g a hg ha hne hx
   refine⟨h1,?_,?_⟩
   ·rw[and_full x n (by omega) (by omega),← hpp,h2,has_asc k _ (by omega) ks,decide_eq_true_eq]
    exact ha
   ·rw[← hpp,h3,has_asc l _ (by omega) ls,decide_eq_true_eq]
    exact hg
  rintro (h|⟨g,hg,h|⟨a,ha,h⟩⟩)
  ·have:=kr x h
   exact fin 0 x (.inl rfl) (.inr h) (.inr (by omega)) (by omega)
  ·have:=lr g hg
   exact fin g 0 (.inr hg) (.inl rfl) (.inl (by omega)) (by omega)
  ·have:=lr g hg
   exact fin g a (.inr hg) (.inr ha) (.inl (by omega)) h
theorem specJoinL_is {n:Int} {k:List Int} {m:Int} {l:List Int} (hk:isC n k=true) (hl:isC m l=true) (f:Nat) (hf:4500≤f):spec_l01Join.f f n k m l=some (n+m,joinL (2 ^ n.toNat) k l):=by
 obtain ⟨hn,ks,kr,k63⟩:=isC_faces hk
 obtain ⟨hm,ls,lr,l63⟩:=isC_faces hl
 unfold spec_l01Join.f spec_l01Own.f
 simp only [Option.bind_some,List.length_nil,List.nil_append]
 rw[if_pos (by omega)]
 simp only [Option.bind_some]
 rw[w64 _ (by omega) (by omega)]
 have:=specJoin_l0 n hn k m l (n+m) k63 l63 (fun x hx=>⟨(kr x hx).1,(kr x hx).2.2⟩) (fun x hx=>⟨(lr x hx).1,(lr x hx).2.2⟩) l.length 0 f k (by omega) (by omega) (by omega) (by omega)
 exact this
theorem specJoin_is (n:Int) (k:List Int) (m:Int) (l:List Int) (hk:k.length≤2097152) (hl:l.length≤2097152) (f:Nat) (hf:isK k+isK l+4501≤f):spec_JoinOf.f f n k m l=some (joinOf n k m l):=by
 obtain ⟨f,rfl⟩:∃ m,f=m+1:=⟨f - 1,by omega⟩
 unfold spec_JoinOf.f joinOf
 rw[specIs_is n k hk _ (by omega),specIs_is m l hl _ (by omega)]
 simp only [Option.bind_some]
 cases hi:isC n k with
 |false=>simp [spec_JoinOf.j0]
 |true=>
  cases hj:isC m l with
  |false=>simp [spec_JoinOf.j0]
  |true=>
   have hn:=isC_size hi
   have hm:=isC_size hj
   simp only [spec_JoinOf.j0,if_true,Bool.not_true,Bool.false_eq_true,if_false,and_self]
   rw[w64 _ (by omega) (by omega)]
   by_cases h6:6<n+m
   ·rw[if_pos h6,if_pos h6]
   ·rw[if_neg h6,if_neg h6,specJoinL_is hi hj f (by omega),join_eq hi hj (by omega)]
    rfl
theorem joinOf_length (n:Int) (k:List Int) (m:Int) (l:List Int):(joinOf n k m l).2.1.length≤63:=by
 unfold joinOf
 by_cases h:isC n k=true∧isC m l=true
 ·rw[if_pos h]
  have hn:=isC_size h.1
  have hm:=isC_size h.2
  by_cases h6:6<n+m
  ·rw[if_pos h6]
   exact Nat.zero_le _
  ·rw[if_neg h6]
   have h2:=upTo_filter_length (joinP n k l) (2 ^ (n+m).toNat - 1)
   have h3:2 ^ (n+m).toNat≤2 ^ 6:=Nat.pow_le_pow_right (by omega) (by omega)
   show (thoseL (n+m) _).length≤63
   unfold thoseL
   omega
 ·rw[if_neg h]
  exact Nat.zero_le _
end Go.Proofs.YtlhkdbkjafiikaaGreat.K
end

section
namespace Go.Proofs.YtlhkdbkjafiikaaGreat.K
open Go.RowKit Go.Shelf Go.Proofs.YtlhkdbkjafiikaaGreat.Q Go.Proofs.YtlhkdbkjafiikaaGreatW.PrintWords Go.Proofs.YtlhkdbkjafiikaaGreatW.PrintLast Go.Proofs.YtlhkdbkjafiikaaGreatW.PrintMore
set_option linter.unusedVariables false
set_option linter.unusedSimpArgs false
theorem point_is:isC 1 [1]=true:=by decide +kernel
theorem specCone_is (n:Int) (k:List Int) (hk:k.length≤2097152) (f:Nat) (hf:isK k+4501≤f):spec_ConeOf.f f n k=some (joinOf n k 1 [1]):=by
 unfold spec_ConeOf.f joinOf
 rw[specIs_is n k hk _ (by omega)]
 simp only [Option.bind_some]
 cases hi:isC n k with
 |false=>simp
 |true=>
  have hn:=isC_size hi
  simp only [if_true,point_is,and_self]
  by_cases h6:n=6
  ·rw[if_pos h6,if_pos (by omega)]
  ·rw[if_neg h6,if_neg (by omega),specJoinL_is hi point_is f (by omega),join_eq hi point_is (by omega)]
   rfl
end Go.Proofs.YtlhkdbkjafiikaaGreat.K
end

section
namespace Go.Proofs.YtlhkdbkjafiikaaGreat.K
open Go.RowKit Go.Shelf Go.Proofs.YtlhkdbkjafiikaaGreat.Q Go.Proofs.YtlhkdbkjafiikaaGreatW.PrintWords Go.Proofs.YtlhkdbkjafiikaaGreatW.PrintLast Go.Proofs.YtlhkdbkjafiikaaGreatW.PrintMore
set_option linter.unusedVariables false
set_option linter.unusedSimpArgs false
def orS (a:Nat) (v:Int):Nat:=a |||2 ^ v.toNat
def orN (xs:List Int):Nat:=xs.foldl orS 0
theorem orF_bits (j:Nat):∀(xs:List Int) (a:Nat),(∀ x ∈ xs,0≤x)→(xs.foldl orS a).testBit j=(a.testBit j ||decide ((j:Int) ∈ xs))
 |[],a,_=>by simp
 |x :: xs,a,h=>by
  have hx:=h x List.mem_cons_self
  rw[List.foldl_cons,orF_bits j xs _ (fun y hy=>h y (List.mem_cons_of_mem _ hy))]
  unfold orS
  rw[Nat.testBit_or,Nat.testBit_two_pow,Bool.or_assoc]
  congr 1
  rw[Bool.eq_iff_iff]
  simp only [Bool.or_eq_true,decide_eq_true_eq,List.mem_cons]
  constructor
  ·rintro (e|e)
   ·exact Or.inl (by omega)
   ·exact Or.inr e
  ·rintro (e|e)
   ·exact Or.inl (by omega)
   ·exact Or.inr e
theorem orN_bits (xs:List Int) (h:∀ x ∈ xs,0≤x) (j:Nat):(orN xs).testBit j=decide ((j:Int) ∈ xs):=by
 unfold orN
 rw[orF_bits j xs 0 h]
 simp
theorem orF_lt (m:Nat):∀(xs:List Int) (a:Nat),(∀ x ∈ xs,0≤x∧x<m)→a<2 ^ m→xs.foldl orS a<2 ^ m
 |[],a,_,ha=>ha
 |x :: xs,a,h,ha=>by
  have hx:=h x List.mem_cons_self
  exact orF_lt m xs _ (fun y hy=>h y (List.mem_cons_of_mem _ hy)) (Nat.or_lt_two_pow ha (Nat.pow_lt_pow_right (by omega) (by omega)))
theorem orN_lt (m:Nat) (xs:List Int) (h:∀ x ∈ xs,0≤x∧x<m):orN xs<2 ^ m:=orF_lt m xs 0 h (Nat.pos_of_ne_zero (by simp))
theorem orN_same {xs ys:List Int} (hx:∀ x ∈ xs,0≤x) (hy:∀ y ∈ ys,0≤y) (h:∀ j:Nat,(j:Int) ∈ xs↔(j:Int) ∈ ys):orN xs=orN ys:=by
 apply Nat.eq_of_testBit_eq
 intro j
 rw[orN_bits xs hx,orN_bits ys hy]
 simp [h j]
theorem orb_64:∀ a b:Fin 64,Go.bits .or .i64 (a.val:Int) (b.val:Int)=((a.val |||b.val:Nat):Int):=by decide +kernel
theorem andb_64:∀ a b:Fin 64,Go.bits .and .i64 (a.val:Int) (b.val:Int)=((a.val &&& b.val:Nat):Int):=by decide +kernel
theorem shl_6:∀ v:Fin 6,shl .i64 1 (v.val:Int)=((2 ^ v.val:Nat):Int):=by decide +kernel
theorem vbit_64:∀ f:Fin 64,∀ v:Fin 6,vbit (f.val:Int) (v.val:Int)=f.val.testBit v.val:=by decide +kernel
theorem or_is (a:Nat) (ha:a<64) (v:Int) (h0:0≤v) (h6:v<6):Go.bits .or .i64 (a:Int) (shl .i64 1 v)=((orS a v:Nat):Int):=by
 obtain ⟨m,rfl⟩:=Int.eq_ofNat_of_zero_le h0
 have h1:=shl_6 ⟨m,by omega⟩
 have h2:2 ^ m<2 ^ 6:=Nat.pow_lt_pow_right (by omega) (by omega)
 rw[h1]
 exact orb_64 ⟨a,ha⟩ ⟨2 ^ m,h2⟩
theorem mem_verts (f:Nat) (hf:f<64) (v:Nat):(v:Int) ∈ verts (f:Int)↔f.testBit v=true:=by
 unfold verts
 rw[List.mem_filter]
 constructor
 ·rintro ⟨h1,h2⟩
  have hv:v<6:=by simp at h1;omega
  rw[vbit_64 ⟨f,hf⟩ ⟨v,hv⟩] at h2
  exact h2
 ·intro h
  have hv:v<6:=by
   apply Nat.lt_of_not_le
   intro h6
   rw[Nat.testBit_lt_two_pow (Nat.lt_of_lt_of_le hf (Nat.pow_le_pow_right (by omega) h6:2 ^ 6≤2 ^ v))] at h
   cases h
  refine⟨?_,by rw[vbit_64 ⟨f,hf⟩ ⟨v,hv⟩];exact h⟩
  have:v=0∨v=1∨v=2∨v=3∨v=4∨v=5:=by omega
  rcases this with h|h|h|h|h|h <;> subst h <;> simp
theorem and_sub (x s:Nat) (hx:x<64) (hs:s<64):Go.bits .and .i64 (x:Int) (s:Int)=(x:Int)↔∀ j,x.testBit j=true→s.testBit j=true:=by
 rw[andb_64 ⟨x,hx⟩ ⟨s,hs⟩]
 constructor
 ·intro h j hj
  have h2:x &&& s=x:=by exact_mod_cast h
  have:=congrArg (fun y=>y.testBit j) h2
  simp only [Nat.testBit_and,hj,Bool.true_and] at this
  exact this
 ·intro h
  have:x &&& s=x:=Nat.eq_of_testBit_eq fun j=>by
   rw[Nat.testBit_and]
   cases hj:x.testBit j with
   |false=>rfl
   |true=>rw[h j hj];rfl
  rw[this]
def imgN (p:List Int) (f:Int):Nat:=orN ((verts f).map fun v=>rd p v)
def ordB (n:Int) (p:List Int):Bool:=p.all (fun v=>decide (0≤v∧v≤n - 1)) && (decide p.Nodup && decide ((p.length:Int)=n))
theorem nodup_le:∀(a b:List Int),a.Nodup→(∀ x ∈ a,x ∈ b)→a.length≤b.length
 |[],b,_,_=>Nat.zero_le _
 |x :: a,b,h,hs=>by
  rw[List.nodup_cons] at h
  have hx:=hs x List.mem_cons_self
  have:=nodup_le a (b.erase x) h.2 (fun y hy=>(List.mem_erase_of_ne (fun e:y=x=>h.1 (by rw[← e];exact hy))).2 (hs y (List.mem_cons_of_mem _ hy)))
  rw[List.length_erase_of_mem hx] at this
  have:=List.length_pos_of_mem hx
  simp only [List.length_cons]
  omega
theorem cover_nodup:∀(p a:List Int),a.Nodup→(∀ x ∈ a,x ∈ p)→p.length≤a.length→p.Nodup
 |[],_,_,_,_=>List.Pairwise.nil
 |x :: q,a,ha,hs,hl=>by
  rw[List.nodup_cons]
  simp only [List.length_cons] at hl
  have hxq:x ∉ q:=fun hx=>by
   have:=nodup_le a q ha (fun y hy=>by
    rcases List.mem_cons.1 (hs y hy) with e|h
    ·rw[e];exact hx
    ·exact h)
   omega
  refine⟨hxq,cover_nodup q (a.erase x) (ha.erase x) (fun y hy=>?_) ?_⟩
  ·have hy2:=(List.Nodup.mem_erase_iff ha).1 hy
   rcases List.mem_cons.1 (hs y hy2.2) with e|h
   ·exact absurd e hy2.1
   ·exact h
  ·have:a.length≤(a.erase x).length+1:=by
    by_cases hx:x ∈ a
    ·rw[List.length_erase_of_mem hx];omega
    ·rw[List.erase_of_not_mem hx];omega
   omega
def nums0 (n:Nat):List Int:=(List.range n).map fun i:Nat=>(i:Int)
theorem nums0_nodup (n:Nat):(nums0 n).Nodup:=by
 unfold nums0
 rw[List.nodup_iff_pairwise_ne,List.pairwise_map]
 exact List.pairwise_lt_range.imp (fun h e=>by omega)
theorem full_iff (n:Nat) (p:List Int) (hr:∀ v ∈ p,0≤v∧v<n) (hl:p.length=n):orN p=2 ^ n - 1↔p.Nodup:=by
 constructor
 ·intro h
  refine cover_nodup p (nums0 n) (nums0_nodup n) (fun x hx=>?_) (by simp [nums0,hl])
  obtain ⟨i,hi,rfl⟩:=List.mem_map.1 hx
  have hb:=orN_bits p (fun v hv=>(hr v hv).1) i
  rw[h,Nat.testBit_two_pow_sub_one,decide_eq_true (List.mem_range.1 hi)] at hb
  exact of_decide_eq_true hb.symm
 ·intro h
  apply Nat.eq_of_testBit_eq
  intro j
  rw[orN_bits p (fun v hv=>(hr v hv).1) j,Nat.testBit_two_pow_sub_one]
  by_cases hj:j<n
  ·rw[decide_eq_true hj]
   apply decide_eq_true
   apply Classical.byContradiction
   intro hn
   have:=nodup_le p ((nums0 n).erase (j:Int)) h (fun x hx=>by
    refine(List.mem_erase_of_ne (fun e:x=(j:Int)=>hn (by rw[← e];exact hx))).2 ?_
    have:=hr x hx
    exact List.mem_map.2 ⟨x.toNat,List.mem_range.2 (by omega),by omega⟩)
   rw[List.length_erase_of_mem (show (j:Int) ∈ nums0 n from List.mem_map.2 ⟨j,List.mem_range.2 hj,rfl⟩)] at this
   simp [nums0,hl] at this
   omega
  ·rw[decide_eq_false hj]
   apply decide_eq_false
   intro hm
   have:=hr _ hm
   omega
theorem ord_at {n:Int} {p:List Int} (h:ordB n p=true):(∀ v ∈ p,0≤v∧v≤n - 1)∧p.Nodup∧(p.length:Int)=n:=by
 unfold ordB at h
 simp only [Bool.and_eq_true,List.all_eq_true,decide_eq_true_eq] at h
 exact⟨h.1,h.2.1,h.2.2⟩
theorem ord_rd {n:Int} {p:List Int} (h:ordB n p=true) (v:Int) (h0:0≤v) (h1:v<n):0≤rd p v∧rd p v≤n - 1:=by
 obtain ⟨h2,_,h3⟩:=ord_at h
 obtain ⟨m,rfl⟩:=Int.eq_ofNat_of_zero_le h0
 have hm:m<p.length:=by omega
 have:=h2 _ (List.getElem_mem hm)
 rw[show rd p (m:Int)=p[m] from rd_nat p m hm]
 exact this
theorem ord_inj {n:Int} {p:List Int} (h:ordB n p=true) (u v:Nat) (hu:(u:Int)<n) (hv:(v:Int)<n) (e:rd p (u:Int)=rd p (v:Int)):u=v:=by
 obtain ⟨_,h2,h3⟩:=ord_at h
 have hu2:u<p.length:=by omega
 have hv2:v<p.length:=by omega
 rw[show rd p (u:Int)=p[u] from rd_nat p u hu2,show rd p (v:Int)=p[v] from rd_nat p v hv2] at e
 rw[List.nodup_iff_pairwise_ne,List.pairwise_iff_getElem] at h2
 rcases Nat.lt_trichotomy u v with h4|h4|h4
 ·exact absurd e (h2 u v hu2 hv2 h4)
 ·exact h4
 ·exact absurd e.symm (h2 v u hv2 hu2 h4)
theorem verts_lt {n:Int} (hn:1≤n∧n≤6) (f:Nat) (hf:(f:Int)≤fullOf n) (v:Nat) (h:f.testBit v=true):(v:Int)<n:=by
 rw[full_nat] at hf
 apply Classical.byContradiction
 intro hlt
 have hle:n≤(v:Int):=by omega
 have h1:f<2 ^ n.toNat:=by have:=Nat.pos_of_ne_zero (show 2 ^ n.toNat≠0 by simp);omega
 have h2:2 ^ n.toNat≤2 ^ v:=Nat.pow_le_pow_right (by omega) (by omega)
 rw[Nat.testBit_lt_two_pow (by omega)] at h
 cases h
theorem img_bits {n:Int} {p:List Int} (hn:1≤n∧n≤6) (ho:ordB n p=true) (f:Nat) (hf:(f:Int)≤fullOf n) (j:Nat):(imgN p (f:Int)).testBit j=true↔∃ v:Nat,f.testBit v=true∧rd p (v:Int)=(j:Int):=by
 have h63:=full_range n hn
 have hv:∀ v ∈ verts (f:Int),∃ u:Nat,v=(u:Int)∧f.testBit u=true:=fun v hv=>by
  have h1:=verts_range _ v hv
  obtain ⟨u,rfl⟩:=Int.eq_ofNat_of_zero_le h1.1
  exact⟨u,rfl,(mem_verts f (by omega) u).1 hv⟩
 unfold imgN
 rw[orN_bits _ (fun x hx=>by
  obtain ⟨v,hv1,rfl⟩:=List.mem_map.1 hx
  obtain ⟨u,rfl,hu⟩:=hv v hv1
  exact(ord_rd ho _ (by omega) (verts_lt hn f hf u hu)).1)]
 rw[decide_eq_true_eq,List.mem_map]
 constructor
 ·rintro ⟨v,hv1,e⟩
  obtain ⟨u,rfl,hu⟩:=hv v hv1
  exact⟨u,hu,e⟩
 ·rintro ⟨u,hu,e⟩
  exact⟨(u:Int),(mem_verts f (by omega) u).2 hu,e⟩
theorem img_lt {n:Int} {p:List Int} (hn:1≤n∧n≤6) (ho:ordB n p=true) (f:Nat) (hf:(f:Int)≤fullOf n):imgN p (f:Int)<2 ^ n.toNat:=by
 have h63:=full_range n hn
 refine orN_lt n.toNat _ (fun x hx=>?_)
 obtain ⟨v,hv1,rfl⟩:=List.mem_map.1 hx
 have h1:=verts_range _ v hv1
 obtain ⟨u,rfl⟩:=Int.eq_ofNat_of_zero_le h1.1
 have:=ord_rd ho _ (by omega) (verts_lt hn f hf u ((mem_verts f (by omega) u).1 hv1))
 omega
theorem img_inj {n:Int} {p:List Int} (hn:1≤n∧n≤6) (ho:ordB n p=true) (f g:Nat) (hf:(f:Int)≤fullOf n) (hg:(g:Int)≤fullOf n) (e:imgN p (f:Int)=imgN p (g:Int)):f=g:=by
 have key:∀ a b:Nat,(a:Int)≤fullOf n→(b:Int)≤fullOf n→imgN p (a:Int)=imgN p (b:Int)→∀ v,a.testBit v=true→b.testBit v=true:=fun a b ha hb e v hv=>by
  have hvn:=verts_lt hn a ha v hv
  have hr:=ord_rd ho _ (by omega:(0:Int)≤(v:Int)) hvn
  obtain ⟨j,hj⟩:=Int.eq_ofNat_of_zero_le hr.1
  have h1:=(img_bits hn ho a ha j).2 ⟨v,hv,hj⟩
  rw[e] at h1
  obtain ⟨u,hu,hu2⟩:=(img_bits hn ho b hb j).1 h1
  have:=ord_inj ho u v (verts_lt hn b hb u hu) hvn (by rw[hu2,hj])
  rw[← this]
  exact hu
 apply Nat.eq_of_testBit_eq
 intro v
 rw[Bool.eq_iff_iff]
 exact⟨key f g hf hg e v,key g f hg hf e.symm v⟩
theorem ones1 (x:Nat) (h:x≠0):∃ j,x.testBit j=true:=Nat.exists_testBit_of_ne_zero h
theorem img_mem {n:Int} {l p:List Int} (hi:isC n l=true) (ho:ordB n p=true) (x:Int):x ∈ l.map (fun f=>(imgN p f:Int))↔(1≤x∧x≤fullOf n)∧(l.map (fun f=>(imgN p f:Int))).any (fun s=>decide (Go.bits .and .i64 x s=x))=true:=by
 obtain ⟨hn,hs,hr,h63⟩:=isC_faces hi
 have hF:=full_range n hn
 have hbig:(2:Nat) ^ n.toNat≤2 ^ 6:=Nat.pow_le_pow_right (by omega) (by omega)
 have hfN:=full_nat n
 constructor
 ·intro hx
  obtain ⟨f,hf,rfl⟩:=List.mem_map.1 hx
  have hfr:=hr f hf
  obtain ⟨m,rfl⟩:=Int.eq_ofNat_of_zero_le (show 0≤f by omega)
  have hlt:=img_lt hn ho m hfr.2.1
  have hne:imgN p (m:Int)≠0:=fun e=>by
   obtain ⟨v,hv⟩:=ones1 m (by omega)
   have hr2:=ord_rd ho _ (by omega:(0:Int)≤(v:Int)) (verts_lt hn m hfr.2.1 v hv)
   obtain ⟨j,hj⟩:=Int.eq_ofNat_of_zero_le hr2.1
   have:=(img_bits hn ho m hfr.2.1 j).2 ⟨v,hv,hj⟩
   rw[e] at this
   simp at this
  refine⟨⟨by omega,by omega⟩,?_⟩
  rw[List.any_eq_true]
  exact⟨_,hx,decide_eq_true ((and_sub _ _ (by omega) (by omega)).2 (fun _ h=>h))⟩
 ·rintro ⟨⟨h1,h2⟩,h3⟩
  obtain ⟨s,hs1,hs2⟩:=List.any_eq_true.1 h3
  obtain ⟨f,hf,rfl⟩:=List.mem_map.1 hs1
  have hfr:=hr f hf
  obtain ⟨m,rfl⟩:=Int.eq_ofNat_of_zero_le (show 0≤f by omega)
  obtain ⟨y,rfl⟩:=Int.eq_ofNat_of_zero_le (show 0≤x by omega)
  have hlt:=img_lt hn ho m hfr.2.1
  have hsub:=(and_sub y (imgN p (m:Int)) (by omega) (by omega)).1 (of_decide_eq_true hs2)
  obtain ⟨g,hg⟩:∃ g,g=orN ((verts (m:Int)).filter fun v=>y.testBit (rd p v).toNat):=⟨_,rfl⟩
  have hgv:∀ v ∈ ((verts (m:Int)).filter fun v=>y.testBit (rd p v).toNat),0≤v∧v<6:=fun v hv=>verts_range _ v (List.mem_filter.1 hv).1
  have hgb:∀ v:Nat,g.testBit v=true↔m.testBit v=true∧y.testBit (rd p (v:Int)).toNat=true:=fun v=>by
   rw[hg,orN_bits _ (fun x hx=>(hgv x hx).1),decide_eq_true_eq,List.mem_filter,mem_verts m (by omega)]
  have hg64:g<64:=by rw[hg];exact orN_lt 6 _ hgv
  have hgm:∀ v,g.testBit v=true→m.testBit v=true:=fun v h=>((hgb v).1 h).1
  have hin:inB (g:Int) (m:Int)=true:=by
   rw[inB_is _ _ (by omega) (by omega)]
   exact decide_eq_true ((and_sub g m hg64 (by omega)).2 hgm)
  have hback:∀ j:Nat,y.testBit j=true→∃ v:Nat,g.testBit v=true∧rd p (v:Int)=(j:Int):=fun j hj=>by
   obtain ⟨v,hv,e⟩:=(img_bits hn ho m hfr.2.1 j).1 (hsub j hj)
   exact⟨v,(hgb v).2 ⟨hv,by rw[e];simpa using hj⟩,e⟩
  have hg1:1≤g:=by
   apply Nat.pos_of_ne_zero
   intro e
   obtain ⟨j,hj⟩:=ones1 y (by omega)
   obtain ⟨v,hv,_⟩:=hback j hj
   rw[e] at hv
   simp at hv
  have hgl:(g:Int) ∈ l:=sub_mem hi (g:Int) ⟨by omega,by omega⟩ 6 (m:Int) hf hin (by have:=ones_le (m:Int);have:=ones_le (g:Int);omega)
  have hgf:=(hr _ hgl).2.1
  refine List.mem_map.2 ⟨(g:Int),hgl,?_⟩
  have:imgN p (g:Int)=y:=Nat.eq_of_testBit_eq fun j=>by
   rw[Bool.eq_iff_iff,img_bits hn ho g hgf j]
   constructor
   ·rintro ⟨v,hv,e⟩
    have:=((hgb v).1 hv).2
    rw[e] at this
    simpa using this
   ·exact hback j
  rw[this]
theorem img_nodup {n:Int} {l p:List Int} (hi:isC n l=true) (ho:ordB n p=true):(l.map (fun f=>(imgN p f:Int))).Nodup:=by
 obtain ⟨hn,hs,hr,h63⟩:=isC_faces hi
 rw[List.nodup_iff_pairwise_ne,List.pairwise_map,List.pairwise_iff_getElem]
 intro i j hi2 hj hij e
 have h1:=hr _ (List.getElem_mem hi2)
 have h2:=hr _ (List.getElem_mem hj)
 have h3:=List.pairwise_iff_getElem.1 hs i j hi2 hj hij
 obtain ⟨a,ha⟩:=Int.eq_ofNat_of_zero_le (show 0≤l[i] by omega)
 obtain ⟨b,hb⟩:=Int.eq_ofNat_of_zero_le (show 0≤l[j] by omega)
 rw[ha,hb] at e
 have:=img_inj hn ho a b (by rw[← ha];exact h1.2.1) (by rw[← hb];exact h2.2.1) (by exact_mod_cast e)
 omega
end Go.Proofs.YtlhkdbkjafiikaaGreat.K
end

section
namespace Go.Proofs.YtlhkdbkjafiikaaGreat.K
open Go.RowKit Go.Shelf Go.Proofs.YtlhkdbkjafiikaaGreatW.PrintWords Go.Proofs.YtlhkdbkjafiikaaGreatW.PrintLast Go.Proofs.YtlhkdbkjafiikaaGreatW.PrintMore
set_option linter.unusedVariables false
set_option linter.unusedSimpArgs false
theorem always_calls (w:World):Calls Tryz.prog 73 #[] w fun e w'=>e = .returned (.bool true)∧Grew w w':=by
 go_enter Tryz.func73,Tryz.ntmps73
 go_wp2_with fail
 go_ret
 exact⟨rfl,Grew.refl w⟩
theorem always_answers (w:World):Answers w 73 (#[] ++ #[]) (.bool true):=fun W _=>always_calls W
def codeOf (n:Int) (l:List Int) (b:Bool):Int:=if isC n l then (if b then 0 else 2) else 1
theorem codeOf_zero {n:Int} {l:List Int} {b:Bool} (h:codeOf n l b=0):isC n l=true∧b=true:=by
 unfold codeOf at h
 cases hi:isC n l <;> cases b <;> simp [hi] at h ⊢
set_option maxHeartbeats 1000000 in
theorem complexCode_calls (b:Bool) (n:Int) (A:Option Addr) (c:Nat) (l:List Int) (g:Nat) (first caps:Array Value) (w:World) (hk:Kx w A c l) (eg:EntersG g)
  (ha:isC n l=true→Answers w g (first ++ caps) (.bool b)) :
  Calls Tryz.prog 52 #[.agg #[I n,.slice A l.length c],.func (.func g) first caps] w fun e w'=>e = .returned (I (codeOf n l b))∧Grew w w':=by
 have hg:Grew w (w.alloc (.cells #[I n,.slice A l.length c] 26)):=below_alloc (Grew.refl w) _
 have H:=Aside0.mk (IsComplex_calls n A c l _ (hk.later hg).r hk.c hk.b)
 have HA:=Aside0.mk ha
 have HG:=Aside0.mk hg
 clear hk ha hg
 obtain ⟨i,hi⟩:∃ i,i=isC n l:=⟨_,rfl⟩
 rw[← hi] at H
 cases i with
 |false=>
  have HV:Aside0 (codeOf n l b=1):=⟨by simp [codeOf,← hi]⟩
  clear hi
  go_enter Tryz.func52,Tryz.ntmps52
  go_wp2_with fail
  refine H.out.mono ?_
  rintro e w1 ⟨rfl,hG1⟩
  go_wp2_with fail
  go_ret
  exact⟨by rw[HV.out];rfl,Grew.trans HG.out hG1⟩
 |true=>
  have HA2:=Aside0.mk (HA.out hi.symm)
  have HI:=Aside0.mk hi
  clear hi HA
  cases b with
  |false=>
   have HV:Aside0 (codeOf n l false=2):=⟨by simp [codeOf,← HI.out]⟩
   go_enter Tryz.func52,Tryz.ntmps52
   go_wp2_with fail
   refine H.out.mono ?_
   rintro e w1 ⟨rfl,hG1⟩
   have HG1:=Aside0.mk (Grew.trans HG.out hG1)
   have hcall:=HA2.out w1 HG1.out
   clear hG1
   go_wp2_with fail
   refine hcall.mono ?_
   rintro e w2 ⟨rfl,hG2⟩
   clear hcall
   go_wp2_with fail
   go_ret
   exact⟨by rw[HV.out];rfl,Grew.trans HG1.out hG2⟩
  |true=>
   have HV:Aside0 (codeOf n l true=0):=⟨by simp [codeOf,← HI.out]⟩
   go_enter Tryz.func52,Tryz.ntmps52
   go_wp2_with fail
   refine H.out.mono ?_
   rintro e w1 ⟨rfl,hG1⟩
   have HG1:=Aside0.mk (Grew.trans HG.out hG1)
   have hcall:=HA2.out w1 HG1.out
   clear hG1
   go_wp2_with fail
   refine hcall.mono ?_
   rintro e w2 ⟨rfl,hG2⟩
   clear hcall
   go_wp2_with fail
   go_ret
   exact⟨by rw[HV.out];rfl,Grew.trans HG1.out hG2⟩
end Go.Proofs.YtlhkdbkjafiikaaGreat.K
end

section
namespace Go.Proofs.YtlhkdbkjafiikaaGreat.Q
open Go.RowKit Go.Proofs.YtlhkdbkjafiikaaGreatW.PrintWords Go.Proofs.YtlhkdbkjafiikaaGreatW.PrintLast Go.Proofs.YtlhkdbkjafiikaaGreatW.PrintMore
attribute [local go_sem] max2_int min2_int max_two min_two max_three min_three max_four min_four
set_option linter.unusedVariables false
set_option linter.unusedSimpArgs false
def spec_l01Order.l0:Nat→List Int→Int→List Bool→Int→Option (Bool)
 |0,_,_,_,_=>none
 |k+1,x0,x1,x5,x6=>if x6<(x0.length:Int) then (if 0≤x6 then ((spec_l01In.f (rd x0 x6) 0 (wrap64 (x1 - 1))).bind fun t220=>(if t220=true then (if 0≤(rd x0 x6) then (if (rd x0 x6)<(x5.length:Int) then (if rdOf false x5 (rd x0 x6)=true then (some false) else (spec_l01Order.l0 k x0 x1 (x5.set ((rd x0 x6):Int).toNat true) (wrap64 (x6+1)))) else (none)) else (none)) else (some false))) else (none)) else (some ((x0.length:Int) == x1))
def spec_l01Order.f (k:Nat) (l0:List Int) (a1:Int):Option (Bool):=if 0≤a1 then (if (a1:Int).toNat≤281474976710656 then (spec_l01Order.l0 k l0 a1 (List.replicate (a1:Int).toNat false) 0) else (none)) else (none)
theorem spec_l01Order.mono_l:∀ k,(∀ y0 y1 y2 y3,LeO (spec_l01Order.l0 k y0 y1 y2 y3) (spec_l01Order.l0 (k+1) y0 y1 y2 y3))
 |0=>fun _ _ _ _ r h=>by simp [spec_l01Order.l0] at h
 |k+1=>by
  have ih0:=spec_l01Order.mono_l k
  ·intro y0 y1 y2 y3;unfold spec_l01Order.l0;repeat' first
   |(with_reducible first|exact ih0 _ _ _ _|exact LeO.refl _|exact LeO.none _|refine LeO.ite ?_ ?_|refine LeO.bind ?_ (fun _=>?_))
theorem spec_l01Order.mono:∀ a0 a1 k,LeO (spec_l01Order.f k a0 a1) (spec_l01Order.f (k+1) a0 a1):=by
 intro a0 a1 k;have ih0:=spec_l01Order.mono_l k;unfold spec_l01Order.f;repeat' first
   |(with_reducible first|exact ih0 _ _ _ _|exact LeO.refl _|exact LeO.none _|refine LeO.ite ?_ ?_|refine LeO.bind ?_ (fun _=>?_))
set_option maxHeartbeats 8000000 in
set_option maxRecDepth 100000 in
theorem spec_l01Order.calls (k:Nat) (A0:Option Addr) (c0:Nat) (l0:List Int) (a1:Int) (r:Bool) (w:World) (hr0:Kd.C (Kd.int .i64) w A0 l0.length l0) (hc0:l0.length≤c0) (h:spec_l01Order.f k l0 a1=some r) :
  Calls Tryz.prog 86 #[.slice A0 l0.length c0,.int .i64 a1] w fun e w'=>e = .returned (.bool r)∧Below w.heap.size w w':=by
 have HR0:=Aside0.mk hr0;have HC0:=Aside0.mk hc0;clear hr0 hc0;have HB:=Aside0.mk (Below.refl w.heap.size w);have H:(if 0≤a1 then (if (a1:Int).toNat≤281474976710656 then (spec_l01Order.l0 k l0 a1 (List.replicate (a1:Int).toNat false) 0) else (none)) else (none))=some r:=h;clear h;by_cases c3:0≤a1
 ·rw[if_pos c3] at H;have c3b0:=eq_true c3;have c3b1:decide (0≤a1)=true:=decide_eq_true c3;clear c3;by_cases c4:(a1:Int).toNat≤281474976710656
  ·rw[if_pos c4] at H;have c4b0:=eq_true c4;have c4b1:decide ((a1:Int).toNat≤281474976710656)=true:=decide_eq_true c4;clear c4;obtain ⟨y216,hy216⟩:∃ y_:List Bool,y_=(List.replicate (a1:Int).toNat false):=⟨_,rfl⟩
   replace H:(spec_l01Order.l0 k l0 a1 y216 0)=some r:=by first|(rw[hy216];with_reducible exact H)|(have H2_:=(Option.bind_some _ _).symm.trans H;rw[hy216];with_reducible exact H2_)|(have H2_:=(Option.bind_some _ _).symm.trans H;with_reducible exact H2_)|with_reducible exact H|(rw[hy216];exact H)|exact H
   have Ny216:=Aside0.mk hy216;clear hy216;have H':=Aside0.mk H;clear H;go_enter Tryz.func86,Tryz.ntmps86;go_wp2_with (first|((with_reducible refine gate_dst (N:=8) rfl ?_);refine Kd.R_make Kd.bool _ 4 rfl (N:=8) rfl 101 _ _ rfl a1 rfl rfl Tryz.underlying101 (.bool false) 1 info4 rfl (by decide) (by omega) false (ok:=fun _=>True) (okp:=fun _=>True) rfl (fun _ hk=>hk) trivial (dd) (Nat.le_trans (Nat.mul_le_mul_right _ (dd:a1.toNat≤281474976710656)) (by omega)) (Below.refl _ _) (Nat.le_refl _) ?_;intro v217 w5 ho6 hb hg_ hnew_;clear hg_ hnew_;(first|rw[← Ny216.out] at ho6|(simp only [Int.reduceToNat] at ho6;rw[← Ny216.out] at ho6));have HO218:=klA ho6 HB;replace HB:=bsA HB hb;clear hb ho6))
   go_loopg [6] k (fun kq v6 w'=>∃(x5_1:List Bool) (x6_1:Int),v6 = .int .i64 x6_1∧Aside0 (spec_l01Order.l0 kq l0 a1 x5_1 x6_1=some r)∧Aside0 (kq≤k)∧Aside0 (Kd.R Kd.bool 4 w' w.heap.size (fun _=>True) v217 x5_1)∧Aside0 (Below w.heap.size w w'))
   case atStart=>exact⟨(y216),(0),rs,H',⟨Nat.le_refl _⟩,⟨kr HO218.out⟩,⟨bl HB.out⟩⟩
   case round=>
    clear H';try clear p2
    try clear c3
    try clear c3b0
    try clear c3b1
    try clear c4
    try clear c4b0
    try clear c4b1
    obtain ⟨x5_1,x6_1,rfl,HA,HK1,HO_5,HB⟩:=hrel;cases gk with
    |zero=>exact absurd HA.out (by simp [spec_l01Order.l0])
    |succ k1=>
     have H:=HA.out;clear HA;simp only [spec_l01Order.l0] at H;by_cases c7:x6_1<(l0.length:Int)
     ·rw[if_pos c7] at H;have c7b0:decide (x6_1<(l0.length:Int))=true:=decide_eq_true c7;clear c7;by_cases c8:0≤x6_1
      ·rw[if_pos c8] at H;have c8b0:decide (0≤x6_1)=true:=decide_eq_true c8;clear c8;replace H:=Option.bind_eq_some_iff.mp H;obtain ⟨t220,A90,H⟩:=H;replace H:(if t220=true then (if 0≤(rd l0 x6_1) then (if (rd l0 x6_1)<(x5_1.length:Int) then (if rdOf false x5_1 (rd l0 x6_1)=true then (some false) else (spec_l01Order.l0 k1 l0 a1 (x5_1.set ((rd l0 x6_1):Int).toNat true) (wrap64 (x6_1+1)))) else (none)) else (none)) else (some false))=some r:=H;have A9:=Aside0.mk A90;clear A90;by_cases c10:t220=true
       ·subst c10;have H1:(if 0≤(rd l0 x6_1) then (if (rd l0 x6_1)<(x5_1.length:Int) then (if rdOf false x5_1 (rd l0 x6_1)=true then (some false) else (spec_l01Order.l0 k1 l0 a1 (x5_1.set ((rd l0 x6_1):Int).toNat true) (wrap64 (x6_1+1)))) else (none)) else (none))=some r:=by rw[if_pos rfl] at H;exact H
        clear H;have H:=H1;clear H1;by_cases c11:0≤(rd l0 x6_1)
        ·rw[if_pos c11] at H;have c11b0:decide (0≤(rd l0 x6_1))=true:=decide_eq_true c11;clear c11;by_cases c12:(rd l0 x6_1)<(x5_1.length:Int)
         ·rw[if_pos c12] at H;have c12b0:decide ((rd l0 x6_1)<(x5_1.length:Int))=true:=decide_eq_true c12;clear c12;obtain ⟨bq13,hbq13⟩:∃ b_:Bool,b_=(rdOf false x5_1 (rd l0 x6_1)):=⟨_,rfl⟩
          replace H:(if bq13=true then (some false) else (spec_l01Order.l0 k1 l0 a1 (x5_1.set ((rd l0 x6_1):Int).toNat true) (wrap64 (x6_1+1))))=some r:=by rw[← hbq13] at H;exact H
          have Nbq13:=Aside0.mk hbq13;clear hbq13;by_cases c14:bq13=true
          ·subst c14;have H1:(some false)=some r:=by rw[if_pos rfl] at H;exact H
           clear H;have H:=H1;clear H1;obtain rfl:=Option.some.inj H;have p219:0≤(x6_1:Int):=dd;have q219:x6_1<(l0.length:Int):=dd;obtain ⟨ad219,e219,hx219_0⟩:=Kd.at_int HR0.out x6_1 p219 q219;cases e219;replace hx219_0:=hx_ HB hx219_0;replace p219:=eq_true p219;replace q219:=eq_true q219;go_wp2_with (first|((with_reducible refine gate_callee (f:=95) rfl ?_);refine gl (some 21) Tryz.func95 #[.int .i64 (rd l0 x6_1),.int .i64 0,.int .i64 (wrap64 (a1 - 1))] ?_;(with_reducible refine(spec_l01In.calls (rd l0 x6_1) 0 (wrap64 (a1 - 1)) true _ A9.out).mono ?_);rintro e w' ⟨rfl,⟨nd,rfl⟩⟩;refine⟨_,rfl,?_⟩;have p221:0≤(x6_1:Int):=dd;have q221:x6_1<(l0.length:Int):=dd;obtain ⟨ad221,e221,hx221_0⟩:=Kd.at_int HR0.out x6_1 p221 q221;obtain rfl:ad219=ad221:=(by injection e221);replace hx221_0:=hx_ HB hx221_0;replace p221:=eq_true p221;replace q221:=eq_true q221;obtain ⟨Ao15,co15,eo15⟩:=Kd.R_slice HO_5.out;subst eo15;have p222:0≤((rd l0 x6_1):Int):=dd;have q222:(rd l0 x6_1)<(x5_1.length:Int):=dd;obtain ⟨ad222,e222,hx222_0⟩:=Kd.at_bool (Kd.R_reads' HO_5.out).2.2 (rd l0 x6_1) p222 q222;(try rw[← Nbq13.out] at hx222_0);cases e222;replace p222:=eq_true p222;replace q222:=eq_true q222))
           go_ret;exact⟨rr,bl HB.out⟩
          ·replace c14:=Bool.eq_false_iff.mpr c14;subst c14;have H1:(spec_l01Order.l0 k1 l0 a1 (x5_1.set ((rd l0 x6_1):Int).toNat true) (wrap64 (x6_1+1)))=some r:=by rw[if_neg (show ¬ (false=true) by decide)] at H;exact H
           clear H;have H:=H1;clear H1;obtain ⟨y224,hy224⟩:∃ y_:List Bool,y_=(x5_1.set ((rd l0 x6_1):Int).toNat true):=⟨_,rfl⟩
           replace H:(spec_l01Order.l0 k1 l0 a1 y224 (wrap64 (x6_1+1)))=some r:=by first|(rw[hy224];with_reducible exact H)|(have H2_:=(Option.bind_some _ _).symm.trans H;rw[hy224];with_reducible exact H2_)|(have H2_:=(Option.bind_some _ _).symm.trans H;with_reducible exact H2_)|with_reducible exact H|(rw[hy224];exact H)|exact H
           have Ny224:=Aside0.mk hy224;clear hy224;have H':=Aside0.mk H;clear H;have p219:0≤(x6_1:Int):=dd;have q219:x6_1<(l0.length:Int):=dd;obtain ⟨ad219,e219,hx219_0⟩:=Kd.at_int HR0.out x6_1 p219 q219;cases e219;replace hx219_0:=hx_ HB hx219_0;replace p219:=eq_true p219;replace q219:=eq_true q219;go_wp2_with (first|((with_reducible refine gate_callee (f:=95) rfl ?_);refine gl (some 21) Tryz.func95 #[.int .i64 (rd l0 x6_1),.int .i64 0,.int .i64 (wrap64 (a1 - 1))] ?_;(with_reducible refine(spec_l01In.calls (rd l0 x6_1) 0 (wrap64 (a1 - 1)) true _ A9.out).mono ?_);rintro e w' ⟨rfl,⟨nd,rfl⟩⟩;refine⟨_,rfl,?_⟩;(try(rw[drewN_self wr];generalize hq_:World.drewN wr _=wr;have n0_:Aside0 (Kd.R Kd.bool 4 wr w.heap.size (fun _=>True) v217 x5_1):=⟨by rw[← hq_];exact(kr HO_5.out)⟩;have n1_:Aside0 (Below w.heap.size w wr):=⟨by rw[← hq_];exact(bl HB.out)⟩;clear HO_5 HB hq_;have HO_5:=n0_;have HB:=n1_;clear n0_ n1_));have p221:0≤(x6_1:Int):=dd;have q221:x6_1<(l0.length:Int):=dd;obtain ⟨ad221,e221,hx221_0⟩:=Kd.at_int HR0.out x6_1 p221 q221;obtain rfl:ad219=ad221:=(by injection e221);replace hx221_0:=hx_ HB hx221_0;replace p221:=eq_true p221;replace q221:=eq_true q221;obtain ⟨Ao17,co17,eo17⟩:=Kd.R_slice HO_5.out;subst eo17;have p222:0≤((rd l0 x6_1):Int):=dd;have q222:(rd l0 x6_1)<(x5_1.length:Int):=dd;obtain ⟨ad222,e222,hx222_0⟩:=Kd.at_bool (Kd.R_reads' HO_5.out).2.2 (rd l0 x6_1) p222 q222;(try rw[← Nbq13.out] at hx222_0);cases e222;replace p222:=eq_true p222;replace q222:=eq_true q222;have p223:0≤(x6_1:Int):=dd;have q223:x6_1<(l0.length:Int):=dd;obtain ⟨ad223,e223,hx223_0⟩:=Kd.at_int HR0.out x6_1 p223 q223;obtain rfl:ad219=ad223:=(by injection e223);replace hx223_0:=hx_ HB hx223_0;replace p223:=eq_true p223;replace q223:=eq_true q223;have p16:0≤((rd l0 x6_1):Int):=dd;have q16:((rd l0 x6_1):Int)<((x5_1.length:Int):Int):=dd;obtain ⟨go16,co16,eo16,gb16,gl16,cl16,HG16⟩:=Kd.R_form HO_5.out (by omega);(first|cases eo16|(injection eo16 with ea_ en_ ec_;(first|subst ea_|(injection ea_ with ea_;subst ea_));subst ec_;clear en_));have GB16:=Aside0.mk gb16;have GG16:=Aside0.mk HG16;clear gb16 gl16 HG16;(first|simp only [add_plain] at hx222_0|skip);obtain ⟨hx16_0,hf16_0⟩:=Kd.R_celln false HO_5.out ((rd l0 x6_1):Int) p16 q16;replace p16:=eq_true p16;replace q16:=eq_true q16;obtain ⟨hy18_,hz18_⟩:=Kd.R_celln false HO_5.out ((rd l0 x6_1):Int) (dd) (dd);have HP18:=Kd.R_putg HO_5.out ((rd l0 x6_1):Int) true)|((with_reducible refine gate_store (t:=4) (p:=37) rfl ?_);refine store_event (t:=4) (p:=37) (v:=?vo_w19) (w1:=(wr.setCell ⟨go16,((rd l0 x6_1):Int).toNat,none⟩ (.bool true))) ?hg ?ho ?hn ?hr ?_;(case ho=>rfl);(case hg=>rfl);(case hn=>rfl);(case hr=>first|(go_simp;done)|(go_simp;rfl));intro w19 hw;have hg:wr.grownBy w19 (some go16):=(by rw[hw];exact HP18.2);have hp_:Kd.R Kd.bool 4 w19 w.heap.size (fun _=>True) (.slice (some ⟨go16,0,none⟩) x5_1.length co17) y224:=(by rw[hw,Ny224.out];exact HP18.1);clear HP18;replace HO_5:=Aside0.mk (hp_);replace HB:=Aside0.mk ((by rw[hw];exact below_set (HB.out) GB16.out:Below w.heap.size w w19));clear hg hw hp_))
           go_roundg k1
           case measure=>have:=HK1.out;omega
           case rel=>exact⟨(y224),(wrap64 (x6_1+1)),rs,H',⟨by have:=HK1.out;omega⟩,⟨kr HO_5.out⟩,⟨bl HB.out⟩⟩
         ·rw[if_neg c12] at H;exact absurd H (by simp)
        ·rw[if_neg c11] at H;exact absurd H (by simp)
       ·replace c10:=Bool.eq_false_iff.mpr c10;subst c10;have H1:(some false)=some r:=by rw[if_neg (show ¬ (false=true) by decide)] at H;exact H
        clear H;have H:=H1;clear H1;obtain rfl:=Option.some.inj H;have p219:0≤(x6_1:Int):=dd;have q219:x6_1<(l0.length:Int):=dd;obtain ⟨ad219,e219,hx219_0⟩:=Kd.at_int HR0.out x6_1 p219 q219;cases e219;replace hx219_0:=hx_ HB hx219_0;replace p219:=eq_true p219;replace q219:=eq_true q219;go_wp2_with (first|((with_reducible refine gate_callee (f:=95) rfl ?_);refine gl (some 21) Tryz.func95 #[.int .i64 (rd l0 x6_1),.int .i64 0,.int .i64 (wrap64 (a1 - 1))] ?_;(with_reducible refine(spec_l01In.calls (rd l0 x6_1) 0 (wrap64 (a1 - 1)) false _ A9.out).mono ?_);rintro e w' ⟨rfl,⟨nd,rfl⟩⟩;refine⟨_,rfl,?_⟩))
        go_ret;exact⟨rr,bl HB.out⟩
      ·rw[if_neg c8] at H;exact absurd H (by simp)
     ·rw[if_neg c7] at H;have c7b0:decide (x6_1<(l0.length:Int))=false:=decide_eq_false c7;clear c7;obtain rfl:=Option.some.inj H;go_wp2
      go_ret;exact⟨rr,bl HB.out⟩
  ·rw[if_neg c4] at H;exact absurd H (by simp)
 ·rw[if_neg c3] at H;exact absurd H (by simp)
end Go.Proofs.YtlhkdbkjafiikaaGreat.Q
end

section
namespace Go.Proofs.YtlhkdbkjafiikaaGreat.Q
open Go.RowKit Go.Proofs.YtlhkdbkjafiikaaGreatW.PrintWords Go.Proofs.YtlhkdbkjafiikaaGreatW.PrintLast Go.Proofs.YtlhkdbkjafiikaaGreatW.PrintMore
attribute [local go_sem] max2_int min2_int max_two min_two max_three min_three max_four min_four
set_option linter.unusedVariables false
set_option linter.unusedSimpArgs false
def spec_l01Renamed.l0:Nat→List Int→List Int→Int→Int→List Int→Option (Int×List Int)
 |0,_,_,_,_,_=>none
 |k+1,x1,x5,x6,x237000,x237001=>if x6<(x237001.length:Int) then (if 0≤x6 then ((spec_l01Moved.f k (rd x237001 x6) x1).bind fun t242=>(if x5.length<17592186044416 then (spec_l01Renamed.l0 k x1 (x5 ++ [t242]) (wrap64 (x6+1)) x237000 x237001) else (none))) else (none)) else ((spec_l01Made.f k x237000 x5).bind fun bt246=>(some (bt246.1,bt246.2)))
def spec_l01Renamed.f (k:Nat) (a0_0:Int) (l0_1:List Int) (l1:List Int):Option (Int×List Int):=spec_l01Renamed.l0 k l1 (([]:List Int)) 0 a0_0 l0_1
theorem spec_l01Renamed.mono_l:∀ k,(∀ y0 y1 y2 y3 y4,LeO (spec_l01Renamed.l0 k y0 y1 y2 y3 y4) (spec_l01Renamed.l0 (k+1) y0 y1 y2 y3 y4))
 |0=>fun _ _ _ _ _ r h=>by simp [spec_l01Renamed.l0] at h
 |k+1=>by
  have ih0:=spec_l01Renamed.mono_l k
  ·intro y0 y1 y2 y3 y4;unfold spec_l01Renamed.l0;repeat' first
   |(with_reducible first|exact ih0 _ _ _ _ _|exact spec_l01Made.mono _ _ _|exact spec_l01Moved.mono _ _ _|exact LeO.refl _|exact LeO.none _|refine LeO.ite ?_ ?_|refine LeO.bind ?_ (fun _=>?_))
theorem spec_l01Renamed.mono:∀ a0 a1 a2 k,LeO (spec_l01Renamed.f k a0 a1 a2) (spec_l01Renamed.f (k+1) a0 a1 a2):=by
 intro a0 a1 a2 k;have ih0:=spec_l01Renamed.mono_l k;unfold spec_l01Renamed.f;repeat' first
   |(with_reducible first|exact ih0 _ _ _ _ _|exact spec_l01Made.mono _ _ _|exact spec_l01Moved.mono _ _ _|exact LeO.refl _|exact LeO.none _|refine LeO.ite ?_ ?_|refine LeO.bind ?_ (fun _=>?_))
set_option maxHeartbeats 8000000 in
set_option maxRecDepth 100000 in
theorem spec_l01Renamed.calls (k:Nat) (a0_0:Int) (A0_1:Option Addr) (c0_1:Nat) (l0_1:List Int) (A1:Option Addr) (c1:Nat) (l1:List Int) (r1:Int) (r2:List Int) (w:World) (hr0_1:Kd.C (Kd.int .i64) w A0_1 l0_1.length l0_1) (hc0_1:l0_1.length≤c0_1) (hr1:Kd.C (Kd.int .i64) w A1 l1.length l1) (hc1:l1.length≤c1) (h:spec_l01Renamed.f k a0_0 l0_1 l1=some (r1,r2)) :
  Calls Tryz.prog 87 #[.agg #[.int .i64 a0_0,.slice A0_1 l0_1.length c0_1],.slice A1 l1.length c1] w fun e w'=>∃ v1_:Value,e = .returned (.agg #[.int .i64 r1,v1_])∧Kd.R (Kd.int .i64) 2 w' w.heap.size (fun _=>True) v1_ r2∧Below w.heap.size w w':=by
 have hu26:=Tryz.underlying26;have HR0_1:=Aside0.mk hr0_1;have HC0_1:=Aside0.mk hc0_1;clear hr0_1 hc0_1;have HR1:=Aside0.mk hr1;have HC1:=Aside0.mk hc1;clear hr1 hc1;have HB:=Aside0.mk (Below.refl w.heap.size w);have H:(spec_l01Renamed.l0 k l1 (([]:List Int)) 0 a0_0 l0_1)=some (r1,r2):=h;clear h;obtain ⟨y238,hy238⟩:∃ y_:List Int,y_=(([]:List Int)):=⟨_,rfl⟩
 replace H:(spec_l01Renamed.l0 k l1 y238 0 a0_0 l0_1)=some (r1,r2):=by first|(rw[hy238];with_reducible exact H)|(have H2_:=(Option.bind_some _ _).symm.trans H;rw[hy238];with_reducible exact H2_)|(have H2_:=(Option.bind_some _ _).symm.trans H;with_reducible exact H2_)|with_reducible exact H|(rw[hy238];exact H)|exact H
 have Ny238:=Aside0.mk hy238;clear hy238;have H':=Aside0.mk H;clear H;go_enter Tryz.func87,Tryz.ntmps87;go_wp2_with (first|((with_reducible refine gate_dst (N:=2) rfl ?_);refine bx 2 #[.int .i64 a0_0,.slice A0_1 l0_1.length c0_1] 26 ?_;intro gb236 hg w3 hbox hb;have BK236:=Aside0.mk (hbox);have GE236:=gzA hg HB;replace HB:=bsA HB hb;clear hb hbox hg)|((with_reducible refine gate_dst (N:=4) rfl ?_);refine bx 4 #[.int .i64 0,.slice none 0 0] 26 ?_;intro gb237 hg w4 hbox hb;have BK237:=Aside0.mk (hbox);have GE237:=gzA hg HB;replace HB:=bsA HB hb;have NB236_237:=nlA hg BK236;have NB237_236:=ngA hg BK236;replace BK236:=bkA BK236 hb;clear hb hbox hg)|((with_reducible refine gate_dst (N:=7) rfl ?_);refine Kd.R_lit (Kd.int .i64) _ 2 ?hg (N:=7) ?hd (xs:=([]:List Int)) (inner:= []) (ok:=fun _=>True) (okp:=fun _=>True) ?hr ?hp (fun _ hk=>hk) trivial (Below.refl _ _) (Nat.le_refl _) (by simp) ?_;(case hd=>rfl);(case hg=>rfl);(case hr=>first|(go_simp;done)|(go_simp;rfl));(case hp=>exact(Reps.none _ _));intro v239 w5 ho6 hb hg_ hnew_;clear hg_ hnew_;(first|rw[← Ny238.out] at ho6|(simp only [Int.reduceToNat] at ho6;rw[← Ny238.out] at ho6));have HO240:=klA ho6 HB;replace BK236:=bkA BK236 hb;replace BK237:=bkA BK237 hb;replace HB:=bsA HB hb;clear hb ho6))
 go_loopg [5,6] k (fun kq v5 v6 w'=>∃(x5_1:List Int) (x6_1:Int),v6 = .int .i64 x6_1∧Aside0 (spec_l01Renamed.l0 kq l1 x5_1 x6_1 a0_0 l0_1=some (r1,r2))∧Aside0 (kq≤k)∧Aside0 (Kd.R (Kd.int .i64) 2 w' w.heap.size (fun _=>True) v5 x5_1)∧Aside0 (w'.heap[gb236]?=some (.cells #[.int .i64 a0_0,(.slice A0_1 l0_1.length c0_1)] 26 (0,0)))∧Aside0 (w'.heap[gb237]?=some (.cells #[.int .i64 0,(.slice none 0 0)] 26 (0,0)))∧Aside0 (Below w.heap.size w w'))
 case atStart=>exact⟨(y238),(0),rs,H',⟨Nat.le_refl _⟩,⟨kr HO240.out⟩,⟨bk BK236.out⟩,⟨bk BK237.out⟩,⟨bl HB.out⟩⟩
 case round=>
  clear H';try clear c1
  try clear p2
  obtain ⟨x5_1,x6_1,rfl,HA,HK1,HO_5,BK236,BK237,HB⟩:=hrel;cases gk with
  |zero=>exact absurd HA.out (by simp [spec_l01Renamed.l0])
  |succ k1=>
   have H:=HA.out;clear HA;simp only [spec_l01Renamed.l0] at H;by_cases c7:x6_1<(l0_1.length:Int)
   ·rw[if_pos c7] at H;have c7b0:decide (x6_1<(l0_1.length:Int))=true:=decide_eq_true c7;clear c7;by_cases c8:0≤x6_1
    ·rw[if_pos c8] at H;have c8b0:decide (0≤x6_1)=true:=decide_eq_true c8;clear c8;replace H:=Option.bind_eq_some_iff.mp H;obtain ⟨t242,A90,H⟩:=H;replace H:(if x5_1.length<17592186044416 then (spec_l01Renamed.l0 k1 l1 (x5_1 ++ [t242]) (wrap64 (x6_1+1)) a0_0 l0_1) else (none))=some (r1,r2):=H;have A9:=Aside0.mk A90;clear A90;by_cases c10:x5_1.length<17592186044416
     ·rw[if_pos c10] at H;have LMc10:=Aside0.mk c10;clear c10;obtain ⟨y243,hy243⟩:∃ y_:List Int,y_=(x5_1 ++ [t242]):=⟨_,rfl⟩
      replace H:(spec_l01Renamed.l0 k1 l1 y243 (wrap64 (x6_1+1)) a0_0 l0_1)=some (r1,r2):=by first|(rw[hy243];with_reducible exact H)|(have H2_:=(Option.bind_some _ _).symm.trans H;rw[hy243];with_reducible exact H2_)|(have H2_:=(Option.bind_some _ _).symm.trans H;with_reducible exact H2_)|with_reducible exact H|(rw[hy243];exact H)|exact H
      have Ny243:=Aside0.mk hy243;clear hy243;have H':=Aside0.mk H;clear H;have hnb11:=NB236_237.out;have hnc11:=NB237_236.out;have hcz12_0:=z0_ BK236;have hcz12_1:=z1_ BK236;have hfz12_0:=hf_ BK236 0;have hfz12_1:=hf_ BK236 1;have p241:0≤(x6_1:Int):=dd;have q241:x6_1<(l0_1.length:Int):=dd;obtain ⟨ad241,e241,hx241_0⟩:=Kd.at_int HR0_1.out x6_1 p241 q241;cases e241;replace hx241_0:=hx_ HB hx241_0;replace p241:=eq_true p241;replace q241:=eq_true q241;go_wp2_with (first|((with_reducible refine gate_callee (f:=134) rfl ?_);refine gl (some 22) Tryz.func134 #[.int .i64 (rd l0_1 x6_1),.slice A1 l1.length c1] ?_;(with_reducible refine(spec_l01Moved.calls k1 (rd l0_1 x6_1) _ _ l1 t242 _ (cb (Kd.C_below HR1.out HB.out)) HC1.out A9.out).mono ?_);rintro e w' ⟨rfl,⟨nd,rfl⟩⟩;refine⟨_,rfl,?_⟩)|((with_reducible refine gate_builtin (b:= .append) (xs:=#[.tmp 15,.tmp 23]) rfl ?_);at_builtin;refine Kd.R_append (Kd.int .i64) (w0:=w) w.heap.size rfl (.tmp 15) (.tmp 23) 24 2 (.int .i64 0) 8 rfl Tryz.underlying24 info2 rfl (by decide) (by omega) u5 x5_1 t242 [.int .i64 t242] (fun _=>True) (fun _=>False) rfl rfl ?aP (fun _ hk=>hk.elim) ?aF ?aO ?aB ?aS ?aL ?_;(case aP=>exact rfl);(case aB=>exact(bl HB.out));(case aF=>exact(fun _ _=>trivial));(case aO=>exact(kr HO_5.out));(case aS=>exact(below_size (bl HB.out)));(case aL=>have:=LMc10.out;omega);intro v244 w13 ho hb hg hat;rw[← Ny243.out] at ho;have n0_:=Aside0.mk (blk_grown (bk BK236.out) hg (Kd.R_ne HO_5.out BK236.out (by decide)));have n1_:=Aside0.mk (blk_grown (bk BK237.out) hg (Kd.R_ne HO_5.out BK237.out (by decide)));have n2_:=Aside0.mk (hb);have n3_:=Aside0.mk (ho);clear BK236;clear BK237;clear HB;clear HO_5;have BK236:=n0_;have BK237:=n1_;have HB:=n2_;have HO245:=n3_;clear n0_ n1_ n2_ n3_;clear ho hb hg hat))
      go_roundg k1
      case measure=>have:=HK1.out;omega
      case rel=>exact⟨(y243),(wrap64 (x6_1+1)),rs,H',⟨by have:=HK1.out;omega⟩,⟨kr HO245.out⟩,⟨bk BK236.out⟩,⟨bk BK237.out⟩,⟨bl HB.out⟩⟩
     ·rw[if_neg c10] at H;exact absurd H (by simp)
    ·rw[if_neg c8] at H;exact absurd H (by simp)
   ·rw[if_neg c7] at H;have c7b0:decide (x6_1<(l0_1.length:Int))=false:=decide_eq_false c7;clear c7;replace H:=Option.bind_eq_some_iff.mp H;obtain ⟨⟨t246,t247⟩,A140,H⟩:=H;replace H:(some (t246,t247))=some (r1,r2):=H;have A14:=Aside0.mk A140;clear A140;simp only [Option.some.injEq,Prod.mk.injEq] at H;obtain ⟨rfl,rfl⟩:=H;have hnb15:=NB236_237.out;have hnc15:=NB237_236.out;have hcz16_0:=z0_ BK236;have hcz16_1:=z1_ BK236;have hfz16_0:=hf_ BK236 0;have hfz16_1:=hf_ BK236 1;obtain ⟨Ao17,co17,eo17⟩:=Kd.R_slice HO_5.out;subst eo17;go_wp2_with (first|((with_reducible refine gate_callee (f:=124) rfl ?_);refine gl (some 28) Tryz.func124 #[.int .i64 a0_0,.slice Ao17 x5_1.length co17] ?_;(with_reducible refine(spec_l01Made.calls k1 a0_0 _ _ x5_1 t246 t247 _ (cb (Kd.R_reads' HO_5.out).2.2) ((Kd.R_reads' HO_5.out).2.1) A14.out).mono ?_);rintro e w18 ⟨v248,rfl,ho0,hb⟩;refine⟨_,rfl,?_⟩;have HO249:=Aside0.mk (Kd.R_lower (Kd.R_new' ho0 (Kd.R_lt (kr HO_5.out))) (below_size (bl HB.out)));replace HO_5:=Aside0.mk (Kd.R_elder' (kr HO_5.out) (Kd.R_base ho0) hb);replace BK236:=bkA BK236 hb;replace BK237:=bkA BK237 hb;replace HB:=bsA HB hb;(try clear hb);(try clear hb2);(try clear hk);(try clear hi);(try clear ho0);have hcz19_0:=z0_ BK237;have hcz19_1:=z1_ BK237;have hfz19_0:=hf_ BK237 0;have hfz19_1:=hf_ BK237 1;obtain ⟨Ao20,co20,eo20⟩:=Kd.R_slice HO249.out;subst eo20))
    refine bodyPost_ret (results_cell_row rfl _ _ gb237 26 #[.int .i64 t246,.slice Ao20 t247.length co20] (0,0) _ rfl (bp BK237.out) Tryz.underlying26 rfl (by kernel_rfl)) rfl ?_;exact⟨_,rr,by(with_reducible repeat(first|apply Kd.R_alloc|apply Kd.R_drewN|apply Kd.R_drew));exact Kd.R_mono (Kd.R_far (p:=⟨gb237,1,none⟩) (Kd.R_far (p:=⟨gb237,0,none⟩) (Kd.R_types HO249.out BK237.out (by decide)) (fun _ hk=>hk.2) (.int .i64 t246)) (fun _ hk=>hk.2) (.slice Ao20 t247.length co20)) (fun _ hk=>trivial),bl HB.out⟩
def spec_RenumberComplex.f (k:Nat) (a0_0:Int) (l0_1:List Int) (l1:List Int):Option (Int×List Int×Int):=(spec_l01Is.f k a0_0 l0_1).bind fun t252=>(if t252=true then ((spec_l01Order.f k l1 a0_0).bind fun t253=>(if t253=true then ((spec_l01Renamed.f k a0_0 l0_1 l1).bind fun bt254=>(some (bt254.1,bt254.2,0))) else (some (0,([]:List Int),2)))) else (some (0,([]:List Int),1)))
theorem spec_RenumberComplex.mono:∀ a0 a1 a2 k,LeO (spec_RenumberComplex.f k a0 a1 a2) (spec_RenumberComplex.f (k+1) a0 a1 a2):=by
 intro a0 a1 a2 k;unfold spec_RenumberComplex.f;repeat' first
   |(with_reducible first|exact spec_l01Is.mono _ _ _|exact spec_l01Order.mono _ _ _|exact spec_l01Renamed.mono _ _ _ _|exact LeO.refl _|exact LeO.none _|refine LeO.ite ?_ ?_|refine LeO.bind ?_ (fun _=>?_))
set_option maxHeartbeats 8000000 in
set_option maxRecDepth 100000 in
theorem spec_RenumberComplex.calls (k:Nat) (a0_0:Int) (A0_1:Option Addr) (c0_1:Nat) (l0_1:List Int) (A1:Option Addr) (c1:Nat) (l1:List Int) (r1:Int) (r2:List Int) (r3:Int) (w:World) (hr0_1:Kd.C (Kd.int .i64) w A0_1 l0_1.length l0_1) (hc0_1:l0_1.length≤c0_1) (hr1:Kd.C (Kd.int .i64) w A1 l1.length l1) (hc1:l1.length≤c1) (h:spec_RenumberComplex.f k a0_0 l0_1 l1=some (r1,r2,r3)) :
  Calls Tryz.prog 24 #[.agg #[.int .i64 a0_0,.slice A0_1 l0_1.length c0_1],.slice A1 l1.length c1] w fun e w'=>∃ v1_:Value,e = .returned (.tuple #[.agg #[.int .i64 r1,v1_],.int .i64 r3])∧Kd.R (Kd.int .i64) 2 w' w.heap.size (fun _=>True) v1_ r2∧Below w.heap.size w w':=by
 have hu26:=Tryz.underlying26;have HR0_1:=Aside0.mk hr0_1;have HC0_1:=Aside0.mk hc0_1;clear hr0_1 hc0_1;have HR1:=Aside0.mk hr1;have HC1:=Aside0.mk hc1;clear hr1 hc1;have HB:=Aside0.mk (Below.refl w.heap.size w);have H:((spec_l01Is.f k a0_0 l0_1).bind fun t252=>(if t252=true then ((spec_l01Order.f k l1 a0_0).bind fun t253=>(if t253=true then ((spec_l01Renamed.f k a0_0 l0_1 l1).bind fun bt254=>(some (bt254.1,bt254.2,0))) else (some (0,([]:List Int),2)))) else (some (0,([]:List Int),1))))=some (r1,r2,r3):=h;clear h;replace H:=Option.bind_eq_some_iff.mp H;obtain ⟨t252,A30,H⟩:=H;replace H:(if t252=true then ((spec_l01Order.f k l1 a0_0).bind fun t253=>(if t253=true then ((spec_l01Renamed.f k a0_0 l0_1 l1).bind fun bt254=>(some (bt254.1,bt254.2,0))) else (some (0,([]:List Int),2)))) else (some (0,([]:List Int),1)))=some (r1,r2,r3):=H;have A3:=Aside0.mk A30;clear A30;by_cases c4:t252=true
 ·subst c4;have H1:((spec_l01Order.f k l1 a0_0).bind fun t253=>(if t253=true then ((spec_l01Renamed.f k a0_0 l0_1 l1).bind fun bt254=>(some (bt254.1,bt254.2,0))) else (some (0,([]:List Int),2))))=some (r1,r2,r3):=by rw[if_pos rfl] at H;exact H
  clear H;have H:=H1;clear H1;replace H:=Option.bind_eq_some_iff.mp H;obtain ⟨t253,A50,H⟩:=H;replace H:(if t253=true then ((spec_l01Renamed.f k a0_0 l0_1 l1).bind fun bt254=>(some (bt254.1,bt254.2,0))) else (some (0,([]:List Int),2)))=some (r1,r2,r3):=H;have A5:=Aside0.mk A50;clear A50;by_cases c6:t253=true
  ·subst c6;have H1:((spec_l01Renamed.f k a0_0 l0_1 l1).bind fun bt254=>(some (bt254.1,bt254.2,0)))=some (r1,r2,r3):=by rw[if_pos rfl] at H;exact H
   clear H;have H:=H1;clear H1;replace H:=Option.bind_eq_some_iff.mp H;obtain ⟨⟨t254,t255⟩,A70,H⟩:=H;replace H:(some (t254,t255,0))=some (r1,r2,r3):=H;have A7:=Aside0.mk A70;clear A70;simp only [Option.some.injEq,Prod.mk.injEq] at H;obtain ⟨rfl,rfl,rfl⟩:=H;go_enter Tryz.func24,Tryz.ntmps24;go_wp2_with (first|((with_reducible refine gate_dst (N:=2) rfl ?_);refine bx 2 #[.int .i64 a0_0,.slice A0_1 l0_1.length c0_1] 26 ?_;intro gb250 hg w8 hbox hb;have BK250:=Aside0.mk (hbox);have GE250:=gzA hg HB;replace HB:=bsA HB hb;clear hb hbox hg)|((with_reducible refine gate_dst (N:=4) rfl ?_);refine bx 4 #[.int .i64 0,.slice none 0 0] 26 ?_;intro gb251 hg w9 hbox hb;have BK251:=Aside0.mk (hbox);have GE251:=gzA hg HB;replace HB:=bsA HB hb;have NB250_251:=nlA hg BK250;have NB251_250:=ngA hg BK250;replace BK250:=bkA BK250 hb;clear hb hbox hg;have hnb10:=NB250_251.out;have hnc10:=NB251_250.out;have hcz11_0:=z0_ BK250;have hcz11_1:=z1_ BK250;have hfz11_0:=hf_ BK250 0;have hfz11_1:=hf_ BK250 1)|((with_reducible refine gate_callee (f:=71) rfl ?_);refine gl (some 8) Tryz.func71 #[.agg #[.int .i64 a0_0,.slice A0_1 l0_1.length c0_1]] ?_;(with_reducible refine(spec_l01Is.calls k a0_0 _ _ l0_1 true _ (cb (Kd.C_below HR0_1.out HB.out)) HC0_1.out A3.out).mono ?_);rintro e w12 ⟨rfl,hb⟩;refine⟨_,rfl,?_⟩;replace BK250:=bkA BK250 hb;replace BK251:=bkA BK251 hb;replace HB:=bsA HB hb;(try clear hb);(try clear hb2);(try clear hk);(try clear hi);have hcz13_0:=z0_ BK250;have hcz13_1:=z1_ BK250;have hfz13_0:=hf_ BK250 0;have hfz13_1:=hf_ BK250 1)|((with_reducible refine gate_callee (f:=86) rfl ?_);refine gl (some 15) Tryz.func86 #[.slice A1 l1.length c1,.int .i64 a0_0] ?_;(with_reducible refine(spec_l01Order.calls k _ _ l1 a0_0 true _ (cb (Kd.C_below HR1.out HB.out)) HC1.out A5.out).mono ?_);rintro e w14 ⟨rfl,hb⟩;refine⟨_,rfl,?_⟩;replace BK250:=bkA BK250 hb;replace BK251:=bkA BK251 hb;replace HB:=bsA HB hb;(try clear hb);(try clear hb2);(try clear hk);(try clear hi);have hcz15_0:=z0_ BK250;have hcz15_1:=z1_ BK250;have hfz15_0:=hf_ BK250 0;have hfz15_1:=hf_ BK250 1)|((with_reducible refine gate_callee (f:=87) rfl ?_);refine gl (some 20) Tryz.func87 #[.agg #[.int .i64 a0_0,.slice A0_1 l0_1.length c0_1],.slice A1 l1.length c1] ?_;(with_reducible refine(spec_l01Renamed.calls k a0_0 _ _ l0_1 _ _ l1 t254 t255 _ (cb (Kd.C_below HR0_1.out HB.out)) HC0_1.out (cb (Kd.C_below HR1.out HB.out)) HC1.out A7.out).mono ?_);rintro e w16 ⟨v256,rfl,ho0,hb⟩;refine⟨_,rfl,?_⟩;have HO257:=klA ho0 HB;replace BK250:=bkA BK250 hb;replace BK251:=bkA BK251 hb;replace HB:=bsA HB hb;(try clear hb);(try clear hb2);(try clear hk);(try clear hi);(try clear ho0);have hcz17_0:=z0_ BK251;have hcz17_1:=z1_ BK251;have hfz17_0:=hf_ BK251 0;have hfz17_1:=hf_ BK251 1;obtain ⟨Ao18,co18,eo18⟩:=Kd.R_slice HO257.out;subst eo18))
   refine bodyPost_ret (results_ct rfl _ _ gb251 26 #[.int .i64 t254,.slice Ao18 t255.length co18] (0,0) _ rfl (bp BK251.out) Tryz.underlying26 rfl (by kernel_rfl)) rfl ?_;exact⟨_,rr,by(with_reducible repeat(first|apply Kd.R_alloc|apply Kd.R_drewN|apply Kd.R_drew));exact Kd.R_mono (Kd.R_far (p:=⟨gb251,1,none⟩) (Kd.R_far (p:=⟨gb251,0,none⟩) (Kd.R_types HO257.out BK251.out (by decide)) (fun _ hk=>hk.2) (.int .i64 t254)) (fun _ hk=>hk.2) (.slice Ao18 t255.length co18)) (fun _ hk=>trivial),bl HB.out⟩
  ·replace c6:=Bool.eq_false_iff.mpr c6;subst c6;have H1:(some (0,([]:List Int),2))=some (r1,r2,r3):=by rw[if_neg (show ¬ (false=true) by decide)] at H;exact H
   clear H;have H:=H1;clear H1;simp only [Option.some.injEq,Prod.mk.injEq] at H;obtain ⟨rfl,rfl,rfl⟩:=H;go_enter Tryz.func24,Tryz.ntmps24;go_wp2_with (first|((with_reducible refine gate_dst (N:=2) rfl ?_);refine bx 2 #[.int .i64 a0_0,.slice A0_1 l0_1.length c0_1] 26 ?_;intro gb250 hg w19 hbox hb;have BK250:=Aside0.mk (hbox);have GE250:=gzA hg HB;replace HB:=bsA HB hb;clear hb hbox hg)|((with_reducible refine gate_dst (N:=4) rfl ?_);refine bx 4 #[.int .i64 0,.slice none 0 0] 26 ?_;intro gb251 hg w20 hbox hb;have BK251:=Aside0.mk (hbox);have GE251:=gzA hg HB;replace HB:=bsA HB hb;have NB250_251:=nlA hg BK250;have NB251_250:=ngA hg BK250;replace BK250:=bkA BK250 hb;clear hb hbox hg;have hnb21:=NB250_251.out;have hnc21:=NB251_250.out;have hcz22_0:=z0_ BK250;have hcz22_1:=z1_ BK250;have hfz22_0:=hf_ BK250 0;have hfz22_1:=hf_ BK250 1)|((with_reducible refine gate_callee (f:=71) rfl ?_);refine gl (some 8) Tryz.func71 #[.agg #[.int .i64 a0_0,.slice A0_1 l0_1.length c0_1]] ?_;(with_reducible refine(spec_l01Is.calls k a0_0 _ _ l0_1 true _ (cb (Kd.C_below HR0_1.out HB.out)) HC0_1.out A3.out).mono ?_);rintro e w23 ⟨rfl,hb⟩;refine⟨_,rfl,?_⟩;replace BK250:=bkA BK250 hb;replace BK251:=bkA BK251 hb;replace HB:=bsA HB hb;(try clear hb);(try clear hb2);(try clear hk);(try clear hi);have hcz24_0:=z0_ BK250;have hcz24_1:=z1_ BK250;have hfz24_0:=hf_ BK250 0;have hfz24_1:=hf_ BK250 1)|((with_reducible refine gate_callee (f:=86) rfl ?_);refine gl (some 15) Tryz.func86 #[.slice A1 l1.length c1,.int .i64 a0_0] ?_;(with_reducible refine(spec_l01Order.calls k _ _ l1 a0_0 false _ (cb (Kd.C_below HR1.out HB.out)) HC1.out A5.out).mono ?_);rintro e w25 ⟨rfl,hb⟩;refine⟨_,rfl,?_⟩;replace BK250:=bkA BK250 hb;replace BK251:=bkA BK251 hb;replace HB:=bsA HB hb;(try clear hb);(try clear hb2);(try clear hk);(try clear hi);have hcz26_0:=z0_ BK251;have hcz26_1:=z1_ BK251;have hfz26_0:=hf_ BK251 0;have hfz26_1:=hf_ BK251 1))
   refine bodyPost_ret (results_ct rfl _ _ gb251 26 #[.int .i64 0,.slice none 0 0] (0,0) _ rfl (bp BK251.out) Tryz.underlying26 rfl (by kernel_rfl)) rfl ?_;exact⟨_,rr,by first|exact Kd.R_nil _ _ _ _ _|exact Kd.N_nil _ _ _ _ _|exact Kd.V_nil _ _ _ _ _|exact Kd.Q_nil _ _ _ _ _|exact Kd.S_nil _ _ _ _ _,bl HB.out⟩
 ·replace c4:=Bool.eq_false_iff.mpr c4;subst c4;have H1:(some (0,([]:List Int),1))=some (r1,r2,r3):=by rw[if_neg (show ¬ (false=true) by decide)] at H;exact H
  clear H;have H:=H1;clear H1;simp only [Option.some.injEq,Prod.mk.injEq] at H;obtain ⟨rfl,rfl,rfl⟩:=H;go_enter Tryz.func24,Tryz.ntmps24;go_wp2_with (first|((with_reducible refine gate_dst (N:=2) rfl ?_);refine bx 2 #[.int .i64 a0_0,.slice A0_1 l0_1.length c0_1] 26 ?_;intro gb250 hg w27 hbox hb;have BK250:=Aside0.mk (hbox);have GE250:=gzA hg HB;replace HB:=bsA HB hb;clear hb hbox hg)|((with_reducible refine gate_dst (N:=4) rfl ?_);refine bx 4 #[.int .i64 0,.slice none 0 0] 26 ?_;intro gb251 hg w28 hbox hb;have BK251:=Aside0.mk (hbox);have GE251:=gzA hg HB;replace HB:=bsA HB hb;have NB250_251:=nlA hg BK250;have NB251_250:=ngA hg BK250;replace BK250:=bkA BK250 hb;clear hb hbox hg;have hnb29:=NB250_251.out;have hnc29:=NB251_250.out;have hcz30_0:=z0_ BK250;have hcz30_1:=z1_ BK250;have hfz30_0:=hf_ BK250 0;have hfz30_1:=hf_ BK250 1)|((with_reducible refine gate_callee (f:=71) rfl ?_);refine gl (some 8) Tryz.func71 #[.agg #[.int .i64 a0_0,.slice A0_1 l0_1.length c0_1]] ?_;(with_reducible refine(spec_l01Is.calls k a0_0 _ _ l0_1 false _ (cb (Kd.C_below HR0_1.out HB.out)) HC0_1.out A3.out).mono ?_);rintro e w31 ⟨rfl,hb⟩;refine⟨_,rfl,?_⟩;replace BK250:=bkA BK250 hb;replace BK251:=bkA BK251 hb;replace HB:=bsA HB hb;(try clear hb);(try clear hb2);(try clear hk);(try clear hi);have hcz32_0:=z0_ BK251;have hcz32_1:=z1_ BK251;have hfz32_0:=hf_ BK251 0;have hfz32_1:=hf_ BK251 1))
  refine bodyPost_ret (results_ct rfl _ _ gb251 26 #[.int .i64 0,.slice none 0 0] (0,0) _ rfl (bp BK251.out) Tryz.underlying26 rfl (by kernel_rfl)) rfl ?_;exact⟨_,rr,by first|exact Kd.R_nil _ _ _ _ _|exact Kd.N_nil _ _ _ _ _|exact Kd.V_nil _ _ _ _ _|exact Kd.Q_nil _ _ _ _ _|exact Kd.S_nil _ _ _ _ _,bl HB.out⟩
end Go.Proofs.YtlhkdbkjafiikaaGreat.Q
end
