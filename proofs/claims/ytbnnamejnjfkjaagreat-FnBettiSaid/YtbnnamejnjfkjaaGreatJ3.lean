/- Texts of this work, put together by its pack.py. No conditions. -/
import Derived.Test.YtbnnamejnjfkjaaGreatJ2
import Derived.Below
import Derived.Deep.Draws
import Derived.Deep.AppendLies
import Derived.Maps.AppendAt
import Derived.OwnWalk
import Derived.Laws.BytesArg
import Derived.Laws.MakeOwn
import Derived.Laws.OwnMore
import Derived.Deep.OwnRows
import Derived.Tactics
import Derived.Lib.ConvBytes
import Derived.Laws.Slices
import Derived.WalkKit
import Derived.KernelRfl
import Derived.RowKit3
import Derived.Deep.LoopGhost
import Derived.Deep.QuietTactic
import Derived.BigQuiet
import Derived.WideLaws
import Derived.Deep.DeepCutAuto
import Derived.Deep.CutBlock
import Derived.Deep.RegionHeld3
import Derived.Laws.Rows
import Derived.Lib.AppendStr
import Derived.ArgAppend
import Derived.Laws.IdiomCopy
import Derived.RowKit
import Derived.OrdersHeld
import Derived.Laws.BitsLemmas
import Derived.Test.YtbnnamejnjfkjaaGreatProg
import Derived.Shelf.Abstract
import Derived.Laws.StructEq
import Derived.RangeFuncBox
import Derived.RangeFuncLeaves
import Derived.OwnWalkIn
import Derived.TacticsInMore
import Derived.LoopNIn
import Derived.LoopIn
import Derived.Lib.SliceRun
section
namespace Go.Proofs.YtbnnamejnjfkjaaGreat.K
open Go.RowKit Go.Shelf Go.Proofs.YtbnnamejnjfkjaaGreat.Q Go.Proofs.YtbnnamejnjfkjaaGreatW.PrintWords Go.Proofs.YtbnnamejnjfkjaaGreatW.PrintLast Go.Proofs.YtbnnamejnjfkjaaGreatW.PrintMore
set_option linter.unusedVariables false
set_option linter.unusedSimpArgs false
theorem ofL_cons (x:Int) (l:List Int) (d:Int):ofL (x :: l) d=if dimI x=d then x :: ofL l d else ofL l d:=by
 unfold ofL
 rw[List.filter_cons]
 by_cases h:dimI x=d <;> simp [h]
theorem specOf_loop (n d:Int) (hd: -5≤d∧d≤20) (l:List Int) (hl:l.length≤63) (hr:∀ x ∈ l,0≤x∧x≤63):∀(e i k:Nat) (acc:List Int),l.length - i=e→i≤l.length→e+8<k→acc.length≤i →
  spec_l01Of.l0 k d acc (i:Int) n l=some (acc ++ ofL (l.drop i) d):=by
 intro e
 induction e with
 |zero=>
  intro i k acc he hi hk ha
  obtain ⟨k,rfl⟩:∃ m,k=m+1:=⟨k - 1,by omega⟩
  obtain rfl:i=l.length:=by omega
  simp only [spec_l01Of.l0]
  rw[if_neg (by omega)]
  simp [ofL]
 |succ e ih=>
  intro i k acc he hi hk ha
  obtain ⟨k,rfl⟩:∃ m,k=m+1:=⟨k - 1,by omega⟩
  simp only [spec_l01Of.l0]
  have hil:i<l.length:=by omega
  have hx:=hr _ (List.getElem_mem hil)
  rw[if_pos (by omega),if_pos (by omega),rd_nat l i hil,specOnes_is l[i] (by omega) (by omega) k (by omega)]
  simp only [Option.bind_some]
  rw[w64 (d+1) (by omega) (by omega),w64 ((i:Int)+1) (by omega) (by omega),nat_succ,List.drop_eq_getElem_cons hil,ofL_cons]
  by_cases h:onesI l[i]=d+1
  ·have h2:dimI l[i]=d:=by unfold dimI;omega
   rw[if_pos h,if_pos (by omega),ih (i+1) k _ (by omega) (by omega) (by omega) (by simp;omega),if_pos h2,List.append_assoc]
   rfl
  ·have h2:¬ dimI l[i]=d:=by unfold dimI;omega
   rw[if_neg h,ih (i+1) k _ (by omega) (by omega) (by omega) (by omega),if_neg h2]
theorem specOf_is (n d:Int) (hd: -5≤d∧d≤20) (l:List Int) (hl:l.length≤63) (hr:∀ x ∈ l,0≤x∧x≤63) (k:Nat) (hk:80≤k):spec_l01Of.f k n l d=some (ofL l d):=by
 unfold spec_l01Of.f
 have:=specOf_loop n d hd l hl hr l.length 0 k [] (by omega) (by omega) (by omega) (by simp)
 rw[show ((0:Nat):Int)=0 from rfl,List.nil_append,List.drop_zero] at this
 exact this
theorem specTop_loop (n:Int) (l:List Int) (hl:l.length≤63) (hr:∀ x ∈ l,0≤x∧x≤63):∀(e i k:Nat) (s:Int),l.length - i=e→i≤l.length→e+8<k →
  spec_l01Dim.l0 k s (i:Int) n l=some ((l.drop i).foldl (fun d f=>mx d (dimI f)) s):=by
 intro e
 induction e with
 |zero=>
  intro i k s he hi hk
  obtain ⟨k,rfl⟩:∃ m,k=m+1:=⟨k - 1,by omega⟩
  obtain rfl:i=l.length:=by omega
  simp only [spec_l01Dim.l0]
  rw[if_neg (by omega)]
  simp
 |succ e ih=>
  intro i k s he hi hk
  obtain ⟨k,rfl⟩:∃ m,k=m+1:=⟨k - 1,by omega⟩
  simp only [spec_l01Dim.l0]
  have hil:i<l.length:=by omega
  have hx:=hr _ (List.getElem_mem hil)
  have h1:=dim_range l[i]
  have h2:onesI l[i] - 1=dimI l[i]:=rfl
  rw[if_pos (by omega),if_pos (by omega),rd_nat l i hil,specOnes_is l[i] (by omega) (by omega) k (by omega)]
  simp only [Option.bind_some]
  rw[h2,w64 (dimI l[i]) (by omega) (by omega),w64 ((i:Int)+1) (by omega) (by omega),nat_succ,ih (i+1) k _ (by omega) (by omega) (by omega),List.drop_eq_getElem_cons hil,List.foldl_cons]
theorem specTop_is (n:Int) (l:List Int) (hl:l.length≤63) (hr:∀ x ∈ l,0≤x∧x≤63) (k:Nat) (hk:80≤k):spec_l01Dim.f k n l=some (topI l):=by
 unfold spec_l01Dim.f
 have:=specTop_loop n l hl hr l.length 0 k (-1) (by omega) (by omega) (by omega)
 rw[show ((0:Nat):Int)=0 from rfl,List.drop_zero] at this
 exact this
end Go.Proofs.YtbnnamejnjfkjaaGreat.K
end

section
namespace Go.Proofs.YtbnnamejnjfkjaaGreat.Q
open Go.RowKit Go.Proofs.YtbnnamejnjfkjaaGreat.Q Go.Proofs.YtbnnamejnjfkjaaGreatW.PrintWords Go.Proofs.YtbnnamejnjfkjaaGreatW.PrintLast Go.Proofs.YtbnnamejnjfkjaaGreatW.PrintMore
attribute [local go_sem] max2_int min2_int max_two min_two max_three min_three max_four min_four
set_option linter.unusedVariables false
set_option linter.unusedSimpArgs false
def spec_l03Place.l0:Nat→List Int→Int→Int→Option (Int)
 |0,_,_,_=>none
 |k+1,x0,x1,x5=>if x5<(x0.length:Int) then (if 0≤x5 then (if (rd x0 x5)=x1 then (some x5) else (spec_l03Place.l0 k x0 x1 (wrap64 (x5+1)))) else (none)) else (some (-1))
def spec_l03Place.f (k:Nat) (l0:List Int) (a1:Int):Option (Int):=spec_l03Place.l0 k l0 a1 0
theorem spec_l03Place.mono_l:∀ k,(∀ y0 y1 y2,LeO (spec_l03Place.l0 k y0 y1 y2) (spec_l03Place.l0 (k+1) y0 y1 y2))
 |0=>fun _ _ _ r h=>by simp [spec_l03Place.l0] at h
 |k+1=>by
  have ih0:=spec_l03Place.mono_l k
  ·intro y0 y1 y2;unfold spec_l03Place.l0;repeat' first
   |(with_reducible first|exact ih0 _ _ _|exact LeO.refl _|exact LeO.none _|refine LeO.ite ?_ ?_|refine LeO.bind ?_ (fun _=>?_))
theorem spec_l03Place.mono:∀ a0 a1 k,LeO (spec_l03Place.f k a0 a1) (spec_l03Place.f (k+1) a0 a1):=by
 intro a0 a1 k;have ih0:=spec_l03Place.mono_l k;unfold spec_l03Place.f;repeat' first
   |(with_reducible first|exact ih0 _ _ _|exact LeO.refl _|exact LeO.none _|refine LeO.ite ?_ ?_|refine LeO.bind ?_ (fun _=>?_))
set_option maxHeartbeats 8000000 in
set_option maxRecDepth 100000 in
theorem spec_l03Place.calls (k:Nat) (A0:Option Addr) (c0:Nat) (l0:List Int) (a1:Int) (r:Int) (w:World) (hr0:Kd.C (Kd.int .i64) w A0 l0.length l0) (hc0:l0.length≤c0) (h:spec_l03Place.f k l0 a1=some r) :
  Calls Tryz.prog 165 #[.slice A0 l0.length c0,.int .i64 a1] w fun e w'=>e = .returned (.int .i64 r)∧Drawn0 w w':=by
 have HR0:=Aside0.mk hr0;have HC0:=Aside0.mk hc0;clear hr0 hc0;have H:(spec_l03Place.l0 k l0 a1 0)=some r:=h;clear h;have H':=Aside0.mk H;clear H;go_enter Tryz.func165,Tryz.ntmps165;go_wp2
 go_loopg [5] k (fun kq v5 w'=>∃(x5_1:Int),v5 = .int .i64 x5_1∧Aside0 (spec_l03Place.l0 kq l0 a1 x5_1=some r)∧Aside0 (kq≤k)∧Drawn0 w w')
 case atStart=>exact⟨(0),rs,H',⟨Nat.le_refl _⟩,by repeat(first|exact Drawn0.refl _|apply Drawn0.step)⟩
 case round=>
  clear H';try clear c1
  try clear p2
  obtain ⟨x5_1,rfl,HA,HK1,⟨m1,rfl⟩⟩:=hrel;cases gk with
  |zero=>exact absurd HA.out (by simp [spec_l03Place.l0])
  |succ k1=>
   have H:=HA.out;clear HA;simp only [spec_l03Place.l0] at H;by_cases c3:x5_1<(l0.length:Int)
   ·rw[if_pos c3] at H;have c3b0:decide (x5_1<(l0.length:Int))=true:=decide_eq_true c3;clear c3;by_cases c4:0≤x5_1
    ·rw[if_pos c4] at H;have c4b0:decide (0≤x5_1)=true:=decide_eq_true c4;clear c4;by_cases c5:(rd l0 x5_1)=a1
     ·rw[if_pos c5] at H;have c5b0:((rd l0 x5_1) == a1)=true:=beq_iff_eq.mpr c5;have c5b1:((rd l0 x5_1) != a1)=false:=bne_eq_false_iff_eq.mpr c5;clear c5;obtain rfl:=Option.some.inj H;have p133:0≤(x5_1:Int):=dd;have q133:x5_1<(l0.length:Int):=dd;obtain ⟨ad133,e133,hx133_0⟩:=Kd.at_int HR0.out x5_1 p133 q133;cases e133;replace p133:=eq_true p133;replace q133:=eq_true q133;go_wp2
      go_ret;exact⟨rs,by repeat(first|exact Drawn0.refl _|apply Drawn0.step)⟩
     ·rw[if_neg c5] at H;have c5b0:((rd l0 x5_1) == a1)=false:=beq_eq_false_iff_ne.mpr c5;have c5b1:((rd l0 x5_1) != a1)=true:=bne_iff_ne.mpr c5;have H':=Aside0.mk H;clear H;have p133:0≤(x5_1:Int):=dd;have q133:x5_1<(l0.length:Int):=dd;obtain ⟨ad133,e133,hx133_0⟩:=Kd.at_int HR0.out x5_1 p133 q133;cases e133;replace p133:=eq_true p133;replace q133:=eq_true q133;go_wp2
      go_roundg k1
      case measure=>have:=HK1.out;omega
      case rel=>exact⟨(wrap64 (x5_1+1)),rs,H',⟨by have:=HK1.out;omega⟩,by repeat(first|exact Drawn0.refl _|apply Drawn0.step)⟩
    ·rw[if_neg c4] at H;exact absurd H (by simp)
   ·rw[if_neg c3] at H;have c3b0:decide (x5_1<(l0.length:Int))=false:=decide_eq_false c3;clear c3;obtain rfl:=Option.some.inj H;go_wp2
    go_ret;exact⟨rs,by repeat(first|exact Drawn0.refl _|apply Drawn0.step)⟩
end Go.Proofs.YtbnnamejnjfkjaaGreat.Q
end

section
namespace Go.Proofs.YtbnnamejnjfkjaaGreat.Q
open Go.RowKit Go.Proofs.YtbnnamejnjfkjaaGreat.Q Go.Proofs.YtbnnamejnjfkjaaGreatW.PrintWords Go.Proofs.YtbnnamejnjfkjaaGreatW.PrintLast Go.Proofs.YtbnnamejnjfkjaaGreatW.PrintMore
attribute [local go_sem] max2_int min2_int max_two min_two max_three min_three max_four min_four
set_option linter.unusedVariables false
set_option linter.unusedSimpArgs false
mutual
def spec_l03Rows.l0:Nat→Int→List Int→List Int→List (List Int)→Int→Option ((List (List Int)))
 |0,_,_,_,_,_=>none
 |k+1,x2,x7,x8,x9,x10=>if x10<(x7.length:Int) then (if 0≤(x8.length:Int) then (if ((x8.length:Int):Int).toNat≤35184372088832 then (if 0≤x10 then ((spec_l01Below.f k (rd x7 x10)).bind fun t148=>((spec_l03Signs.f k (rd x7 x10)).bind fun t152=>(spec_l03Rows.l1 k x2 x7 x8 x9 x10 (List.replicate ((x8.length:Int):Int).toNat 0) t148 t152 0))) else (none)) else (none)) else (none)) else (some x9)
def spec_l03Rows.l1:Nat→Int→List Int→List Int→List (List Int)→Int→List Int→List Int→List Int→Int→Option ((List (List Int)))
 |0,_,_,_,_,_,_,_,_,_=>none
 |k+1,x2,x7,x8,x9,x10,x11,x12,x13,x14=>if x14<(x12.length:Int) then (if 0≤x14 then ((spec_l03Place.f k x8 (rd x12 x14)).bind fun t156=>(if x14<(x13.length:Int) then (if x2=0 then (none) else (if 0≤t156 then (if t156<(x11.length:Int) then (spec_l03Rows.l1 k x2 x7 x8 x9 x10 (x11.set (t156:Int).toNat (Int.tmod (wrap64 ((rd x13 x14)+x2)) x2)) x12 x13 (wrap64 (x14+1))) else (none)) else (none))) else (none))) else (none)) else (if x9.length<5864062014805 then (spec_l03Rows.l0 k x2 x7 x8 (x9 ++ [x11]) (wrap64 (x10+1))) else (none))
end
def spec_l03Rows.f (k:Nat) (a0_0:Int) (l0_1:List Int) (a1:Int) (a2:Int):Option ((List (List Int))):=(spec_l01Of.f k a0_0 l0_1 a1).bind fun t135=>((spec_l01Of.f k a0_0 l0_1 (wrap64 (a1 - 1))).bind fun t138=>(spec_l03Rows.l0 k a2 t135 t138 (([]:List (List Int))) 0))
theorem spec_l03Rows.mono_l:∀ k,(∀ y0 y1 y2 y3 y4,LeO (spec_l03Rows.l0 k y0 y1 y2 y3 y4) (spec_l03Rows.l0 (k+1) y0 y1 y2 y3 y4))∧(∀ y0 y1 y2 y3 y4 y5 y6 y7 y8,LeO (spec_l03Rows.l1 k y0 y1 y2 y3 y4 y5 y6 y7 y8) (spec_l03Rows.l1 (k+1) y0 y1 y2 y3 y4 y5 y6 y7 y8))
 |0=>⟨fun _ _ _ _ _ r h=>by simp [spec_l03Rows.l0] at h,fun _ _ _ _ _ _ _ _ _ r h=>by simp [spec_l03Rows.l1] at h⟩
 |k+1=>by
  obtain ⟨ih0,ih1⟩:=spec_l03Rows.mono_l k;refine⟨?_,?_⟩
  ·intro y0 y1 y2 y3 y4;unfold spec_l03Rows.l0;repeat' first
   |(with_reducible first|exact ih0 _ _ _ _ _|exact ih1 _ _ _ _ _ _ _ _ _|exact spec_l01Below.mono _ _|exact spec_l01Of.mono _ _ _ _|exact spec_l03Place.mono _ _ _|exact spec_l03Signs.mono _ _|exact LeO.refl _|exact LeO.none _|refine LeO.ite ?_ ?_|refine LeO.bind ?_ (fun _=>?_))
  ·intro y0 y1 y2 y3 y4 y5 y6 y7 y8;unfold spec_l03Rows.l1;repeat' first
   |(with_reducible first|exact ih0 _ _ _ _ _|exact ih1 _ _ _ _ _ _ _ _ _|exact spec_l01Below.mono _ _|exact spec_l01Of.mono _ _ _ _|exact spec_l03Place.mono _ _ _|exact spec_l03Signs.mono _ _|exact LeO.refl _|exact LeO.none _|refine LeO.ite ?_ ?_|refine LeO.bind ?_ (fun _=>?_))
theorem spec_l03Rows.mono:∀ a0 a1 a2 a3 k,LeO (spec_l03Rows.f k a0 a1 a2 a3) (spec_l03Rows.f (k+1) a0 a1 a2 a3):=by
 intro a0 a1 a2 a3 k;obtain ⟨ih0,ih1⟩:=spec_l03Rows.mono_l k;unfold spec_l03Rows.f;repeat' first
   |(with_reducible first|exact ih0 _ _ _ _ _|exact ih1 _ _ _ _ _ _ _ _ _|exact spec_l01Below.mono _ _|exact spec_l01Of.mono _ _ _ _|exact spec_l03Place.mono _ _ _|exact spec_l03Signs.mono _ _|exact LeO.refl _|exact LeO.none _|refine LeO.ite ?_ ?_|refine LeO.bind ?_ (fun _=>?_))
def spec_l03Rows.T1:Bool×List (List Nat×List Nat):=(true,[([],[]),([],[]),([0,1],[0,1]),([],[]),([],[]),([4],[4]),([3,5,2],[3,5]),([],[]),([2,6,0,1,2],[2]),([6,8,0,1,2,3,4,5,6,8],[6]),([7,9,0,1,2,3,4,5,6,7,8,9],[7])])
def spec_l03Rows.B1:List Nat:= [0,0,3,0,0,16,63,0,127,383,1023]
theorem spec_l03Rows.tab1:rtab .any (opsOf Tryz.f144 1)=spec_l03Rows.T1:=by kernel_rfl
theorem spec_l03Rows.bits1:waitsOk spec_l03Rows.T1.2 spec_l03Rows.B1=true:=by kernel_rfl
def spec_l03Rows.T6:Bool×List (List Nat×List Nat):=(true,[([],[]),([],[]),([0,1],[0,1]),([2],[2]),([3],[3]),([],[]),([],[]),([5,6],[5,6]),([7],[7]),([8,4],[8]),([4,9,0,1,2,3,4],[4]),([9,10,0,1,2,3,4,5,6,7,8,9,10],[9])])
def spec_l03Rows.B6:List Nat:= [0,0,3,7,15,0,0,96,224,511,1023,2047]
theorem spec_l03Rows.tab6:rtab .any (opsOf Tryz.f144 6)=spec_l03Rows.T6:=by kernel_rfl
theorem spec_l03Rows.bits6:waitsOk spec_l03Rows.T6.2 spec_l03Rows.B6=true:=by kernel_rfl
def spec_l03Rows.T10:Bool×List (List Nat×List Nat):=(true,[([],[]),([],[]),([],[]),([],[]),([2,3],[2,3]),([4],[4]),([1,5],[1,5]),([],[]),([],[]),([7,8],[7,8]),([9],[9]),([],[]),([10,11],[10,11]),([],[]),([12,13],[12,13]),([0,6,0,1,2,3,4,5,6,7,8,9,10,11,12,13,14],[0,6]),([15,14,6,0,1,2,3,4,5,6,7,8,9,10,11,12,13,14],[14,15])])
def spec_l03Rows.B10:List Nat:= [0,0,0,0,12,28,62,0,0,384,896,0,3968,0,16256,32767,65535]
theorem spec_l03Rows.tab10:rtab .any (opsOf Tryz.f144 10)=spec_l03Rows.T10:=by kernel_rfl
theorem spec_l03Rows.bits10:waitsOk spec_l03Rows.T10.2 spec_l03Rows.B10=true:=by kernel_rfl
theorem S_empty_apart {e e2:Nat} {w:World} {base:Nat} {v v1 v2:Value} {ok1 ok2:Nat→Prop} {x1 x2:List Int} {xs:List (List Int)} (hx:xs = []) (h:Kd.S (Kd.slice e2 (Kd.int .i64)) e w base (fun _=>True) v xs) (he:e≠e2)
  (h1:Kd.R (Kd.int .i64) e2 w base ok1 v1 x1) (h2:Kd.R (Kd.int .i64) e2 w base ok2 v2 x2):Kd.S (Kd.slice e2 (Kd.int .i64)) e w base (fun k_=>some k_≠v1.ownBlock∧some k_≠v2.ownBlock) v xs:=by
 subst hx;have ht:=Kd.S_typed h;obtain ⟨f,h0,inner,ho,hr⟩:=h;refine⟨f,fun k hk=>?_,inner,ho,hr.1,fun j p hj=>by simp at hj⟩;obtain ⟨c,hc⟩:=ht k hk;constructor
 ·intro e1;obtain ⟨c1,hc1⟩:=Kd.R_typed h1 k e1.symm;rw[hc] at hc1;injection hc1 with hc1
  injection hc1 with _ e3
  exact he e3
 ·intro e1;obtain ⟨c1,hc1⟩:=Kd.R_typed h2 k e1.symm;rw[hc] at hc1;injection hc1 with hc1
  injection hc1 with _ e3
  exact he e3
set_option maxHeartbeats 8000000 in
set_option maxRecDepth 100000 in
theorem spec_l03Rows.calls (k:Nat) (a0_0:Int) (A0_1:Option Addr) (c0_1:Nat) (l0_1:List Int) (a1:Int) (a2:Int) (r:List (List Int)) (w:World) (hr0_1:Kd.C (Kd.int .i64) w A0_1 l0_1.length l0_1) (hc0_1:l0_1.length≤c0_1) (h:spec_l03Rows.f k a0_0 l0_1 a1 a2=some r) :
  Calls Tryz.prog 144 #[.agg #[.int .i64 a0_0,.slice A0_1 l0_1.length c0_1],.int .i64 a1,.int .i64 a2] w fun e w'=>∃ v0_:Value,e = .returned (v0_)∧Kd.S (Kd.slice 2 (Kd.int .i64)) 24 w' w.heap.size (fun _=>True) v0_ r∧Below w.heap.size w w':=by
 have hu26:=Tryz.underlying26;have HR0_1:=Aside0.mk hr0_1;have HC0_1:=Aside0.mk hc0_1;clear hr0_1 hc0_1;have HB:=Aside0.mk (Below.refl w.heap.size w);have H:((spec_l01Of.f k a0_0 l0_1 a1).bind fun t135=>((spec_l01Of.f k a0_0 l0_1 (wrap64 (a1 - 1))).bind fun t138=>(spec_l03Rows.l0 k a2 t135 t138 (([]:List (List Int))) 0)))=some r:=h;clear h;replace H:=Option.bind_eq_some_iff.mp H;obtain ⟨t135,A40,H⟩:=H;replace H:((spec_l01Of.f k a0_0 l0_1 (wrap64 (a1 - 1))).bind fun t138=>(spec_l03Rows.l0 k a2 t135 t138 (([]:List (List Int))) 0))=some r:=H;have A4:=Aside0.mk A40;clear A40;replace H:=Option.bind_eq_some_iff.mp H;obtain ⟨t138,A50,H⟩:=H;replace H:(spec_l03Rows.l0 k a2 t135 t138 (([]:List (List Int))) 0)=some r:=H;have A5:=Aside0.mk A50;clear A50;obtain ⟨y141,hy141⟩:∃ y_:List (List Int),y_=(([]:List (List Int))):=⟨_,rfl⟩
 replace H:(spec_l03Rows.l0 k a2 t135 t138 y141 0)=some r:=by first|(rw[hy141];with_reducible exact H)|(have H2_:=(Option.bind_some _ _).symm.trans H;rw[hy141];with_reducible exact H2_)|(have H2_:=(Option.bind_some _ _).symm.trans H;with_reducible exact H2_)|with_reducible exact H|(rw[hy141];exact H)|exact H
 have Ny141:=Aside0.mk hy141;clear hy141;have H':=Aside0.mk H;clear H;go_enter Tryz.func144,Tryz.ntmps144;try go_wp2_with (first|((with_reducible refine gate_dst (N:=3) rfl ?_);refine bx 3 #[.int .i64 a0_0,.slice A0_1 l0_1.length c0_1] 26 ?_;intro gb134 hg w6 hbox hb;have BK134:=Aside0.mk (hbox);have GE134:=gzA hg HB;replace HB:=bsA HB hb;clear hb hbox hg))
 replace BK134:=Aside0.mk (blk_drew BK134.out);replace HB:=Aside0.mk (below_drew1 HB.out);refine start_ (n:=11) (S:=fun w'=>True) (ds:= []) (ar 0 11) (by kernel_rfl) rfl rfl trivial (fun hHeld=>?_);refine with_tabW spec_l03Rows.tab1 spec_l03Rows.bits1 (fun HT_ HW_=>?_);generalize w6.drew=w7 at BK134 HB hHeld ⊢;refine pu 1 (some 16) #[O,U,O,O,O,O,O,O,O,O,O] HT_ ?_;refine pu 4 (some 19) #[O,U,O,O,U,O,O,O,O,O,O] HT_ ?_;refine inv_at [0,2,3,5,6,7,8,9,10] (fun a0_ b a w'=>∃(v136:Value) (v139:Value) (v142:Value) (m8_:Value) (m9_:Value) (m10_:Value),a=putSel a0_ b [(0,15,.agg #[.int .i64 a0_0,.slice A0_1 l0_1.length c0_1]),(2,17,v136),(3,18,.agg #[.int .i64 a0_0,.slice A0_1 l0_1.length c0_1]),(5,20,.int .i64 (wrap64 (a1 - 1))),(6,21,v139),(7,22,v142),(8,7,m8_),(9,8,m9_),(10,9,m10_)]∧(w'.heap[gb134]?=some (.cells #[.int .i64 a0_0,.slice A0_1 l0_1.length c0_1] 26 (0,0)))∧(Below w.heap.size w w')∧(b 2=true→Kd.R (Kd.int .i64) 2 w' w.heap.size (fun k_=>b 6=true→some k_≠(v139:Value).ownBlock) v136 t135)∧(b 6=true→Kd.R (Kd.int .i64) 2 w' w.heap.size (fun k_=>some k_≠(v136:Value).ownBlock) v139 t138)∧(b 7=true→Kd.S (Kd.slice 2 (Kd.int .i64)) 24 w' w.heap.size (fun _=>True) v142 y141)∧(b 8=true→(m8_:Value)=v136)∧(b 9=true→(m9_:Value)=v139)∧(b 10=true→(m10_:Value)=v142)) HT_.out HW_.out (by kernel_rfl) (by kernel_rfl) ?_ ?_ ?_
 ·exact⟨.bool false,.bool false,.bool false,.bool false,.bool false,.bool false,by simp only [putSel,Bool.false_eq_true,if_false],BK134.out,HB.out,fun h_=>absurd h_ (by decide),fun h_=>absurd h_ (by decide),fun h_=>absurd h_ (by decide),fun h_=>absurd h_ (by decide),fun h_=>absurd h_ (by decide),fun h_=>absurd h_ (by decide)⟩
 ·skip
  clear BK134 HB;refine steps_cons ?_ ?_
  ·rintro b a w' ⟨v136,v139,v142,m8_,m9_,m10_,ha,Q_BK134,Q_HB,Q_HO137,Q_HO140,Q_HO143,Q_X8_,Q_X9_,Q_X10_⟩ hb_ hon hoff;refine⟨_,rfl,fun K hK=>?_⟩;have e3:a.tmps[3]?=some (.pointer (some ⟨gb134,0,none⟩)):=by rw[ha];exact(putSel_off rfl).trans rfl
   replace ha:=Aside0.mk ha;have BK134:=Aside0.mk Q_BK134;have HB:=Aside0.mk Q_HB;have hc0_:w'.cell? ⟨gb134,0,none⟩=some (.int .i64 a0_0):=(blk_cell BK134.out 0).trans rfl;have hc1_:w'.cell? ⟨gb134,1,none⟩=some (.slice A0_1 l0_1.length c0_1):=(blk_cell BK134.out 1).trans rfl;refine value_ (w1:=w') (v:= .agg #[.int .i64 a0_0,.slice A0_1 l0_1.length c0_1]) (by rfl) rfl ?_ ?_
   ·go_simp;(try simp only [i64_w])
    try rfl
   refine hK.out _ _ ⟨v136,v139,v142,m8_,m9_,m10_,(by rw[ha.out];exact putSel_upk 0 hb_ rfl rfl rfl),Q_BK134,Q_HB,fun h0_=>absurd ((hoff 2 (by kernel_rfl)).symm.trans h0_) (by decide),fun h0_=>absurd ((hoff 6 (by kernel_rfl)).symm.trans h0_) (by decide),Q_HO143,fun h0_=>absurd ((hoff 8 (by kernel_rfl)).symm.trans h0_) (by decide),fun h0_=>absurd ((hoff 9 (by kernel_rfl)).symm.trans h0_) (by decide),fun h0_=>absurd ((hoff 10 (by kernel_rfl)).symm.trans h0_) (by decide)⟩
  refine steps_cons ?_ ?_
  ·rintro b a w' ⟨v136,v139,v142,m8_,m9_,m10_,ha,Q_BK134,Q_HB,Q_HO137,Q_HO140,Q_HO143,Q_X8_,Q_X9_,Q_X10_⟩ hb_ hon hoff;refine⟨_,rfl,fun K hK=>?_⟩;have e15:a.tmps[15]?=some (.agg #[.int .i64 a0_0,.slice A0_1 l0_1.length c0_1]):=by rw[ha];exact putSel_on (e:=(0,15,.agg #[.int .i64 a0_0,.slice A0_1 l0_1.length c0_1])) 0 rfl rfl (hon 0 (by kernel_rfl)) rfl
   have e16:a.tmps[16]?=some (.int .i64 a1):=by rw[ha];exact(putSel_off rfl).trans rfl
   replace ha:=Aside0.mk ha;have BK134:=Aside0.mk Q_BK134;have HB:=Aside0.mk Q_HB;refine goes_ Tryz.func117 (by kernel_rfl) rfl #[.agg #[.int .i64 a0_0,.slice A0_1 l0_1.length c0_1],.int .i64 a1] (by rfl) rfl rfl (by first|(simp only [List.map_toArray,List.map_cons,List.map_nil,Act.eval,Array.getD_eq_getD_getElem?,Option.getD_some,e15,e16];done)|(simp only [List.map_toArray,List.map_cons,List.map_nil,Act.eval,Array.getD_eq_getD_getElem?,Option.getD_some,e15,e16];rfl)) ?_;with_reducible refine(spec_l01Of.calls k a0_0 _ _ l0_1 a1 t135 _ (cb (Kd.C_below HR0_1.out HB.out)) HC0_1.out A4.out).mono ?_
   rintro e w8 ⟨v136,rfl,ho0,hb⟩;refine⟨_,rfl,?_⟩;have n0_:=Aside0.mk (Kd.R_lower ho0 (below_size (bl HB.out)));have n1_:=Aside0.mk (blk_below (bk BK134.out) hb);have n2_:=Aside0.mk (below_step (bl HB.out) hb);have z_HO143:=fun(h0_:b 7=true)=>(show Kd.S (Kd.slice 2 (Kd.int .i64)) 24 w8 w.heap.size (fun _=>True) v142 y141 from by first|exact(Kd.S_elder' (by(with_reducible repeat(first|apply Kd.S_alloc|apply Kd.S_drewN|apply Kd.S_drew));exact(Q_HO143 h0_)) (Kd.R_base ho0) hb)|exact Kd.S_mono (Kd.S_elder' (by(with_reducible repeat(first|apply Kd.S_alloc|apply Kd.S_drewN|apply Kd.S_drew));exact(Q_HO143 h0_)) (Kd.R_base ho0) hb) (fun _ h_=>by first|trivial|exact h_|exact h_.1))
   clear BK134;clear HB;have HO137:=n0_;have BK134:=n1_;have HB:=n2_;clear n0_ n1_ n2_;(try clear hb)
   (try clear hb2)
   (try clear hk)
   (try clear hi)
   (try clear ho0)
   refine hK.out _ _ ⟨v136,v139,v142,m8_,m9_,m10_,(by rw[ha.out];exact putSel_upk 1 hb_ rfl rfl rfl),(bk BK134.out),(bl HB.out),fun _=>(by(with_reducible repeat(first|apply Kd.R_alloc|apply Kd.R_drewN|apply Kd.R_drew));exact Kd.R_mono HO137.out (fun _ _ h0_=>absurd ((hoff 6 (by kernel_rfl)).symm.trans h0_) (by decide))),fun h0_=>absurd ((hoff 6 (by kernel_rfl)).symm.trans h0_) (by decide),z_HO143,fun h0_=>absurd ((hoff 8 (by kernel_rfl)).symm.trans h0_) (by decide),fun h0_=>absurd ((hoff 9 (by kernel_rfl)).symm.trans h0_) (by decide),fun h0_=>absurd ((hoff 10 (by kernel_rfl)).symm.trans h0_) (by decide)⟩
  refine steps_cons ?_ ?_
  ·rintro b a w' ⟨v136,v139,v142,m8_,m9_,m10_,ha,Q_BK134,Q_HB,Q_HO137,Q_HO140,Q_HO143,Q_X8_,Q_X9_,Q_X10_⟩ hb_ hon hoff;refine⟨_,rfl,fun K hK=>?_⟩;have e3:a.tmps[3]?=some (.pointer (some ⟨gb134,0,none⟩)):=by rw[ha];exact(putSel_off rfl).trans rfl
   replace ha:=Aside0.mk ha;have BK134:=Aside0.mk Q_BK134;have HB:=Aside0.mk Q_HB;have hc0_:w'.cell? ⟨gb134,0,none⟩=some (.int .i64 a0_0):=(blk_cell BK134.out 0).trans rfl;have hc1_:w'.cell? ⟨gb134,1,none⟩=some (.slice A0_1 l0_1.length c0_1):=(blk_cell BK134.out 1).trans rfl;refine value_ (w1:=w') (v:= .agg #[.int .i64 a0_0,.slice A0_1 l0_1.length c0_1]) (by rfl) rfl ?_ ?_
   ·go_simp;(try simp only [i64_w])
    try rfl
   refine hK.out _ _ ⟨v136,v139,v142,m8_,m9_,m10_,(by rw[ha.out];exact putSel_upk 2 hb_ rfl rfl rfl),Q_BK134,Q_HB,Q_HO137,fun h0_=>absurd ((hoff 6 (by kernel_rfl)).symm.trans h0_) (by decide),Q_HO143,fun h0_=>absurd ((hoff 8 (by kernel_rfl)).symm.trans h0_) (by decide),fun h0_=>absurd ((hoff 9 (by kernel_rfl)).symm.trans h0_) (by decide),fun h0_=>absurd ((hoff 10 (by kernel_rfl)).symm.trans h0_) (by decide)⟩
  refine steps_cons ?_ ?_
  ·rintro b a w' ⟨v136,v139,v142,m8_,m9_,m10_,ha,Q_BK134,Q_HB,Q_HO137,Q_HO140,Q_HO143,Q_X8_,Q_X9_,Q_X10_⟩ hb_ hon hoff;refine⟨_,rfl,fun K hK=>?_⟩;have e19:a.tmps[19]?=some (.int .i64 a1):=by rw[ha];exact(putSel_off rfl).trans rfl
   replace ha:=Aside0.mk ha;have BK134:=Aside0.mk Q_BK134;have HB:=Aside0.mk Q_HB;refine value_ (w1:=w') (v:= .int .i64 (wrap64 (a1 - 1))) (by rfl) rfl ?_ ?_
   ·go_simp;(try simp only [i64_w])
    try rfl
   refine hK.out _ _ ⟨v136,v139,v142,m8_,m9_,m10_,(by rw[ha.out];exact putSel_upk 3 hb_ rfl rfl rfl),Q_BK134,Q_HB,Q_HO137,fun h0_=>absurd ((hoff 6 (by kernel_rfl)).symm.trans h0_) (by decide),Q_HO143,fun h0_=>absurd ((hoff 8 (by kernel_rfl)).symm.trans h0_) (by decide),fun h0_=>absurd ((hoff 9 (by kernel_rfl)).symm.trans h0_) (by decide),fun h0_=>absurd ((hoff 10 (by kernel_rfl)).symm.trans h0_) (by decide)⟩
  refine steps_cons ?_ ?_
  ·rintro b a w' ⟨v136,v139,v142,m8_,m9_,m10_,ha,Q_BK134,Q_HB,Q_HO137,Q_HO140,Q_HO143,Q_X8_,Q_X9_,Q_X10_⟩ hb_ hon hoff;refine⟨_,rfl,fun K hK=>?_⟩;have e18:a.tmps[18]?=some (.agg #[.int .i64 a0_0,.slice A0_1 l0_1.length c0_1]):=by rw[ha];exact putSel_on (e:=(3,18,.agg #[.int .i64 a0_0,.slice A0_1 l0_1.length c0_1])) 2 rfl rfl (hon 3 (by kernel_rfl)) rfl
   have e20:a.tmps[20]?=some (.int .i64 (wrap64 (a1 - 1))):=by rw[ha];exact putSel_on (e:=(5,20,.int .i64 (wrap64 (a1 - 1)))) 3 rfl rfl (hon 5 (by kernel_rfl)) rfl
   replace ha:=Aside0.mk ha;have BK134:=Aside0.mk Q_BK134;have HB:=Aside0.mk Q_HB;have HO137:=Aside0.mk (Q_HO137 (hon 2 (by kernel_rfl)));refine goes_ Tryz.func117 (by kernel_rfl) rfl #[.agg #[.int .i64 a0_0,.slice A0_1 l0_1.length c0_1],.int .i64 (wrap64 (a1 - 1))] (by rfl) rfl rfl (by first|(simp only [List.map_toArray,List.map_cons,List.map_nil,Act.eval,Array.getD_eq_getD_getElem?,Option.getD_some,e18,e20];done)|(simp only [List.map_toArray,List.map_cons,List.map_nil,Act.eval,Array.getD_eq_getD_getElem?,Option.getD_some,e18,e20];rfl)) ?_;with_reducible refine(spec_l01Of.calls k a0_0 _ _ l0_1 (wrap64 (a1 - 1)) t138 _ (cb (Kd.C_below HR0_1.out HB.out)) HC0_1.out A5.out).mono ?_
   rintro e w10 ⟨v139,rfl,ho0,hb⟩;refine⟨_,rfl,?_⟩;have n0_:=Aside0.mk (Kd.R_elder' (kr HO137.out) (Kd.R_base ho0) hb);have n1_:=Aside0.mk (Kd.R_lower (Kd.R_new' ho0 (Kd.R_lt (kr HO137.out))) (below_size (bl HB.out)));have n2_:=Aside0.mk (blk_below (bk BK134.out) hb);have n3_:=Aside0.mk (below_step (bl HB.out) hb);have z_HO143:=fun(h0_:b 7=true)=>(show Kd.S (Kd.slice 2 (Kd.int .i64)) 24 w10 w.heap.size (fun _=>True) v142 y141 from by first|exact(Kd.S_elder' (by(with_reducible repeat(first|apply Kd.S_alloc|apply Kd.S_drewN|apply Kd.S_drew));exact(Q_HO143 h0_)) (Kd.R_base ho0) hb)|exact Kd.S_mono (Kd.S_elder' (by(with_reducible repeat(first|apply Kd.S_alloc|apply Kd.S_drewN|apply Kd.S_drew));exact(Q_HO143 h0_)) (Kd.R_base ho0) hb) (fun _ h_=>by first|trivial|exact h_|exact h_.1))
   clear HO137;clear BK134;clear HB;have HO137:=n0_;have HO140:=n1_;have BK134:=n2_;have HB:=n3_;clear n0_ n1_ n2_ n3_;(try clear hb)
   (try clear hb2)
   (try clear hk)
   (try clear hi)
   (try clear ho0)
   refine hK.out _ _ ⟨v136,v139,v142,m8_,m9_,m10_,(by rw[ha.out];exact putSel_upk 4 hb_ rfl rfl rfl),(bk BK134.out),(bl HB.out),fun _=>(by(with_reducible repeat(first|apply Kd.R_alloc|apply Kd.R_drewN|apply Kd.R_drew));exact Kd.R_mono HO137.out (fun _ hk _=>hk.2)),fun _=>(by(with_reducible repeat(first|apply Kd.R_alloc|apply Kd.R_drewN|apply Kd.R_drew));exact Kd.R_mono HO140.out (fun _ hk=>hk.2)),z_HO143,fun h0_=>absurd ((hoff 8 (by kernel_rfl)).symm.trans h0_) (by decide),fun h0_=>absurd ((hoff 9 (by kernel_rfl)).symm.trans h0_) (by decide),fun h0_=>absurd ((hoff 10 (by kernel_rfl)).symm.trans h0_) (by decide)⟩
  refine steps_cons ?_ ?_
  ·rintro b a w' ⟨v136,v139,v142,m8_,m9_,m10_,ha,Q_BK134,Q_HB,Q_HO137,Q_HO140,Q_HO143,Q_X8_,Q_X9_,Q_X10_⟩ hb_ hon hoff;refine⟨_,rfl,fun K hK=>?_⟩;replace ha:=Aside0.mk ha;have BK134:=Aside0.mk Q_BK134;have HB:=Aside0.mk Q_HB;refine Kd.S_lit_step (Kd.slice 2 (Kd.int .i64)) _ 24 ?hg (N:=22) ?hd (xs:=([]:List (List Int))) (inner:= []) (ok:=fun _=>True) (okp:=fun _=>True) ?hr ?hp (fun _ hk=>hk) trivial (Below.refl _ _) (Nat.le_refl _) (by simp) ?_;(case hd=>rfl);(case hg=>rfl);(case hr=>first|(go_simp;done)|(go_simp;rfl));(case hp=>exact(Reps.none _ _));intro v142 w8 ho9 hb hg_ hnew_;clear hg_ hnew_;(first|rw[← Ny141.out] at ho9|(simp only [Int.reduceToNat] at ho9;rw[← Ny141.out] at ho9))
   have n0_:=Aside0.mk (Kd.S_lower ho9 (below_size (bl HB.out)));have n1_:=Aside0.mk (blk_below (bk BK134.out) hb);have n2_:=Aside0.mk (below_step (bl HB.out) hb);have z_HO137:=fun(h0_:b 2=true)=>(show Kd.R (Kd.int .i64) 2 w8 w.heap.size (fun k_=>b 6=true→some k_≠(v139:Value).ownBlock) v136 t135 from by first|exact(Kd.R_below (by(with_reducible repeat(first|apply Kd.R_alloc|apply Kd.R_drewN|apply Kd.R_drew));exact(Q_HO137 h0_)) hb)|exact Kd.R_mono (Kd.R_below (by(with_reducible repeat(first|apply Kd.R_alloc|apply Kd.R_drewN|apply Kd.R_drew));exact(Q_HO137 h0_)) hb) (fun _ h_=>by first|trivial|exact h_|exact h_.1))
   have z_HO140:=fun(h0_:b 6=true)=>(show Kd.R (Kd.int .i64) 2 w8 w.heap.size (fun k_=>some k_≠(v136:Value).ownBlock) v139 t138 from by first|exact(Kd.R_below (by(with_reducible repeat(first|apply Kd.R_alloc|apply Kd.R_drewN|apply Kd.R_drew));exact(Q_HO140 h0_)) hb)|exact Kd.R_mono (Kd.R_below (by(with_reducible repeat(first|apply Kd.R_alloc|apply Kd.R_drewN|apply Kd.R_drew));exact(Q_HO140 h0_)) hb) (fun _ h_=>by first|trivial|exact h_|exact h_.1))
   clear BK134;clear HB;have HO143:=n0_;have BK134:=n1_;have HB:=n2_;clear n0_ n1_ n2_;clear hb ho9;refine hK.out _ _ ⟨v136,v139,v142,m8_,m9_,m10_,(by rw[ha.out];exact putSel_upk 5 hb_ rfl rfl rfl),(bk BK134.out),(bl HB.out),z_HO137,z_HO140,fun _=>(by(with_reducible repeat(first|apply Kd.S_alloc|apply Kd.S_drewN|apply Kd.S_drew));exact HO143.out),Q_X8_,Q_X9_,fun h0_=>absurd ((hoff 10 (by kernel_rfl)).symm.trans h0_) (by decide)⟩
  refine steps_cons ?_ ?_
  ·rintro b a w' ⟨v136,v139,v142,m8_,m9_,m10_,ha,Q_BK134,Q_HB,Q_HO137,Q_HO140,Q_HO143,Q_X8_,Q_X9_,Q_X10_⟩ hb_ hon hoff;refine⟨_,rfl,fun K hK=>?_⟩;have e17:a.tmps[17]?=some (v136):=by rw[ha];exact putSel_on (e:=(2,17,v136)) 1 rfl rfl (hon 2 (by kernel_rfl)) rfl
   replace ha:=Aside0.mk ha;have BK134:=Aside0.mk Q_BK134;have HB:=Aside0.mk Q_HB;have HO137:=Aside0.mk (Q_HO137 (hon 2 (by kernel_rfl)));have HO140:=Aside0.mk (Q_HO140 (hon 6 (by kernel_rfl)));refine value_ (w1:=w') (v:=v136) (by rfl) rfl ?_ ?_
   ·go_simp;(try simp only [i64_w])
    try rfl
   refine hK.out _ _ ⟨v136,v139,v142,(v136),m9_,m10_,(by rw[ha.out];exact putSel_upk 6 hb_ rfl rfl rfl),Q_BK134,Q_HB,Q_HO137,Q_HO140,Q_HO143,fun _=>rfl,fun h0_=>absurd ((hoff 9 (by kernel_rfl)).symm.trans h0_) (by decide),fun h0_=>absurd ((hoff 10 (by kernel_rfl)).symm.trans h0_) (by decide)⟩
  refine steps_cons ?_ ?_
  ·rintro b a w' ⟨v136,v139,v142,m8_,m9_,m10_,ha,Q_BK134,Q_HB,Q_HO137,Q_HO140,Q_HO143,Q_X8_,Q_X9_,Q_X10_⟩ hb_ hon hoff;refine⟨_,rfl,fun K hK=>?_⟩;have e21:a.tmps[21]?=some (v139):=by rw[ha];exact putSel_on (e:=(6,21,v139)) 4 rfl rfl (hon 6 (by kernel_rfl)) rfl
   replace ha:=Aside0.mk ha;have BK134:=Aside0.mk Q_BK134;have HB:=Aside0.mk Q_HB;have HO137:=Aside0.mk (Q_HO137 (hon 2 (by kernel_rfl)));have HO140:=Aside0.mk (Q_HO140 (hon 6 (by kernel_rfl)));refine value_ (w1:=w') (v:=v139) (by rfl) rfl ?_ ?_
   ·go_simp;(try simp only [i64_w])
    try rfl
   refine hK.out _ _ ⟨v136,v139,v142,m8_,(v139),m10_,(by rw[ha.out];exact putSel_upk 7 hb_ rfl rfl rfl),Q_BK134,Q_HB,Q_HO137,Q_HO140,Q_HO143,Q_X8_,fun _=>rfl,fun h0_=>absurd ((hoff 10 (by kernel_rfl)).symm.trans h0_) (by decide)⟩
  refine steps_cons ?_ ?_
  ·rintro b a w' ⟨v136,v139,v142,m8_,m9_,m10_,ha,Q_BK134,Q_HB,Q_HO137,Q_HO140,Q_HO143,Q_X8_,Q_X9_,Q_X10_⟩ hb_ hon hoff;refine⟨_,rfl,fun K hK=>?_⟩;have e22:a.tmps[22]?=some (v142):=by rw[ha];exact putSel_on (e:=(7,22,v142)) 5 rfl rfl (hon 7 (by kernel_rfl)) rfl
   replace ha:=Aside0.mk ha;have BK134:=Aside0.mk Q_BK134;have HB:=Aside0.mk Q_HB;have HO137:=Aside0.mk (Q_HO137 (hon 2 (by kernel_rfl)));have HO140:=Aside0.mk (Q_HO140 (hon 6 (by kernel_rfl)));have HO143:=Aside0.mk (Q_HO143 (hon 7 (by kernel_rfl)));refine value_ (w1:=w') (v:=v142) (by rfl) rfl ?_ ?_
   ·go_simp;(try simp only [i64_w])
    try rfl
   refine hK.out _ _ ⟨v136,v139,v142,m8_,m9_,(v142),(by rw[ha.out];exact putSel_upk 8 hb_ rfl rfl rfl),Q_BK134,Q_HB,Q_HO137,Q_HO140,Q_HO143,Q_X8_,Q_X9_,fun _=>rfl⟩
  exact steps_nil
 rintro b a w12 hall ⟨v136,v139,v142,m8_,m9_,m10_,ha,Q_BK134,Q_HB,Q_HO137,Q_HO140,Q_HO143,Q_X8_,Q_X9_,Q_X10_⟩;clear BK134 HB;have hb0_:=hall 0 (by kernel_rfl);have hb2_:=hall 2 (by kernel_rfl);have hb3_:=hall 3 (by kernel_rfl);have hb5_:=hall 5 (by kernel_rfl);have hb6_:=hall 6 (by kernel_rfl);have hb7_:=hall 7 (by kernel_rfl);have hb8_:=hall 8 (by kernel_rfl);have hb9_:=hall 9 (by kernel_rfl);have hb10_:=hall 10 (by kernel_rfl);subst ha;obtain rfl:=(Q_X8_ hb8_).symm;obtain rfl:=(Q_X9_ hb9_).symm;obtain rfl:=(Q_X10_ hb10_).symm;simp only [putSel,hb0_,hb2_,hb3_,hb5_,hb6_,hb7_,hb8_,hb9_,hb10_,if_true,Act.put,List.setIfInBounds_toArray,List.set_cons_zero,List.set_cons_succ];have BK134:=Aside0.mk Q_BK134;clear Q_BK134;have HB:=Aside0.mk Q_HB;clear Q_HB;have HO137:=Aside0.mk (Kd.R_mono (Q_HO137 hb2_) (fun _ hk=>hk hb6_));clear Q_HO137;have HO140:=Aside0.mk (Q_HO140 hb6_);clear Q_HO140;have HO143:=Aside0.mk (S_empty_apart Ny141.out (Q_HO143 hb7_) (by decide) HO137.out HO140.out);clear Q_HO143;clear hall hb0_ hb2_ hb3_ hb5_ hb6_ hb7_ hb8_ hb9_ hb10_;try go_wp2
 go_loopg [9,10] k (fun kq v9 v10 w'=>∃(x7_1:List Int) (x8_1:List Int) (x9_1:List (List Int)) (x10_1:Int),v10 = .int .i64 x10_1∧Aside0 (spec_l03Rows.l0 kq a2 x7_1 x8_1 x9_1 x10_1=some r)∧Aside0 (kq≤k)∧Aside0 (Kd.R (Kd.int .i64) 2 w' w.heap.size (fun k_=>some k_≠(v139:Value).ownBlock) v136 x7_1)∧Aside0 (Kd.R (Kd.int .i64) 2 w' w.heap.size (fun k_=>some k_≠(v136:Value).ownBlock) v139 x8_1)∧Aside0 (Kd.S (Kd.slice 2 (Kd.int .i64)) 24 w' w.heap.size (fun k_=>some k_≠(v136:Value).ownBlock∧some k_≠(v139:Value).ownBlock) v9 x9_1)∧Aside0 (w'.heap[gb134]?=some (.cells #[.int .i64 a0_0,(.slice A0_1 l0_1.length c0_1)] 26 (0,0)))∧Aside0 (Below w.heap.size w w'))
 case atStart=>exact⟨(t135),(t138),(y141),(0),rs,H',⟨Nat.le_refl _⟩,⟨kr HO137.out⟩,⟨kr HO140.out⟩,⟨by(with_reducible repeat(first|apply Kd.S_alloc|apply Kd.S_drewN|apply Kd.S_drew));exact HO143.out⟩,⟨bk BK134.out⟩,⟨bl HB.out⟩⟩
 case round=>
  clear H';try clear c1
  try clear p2
  try clear p6
  try clear c11
  obtain ⟨x7_1,x8_1,x9_1,x10_1,rfl,HA,HK1,HO_7,HO_8,HO_9,BK134,HB⟩:=hrel;cases gk with
  |zero=>exact absurd HA.out (by simp [spec_l03Rows.l0])
  |succ k1=>
   have H:=HA.out;clear HA;simp only [spec_l03Rows.l0] at H;by_cases c13:x10_1<(x7_1.length:Int)
   ·rw[if_pos c13] at H;have c13b0:decide (x10_1<(x7_1.length:Int))=true:=decide_eq_true c13;clear c13;by_cases c14:0≤(x8_1.length:Int)
    ·rw[if_pos c14] at H;have c14b0:=eq_true c14;have c14b1:decide (0≤(x8_1.length:Int))=true:=decide_eq_true c14;clear c14;by_cases c15:((x8_1.length:Int):Int).toNat≤35184372088832
     ·rw[if_pos c15] at H;have c15b0:=eq_true c15;have c15b1:decide (((x8_1.length:Int):Int).toNat≤35184372088832)=true:=decide_eq_true c15;clear c15;obtain ⟨y144,hy144⟩:∃ y_:List Int,y_=(List.replicate ((x8_1.length:Int):Int).toNat 0):=⟨_,rfl⟩
      replace H:(if 0≤x10_1 then ((spec_l01Below.f k1 (rd x7_1 x10_1)).bind fun t148=>((spec_l03Signs.f k1 (rd x7_1 x10_1)).bind fun t152=>(spec_l03Rows.l1 k1 a2 x7_1 x8_1 x9_1 x10_1 y144 t148 t152 0))) else (none))=some r:=by first|(rw[hy144];with_reducible exact H)|(have H2_:=(Option.bind_some _ _).symm.trans H;rw[hy144];with_reducible exact H2_)|(have H2_:=(Option.bind_some _ _).symm.trans H;with_reducible exact H2_)|with_reducible exact H|(rw[hy144];exact H)|exact H
      have Ny144:=Aside0.mk hy144;clear hy144;by_cases c16:0≤x10_1
      ·rw[if_pos c16] at H;have c16b0:decide (0≤x10_1)=true:=decide_eq_true c16;clear c16;replace H:=Option.bind_eq_some_iff.mp H;obtain ⟨t148,A170,H⟩:=H;replace H:((spec_l03Signs.f k1 (rd x7_1 x10_1)).bind fun t152=>(spec_l03Rows.l1 k1 a2 x7_1 x8_1 x9_1 x10_1 y144 t148 t152 0))=some r:=H;have A17:=Aside0.mk A170;clear A170;replace H:=Option.bind_eq_some_iff.mp H;obtain ⟨t152,A180,H⟩:=H;replace H:(spec_l03Rows.l1 k1 a2 x7_1 x8_1 x9_1 x10_1 y144 t148 t152 0)=some r:=H;have A18:=Aside0.mk A180;clear A180;have H':=Aside0.mk H;clear H;obtain ⟨Ao19,co19,eo19⟩:=Kd.R_slice HO_7.out;subst eo19;obtain ⟨Ao20,co20,eo20⟩:=Kd.R_slice HO_8.out;subst eo20;try go_wp2_with (first|((with_reducible refine gate_dst (N:=31) rfl ?_);refine Kd.R_make (Kd.int .i64) _ 2 rfl (N:=31) rfl 24 _ _ rfl (x8_1.length:Int) rfl rfl Tryz.underlying24 (.int .i64 0) 8 info2 rfl (by decide) (by omega) 0 (ok:=fun _=>True) (okp:=fun _=>True) rfl (fun _ hk=>hk) trivial (dd) (Nat.le_trans (Nat.mul_le_mul_right _ (dd:(x8_1.length:Int).toNat≤35184372088832)) (by omega)) (Below.refl _ _) (Nat.le_refl _) ?_;intro v145 w21 ho22 hb hg_ hnew_;clear hg_ hnew_;(first|rw[← Ny144.out] at ho22|(simp only [Int.reduceToNat] at ho22;rw[← Ny144.out] at ho22));replace HO_9:=Aside0.mk (Kd.S_elder' (by(with_reducible repeat(first|apply Kd.S_alloc|apply Kd.S_drewN|apply Kd.S_drew));exact HO_9.out) (Kd.R_base ho22) hb);have HO146:=Aside0.mk (Kd.R_lower (Kd.R_new' (Kd.R_new' ho22 (Kd.R_lt (kr HO_7.out))) (Kd.R_lt (kr HO_8.out))) (below_size (bl HB.out)));replace HO_7:=Aside0.mk (Kd.R_elder' (kr HO_7.out) (Kd.R_base ho22) hb);replace HO_8:=Aside0.mk (Kd.R_elder' (kr HO_8.out) (Kd.R_base ho22) hb);replace BK134:=bkA BK134 hb;replace HB:=bsA HB hb;clear hb ho22))
       replace HO_7:=Aside0.mk (Kd.R_drew HO_7.out);replace HO_8:=Aside0.mk (Kd.R_drew HO_8.out);replace HO_9:=Aside0.mk (Kd.S_drew HO_9.out);replace HO146:=Aside0.mk (Kd.R_drew HO146.out);replace BK134:=Aside0.mk (blk_drew BK134.out);replace HB:=Aside0.mk (below_drew1 HB.out);have p147:0≤(x10_1:Int):=dd;have q147:x10_1<(x7_1.length:Int):=dd;obtain ⟨ad147,e147,hx147_0⟩:=Kd.at_int (Kd.R_reads' HO_7.out).2.2 x10_1 p147 q147;cases e147;replace p147:=eq_true p147;replace q147:=eq_true q147;have p151:0≤(x10_1:Int):=dd;have q151:x10_1<(x7_1.length:Int):=dd;obtain ⟨ad151,e151,hx151_0⟩:=Kd.at_int (Kd.R_reads' HO_7.out).2.2 x10_1 p151 q151;obtain rfl:ad147=ad151:=(by injection e151)
       replace p151:=eq_true p151;replace q151:=eq_true q151;refine start_ (n:=12) (S:=fun w'=>w'.cell? (ad147.add (x10_1).toNat)=some (.int .i64 (rd x7_1 x10_1))∧w'.cell? (ad147.add (x10_1).toNat)=some (.int .i64 (rd x7_1 x10_1))) (ds:= []) (ar 0 12) (by kernel_rfl) rfl rfl ⟨hx147_0,hx151_0⟩ (fun hHeld=>?_);refine with_tabW spec_l03Rows.tab6 spec_l03Rows.bits6 (fun HT_ HW_=>?_);generalize w21.drew=w23 at HO_7 HO_8 HO_9 HO146 BK134 HB hx147_0 hx151_0 hHeld ⊢;refine pu 0 (some 32) (ar 1 11) HT_ ?_;refine pu 1 (some 33) (ar 2 10) HT_ ?_;refine pu 2 (some 34) (ar 3 9) HT_ ?_;refine pu 5 (some 37) #[U,U,U,O,O,U,O,O,O,O,O,O] HT_ ?_;refine pu 6 (some 38) #[U,U,U,O,O,U,U,O,O,O,O,O] HT_ ?_;refine pu 7 (some 39) #[U,U,U,O,O,U,U,U,O,O,O,O] HT_ ?_;refine tk 3 (some 35) #[U,U,U,U,O,U,U,U,O,O,O,O] HT_ HW_ hHeld ?_;refine tk 8 (some 40) #[U,U,U,U,O,U,U,U,U,O,O,O] HT_ HW_ hHeld ?_;refine on_ 4 (some 36) (ar 9 3) HT_ fun K hK=>?_;refine gr Tryz.func125 #[.int .i64 (rd x7_1 x10_1)] ?_;with_reducible refine(spec_l01Below.calls k1 (rd x7_1 x10_1) t148 _ A17.out).mono ?_
       rintro e w24 ⟨v149,rfl,ho0,hb⟩;have HS0_:=(hb.cell (World.block_lt_of_cell? _ _ (hHeld.1))).trans (hHeld.1);have HS1_:=(hb.cell (World.block_lt_of_cell? _ _ (hHeld.2))).trans (hHeld.2);refine⟨_,rfl,?_⟩;replace HO_9:=Aside0.mk (Kd.S_elder' (by(with_reducible repeat(first|apply Kd.S_alloc|apply Kd.S_drewN|apply Kd.S_drew));exact HO_9.out) (Kd.R_base ho0) hb);have HO150:=Aside0.mk (Kd.R_lower (Kd.R_new' (Kd.R_new' (Kd.R_new' ho0 (Kd.R_lt (kr HO_7.out))) (Kd.R_lt (kr HO_8.out))) (Kd.R_lt (kr HO146.out))) (below_size (bl HB.out)));replace HO_7:=Aside0.mk (Kd.R_elder' (kr HO_7.out) (Kd.R_base ho0) hb);replace HO_8:=Aside0.mk (Kd.R_elder' (kr HO_8.out) (Kd.R_base ho0) hb);replace HO146:=Aside0.mk (Kd.R_elder' (kr HO146.out) (Kd.R_base ho0) hb);replace BK134:=bkA BK134 hb;replace HB:=bsA HB hb;(try clear hb)
       (try clear hb2)
       (try clear hk)
       (try clear hi)
       (try clear ho0)
       refine hK.out _ _ ⟨HS0_,HS1_⟩ (fun hHeld=>?_);clear hK K;refine nr 36 ?_;refine on_ 9 (some 41) (ar 10 2) HT_ fun K hK=>?_;refine gr Tryz.func120 #[.int .i64 (rd x7_1 x10_1)] ?_;with_reducible refine(spec_l03Signs.calls k1 (rd x7_1 x10_1) t152 _ A18.out).mono ?_
       rintro e w25 ⟨v153,rfl,ho0,hb⟩;have HS0_:=(hb.cell (World.block_lt_of_cell? _ _ (hHeld.1))).trans (hHeld.1);have HS1_:=(hb.cell (World.block_lt_of_cell? _ _ (hHeld.2))).trans (hHeld.2);refine⟨_,rfl,?_⟩;replace HO_9:=Aside0.mk (Kd.S_elder' (by(with_reducible repeat(first|apply Kd.S_alloc|apply Kd.S_drewN|apply Kd.S_drew));exact HO_9.out) (Kd.R_base ho0) hb);have HO154:=Aside0.mk (Kd.R_lower (Kd.R_new' (Kd.R_new' (Kd.R_new' (Kd.R_new' ho0 (Kd.R_lt (kr HO_7.out))) (Kd.R_lt (kr HO_8.out))) (Kd.R_lt (kr HO146.out))) (Kd.R_lt (kr HO150.out))) (below_size (bl HB.out)));replace HO_7:=Aside0.mk (Kd.R_elder' (kr HO_7.out) (Kd.R_base ho0) hb);replace HO_8:=Aside0.mk (Kd.R_elder' (kr HO_8.out) (Kd.R_base ho0) hb);replace HO146:=Aside0.mk (Kd.R_elder' (kr HO146.out) (Kd.R_base ho0) hb);replace HO150:=Aside0.mk (Kd.R_elder' (kr HO150.out) (Kd.R_base ho0) hb);replace BK134:=bkA BK134 hb;replace HB:=bsA HB hb;(try clear hb)
       (try clear hb2)
       (try clear hk)
       (try clear hi)
       (try clear ho0)
       refine hK.out _ _ ⟨HS0_,HS1_⟩ (fun hHeld=>?_);clear hK K;refine nr 41 ?_;refine pu 10 (some 12) (ar 11 1) HT_ ?_;refine pu 11 (some 13) (ar 12 0) HT_ ?_;refine done_ (done_of HT_.out (by kernel_rfl)) ?_;try go_wp2
       go_loopg [14] k1 (fun kq v14 w'=>∃(x11_2:List Int) (x14_2:Int),v14 = .int .i64 x14_2∧Aside0 (spec_l03Rows.l1 kq a2 x7_1 x8_1 x9_1 x10_1 x11_2 t148 t152 x14_2=some r)∧Aside0 (kq≤k1)∧Aside0 (Kd.R (Kd.int .i64) 2 w' w.heap.size (fun k_=>some k_≠((.slice Ao20 x8_1.length co20):Value).ownBlock∧some k_≠(v145:Value).ownBlock∧some k_≠(v149:Value).ownBlock∧some k_≠(v153:Value).ownBlock) (.slice (some ad147) x7_1.length co19) x7_1)∧Aside0 (Kd.R (Kd.int .i64) 2 w' w.heap.size (fun k_=>some k_≠((.slice (some ad147) x7_1.length co19):Value).ownBlock∧some k_≠(v145:Value).ownBlock∧some k_≠(v149:Value).ownBlock∧some k_≠(v153:Value).ownBlock) (.slice Ao20 x8_1.length co20) x8_1)∧Aside0 (Kd.S (Kd.slice 2 (Kd.int .i64)) 24 w' w.heap.size (fun k_=>some k_≠((.slice (some ad147) x7_1.length co19):Value).ownBlock∧some k_≠((.slice Ao20 x8_1.length co20):Value).ownBlock∧some k_≠(v145:Value).ownBlock∧some k_≠(v149:Value).ownBlock∧some k_≠(v153:Value).ownBlock) u9 x9_1)∧Aside0 (Kd.R (Kd.int .i64) 2 w' w.heap.size (fun k_=>some k_≠((.slice (some ad147) x7_1.length co19):Value).ownBlock∧some k_≠((.slice Ao20 x8_1.length co20):Value).ownBlock∧some k_≠(v149:Value).ownBlock∧some k_≠(v153:Value).ownBlock) v145 x11_2)∧Aside0 (Kd.R (Kd.int .i64) 2 w' w.heap.size (fun k_=>some k_≠((.slice (some ad147) x7_1.length co19):Value).ownBlock∧some k_≠((.slice Ao20 x8_1.length co20):Value).ownBlock∧some k_≠(v145:Value).ownBlock∧some k_≠(v153:Value).ownBlock) v149 t148)∧Aside0 (Kd.R (Kd.int .i64) 2 w' w.heap.size (fun k_=>some k_≠((.slice (some ad147) x7_1.length co19):Value).ownBlock∧some k_≠((.slice Ao20 x8_1.length co20):Value).ownBlock∧some k_≠(v145:Value).ownBlock∧some k_≠(v149:Value).ownBlock) v153 t152)∧Aside0 (w'.heap[gb134]?=some (.cells #[.int .i64 a0_0,(.slice A0_1 l0_1.length c0_1)] 26 (0,0)))∧Aside0 (Below w.heap.size w w'))
       case atStart=>exact⟨(y144),(0),rs,H',⟨Nat.le_refl _⟩,⟨by(with_reducible repeat(first|apply Kd.R_alloc|apply Kd.R_drewN|apply Kd.R_drew));exact Kd.R_mono HO_7.out (fun _ hk=>⟨hk.1.1.1,⟨hk.1.1.2,⟨hk.1.2,hk.2⟩⟩⟩)⟩,⟨by(with_reducible repeat(first|apply Kd.R_alloc|apply Kd.R_drewN|apply Kd.R_drew));exact Kd.R_mono HO_8.out (fun _ hk=>⟨hk.1.1.1,⟨hk.1.1.2,⟨hk.1.2,hk.2⟩⟩⟩)⟩,⟨by(with_reducible repeat(first|apply Kd.S_alloc|apply Kd.S_drewN|apply Kd.S_drew));exact Kd.S_mono HO_9.out (fun _ hk=>⟨hk.1.1.1.1,⟨hk.1.1.1.2,⟨hk.1.1.2,⟨hk.1.2,hk.2⟩⟩⟩⟩)⟩,⟨by(with_reducible repeat(first|apply Kd.R_alloc|apply Kd.R_drewN|apply Kd.R_drew));exact Kd.R_mono HO146.out (fun _ hk=>⟨hk.1.1.1.2,⟨hk.1.1.2,⟨hk.1.2,hk.2⟩⟩⟩)⟩,⟨by(with_reducible repeat(first|apply Kd.R_alloc|apply Kd.R_drewN|apply Kd.R_drew));exact Kd.R_mono HO150.out (fun _ hk=>⟨hk.1.1.1.2,⟨hk.1.1.2,⟨hk.1.2,hk.2⟩⟩⟩)⟩,⟨by(with_reducible repeat(first|apply Kd.R_alloc|apply Kd.R_drewN|apply Kd.R_drew));exact Kd.R_mono HO154.out (fun _ hk=>⟨hk.1.1.1.2,⟨hk.1.1.2,⟨hk.1.2,hk.2⟩⟩⟩)⟩,⟨bk BK134.out⟩,⟨bl HB.out⟩⟩
       case round=>
        clear H';try clear c1
        try clear p1
        try clear q1
        try clear hx1
        try clear p2
        try clear p6
        try clear c11
        try clear c12
        try clear c13
        try clear c13b0
        try clear c14
        try clear c14b0
        try clear c14b1
        try clear p14
        try clear q14
        try clear hx14
        try clear c15
        try clear c15b0
        try clear c15b1
        try clear p15
        try clear q15
        try clear hx15
        try clear c16
        try clear c16b0
        try clear hx147_0
        try clear hx151_0
        try clear p147
        try clear p151
        try clear p2
        try clear p6
        try clear q147
        try clear q151
        obtain ⟨x11_2,x14_2,rfl,HA,HK2,HO_7,HO_8,HO_9,HO_11,HO_12,HO_13,BK134,HB⟩:=hrel;cases gk with
        |zero=>exact absurd HA.out (by simp [spec_l03Rows.l1])
        |succ k2=>
         have H:=HA.out;clear HA;simp only [spec_l03Rows.l1] at H;by_cases c26:x14_2<(t148.length:Int)
         ·rw[if_pos c26] at H;have c26b0:decide (x14_2<(t148.length:Int))=true:=decide_eq_true c26;clear c26;by_cases c27:0≤x14_2
          ·rw[if_pos c27] at H;have c27b0:decide (0≤x14_2)=true:=decide_eq_true c27;clear c27;replace H:=Option.bind_eq_some_iff.mp H;obtain ⟨t156,A280,H⟩:=H;replace H:(if x14_2<(t152.length:Int) then (if a2=0 then (none) else (if 0≤t156 then (if t156<(x11_2.length:Int) then (spec_l03Rows.l1 k2 a2 x7_1 x8_1 x9_1 x10_1 (x11_2.set (t156:Int).toNat (Int.tmod (wrap64 ((rd t152 x14_2)+a2)) a2)) t148 t152 (wrap64 (x14_2+1))) else (none)) else (none))) else (none))=some r:=H;have A28:=Aside0.mk A280;clear A280;by_cases c29:x14_2<(t152.length:Int)
           ·rw[if_pos c29] at H;have c29b0:decide (x14_2<(t152.length:Int))=true:=decide_eq_true c29;clear c29;by_cases c30:a2=0
            ·rw[if_pos c30] at H;exact absurd H (by simp)
            ·rw[if_neg c30] at H;have c30b0:(a2 == 0)=false:=beq_eq_false_iff_ne.mpr c30;have c30b1:(a2 != 0)=true:=bne_iff_ne.mpr c30;by_cases c31:0≤t156
             ·rw[if_pos c31] at H;have c31b0:decide (0≤t156)=true:=decide_eq_true c31;clear c31;by_cases c32:t156<(x11_2.length:Int)
              ·rw[if_pos c32] at H;have c32b0:decide (t156<(x11_2.length:Int))=true:=decide_eq_true c32;clear c32;obtain ⟨y158,hy158⟩:∃ y_:List Int,y_=(x11_2.set (t156:Int).toNat (Int.tmod (wrap64 ((rd t152 x14_2)+a2)) a2)):=⟨_,rfl⟩
               replace H:(spec_l03Rows.l1 k2 a2 x7_1 x8_1 x9_1 x10_1 y158 t148 t152 (wrap64 (x14_2+1)))=some r:=by first|(rw[hy158];with_reducible exact H)|(have H2_:=(Option.bind_some _ _).symm.trans H;rw[hy158];with_reducible exact H2_)|(have H2_:=(Option.bind_some _ _).symm.trans H;with_reducible exact H2_)|with_reducible exact H|(rw[hy158];exact H)|exact H
               have Ny158:=Aside0.mk hy158;clear hy158;have H':=Aside0.mk H;clear H;obtain ⟨Ao34,co34,eo34⟩:=Kd.R_slice HO_12.out;subst eo34;try go_wp2
               replace HO_7:=Aside0.mk (Kd.R_drew HO_7.out);replace HO_8:=Aside0.mk (Kd.R_drew HO_8.out);replace HO_9:=Aside0.mk (Kd.S_drew HO_9.out);replace HO_11:=Aside0.mk (Kd.R_drew HO_11.out);replace HO_12:=Aside0.mk (Kd.R_drew HO_12.out);replace HO_13:=Aside0.mk (Kd.R_drew HO_13.out);replace BK134:=Aside0.mk (blk_drew BK134.out);replace HB:=Aside0.mk (below_drew1 HB.out);have p155:0≤(x14_2:Int):=dd;have q155:x14_2<(t148.length:Int):=dd;obtain ⟨ad155,e155,hx155_0⟩:=Kd.at_int (Kd.R_reads' HO_12.out).2.2 x14_2 p155 q155;cases e155;replace p155:=eq_true p155;replace q155:=eq_true q155;obtain ⟨Ao36,co36,eo36⟩:=Kd.R_slice HO_13.out;(first|subst eo36|(injection eo36 with f1_ f2_ f3_;have f4_:=f1_.symm;have f5_:=f3_.symm;clear f1_ f2_ f3_;subst f4_;subst f5_))
               have p157:0≤(x14_2:Int):=dd;have q157:x14_2<(t152.length:Int):=dd;obtain ⟨ad157,e157,hx157_0⟩:=Kd.at_int (Kd.R_reads' HO_13.out).2.2 x14_2 p157 q157;cases e157;replace p157:=eq_true p157;replace q157:=eq_true q157;refine start_ (n:=17) (S:=fun w'=>w'.cell? (ad155.add (x14_2).toNat)=some (.int .i64 (rd t148 x14_2))∧w'.cell? (ad157.add (x14_2).toNat)=some (.int .i64 (rd t152 x14_2))) (ds:= [16]) (ar 0 17) (by kernel_rfl) rfl rfl ⟨hx155_0,hx157_0⟩ (fun hHeld=>?_);refine with_tabW spec_l03Rows.tab10 spec_l03Rows.bits10 (fun HT_ HW_=>?_);generalize wr.drew=w35 at HO_7 HO_8 HO_9 HO_11 HO_12 HO_13 BK134 HB hx155_0 hx157_0 hHeld ⊢;refine pu 0 (some 48) (ar 1 16) HT_ ?_;refine pu 1 (some 49) (ar 2 15) HT_ ?_;refine pu 2 (some 50) (ar 3 14) HT_ ?_;refine pu 3 (some 51) (ar 4 13) HT_ ?_;refine pu 4 (some 52) (ar 5 12) HT_ ?_;refine pu 7 (some 55) #[U,U,U,U,U,O,O,U,O,O,O,O,O,O,O,O,O] HT_ ?_;refine pu 8 (some 56) #[U,U,U,U,U,O,O,U,U,O,O,O,O,O,O,O,O] HT_ ?_;refine pu 9 (some 57) #[U,U,U,U,U,O,O,U,U,U,O,O,O,O,O,O,O] HT_ ?_;refine pu 11 (some 59) #[U,U,U,U,U,O,O,U,U,U,O,U,O,O,O,O,O] HT_ ?_;refine pu 13 (some 61) #[U,U,U,U,U,O,O,U,U,U,O,U,O,U,O,O,O] HT_ ?_;refine tk 5 (some 53) #[U,U,U,U,U,U,O,U,U,U,O,U,O,U,O,O,O] HT_ HW_ hHeld ?_;refine tk 10 (some 58) #[U,U,U,U,U,U,O,U,U,U,U,U,O,U,O,O,O] HT_ HW_ hHeld ?_;refine pu 12 (some 60) #[U,U,U,U,U,U,O,U,U,U,U,U,U,U,O,O,O] HT_ ?_;refine pu 14 (some 62) #[U,U,U,U,U,U,O,U,U,U,U,U,U,U,U,O,O] HT_ ?_;refine on_ 6 (some 54) (ar 15 2) HT_ fun K hK=>?_;refine gr Tryz.func165 #[.slice Ao20 x8_1.length co20,.int .i64 (rd t148 x14_2)] ?_;with_reducible refine(spec_l03Place.calls k2 _ _ x8_1 (rd t148 x14_2) t156 _ (cb (Kd.R_reads' HO_8.out).2.2) ((Kd.R_reads' HO_8.out).2.1) A28.out).mono ?_
               rintro e w' ⟨rfl,⟨nd,rfl⟩⟩;refine⟨_,rfl,?_⟩;have p33:0≤(t156:Int):=dd;have q33:(t156:Int)<((x11_2.length:Int):Int):=dd;obtain ⟨go33,co33,eo33,gb33,gl33,cl33,HG33⟩:=Kd.R_form HO_11.out (by omega);(first|cases eo33|(injection eo33 with ea_ en_ ec_;(first|subst ea_|(injection ea_ with ea_;subst ea_));subst ec_;clear en_))
               have GB33:=Aside0.mk gb33;have GG33:=Aside0.mk HG33;clear gb33 gl33 HG33;obtain ⟨hx33_0,hf33_0⟩:=Kd.R_celln 0 HO_11.out (t156:Int) p33 q33;replace p33:=eq_true p33;replace q33:=eq_true q33;have HP37:=Kd.R_putn HO_11.out (t156:Int) (Int.tmod (wrap64 ((rd t152 x14_2)+a2)) a2);rw[← Ny158.out] at HP37;have HQ37:=Aside0.mk HP37;clear HP37;refine hK.out _ _ ⟨hHeld.1,hHeld.2⟩ (fun hHeld=>?_);clear hK K;refine nr 54 ?_;refine pu 15 (some 63) (ar 16 1) HT_ ?_;refine last_ (i:=16) (N:=none) (ar 17 0) rfl rfl (one_of HT_.out (by kernel_rfl)) (by decide) (fun K hK=>?_);refine skip_ (w1:=?_) (by rfl) rfl ?_ ?_;rotate_left
               ·go_simp;rfl
               refine hK.out _ _ ?_;clear hK K;refine done_ (done_of HT_.out (by kernel_rfl)) ?_;try go_wp2
               go_roundg k2
               case measure=>have:=HK1.out;have:=HK2.out;omega
               case rel=>exact⟨(y158),(wrap64 (x14_2+1)),rs,H',⟨by have:=HK1.out;have:=HK2.out;omega⟩,⟨by(with_reducible repeat(first|apply Kd.R_alloc|apply Kd.R_drewN|apply Kd.R_drew));exact Kd.R_mono (Kd.R_far (p:=⟨go33,(t156:Int).toNat,none⟩) (Kd.R_mono HO_7.out (fun k_ hk=>(⟨hk,fun e_=>hk.2.1 (by rw[e_];rfl)⟩:_∧k_≠go33))) (fun _ hk=>hk.2) (.int .i64 (Int.tmod (wrap64 ((rd t152 x14_2)+a2)) a2))) (fun _ hk=>⟨hk.1.1,⟨hk.1.2.1,⟨hk.1.2.2.1,hk.1.2.2.2⟩⟩⟩)⟩,⟨by(with_reducible repeat(first|apply Kd.R_alloc|apply Kd.R_drewN|apply Kd.R_drew));exact Kd.R_mono (Kd.R_far (p:=⟨go33,(t156:Int).toNat,none⟩) (Kd.R_mono HO_8.out (fun k_ hk=>(⟨hk,fun e_=>hk.2.1 (by rw[e_];rfl)⟩:_∧k_≠go33))) (fun _ hk=>hk.2) (.int .i64 (Int.tmod (wrap64 ((rd t152 x14_2)+a2)) a2))) (fun _ hk=>⟨hk.1.1,⟨hk.1.2.1,⟨hk.1.2.2.1,hk.1.2.2.2⟩⟩⟩)⟩,⟨by(with_reducible repeat(first|apply Kd.S_alloc|apply Kd.S_drewN|apply Kd.S_drew));exact Kd.S_mono (Kd.S_far (p:=⟨go33,(t156:Int).toNat,none⟩) (Kd.S_mono HO_9.out (fun k_ hk=>(⟨hk,fun e_=>hk.2.2.1 (by rw[e_];rfl)⟩:_∧k_≠go33))) (fun _ hk=>hk.2) (.int .i64 (Int.tmod (wrap64 ((rd t152 x14_2)+a2)) a2))) (fun _ hk=>⟨hk.1.1,⟨hk.1.2.1,⟨hk.1.2.2.1,⟨hk.1.2.2.2.1,hk.1.2.2.2.2⟩⟩⟩⟩)⟩,⟨kr HQ37.out⟩,⟨by(with_reducible repeat(first|apply Kd.R_alloc|apply Kd.R_drewN|apply Kd.R_drew));exact Kd.R_mono (Kd.R_far (p:=⟨go33,(t156:Int).toNat,none⟩) (Kd.R_mono HO_12.out (fun k_ hk=>(⟨hk,fun e_=>hk.2.2.1 (by rw[e_];rfl)⟩:_∧k_≠go33))) (fun _ hk=>hk.2) (.int .i64 (Int.tmod (wrap64 ((rd t152 x14_2)+a2)) a2))) (fun _ hk=>⟨hk.1.1,⟨hk.1.2.1,⟨hk.1.2.2.1,hk.1.2.2.2⟩⟩⟩)⟩,⟨by(with_reducible repeat(first|apply Kd.R_alloc|apply Kd.R_drewN|apply Kd.R_drew));exact Kd.R_mono (Kd.R_far (p:=⟨go33,(t156:Int).toNat,none⟩) (Kd.R_mono HO_13.out (fun k_ hk=>(⟨hk,fun e_=>hk.2.2.1 (by rw[e_];rfl)⟩:_∧k_≠go33))) (fun _ hk=>hk.2) (.int .i64 (Int.tmod (wrap64 ((rd t152 x14_2)+a2)) a2))) (fun _ hk=>⟨hk.1.1,⟨hk.1.2.1,⟨hk.1.2.2.1,hk.1.2.2.2⟩⟩⟩)⟩,⟨by(with_reducible repeat(first|refine blk_drewN ?_ _|refine blk_drew ?_|refine blk_alloc ?_ _));refine blk_far ?_ (by have h_:=Kd.R_ne HO_11.out BK134.out (by decide);intro e_;exact h_ (by rw[e_];rfl)) _;(with_reducible repeat(first|refine blk_drewN ?_ _|refine blk_drew ?_|refine blk_alloc ?_ _));exact BK134.out⟩,⟨bl HB.out⟩⟩
              ·rw[if_neg c32] at H;exact absurd H (by simp)
             ·rw[if_neg c31] at H;exact absurd H (by simp)
           ·rw[if_neg c29] at H;exact absurd H (by simp)
          ·rw[if_neg c27] at H;exact absurd H (by simp)
         ·rw[if_neg c26] at H;have c26b0:decide (x14_2<(t148.length:Int))=false:=decide_eq_false c26;clear c26;by_cases c38:x9_1.length<5864062014805
          ·rw[if_pos c38] at H;have LMc38:=Aside0.mk c38;clear c38;obtain ⟨y159,hy159⟩:∃ y_:List (List Int),y_=(x9_1 ++ [x11_2]):=⟨_,rfl⟩
           replace H:(spec_l03Rows.l0 k2 a2 x7_1 x8_1 y159 (wrap64 (x10_1+1)))=some r:=by first|(rw[hy159];with_reducible exact H)|(have H2_:=(Option.bind_some _ _).symm.trans H;rw[hy159];with_reducible exact H2_)|(have H2_:=(Option.bind_some _ _).symm.trans H;with_reducible exact H2_)|with_reducible exact H|(rw[hy159];exact H)|exact H
           have Ny159:=Aside0.mk hy159;clear hy159;have H':=Aside0.mk H;clear H;obtain ⟨Ao39,co39,eo39⟩:=Kd.R_slice HO_12.out;subst eo39;obtain ⟨Ao41,co41,eo41⟩:=Kd.R_slice HO_11.out;subst eo41;go_wp2_with (first|((with_reducible refine gate_builtin (b:= .append) (xs:=#[.tmp 64,.tmp 66]) rfl ?_);at_builtin;refine Kd.S_append (Kd.slice 2 (Kd.int .i64)) (w0:=w) w.heap.size rfl (.tmp 64) (.tmp 66) 105 24 (.slice none 0 0) 24 rfl Tryz.underlying105 info24 rfl (by decide) (by omega) u9 x9_1 x11_2 [.slice Ao41 x11_2.length co41] (fun k_=>some k_≠(.slice (some ad147) x7_1.length co19:Value).ownBlock∧some k_≠(.slice Ao20 x8_1.length co20:Value).ownBlock∧some k_≠(.slice Ao39 t148.length co39:Value).ownBlock∧some k_≠(v153:Value).ownBlock) (fun k_=>some k_=(.slice Ao41 x11_2.length co41:Value).ownBlock) rfl rfl ?aP (fun k_ hk_=>((Kd.R_mono (ok':=fun k_=>((fun k_=>some k_≠(.slice (some ad147) x7_1.length co19:Value).ownBlock∧some k_≠(.slice Ao20 x8_1.length co20:Value).ownBlock∧some k_≠(.slice Ao39 t148.length co39:Value).ownBlock∧some k_≠(v153:Value).ownBlock)) k_∧some k_≠(u9:Value).ownBlock) (Kd.R_apart' (HO_11.out) (Kd.S_typed HO_9.out) (by decide)) (fun k_ hk=>⟨⟨hk.1.1,⟨hk.1.2.1,⟨hk.1.2.2.1,hk.1.2.2.2⟩⟩⟩,hk.2⟩))).1 k_ hk_.symm) ?aF ?aO ?aB ?aS ?aL ?_;(case aP=>exact Kd.M_row (Kd.R_mono (Kd.R_tight rfl (Kd.R_mono (ok':=fun k_=>((fun k_=>some k_≠(.slice (some ad147) x7_1.length co19:Value).ownBlock∧some k_≠(.slice Ao20 x8_1.length co20:Value).ownBlock∧some k_≠(.slice Ao39 t148.length co39:Value).ownBlock∧some k_≠(v153:Value).ownBlock)) k_∧some k_≠(u9:Value).ownBlock) (Kd.R_apart' (HO_11.out) (Kd.S_typed HO_9.out) (by decide)) (fun k_ hk=>⟨⟨hk.1.1,⟨hk.1.2.1,⟨hk.1.2.2.1,hk.1.2.2.2⟩⟩⟩,hk.2⟩))) (fun _ h_=>h_)));(case aB=>exact(bl HB.out));(case aF=>exact(fun k_ hk=>⟨Kd.fresh' (Kd.R_lt (kr HO_7.out)) k_ hk,Kd.fresh' (Kd.R_lt (kr HO_8.out)) k_ hk,Kd.fresh' (Kd.R_lt (kr HO_12.out)) k_ hk,Kd.fresh' (Kd.R_lt (kr HO_13.out)) k_ hk⟩));(case aO=>exact(by(with_reducible repeat(first|apply Kd.S_alloc|apply Kd.S_drewN|apply Kd.S_drew));exact Kd.S_mono HO_9.out (fun k_ hk=>⟨⟨hk.1,⟨hk.2.1,⟨hk.2.2.2.1,hk.2.2.2.2⟩⟩⟩,fun e_=>hk.2.2.1 e_⟩)));(case aS=>exact(below_size (bl HB.out)));(case aL=>have:=LMc38.out;omega);intro v160 w40 ho hb hg hat;rw[← Ny159.out] at ho;have n0_:=Aside0.mk (Kd.R_over' (kr HO_7.out) (Kd.S_typed (by(with_reducible repeat(first|apply Kd.S_alloc|apply Kd.S_drewN|apply Kd.S_drew));exact HO_9.out)) (by decide) hg);have n1_:=Aside0.mk (Kd.R_over' (kr HO_8.out) (Kd.S_typed (by(with_reducible repeat(first|apply Kd.S_alloc|apply Kd.S_drewN|apply Kd.S_drew));exact HO_9.out)) (by decide) hg);have n2_:=Aside0.mk (Kd.R_over' (kr HO_12.out) (Kd.S_typed (by(with_reducible repeat(first|apply Kd.S_alloc|apply Kd.S_drewN|apply Kd.S_drew));exact HO_9.out)) (by decide) hg);have n3_:=Aside0.mk (Kd.R_over' (kr HO_13.out) (Kd.S_typed (by(with_reducible repeat(first|apply Kd.S_alloc|apply Kd.S_drewN|apply Kd.S_drew));exact HO_9.out)) (by decide) hg);have n4_:=Aside0.mk (blk_grown (bk BK134.out) hg (Kd.S_ne HO_9.out BK134.out (by decide)));have n5_:=Aside0.mk (hb);have n6_:=Aside0.mk (ho);clear HO_7;clear HO_8;clear HO_12;clear HO_13;clear BK134;clear HB;clear HO_9;clear HO_11;have HO_7:=n0_;have HO_8:=n1_;have HO_12:=n2_;have HO_13:=n3_;have BK134:=n4_;have HB:=n5_;have HO161:=n6_;clear n0_ n1_ n2_ n3_ n4_ n5_ n6_;clear ho hb hg hat))
           go_roundg k2
           case measure=>have:=HK1.out;have:=HK2.out;omega
           case rel=>exact⟨(x7_1),(x8_1),(y159),(wrap64 (x10_1+1)),rs,H',⟨by have:=HK1.out;have:=HK2.out;omega⟩,⟨by(with_reducible repeat(first|apply Kd.R_alloc|apply Kd.R_drewN|apply Kd.R_drew));exact Kd.R_mono HO_7.out (fun _ hk=>hk.1)⟩,⟨by(with_reducible repeat(first|apply Kd.R_alloc|apply Kd.R_drewN|apply Kd.R_drew));exact Kd.R_mono HO_8.out (fun _ hk=>hk.1)⟩,⟨by(with_reducible repeat(first|apply Kd.S_alloc|apply Kd.S_drewN|apply Kd.S_drew));exact Kd.S_mono HO161.out (fun _ hk=>⟨hk.1,hk.2.1⟩)⟩,⟨bk BK134.out⟩,⟨bl HB.out⟩⟩
          ·rw[if_neg c38] at H;exact absurd H (by simp)
      ·rw[if_neg c16] at H;exact absurd H (by simp)
     ·rw[if_neg c15] at H;exact absurd H (by simp)
    ·rw[if_neg c14] at H;exact absurd H (by simp)
   ·rw[if_neg c13] at H;have c13b0:decide (x10_1<(x7_1.length:Int))=false:=decide_eq_false c13;clear c13;obtain rfl:=Option.some.inj H;obtain ⟨Ao42,co42,eo42⟩:=Kd.R_slice HO_7.out;subst eo42;go_wp2
    go_ret;exact⟨_,rr,by(with_reducible repeat(first|apply Kd.S_alloc|apply Kd.S_drewN|apply Kd.S_drew));exact Kd.S_mono HO_9.out (fun _ hk=>trivial),bl HB.out⟩
end Go.Proofs.YtbnnamejnjfkjaaGreat.Q
end

section
namespace Go.Proofs.YtbnnamejnjfkjaaGreat.K
open Go.RowKit Go.Shelf Go.Proofs.YtbnnamejnjfkjaaGreat.Q Go.Proofs.YtbnnamejnjfkjaaGreatW.PrintWords Go.Proofs.YtbnnamejnjfkjaaGreatW.PrintLast Go.Proofs.YtbnnamejnjfkjaaGreatW.PrintMore
set_option linter.unusedVariables false
set_option linter.unusedSimpArgs false
theorem specPlace_loop (cs:List Int) (g:Int) (hl:cs.length≤63) (P:Nat) (hP:P<cs.length) (h1:cs[P]=g) (h2:∀ q (hq:q<cs.length),q<P→cs[q]<g):∀(d i k:Nat),P - i=d→i≤P→d<k →
  spec_l03Place.l0 k cs g (i:Int)=some (P:Int):=by
 intro d
 induction d with
 |zero=>
  intro i k hd hi hk
  obtain ⟨k,rfl⟩:∃ m,k=m+1:=⟨k - 1,by omega⟩
  obtain rfl:i=P:=by omega
  simp only [spec_l03Place.l0]
  rw[if_pos (by omega),if_pos (by omega),rd_nat cs i hP,if_pos h1]
 |succ d ih=>
  intro i k hd hi hk
  obtain ⟨k,rfl⟩:∃ m,k=m+1:=⟨k - 1,by omega⟩
  have hil:i<cs.length:=by omega
  have h3:=h2 i hil (by omega)
  simp only [spec_l03Place.l0]
  rw[if_pos (by omega),if_pos (by omega),rd_nat cs i hil,if_neg (by omega),w64 _ (by omega) (by omega),nat_succ]
  exact ih (i+1) k (by omega) (by omega) (by omega)
theorem specPlace_is (cs:List Int) (g:Int) (hl:cs.length≤63) (hs:Asc cs) (hg:g ∈ cs) (k:Nat) (hk:64≤k):spec_l03Place.f k cs g=some (place cs g:Int):=by
 obtain ⟨h,h1,h2,_⟩:=place_is cs g hl hs hg
 unfold spec_l03Place.f
 have:=specPlace_loop cs g hl _ h h1 h2 (place cs g) 0 k (by omega) (by omega) (by omega)
 exact this
theorem specRows_l1 (p:Int) (hp:2≤p∧p≤3) (F cs:List Int) (out:List (List Int)) (i:Int) (bs sg:List Int) (hcs:cs.length≤63) (hs:Asc cs) (hb:bs.length≤6) (hbs:∀ g ∈ bs,g ∈ cs) (hsl:sg.length=bs.length) (hsg:∀ s ∈ sg,s=1∨s = -1) (ho:out.length≤63)
  (R:Nat) (r:List (List Int)) (hnext:∀ k,R≤k→spec_l03Rows.l0 k p F cs (out ++ [fillR cs p bs sg bs.length]) (wrap64 (i+1))=some r):∀(d j k:Nat),bs.length - j=d→j≤bs.length→R+d+65≤k →
  spec_l03Rows.l1 k p F cs out i (fillR cs p bs sg j) bs sg (j:Int)=some r:=by
 intro d
 induction d with
 |zero=>
  intro j k hd hj hk
  obtain ⟨k,rfl⟩:∃ m,k=m+1:=⟨k - 1,by omega⟩
  obtain rfl:j=bs.length:=by omega
  simp only [spec_l03Rows.l1]
  rw[if_neg (by omega),if_pos (by omega)]
  exact hnext k (by omega)
 |succ d ih=>
  intro j k hd hj hk
  obtain ⟨k,rfl⟩:∃ m,k=m+1:=⟨k - 1,by omega⟩
  have hjl:j<bs.length:=by omega
  have hjs:j<sg.length:=by omega
  have hgm:=hbs _ (List.getElem_mem hjl)
  obtain ⟨hP,_,_,_⟩:=place_is cs bs[j] hcs hs hgm
  have hfl:=(fillR_good cs p hp.1 bs sg j).1
  have hsj:=hsg _ (List.getElem_mem hjs)
  simp only [spec_l03Rows.l1]
  rw[if_pos (by omega),if_pos (by omega),rd_nat bs j hjl,specPlace_is cs _ hcs hs hgm k (by omega)]
  simp only [Option.bind_some]
  rw[if_pos (by omega),if_neg (by omega),if_pos (by omega),if_pos (by omega),rd_nat sg j hjs,w64 (sg[j]+p) (by omega) (by omega),w64 ((j:Int)+1) (by omega) (by omega),nat_succ,Int.toNat_natCast,
   Int.tmod_eq_emod_of_nonneg (by omega)]
  have hE:(fillR cs p bs sg j).set (place cs bs[j]) ((sg[j]+p) % p)=fillR cs p bs sg (j+1):=by
   rw[fillR_succ,getD_get bs j 0 hjl,getD_get sg j 0 hjs]
  rw[hE]
  exact ih (j+1) k (by omega) (by omega) (by omega)
theorem specRows_l0 {n:Int} {l:List Int} (hi:isC n l=true) (d p:Int) (hp:2≤p∧p≤3):∀(e i k:Nat) (out:List (List Int)),(ofL l d).length - i=e→i≤(ofL l d).length→e*80+100≤k→out.length=i →
  spec_l03Rows.l0 k p (ofL l d) (ofL l (d - 1)) out (i:Int)=some (out ++ ((ofL l d).drop i).map (rowR (ofL l (d - 1)) p)):=by
 obtain ⟨hn,hs,hr,h63⟩:=isC_faces hi
 have h1:=of_length l d
 have h2:=of_length l (d - 1)
 intro e
 induction e with
 |zero=>
  intro i k out he hil hk ho
  obtain ⟨k,rfl⟩:∃ m,k=m+1:=⟨k - 1,by omega⟩
  obtain rfl:i=(ofL l d).length:=by omega
  simp only [spec_l03Rows.l0]
  rw[if_neg (by omega),List.drop_length]
  simp
 |succ e ih=>
  intro i k out he hil hk ho
  obtain ⟨k,rfl⟩:∃ m,k=m+1:=⟨k - 1,by omega⟩
  have hlt:i<(ofL l d).length:=by omega
  have hfm:=List.getElem_mem hlt
  have hfl:=(List.mem_filter.1 hfm).1
  have hfr:=hr _ hfl
  simp only [spec_l03Rows.l0]
  rw[if_pos (by omega),if_pos (by omega),if_pos (by omega),if_pos (by omega),rd_nat _ i hlt,specBelow_is _ (by omega) (by omega) k (by omega),specSigns_is _ (by omega) (by omega) k (by omega)]
  simp only [Option.bind_some]
  rw[Int.toNat_natCast]
  have hsl:(signsL (ofL l d)[i]).length=(bords (ofL l d)[i]).length:=by simp [signsL]
  have hbl:=bords_length (ofL l d)[i]
  refine specRows_l1 p hp (ofL l d) (ofL l (d - 1)) out (i:Int) (bords (ofL l d)[i]) (signsL (ofL l d)[i]) (by omega) (of_asc hi _) hbl (fun g hg=>bords_of hi d _ hfm g hg) hsl (fun s h=>sign_is _ (by omega) (by omega) s h) (by omega) (e*80+100) _ (fun k hk=>?_) (bords (ofL l d)[i]).length 0 k (by omega) (by omega) (by omega)
  rw[w64 _ (by omega) (by omega),nat_succ,ih (i+1) k _ (by omega) (by omega) hk (by rw[List.length_append];simp;omega),List.append_assoc,List.drop_eq_getElem_cons hlt,List.map_cons]
  rfl
theorem specRows_is {n:Int} {l:List Int} (hi:isC n l=true) (d p:Int) (hd:0≤d∧d≤7) (hp:2≤p∧p≤3) (k:Nat) (hk:5200≤k):spec_l03Rows.f k n l d p=some (rowsL l d p):=by
 obtain ⟨hn,hs,hr,h63⟩:=isC_faces hi
 have h1:=of_length l d
 unfold spec_l03Rows.f
 rw[specOf_is n d (by omega) l h63 (isC_of hi) k (by omega),w64 (d - 1) (by omega) (by omega),specOf_is n (d - 1) (by omega) l h63 (isC_of hi) k (by omega)]
 simp only [Option.bind_some]
 have:=specRows_l0 hi d p hp (ofL l d).length 0 k [] (by omega) (by omega) (by omega) rfl
 rw[show ((0:Nat):Int)=0 from rfl,List.nil_append,List.drop_zero] at this
 exact this
theorem rankL_out {n:Int} {l:List Int} (hi:isC n l=true) (d p:Int) (h:d<1∨topI l<d):rankL l d p=0:=by
 obtain ⟨hn,hs,hr,h63⟩:=isC_faces hi
 unfold rankL rankM
 rcases h with h|h
 ·have:ofL l (d - 1) = []:=by
   unfold ofL
   rw[List.filter_eq_nil_iff]
   intro x hx
   have h1:=dim_pos x (hr x hx).1 (hr x hx).2.2
   simp [bne]
   omega
  rw[this]
  rfl
 ·have h2:ofL l d = []:=by
   unfold ofL
   rw[List.filter_eq_nil_iff]
   intro x hx
   have h1:=top_mem l x hx
   simp [bne]
   omega
  have h3:rowsL l d p = []:=by unfold rowsL;rw[h2];rfl
  rw[h3,rankM_nil]
  rfl
end Go.Proofs.YtbnnamejnjfkjaaGreat.K
end

section
namespace Go.Proofs.YtbnnamejnjfkjaaGreat.K
open Go.RowKit Go.Shelf Go.Proofs.YtbnnamejnjfkjaaGreatW.PrintWords Go.Proofs.YtbnnamejnjfkjaaGreatW.PrintLast Go.Proofs.YtbnnamejnjfkjaaGreatW.PrintMore
set_option linter.unusedVariables false
set_option linter.unusedSimpArgs false
theorem prod_range (p a b:Int) (hp:2≤p∧p≤3) (ha:0≤a∧a<p) (hb:0≤b∧b≤p):0≤a*b∧a*b≤9:=by
 have h1:a≤3:=by omega
 have h2:b≤3:=by omega
 refine⟨Int.mul_nonneg ha.1 hb.1,?_⟩
 calc a*b≤3*3:=Int.mul_le_mul h1 h2 hb.1 (by omega)
  _=9:=rfl
theorem good_num {p:Int} {m:Nat} {M:List (List Int)} (h:Good p m M) (i:Nat) (hi:i<M.length) (j:Nat) (hj:j<m):0≤(M.getD i []).getD j 0∧(M.getD i []).getD j 0<p:=by
 have hg:=h _ (getD_mem M i hi)
 rw[getD_get _ j 0 (by rw[hg.1];exact hj)]
 exact hg.2 _ (List.getElem_mem _)
set_option maxRecDepth 100000 in
set_option maxHeartbeats 8000000 in
theorem sRank_calls (p:Int) (hp:2≤p∧p≤3) (m:Nat) (hm:m≤63) (M0:List (List Int)) (hg:Good p m M0) (hlen:M0.length≤63) (base:Nat) (v:Value) (vs0:List OneV) (f0:Nat→Nat) (w:World) (hbase:base≤w.heap.size) (hM:Mat w base v vs0 f0 M0) :
  Calls Tryz.prog 143 #[v,I p] w fun e w'=>e = .returned (I (rankM p m M0))∧Below base w w':=by
 rcases Nat.eq_zero_or_pos M0.length with h0|hpos
 ·obtain ⟨A,c,hv,_⟩:=hM.slice
  rw[h0] at hv
  subst hv
  have HV:Aside0 (rankM p m M0=0):=⟨by rw[List.length_eq_zero_iff.1 h0];unfold rankM;rw[rankM_nil];rfl⟩
  rw[HV.out]
  clear hM hg h0 hlen
  go_enter Tryz.func143,Tryz.ntmps143
  go_wp2_with fail
  go_loopg [5,6] 0 (fun gg s5 s6 wr=>s5 = .int .i64 0∧s6 = .int .i64 0∧Aside0 (Below base w wr))
  case atStart=>exact⟨rfl,rfl,⟨Below.refl _ _⟩⟩
  case round=>
   obtain ⟨rfl,rfl,HGr⟩:=hrel
   go_wp2_with fail
   go_ret
   exact⟨rfl,HGr.out⟩
 ·obtain ⟨G,cc,hv,hcc⟩:=hM.head hpos
  subst hv
  have HM0:=Aside0.mk hM
  have HGD:=Aside0.mk hg
  have HP:=Aside0.mk hp
  have hp0:p≠0:=by omega
  clear hM hg
  obtain ⟨n,hn⟩:∃ n,n=M0.length:=⟨_,rfl⟩
  rw[← hn] at HM0 hpos hlen hcc ⊢
  have HN:=Aside0.mk hn
  clear hn
  go_enter Tryz.func143,Tryz.ntmps143
  go_wp2_with fail
  go_loopg [5,6] m (fun gg s5 s6 wr=>∃(c r:Nat) (M:List (List Int)),c≤m∧m - c≤gg∧s5 = .int .i64 r∧s6 = .int .i64 c∧Aside0 (rankTo p M0 c=(r,M))∧(∃ vs f,Aside0 (Mat wr base (.slice (some ⟨G,0,none⟩) n cc) vs f M))∧Aside0 (Below base w wr))
  case atStart=>exact⟨0,0,M0,Nat.zero_le _,by omega,rfl,rfl,⟨rfl⟩,⟨vs0,f0,HM0⟩,⟨Below.refl _ _⟩⟩
  case round=>
   obtain ⟨c,r,M,hc,hgg,rfl,rfl,HS,⟨vs,f,HM⟩,HGr⟩:=hrel
   obtain ⟨hr1,hr2,hr3,hr4,hr5⟩:=rank_good HP.out HGD.out c hc
   rw[HS.out] at hr1 hr2 hr3 hr4 hr5
   simp only at hr1 hr2 hr3 hr4 hr5
   rw[← HN.out] at hr1 hr3
   have HGM:=Aside0.mk hr4
   have HCM:=Aside0.mk hr5
   have HL:=Aside0.mk hr3
   clear hr4 hr5 hr3
   by_cases hlt:c<m
   ·have hltz:(c:Int)<(m:Int):=by omega
    obtain ⟨g0,c0,_,_,_,_,hG,_,hx0,_,_⟩:=HM.out.at 0 m (by rw[HL.out];omega) (HGM.out _ (getD_mem M 0 (by rw[HL.out];omega))).1 (by omega)
    have hnz:(0:Int)<(n:Int):=by omega
    go_wp2_with fail
    go_loopg [7,8] n (fun gg s7 s8 wr1=>∃(b:Int) (i:Nat),s7 = .int .i64 b∧s8 = .int .i64 i∧i≤n∧n - i≤gg∧((b = -1∧r≤i∧Aside0 (∀ j,r≤j→j<i→(M.getD j []).getD c 0=0))∨(∃ j:Nat,b=j∧i=j+1∧r≤j∧Aside0 ((M.getD j []).getD c 0≠0∧∀ q,r≤q→q<j→(M.getD q []).getD c 0=0)))∧Aside0 (Grew wr wr1))
    case atStart=>exact⟨-1,r,rfl,rfl,hr1,by omega,.inl ⟨rfl,Nat.le_refl _,⟨fun j h1 h2=>by omega⟩⟩,⟨Grew.refl _⟩⟩
    case round=>
     clear hx0 hG
     obtain ⟨b,i,rfl,rfl,hin,hgi,hb,HG1⟩:=hrel
     rcases hb with ⟨rfl,hri,HZ⟩|⟨j,rfl,rfl,hrj,HJ⟩
     ·by_cases hlti:i<n
      ·have hltz2:(i:Int)<(n:Int):=by omega
       obtain ⟨gi,ci,_,_,_,_,_,_,hx1,_,hx2⟩:=(HM.out.below HG1.out).at i m (by rw[HL.out];omega) (HGM.out _ (getD_mem M i (by rw[HL.out];omega))).1 (by omega)
       obtain ⟨hx3,_⟩:=hx2 c hlt
       clear hx2
       have HX:=Aside0.mk (show (M.getD i []).getD c 0=(M.getD i []).getD c 0 from rfl)
       by_cases hx0:(M.getD i []).getD c 0=0
       ·rw[hx0] at hx3
        have HZ2:Aside0 (∀ j,r≤j→j<i+1→(M.getD j []).getD c 0=0):=⟨fun j h1 h2=>by
         rcases Nat.lt_or_ge j i with h3|h3
         ·exact HZ.out j h1 h3
         ·obtain rfl:j=i:=by omega
          exact hx0⟩
        clear HX hx0
        go_wp2_with fail
        go_roundg (n - (i+1))
        case measure=>omega
        case rel=>exact⟨-1,i+1,rfl,by go_num,by omega,by omega,.inl ⟨rfl,by omega,HZ2⟩,HG1⟩
       ·have HJ2:Aside0 ((M.getD i []).getD c 0≠0∧∀ q,r≤q→q<i→(M.getD q []).getD c 0=0):=⟨hx0,HZ.out⟩
        generalize (M.getD i []).getD c 0=x at hx3 hx0
        clear HX
        go_wp2_with fail
        go_roundg (n - (i+1))
        case measure=>omega
        case rel=>exact⟨i,i+1,rfl,by go_num,by omega,by omega,.inr ⟨i,rfl,rfl,hri,HJ2⟩,HG1⟩
      ·have hltz2:¬ (i:Int)<(n:Int):=by omega
       have HS2:Aside0 (rankTo p M0 (c+1)=(r,M)):=⟨by
        have hpv:pivI M r c = -1:=pivI_miss fun q h1 h2=>HZ.out q h1 (by rw[HL.out] at h2;omega)
        rw[rankTo_succ,HS.out]
        unfold rstep
        simp only [hpv]
        rfl⟩
       go_wp2_with fail
       go_roundg (m - (c+1))
       case measure=>omega
       case rel=>exact⟨c+1,r,M,by omega,by omega,rfl,by go_num,HS2,⟨vs,f,⟨HM.out.below HG1.out⟩⟩,⟨Below.trans HGr.out (HG1.out.mono (Nat.le_trans hbase HGr.out.size))⟩⟩
     ·
      have hjn:j<n:=by omega
      have hrn:r<n:=by omega
      have HM1:=Aside0.mk (HM.out.below HG1.out)
      have HG2:Aside0 (Below base w wr):=⟨Below.trans HGr.out (HG1.out.mono (Nat.le_trans hbase HGr.out.size))⟩
      have hjl:j<M.length:=by rw[HL.out];omega
      have hrl:r<M.length:=by rw[HL.out];omega
      obtain ⟨gj,cj,ej,hcj,_,_,hbG,_,hxj,hfj,_⟩:=HM1.out.at j m hjl (HGM.out _ (getD_mem M j hjl)).1 (by omega)
      obtain ⟨gr,cr,er,hcr,_,_,_,_,hxr,hfr,_⟩:=HM1.out.at r m hrl (HGM.out _ (getD_mem M r hrl)).1 (by omega)
      obtain ⟨hmid,hfmid⟩:=HM1.out.mid j r hjl hrl
      rw[er] at hmid hfmid
      have hsw:=HM1.out.swap j r hjl hrl
      rw[ej,er,swapM_is M j r hjl hrl,swapM_comm M j r hjl hrl] at hsw
      have HSW:=Aside0.mk hsw
      clear hsw
      have hvl:=HM1.out.len
      have HVR:Aside0 ((((vs.set j (vs[r]'(by omega))).set r (vs[j]'(by omega))).getD r nilV).1 = .slice (some ⟨gj,0,none⟩) m cj):=⟨by rw[getD_get _ r nilV (by simp;omega),List.getElem_set_self];exact ej⟩
      have HS2:Aside0 (rankTo p M0 (c+1)=(r+1,elimM p c r (swapM M r j) n)):=⟨by
       have hpv:pivI M r c=((j - r:Nat):Int):=pivI_hit hrj (by omega) HJ.out.1 HJ.out.2
       rw[rankTo_succ,HS.out]
       unfold rstep
       simp only [hpv]
       rw[if_neg (by omega),Int.toNat_natCast,HL.out,show r+(j - r)=j by omega]⟩
      have HGS:=Aside0.mk (swapM_good HGM.out r j hrl hjl)
      have HCS:Aside0 (∀ q,q<c→((swapM M r j).getD r []).getD q 0=0):=⟨fun q hq=>by
       rw[swapM_get M r j r hrl hjl]
       split
       ·exact HCM.out r (Nat.le_refl _) hrl q hq
       ·rw[if_pos rfl];exact HCM.out j hrj hjl q hq⟩
      have HLS:Aside0 ((swapM M r j).length=n):=⟨by rw[swapM_length,HL.out]⟩
      generalize (vs.set j (vs[r]'(by omega))).set r (vs[j]'(by omega))=vS at HSW HVR
      generalize (fun k=>swapT j r (f k))=fS at HSW
      generalize swapM M r j=S at HSW HS2 HGS HCS HLS
      clear HM1 HJ er ej
      have hjz:¬ (j:Int)<0:=by omega
      have hi1:(0:Int)≤(j:Int):=by omega
      have HB2:Aside0 (Below base w ((wr.setCell ⟨G,j,none⟩ (.slice (some ⟨gr,0,none⟩) m cr)).setCell ⟨G,r,none⟩ (.slice (some ⟨gj,0,none⟩) m cj))):=⟨Below.setCell (Below.setCell HG2.out hbG _) hbG _⟩
      by_cases hlast:((j+1:Nat):Int)<(n:Int)
      ·go_wp2_with fail
       go_loopg [10] n (fun gg s10 wr3=>∃ i2:Nat,r<i2∧i2≤n∧n - i2≤gg∧s10 = .int .i64 i2∧Aside0 (Mat wr3 base (.slice (some ⟨G,0,none⟩) n cc) vS fS (elimM p c r S i2))∧Aside0 (Below base w wr3))
       case atStart=>exact⟨r+1,by omega,by omega,by omega,by go_num,⟨by rw[elimM_start];exact HSW.out⟩,HB2⟩
       case round=>
        clear hxj hfj hxr hfr hltz hgi hmid hfmid
        obtain ⟨i2,hi2,hi2n,hg2,rfl,HM2,HB3⟩:=hrel
        have hrS:r<S.length:=by rw[HLS.out];omega
        by_cases hlt2:i2<n
        ·have hltz3:(i2:Int)<(n:Int):=by omega
         have hiS:i2<S.length:=by rw[HLS.out];omega
         have HRW:=Aside0.mk (elimM_get p c r i2 S r hrS)
         rw[if_neg (by omega)] at HRW
         have HIW:=Aside0.mk (elimM_get p c r i2 S i2 hiS)
         rw[if_neg (by omega)] at HIW
         have hli:=(HGS.out _ (getD_mem S i2 hiS)).1
         have hlr:=(HGS.out _ (getD_mem S r hrS)).1
         obtain ⟨gi,ci,ei,hci,hfi,hbi,_,_,hxi,hfzi,hni⟩:=HM2.out.at i2 m (by rw[elimM_length];exact hiS) (by rw[HIW.out];exact hli) (by omega)
         obtain ⟨gq,cq,eq,hcq,hfq,_,_,_,_,_,hnr⟩:=HM2.out.at r m (by rw[elimM_length];exact hrS) (by rw[HRW.out];exact hlr) (by omega)
         have e1:=HVR.out
         rw[getD_get vS r nilV (by have:=HM2.out.len;rw[elimM_length] at this;omega),eq] at e1
         injection e1 with e1 _ e2
         injection e1 with e1
         injection e1 with e1
         subst e1 e2
         rw[HIW.out] at hni
         rw[HRW.out] at hnr
         obtain ⟨hxa,_⟩:=hni c hlt
         obtain ⟨hxb,_⟩:=hnr c hlt
         have ha:=good_num HGS.out i2 hiS c hlt
         have hb:=good_num HGS.out r hrS c hlt
         clear hni hnr
         obtain ⟨a,hA⟩:∃ a,a=(S.getD i2 []).getD c 0:=⟨_,rfl⟩
         obtain ⟨b,hB⟩:∃ b,b=(S.getD r []).getD c 0:=⟨_,rfl⟩
         rw[← hA] at hxa ha
         rw[← hB] at hxb hb
         have HA:=Aside0.mk hA
         have HB:=Aside0.mk hB
         have hab:=prod_range p a b hp ha ⟨hb.1,by omega⟩
         clear hA hB hli hlr
         go_wp2_with fail
         repeat(go_quiet (fail))
         try go_wp2_with fail
         have htm:0≤a*b % p∧a*b % p<p:=⟨Int.emod_nonneg _ hp0,Int.emod_lt_of_pos _ (by omega)⟩
         clear hxa hxb hxi hfzi
         go_loopg [13] m (fun gg s13 wr4=>∃ j2:Nat,c≤j2∧j2≤m∧m - j2≤gg∧s13 = .int .i64 j2∧Aside0 (Mat wr4 base (.slice (some ⟨G,0,none⟩) n cc) vS fS ((elimM p c r S i2).set i2 (elimP p c (S.getD r []) (S.getD i2 []) j2)))∧Aside0 (Below base w wr4))
         case atStart=>exact⟨c,Nat.le_refl _,hc,by omega,rfl,⟨by rw[elimP_start p c _ _ (HGS.out _ (getD_mem S i2 hiS)).2 HCS.out,set_same _ i2 _ (by rw[elimM_length];exact hiS) HIW.out];exact HM2.out.below (pw_below_drewN (Below.refl _ _) _)⟩,⟨pw_below_drewN HB3.out _⟩⟩
         case round=>
          obtain ⟨j2,hcj,hjm,hg4,rfl,HM4,HB4⟩:=hrel
          by_cases hlt4:j2<m
          ·have hltz4:(j2:Int)<(m:Int):=by omega
           have HR4:Aside0 ((((elimM p c r S i2).set i2 (elimP p c (S.getD r []) (S.getD i2 []) j2)).getD i2 [])=elimP p c (S.getD r []) (S.getD i2 []) j2):=⟨set_getD _ _ _ (by rw[elimM_length];exact hiS)⟩
           have HQ4:Aside0 ((((elimM p c r S i2).set i2 (elimP p c (S.getD r []) (S.getD i2 []) j2)).getD r [])=S.getD r []):=⟨by rw[set_getD_ne _ _ _ _ (by omega)];exact HRW.out⟩
           have hlen4:((elimM p c r S i2).set i2 (elimP p c (S.getD r []) (S.getD i2 []) j2)).length=S.length:=by rw[List.length_set,elimM_length]
           obtain ⟨g1,c1,e1,_,_,hb1,_,_,_,_,hn1⟩:=HM4.out.at i2 m (by rw[hlen4];exact hiS) (by rw[HR4.out,elimP_length];exact(HGS.out _ (getD_mem S i2 hiS)).1) (by omega)
           obtain ⟨g2,c2,e2,_,_,_,_,_,_,_,hn2⟩:=HM4.out.at r m (by rw[hlen4];exact hrS) (by rw[HQ4.out];exact(HGS.out _ (getD_mem S r hrS)).1) (by omega)
           rw[ei] at e1
           injection e1 with e1 _ e3
           injection e1 with e1
           injection e1 with e1
           subst e1 e3
           rw[eq] at e2
           injection e2 with e2 _ e3
           injection e2 with e2
           injection e2 with e2
           subst e2 e3
           obtain ⟨hx1,hf1⟩:=hn1 j2 hlt4
           obtain ⟨hy1,_⟩:=hn2 j2 hlt4
           rw[HR4.out,elimP_get _ _ _ _ _ _ (by rw[(HGS.out _ (getD_mem S i2 hiS)).1];exact hlt4),if_neg (Nat.lt_irrefl _)] at hx1
           rw[HQ4.out] at hy1
           have hx:=good_num HGS.out i2 hiS j2 hlt4
           have hy:=good_num HGS.out r hrS j2 hlt4
           have HW:=HM4.out.put i2 (by rw[hlen4];exact hiS) gi m ci ei (j2:Int) (elimAt p c (S.getD r []) (S.getD i2 []) j2)
           have HE:Aside0 (elimAt p c (S.getD r []) (S.getD i2 []) j2=((S.getD i2 []).getD j2 0+(p - a*b % p)*(S.getD r []).getD j2 0) % p):=⟨by
            rw[HA.out,HB.out]
            exact(spec_val p _ _ _ _ hp hx (good_num HGS.out i2 hiS c hlt) (good_num HGS.out r hrS c hlt) hy).symm⟩
           obtain ⟨x,hX⟩:∃ x,x=(S.getD i2 []).getD j2 0:=⟨_,rfl⟩
           obtain ⟨y,hY⟩:∃ y,y=(S.getD r []).getD j2 0:=⟨_,rfl⟩
           rw[← hX] at hx1 hx HE
           rw[← hY] at hy1 hy HE
           have hpr:=prod_range p y (p - a*b % p) hp hy ⟨by omega,by omega⟩
           rw[Int.mul_comm] at hpr
           have HW2:Aside0 (Mat (wr.setCell ⟨gi,j2,none⟩ (I ((x+(p - a*b % p)*y) % p))) base (.slice (some ⟨G,0,none⟩) n cc) vS fS ((elimM p c r S i2).set i2 (elimP p c (S.getD r []) (S.getD i2 []) (j2+1)))):=⟨by
            rw[← HE.out]
            have h:=HW
            rw[Int.toNat_natCast,List.getElem_set_self,List.set_set,← elimP_succ] at h
            exact h⟩
           have HB5:Aside0 (Below base w (wr.setCell ⟨gi,j2,none⟩ (I ((x+(p - a*b % p)*y) % p)))):=⟨Below.setCell HB4.out hb1 _⟩
           clear hn1 hn2 hX hY HR4 HQ4 HW
           go_wp2_with fail
           go_region_with (fail)
           all_goals (
            go_wp2_with fail
            go_roundg (m - (j2+1))
            (case measure=>omega)
            (case rel=>exact⟨j2+1,by omega,by omega,by omega,by go_num,⟨HW2.out.below (below_drew (Below.refl _ _))⟩,⟨below_drew HB5.out⟩⟩))
          ·obtain rfl:j2=m:=by omega
           have hltz4:¬ (j2:Int)<(j2:Int):=by omega
           have HE2:Aside0 (elimM p c r S (i2+1)=(elimM p c r S i2).set i2 (elimP p c (S.getD r []) (S.getD i2 []) j2)):=⟨by
            rw[elimM_succ p c r S i2 hi2,← elimP_end,(HGS.out _ (getD_mem S i2 hiS)).1]⟩
           go_wp2_with fail
           go_roundg (n - (i2+1))
           case measure=>omega
           case rel=>exact⟨i2+1,by omega,by omega,by omega,by go_num,⟨by rw[HE2.out];exact HM4.out⟩,HB4⟩
        ·obtain rfl:i2=n:=by omega
         have hltz3:¬ (i2:Int)<(i2:Int):=by omega
         go_wp2_with fail
         go_roundg (m - (c+1))
         case measure=>omega
         case rel=>exact⟨c+1,r+1,elimM p c r S i2,by omega,by omega,by go_num,by go_num,HS2,⟨vS,fS,HM2⟩,HB3⟩
      ·go_wp2_with fail
       go_loopg [10] n (fun gg s10 wr3=>∃ i2:Nat,r<i2∧i2≤n∧n - i2≤gg∧s10 = .int .i64 i2∧Aside0 (Mat wr3 base (.slice (some ⟨G,0,none⟩) n cc) vS fS (elimM p c r S i2))∧Aside0 (Below base w wr3))
       case atStart=>exact⟨r+1,by omega,by omega,by omega,by go_num,⟨by rw[elimM_start];exact HSW.out⟩,HB2⟩
       case round=>
        clear hxj hfj hxr hfr hltz hgi hmid hfmid
        obtain ⟨i2,hi2,hi2n,hg2,rfl,HM2,HB3⟩:=hrel
        have hrS:r<S.length:=by rw[HLS.out];omega
        by_cases hlt2:i2<n
        ·have hltz3:(i2:Int)<(n:Int):=by omega
         have hiS:i2<S.length:=by rw[HLS.out];omega
         have HRW:=Aside0.mk (elimM_get p c r i2 S r hrS)
         rw[if_neg (by omega)] at HRW
         have HIW:=Aside0.mk (elimM_get p c r i2 S i2 hiS)
         rw[if_neg (by omega)] at HIW
         have hli:=(HGS.out _ (getD_mem S i2 hiS)).1
         have hlr:=(HGS.out _ (getD_mem S r hrS)).1
         obtain ⟨gi,ci,ei,hci,hfi,hbi,_,_,hxi,hfzi,hni⟩:=HM2.out.at i2 m (by rw[elimM_length];exact hiS) (by rw[HIW.out];exact hli) (by omega)
         obtain ⟨gq,cq,eq,hcq,hfq,_,_,_,_,_,hnr⟩:=HM2.out.at r m (by rw[elimM_length];exact hrS) (by rw[HRW.out];exact hlr) (by omega)
         have e1:=HVR.out
         rw[getD_get vS r nilV (by have:=HM2.out.len;rw[elimM_length] at this;omega),eq] at e1
         injection e1 with e1 _ e2
         injection e1 with e1
         injection e1 with e1
         subst e1 e2
         rw[HIW.out] at hni
         rw[HRW.out] at hnr
         obtain ⟨hxa,_⟩:=hni c hlt
         obtain ⟨hxb,_⟩:=hnr c hlt
         have ha:=good_num HGS.out i2 hiS c hlt
         have hb:=good_num HGS.out r hrS c hlt
         clear hni hnr
         obtain ⟨a,hA⟩:∃ a,a=(S.getD i2 []).getD c 0:=⟨_,rfl⟩
         obtain ⟨b,hB⟩:∃ b,b=(S.getD r []).getD c 0:=⟨_,rfl⟩
         rw[← hA] at hxa ha
         rw[← hB] at hxb hb
         have HA:=Aside0.mk hA
         have HB:=Aside0.mk hB
         have hab:=prod_range p a b hp ha ⟨hb.1,by omega⟩
         clear hA hB hli hlr
         go_wp2_with fail
         repeat(go_quiet (fail))
         try go_wp2_with fail
         have htm:0≤a*b % p∧a*b % p<p:=⟨Int.emod_nonneg _ hp0,Int.emod_lt_of_pos _ (by omega)⟩
         clear hxa hxb hxi hfzi
         go_loopg [13] m (fun gg s13 wr4=>∃ j2:Nat,c≤j2∧j2≤m∧m - j2≤gg∧s13 = .int .i64 j2∧Aside0 (Mat wr4 base (.slice (some ⟨G,0,none⟩) n cc) vS fS ((elimM p c r S i2).set i2 (elimP p c (S.getD r []) (S.getD i2 []) j2)))∧Aside0 (Below base w wr4))
         case atStart=>exact⟨c,Nat.le_refl _,hc,by omega,rfl,⟨by rw[elimP_start p c _ _ (HGS.out _ (getD_mem S i2 hiS)).2 HCS.out,set_same _ i2 _ (by rw[elimM_length];exact hiS) HIW.out];exact HM2.out.below (pw_below_drewN (Below.refl _ _) _)⟩,⟨pw_below_drewN HB3.out _⟩⟩
         case round=>
          obtain ⟨j2,hcj,hjm,hg4,rfl,HM4,HB4⟩:=hrel
          by_cases hlt4:j2<m
          ·have hltz4:(j2:Int)<(m:Int):=by omega
           have HR4:Aside0 ((((elimM p c r S i2).set i2 (elimP p c (S.getD r []) (S.getD i2 []) j2)).getD i2 [])=elimP p c (S.getD r []) (S.getD i2 []) j2):=⟨set_getD _ _ _ (by rw[elimM_length];exact hiS)⟩
           have HQ4:Aside0 ((((elimM p c r S i2).set i2 (elimP p c (S.getD r []) (S.getD i2 []) j2)).getD r [])=S.getD r []):=⟨by rw[set_getD_ne _ _ _ _ (by omega)];exact HRW.out⟩
           have hlen4:((elimM p c r S i2).set i2 (elimP p c (S.getD r []) (S.getD i2 []) j2)).length=S.length:=by rw[List.length_set,elimM_length]
           obtain ⟨g1,c1,e1,_,_,hb1,_,_,_,_,hn1⟩:=HM4.out.at i2 m (by rw[hlen4];exact hiS) (by rw[HR4.out,elimP_length];exact(HGS.out _ (getD_mem S i2 hiS)).1) (by omega)
           obtain ⟨g2,c2,e2,_,_,_,_,_,_,_,hn2⟩:=HM4.out.at r m (by rw[hlen4];exact hrS) (by rw[HQ4.out];exact(HGS.out _ (getD_mem S r hrS)).1) (by omega)
           rw[ei] at e1
           injection e1 with e1 _ e3
           injection e1 with e1
           injection e1 with e1
           subst e1 e3
           rw[eq] at e2
           injection e2 with e2 _ e3
           injection e2 with e2
           injection e2 with e2
           subst e2 e3
           obtain ⟨hx1,hf1⟩:=hn1 j2 hlt4
           obtain ⟨hy1,_⟩:=hn2 j2 hlt4
           rw[HR4.out,elimP_get _ _ _ _ _ _ (by rw[(HGS.out _ (getD_mem S i2 hiS)).1];exact hlt4),if_neg (Nat.lt_irrefl _)] at hx1
           rw[HQ4.out] at hy1
           have hx:=good_num HGS.out i2 hiS j2 hlt4
           have hy:=good_num HGS.out r hrS j2 hlt4
           have HW:=HM4.out.put i2 (by rw[hlen4];exact hiS) gi m ci ei (j2:Int) (elimAt p c (S.getD r []) (S.getD i2 []) j2)
           have HE:Aside0 (elimAt p c (S.getD r []) (S.getD i2 []) j2=((S.getD i2 []).getD j2 0+(p - a*b % p)*(S.getD r []).getD j2 0) % p):=⟨by
            rw[HA.out,HB.out]
            exact(spec_val p _ _ _ _ hp hx (good_num HGS.out i2 hiS c hlt) (good_num HGS.out r hrS c hlt) hy).symm⟩
           obtain ⟨x,hX⟩:∃ x,x=(S.getD i2 []).getD j2 0:=⟨_,rfl⟩
           obtain ⟨y,hY⟩:∃ y,y=(S.getD r []).getD j2 0:=⟨_,rfl⟩
           rw[← hX] at hx1 hx HE
           rw[← hY] at hy1 hy HE
           have hpr:=prod_range p y (p - a*b % p) hp hy ⟨by omega,by omega⟩
           rw[Int.mul_comm] at hpr
           have HW2:Aside0 (Mat (wr.setCell ⟨gi,j2,none⟩ (I ((x+(p - a*b % p)*y) % p))) base (.slice (some ⟨G,0,none⟩) n cc) vS fS ((elimM p c r S i2).set i2 (elimP p c (S.getD r []) (S.getD i2 []) (j2+1)))):=⟨by
            rw[← HE.out]
            have h:=HW
            rw[Int.toNat_natCast,List.getElem_set_self,List.set_set,← elimP_succ] at h
            exact h⟩
           have HB5:Aside0 (Below base w (wr.setCell ⟨gi,j2,none⟩ (I ((x+(p - a*b % p)*y) % p)))):=⟨Below.setCell HB4.out hb1 _⟩
           clear hn1 hn2 hX hY HR4 HQ4 HW
           go_wp2_with fail
           go_region_with (fail)
           all_goals (
            go_wp2_with fail
            go_roundg (m - (j2+1))
            (case measure=>omega)
            (case rel=>exact⟨j2+1,by omega,by omega,by omega,by go_num,⟨HW2.out.below (below_drew (Below.refl _ _))⟩,⟨below_drew HB5.out⟩⟩))
          ·obtain rfl:j2=m:=by omega
           have hltz4:¬ (j2:Int)<(j2:Int):=by omega
           have HE2:Aside0 (elimM p c r S (i2+1)=(elimM p c r S i2).set i2 (elimP p c (S.getD r []) (S.getD i2 []) j2)):=⟨by
            rw[elimM_succ p c r S i2 hi2,← elimP_end,(HGS.out _ (getD_mem S i2 hiS)).1]⟩
           go_wp2_with fail
           go_roundg (n - (i2+1))
           case measure=>omega
           case rel=>exact⟨i2+1,by omega,by omega,by omega,by go_num,⟨by rw[HE2.out];exact HM4.out⟩,HB4⟩
        ·obtain rfl:i2=n:=by omega
         have hltz3:¬ (i2:Int)<(i2:Int):=by omega
         go_wp2_with fail
         go_roundg (m - (c+1))
         case measure=>omega
         case rel=>exact⟨c+1,r+1,elimM p c r S i2,by omega,by omega,by go_num,by go_num,HS2,⟨vS,fS,HM2⟩,HB3⟩
   ·obtain rfl:c=m:=by omega
    have HV:Aside0 (rankM p c M0=(r:Int)):=⟨by unfold rankM;rw[HS.out]⟩
    have hnz:(0:Int)<(n:Int):=by omega
    have hcell:∃ A0 c0,wr.cell? ⟨G,0,none⟩=some (.slice A0 c c0):=by
     have hl:=HM.out.len
     obtain ⟨h6,_⟩:=Kd.R_celln nilV HM.out.outer (0:Int) (by omega) (by omega)
     have h7:=HM.out.row 0 (by rw[HL.out];omega)
     obtain ⟨A0,c0,h8,_⟩:=Kd.R_reads h7
     have h9:rdOf nilV vs (0:Int)=vs[0]'(by rw[hl,HL.out];omega):=by simp [rdOf,show 0<vs.length by rw[hl,HL.out];omega]
     rw[h9] at h6
     have h10:wr.cell? ⟨G,0,none⟩=some (vs[0]'(by rw[hl,HL.out];omega)).1:=h6
     rw[h8] at h10
     have h11:=(HGM.out _ (getD_mem M 0 (by rw[HL.out];omega))).1
     rw[getD_get M 0 [] (by rw[HL.out];omega)] at h11
     rw[h11] at h10
     exact⟨A0,c0,h10⟩
    obtain ⟨A0,c0,hx0⟩:=hcell
    have hcc2:¬ (c:Int)<(c:Int):=by omega
    go_wp2_with fail
    go_ret
    exact⟨by rw[HV.out];rfl,HGr.out⟩
end Go.Proofs.YtbnnamejnjfkjaaGreat.K
end

section
namespace Go.Proofs.YtbnnamejnjfkjaaGreat.K
open Go.RowKit Go.Shelf Go.Proofs.YtbnnamejnjfkjaaGreat.Q Go.Proofs.YtbnnamejnjfkjaaGreatW.PrintWords Go.Proofs.YtbnnamejnjfkjaaGreatW.PrintLast Go.Proofs.YtbnnamejnjfkjaaGreatW.PrintMore
set_option linter.unusedVariables false
set_option linter.unusedSimpArgs false
theorem size_64:∀ m:Fin 64,impl_size.f (m.val:Int)=some (onesI (m.val:Int)):=by decide +kernel
theorem size_is (f:Int) (h0:0≤f) (h1:f≤63):impl_size.f f=some (onesI f):=by
 obtain ⟨m,rfl⟩:=Int.eq_ofNat_of_zero_le h0
 exact size_64 ⟨m,by omega⟩
end Go.Proofs.YtbnnamejnjfkjaaGreat.K
end

section
namespace Go.Proofs.YtbnnamejnjfkjaaGreat.K
open Go.RowKit Go.Shelf Go.Proofs.YtbnnamejnjfkjaaGreat.Q Go.Proofs.YtbnnamejnjfkjaaGreatW.PrintWords Go.Proofs.YtbnnamejnjfkjaaGreatW.PrintLast Go.Proofs.YtbnnamejnjfkjaaGreatW.PrintMore
set_option linter.unusedVariables false
set_option linter.unusedSimpArgs false
theorem size_calls (f:Int) (h0:0≤f) (h1:f≤63) (w:World):Calls Tryz.prog 135 #[I f] w fun e w'=>e = .returned (I (onesI f))∧Grew w w':=by
 refine(impl_size.calls f (onesI f) w ?_).mono fun e w' ⟨he,hd⟩=>⟨he,hd.below⟩
 exact size_is f h0 h1
set_option maxRecDepth 100000 in
set_option maxHeartbeats 4000000 in
theorem signs_calls (f:Int) (h0:0≤f) (h1:f≤63) (w:World) :
  Calls Tryz.prog 119 #[I f] w fun e w'=>∃ v,e = .returned v∧Ki.R 2 w' w.heap.size (fun _=>True) v (signsL f)∧Grew w w':=by
 have H:=Aside0.mk (borders_calls f w)
 have HS:=Aside0.mk (size_calls f h0 h1)
 have hs:=ones_le f
 have hbl:=bords_length f
 have hbo:=bords_ones f h0 h1
 have HV:Aside0 (∀ i:Nat,(List.range (i+1)).map (signAt (onesI f))=(List.range i).map (signAt (onesI f)) ++ [signAt (onesI f) i]):=⟨fun i=>by rw[List.range_succ,List.map_append];rfl⟩
 unfold signsL
 generalize onesI f=s at HS hs HV hbo ⊢
 generalize bords f=bs at H hbl hbo ⊢
 clear h0 h1
 go_enter Tryz.func119,Tryz.ntmps119
 go_wp2_with fail
 refine H.out.mono ?_
 rintro e w1 ⟨v1,rfl,hR1,hG1⟩
 obtain ⟨A1,c1,rfl⟩:=Kd.R_slice hR1
 have HG1:=Aside0.mk hG1
 clear hR1 hG1 H
 go_wp2_with fail
 go_loopg [3,8] bs.length (fun gg s3 s8 wr=>∃ kk:Nat,kk≤bs.length∧bs.length - kk≤gg∧s8 = .int .i64 kk∧(∃ A c,s3 = .slice A kk c∧Aside0 (Ki.R 2 wr w.heap.size (fun _=>True) (.slice A kk c) ((List.range kk).map (signAt s))))∧Aside0 (Grew w wr))
 case atStart=>exact⟨0,Nat.zero_le _,by omega,rfl,⟨none,0,rfl,⟨Kd.R_nil _ _ _ _ _⟩⟩,HG1⟩
 case round=>
  obtain ⟨kk,hkk,hg,rfl,⟨A3,c3,rfl,HR⟩,HGr⟩:=hrel
  by_cases hlt:kk<bs.length
  ·have hltz:(kk:Int)<(bs.length:Int):=by omega
   have H3:=Aside0.mk (HS.out wr)
   have hks:0≤s - 1 - (kk:Int):=by omega
   have HN:Aside0 ((List.range (kk+1)).map (signAt s)=(List.range kk).map (signAt s) ++ [1 - 2*((s - 1 - (kk:Int)) % 2)]):=⟨HV.out kk⟩
   have HL:Aside0 (((List.range kk).map (signAt s)).length=kk):=⟨by simp⟩
   generalize (List.range kk).map (signAt s)=L at HR HN HL
   have hLk:=HL.out
   subst hLk
   go_wp2_with fail
   refine H3.out.mono ?_
   rintro e w2 ⟨rfl,hG2⟩
   have HR2:=Aside0.mk (Kd.R_below HR.out hG2)
   have HG2:=Aside0.mk (Grew.trans HGr.out hG2)
   clear hG2 HR H3
   go_wp2_with (at_builtin;refine append_int w.heap.size rfl (.tmp 11) (.tmp 20) rfl _ L (1 - 2*((s - 1 - (L.length:Int)) % 2)) rfl rfl HR2.out HG2.out.size (by omega) ?_;intro A4 c4 w4 hR4 hB4 hg4;have HR4:=Aside0.mk hR4;have HG4:Aside0 (Below w.heap.size w w4):=⟨Below.trans HG2.out hB4⟩;clear hR4 hB4 hg4)
   go_roundg (bs.length - (L.length+1))
   case measure=>omega
   case rel=>exact⟨L.length+1,by omega,by omega,by go_num,⟨A4,c4,rfl,⟨by rw[HN.out];exact HR4.out⟩⟩,HG4⟩
  ·obtain rfl:kk=bs.length:=by omega
   go_wp2_with fail
   go_ret
   exact⟨_,rfl,HR.out,HGr.out⟩
set_option maxHeartbeats 1000000 in
theorem SignsOf1_calls {n f:Int} {A:Option Addr} {c:Nat} {l:List Int} {Bk Bf:Nat} (w:World) (hb:CB w Bk n (.slice A l.length c)) (hf:w.cell? ⟨Bf,0,none⟩=some (I f)) (hk:Kx w A c l) :
  Calls Tryz.prog 118 #[.pointer (some ⟨Bk,0,none⟩),.pointer (some ⟨Bf,0,none⟩)] w fun e w'=>e = .returned (.bool (hasB l f))∧Grew w w':=by
 have k0:=hb.c0
 have k1:=hb.c1
 have H:=Aside0.mk (hk.has n f)
 clear hk hb
 go_enter Tryz.func118,Tryz.ntmps118
 go_wp2_with fail
 refine H.out.mono ?_
 rintro e w1 ⟨rfl,hG1⟩
 go_wp2_with fail
 go_ret
 exact⟨rfl,hG1⟩
theorem isC_has {n:Int} {l:List Int} (h:isC n l=true) {f:Int} (hf:hasB l f=true):1≤f∧f≤63:=by
 obtain ⟨hn,hs,hr,hl⟩:=isC_faces h
 rw[has_asc l f (by omega) hs] at hf
 have:=hr f (of_decide_eq_true hf)
 omega
set_option maxRecDepth 100000 in
set_option maxHeartbeats 4000000 in
theorem SignsOf_calls (n:Int) (A:Option Addr) (c:Nat) (l:List Int) (f:Int) (w:World) (hk:Kx w A c l) :
  Calls Tryz.prog 49 #[.agg #[I n,.slice A l.length c],I f] w fun e w'=>∃ v0,e = .returned (.tuple #[v0,I (codeOf n l (hasB l f))])∧Ki.R 2 w' w.heap.size (fun _=>True) v0 (if (codeOf n l (hasB l f))=0 then (signsL f) else [])∧Grew w w':=by
 obtain ⟨W3,hW3⟩:∃ W3,W3=((w.alloc (.cells #[I n,.slice A l.length c] 26)).alloc (.cells #[I f] 2)):=⟨_,rfl⟩
 have hB:CB W3 w.heap.size n (.slice A l.length c):=by rw[hW3];exact blk_alloc (blk_new w _) _
 have hFf:W3.heap[w.heap.size+1]?=some (.cells #[I f] 2 (0,0)):=by
  rw[hW3]
  have:=blk_new (w.alloc (.cells #[I n,.slice A l.length c] 26)) (.cells #[I f] 2)
  rwa [World.size_alloc] at this
 have hg:Grew w W3:=by rw[hW3];exact below_alloc (below_alloc (Grew.refl w) _) _
 have H:=Aside0.mk (complexCode_calls (hasB l f) n A c l 118 #[] #[.pointer (some ⟨w.heap.size,0,none⟩),.pointer (some ⟨w.heap.size+1,0,none⟩)] W3 (hk.later hg) (enters_of Tryz.func118 (by kernel_rfl) rfl)
  (fun hi W hW=>by
   have:=SignsOf1_calls  W (blk_below hB hW) (blk_cell (blk_below hFf hW) 0) (hk.later (Grew.trans hg hW))
   rw[Array.empty_append]
   exact this))
 have k_0:=hB.c0
 have k_1:=hB.c1
 have f_0:W3.cell? ⟨w.heap.size+1,0,none⟩=some (I f):=blk_cell hFf 0
 have HK:=Aside0.mk hk
 have HB:=Aside0.mk hB
 have HG:=Aside0.mk hg
 have HFf:=Aside0.mk hFf
 clear hk hB hg hFf
 obtain ⟨cc,hcc⟩:∃ cc,cc=codeOf n l (hasB l f):=⟨_,rfl⟩
 rw[← hcc] at H ⊢
 by_cases hz:cc=0
 ·subst hz
  have hb:=codeOf_zero hcc.symm
  have HI:=Aside0.mk hb.1
  have HBt:Aside0 ((hasB l f)=true):=⟨hb.2⟩
  have HZ:=Aside0.mk hcc
  have hx0:∀ {α:Type} (a b:α),(if (0:Int)=0 then a else b)=a:=fun a b=>if_pos rfl
  simp only [hx0]
  clear hcc hb hx0
  subst hW3
  go_enter Tryz.func49,Tryz.ntmps49
  go_wp2_with fail
  refine H.out.mono ?_
  rintro e w1 ⟨rfl,hG1⟩
  have HB1:Aside0 (CB w1 w.heap.size n (.slice A l.length c)):=⟨blk_below HB.out hG1⟩
  have HFf1:Aside0 (w1.heap[w.heap.size+1]?=some (.cells #[I f] 2 (0,0))):=⟨blk_below HFf.out hG1⟩
  have HG1:=Aside0.mk (Grew.trans HG.out hG1)
  clear hG1 k_0 k_1 f_0
  have k_0:=HB1.out.c0
  have k_1:=HB1.out.c1
  have f_0:w1.cell? ⟨w.heap.size+1,0,none⟩=some (I f):=blk_cell HFf1.out 0
  have hb:=isC_has HI.out HBt.out
  have H2:=Aside0.mk (signs_calls f (by omega) (by omega) w1)
  clear hb
  go_wp2_with fail
  refine H2.out.mono ?_
  rintro e w2 ⟨v,rfl,hR2,hG2⟩
  go_wp2_with fail
  go_ret2
  exact⟨_,rfl,Kd.R_lower hR2 HG1.out.size,Grew.trans HG1.out hG2⟩
 ·have HV:Aside0 (∀ {α:Type} (a b:α),(if cc=0 then a else b)=b):=⟨fun a b=>if_neg hz⟩
  simp only [HV.out]
  clear hcc
  subst hW3
  go_enter Tryz.func49,Tryz.ntmps49
  go_wp2_with fail
  refine H.out.mono ?_
  rintro e w1 ⟨rfl,hG1⟩
  have HG1:=Aside0.mk (Grew.trans HG.out hG1)
  clear hG1 k_0 k_1 f_0
  go_wp2_with fail
  go_ret2
  exact⟨_,rfl,Kd.R_nil _ _ _ _ _,HG1.out⟩
end Go.Proofs.YtbnnamejnjfkjaaGreat.K
end

section
namespace Go.Proofs.YtbnnamejnjfkjaaGreat.K
open Go.RowKit Go.Shelf Go.Proofs.YtbnnamejnjfkjaaGreat.Q Go.Proofs.YtbnnamejnjfkjaaGreatW.PrintWords Go.Proofs.YtbnnamejnjfkjaaGreatW.PrintLast Go.Proofs.YtbnnamejnjfkjaaGreatW.PrintMore
set_option linter.unusedVariables false
set_option linter.unusedSimpArgs false
theorem bs_calls (A:Option Addr) (c:Nat) (l:List Int) (t:Int) (w:World) (hr:Ki.C w A l.length l) (hc:l.length≤c) (hl:l.length≤63) :
  Calls Tryz.prog 121 #[.slice A l.length c,I t] w fun e w'=>e = .returned (.tuple #[I (bsOf l t).1,.bool (bsOf l t).2])∧Grew w w':=
 (slices_BinarySearch_int64_int64.calls (l.length+1) A c l t _ _ w hr hc (bs_is l t (by omega))).mono fun e w' ⟨he,hd⟩=>⟨he,hd.below⟩
set_option maxHeartbeats 1000000 in
theorem rank1_calls (row:List Int) (A:Option Addr) (cp:Nat) (B c:Nat) (w:World) (hb:w.cell? ⟨B,0,none⟩=some (I c)) (hr:Ki.C w A row.length row) (hc:c<row.length) :
  Calls Tryz.prog 142 (#[.slice A row.length cp] ++ #[.pointer (some ⟨B,0,none⟩)]) w fun e w'=>e = .returned (.bool (row.getD c 0 != 0))∧Grew w w':=by
 obtain ⟨ad,e0,hx⟩:=Kd.at_int hr (c:Int) (by omega) (by omega)
 cases e0
 have hrd:rd row (c:Int)=row.getD c 0:=by simp [rd]
 rw[hrd,Int.toNat_natCast] at hx
 have hcz:(c:Int)<(row.length:Int):=by omega
 clear hr hrd
 generalize row.getD c 0=x at hx ⊢
 generalize row.length=m at hcz hc ⊢
 go_enter Tryz.func142,Tryz.ntmps142
 go_wp2_with fail
 go_ret
 exact⟨by first|rfl|(simp [bne];done),Grew.refl w⟩
theorem prod3 (p a b y:Int) (hp:2≤p∧p≤3) (ha:0≤a∧a<p) (hb:0≤b∧b<p) (hy:0≤y∧y<p):0≤a*b*y∧a*b*y≤27:=by
 have h1:=prod_range p a b hp ha ⟨hb.1,by omega⟩
 have h2:y≤3:=by omega
 refine⟨Int.mul_nonneg h1.1 hy.1,?_⟩
 calc a*b*y≤9*3:=Int.mul_le_mul h1.2 h2 hy.1 (by omega)
  _=27:=rfl
theorem rdOf_nat {α:Type} (d:α) (l:List α) (i:Nat) (h:i<l.length):rdOf d l (i:Int)=l[i]:=by simp [rdOf,h]
theorem add_at2 (G r i:Nat):Addr.add ⟨G,r,none⟩ i=⟨G,r+i,none⟩:=by
 unfold Addr.add
 split
 ·rename_i h;rw[h];rfl
 ·rfl
theorem piv_calls {w:World} {base:Nat} {vs:List OneV} {f:Nat→Nat} {M:List (List Int)} {G n cc m col r B:Nat} (h:Mat w base (.slice (some ⟨G,0,none⟩) n cc) vs f M) (hn:M.length=n) (hn63:n≤63) (hr:r≤n) (hm:∀ row ∈ M,row.length=m) (hcol:col<m)
  (hB:w.heap[B]?=some (.cells #[I col] 3 (0,0))) (A:Option Addr) (c':Nat) (hA:n - r=0∨A=some ⟨G,r,none⟩) :
  Calls Tryz.prog 141 #[.slice A (n - r) c',.func (.func 142) #[] #[.pointer (some ⟨B,0,none⟩)]] w fun e w'=>e = .returned (I (pivI M r col))∧Grew w w':=by
 have hl:=h.len
 have hdl:(vs.drop r).length=n - r:=by rw[List.length_drop];omega
 have hM:idx (fun i=>((M.drop r).getD i []).getD col 0 != 0) (List.range (n - r))=pivI M r col:=by
  have:=idx_range (fun row:List Int=>row.getD col 0 != 0) (M.drop r) []
  rw[List.length_drop,hn] at this
  exact this
 have hG:n - r=0∨G<w.heap.size:=by
  rcases Nat.eq_zero_or_pos (n - r) with h0|h0
  ·exact .inl h0
  ·obtain ⟨G',_,e,_,hlt,_⟩:=Kd.R_form h.outer (by omega)
   injection e with e1
   injection e1 with e1
   injection e1 with e1
   exact .inr (by rw[e1];exact hlt)
 have H:=IndexFunc_rows (fun i=>((M.drop r).getD i []).getD col 0 != 0) A c' (vs.drop r) 142 #[] #[.pointer (some ⟨B,0,none⟩)] w
  (fun i hi=>by
   rw[hdl] at hi
   rcases hA with h0|rfl
   ·omega
   ·refine⟨_,rfl,?_⟩
    rw[add_at2]
    obtain ⟨h6,_⟩:=Kd.R_celln nilV h.outer ((r+i:Nat):Int) (by omega) (by omega)
    rw[Int.toNat_natCast] at h6
    have h8:rdOf nilV vs ((r+i:Nat):Int)=vs[r+i]'(by omega):=rdOf_nat nilV vs (r+i) (by omega)
    rw[h8] at h6
    rw[List.getElem_drop]
    exact h6)
  (fun ad e=>by
   rcases hA with h0|h0
   ·exact .inr (by omega)
   ·rw[h0] at e
    injection e with e
    subst e
    rcases hG with h1|h1
    ·exact .inr (by omega)
    ·exact .inl h1)
  (by omega) (enters_of Tryz.func142 (by kernel_rfl) rfl)
  (fun i hi W hW=>by
   rw[hdl] at hi
   have hri:r+i<M.length:=by omega
   have hrow:=(h.below hW).row (r+i) hri
   obtain ⟨A',c2,e,h1,h2⟩:=Kd.R_reads hrow
   have e2:((vs.drop r)[i]'(by omega)).1 = .slice A' M[r+i].length c2:=by rw[List.getElem_drop];exact e
   have e3:((M.drop r).getD i [])=M[r+i]:=by rw[getD_get _ i [] (by rw[List.length_drop];omega),List.getElem_drop]
   rw[e2,e3]
   exact rank1_calls M[r+i] A' c2 B col W (blk_cell (blk_below hB hW) 0) h2 (by rw[hm _ (List.getElem_mem hri)];exact hcol))
 rw[hdl,hM] at H
 exact H
set_option maxRecDepth 100000 in
set_option maxHeartbeats 16000000 in
theorem rank_calls (n:Int) (A:Option Addr) (c:Nat) (l:List Int) (d p:Int) (w:World) (hk:Kx w A c l) (hi:isC n l=true) (hd: -5≤d∧d≤15) (hp:2≤p∧p≤3) :
  Calls Tryz.prog 112 #[.agg #[I n,.slice A l.length c],I d,I p] w fun e w'=>e = .returned (I (rankL l d p))∧Grew w w':=by
 have hg:Grew w (w.alloc (.cells #[I n,.slice A l.length c] 26)):=below_alloc (Grew.refl w) _
 have hB:CB (w.alloc (.cells #[I n,.slice A l.length c] 26)) w.heap.size n (.slice A l.length c):=blk_new w _
 have hf:=isC_faces hi
 have hl:=hf.2.2.2
 have HF:=Aside0.mk (isC_of hi)
 have H1:=Aside0.mk (of_calls n A c l (d - 1) _ (hk.later hg) (by omega) HF.out)
 have hF63:=of_length l d
 have hC63:=of_length l (d - 1)
 have HFr:=Aside0.mk (fun x (hx:x ∈ ofL l d)=>hf.2.2.1 x (List.mem_filter.1 hx).1)
 have HBD:=Aside0.mk (fun x (hx:x ∈ ofL l d)=>bords_of hi d x hx)
 have HAS:=Aside0.mk (of_asc hi (d - 1))
 have HV:=Aside0.mk (show rankL l d p=rankM p (ofL l (d - 1)).length ((ofL l d).map (rowR (ofL l (d - 1)) p)) from rfl)
 have HGD:=Aside0.mk (rowsL_good l d p hp.1)
 have HRW:=Aside0.mk (show rowsL l d p=(ofL l d).map (rowR (ofL l (d - 1)) p) from rfl)
 rw[HRW.out] at HGD
 rw[HV.out]
 have k0:=hB.c0
 have k1:=hB.c1
 have HK:=Aside0.mk hk
 have HB:=Aside0.mk hB
 have HG:=Aside0.mk hg
 have hp0:p≠0:=by omega
 have HOF:=Aside0.mk (fun(w1:World) (h:Kx w1 A c l)=>of_calls n A c l d w1 h (by omega) HF.out)
 obtain ⟨F,hF⟩:∃ F,F=ofL l d:=⟨_,rfl⟩
 obtain ⟨cs,hcs⟩:∃ cs,cs=ofL l (d - 1):=⟨_,rfl⟩
 rw[← hF] at hF63 HFr HBD HOF HGD ⊢
 rw[← hcs] at H1 hC63 HBD HAS HGD ⊢
 clear hk hi hf hg hB hF hcs HV HRW
 go_enter Tryz.func112,Tryz.ntmps112
 go_wp2_with fail
 refine H1.out.mono ?_
 rintro e w1 ⟨v7,rfl,hR7,hG7⟩
 obtain ⟨A7,c7,rfl,hc7,hr7⟩:=Kd.R_reads hR7
 have HG1:=Aside0.mk (Grew.trans HG.out hG7)
 have HB1:=Aside0.mk (CB.later HB.out hG7)
 clear k0 k1 H1 hR7 hG7
 have k0:=HB1.out.c0
 have k1:=HB1.out.c1
 go_wp2_with fail
 refine(HOF.out w1 (HK.out.later HG1.out)).mono ?_
 rintro e w2 ⟨v31,rfl,hR31,hG31⟩
 obtain ⟨A31,c31,rfl,hc31,hr31⟩:=Kd.R_reads hR31
 have HG2:=Aside0.mk (Grew.trans HG1.out hG31)
 have HR7:=Aside0.mk (Kd.C_below hr7 hG31)
 have HR31:=Aside0.mk hr31
 clear hR31 hr31 hr7 hG31 k0 k1
 go_wp2_with fail
 go_loopg [8,33] F.length (fun gg s8 s33 wr=>∃ kk,kk≤F.length∧F.length - kk≤gg∧s33 = .int .i64 (kk:Nat)∧(kk=0→s8 = .slice none 0 0)∧(∃ vs f,Aside0 (Mat wr w2.heap.size s8 vs f ((F.take kk).map (rowR cs p))))∧Aside0 (Grew w2 wr))
 case atStart=>exact⟨0,Nat.zero_le _,by omega,rfl,fun _=>rfl,⟨[],fun _=>0,⟨Mat.nil _ _⟩⟩,⟨Grew.refl _⟩⟩
 case round=>
  obtain ⟨kk,hkk,hgg,rfl,hnil,⟨vs,f,HM⟩,HGr⟩:=hrel
  obtain ⟨A8,c8,e8,hc8⟩:=HM.out.slice
  have HML:Aside0 (((F.take kk).map (rowR cs p)).length=kk):=⟨by simp;omega⟩
  rw[HML.out] at e8 hc8
  subst e8
  by_cases hlt:kk<F.length
  ·have hltz:(kk:Int)<(F.length:Int):=by omega
   obtain ⟨ad,e0,hx⟩:=Kd.at_int (Kd.C_below HR31.out HGr.out) (kk:Int) (by omega) (by omega)
   cases e0
   have hrd:rd F (kk:Int)=F[kk]:=by simp [rd,hlt]
   rw[hrd,Int.toNat_natCast] at hx
   have hyr:=HFr.out _ (List.getElem_mem hlt)
   have HBy:=Aside0.mk (HBD.out _ (List.getElem_mem hlt))
   obtain ⟨y,hy⟩:∃ y,y=F[kk]:=⟨_,rfl⟩
   rw[← hy] at hx hyr HBy
   have HN:Aside0 ((F.take (kk+1)).map (rowR cs p)=(F.take kk).map (rowR cs p) ++ [rowR cs p y]):=⟨by rw[List.take_succ_eq_append_getElem hlt,List.map_append,hy];rfl⟩
   clear hrd hy
   have h0m:0≤(cs.length:Int):=by omega
   generalize hMM:(F.take kk).map (rowR cs p)=M at HM HML HN
   clear hMM
   go_wp2_with (first|((with_reducible refine gate_dst (N:=39) rfl ?_);refine Kd.R_make (Kd.int .i64) _ 2 rfl (N:=39) rfl 24 _ _ rfl (cs.length:Int) (by go_num) (by go_num) Tryz.underlying24 (.int .i64 0) 8 infoI rfl (by decide) (by omega) 0 (ok:=fun _=>True) (okp:=fun _=>True) rfl (fun _ hk=>hk) trivial h0m (by omega) (Below.refl _ _) (Nat.le_refl _) ?_;intro v w4 ho hb hg_ hnew_;have HO:=Aside0.mk ho;have HG4:=Aside0.mk hb;have HNW:=Aside0.mk hnew_;clear ho hb hg_ hnew_))
   rw[Int.toNat_natCast] at HO
   obtain ⟨b,hbv,hbs⟩:=HNW.out
   obtain ⟨A11,c11,e11⟩:=Kd.R_slice HO.out
   rw[List.length_replicate] at e11
   subst e11
   obtain ⟨h1,h2⟩:=HM.out.split b hbs
   have hb4:b<w4.heap.size:=Kd.R_lt HO.out b hbv
   have hs4:=HGr.out.size
   have hs5:=HG4.out.size
   have HFR:=Aside0.mk HM.out.fresh
   have HO1:Aside0 (Ki.R 2 w4 w2.heap.size (fun k=>k=b) (.slice A11 cs.length c11) (List.replicate cs.length 0)):=⟨Kd.R_lower (Kd.R_of_own (Kd.own_of_R HO.out) (fun k hk=>by rw[hbv] at hk;injection hk with hk;exact hk.symm)) hs4⟩
   have HW4:Aside0 (Grew w2 w4):=⟨Grew.trans HGr.out HG4.out⟩
   have HS4:=Aside0.mk (h1.below HG4.out)
   have HU4:=Aside0.mk (Kd.R_below h2 HG4.out)
   clear h1 h2 HO hx HNW
   go_wp2_with fail
   refine(borders_calls y _).mono ?_
   rintro e w5 ⟨v41,rfl,hR41,hG5⟩
   obtain ⟨A41,c41,rfl,hc41,_⟩:=Kd.R_reads hR41
   have HB5:Aside0 (Ki.R 2 w5 w2.heap.size (fun k=>k≠b) (.slice A41 (bords y).length c41) (bords y)):=⟨Kd.R_lower (Kd.R_mono (Kd.R_bound hR41) (fun k hk=>by have:=hk.2.1;omega)) (by omega)⟩
   have HO5:=Aside0.mk (Kd.R_below HO1.out hG5)
   have HS5:=Aside0.mk (HS4.out.below hG5)
   have HU5:=Aside0.mk (Kd.R_below HU4.out hG5)
   have HW5:Aside0 (Grew w2 w5):=⟨Grew.trans HW4.out hG5⟩
   have hb5:b<w5.heap.size:=Nat.lt_of_lt_of_le hb4 hG5.size
   have hs6:=hG5.size
   have HRR:=Aside0.mk (show rowR cs p y=fillR cs p (bords y) (signsL y) (bords y).length from rfl)
   have hsl:(signsL y).length=(bords y).length:=by simp [signsL]
   have hbl:=bords_length y
   have HSG:=Aside0.mk (fun s h=>sign_is y (by omega) (by omega) s h)
   have HSC:=Aside0.mk (signs_calls y (by omega) (by omega))
   clear hR41 hG5 HO1 HS4 HU4 HW4
   rw[HRR.out] at HN
   clear HRR
   generalize bords y=bs at HB5 HN hsl hbl HBy ⊢
   generalize signsL y=sg at HN hsl HSG HSC
   have HO5':Aside0 (Ki.R 2 w5 w2.heap.size (fun k=>k=b) (.slice A11 cs.length c11) (fillR cs p bs sg 0)):=⟨HO5.out⟩
   go_wp2_with fail
   go_loopg [43] bs.length (fun gg s43 wr5=>∃ q:Nat,q≤bs.length∧bs.length - q≤gg∧s43 = .int .i64 q∧b<wr5.heap.size∧wr.heap.size≤wr5.heap.size∧Aside0 (Ki.R 2 wr5 w2.heap.size (fun k=>k=b) (.slice A11 cs.length c11) (fillR cs p bs sg q))∧Aside0 (Ki.R 2 wr5 w2.heap.size (fun k=>k≠b) (.slice A41 bs.length c41) bs) ∧
    Aside0 (Rws wr5 w2.heap.size vs (fun k=>if k=b then M.length else f k) M)∧Aside0 (Kv.R 24 wr5 w2.heap.size (fun k=>M.length≤f k∧k≠b) (.slice A8 kk c8) vs)∧Aside0 (Grew w2 wr5))
   case atStart=>exact⟨0,Nat.zero_le _,by omega,rfl,hb5,by omega,HO5',HB5,HS5,HU5,HW5⟩
   case round=>
    obtain ⟨q,hq,hgq,rfl,hbr,hsr,HOr,HBr,HSr,HUr,HWr⟩:=hrel
    by_cases hlq:q<bs.length
    ·have hlqz:(q:Int)<(bs.length:Int):=by omega
     obtain ⟨_,_,hr41⟩:=Kd.R_reads' HBr.out
     obtain ⟨ad,e0,hx⟩:=Kd.at_int hr41 (q:Int) (by omega) (by omega)
     cases e0
     have hrd:rd bs (q:Int)=bs[q]:=by simp [rd,hlq]
     rw[hrd,Int.toNat_natCast] at hx
     have hgc:=HBy.out _ (List.getElem_mem hlq)
     obtain ⟨hpl,hpc1,hpc2,hpb⟩:=place_is cs bs[q] (by omega) HAS.out hgc
     clear hpc1 hpc2
     have HFS:Aside0 (fillR cs p bs sg (q+1)=(fillR cs p bs sg q).set (place cs bs[q]) ((sg[q]'(by omega)+p) % p)):=⟨by rw[fillR_succ,getD_get bs q 0 hlq,getD_get sg q 0 (by omega)]⟩
     have H6:=Aside0.mk (bs_calls A7 c7 cs bs[q] _ (Kd.C_below HR7.out HWr.out) hc7 (by omega))
     rw[hpb] at H6
     generalize place cs bs[q]=P at hpl H6 HFS
     generalize bs[q]=g at hx H6
     clear hrd hpb hr41 hgc
     go_wp2_with fail
     refine H6.out.mono ?_
     rintro e w6 ⟨rfl,hG6⟩
     clear hx H6
     go_wp2_with fail
     refine(HSC.out w6).mono ?_
     rintro e w7 ⟨v57,rfl,hR57,hG7⟩
     obtain ⟨A57,c57,rfl,hc57,hr57⟩:=Kd.R_reads hR57
     obtain ⟨ad,e0,hx⟩:=Kd.at_int hr57 (q:Int) (by omega) (by omega)
     cases e0
     have hrd:rd sg (q:Int)=sg[q]'(by omega):=by simp [rd,show q<sg.length by omega]
     rw[hrd,Int.toNat_natCast] at hx
     have hs:=HSG.out _ (List.getElem_mem (show q<sg.length by omega))
     have hqs:(q:Int)<(sg.length:Int):=by omega
     generalize sg[q]'(by omega)=s at hx hs HFS
     have hG67:Grew wr w7:=Grew.trans hG6 hG7
     have HO7:=Aside0.mk (Kd.R_below HOr.out hG67)
     have HB7:=Aside0.mk (Kd.R_below HBr.out hG67)
     have HS7:=Aside0.mk (HSr.out.below hG67)
     have HU7:=Aside0.mk (Kd.R_below HUr.out hG67)
     have HW7:Aside0 (Grew w2 w7):=⟨Grew.trans HWr.out hG67⟩
     have hs7:=hG67.size
     clear hrd hr57 hR57 hG6 hG7 hG67 HOr HBr HSr HUr HWr
     have hfl:=(fillR_good cs p hp.1 bs sg q).1
     obtain ⟨g11,cc,eo,gb,gl,_⟩:=Kd.R_form HO7.out (by omega)
     rw[hfl] at eo
     injection eo with ea en ec
     subst ea ec
     clear en
     obtain rfl:g11=b:=HO7.out.1 g11 (by simp [Value.ownBlock])
     obtain ⟨hy1,hf1⟩:=Kd.R_celln 0 HO7.out (P:Int) (by omega) (by omega)
     rw[Int.toNat_natCast] at hy1 hf1
     have hP2:(P:Int)<(cs.length:Int):=by omega
     have hsp:0≤s+p:=by omega
     rw[show (s+p) % p=s % p by simp] at HFS
     have HOW:=Aside0.mk (Kd.R_putn HO7.out (P:Int) (s % p))
     rw[Int.toNat_natCast,← HFS.out] at HOW
     have hfar:∀ k,k≠g11→(w7.setCell ⟨g11,P,none⟩ (I (s % p))).heap[k]?=w7.heap[k]?:=fun k hk=>Below.heap_setCell w7 _ _ k hk
     have HBW:=Aside0.mk (Kd.R_step HB7.out (fun k ho _=>hfar k ho))
     have HUW:=Aside0.mk (Kd.R_step HU7.out (fun k ho _=>hfar k ho.2))
     have HSW:Aside0 (Rws (w7.setCell ⟨g11,P,none⟩ (I (s % p))) w2.heap.size vs (fun k=>if k=g11 then M.length else f k) M):=⟨HS7.out.step (fun k hk _=>hfar k (fun e=>by
      have h3:(if k=g11 then M.length else f k)<M.length:=hk
      rw[if_pos e] at h3
      omega))⟩
     have HWW:Aside0 (Grew w2 (w7.setCell ⟨g11,P,none⟩ (I (s % p)))):=⟨Below.setCell HW7.out gb _⟩
     have hsz:(w7.setCell ⟨g11,P,none⟩ (I (s % p))).heap.size=w7.heap.size:=World.size_setCell _ _ _
     clear HO7 HB7 HS7 HU7 hfar
     go_wp2_with fail
     go_roundg (bs.length - (q+1))
     case measure=>omega
     case rel=>exact⟨q+1,by omega,by omega,by go_num,by rw[World.size_setCell];exact gl,by rw[World.size_setCell];omega,HOW,HBW,HSW,HUW,HWW⟩
    ·obtain rfl:q=bs.length:=by omega
     have hlqz:¬ (bs.length:Int)<(bs.length:Int):=by omega
     have hvl:=HSr.out.len
     rw[HML.out] at hvl
     have hsw:=HWr.out.size
     have hfr:∀ k,wr.heap.size≤k→M.length≤f k∧k≠b:=fun k hk=>⟨HFR.out k (by omega),by omega⟩
     have HPS:=Aside0.mk (fun(A9:Option Addr) (c9:Nat) (w9:World) hR9 hg9=>Mat.push (v:= .slice A8 kk c8) (v1:= .slice A9 (kk+1) c9) (w1:=w9) (r:=(⟨.slice A11 cs.length c11,rfl⟩:OneV)) HSr.out HOr.out hR9 hg9 (fun k hk=>HUr.out.1 k hk) hbr (fun k hk=>(hfr k hk).1))
     subst hvl
     go_wp2_with (at_builtin;refine append_val w2.heap.size rfl (.tmp 67) (.tmp 69) rfl (fun k=>M.length≤f k∧k≠b) hfr _ vs ⟨.slice A11 cs.length c11,rfl⟩ rfl rfl HUr.out hsw (by omega) ?_;intro A9 c9 w9 hR9 hB9 hg9;have HM9:=Aside0.mk (HPS.out A9 c9 w9 hR9 hg9);have HW9:Aside0 (Grew w2 w9):=⟨Below.trans HWr.out hB9⟩;clear hR9 hB9 hg9)
     go_roundg (F.length - (vs.length+1))
     case measure=>omega
     case rel=>exact⟨vs.length+1,by omega,by omega,by go_num,fun h=>absurd h (Nat.succ_ne_zero _),⟨_,_,⟨by rw[HN.out];exact HM9.out⟩⟩,HW9⟩
  ·obtain rfl:kk=F.length:=by omega
   rw[List.take_length] at HM HML
   obtain ⟨M0,hM0⟩:∃ M0,M0=F.map (rowR cs p):=⟨_,rfl⟩
   rw[← hM0] at HM HML HGD
   have HE0:=Aside0.mk hM0
   have HP:=Aside0.mk hp
   have hbase:w2.heap.size≤wr.heap.size:=HGr.out.size
   clear hM0
   rcases Nat.eq_zero_or_pos F.length with h0|hpos
   ·have e8:=hnil h0
    injection e8 with e1 e2 e3
    subst e1
    obtain rfl:c8=0:=e3
    have HV0:Aside0 (rankM p cs.length (F.map (rowR cs p))=0):=⟨by rw[List.length_eq_zero_iff.1 h0];unfold rankM;rw[List.map_nil,rankM_nil];rfl⟩
    rw[h0]
    have hltz0:¬ ((0:Nat):Int)<((0:Nat):Int):=by omega
    clear e2 hnil hgg HM HML HGD HBD HFr HAS HR31 hc31 HOF
    go_wp2_with fail
    go_loopg [16,74] cs.length (fun gg s16 s74 wr2=>∃ col:Nat,col≤cs.length∧cs.length - col≤gg∧s16 = .int .i64 0∧s74 = .int .i64 col∧Aside0 (Grew w2 wr2))
    case atStart=>exact⟨0,Nat.zero_le _,by omega,rfl,rfl,HGr⟩
    case round=>
     obtain ⟨col,hc,hgg,rfl,rfl,HG3⟩:=hrel
     by_cases hlt2:col<cs.length
     ·have hltz2:(col:Int)<(cs.length:Int):=by omega
      have H:=Aside0.mk (IndexFunc_rows (fun _=>false) none 0 [] 142 #[] #[.pointer (some ⟨wr.heap.size,0,none⟩)] (wr.alloc (.cells #[I col] 3)) (fun i hi=>absurd hi (Nat.not_lt_zero i)) (fun ad e=>by cases e) (Nat.zero_le _) (enters_of Tryz.func142 (by kernel_rfl) rfl) (fun i hi=>absurd hi (Nat.not_lt_zero i)))
      have HGA:Aside0 (Grew wr (wr.alloc (.cells #[I col] 3))):=⟨below_alloc (Grew.refl wr) _⟩
      go_wp2_with fail
      refine H.out.mono ?_
      rintro e w3 ⟨rfl,hG3⟩
      have HG4:=Aside0.mk (Grew.trans HG3.out (Grew.trans HGA.out hG3))
      clear hG3 H
      have hm1:idx (fun _:Nat=>false) (List.range ([]:List OneV).length) = -1:=rfl
      rw[hm1]
      go_wp2_with fail
      go_roundg (cs.length - (col+1))
      case measure=>omega
      case rel=>exact⟨col+1,by omega,by omega,rfl,by go_num,HG4⟩
     ·obtain rfl:col=cs.length:=by omega
      go_wp2_with fail
      go_ret
      exact⟨by rw[HV0.out];rfl,Below.trans HG2.out (HG3.out.mono HG2.out.size)⟩
   ·obtain ⟨G,cc,e,hcc⟩:=HM.out.head (by rw[HML.out];exact hpos)
    rw[HML.out] at e hcc
    injection e with e1 e2 e3
    subst e1
    have e3:=e3.symm
    subst e3
    clear hnil hgg e2
    obtain ⟨N,hN⟩:∃ N,N=F.length:=⟨_,rfl⟩
    have hltz:¬ ((N:Nat):Int)<((N:Nat):Int):=by omega
    rw[← hN] at HM HML hpos hcc hF63 ⊢
    obtain ⟨m,hm⟩:∃ m,m=cs.length:=⟨_,rfl⟩
    have HMm:=Aside0.mk hm
    rw[← hm] at HGD hC63 HR7 hc7 ⊢
    clear hN hm HBD HFr HAS HR31 hc31 HOF
    go_wp2_with fail
    go_loopg [16,74] m (fun gg s16 s74 wr2=>∃(col r:Nat) (M:List (List Int)),col≤m∧m - col≤gg∧s16 = .int .i64 r∧s74 = .int .i64 col∧Aside0 (rankTo p M0 col=(r,M))∧(∃ vs f,Aside0 (Mat wr2 w2.heap.size (.slice (some ⟨G,0,none⟩) N cc) vs f M))∧Aside0 (Grew w2 wr2))
    case atStart=>exact⟨0,0,M0,Nat.zero_le _,by omega,rfl,rfl,⟨rfl⟩,⟨vs,f,HM⟩,HGr⟩
    case round=>
     obtain ⟨col,r,M,hc,hgg,rfl,rfl,HS,⟨vs2,f2,HM2⟩,HG3⟩:=hrel
     obtain ⟨hr1,hr2,hr3,hr4,hr5⟩:=rank_good HP.out HGD.out col hc
     rw[HS.out] at hr1 hr2 hr3 hr4 hr5
     simp only at hr1 hr2 hr3 hr4 hr5
     rw[HML.out] at hr1 hr3
     have HGM:=Aside0.mk hr4
     have HCM:=Aside0.mk hr5
     have HL:=Aside0.mk hr3
     clear hr4 hr5 hr3
     by_cases hlt2:col<m
     ·have hltz2:(col:Int)<(m:Int):=by omega
      have hBx:(wr.alloc (.cells #[I col] 3)).heap[wr.heap.size]?=some (.cells #[I col] 3 (0,0)):=blk_new wr _
      have hgA:Grew wr (wr.alloc (.cells #[I col] 3)):=below_alloc (Grew.refl wr) _
      have H:=Aside0.mk (fun A c' hA=>piv_calls (HM2.out.below hgA) HL.out (by omega) hr1 (fun row hrow=>(HGM.out row hrow).1) hlt2 hBx A c' hA)
      have HBX:=Aside0.mk hBx
      have HGA:=Aside0.mk hgA
      have hrr:((r:Nat):Int)≤(N:Int):=by omega
      clear hBx hgA
      by_cases hrc:r<cc
      ·go_wp2_with fail
       refine(H.out _ _ (.inr rfl)).mono ?_
       rintro e w3 ⟨rfl,hG3⟩
       have HG4:=Aside0.mk (Grew.trans HGA.out hG3)
       have HBX3:=Aside0.mk (blk_below HBX.out hG3)
       have HMx:=Aside0.mk (HM2.out.below HG4.out)
       have HW3:=Aside0.mk (Grew.trans HG3.out HG4.out)
       clear hG3 H
       rcases pivI_cases M r col with hm1|⟨i,hpi,hri,hne⟩
       ·rw[hm1]
        have HS2:Aside0 (rankTo p M0 (col+1)=(r,M)):=⟨by
         rw[rankTo_succ,HS.out]
         unfold rstep
         simp only [hm1]
         rfl⟩
        go_wp2_with fail
        go_roundg (m - (col+1))
        case measure=>omega
        case rel=>exact⟨col+1,r,M,by omega,by omega,rfl,by go_num,HS2,⟨vs2,f2,HMx⟩,HW3⟩
       ·rw[hpi]
        rw[HL.out] at hri
        have hrn:r<N:=by omega
        have hrl:r<M.length:=by rw[HL.out];omega
        have hjl:r+i<M.length:=by rw[HL.out];omega
        obtain ⟨gj,cj,ej,hcj,_,_,hbG,_,hxj,hfj,_⟩:=HMx.out.at (r+i) m hjl (HGM.out _ (getD_mem M (r+i) hjl)).1 (by omega)
        obtain ⟨gr,cr,er,hcr,_,_,_,_,hxr,hfr,_⟩:=HMx.out.at r m hrl (HGM.out _ (getD_mem M r hrl)).1 (by omega)
        obtain ⟨hmid,hfmid⟩:=HMx.out.mid r (r+i) hrl hjl
        rw[ej] at hmid hfmid
        have hsw:=HMx.out.swap r (r+i) hrl hjl
        rw[ej,er,swapM_is M r (r+i) hrl hjl] at hsw
        have HSW:=Aside0.mk hsw
        clear hsw
        have hvl:=HMx.out.len
        have HVR:Aside0 ((((vs2.set r (vs2[r+i]'(by omega))).set (r+i) (vs2[r]'(by omega))).getD r nilV).1 = .slice (some ⟨gj,0,none⟩) m cj):=⟨by
         have e1:swapT r (r+i) r=r+i:=by
          unfold swapT
          split
          ·assumption
          ·rw[if_pos rfl]
         rw[getD_get _ r nilV (by simp;omega),swap_get vs2 r (r+i) (by omega) (by omega) r (by omega)]
         simp only [e1]
         exact ej⟩
        have HS2:Aside0 (rankTo p M0 (col+1)=(r+1,elimM p col r (swapM M r (r+i)) N)):=⟨by
         rw[rankTo_succ,HS.out]
         unfold rstep
         simp only [hpi]
         rw[if_neg (by omega),Int.toNat_natCast,HL.out]⟩
        have HGS:=Aside0.mk (swapM_good HGM.out r (r+i) hrl hjl)
        have HCS:Aside0 (∀ q,q<col→((swapM M r (r+i)).getD r []).getD q 0=0):=⟨fun q hq=>by
         rw[swapM_get M r (r+i) r hrl hjl]
         split
         ·exact HCM.out r (Nat.le_refl _) hrl q hq
         ·rw[if_pos rfl];exact HCM.out (r+i) (by omega) hjl q hq⟩
        have HLS:Aside0 ((swapM M r (r+i)).length=N):=⟨by rw[swapM_length,HL.out]⟩
        generalize (vs2.set r (vs2[r+i]'(by omega))).set (r+i) (vs2[r]'(by omega))=vS at HSW HVR
        generalize (fun k=>swapT r (r+i) (f2 k))=fS at HSW
        generalize swapM M r (r+i)=S at HSW HS2 HGS HCS HLS
        have hGB:G≠wr.heap.size:=by
         obtain ⟨G',_,e,_,hlt,_⟩:=Kd.R_form HM2.out.outer (by rw[HM2.out.len,HL.out];exact hpos)
         injection e with e1
         injection e1 with e1
         injection e1 with e1
         omega
        have HB2:Aside0 (Grew w2 ((w3.setCell ⟨G,r,none⟩ (.slice (some ⟨gj,0,none⟩) m cj)).setCell ⟨G,r+i,none⟩ (.slice (some ⟨gr,0,none⟩) m cr))):=⟨Below.setCell (Below.setCell HW3.out hbG _) hbG _⟩
        have HBX5:Aside0 (((w3.setCell ⟨G,r,none⟩ (.slice (some ⟨gj,0,none⟩) m cj)).setCell ⟨G,r+i,none⟩ (.slice (some ⟨gr,0,none⟩) m cr)).heap[wr.heap.size]?=some (.cells #[I col] 3 (0,0))):=⟨blk_far (blk_far HBX3.out (fun e=>hGB e.symm) _) (fun e=>hGB e.symm) _⟩
        have hiz:¬ ((i:Nat):Int)<0:=by omega
        have hri2:((r:Nat):Int)+(i:Int)<(N:Int):=by omega
        have HSW5:=Aside0.mk (HSW.out.below (below_drew (Below.refl _ _)))
        have HB25:=Aside0.mk (below_drew HB2.out)
        have HBX55:=Aside0.mk (blk_below HBX5.out (below_drew (Below.refl _ _)))
        clear HSW HB2 HBX5
        have HRN:Aside0 (((N - (r+1):Nat):Int)=(N:Int) - ((r:Int)+1)):=⟨by omega⟩
        clear ej er
        by_cases hr1c:r+1<cc
        ·go_wp2_with fail
         go_region
         generalize ((w3.setCell ⟨G,r,none⟩ (.slice (some ⟨gj,0,none⟩) m cj)).setCell ⟨G,r+i,none⟩ (.slice (some ⟨gr,0,none⟩) m cr)).drew=W5 at HSW5 HB25 HBX55 ⊢
         generalize wr.heap.size=B at HBX55 hGB ⊢
         obtain ⟨gp,cp',ep,_,_,_,_,_,hxp,_,_⟩:=HSW5.out.at r m (by rw[HLS.out];exact hrn) (HGS.out _ (getD_mem S r (by rw[HLS.out];exact hrn))).1 (by omega)
         have e1:=HVR.out
         rw[getD_get vS r nilV (by have:=HSW5.out.len;rw[HLS.out] at this;omega),ep] at e1
         injection e1 with e1 _ e2
         injection e1 with e1
         injection e1 with e1
         subst e1 e2
         have hr1n:((r:Nat):Int)+1≤(N:Int):=by omega
         go_wp2_with fail
         go_loopg [110] N (fun gg s110 wr4=>∃ q:Nat,q≤N - (r+1)∧N - (r+1) - q≤gg∧s110 = .int .i64 q∧Aside0 (wr4.heap[B]?=some (.cells #[I col] 3 (0,0)))∧Aside0 (Mat wr4 w2.heap.size (.slice (some ⟨G,0,none⟩) N cc) vS fS (elimM p col r S (r+1+q)))∧Aside0 (Grew w2 wr4))
         case atStart=>exact⟨0,Nat.zero_le _,by omega,by go_num,HBX55,⟨by rw[Nat.add_zero,elimM_start];exact HSW5.out⟩,HB25⟩
         case round=>
          clear hxp hxj hfj hxr hfr hmid hfmid ep
          obtain ⟨q,hqn,hg2,rfl,HBX6,HM6,HB6⟩:=hrel
          have hrS:r<S.length:=by rw[HLS.out];omega
          by_cases hlq:q<N - (r+1)
          ·have hi2n:r+1+q<N:=by omega
           have hlqz:(q:Int)<((N - (r+1):Nat):Int):=by omega
           have hiS:r+1+q<S.length:=by rw[HLS.out];omega
           have HRW:=Aside0.mk (elimM_get p col r (r+1+q) S r hrS)
           rw[if_neg (by omega)] at HRW
           have HIW:=Aside0.mk (elimM_get p col r (r+1+q) S (r+1+q) hiS)
           rw[if_neg (by omega)] at HIW
           have hli:=(HGS.out _ (getD_mem S (r+1+q) hiS)).1
           have hlr:=(HGS.out _ (getD_mem S r hrS)).1
           obtain ⟨gi,ci,ei,hci,hfi,hbi,_,_,hxi,hfzi,hni⟩:=HM6.out.at (r+1+q) m (by rw[elimM_length];exact hiS) (by rw[HIW.out];exact hli) (by omega)
           obtain ⟨gq,cq,eq,hcq,hfq,_,_,_,_,_,hnr⟩:=HM6.out.at r m (by rw[elimM_length];exact hrS) (by rw[HRW.out];exact hlr) (by omega)
           have hGi:gi≠B:=by
            intro e
            obtain ⟨cells,hcells⟩:=HM6.out.typed (r+1+q) (by rw[elimM_length];exact hiS) ei
            have hbb:=HBX6.out
            rw[← e,hcells] at hbb
            injection hbb with hbb
            injection hbb with _ hbb
            exact absurd hbb (by decide)
           have e1:=HVR.out
           rw[getD_get vS r nilV (by have:=HM6.out.len;rw[elimM_length] at this;omega),eq] at e1
           injection e1 with e1 _ e2
           injection e1 with e1
           injection e1 with e1
           subst e1 e2
           rw[HIW.out] at hni
           rw[HRW.out] at hnr
           obtain ⟨hxa,_⟩:=hni col hlt2
           obtain ⟨hxb,_⟩:=hnr col hlt2
           have ha:=good_num HGS.out (r+1+q) hiS col hlt2
           have hb:=good_num HGS.out r hrS col hlt2
           have hbc:wr.cell? ⟨B,0,none⟩=some (I col):=blk_cell HBX6.out 0
           clear hni hnr
           obtain ⟨a,hA⟩:∃ a,a=(S.getD (r+1+q) []).getD col 0:=⟨_,rfl⟩
           obtain ⟨b,hB⟩:∃ b,b=(S.getD r []).getD col 0:=⟨_,rfl⟩
           rw[← hA] at hxa ha
           rw[← hB] at hxb hb
           have HA:=Aside0.mk hA
           have HB:=Aside0.mk hB
           have hab:=prod_range p a b hp ha ⟨hb.1,by omega⟩
           clear hA hB hli hlr
           go_wp2_with fail
           repeat(go_quiet (fail))
           try go_wp2_with fail
           clear hxa hxb hxi hfzi hbc
           go_loopg [125] m (fun gg s125 wr5=>∃ j2:Nat,j2≤m∧m - j2≤gg∧s125 = .int .i64 j2∧Aside0 (wr5.heap[B]?=some (.cells #[I col] 3 (0,0)))∧Aside0 (Mat wr5 w2.heap.size (.slice (some ⟨G,0,none⟩) N cc) vS fS ((elimM p col r S (r+1+q)).set (r+1+q) (elimP p col (S.getD r []) (S.getD (r+1+q) []) j2)))∧Aside0 (Grew w2 wr5))
           case atStart=>exact⟨0,Nat.zero_le _,by omega,by go_num,⟨blk_below HBX6.out (pw_below_drewN (Below.refl _ _) _)⟩,⟨by rw[elimP_zero,set_same _ (r+1+q) _ (by rw[elimM_length];exact hiS) HIW.out];exact HM6.out.below (pw_below_drewN (Below.refl _ _) _)⟩,⟨pw_below_drewN HB6.out _⟩⟩
           case round=>
            obtain ⟨j2,hjm,hg4,rfl,HBX7,HM7,HB7⟩:=hrel
            by_cases hlt4:j2<m
            ·have hltz4:(j2:Int)<(m:Int):=by omega
             have HR4:Aside0 ((((elimM p col r S (r+1+q)).set (r+1+q) (elimP p col (S.getD r []) (S.getD (r+1+q) []) j2)).getD (r+1+q) [])=elimP p col (S.getD r []) (S.getD (r+1+q) []) j2):=⟨set_getD _ _ _ (by rw[elimM_length];exact hiS)⟩
             have HQ4:Aside0 ((((elimM p col r S (r+1+q)).set (r+1+q) (elimP p col (S.getD r []) (S.getD (r+1+q) []) j2)).getD r [])=S.getD r []):=⟨by rw[set_getD_ne _ _ _ _ (by omega)];exact HRW.out⟩
             have hlen4:((elimM p col r S (r+1+q)).set (r+1+q) (elimP p col (S.getD r []) (S.getD (r+1+q) []) j2)).length=S.length:=by rw[List.length_set,elimM_length]
             obtain ⟨g1,c1,e1,_,_,hb1,_,_,_,_,hn1⟩:=HM7.out.at (r+1+q) m (by rw[hlen4];exact hiS) (by rw[HR4.out,elimP_length];exact(HGS.out _ (getD_mem S (r+1+q) hiS)).1) (by omega)
             obtain ⟨g2,c2,e2,_,_,_,_,_,_,_,hn2⟩:=HM7.out.at r m (by rw[hlen4];exact hrS) (by rw[HQ4.out];exact(HGS.out _ (getD_mem S r hrS)).1) (by omega)
             rw[ei] at e1
             injection e1 with e1 _ e3
             injection e1 with e1
             injection e1 with e1
             subst e1 e3
             rw[eq] at e2
             injection e2 with e2 _ e3
             injection e2 with e2
             injection e2 with e2
             subst e2 e3
             obtain ⟨hx1,hf1⟩:=hn1 j2 hlt4
             obtain ⟨hy1,_⟩:=hn2 j2 hlt4
             rw[HR4.out,elimP_get _ _ _ _ _ _ (by rw[(HGS.out _ (getD_mem S (r+1+q) hiS)).1];exact hlt4),if_neg (Nat.lt_irrefl _)] at hx1
             rw[HQ4.out] at hy1
             have hx:=good_num HGS.out (r+1+q) hiS j2 hlt4
             have hy:=good_num HGS.out r hrS j2 hlt4
             have HW:=HM7.out.put (r+1+q) (by rw[hlen4];exact hiS) gi m ci ei (j2:Int) (elimAt p col (S.getD r []) (S.getD (r+1+q) []) j2)
             have HE:Aside0 (elimAt p col (S.getD r []) (S.getD (r+1+q) []) j2=Int.tmod ((S.getD (r+1+q) []).getD j2 0 - a*b*(S.getD r []).getD j2 0) p % p):=⟨by
              rw[HA.out,HB.out]
              have hv:=(impl_val p _ _ _ _ hp hx (good_num HGS.out (r+1+q) hiS col hlt2) (good_num HGS.out r hrS col hlt2) hy).symm
              have htg:=Int.lt_tmod_of_pos ((S.getD (r+1+q) []).getD j2 0 - (S.getD (r+1+q) []).getD col 0*(S.getD r []).getD col 0*(S.getD r []).getD j2 0) (show 0<p by omega)
              rw[Int.tmod_eq_emod_of_nonneg (by omega)] at hv
              unfold elimAt
              rw[hv]
              simp⟩
             obtain ⟨x,hX⟩:∃ x,x=(S.getD (r+1+q) []).getD j2 0:=⟨_,rfl⟩
             obtain ⟨y,hY⟩:∃ y,y=(S.getD r []).getD j2 0:=⟨_,rfl⟩
             rw[← hX] at hx1 hx HE
             rw[← hY] at hy1 hy HE
             have hpr:=prod3 p a b y hp ha hb hy
             have htl:=Int.tmod_lt_of_pos (x - a*b*y) (show 0<p by omega)
             have htg:=Int.lt_tmod_of_pos (x - a*b*y) (show 0<p by omega)
             clear hn1 hn2 hX hY HR4 HQ4
             go_wp2_with fail
             have HW2:Aside0 (Mat (wr.setCell ⟨gi,j2,none⟩ (I (Int.tmod (x - a*b*y) p % p))) w2.heap.size (.slice (some ⟨G,0,none⟩) N cc) vS fS ((elimM p col r S (r+1+q)).set (r+1+q) (elimP p col (S.getD r []) (S.getD (r+1+q) []) (j2+1)))):=⟨by
              rw[← HE.out]
              have h:=HW
              rw[Int.toNat_natCast,List.getElem_set_self,List.set_set,← elimP_succ] at h
              exact h⟩
             have HB8:Aside0 (Grew w2 (wr.setCell ⟨gi,j2,none⟩ (I (Int.tmod (x - a*b*y) p % p)))):=⟨Below.setCell HB7.out hb1 _⟩
             have HBX8:Aside0 ((wr.setCell ⟨gi,j2,none⟩ (I (Int.tmod (x - a*b*y) p % p))).heap[B]?=some (.cells #[I col] 3 (0,0))):=⟨blk_far HBX7.out (fun e=>hGi e.symm) _⟩
             clear HW
             go_region
             all_goals (
              go_wp2_with fail
              go_roundg (m - (j2+1))
              (case measure=>omega)
              (case rel=>exact⟨j2+1,by omega,by omega,by go_num,⟨blk_below HBX8.out (below_drew (Below.refl _ _))⟩,⟨HW2.out.below (below_drew (Below.refl _ _))⟩,⟨below_drew HB8.out⟩⟩))
            ·obtain rfl:j2=m:=by omega
             have hltz4:¬ (j2:Int)<(j2:Int):=by omega
             have HE2:Aside0 (elimM p col r S (r+1+(q+1))=(elimM p col r S (r+1+q)).set (r+1+q) (elimP p col (S.getD r []) (S.getD (r+1+q) []) j2)):=⟨by
              rw[← Nat.add_assoc,elimM_succ p col r S (r+1+q) (by omega),← elimP_end,(HGS.out _ (getD_mem S (r+1+q) hiS)).1]⟩
             go_wp2_with fail
             go_roundg (N - (r+1) - (q+1))
             case measure=>omega
             case rel=>exact⟨q+1,by omega,by omega,by go_num,HBX7,⟨by rw[HE2.out];exact HM7.out⟩,HB7⟩
          ·have hqe:r+1+q=N:=by omega
           have hlqz:¬ (q:Int)<((N - (r+1):Nat):Int):=by omega
           rw[hqe] at HM6
           go_wp2_with fail
           go_roundg (m - (col+1))
           case measure=>omega
           case rel=>exact⟨col+1,r+1,elimM p col r S N,by omega,by omega,by go_num,by go_num,HS2,⟨vS,fS,HM6⟩,HB6⟩
        ·have hN1:N=r+1:=by omega
         have hr1n:((r:Nat):Int)+1≤(N:Int):=by omega
         have hz1:N - (r+1)=0:=by omega
         have HN1:=Aside0.mk hN1
         clear hN1
         go_wp2_with fail
         go_region
         generalize ((w3.setCell ⟨G,r,none⟩ (.slice (some ⟨gj,0,none⟩) m cj)).setCell ⟨G,r+i,none⟩ (.slice (some ⟨gr,0,none⟩) m cr)).drew=W5 at HSW5 HB25 HBX55 ⊢
         generalize wr.heap.size=B at HBX55 hGB ⊢
         obtain ⟨gp,cp',ep,_,_,_,_,_,hxp,_,_⟩:=HSW5.out.at r m (by rw[HLS.out];exact hrn) (HGS.out _ (getD_mem S r (by rw[HLS.out];exact hrn))).1 (by omega)
         have e1:=HVR.out
         rw[getD_get vS r nilV (by have:=HSW5.out.len;rw[HLS.out] at this;omega),ep] at e1
         injection e1 with e1 _ e2
         injection e1 with e1
         injection e1 with e1
         subst e1 e2
         go_wp2_with fail
         go_loopg [110] 0 (fun gg s110 wr4=>s110 = .int .i64 0∧Aside0 (Mat wr4 w2.heap.size (.slice (some ⟨G,0,none⟩) N cc) vS fS (elimM p col r S N))∧Aside0 (Grew w2 wr4))
         case atStart=>exact⟨by go_num,⟨by have h1:=elimM_start p col r S;rw[← HN1.out] at h1;rw[h1];exact HSW5.out⟩,HB25⟩
         case round=>
          clear hxp hxj hfj hxr hfr hmid hfmid ep
          obtain ⟨rfl,HM6,HB6⟩:=hrel
          go_wp2_with fail
          go_roundg (m - (col+1))
          case measure=>omega
          case rel=>exact⟨col+1,r+1,elimM p col r S N,by omega,by omega,by go_num,by go_num,HS2,⟨vS,fS,HM6⟩,HB6⟩
      ·go_wp2_with fail
       refine(H.out _ _ (.inl (by omega))).mono ?_
       rintro e w3 ⟨rfl,hG3⟩
       have HG4:=Aside0.mk (Grew.trans HGA.out hG3)
       have HMx:=Aside0.mk (HM2.out.below HG4.out)
       have HW3:=Aside0.mk (Grew.trans HG3.out HG4.out)
       have hm1:pivI M r col = -1:=by
        rcases pivI_cases M r col with hm1|⟨i,hpi,hri,hne⟩
        ·exact hm1
        ·rw[HL.out] at hri;omega
       rw[hm1]
       have HS2:Aside0 (rankTo p M0 (col+1)=(r,M)):=⟨by
        rw[rankTo_succ,HS.out]
        unfold rstep
        simp only [hm1]
        rfl⟩
       clear hG3 H
       go_wp2_with fail
       go_roundg (m - (col+1))
       case measure=>omega
       case rel=>exact⟨col+1,r,M,by omega,by omega,rfl,by go_num,HS2,⟨vs2,f2,HMx⟩,HW3⟩
     ·obtain rfl:col=m:=by omega
      have HVV:Aside0 (rankM p cs.length (F.map (rowR cs p))=(r:Int)):=⟨by rw[← HMm.out,← HE0.out];unfold rankM;rw[HS.out]⟩
      go_wp2_with fail
      go_ret
      exact⟨by rw[HVV.out];rfl,Below.trans HG2.out (HG3.out.mono HG2.out.size)⟩
end Go.Proofs.YtbnnamejnjfkjaaGreat.K
end

section
namespace Go.Proofs.YtbnnamejnjfkjaaGreat.X
open Go.RowKit Go.Shelf Go.Proofs.YtbnnamejnjfkjaaGreat.K Go.Proofs.YtbnnamejnjfkjaaGreatW.PrintWords Go.Proofs.YtbnnamejnjfkjaaGreatW.PrintLast Go.Proofs.YtbnnamejnjfkjaaGreatW.PrintMore
set_option linter.unusedVariables false
set_option linter.unusedSimpArgs false
def impl_Complex_rank.f (a0_0:Int) (l0_1:List Int) (a1 a2:Int):Option Int:=if isC a0_0 l0_1=true∧(-5≤a1∧a1≤15)∧2≤a2∧a2≤3 then some (rankL l0_1 a1 a2) else none
theorem impl_Complex_rank.calls (a0_0:Int) (A0_1:Option Addr) (c0_1:Nat) (l0_1:List Int) (a1 a2:Int) (r:Int) (w:World) (hr0_1:Kd.C (Kd.int .i64) w A0_1 l0_1.length l0_1) (hc0_1:l0_1.length≤c0_1) (h:impl_Complex_rank.f a0_0 l0_1 a1 a2=some r) :
  Calls Tryz.prog 112 #[.agg #[.int .i64 a0_0,.slice A0_1 l0_1.length c0_1],.int .i64 a1,.int .i64 a2] w fun e w'=>e = .returned (.int .i64 r)∧Below w.heap.size w w':=by
 unfold impl_Complex_rank.f at h
 by_cases hl:isC a0_0 l0_1=true∧(-5≤a1∧a1≤15)∧2≤a2∧a2≤3
 ·rw[if_pos hl] at h
  injection h with h
  subst h
  have h63:=(isC_faces hl.1).2.2.2
  exact rank_calls a0_0 A0_1 c0_1 l0_1 a1 a2 w ⟨hr0_1,hc0_1,by omega⟩ hl.1 hl.2.1 hl.2.2
 ·rw[if_neg hl] at h
  cases h
def impl_Complex_count.f (a0_0:Int) (l0_1:List Int) (l1:List Int):Option (List Int):=if (l0_1.length≤63∧∀ x ∈ l0_1,1≤x∧x≤63)∧l1.length≤63∧∀ x ∈ l1,x ∈ l0_1 then some (countL (topI l0_1+1).toNat l1) else none
theorem impl_Complex_count.calls (a0_0:Int) (A0_1:Option Addr) (c0_1:Nat) (l0_1:List Int) (A1:Option Addr) (c1:Nat) (l1:List Int) (r:List Int) (w:World) (hr0_1:Kd.C (Kd.int .i64) w A0_1 l0_1.length l0_1) (hc0_1:l0_1.length≤c0_1) (hr1:Kd.C (Kd.int .i64) w A1 l1.length l1) (hc1:l1.length≤c1) (h:impl_Complex_count.f a0_0 l0_1 l1=some r) :
  Calls Tryz.prog 101 #[.agg #[.int .i64 a0_0,.slice A0_1 l0_1.length c0_1],.slice A1 l1.length c1] w fun e w'=>∃ v0_:Value,e = .returned (v0_)∧Kd.R (Kd.int .i64) 2 w' w.heap.size (fun _=>True) v0_ r∧Below w.heap.size w w':=by
 unfold impl_Complex_count.f at h
 by_cases hl:(l0_1.length≤63∧∀ x ∈ l0_1,1≤x∧x≤63)∧l1.length≤63∧∀ x ∈ l1,x ∈ l0_1
 ·rw[if_pos hl] at h
  injection h with h
  subst h
  exact count_calls a0_0 A0_1 c0_1 l0_1 A1 c1 l1 w ⟨hr0_1,hc0_1,by omega⟩ (by omega) hl.1.2 hr1 hc1 hl.2.2 (by omega)
 ·rw[if_neg hl] at h
  cases h
end Go.Proofs.YtbnnamejnjfkjaaGreat.X
end

section
namespace Go.Proofs.YtbnnamejnjfkjaaGreat.K
open Go.RowKit Go.Shelf Go.Proofs.YtbnnamejnjfkjaaGreat.Q Go.Proofs.YtbnnamejnjfkjaaGreatW.PrintWords Go.Proofs.YtbnnamejnjfkjaaGreatW.PrintLast Go.Proofs.YtbnnamejnjfkjaaGreatW.PrintMore
set_option linter.unusedVariables false
set_option linter.unusedSimpArgs false
def countsL (l:List Int) (m:Nat):List Int:=(List.range m).map fun(d:Nat)=>((ofL l (d:Int)).length:Int)
theorem countL_is (l:List Int) (hq:∀ x ∈ l,0≤dimI x) (m:Nat):countL m l=countsL l m:=by
 apply List.ext_getElem
 ·simp [countL_length,countsL]
 ·intro i h1 h2
  rw[countL_length] at h1
  rw[countL_get m l hq i h1]
  simp only [countsL,List.getElem_map,List.getElem_range,ofL]
  congr 2
  apply List.filter_congr
  intro x _
  simp [bne]
end Go.Proofs.YtbnnamejnjfkjaaGreat.K
end

section
namespace Go.Proofs.YtbnnamejnjfkjaaGreat.E
open Go.RowKit Go.Proofs.YtbnnamejnjfkjaaGreat.Q Go.Proofs.YtbnnamejnjfkjaaGreat.X Go.Proofs.YtbnnamejnjfkjaaGreatW.PrintWords Go.Proofs.YtbnnamejnjfkjaaGreatW.PrintLast Go.Proofs.YtbnnamejnjfkjaaGreatW.PrintMore
attribute [local go_sem] max2_int min2_int max_two min_two max_three min_three max_four min_four
set_option linter.unusedVariables false
set_option linter.unusedSimpArgs false
def impl_Complex_betti.l0:Nat→Int→List Int→Int→Int→Int→List Int→Option (List Int)
 |0,_,_,_,_,_,_=>none
 |k+1,x1,x5,x12,x13,x102000,x102001=>if x13<x12 then (if 0≤x13 then (if x13<(x5.length:Int) then ((impl_Complex_rank.f x102000 x102001 x13 x1).bind fun t106=>((impl_Complex_rank.f x102000 x102001 (wrap64 (x13+1)) x1).bind fun t107=>(impl_Complex_betti.l0 k x1 (x5.set (x13:Int).toNat (wrap64 ((rd x5 x13) - (wrap64 (t106+t107))))) x12 (wrap64 (x13+1)) x102000 x102001))) else (none)) else (none)) else (some x5)
def impl_Complex_betti.f (k:Nat) (a0_0:Int) (l0_1:List Int) (a1:Int):Option (List Int):=(impl_Complex_count.f a0_0 l0_1 l0_1).bind fun t102=>(impl_Complex_betti.l0 k a1 t102 (t102.length:Int) 0 a0_0 l0_1)
theorem impl_Complex_betti.mono_l:∀ k,(∀ y0 y1 y2 y3 y4 y5,LeO (impl_Complex_betti.l0 k y0 y1 y2 y3 y4 y5) (impl_Complex_betti.l0 (k+1) y0 y1 y2 y3 y4 y5))
 |0=>fun _ _ _ _ _ _ r h=>by simp [impl_Complex_betti.l0] at h
 |k+1=>by
  have ih0:=impl_Complex_betti.mono_l k
  ·intro y0 y1 y2 y3 y4 y5;unfold impl_Complex_betti.l0;repeat' first
   |(with_reducible first|exact ih0 _ _ _ _ _ _|exact LeO.refl _|exact LeO.none _|refine LeO.ite ?_ ?_|refine LeO.bind ?_ (fun _=>?_))
theorem impl_Complex_betti.mono:∀ a0 a1 a2 k,LeO (impl_Complex_betti.f k a0 a1 a2) (impl_Complex_betti.f (k+1) a0 a1 a2):=by
 intro a0 a1 a2 k;have ih0:=impl_Complex_betti.mono_l k;unfold impl_Complex_betti.f;repeat' first
   |(with_reducible first|exact ih0 _ _ _ _ _ _|exact LeO.refl _|exact LeO.none _|refine LeO.ite ?_ ?_|refine LeO.bind ?_ (fun _=>?_))
def impl_Complex_betti.T5:Bool×List (List Nat×List Nat):=(true,[([],[]),([],[]),([0,1],[0,1]),([2],[2]),([],[]),([],[]),([],[]),([4,5,6],[4,5,6]),([],[]),([],[]),([9],[9]),([],[]),([8,10,11,7],[8,10,11]),([7,12],[7,12]),([3,13],[3,13]),([0,1,0,1,2,3,4,5,6,7,8,9,10,11,12,13,14],[0,1]),([15,14,12,0,1,2,3,4,5,6,7,8,9,10,11,12,13,14],[14,15])])
def impl_Complex_betti.B5:List Nat:= [0,0,3,7,0,0,0,112,0,0,512,0,4080,8176,16383,32767,65535]
theorem impl_Complex_betti.tab5:rtab .any (opsOf Tryz.f105 5)=impl_Complex_betti.T5:=by kernel_rfl
theorem impl_Complex_betti.bits5:waitsOk impl_Complex_betti.T5.2 impl_Complex_betti.B5=true:=by kernel_rfl
set_option maxHeartbeats 8000000 in
set_option maxRecDepth 100000 in
theorem impl_Complex_betti.calls (k:Nat) (a0_0:Int) (A0_1:Option Addr) (c0_1:Nat) (l0_1:List Int) (a1:Int) (r:List Int) (w:World) (hr0_1:Kd.C (Kd.int .i64) w A0_1 l0_1.length l0_1) (hc0_1:l0_1.length≤c0_1) (h:impl_Complex_betti.f k a0_0 l0_1 a1=some r) :
  Calls Tryz.prog 105 #[.agg #[.int .i64 a0_0,.slice A0_1 l0_1.length c0_1],.int .i64 a1] w fun e w'=>∃ v0_:Value,e = .returned (v0_)∧Kd.R (Kd.int .i64) 2 w' w.heap.size (fun _=>True) v0_ r∧Below w.heap.size w w':=by
 have hu26:=Tryz.underlying26;have HR0_1:=Aside0.mk hr0_1;have HC0_1:=Aside0.mk hc0_1;clear hr0_1 hc0_1;have HB:=Aside0.mk (Below.refl w.heap.size w);have H:((impl_Complex_count.f a0_0 l0_1 l0_1).bind fun t102=>(impl_Complex_betti.l0 k a1 t102 (t102.length:Int) 0 a0_0 l0_1))=some r:=h;clear h;replace H:=Option.bind_eq_some_iff.mp H;obtain ⟨t102,A30,H⟩:=H;replace H:(impl_Complex_betti.l0 k a1 t102 (t102.length:Int) 0 a0_0 l0_1)=some r:=H;have A3:=Aside0.mk A30;clear A30;have H':=Aside0.mk H;clear H;go_enter Tryz.func105,Tryz.ntmps105;go_wp2_with (first|((with_reducible refine gate_dst (N:=2) rfl ?_);refine bx 2 #[.int .i64 a0_0,.slice A0_1 l0_1.length c0_1] 26 ?_;intro gb101 hg w4 hbox hb;have BK101:=Aside0.mk (hbox);have GE101:=gzA hg HB;replace HB:=bsA HB hb;clear hb hbox hg;have hcz5_0:=z0_ BK101;have hcz5_1:=z1_ BK101;have hfz5_0:=hf_ BK101 0;have hfz5_1:=hf_ BK101 1)|((with_reducible refine gate_callee (f:=101) rfl ?_);refine gl (some 10) Tryz.func101 #[.agg #[.int .i64 a0_0,.slice A0_1 l0_1.length c0_1],.slice A0_1 l0_1.length c0_1] ?_;(with_reducible refine(impl_Complex_count.calls a0_0 _ _ l0_1 _ _ l0_1 t102 _ (cb (Kd.C_below HR0_1.out HB.out)) HC0_1.out (cb (Kd.C_below HR0_1.out HB.out)) HC0_1.out A3.out).mono ?_);rintro e w6 ⟨v103,rfl,ho0,hb⟩;refine⟨_,rfl,?_⟩;have HO104:=klA ho0 HB;replace BK101:=bkA BK101 hb;replace HB:=bsA HB hb;(try clear hb);(try clear hb2);(try clear hk);(try clear hi);(try clear ho0);obtain ⟨Ao7,co7,eo7⟩:=Kd.R_slice HO104.out;subst eo7))
 go_loopg [13] k (fun kq v13 w'=>∃(x5_1:List Int) (x13_1:Int),v13 = .int .i64 x13_1∧Aside0 (impl_Complex_betti.l0 kq a1 x5_1 (t102.length:Int) x13_1 a0_0 l0_1=some r)∧Aside0 (kq≤k)∧Aside0 (Kd.R (Kd.int .i64) 2 w' w.heap.size (fun _=>True) (.slice Ao7 t102.length co7) x5_1)∧Aside0 (w'.heap[gb101]?=some (.cells #[.int .i64 a0_0,(.slice A0_1 l0_1.length c0_1)] 26 (0,0)))∧Aside0 (Below w.heap.size w w'))
 case atStart=>exact⟨(t102),(0),rs,H',⟨Nat.le_refl _⟩,⟨kr HO104.out⟩,⟨bk BK101.out⟩,⟨bl HB.out⟩⟩
 case round=>
  clear H';try clear c1
  try clear p2
  try clear hcz5_0
  try clear hcz5_1
  try clear hfz5_0
  try clear hfz5_1
  obtain ⟨x5_1,x13_1,rfl,HA,HK1,HO_5,BK101,HB⟩:=hrel;have hl5_1:=(Kd.R_reads' HO_5.out).1;rw[hl5_1] at HO_5;(try simp only [hl5_1])
  (try simp only [hl5_1] at BK101)
  cases gk with
  |zero=>exact absurd HA.out (by simp [impl_Complex_betti.l0])
  |succ k1=>
   have H:=HA.out;clear HA;simp only [impl_Complex_betti.l0] at H;by_cases c8:x13_1<(t102.length:Int)
   ·rw[if_pos c8] at H;have c8b0:decide (x13_1<(t102.length:Int))=true:=decide_eq_true c8;clear c8;by_cases c9:0≤x13_1
    ·rw[if_pos c9] at H;have c9b0:decide (0≤x13_1)=true:=decide_eq_true c9;clear c9;by_cases c10:x13_1<(x5_1.length:Int)
     ·rw[if_pos c10] at H;have c10b0:decide (x13_1<(x5_1.length:Int))=true:=decide_eq_true c10;clear c10;replace H:=Option.bind_eq_some_iff.mp H;obtain ⟨t106,A110,H⟩:=H;replace H:((impl_Complex_rank.f a0_0 l0_1 (wrap64 (x13_1+1)) a1).bind fun t107=>(impl_Complex_betti.l0 k1 a1 (x5_1.set (x13_1:Int).toNat (wrap64 ((rd x5_1 x13_1) - (wrap64 (t106+t107))))) (t102.length:Int) (wrap64 (x13_1+1)) a0_0 l0_1))=some r:=H;have A11:=Aside0.mk A110;clear A110;replace H:=Option.bind_eq_some_iff.mp H;obtain ⟨t107,A120,H⟩:=H;replace H:(impl_Complex_betti.l0 k1 a1 (x5_1.set (x13_1:Int).toNat (wrap64 ((rd x5_1 x13_1) - (wrap64 (t106+t107))))) (t102.length:Int) (wrap64 (x13_1+1)) a0_0 l0_1)=some r:=H;have A12:=Aside0.mk A120;clear A120;obtain ⟨y108,hy108⟩:∃ y_:List Int,y_=(x5_1.set (x13_1:Int).toNat (wrap64 ((rd x5_1 x13_1) - (wrap64 (t106+t107))))):=⟨_,rfl⟩
      replace H:(impl_Complex_betti.l0 k1 a1 y108 (t102.length:Int) (wrap64 (x13_1+1)) a0_0 l0_1)=some r:=by first|(rw[hy108];with_reducible exact H)|(have H2_:=(Option.bind_some _ _).symm.trans H;rw[hy108];with_reducible exact H2_)|(have H2_:=(Option.bind_some _ _).symm.trans H;with_reducible exact H2_)|with_reducible exact H|(rw[hy108];exact H)|exact H
      have Ny108:=Aside0.mk hy108;clear hy108;have H':=Aside0.mk H;clear H;try go_wp2
      replace HO_5:=Aside0.mk (Kd.R_drew HO_5.out);replace BK101:=Aside0.mk (blk_drew BK101.out);replace HB:=Aside0.mk (below_drew1 HB.out);have p105:0≤(x13_1:Int):=dd;have q105:x13_1<(x5_1.length:Int):=dd;obtain ⟨ad105,e105,hx105_0⟩:=Kd.at_int (Kd.R_reads' HO_5.out).2.2 x13_1 p105 q105;cases e105;replace p105:=eq_true p105;replace q105:=eq_true q105;refine start_ (n:=17) (S:=fun w'=>w'.cell? ⟨gb101,0,none⟩=some (.int .i64 a0_0)∧w'.cell? ⟨gb101,1,none⟩=some (.slice A0_1 l0_1.length c0_1)∧w'.cell? (ad105.add (x13_1).toNat)=some (.int .i64 (rd x5_1 x13_1))) (ds:= [16]) (ar 0 17) (by kernel_rfl) rfl rfl ⟨(blk_cell BK101.out 0).trans rfl,(blk_cell BK101.out 1).trans rfl,hx105_0⟩ (fun hHeld=>?_);refine with_tabW impl_Complex_betti.tab5 impl_Complex_betti.bits5 (fun HT_ HW_=>?_);generalize wr.drew=w14 at HO_5 BK101 HB hx105_0 hHeld ⊢;refine pu 0 (some 16) (ar 1 16) HT_ ?_;refine pu 1 (some 17) (ar 2 15) HT_ ?_;refine pu 2 (some 18) (ar 3 14) HT_ ?_;refine pu 5 (some 21) #[U,U,U,O,O,U,O,O,O,O,O,O,O,O,O,O,O] HT_ ?_;refine pu 6 (some 22) #[U,U,U,O,O,U,U,O,O,O,O,O,O,O,O,O,O] HT_ ?_;refine pu 9 (some 25) #[U,U,U,O,O,U,U,O,O,U,O,O,O,O,O,O,O] HT_ ?_;refine pu 10 (some 26) #[U,U,U,O,O,U,U,O,O,U,U,O,O,O,O,O,O] HT_ ?_;refine pu 11 (some 27) #[U,U,U,O,O,U,U,O,O,U,U,U,O,O,O,O,O] HT_ ?_;refine tk 3 (some 19) #[U,U,U,U,O,U,U,O,O,U,U,U,O,O,O,O,O] HT_ HW_ hHeld ?_;refine tk 4 (some 20) #[U,U,U,U,U,U,U,O,O,U,U,U,O,O,O,O,O] HT_ HW_ hHeld ?_;refine tk 8 (some 24) #[U,U,U,U,U,U,U,O,U,U,U,U,O,O,O,O,O] HT_ HW_ hHeld ?_;refine on_ 7 (some 23) (ar 12 5) HT_ fun K hK=>?_;refine gr Tryz.func112 #[.agg #[.int .i64 a0_0,.slice A0_1 l0_1.length c0_1],.int .i64 x13_1,.int .i64 a1] ?_;with_reducible refine(impl_Complex_rank.calls a0_0 _ _ l0_1 x13_1 a1 t106 _ (cb (Kd.C_below HR0_1.out HB.out)) HC0_1.out A11.out).mono ?_
      rintro e w15 ⟨rfl,hb⟩;have HS2_:=(hb.cell (World.block_lt_of_cell? _ _ (hHeld.2.2))).trans (hHeld.2.2);refine⟨_,rfl,?_⟩;replace HO_5:=krA HO_5 hb;replace BK101:=bkA BK101 hb;replace HB:=bsA HB hb;(try clear hb)
      (try clear hb2)
      (try clear hk)
      (try clear hi)
      refine hK.out _ _ ⟨(blk_cell BK101.out 0).trans rfl,(blk_cell BK101.out 1).trans rfl,HS2_⟩ (fun hHeld=>?_);clear hK K;refine nr 23 ?_;refine on_ 12 (some 28) (ar 13 4) HT_ fun K hK=>?_;refine gr Tryz.func112 #[.agg #[.int .i64 a0_0,.slice A0_1 l0_1.length c0_1],.int .i64 (wrap64 (x13_1+1)),.int .i64 a1] ?_;with_reducible refine(impl_Complex_rank.calls a0_0 _ _ l0_1 (wrap64 (x13_1+1)) a1 t107 _ (cb (Kd.C_below HR0_1.out HB.out)) HC0_1.out A12.out).mono ?_
      rintro e w16 ⟨rfl,hb⟩;have HS2_:=(hb.cell (World.block_lt_of_cell? _ _ (hHeld.2.2))).trans (hHeld.2.2);refine⟨_,rfl,?_⟩;replace HO_5:=krA HO_5 hb;replace BK101:=bkA BK101 hb;replace HB:=bsA HB hb;(try clear hb)
      (try clear hb2)
      (try clear hk)
      (try clear hi)
      have p13:0≤(x13_1:Int):=dd;have q13:(x13_1:Int)<((x5_1.length:Int):Int):=dd;obtain ⟨go13,co13,eo13,gb13,gl13,cl13,HG13⟩:=Kd.R_form HO_5.out (by omega);(first|cases eo13|(injection eo13 with ea_ en_ ec_;(first|subst ea_|(injection ea_ with ea_;subst ea_));subst ec_;clear en_))
      have GB13:=Aside0.mk gb13;have GG13:=Aside0.mk HG13;clear gb13 gl13 HG13;(first|simp only [add_plain] at hx105_0|skip)
      obtain ⟨hx13_0,hf13_0⟩:=Kd.R_celln 0 HO_5.out (x13_1:Int) p13 q13;replace p13:=eq_true p13;replace q13:=eq_true q13;have HP17:=Kd.R_putn HO_5.out (x13_1:Int) (wrap64 ((rd x5_1 x13_1) - (wrap64 (t106+t107))));rw[← Ny108.out] at HP17;have HQ17:=Aside0.mk HP17;clear HP17;refine hK.out _ _ ⟨(blk_cell BK101.out 0).trans rfl,(blk_cell BK101.out 1).trans rfl,HS2_⟩ (fun hHeld=>?_);clear hK K;refine nr 28 ?_;refine pu 13 (some 29) (ar 14 3) HT_ ?_;refine pu 14 (some 30) (ar 15 2) HT_ ?_;refine pu 15 (some 31) (ar 16 1) HT_ ?_;refine last_ (i:=16) (N:=none) (ar 17 0) rfl rfl (one_of HT_.out (by kernel_rfl)) (by decide) (fun K hK=>?_);refine skip_ (w1:=?_) (by rfl) rfl ?_ ?_;rotate_left
      ·go_simp;rfl
      refine hK.out _ _ ?_;clear hK K;refine done_ (done_of HT_.out (by kernel_rfl)) ?_;try go_wp2
      (try simp only [← hl5_1])
      go_roundg k1
      case measure=>have:=HK1.out;omega
      case rel=>exact⟨(y108),(wrap64 (x13_1+1)),rs,H',⟨by have:=HK1.out;omega⟩,⟨by(try simp only [hl5_1]);(with_reducible repeat(first|apply Kd.R_alloc|apply Kd.R_drewN|apply Kd.R_drew));exact HQ17.out⟩,⟨by(try simp only [hl5_1]);(with_reducible repeat(first|refine blk_drewN ?_ _|refine blk_drew ?_|refine blk_alloc ?_ _));refine blk_far ?_ (by have h_:=Kd.R_ne HO_5.out BK101.out (by decide);intro e_;exact h_ (by rw[e_];rfl)) _;(with_reducible repeat(first|refine blk_drewN ?_ _|refine blk_drew ?_|refine blk_alloc ?_ _));exact BK101.out⟩,⟨bl HB.out⟩⟩
     ·rw[if_neg c10] at H;exact absurd H (by simp)
    ·rw[if_neg c9] at H;exact absurd H (by simp)
   ·rw[if_neg c8] at H;have c8b0:decide (x13_1<(t102.length:Int))=false:=decide_eq_false c8;clear c8;obtain rfl:=Option.some.inj H;rw[hl5_1] at c8b0;go_wp2;go_ret;exact⟨_,rr,by(with_reducible repeat(first|apply Kd.R_alloc|apply Kd.R_drewN|apply Kd.R_drew));exact HO_5.out,bl HB.out⟩
end Go.Proofs.YtbnnamejnjfkjaaGreat.E
end

section
namespace Go.Proofs.YtbnnamejnjfkjaaGreat.K
open Go.RowKit Go.Shelf Go.Proofs.YtbnnamejnjfkjaaGreat.Q Go.Proofs.YtbnnamejnjfkjaaGreat.E Go.Proofs.YtbnnamejnjfkjaaGreat Go.Proofs.YtbnnamejnjfkjaaGreatW.PrintWords Go.Proofs.YtbnnamejnjfkjaaGreatW.PrintLast Go.Proofs.YtbnnamejnjfkjaaGreatW.PrintMore
set_option linter.unusedVariables false
set_option linter.unusedSimpArgs false
def bettiAt (l:List Int) (p:Int) (d:Nat):Int:=((ofL l (d:Int)).length:Int) - (rankL l d p+rankL l ((d:Int)+1) p)
def bettiL (l:List Int) (p:Int):List Int:=(List.range (topI l+1).toNat).map (bettiAt l p)
theorem betti_length (l:List Int) (p:Int):(bettiL l p).length≤6:=by
 have:=top_range l
 simp [bettiL]
 omega
def bettiTo (l:List Int) (p:Int) (i:Nat):List Int:=(List.range (topI l+1).toNat).map fun d=>if d<i then bettiAt l p d else ((ofL l (d:Int)).length:Int)
theorem bettiTo_zero (l:List Int) (p:Int) (hq:∀ x ∈ l,0≤dimI x):bettiTo l p 0=countL (topI l+1).toNat l:=by
 rw[countL_is l hq]
 unfold bettiTo countsL
 apply List.map_congr_left
 intro d _
 rw[if_neg (Nat.not_lt_zero d)]
theorem bettiTo_end (l:List Int) (p:Int):bettiTo l p (topI l+1).toNat=bettiL l p:=by
 unfold bettiTo bettiL
 apply List.map_congr_left
 intro d hd
 rw[if_pos (List.mem_range.1 hd)]
theorem bettiTo_succ (l:List Int) (p:Int) (i:Nat):bettiTo l p (i+1)=(bettiTo l p i).set i (bettiAt l p i):=by
 apply List.ext_getElem
 ·simp [bettiTo]
 ·intro j h1 h2
  rw[List.getElem_set]
  simp only [bettiTo,List.getElem_map,List.getElem_range]
  by_cases e:i=j
  ·subst e
   rw[if_pos (Nat.lt_succ_self _),if_pos rfl]
  ·rw[if_neg e]
   by_cases h3:j<i
   ·rw[if_pos h3,if_pos (by omega)]
   ·rw[if_neg h3,if_neg (by omega)]
theorem X_rank_is {n:Int} {l:List Int} (hi:isC n l=true) (d p:Int) (hd: -5≤d∧d≤15) (hp:2≤p∧p≤3):X.impl_Complex_rank.f n l d p=some (rankL l d p):=by
 unfold X.impl_Complex_rank.f
 rw[if_pos ⟨hi,hd,hp⟩]
theorem betti_rng {n:Int} {l:List Int} (hi:isC n l=true) (d p:Int) (hp:2≤p∧p≤3):0≤rankL l d p∧rankL l d p≤63:=by
 have h1:=rankL_range l d p hp
 have h2:=of_length l d
 have h3:=(isC_faces hi).2.2.2
 omega
theorem betti_loop {n:Int} {l:List Int} (hi:isC n l=true) (p:Int) (hp:2≤p∧p≤3):∀(e i k:Nat),(topI l+1).toNat - i=e→i≤(topI l+1).toNat→e<k →
  impl_Complex_betti.l0 k p (bettiTo l p i) ((topI l+1).toNat:Int) (i:Int) n l=some (bettiL l p):=by
 have ht:=top_range l
 have h63:=(isC_faces hi).2.2.2
 intro e
 induction e with
 |zero=>
  intro i k he hil hk
  obtain ⟨k,rfl⟩:∃ m,k=m+1:=⟨k - 1,by omega⟩
  obtain rfl:i=(topI l+1).toNat:=by omega
  simp only [impl_Complex_betti.l0]
  rw[if_neg (by omega),bettiTo_end]
 |succ e ih=>
  intro i k he hil hk
  obtain ⟨k,rfl⟩:∃ m,k=m+1:=⟨k - 1,by omega⟩
  have hlen:(bettiTo l p i).length=(topI l+1).toNat:=by simp [bettiTo]
  have hlt:i<(bettiTo l p i).length:=by omega
  have hv:(bettiTo l p i)[i]=((ofL l (i:Int)).length:Int):=by
   simp only [bettiTo,List.getElem_map,List.getElem_range]
   rw[if_neg (Nat.lt_irrefl _)]
  have h1:=betti_rng hi (i:Int) p hp
  have h2:=betti_rng hi ((i:Int)+1) p hp
  have h3:=of_length l (i:Int)
  simp only [impl_Complex_betti.l0]
  rw[if_pos (by omega),if_pos (by omega),if_pos (by omega),X_rank_is hi _ p (by omega) hp]
  simp only [Option.bind_some]
  rw[w64 ((i:Int)+1) (by omega) (by omega),X_rank_is hi _ p (by omega) hp]
  simp only [Option.bind_some]
  rw[rd_nat _ i hlt,hv,w64 (rankL l (i:Int) p+rankL l ((i:Int)+1) p) (by omega) (by omega),w64 _ (by omega) (by omega),Int.toNat_natCast]
  have hE:(bettiTo l p i).set i (((ofL l (i:Int)).length:Int) - (rankL l (i:Int) p+rankL l ((i:Int)+1) p))=bettiTo l p (i+1):=(bettiTo_succ l p i).symm
  rw[hE,nat_succ]
  exact ih (i+1) k (by omega) (by omega) (by omega)
theorem betti_is {n:Int} {l:List Int} (hi:isC n l=true) (p:Int) (hp:2≤p∧p≤3) (k:Nat) (hk:10≤k):impl_Complex_betti.f k n l p=some (bettiL l p):=by
 obtain ⟨hn,hs,hr,h63⟩:=isC_faces hi
 have ht:=top_range l
 unfold impl_Complex_betti.f X.impl_Complex_count.f
 rw[if_pos ⟨⟨h63,fun x hx=>⟨(hr x hx).1,(hr x hx).2.2⟩⟩,h63,fun x hx=>hx⟩]
 simp only [Option.bind_some]
 rw[countL_length]
 have:=betti_loop hi p hp (topI l+1).toNat 0 k (by omega) (by omega) (by omega)
 rw[bettiTo_zero l p (fun x hx=>dim_pos x (hr x hx).1 (hr x hx).2.2)] at this
 exact this
theorem betti_calls (n:Int) (A:Option Addr) (c:Nat) (l:List Int) (p:Int) (w:World) (hk:Kx w A c l) (hi:isC n l=true) (hp:2≤p∧p≤3) :
  Calls Tryz.prog 105 #[.agg #[I n,.slice A l.length c],I p] w fun e w'=>∃ v,e = .returned v∧Ki.R 2 w' w.heap.size (fun _=>True) v (bettiL l p)∧Grew w w':=
 impl_Complex_betti.calls 10 n A c l p (bettiL l p) w hk.r hk.c (betti_is hi p hp 10 (Nat.le_refl _))
set_option maxHeartbeats 1000000 in
theorem BettiNumbers1_calls (p:Int) {B:Nat} (w:World) (hb:w.cell? ⟨B,0,none⟩=some (I p)) :
  Calls Tryz.prog 103 #[.pointer (some ⟨B,0,none⟩)] w fun e w'=>e = .returned (.bool (decide (2≤p∧p≤3)))∧Grew w w':=by
 have H:=Aside0.mk (isMod_calls p w)
 generalize decide (2≤p∧p≤3)=r at H ⊢
 go_enter Tryz.func103,Tryz.ntmps103
 go_wp2_with fail
 refine H.out.mono ?_
 rintro e w1 ⟨rfl,hG1⟩
 go_wp2_with fail
 go_ret
 exact⟨rfl,hG1⟩
set_option maxRecDepth 100000 in
set_option maxHeartbeats 4000000 in
theorem BettiNumbers_calls (n:Int) (A:Option Addr) (c:Nat) (l:List Int) (p:Int) (w:World) (hk:Kx w A c l) :
  Calls Tryz.prog 37 #[.agg #[I n,.slice A l.length c],I p] w fun e w'=>∃ v0,e = .returned (.tuple #[v0,I (codeOf n l (decide (2≤p∧p≤3)))])∧Ki.R 2 w' w.heap.size (fun _=>True) v0 (if (codeOf n l (decide (2≤p∧p≤3)))=0 then (bettiL l p) else [])∧Grew w w':=by
 obtain ⟨W3,hW3⟩:∃ W3,W3=((w.alloc (.cells #[I n,.slice A l.length c] 26)).alloc (.cells #[I p] 2)):=⟨_,rfl⟩
 have hB:CB W3 w.heap.size n (.slice A l.length c):=by rw[hW3];exact blk_alloc (blk_new w _) _
 have hFp:W3.heap[w.heap.size+1]?=some (.cells #[I p] 2 (0,0)):=by
  rw[hW3]
  have:=blk_new (w.alloc (.cells #[I n,.slice A l.length c] 26)) (.cells #[I p] 2)
  rwa [World.size_alloc] at this
 have hg:Grew w W3:=by rw[hW3];exact below_alloc (below_alloc (Grew.refl w) _) _
 have H:=Aside0.mk (complexCode_calls (decide (2≤p∧p≤3)) n A c l 103 #[] #[.pointer (some ⟨w.heap.size+1,0,none⟩)] W3 (hk.later hg) (enters_of Tryz.func103 (by kernel_rfl) rfl)
  (fun hi W hW=>by
   have:=BettiNumbers1_calls p W (blk_cell (blk_below hFp hW) 0)
   rw[Array.empty_append]
   exact this))
 have k_0:=hB.c0
 have k_1:=hB.c1
 have p_0:W3.cell? ⟨w.heap.size+1,0,none⟩=some (I p):=blk_cell hFp 0
 have HK:=Aside0.mk hk
 have HB:=Aside0.mk hB
 have HG:=Aside0.mk hg
 have HFp:=Aside0.mk hFp
 clear hk hB hg hFp
 obtain ⟨cc,hcc⟩:∃ cc,cc=codeOf n l (decide (2≤p∧p≤3)):=⟨_,rfl⟩
 rw[← hcc] at H ⊢
 by_cases hz:cc=0
 ·subst hz
  have hb:=codeOf_zero hcc.symm
  have HI:=Aside0.mk hb.1
  have HBt:Aside0 ((decide (2≤p∧p≤3))=true):=⟨hb.2⟩
  have HZ:=Aside0.mk hcc
  have hx0:∀ {α:Type} (a b:α),(if (0:Int)=0 then a else b)=a:=fun a b=>if_pos rfl
  simp only [hx0]
  clear hcc hb hx0
  subst hW3
  go_enter Tryz.func37,Tryz.ntmps37
  go_wp2_with fail
  refine H.out.mono ?_
  rintro e w1 ⟨rfl,hG1⟩
  have HB1:Aside0 (CB w1 w.heap.size n (.slice A l.length c)):=⟨blk_below HB.out hG1⟩
  have HFp1:Aside0 (w1.heap[w.heap.size+1]?=some (.cells #[I p] 2 (0,0))):=⟨blk_below HFp.out hG1⟩
  have HG1:=Aside0.mk (Grew.trans HG.out hG1)
  clear hG1 k_0 k_1 p_0
  have k_0:=HB1.out.c0
  have k_1:=HB1.out.c1
  have p_0:w1.cell? ⟨w.heap.size+1,0,none⟩=some (I p):=blk_cell HFp1.out 0
  have hb:=HBt.out
  rw[decide_eq_true_eq] at hb
  have H2:=Aside0.mk (betti_calls n A c l p w1 (HK.out.later HG1.out) HI.out hb)
  clear hb
  go_wp2_with fail
  refine H2.out.mono ?_
  rintro e w2 ⟨v,rfl,hR2,hG2⟩
  go_wp2_with fail
  go_ret2
  exact⟨_,rfl,Kd.R_lower hR2 HG1.out.size,Grew.trans HG1.out hG2⟩
 ·have HV:Aside0 (∀ {α:Type} (a b:α),(if cc=0 then a else b)=b):=⟨fun a b=>if_neg hz⟩
  simp only [HV.out]
  clear hcc
  subst hW3
  go_enter Tryz.func37,Tryz.ntmps37
  go_wp2_with fail
  refine H.out.mono ?_
  rintro e w1 ⟨rfl,hG1⟩
  have HG1:=Aside0.mk (Grew.trans HG.out hG1)
  clear hG1 k_0 k_1 p_0
  go_wp2_with fail
  go_ret2
  exact⟨_,rfl,Kd.R_nil _ _ _ _ _,HG1.out⟩
end Go.Proofs.YtbnnamejnjfkjaaGreat.K
end

section
namespace Go.Proofs.YtbnnamejnjfkjaaGreat.K
open Go.RowKit Go.Shelf Go.Proofs.YtbnnamejnjfkjaaGreatW.PrintWords Go.Proofs.YtbnnamejnjfkjaaGreatW.PrintLast Go.Proofs.YtbnnamejnjfkjaaGreatW.PrintMore
set_option linter.unusedVariables false
set_option linter.unusedSimpArgs false
theorem rank_zero {n:Int} {l:List Int} (hi:isC n l=true) (p:Int):rankL l 0 p=0:=rankL_out hi 0 p (Or.inl (by omega))
theorem alt_tele {n:Int} {l:List Int} (hi:isC n l=true) (p:Int):∀ d,d≤(topI l+1).toNat→altTo (bettiL l p) d=altTo ((List.range d).map fun i:Nat=>((ofL l (i:Int)).length:Int)) d+sg2 d*rankL l d p:=by
 have key:∀(m d:Nat),d≤m→altTo ((List.range m).map fun i:Nat=>((ofL l (i:Int)).length:Int)) d=altTo ((List.range d).map fun i:Nat=>((ofL l (i:Int)).length:Int)) d:=by
  intro m d
  have:∀(e m1 m2:Nat),e≤m1→e≤m2→altTo ((List.range m1).map fun i:Nat=>((ofL l (i:Int)).length:Int)) e=altTo ((List.range m2).map fun i:Nat=>((ofL l (i:Int)).length:Int)) e:=by
   intro e
   induction e with
   |zero=>intros;rfl
   |succ e ih=>
    intro m1 m2 h1 h2
    simp only [altTo]
    rw[ih m1 m2 (by omega) (by omega)]
    simp [show e<m1 by omega,show e<m2 by omega]
  exact fun h=>this d m d h (Nat.le_refl _)
 intro d
 induction d with
 |zero=>
  intro _
  have:=rank_zero hi p
  simp [altTo,this]
 |succ d ih=>
  intro hd
  simp only [altTo]
  rw[ih (by omega),key (d+1) d (by omega)]
  have hb:(bettiL l p).getD d 0=((ofL l (d:Int)).length:Int) - (rankL l d p+rankL l ((d:Int)+1) p):=by
   unfold bettiL bettiAt
   rw[List.getD_eq_getElem?_getD]
   simp [show d<(topI l+1).toNat by omega]
  have hc:((List.range (d+1)).map fun i:Nat=>((ofL l (i:Int)).length:Int)).getD d 0=((ofL l (d:Int)).length:Int):=by
   rw[List.getD_eq_getElem?_getD]
   simp
  rw[hb,hc,sg2_succ,show (((d+1:Nat):Int))=(d:Int)+1 by omega]
  simp only [Int.mul_sub,Int.mul_add,Int.neg_mul]
  omega
theorem alt_faces:∀(l:List Int),(∀ x ∈ l,0≤dimI x)→∀ d:Nat,altTo ((List.range d).map fun i:Nat=>((ofL l (i:Int)).length:Int)) d=(l.map fun x=>if dimI x<d then 1 - 2*Int.tmod (dimI x) 2 else 0).sum:=by
 have key:∀(l:List Int) (e m1 m2:Nat),e≤m1→e≤m2→altTo ((List.range m1).map fun i:Nat=>((ofL l (i:Int)).length:Int)) e=altTo ((List.range m2).map fun i:Nat=>((ofL l (i:Int)).length:Int)) e:=by
  intro l e
  induction e with
  |zero=>intros;rfl
  |succ e ih=>
   intro m1 m2 h1 h2
   simp only [altTo]
   rw[ih m1 m2 (by omega) (by omega)]
   simp [show e<m1 by omega,show e<m2 by omega]
 intro l hl d
 induction d with
 |zero=>
  simp only [altTo]
  have:∀ l:List Int,(∀ x ∈ l,0≤dimI x)→(l.map fun x=>if dimI x<((0:Nat):Int) then 1 - 2*Int.tmod (dimI x) 2 else 0).sum=0:=by
   intro l
   induction l with
   |nil=>intro _;rfl
   |cons x l ih=>
    intro h
    rw[List.map_cons,List.sum_cons,ih (fun y hy=>h y (List.mem_cons_of_mem _ hy)),if_neg (by have:=h x List.mem_cons_self;omega)]
    rfl
  exact(this l hl).symm
 |succ d ih=>
  simp only [altTo]
  rw[key l d (d+1) d (by omega) (by omega),ih]
  have hc:((List.range (d+1)).map fun i:Nat=>((ofL l (i:Int)).length:Int)).getD d 0=((ofL l (d:Int)).length:Int):=by
   rw[List.getD_eq_getElem?_getD]
   simp
  rw[hc]
  have hs:∀ y:Int,y=d→1 - 2*Int.tmod y 2=sg2 d:=fun y hy=>by
   subst hy
   unfold sg2
   rw[Int.tmod_eq_emod_of_nonneg (by omega)]
   rcases Nat.mod_two_eq_zero_or_one d with h|h
   ·rw[if_pos h];omega
   ·rw[if_neg (by omega)];omega
  have:∀ l:List Int,(l.map fun x=>if dimI x<(d:Int) then 1 - 2*Int.tmod (dimI x) 2 else 0).sum+sg2 d*((ofL l (d:Int)).length:Int)=(l.map fun x=>if dimI x<((d+1:Nat):Int) then 1 - 2*Int.tmod (dimI x) 2 else 0).sum:=by
   intro l
   induction l with
   |nil=>simp [ofL]
   |cons x l ih=>
    rw[List.map_cons,List.sum_cons,List.map_cons,List.sum_cons,← ih]
    by_cases h:dimI x=d
    ·have e:(ofL (x :: l) (d:Int)).length=(ofL l (d:Int)).length+1:=by
      unfold ofL
      simp [h]
     rw[e,if_neg (by omega),if_pos (by omega),hs _ h]
     push_cast
     rw[Int.mul_add]
     omega
    ·have e:(ofL (x :: l) (d:Int)).length=(ofL l (d:Int)).length:=by
      unfold ofL
      simp [h]
     rw[e]
     by_cases h2:dimI x<d
     ·rw[if_pos h2,if_pos (by omega)]
      omega
     ·rw[if_neg h2,if_neg (by omega)]
      omega
  exact this l
theorem betti_euler {n:Int} {l:List Int} (hi:isC n l=true) (p:Int):altTo (bettiL l p) (bettiL l p).length=eulerI l:=by
 have hI:=isC_faces hi
 have hl:(bettiL l p).length=(topI l+1).toNat:=by simp [bettiL]
 have hr:=top_range l
 have hd:∀ x ∈ l,0≤dimI x:=fun x hx=>dim_pos x (hI.2.2.1 x hx).1 (hI.2.2.1 x hx).2.2
 rw[hl,alt_tele hi p _ (Nat.le_refl _),rankL_out hi (((topI l+1).toNat:Nat):Int) p (Or.inr (by omega)),Int.mul_zero,Int.add_zero,alt_faces l hd]
 unfold eulerI
 congr 1
 refine List.map_congr_left (fun x hx=>?_)
 have:=top_mem l x hx
 rw[if_pos (by omega)]
theorem betti_pos {n:Int} {l:List Int} (hi:isC n l=true) (p:Int) (hp:2≤p∧p≤3) (d:Nat) (h:d<(bettiL l p).length):(bettiL l p)[d]=((ofL l (d:Int)).length:Int) - (rankL l d p+rankL l ((d:Int)+1) p)∧0≤(bettiL l p)[d]∧(bettiL l p)[d]≤63:=by
 have e:(bettiL l p)[d]=((ofL l (d:Int)).length:Int) - (rankL l d p+rankL l ((d:Int)+1) p):=by
  simp [bettiL,bettiAt]
 have h2:=two_ranks hi (d:Int) p hp
 have h3:=rankL_range l (d:Int) p hp
 have h4:=rankL_range l ((d:Int)+1) p hp
 have h5:=of_length l (d:Int)
 have h6:=(isC_faces hi).2.2.2
 rw[e]
 omega
end Go.Proofs.YtbnnamejnjfkjaaGreat.K
end

section
namespace Go.Proofs.YtbnnamejnjfkjaaGreat.K
open Go.RowKit Go.Shelf Go.Proofs.YtbnnamejnjfkjaaGreat.Q Go.Proofs.YtbnnamejnjfkjaaGreatW.PrintWords Go.Proofs.YtbnnamejnjfkjaaGreatW.PrintLast Go.Proofs.YtbnnamejnjfkjaaGreatW.PrintMore
set_option linter.unusedVariables false
set_option linter.unusedSimpArgs false
theorem sTop_calls (n:Int) (A:Option Addr) (c:Nat) (l:List Int) (w:World) (hk:Kx w A c l) (hl:l.length≤63) (hr:∀ x ∈ l,0≤x∧x≤63) :
  Calls Tryz.prog 137 #[.agg #[I n,.slice A l.length c]] w fun e w'=>e = .returned (I (topI l))∧Grew w w':=
 spec_l01Dim.calls 80 n A c l (topI l) w hk.r hk.c (specTop_is n l hl hr 80 (Nat.le_refl _))
set_option maxRecDepth 100000 in
set_option maxHeartbeats 4000000 in
theorem sRankOf_calls (n:Int) (A:Option Addr) (c:Nat) (l:List Int) (d p:Int) (w:World) (hk:Kx w A c l) (hi:isC n l=true) (hd:0≤d∧d≤7) (hp:2≤p∧p≤3) :
  Calls Tryz.prog 114 #[.agg #[I n,.slice A l.length c],I d,I p] w fun e w'=>e = .returned (I (rankL l d p))∧Grew w w':=by
 have hg:Grew w (w.alloc (.cells #[I n,.slice A l.length c] 26)):=below_alloc (Grew.refl w) _
 have hB:CB (w.alloc (.cells #[I n,.slice A l.length c] 26)) w.heap.size n (.slice A l.length c):=blk_new w _
 have hf:=isC_faces hi
 have hl:=hf.2.2.2
 have HT:=Aside0.mk (sTop_calls n A c l _ (hk.later hg) hl (isC_of hi))
 have ht:=top_range l
 have HO:=Aside0.mk (fun h=>rankL_out hi d p h)
 have HR:=Aside0.mk (fun(w1:World) (h:Kx w1 A c l)=>spec_l03Rows.calls 5200 n A c l d p (rowsL l d p) w1 h.r h.c (specRows_is hi d p hd hp 5200 (Nat.le_refl _)))
 have HGD:=Aside0.mk (rowsL_good l d p hp.1)
 have hC63:=of_length l (d - 1)
 have hF63:=of_length l d
 have hrl:(rowsL l d p).length=(ofL l d).length:=by simp [rowsL]
 have HRK:=Aside0.mk (show rankL l d p=rankM p (ofL l (d - 1)).length (rowsL l d p) from rfl)
 have HK:=Aside0.mk hk
 have HB:=Aside0.mk hB
 have HG:=Aside0.mk hg
 have k0:=hB.c0
 have k1:=hB.c1
 clear hk hi hf hB hg
 by_cases h1:d<1
 ·have HV:=Aside0.mk (HO.out (.inl h1))
  rw[HV.out]
  go_enter Tryz.func114,Tryz.ntmps114
  go_wp2_with fail
  go_ret
  exact⟨rfl,HG.out⟩
 ·by_cases h2:topI l<d
  ·have HV:=Aside0.mk (HO.out (.inr h2))
   rw[HV.out]
   generalize topI l=t at HT ht h2
   go_enter Tryz.func114,Tryz.ntmps114
   go_wp2_with fail
   refine HT.out.mono ?_
   rintro e w1 ⟨rfl,hG1⟩
   go_wp2_with fail
   go_ret
   exact⟨rfl,Grew.trans HG.out hG1⟩
  ·generalize topI l=t at HT ht h2
   rw[HRK.out]
   generalize rowsL l d p=M at HR HGD hrl ⊢
   generalize (ofL l (d - 1)).length=m at HGD hC63 ⊢
   clear HRK HO
   go_enter Tryz.func114,Tryz.ntmps114
   go_wp2_with fail
   refine HT.out.mono ?_
   rintro e w1 ⟨rfl,hG1⟩
   have HB1:=Aside0.mk (CB.later HB.out hG1)
   have HG1:=Aside0.mk (Grew.trans HG.out hG1)
   clear hG1 k0 k1 HT
   have k0:=HB1.out.c0
   have k1:=HB1.out.c1
   have hm63:M.length≤63:=by omega
   clear hrl
   go_wp2_with fail
   refine(HR.out w1 (HK.out.later HG1.out)).mono ?_
   rintro e w2 ⟨v,rfl,hS,hG2⟩
   obtain ⟨vs,f,hM⟩:=Mat.of_S hS
   have HM:=Aside0.mk hM
   have HG2:=Aside0.mk (Grew.trans HG1.out hG2)
   have H3:=Aside0.mk (sRank_calls p hp m (by omega) M HGD.out hm63 w1.heap.size v vs f w2 hG2.size hM)
   have hs:=HG1.out.size
   clear hS hM hG2 k0 k1
   obtain ⟨A8,c8,e8,_⟩:=HM.out.slice
   subst e8
   go_wp2_with fail
   refine H3.out.mono ?_
   rintro e w3 ⟨rfl,hG3⟩
   go_wp2_with fail
   go_ret
   exact⟨rfl,Below.trans HG2.out (hG3.mono hs)⟩
end Go.Proofs.YtbnnamejnjfkjaaGreat.K
end

section
namespace Go.Proofs.YtbnnamejnjfkjaaGreat.X
open Go.RowKit Go.Shelf Go.Proofs.YtbnnamejnjfkjaaGreat.K Go.Proofs.YtbnnamejnjfkjaaGreatW.PrintWords Go.Proofs.YtbnnamejnjfkjaaGreatW.PrintLast Go.Proofs.YtbnnamejnjfkjaaGreatW.PrintMore
set_option linter.unusedVariables false
set_option linter.unusedSimpArgs false
def spec_l03RankOf.f (a0_0:Int) (l0_1:List Int) (a1 a2:Int):Option Int:=if isC a0_0 l0_1=true∧(0≤a1∧a1≤7)∧2≤a2∧a2≤3 then some (rankL l0_1 a1 a2) else none
theorem spec_l03RankOf.calls (a0_0:Int) (A0_1:Option Addr) (c0_1:Nat) (l0_1:List Int) (a1 a2:Int) (r:Int) (w:World) (hr0_1:Kd.C (Kd.int .i64) w A0_1 l0_1.length l0_1) (hc0_1:l0_1.length≤c0_1) (h:spec_l03RankOf.f a0_0 l0_1 a1 a2=some r) :
  Calls Tryz.prog 114 #[.agg #[.int .i64 a0_0,.slice A0_1 l0_1.length c0_1],.int .i64 a1,.int .i64 a2] w fun e w'=>e = .returned (.int .i64 r)∧Below w.heap.size w w':=by
 unfold spec_l03RankOf.f at h
 by_cases hl:isC a0_0 l0_1=true∧(0≤a1∧a1≤7)∧2≤a2∧a2≤3
 ·rw[if_pos hl] at h
  injection h with h
  subst h
  have h63:=(isC_faces hl.1).2.2.2
  exact sRankOf_calls a0_0 A0_1 c0_1 l0_1 a1 a2 w ⟨hr0_1,hc0_1,by omega⟩ hl.1 hl.2.1 hl.2.2
 ·rw[if_neg hl] at h
  cases h
end Go.Proofs.YtbnnamejnjfkjaaGreat.X
end

section
namespace Go.Proofs.YtbnnamejnjfkjaaGreat.D
open Go.RowKit Go.Proofs.YtbnnamejnjfkjaaGreat.Q Go.Proofs.YtbnnamejnjfkjaaGreat.X Go.Proofs.YtbnnamejnjfkjaaGreatW.PrintWords Go.Proofs.YtbnnamejnjfkjaaGreatW.PrintLast Go.Proofs.YtbnnamejnjfkjaaGreatW.PrintMore
attribute [local go_sem] max2_int min2_int max_two min_two max_three min_three max_four min_four
set_option linter.unusedVariables false
set_option linter.unusedSimpArgs false
def spec_RankOf.j0:Nat→Int→Int→Int→Bool→Int→List Int→Option (Int×Int)
 |0,_,_,_,_,_,_=>none
 |k+1,x1,x2,x8,x18,x102000,x102001=>if x18=true then (if 2=0 then ((spec_l03RankOf.f x102000 x102001 x1 x2).bind fun t104=>(some (t104,0))) else (some (0,2))) else (if x8=0 then ((spec_l03RankOf.f x102000 x102001 x1 x2).bind fun t105=>(some (t105,0))) else (some (0,x8)))
def spec_RankOf.f (k:Nat) (a0_0:Int) (l0_1:List Int) (a1:Int) (a2:Int):Option (Int×Int):=(spec_l03Code.f k a0_0 l0_1 a2).bind fun t102=>(if t102=0 then ((spec_l01In.f a1 0 6).bind fun t103=>(spec_RankOf.j0 k a1 a2 t102 (!t103) a0_0 l0_1)) else (spec_RankOf.j0 k a1 a2 t102 false a0_0 l0_1))
theorem spec_RankOf.mono_l:∀ k,(∀ y0 y1 y2 y3 y4 y5,LeO (spec_RankOf.j0 k y0 y1 y2 y3 y4 y5) (spec_RankOf.j0 (k+1) y0 y1 y2 y3 y4 y5))
 |0=>fun _ _ _ _ _ _ r h=>by simp [spec_RankOf.j0] at h
 |k+1=>by
  have ih0:=spec_RankOf.mono_l k
  ·intro y0 y1 y2 y3 y4 y5;unfold spec_RankOf.j0;repeat' first
   |(with_reducible first|exact ih0 _ _ _ _ _ _|exact spec_l03Code.mono _ _ _ _|exact LeO.refl _|exact LeO.none _|refine LeO.ite ?_ ?_|refine LeO.bind ?_ (fun _=>?_))
theorem spec_RankOf.mono:∀ a0 a1 a2 a3 k,LeO (spec_RankOf.f k a0 a1 a2 a3) (spec_RankOf.f (k+1) a0 a1 a2 a3):=by
 intro a0 a1 a2 a3 k;have ih0:=spec_RankOf.mono_l k;unfold spec_RankOf.f;repeat' first
   |(with_reducible first|exact ih0 _ _ _ _ _ _|exact spec_l03Code.mono _ _ _ _|exact LeO.refl _|exact LeO.none _|refine LeO.ite ?_ ?_|refine LeO.bind ?_ (fun _=>?_))
set_option maxHeartbeats 8000000 in
set_option maxRecDepth 100000 in
theorem spec_RankOf.calls (k:Nat) (a0_0:Int) (A0_1:Option Addr) (c0_1:Nat) (l0_1:List Int) (a1:Int) (a2:Int) (r1:Int) (r2:Int) (w:World) (hr0_1:Kd.C (Kd.int .i64) w A0_1 l0_1.length l0_1) (hc0_1:l0_1.length≤c0_1) (h:spec_RankOf.f k a0_0 l0_1 a1 a2=some (r1,r2)) :
  Calls Tryz.prog 42 #[.agg #[.int .i64 a0_0,.slice A0_1 l0_1.length c0_1],.int .i64 a1,.int .i64 a2] w fun e w'=>e = .returned (.tuple #[.int .i64 r1,.int .i64 r2])∧Below w.heap.size w w':=by
 have hu26:=Tryz.underlying26;have HR0_1:=Aside0.mk hr0_1;have HC0_1:=Aside0.mk hc0_1;clear hr0_1 hc0_1;have HB:=Aside0.mk (Below.refl w.heap.size w);have H:((spec_l03Code.f k a0_0 l0_1 a2).bind fun t102=>(if t102=0 then ((spec_l01In.f a1 0 6).bind fun t103=>(spec_RankOf.j0 k a1 a2 t102 (!t103) a0_0 l0_1)) else (spec_RankOf.j0 k a1 a2 t102 false a0_0 l0_1)))=some (r1,r2):=h;clear h;replace H:=Option.bind_eq_some_iff.mp H;obtain ⟨t102,A40,H⟩:=H;replace H:(if t102=0 then ((spec_l01In.f a1 0 6).bind fun t103=>(spec_RankOf.j0 k a1 a2 t102 (!t103) a0_0 l0_1)) else (spec_RankOf.j0 k a1 a2 t102 false a0_0 l0_1))=some (r1,r2):=H;have A4:=Aside0.mk A40;clear A40;have HC5:=Aside0.mk H;clear H;go_enter Tryz.func42,Tryz.ntmps42;go_upto_region 2 with (first|((with_reducible refine gate_dst (N:=3) rfl ?_);refine bx 3 #[.int .i64 a0_0,.slice A0_1 l0_1.length c0_1] 26 ?_;intro gb101 hg w6 hbox hb;have BK101:=Aside0.mk (hbox);have GE101:=gzA hg HB;replace HB:=bsA HB hb;clear hb hbox hg;have hcz7_0:=z0_ BK101;have hcz7_1:=z1_ BK101;have hfz7_0:=hf_ BK101 0;have hfz7_1:=hf_ BK101 1)|((with_reducible refine gate_callee (f:=106) rfl ?_);refine gl (some 11) Tryz.func106 #[.agg #[.int .i64 a0_0,.slice A0_1 l0_1.length c0_1],.int .i64 a2] ?_;(with_reducible refine(spec_l03Code.calls k a0_0 _ _ l0_1 a2 t102 _ (cb (Kd.C_below HR0_1.out HB.out)) HC0_1.out A4.out).mono ?_);rintro e w8 ⟨rfl,hb⟩;refine⟨_,rfl,?_⟩;replace BK101:=bkA BK101 hb;replace HB:=bsA HB hb;(try clear hb);(try clear hb2);(try clear hk);(try clear hi)))
 (try simp only [Act.put,List.setIfInBounds_toArray,List.set_cons_zero,List.set_cons_succ])
 go_cut [18] (fun v18 wc=>∃(kq:Nat) (x18_4:Bool),v18 = .bool x18_4∧Aside0 (spec_RankOf.j0 kq a1 a2 t102 x18_4 a0_0 l0_1=some (r1,r2))∧Aside0 (kq≤k)∧Aside0 (wc.heap[gb101]?=some (.cells #[.int .i64 a0_0,(.slice A0_1 l0_1.length c0_1)] 26 (0,0)))∧Aside0 (Below w.heap.size w wc))
 case first=>
  have H:=HC5.out;clear HC5;by_cases c9:t102=0
  ·rw[if_pos c9] at H;have c9b0:(t102 == 0)=true:=beq_iff_eq.mpr c9;have c9b1:(t102 != 0)=false:=bne_eq_false_iff_eq.mpr c9;clear c9;(first|rw[c9b0]|(simp only [i64_w,i32_w];rw[c9b0])|skip)
   replace H:=Option.bind_eq_some_iff.mp H;obtain ⟨t103,A100,H⟩:=H;replace H:(spec_RankOf.j0 k a1 a2 t102 (!t103) a0_0 l0_1)=some (r1,r2):=H;have A10:=Aside0.mk A100;clear A100;have H':=Aside0.mk H;clear H;go_wp2_with (first|(go_at_call 95;(with_reducible refine(spec_l01In.calls a1 0 6 t103 _ A10.out).mono ?_);rintro e w' ⟨rfl,⟨nd,rfl⟩⟩))
   go_meet
   case rel=>exact⟨_,(!t103),rs,H',⟨by first|omega|exact Nat.le_refl _⟩,⟨bk BK101.out⟩,⟨bl HB.out⟩⟩
  ·rw[if_neg c9] at H;have c9b0:(t102 == 0)=false:=beq_eq_false_iff_ne.mpr c9;have c9b1:(t102 != 0)=true:=bne_iff_ne.mpr c9;(first|rw[c9b0]|(simp only [i64_w,i32_w];rw[c9b0])|skip)
   have H':=Aside0.mk H;clear H;go_wp2
   go_meet
   case rel=>exact⟨_,(false),rs,H',⟨by first|omega|exact Nat.le_refl _⟩,⟨bk BK101.out⟩,⟨bl HB.out⟩⟩
 case rest=>
  clear HC5;try clear c1
  try clear p2
  try clear c4
  try clear c9
  try clear c9b0
  try clear c9b1
  try clear c10
  try clear hcz7_0
  try clear hcz7_1
  try clear hfz7_0
  try clear hfz7_1
  obtain ⟨kq,x18_4,rfl,HA,HJ4,BK101,HB⟩:=hcut;cases kq with
  |zero=>exact absurd HA.out (by simp [spec_RankOf.j0])
  |succ kj4=>
   have H:=HA.out;clear HA;simp only [spec_RankOf.j0] at H;by_cases c11:x18_4=true
   ·subst c11;have H1:(if 2=0 then ((spec_l03RankOf.f a0_0 l0_1 a1 a2).bind fun t104=>(some (t104,0))) else (some (0,2)))=some (r1,r2):=by rw[if_pos rfl] at H;exact H
    clear H;have H:=H1;clear H1;by_cases c12:2=0
    ·exact absurd c12 (by decide)
    ·rw[if_neg c12] at H;have c12b0:(2 == 0)=false:=beq_eq_false_iff_ne.mpr c12;have c12b1:(2 != 0)=true:=bne_iff_ne.mpr c12;simp only [Option.some.injEq,Prod.mk.injEq] at H;obtain ⟨rfl,rfl⟩:=H;go_wp2
     go_ret2;exact⟨rr,bl HB.out⟩
   ·replace c11:=Bool.eq_false_iff.mpr c11;subst c11;have H1:(if t102=0 then ((spec_l03RankOf.f a0_0 l0_1 a1 a2).bind fun t105=>(some (t105,0))) else (some (0,t102)))=some (r1,r2):=by rw[if_neg (show ¬ (false=true) by decide)] at H;exact H
    clear H;have H:=H1;clear H1;by_cases c16:t102=0
    ·rw[if_pos c16] at H;have c16b0:(t102 == 0)=true:=beq_iff_eq.mpr c16;have c16b1:(t102 != 0)=false:=bne_eq_false_iff_eq.mpr c16;clear c16;replace H:=Option.bind_eq_some_iff.mp H;obtain ⟨t105,A170,H⟩:=H;replace H:(some (t105,0))=some (r1,r2):=H;have A17:=Aside0.mk A170;clear A170;simp only [Option.some.injEq,Prod.mk.injEq] at H;obtain ⟨rfl,rfl⟩:=H;have hcz18_0:=z0_ BK101;have hcz18_1:=z1_ BK101;have hfz18_0:=hf_ BK101 0;have hfz18_1:=hf_ BK101 1;go_wp2_with (first|((with_reducible refine gate_callee (f:=114) rfl ?_);refine gl (some 25) Tryz.func114 #[.agg #[.int .i64 a0_0,.slice A0_1 l0_1.length c0_1],.int .i64 a1,.int .i64 a2] ?_;(with_reducible refine(spec_l03RankOf.calls a0_0 _ _ l0_1 a1 a2 t105 _ (cb (Kd.C_below HR0_1.out HB.out)) HC0_1.out A17.out).mono ?_);rintro e w19 ⟨rfl,hb⟩;refine⟨_,rfl,?_⟩;replace BK101:=bkA BK101 hb;replace HB:=bsA HB hb;(try clear hb);(try clear hb2);(try clear hk);(try clear hi)))
     go_ret2;exact⟨rr,bl HB.out⟩
    ·rw[if_neg c16] at H;have c16b0:(t102 == 0)=false:=beq_eq_false_iff_ne.mpr c16;have c16b1:(t102 != 0)=true:=bne_iff_ne.mpr c16;simp only [Option.some.injEq,Prod.mk.injEq] at H;obtain ⟨rfl,rfl⟩:=H;go_wp2
     go_ret2;exact⟨rr,bl HB.out⟩
end Go.Proofs.YtbnnamejnjfkjaaGreat.D
end

section
namespace Go.Proofs.YtbnnamejnjfkjaaGreat.D
open Go.RowKit Go.Proofs.YtbnnamejnjfkjaaGreat.Q Go.Proofs.YtbnnamejnjfkjaaGreat.X Go.Proofs.YtbnnamejnjfkjaaGreatW.PrintWords Go.Proofs.YtbnnamejnjfkjaaGreatW.PrintLast Go.Proofs.YtbnnamejnjfkjaaGreatW.PrintMore
attribute [local go_sem] max2_int min2_int max_two min_two max_three min_three max_four min_four
set_option linter.unusedVariables false
set_option linter.unusedSimpArgs false
def spec_CountCycles.f (k:Nat) (a0_0:Int) (l0_1:List Int) (a1:Int):Option (Int×Int×Int):=(spec_l01Is.f k a0_0 l0_1).bind fun t107=>(if t107=true then ((spec_l01In.f a1 0 5).bind fun t108=>(if t108=true then ((spec_l01Of.f k a0_0 l0_1 a1).bind fun t109=>((spec_l03RankOf.f a0_0 l0_1 a1 2).bind fun t112=>(if 0≤(IntKind.u64.wrap (wrap64 ((t109.length:Int) - t112))) then ((spec_l03RankOf.f a0_0 l0_1 (wrap64 (a1+1)) 2).bind fun t113=>(if 0≤(IntKind.u64.wrap (t113)) then (some (shl .i64 1 (IntKind.u64.wrap (wrap64 ((t109.length:Int) - t112))),shl .i64 1 (IntKind.u64.wrap (t113)),0)) else (none))) else (none)))) else (some (0,0,2)))) else (some (0,0,1)))
theorem spec_CountCycles.mono:∀ a0 a1 a2 k,LeO (spec_CountCycles.f k a0 a1 a2) (spec_CountCycles.f (k+1) a0 a1 a2):=by
 intro a0 a1 a2 k;unfold spec_CountCycles.f;repeat' first
   |(with_reducible first|exact spec_l01Is.mono _ _ _|exact spec_l01Of.mono _ _ _ _|exact LeO.refl _|exact LeO.none _|refine LeO.ite ?_ ?_|refine LeO.bind ?_ (fun _=>?_))
def spec_CountCycles.T5:Bool×List (List Nat×List Nat):=(true,[([],[]),([],[]),([0,1],[0,1]),([2],[2]),([],[]),([],[]),([4,5,2],[4,5]),([3,6],[3,6]),([7,6,0,1,2,3,4,5,6,7],[7])])
def spec_CountCycles.B5:List Nat:= [0,0,3,7,0,0,55,127,255]
theorem spec_CountCycles.tab5:rtab .any (opsOf Tryz.f47 5)=spec_CountCycles.T5:=by kernel_rfl
theorem spec_CountCycles.bits5:waitsOk spec_CountCycles.T5.2 spec_CountCycles.B5=true:=by kernel_rfl
set_option maxHeartbeats 8000000 in
set_option maxRecDepth 100000 in
theorem spec_CountCycles.calls (k:Nat) (a0_0:Int) (A0_1:Option Addr) (c0_1:Nat) (l0_1:List Int) (a1:Int) (r1:Int) (r2:Int) (r3:Int) (w:World) (hr0_1:Kd.C (Kd.int .i64) w A0_1 l0_1.length l0_1) (hc0_1:l0_1.length≤c0_1) (h:spec_CountCycles.f k a0_0 l0_1 a1=some (r1,r2,r3)) :
  Calls Tryz.prog 47 #[.agg #[.int .i64 a0_0,.slice A0_1 l0_1.length c0_1],.int .i64 a1] w fun e w'=>e = .returned (.tuple #[.int .i64 r1,.int .i64 r2,.int .i64 r3])∧Below w.heap.size w w':=by
 have hu26:=Tryz.underlying26;have HR0_1:=Aside0.mk hr0_1;have HC0_1:=Aside0.mk hc0_1;clear hr0_1 hc0_1;have HB:=Aside0.mk (Below.refl w.heap.size w);have H:((spec_l01Is.f k a0_0 l0_1).bind fun t107=>(if t107=true then ((spec_l01In.f a1 0 5).bind fun t108=>(if t108=true then ((spec_l01Of.f k a0_0 l0_1 a1).bind fun t109=>((spec_l03RankOf.f a0_0 l0_1 a1 2).bind fun t112=>(if 0≤(IntKind.u64.wrap (wrap64 ((t109.length:Int) - t112))) then ((spec_l03RankOf.f a0_0 l0_1 (wrap64 (a1+1)) 2).bind fun t113=>(if 0≤(IntKind.u64.wrap (t113)) then (some (shl .i64 1 (IntKind.u64.wrap (wrap64 ((t109.length:Int) - t112))),shl .i64 1 (IntKind.u64.wrap (t113)),0)) else (none))) else (none)))) else (some (0,0,2)))) else (some (0,0,1))))=some (r1,r2,r3):=h;clear h;replace H:=Option.bind_eq_some_iff.mp H;obtain ⟨t107,A30,H⟩:=H;replace H:(if t107=true then ((spec_l01In.f a1 0 5).bind fun t108=>(if t108=true then ((spec_l01Of.f k a0_0 l0_1 a1).bind fun t109=>((spec_l03RankOf.f a0_0 l0_1 a1 2).bind fun t112=>(if 0≤(IntKind.u64.wrap (wrap64 ((t109.length:Int) - t112))) then ((spec_l03RankOf.f a0_0 l0_1 (wrap64 (a1+1)) 2).bind fun t113=>(if 0≤(IntKind.u64.wrap (t113)) then (some (shl .i64 1 (IntKind.u64.wrap (wrap64 ((t109.length:Int) - t112))),shl .i64 1 (IntKind.u64.wrap (t113)),0)) else (none))) else (none)))) else (some (0,0,2)))) else (some (0,0,1)))=some (r1,r2,r3):=H;have A3:=Aside0.mk A30;clear A30;by_cases c4:t107=true
 ·subst c4;have H1:((spec_l01In.f a1 0 5).bind fun t108=>(if t108=true then ((spec_l01Of.f k a0_0 l0_1 a1).bind fun t109=>((spec_l03RankOf.f a0_0 l0_1 a1 2).bind fun t112=>(if 0≤(IntKind.u64.wrap (wrap64 ((t109.length:Int) - t112))) then ((spec_l03RankOf.f a0_0 l0_1 (wrap64 (a1+1)) 2).bind fun t113=>(if 0≤(IntKind.u64.wrap (t113)) then (some (shl .i64 1 (IntKind.u64.wrap (wrap64 ((t109.length:Int) - t112))),shl .i64 1 (IntKind.u64.wrap (t113)),0)) else (none))) else (none)))) else (some (0,0,2))))=some (r1,r2,r3):=by rw[if_pos rfl] at H;exact H
  clear H;have H:=H1;clear H1;replace H:=Option.bind_eq_some_iff.mp H;obtain ⟨t108,A50,H⟩:=H;replace H:(if t108=true then ((spec_l01Of.f k a0_0 l0_1 a1).bind fun t109=>((spec_l03RankOf.f a0_0 l0_1 a1 2).bind fun t112=>(if 0≤(IntKind.u64.wrap (wrap64 ((t109.length:Int) - t112))) then ((spec_l03RankOf.f a0_0 l0_1 (wrap64 (a1+1)) 2).bind fun t113=>(if 0≤(IntKind.u64.wrap (t113)) then (some (shl .i64 1 (IntKind.u64.wrap (wrap64 ((t109.length:Int) - t112))),shl .i64 1 (IntKind.u64.wrap (t113)),0)) else (none))) else (none)))) else (some (0,0,2)))=some (r1,r2,r3):=H;have A5:=Aside0.mk A50;clear A50;by_cases c6:t108=true
  ·subst c6;have H1:((spec_l01Of.f k a0_0 l0_1 a1).bind fun t109=>((spec_l03RankOf.f a0_0 l0_1 a1 2).bind fun t112=>(if 0≤(IntKind.u64.wrap (wrap64 ((t109.length:Int) - t112))) then ((spec_l03RankOf.f a0_0 l0_1 (wrap64 (a1+1)) 2).bind fun t113=>(if 0≤(IntKind.u64.wrap (t113)) then (some (shl .i64 1 (IntKind.u64.wrap (wrap64 ((t109.length:Int) - t112))),shl .i64 1 (IntKind.u64.wrap (t113)),0)) else (none))) else (none))))=some (r1,r2,r3):=by rw[if_pos rfl] at H;exact H
   clear H;have H:=H1;clear H1;replace H:=Option.bind_eq_some_iff.mp H;obtain ⟨t109,A70,H⟩:=H;replace H:((spec_l03RankOf.f a0_0 l0_1 a1 2).bind fun t112=>(if 0≤(IntKind.u64.wrap (wrap64 ((t109.length:Int) - t112))) then ((spec_l03RankOf.f a0_0 l0_1 (wrap64 (a1+1)) 2).bind fun t113=>(if 0≤(IntKind.u64.wrap (t113)) then (some (shl .i64 1 (IntKind.u64.wrap (wrap64 ((t109.length:Int) - t112))),shl .i64 1 (IntKind.u64.wrap (t113)),0)) else (none))) else (none)))=some (r1,r2,r3):=H;have A7:=Aside0.mk A70;clear A70;replace H:=Option.bind_eq_some_iff.mp H;obtain ⟨t112,A80,H⟩:=H;replace H:(if 0≤(IntKind.u64.wrap (wrap64 ((t109.length:Int) - t112))) then ((spec_l03RankOf.f a0_0 l0_1 (wrap64 (a1+1)) 2).bind fun t113=>(if 0≤(IntKind.u64.wrap (t113)) then (some (shl .i64 1 (IntKind.u64.wrap (wrap64 ((t109.length:Int) - t112))),shl .i64 1 (IntKind.u64.wrap (t113)),0)) else (none))) else (none))=some (r1,r2,r3):=H;have A8:=Aside0.mk A80;clear A80;obtain ⟨ji9,hji9⟩:∃ j_:Int,(IntKind.u64.wrap (wrap64 ((t109.length:Int) - t112)))=j_:=⟨_,rfl⟩
   replace H:(if 0≤(ji9) then ((spec_l03RankOf.f a0_0 l0_1 (wrap64 (a1+1)) 2).bind fun t113=>(if 0≤(IntKind.u64.wrap (t113)) then (some (shl .i64 1 (ji9),shl .i64 1 (IntKind.u64.wrap (t113)),0)) else (none))) else (none))=some (r1,r2,r3):=by first|(rw[hji9] at H;exact H)|(simp only [hji9] at H ⊢;exact H)
   (try rw[hji9] at A3)
   (try rw[hji9] at A5)
   (try rw[hji9] at A7)
   (try rw[hji9] at A8)
   by_cases c10:0≤(ji9)
   ·rw[if_pos c10] at H;have c10b0:=eq_true c10;have c10b1:decide (0≤(ji9))=true:=decide_eq_true c10;clear c10;obtain ⟨ji11,hji11⟩:∃ j_:Int,(shl .i64 1 (ji9))=j_:=⟨_,rfl⟩
    replace H:((spec_l03RankOf.f a0_0 l0_1 (wrap64 (a1+1)) 2).bind fun t113=>(if 0≤(IntKind.u64.wrap (t113)) then (some (ji11,shl .i64 1 (IntKind.u64.wrap (t113)),0)) else (none)))=some (r1,r2,r3):=by first|(rw[hji11] at H;exact H)|(simp only [hji11] at H ⊢;exact H)
    (try rw[hji11] at A3)
    (try rw[hji11] at A5)
    (try rw[hji11] at A7)
    (try rw[hji11] at A8)
    have hji11_:(IntKind.i64.wrap (1*2 ^ min (ji9).toNat 64))=ji11:=hji11;have hji11z:(ji9)≤64→(IntKind.i64.wrap (1*2 ^ (ji9).toNat))=ji11:=shl_small hji11;have hji11u:(IntKind.i64.wrap (2 ^ min (ji9).toNat 64))=ji11:=by have h_:=hji11_;rw[Int.one_mul] at h_;exact h_
    have hji11v:(ji9)≤64→(IntKind.i64.wrap (2 ^ (ji9).toNat))=ji11:=fun hle_=>by have h_:=hji11z hle_;rw[Int.one_mul] at h_;exact h_
    have hji11y:(wrap64 (1*2 ^ min (ji9).toNat 64))=ji11:=(i64_w _).symm.trans hji11_;have hji11x:(ji9)≤64→(wrap64 (1*2 ^ (ji9).toNat))=ji11:=fun h_=>(i64_w _).symm.trans (hji11z h_)
    replace H:=Option.bind_eq_some_iff.mp H;obtain ⟨t113,A120,H⟩:=H;replace H:(if 0≤(IntKind.u64.wrap (t113)) then (some (ji11,shl .i64 1 (IntKind.u64.wrap (t113)),0)) else (none))=some (r1,r2,r3):=H;have A12:=Aside0.mk A120;clear A120;obtain ⟨ji13,hji13⟩:∃ j_:Int,(IntKind.u64.wrap (t113))=j_:=⟨_,rfl⟩
    replace H:(if 0≤(ji13) then (some (ji11,shl .i64 1 (ji13),0)) else (none))=some (r1,r2,r3):=by first|(rw[hji13] at H;exact H)|(simp only [hji13] at H ⊢;exact H)
    (try rw[hji13] at A3)
    (try rw[hji13] at A5)
    (try rw[hji13] at A7)
    (try rw[hji13] at A8)
    (try rw[hji13] at A12)
    by_cases c14:0≤(ji13)
    ·rw[if_pos c14] at H;have c14b0:=eq_true c14;have c14b1:decide (0≤(ji13))=true:=decide_eq_true c14;clear c14;obtain ⟨ji15,hji15⟩:∃ j_:Int,(shl .i64 1 (ji13))=j_:=⟨_,rfl⟩
     replace H:(some (ji11,ji15,0))=some (r1,r2,r3):=by first|(rw[hji15] at H;exact H)|(simp only [hji15] at H ⊢;exact H)
     (try rw[hji15] at A3)
     (try rw[hji15] at A5)
     (try rw[hji15] at A7)
     (try rw[hji15] at A8)
     (try rw[hji15] at A12)
     have hji15_:(IntKind.i64.wrap (1*2 ^ min (ji13).toNat 64))=ji15:=hji15;have hji15z:(ji13)≤64→(IntKind.i64.wrap (1*2 ^ (ji13).toNat))=ji15:=shl_small hji15;have hji15u:(IntKind.i64.wrap (2 ^ min (ji13).toNat 64))=ji15:=by have h_:=hji15_;rw[Int.one_mul] at h_;exact h_
     have hji15v:(ji13)≤64→(IntKind.i64.wrap (2 ^ (ji13).toNat))=ji15:=fun hle_=>by have h_:=hji15z hle_;rw[Int.one_mul] at h_;exact h_
     have hji15y:(wrap64 (1*2 ^ min (ji13).toNat 64))=ji15:=(i64_w _).symm.trans hji15_;have hji15x:(ji13)≤64→(wrap64 (1*2 ^ (ji13).toNat))=ji15:=fun h_=>(i64_w _).symm.trans (hji15z h_)
     simp only [Option.some.injEq,Prod.mk.injEq] at H;obtain ⟨rfl,rfl,rfl⟩:=H;go_enter Tryz.func47,Tryz.ntmps47;try go_wp2_with (first|((with_reducible refine gate_dst (N:=2) rfl ?_);refine bx 2 #[.int .i64 a0_0,.slice A0_1 l0_1.length c0_1] 26 ?_;intro gb106 hg w16 hbox hb;have BK106:=Aside0.mk (hbox);have GE106:=gzA hg HB;replace HB:=bsA HB hb;clear hb hbox hg;have hcz17_0:=z0_ BK106;have hcz17_1:=z1_ BK106;have hfz17_0:=hf_ BK106 0;have hfz17_1:=hf_ BK106 1)|((with_reducible refine gate_callee (f:=71) rfl ?_);refine gl (some 10) Tryz.func71 #[.agg #[.int .i64 a0_0,.slice A0_1 l0_1.length c0_1]] ?_;(with_reducible refine(spec_l01Is.calls k a0_0 _ _ l0_1 true _ (cb (Kd.C_below HR0_1.out HB.out)) HC0_1.out A3.out).mono ?_);rintro e w18 ⟨rfl,hb⟩;refine⟨_,rfl,?_⟩;replace BK106:=bkA BK106 hb;replace HB:=bsA HB hb;(try clear hb);(try clear hb2);(try clear hk);(try clear hi))|((with_reducible refine gate_callee (f:=95) rfl ?_);refine gl (some 14) Tryz.func95 #[.int .i64 a1,.int .i64 0,.int .i64 5] ?_;(with_reducible refine(spec_l01In.calls a1 0 5 true _ A5.out).mono ?_);rintro e w' ⟨rfl,⟨nd,rfl⟩⟩;refine⟨_,rfl,?_⟩))
     (try(rw[drewN_self w18];generalize hq_:World.drewN w18 _=w18;have n0_:Aside0 (w18.heap[gb106]?=some (.cells #[.int .i64 a0_0,.slice A0_1 l0_1.length c0_1] 26 (0,0))):=⟨by rw[← hq_];exact(bk BK106.out)⟩;have n1_:Aside0 (Below w.heap.size w w18):=⟨by rw[← hq_];exact(bl HB.out)⟩;clear BK106 HB hq_;have BK106:=n0_;have HB:=n1_;clear n0_ n1_))
     replace BK106:=Aside0.mk (blk_drew BK106.out);replace HB:=Aside0.mk (below_drew1 HB.out);refine start_ (n:=9) (S:=fun w'=>w'.cell? ⟨gb106,0,none⟩=some (.int .i64 a0_0)∧w'.cell? ⟨gb106,1,none⟩=some (.slice A0_1 l0_1.length c0_1)) (ds:= []) (ar 0 9) (by kernel_rfl) rfl rfl ⟨(blk_cell BK106.out 0).trans rfl,(blk_cell BK106.out 1).trans rfl⟩ (fun hHeld=>?_);refine with_tabW spec_CountCycles.tab5 spec_CountCycles.bits5 (fun HT_ HW_=>?_);generalize w18.drew=w19 at BK106 HB hHeld ⊢;refine pu 1 (some 17) #[O,U,O,O,O,O,O,O,O] HT_ ?_;refine pu 5 (some 21) #[O,U,O,O,O,U,O,O,O] HT_ ?_;refine tk 0 (some 16) #[U,U,O,O,O,U,O,O,O] HT_ HW_ hHeld ?_;refine tk 4 (some 20) #[U,U,O,O,U,U,O,O,O] HT_ HW_ hHeld ?_;refine on_ 2 (some 18) #[U,U,U,O,U,U,O,O,O] HT_ fun K hK=>?_;refine gr Tryz.func117 #[.agg #[.int .i64 a0_0,.slice A0_1 l0_1.length c0_1],.int .i64 a1] ?_;with_reducible refine(spec_l01Of.calls k a0_0 _ _ l0_1 a1 t109 _ (cb (Kd.C_below HR0_1.out HB.out)) HC0_1.out A7.out).mono ?_
     rintro e w20 ⟨v110,rfl,ho0,hb⟩;refine⟨_,rfl,?_⟩;have HO111:=klA ho0 HB;replace BK106:=bkA BK106 hb;replace HB:=bsA HB hb;(try clear hb)
     (try clear hb2)
     (try clear hk)
     (try clear hi)
     (try clear ho0)
     obtain ⟨Ao21,co21,eo21⟩:=Kd.R_slice HO111.out;(first|subst eo21|(injection eo21 with f1_ f2_ f3_;have f4_:=f1_.symm;have f5_:=f3_.symm;clear f1_ f2_ f3_;subst f4_;subst f5_))
     refine hK.out _ _ ⟨(blk_cell BK106.out 0).trans rfl,(blk_cell BK106.out 1).trans rfl⟩ (fun hHeld=>?_);clear hK K;refine nr 18 ?_;refine pu 3 (some 19) (ar 6 3) HT_ ?_;refine on_ 6 (some 22) (ar 7 2) HT_ fun K hK=>?_;refine gr Tryz.func114 #[.agg #[.int .i64 a0_0,.slice A0_1 l0_1.length c0_1],.int .i64 a1,.int .i64 2] ?_;with_reducible refine(spec_l03RankOf.calls a0_0 _ _ l0_1 a1 2 t112 _ (cb (Kd.C_below HR0_1.out HB.out)) HC0_1.out A8.out).mono ?_
     rintro e w22 ⟨rfl,hb⟩;refine⟨_,rfl,?_⟩;replace HO111:=krA HO111 hb;replace BK106:=bkA BK106 hb;replace HB:=bsA HB hb;(try clear hb)
     (try clear hb2)
     (try clear hk)
     (try clear hi)
     refine hK.out _ _ ⟨(blk_cell BK106.out 0).trans rfl,(blk_cell BK106.out 1).trans rfl⟩ (fun hHeld=>?_);clear hK K;refine nr 22 ?_;refine pu 7 (some 23) (ar 8 1) HT_ ?_;refine pu 8 (some 7) (ar 9 0) HT_ ?_;refine done_ (done_of HT_.out (by kernel_rfl)) ?_;have hcz23_0:=z0_ BK106;have hcz23_1:=z1_ BK106;have hfz23_0:=hf_ BK106 0;have hfz23_1:=hf_ BK106 1;try go_wp2_with (first|((with_reducible refine gate_callee (f:=114) rfl ?_);refine gl (some 30) Tryz.func114 #[.agg #[.int .i64 a0_0,.slice A0_1 l0_1.length c0_1],.int .i64 (wrap64 (a1+1)),.int .i64 2] ?_;(with_reducible refine(spec_l03RankOf.calls a0_0 _ _ l0_1 (wrap64 (a1+1)) 2 t113 _ (cb (Kd.C_below HR0_1.out HB.out)) HC0_1.out A12.out).mono ?_);rintro e w24 ⟨rfl,hb⟩;refine⟨_,rfl,?_⟩;replace HO111:=krA HO111 hb;replace BK106:=bkA BK106 hb;replace HB:=bsA HB hb;(try clear hb);(try clear hb2);(try clear hk);(try clear hi)))
     go_ret3;exact⟨by first|rfl|(simp [errW_none,errW_some] <;> rfl)|(simp only [← hji9,← hji11,← hji13,← hji15];first|rfl|(simp [errW_none,errW_some] <;> rfl))|(simp [*,errW_none,errW_some] <;> rfl),bl HB.out⟩
    ·rw[if_neg c14] at H;exact absurd H (by simp)
   ·rw[if_neg c10] at H;exact absurd H (by simp)
  ·replace c6:=Bool.eq_false_iff.mpr c6;subst c6;have H1:(some (0,0,2))=some (r1,r2,r3):=by rw[if_neg (show ¬ (false=true) by decide)] at H;exact H
   clear H;have H:=H1;clear H1;simp only [Option.some.injEq,Prod.mk.injEq] at H;obtain ⟨rfl,rfl,rfl⟩:=H;go_enter Tryz.func47,Tryz.ntmps47;go_wp2_with (first|((with_reducible refine gate_dst (N:=2) rfl ?_);refine bx 2 #[.int .i64 a0_0,.slice A0_1 l0_1.length c0_1] 26 ?_;intro gb106 hg w25 hbox hb;have BK106:=Aside0.mk (hbox);have GE106:=gzA hg HB;replace HB:=bsA HB hb;clear hb hbox hg;have hcz26_0:=z0_ BK106;have hcz26_1:=z1_ BK106;have hfz26_0:=hf_ BK106 0;have hfz26_1:=hf_ BK106 1)|((with_reducible refine gate_callee (f:=71) rfl ?_);refine gl (some 10) Tryz.func71 #[.agg #[.int .i64 a0_0,.slice A0_1 l0_1.length c0_1]] ?_;(with_reducible refine(spec_l01Is.calls k a0_0 _ _ l0_1 true _ (cb (Kd.C_below HR0_1.out HB.out)) HC0_1.out A3.out).mono ?_);rintro e w27 ⟨rfl,hb⟩;refine⟨_,rfl,?_⟩;replace BK106:=bkA BK106 hb;replace HB:=bsA HB hb;(try clear hb);(try clear hb2);(try clear hk);(try clear hi))|((with_reducible refine gate_callee (f:=95) rfl ?_);refine gl (some 14) Tryz.func95 #[.int .i64 a1,.int .i64 0,.int .i64 5] ?_;(with_reducible refine(spec_l01In.calls a1 0 5 false _ A5.out).mono ?_);rintro e w' ⟨rfl,⟨nd,rfl⟩⟩;refine⟨_,rfl,?_⟩))
   go_ret3;exact⟨rr,bl HB.out⟩
 ·replace c4:=Bool.eq_false_iff.mpr c4;subst c4;have H1:(some (0,0,1))=some (r1,r2,r3):=by rw[if_neg (show ¬ (false=true) by decide)] at H;exact H
  clear H;have H:=H1;clear H1;simp only [Option.some.injEq,Prod.mk.injEq] at H;obtain ⟨rfl,rfl,rfl⟩:=H;go_enter Tryz.func47,Tryz.ntmps47;go_wp2_with (first|((with_reducible refine gate_dst (N:=2) rfl ?_);refine bx 2 #[.int .i64 a0_0,.slice A0_1 l0_1.length c0_1] 26 ?_;intro gb106 hg w28 hbox hb;have BK106:=Aside0.mk (hbox);have GE106:=gzA hg HB;replace HB:=bsA HB hb;clear hb hbox hg;have hcz29_0:=z0_ BK106;have hcz29_1:=z1_ BK106;have hfz29_0:=hf_ BK106 0;have hfz29_1:=hf_ BK106 1)|((with_reducible refine gate_callee (f:=71) rfl ?_);refine gl (some 10) Tryz.func71 #[.agg #[.int .i64 a0_0,.slice A0_1 l0_1.length c0_1]] ?_;(with_reducible refine(spec_l01Is.calls k a0_0 _ _ l0_1 false _ (cb (Kd.C_below HR0_1.out HB.out)) HC0_1.out A3.out).mono ?_);rintro e w30 ⟨rfl,hb⟩;refine⟨_,rfl,?_⟩;replace BK106:=bkA BK106 hb;replace HB:=bsA HB hb;(try clear hb);(try clear hb2);(try clear hk);(try clear hi)))
  go_ret3;exact⟨rr,bl HB.out⟩
end Go.Proofs.YtbnnamejnjfkjaaGreat.D
end

section
namespace Go.Proofs.YtbnnamejnjfkjaaGreat.D
open Go.RowKit Go.Proofs.YtbnnamejnjfkjaaGreat.Q Go.Proofs.YtbnnamejnjfkjaaGreat.X Go.Proofs.YtbnnamejnjfkjaaGreatW.PrintWords Go.Proofs.YtbnnamejnjfkjaaGreatW.PrintLast Go.Proofs.YtbnnamejnjfkjaaGreatW.PrintMore
attribute [local go_sem] max2_int min2_int max_two min_two max_three min_three max_four min_four
set_option linter.unusedVariables false
set_option linter.unusedSimpArgs false
def spec_l03Betti.l0:Nat→Int→List Int→Int→Int→List Int→Option (List Int)
 |0,_,_,_,_,_=>none
 |k+1,x1,x5,x6,x115000,x115001=>(spec_l01Dim.f k x115000 x115001).bind fun t118=>(if x6≤t118 then ((spec_l01Of.f k x115000 x115001 x6).bind fun t119=>((spec_l03RankOf.f x115000 x115001 x6 x1).bind fun t122=>((spec_l03RankOf.f x115000 x115001 (wrap64 (x6+1)) x1).bind fun t123=>(if x5.length<17592186044416 then (spec_l03Betti.l0 k x1 (x5 ++ [wrap64 ((wrap64 ((t119.length:Int) - t122)) - t123)]) (wrap64 (x6+1)) x115000 x115001) else (none))))) else (some x5))
def spec_l03Betti.f (k:Nat) (a0_0:Int) (l0_1:List Int) (a1:Int):Option (List Int):=spec_l03Betti.l0 k a1 (([]:List Int)) 0 a0_0 l0_1
theorem spec_l03Betti.mono_l:∀ k,(∀ y0 y1 y2 y3 y4,LeO (spec_l03Betti.l0 k y0 y1 y2 y3 y4) (spec_l03Betti.l0 (k+1) y0 y1 y2 y3 y4))
 |0=>fun _ _ _ _ _ r h=>by simp [spec_l03Betti.l0] at h
 |k+1=>by
  have ih0:=spec_l03Betti.mono_l k
  ·intro y0 y1 y2 y3 y4;unfold spec_l03Betti.l0;repeat' first
   |(with_reducible first|exact ih0 _ _ _ _ _|exact spec_l01Dim.mono _ _ _|exact spec_l01Of.mono _ _ _ _|exact LeO.refl _|exact LeO.none _|refine LeO.ite ?_ ?_|refine LeO.bind ?_ (fun _=>?_))
theorem spec_l03Betti.mono:∀ a0 a1 a2 k,LeO (spec_l03Betti.f k a0 a1 a2) (spec_l03Betti.f (k+1) a0 a1 a2):=by
 intro a0 a1 a2 k;have ih0:=spec_l03Betti.mono_l k;unfold spec_l03Betti.f;repeat' first
   |(with_reducible first|exact ih0 _ _ _ _ _|exact spec_l01Dim.mono _ _ _|exact spec_l01Of.mono _ _ _ _|exact LeO.refl _|exact LeO.none _|refine LeO.ite ?_ ?_|refine LeO.bind ?_ (fun _=>?_))
def spec_l03Betti.T5:Bool×List (List Nat×List Nat):=(true,[([],[]),([],[]),([],[]),([1,2],[1,2]),([3],[3]),([],[]),([],[]),([],[]),([5,6,7,3],[5,6,7]),([4,8],[4,8]),([],[]),([],[]),([11],[11]),([],[]),([10,12,13,8],[10,12,13]),([9,14],[9,14]),([15],[15]),([0,16,14],[0,16]),([17,17,0,1,2,3,4,5,6,7,8,9,10,11,12,13,14,15,16,17],[0,17])])
def spec_l03Betti.B5:List Nat:= [0,0,0,6,14,0,0,0,238,510,0,0,2048,0,15854,32766,65534,131071,262143]
theorem spec_l03Betti.tab5:rtab .any (opsOf Tryz.f107 5)=spec_l03Betti.T5:=by kernel_rfl
theorem spec_l03Betti.bits5:waitsOk spec_l03Betti.T5.2 spec_l03Betti.B5=true:=by kernel_rfl
set_option maxHeartbeats 8000000 in
set_option maxRecDepth 100000 in
theorem spec_l03Betti.calls (k:Nat) (a0_0:Int) (A0_1:Option Addr) (c0_1:Nat) (l0_1:List Int) (a1:Int) (r:List Int) (w:World) (hr0_1:Kd.C (Kd.int .i64) w A0_1 l0_1.length l0_1) (hc0_1:l0_1.length≤c0_1) (h:spec_l03Betti.f k a0_0 l0_1 a1=some r) :
  Calls Tryz.prog 107 #[.agg #[.int .i64 a0_0,.slice A0_1 l0_1.length c0_1],.int .i64 a1] w fun e w'=>∃ v0_:Value,e = .returned (v0_)∧Kd.R (Kd.int .i64) 2 w' w.heap.size (fun _=>True) v0_ r∧Below w.heap.size w w':=by
 have hu26:=Tryz.underlying26;have HR0_1:=Aside0.mk hr0_1;have HC0_1:=Aside0.mk hc0_1;clear hr0_1 hc0_1;have HB:=Aside0.mk (Below.refl w.heap.size w);have H:(spec_l03Betti.l0 k a1 (([]:List Int)) 0 a0_0 l0_1)=some r:=h;clear h;obtain ⟨y115,hy115⟩:∃ y_:List Int,y_=(([]:List Int)):=⟨_,rfl⟩
 replace H:(spec_l03Betti.l0 k a1 y115 0 a0_0 l0_1)=some r:=by first|(rw[hy115];with_reducible exact H)|(have H2_:=(Option.bind_some _ _).symm.trans H;rw[hy115];with_reducible exact H2_)|(have H2_:=(Option.bind_some _ _).symm.trans H;with_reducible exact H2_)|with_reducible exact H|(rw[hy115];exact H)|exact H
 have Ny115:=Aside0.mk hy115;clear hy115;have H':=Aside0.mk H;clear H;go_enter Tryz.func107,Tryz.ntmps107;go_wp2_with (first|((with_reducible refine gate_dst (N:=2) rfl ?_);refine bx 2 #[.int .i64 a0_0,.slice A0_1 l0_1.length c0_1] 26 ?_;intro gb114 hg w3 hbox hb;have BK114:=Aside0.mk (hbox);have GE114:=gzA hg HB;replace HB:=bsA HB hb;clear hb hbox hg)|((with_reducible refine gate_dst (N:=7) rfl ?_);refine Kd.R_lit (Kd.int .i64) _ 2 ?hg (N:=7) ?hd (xs:=([]:List Int)) (inner:= []) (ok:=fun _=>True) (okp:=fun _=>True) ?hr ?hp (fun _ hk=>hk) trivial (Below.refl _ _) (Nat.le_refl _) (by simp) ?_;(case hd=>rfl);(case hg=>rfl);(case hr=>first|(go_simp;done)|(go_simp;rfl));(case hp=>exact(Reps.none _ _));intro v116 w4 ho5 hb hg_ hnew_;clear hg_ hnew_;(first|rw[← Ny115.out] at ho5|(simp only [Int.reduceToNat] at ho5;rw[← Ny115.out] at ho5));have HO117:=klA ho5 HB;replace BK114:=bkA BK114 hb;replace HB:=bsA HB hb;clear hb ho5))
 go_loopg [5,6] k (fun kq v5 v6 w'=>∃(x5_1:List Int) (x6_1:Int),v6 = .int .i64 x6_1∧Aside0 (spec_l03Betti.l0 kq a1 x5_1 x6_1 a0_0 l0_1=some r)∧Aside0 (kq≤k)∧Aside0 (Kd.R (Kd.int .i64) 2 w' w.heap.size (fun _=>True) v5 x5_1)∧Aside0 (w'.heap[gb114]?=some (.cells #[.int .i64 a0_0,(.slice A0_1 l0_1.length c0_1)] 26 (0,0)))∧Aside0 (Below w.heap.size w w'))
 case atStart=>exact⟨(y115),(0),rs,H',⟨Nat.le_refl _⟩,⟨kr HO117.out⟩,⟨bk BK114.out⟩,⟨bl HB.out⟩⟩
 case round=>
  clear H';try clear c1
  try clear p2
  obtain ⟨x5_1,x6_1,rfl,HA,HK1,HO_5,BK114,HB⟩:=hrel;cases gk with
  |zero=>exact absurd HA.out (by simp [spec_l03Betti.l0])
  |succ k1=>
   have H:=HA.out;clear HA;simp only [spec_l03Betti.l0] at H;replace H:=Option.bind_eq_some_iff.mp H;obtain ⟨t118,A60,H⟩:=H;replace H:(if x6_1≤t118 then ((spec_l01Of.f k1 a0_0 l0_1 x6_1).bind fun t119=>((spec_l03RankOf.f a0_0 l0_1 x6_1 a1).bind fun t122=>((spec_l03RankOf.f a0_0 l0_1 (wrap64 (x6_1+1)) a1).bind fun t123=>(if x5_1.length<17592186044416 then (spec_l03Betti.l0 k1 a1 (x5_1 ++ [wrap64 ((wrap64 ((t119.length:Int) - t122)) - t123)]) (wrap64 (x6_1+1)) a0_0 l0_1) else (none))))) else (some x5_1))=some r:=H;have A6:=Aside0.mk A60;clear A60;by_cases c7:x6_1≤t118
   ·rw[if_pos c7] at H;have c7b0:decide (x6_1≤t118)=true:=decide_eq_true c7;clear c7;replace H:=Option.bind_eq_some_iff.mp H;obtain ⟨t119,A80,H⟩:=H;replace H:((spec_l03RankOf.f a0_0 l0_1 x6_1 a1).bind fun t122=>((spec_l03RankOf.f a0_0 l0_1 (wrap64 (x6_1+1)) a1).bind fun t123=>(if x5_1.length<17592186044416 then (spec_l03Betti.l0 k1 a1 (x5_1 ++ [wrap64 ((wrap64 ((t119.length:Int) - t122)) - t123)]) (wrap64 (x6_1+1)) a0_0 l0_1) else (none))))=some r:=H;have A8:=Aside0.mk A80;clear A80;replace H:=Option.bind_eq_some_iff.mp H;obtain ⟨t122,A90,H⟩:=H;replace H:((spec_l03RankOf.f a0_0 l0_1 (wrap64 (x6_1+1)) a1).bind fun t123=>(if x5_1.length<17592186044416 then (spec_l03Betti.l0 k1 a1 (x5_1 ++ [wrap64 ((wrap64 ((t119.length:Int) - t122)) - t123)]) (wrap64 (x6_1+1)) a0_0 l0_1) else (none)))=some r:=H;have A9:=Aside0.mk A90;clear A90;replace H:=Option.bind_eq_some_iff.mp H;obtain ⟨t123,A100,H⟩:=H;replace H:(if x5_1.length<17592186044416 then (spec_l03Betti.l0 k1 a1 (x5_1 ++ [wrap64 ((wrap64 ((t119.length:Int) - t122)) - t123)]) (wrap64 (x6_1+1)) a0_0 l0_1) else (none))=some r:=H;have A10:=Aside0.mk A100;clear A100;by_cases c11:x5_1.length<17592186044416
    ·rw[if_pos c11] at H;have LMc11:=Aside0.mk c11;clear c11;obtain ⟨y124,hy124⟩:∃ y_:List Int,y_=(x5_1 ++ [wrap64 ((wrap64 ((t119.length:Int) - t122)) - t123)]):=⟨_,rfl⟩
     replace H:(spec_l03Betti.l0 k1 a1 y124 (wrap64 (x6_1+1)) a0_0 l0_1)=some r:=by first|(rw[hy124];with_reducible exact H)|(have H2_:=(Option.bind_some _ _).symm.trans H;rw[hy124];with_reducible exact H2_)|(have H2_:=(Option.bind_some _ _).symm.trans H;with_reducible exact H2_)|with_reducible exact H|(rw[hy124];exact H)|exact H
     have Ny124:=Aside0.mk hy124;clear hy124;have H':=Aside0.mk H;clear H;have hcz12_0:=z0_ BK114;have hcz12_1:=z1_ BK114;have hfz12_0:=hf_ BK114 0;have hfz12_1:=hf_ BK114 1;try go_wp2_with (first|((with_reducible refine gate_callee (f:=137) rfl ?_);refine gl (some 10) Tryz.func137 #[.agg #[.int .i64 a0_0,.slice A0_1 l0_1.length c0_1]] ?_;(with_reducible refine(spec_l01Dim.calls k1 a0_0 _ _ l0_1 t118 _ (cb (Kd.C_below HR0_1.out HB.out)) HC0_1.out A6.out).mono ?_);rintro e w13 ⟨rfl,hb⟩;refine⟨_,rfl,?_⟩;replace HO_5:=krA HO_5 hb;replace BK114:=bkA BK114 hb;replace HB:=bsA HB hb;(try clear hb);(try clear hb2);(try clear hk);(try clear hi)))
     replace HO_5:=Aside0.mk (Kd.R_drew HO_5.out);replace BK114:=Aside0.mk (blk_drew BK114.out);replace HB:=Aside0.mk (below_drew1 HB.out);refine start_ (n:=19) (S:=fun w'=>w'.cell? ⟨gb114,0,none⟩=some (.int .i64 a0_0)∧w'.cell? ⟨gb114,1,none⟩=some (.slice A0_1 l0_1.length c0_1)) (ds:= []) (ar 0 19) (by kernel_rfl) rfl rfl ⟨(blk_cell BK114.out 0).trans rfl,(blk_cell BK114.out 1).trans rfl⟩ (fun hHeld=>?_);refine with_tabW spec_l03Betti.tab5 spec_l03Betti.bits5 (fun HT_ HW_=>?_);generalize w13.drew=w14 at HO_5 BK114 HB hHeld ⊢;refine pu 0 (some 14) (ar 1 18) HT_ ?_;refine pu 2 (some 16) #[U,O,U,O,O,O,O,O,O,O,O,O,O,O,O,O,O,O,O] HT_ ?_;refine pu 6 (some 20) #[U,O,U,O,O,O,U,O,O,O,O,O,O,O,O,O,O,O,O] HT_ ?_;refine pu 7 (some 21) #[U,O,U,O,O,O,U,U,O,O,O,O,O,O,O,O,O,O,O] HT_ ?_;refine pu 11 (some 25) #[U,O,U,O,O,O,U,U,O,O,O,U,O,O,O,O,O,O,O] HT_ ?_;refine pu 12 (some 26) #[U,O,U,O,O,O,U,U,O,O,O,U,U,O,O,O,O,O,O] HT_ ?_;refine pu 13 (some 27) #[U,O,U,O,O,O,U,U,O,O,O,U,U,U,O,O,O,O,O] HT_ ?_;refine tk 1 (some 15) #[U,U,U,O,O,O,U,U,O,O,O,U,U,U,O,O,O,O,O] HT_ HW_ hHeld ?_;refine tk 5 (some 19) #[U,U,U,O,O,U,U,U,O,O,O,U,U,U,O,O,O,O,O] HT_ HW_ hHeld ?_;refine tk 10 (some 24) #[U,U,U,O,O,U,U,U,O,O,U,U,U,U,O,O,O,O,O] HT_ HW_ hHeld ?_;refine on_ 3 (some 17) #[U,U,U,U,O,U,U,U,O,O,U,U,U,U,O,O,O,O,O] HT_ fun K hK=>?_;refine gr Tryz.func117 #[.agg #[.int .i64 a0_0,.slice A0_1 l0_1.length c0_1],.int .i64 x6_1] ?_;with_reducible refine(spec_l01Of.calls k1 a0_0 _ _ l0_1 x6_1 t119 _ (cb (Kd.C_below HR0_1.out HB.out)) HC0_1.out A8.out).mono ?_
     rintro e w15 ⟨v120,rfl,ho0,hb⟩;refine⟨_,rfl,?_⟩;have HO121:=Aside0.mk (Kd.R_lower (Kd.R_new' ho0 (Kd.R_lt (kr HO_5.out))) (below_size (bl HB.out)));replace HO_5:=Aside0.mk (Kd.R_elder' (kr HO_5.out) (Kd.R_base ho0) hb);replace BK114:=bkA BK114 hb;replace HB:=bsA HB hb;(try clear hb)
     (try clear hb2)
     (try clear hk)
     (try clear hi)
     (try clear ho0)
     obtain ⟨Ao16,co16,eo16⟩:=Kd.R_slice HO121.out;(first|subst eo16|(injection eo16 with f1_ f2_ f3_;have f4_:=f1_.symm;have f5_:=f3_.symm;clear f1_ f2_ f3_;subst f4_;subst f5_))
     refine hK.out _ _ ⟨(blk_cell BK114.out 0).trans rfl,(blk_cell BK114.out 1).trans rfl⟩ (fun hHeld=>?_);clear hK K;refine nr 17 ?_;refine pu 4 (some 18) #[U,U,U,U,U,U,U,U,O,O,U,U,U,U,O,O,O,O,O] HT_ ?_;refine on_ 8 (some 22) #[U,U,U,U,U,U,U,U,U,O,U,U,U,U,O,O,O,O,O] HT_ fun K hK=>?_;refine gr Tryz.func114 #[.agg #[.int .i64 a0_0,.slice A0_1 l0_1.length c0_1],.int .i64 x6_1,.int .i64 a1] ?_;with_reducible refine(spec_l03RankOf.calls a0_0 _ _ l0_1 x6_1 a1 t122 _ (cb (Kd.C_below HR0_1.out HB.out)) HC0_1.out A9.out).mono ?_
     rintro e w17 ⟨rfl,hb⟩;refine⟨_,rfl,?_⟩;replace HO_5:=krA HO_5 hb;replace HO121:=krA HO121 hb;replace BK114:=bkA BK114 hb;replace HB:=bsA HB hb;(try clear hb)
     (try clear hb2)
     (try clear hk)
     (try clear hi)
     refine hK.out _ _ ⟨(blk_cell BK114.out 0).trans rfl,(blk_cell BK114.out 1).trans rfl⟩ (fun hHeld=>?_);clear hK K;refine nr 22 ?_;refine pu 9 (some 23) (ar 14 5) HT_ ?_;refine on_ 14 (some 28) (ar 15 4) HT_ fun K hK=>?_;refine gr Tryz.func114 #[.agg #[.int .i64 a0_0,.slice A0_1 l0_1.length c0_1],.int .i64 (wrap64 (x6_1+1)),.int .i64 a1] ?_;with_reducible refine(spec_l03RankOf.calls a0_0 _ _ l0_1 (wrap64 (x6_1+1)) a1 t123 _ (cb (Kd.C_below HR0_1.out HB.out)) HC0_1.out A10.out).mono ?_
     rintro e w18 ⟨rfl,hb⟩;refine⟨_,rfl,?_⟩;replace HO_5:=krA HO_5 hb;replace HO121:=krA HO121 hb;replace BK114:=bkA BK114 hb;replace HB:=bsA HB hb;(try clear hb)
     (try clear hb2)
     (try clear hk)
     (try clear hi)
     refine hK.out _ _ ⟨(blk_cell BK114.out 0).trans rfl,(blk_cell BK114.out 1).trans rfl⟩ (fun hHeld=>?_);clear hK K;refine nr 28 ?_;refine pu 15 (some 29) (ar 16 3) HT_ ?_;refine on_ 16 (some 30) (ar 17 2) HT_ fun K hK=>?_;refine value_ (w1:=?_) (v:=?_) (by rfl) rfl ?_ ?_;rotate_left 2
     ·go_simp;constructor
      ·rfl
      ·rfl
     refine hK.out _ _ ⟨(blk_cell (blk_alloc BK114.out _) 0).trans rfl,(blk_cell (blk_alloc BK114.out _) 1).trans rfl⟩ (fun hHeld=>?_);clear hK K;refine nr 30 ?_;refine on_ 17 (some 31) (ar 18 1) HT_ fun K hK=>?_;refine Kd.R_append_step (Kd.int .i64) (w0:=w) w.heap.size (by rfl) (.tmp 14) (.tmp 30) 24 2 (.int .i64 0) 8 rfl Tryz.underlying24 info2 rfl (by decide) (by omega) u5 x5_1 (wrap64 ((wrap64 ((t119.length:Int) - t122)) - t123)) [.int .i64 (wrap64 ((wrap64 ((t119.length:Int) - t122)) - t123))] (fun k_=>some k_≠(.slice Ao16 t119.length co16:Value).ownBlock) (fun _=>False) rfl rfl ?aP (fun _ hk=>hk.elim) ?aF ?aO ?aB ?aS ?aL ?_;(case aP=>exact rfl)
     (case aB=>exact(bl HB.out))
     (case aF=>exact(fun k_ hk=>Kd.fresh' (Kd.R_lt (kr HO121.out)) k_ hk))
     (case aO=>exact(by(with_reducible repeat(first|apply Kd.R_alloc|apply Kd.R_drewN|apply Kd.R_drew));exact Kd.R_mono HO_5.out (fun _ hk=>hk.2)))
     (case aS=>exact(below_size (bl HB.out)))
     (case aL=>have:=LMc11.out;omega)
     intro v125 w19 ho hb hg hat;rw[← Ny124.out] at ho;have n0_:=Aside0.mk (blk_grown (bk BK114.out) hg (Kd.R_ne HO_5.out BK114.out (by decide)));have n1_:=Aside0.mk (Kd.R_after (ok:=(fun _=>True)) (kr HO121.out) hg hat);have n2_:=Aside0.mk (hb);have n3_:=Aside0.mk (ho);clear BK114;clear HO121;clear HB;clear HO_5;have BK114:=n0_;have HO121:=n1_;have HB:=n2_;have HO126:=n3_;clear n0_ n1_ n2_ n3_;clear ho hb hg hat;refine hK.out _ _ ⟨(blk_cell BK114.out 0).trans rfl,(blk_cell BK114.out 1).trans rfl⟩ (fun hHeld=>?_);clear hK K;refine nr 31 ?_;refine pu 18 (some 5) (ar 19 0) HT_ ?_;refine done_ (done_of HT_.out (by kernel_rfl)) ?_;try go_wp2
     go_roundg k1
     case measure=>have:=HK1.out;omega
     case rel=>exact⟨(y124),(wrap64 (x6_1+1)),rs,H',⟨by have:=HK1.out;omega⟩,⟨by(with_reducible repeat(first|apply Kd.R_alloc|apply Kd.R_drewN|apply Kd.R_drew));exact Kd.R_mono HO126.out (fun _ hk=>trivial)⟩,⟨bk BK114.out⟩,⟨bl HB.out⟩⟩
    ·rw[if_neg c11] at H;exact absurd H (by simp)
   ·rw[if_neg c7] at H;have c7b0:decide (x6_1≤t118)=false:=decide_eq_false c7;clear c7;obtain rfl:=Option.some.inj H;have hcz20_0:=z0_ BK114;have hcz20_1:=z1_ BK114;have hfz20_0:=hf_ BK114 0;have hfz20_1:=hf_ BK114 1;go_wp2_with (first|((with_reducible refine gate_callee (f:=137) rfl ?_);refine gl (some 10) Tryz.func137 #[.agg #[.int .i64 a0_0,.slice A0_1 l0_1.length c0_1]] ?_;(with_reducible refine(spec_l01Dim.calls k1 a0_0 _ _ l0_1 t118 _ (cb (Kd.C_below HR0_1.out HB.out)) HC0_1.out A6.out).mono ?_);rintro e w21 ⟨rfl,hb⟩;refine⟨_,rfl,?_⟩;replace HO_5:=krA HO_5 hb;replace BK114:=bkA BK114 hb;replace HB:=bsA HB hb;(try clear hb);(try clear hb2);(try clear hk);(try clear hi)))
    go_ret;exact⟨_,rr,by(with_reducible repeat(first|apply Kd.R_alloc|apply Kd.R_drewN|apply Kd.R_drew));exact HO_5.out,bl HB.out⟩
end Go.Proofs.YtbnnamejnjfkjaaGreat.D
end

section
namespace Go.Proofs.YtbnnamejnjfkjaaGreat.D
open Go.RowKit Go.Proofs.YtbnnamejnjfkjaaGreat.Q Go.Proofs.YtbnnamejnjfkjaaGreat.X Go.Proofs.YtbnnamejnjfkjaaGreatW.PrintWords Go.Proofs.YtbnnamejnjfkjaaGreatW.PrintLast Go.Proofs.YtbnnamejnjfkjaaGreatW.PrintMore
attribute [local go_sem] max2_int min2_int max_two min_two max_three min_three max_four min_four
set_option linter.unusedVariables false
set_option linter.unusedSimpArgs false
def spec_BettiNumbers.f (k:Nat) (a0_0:Int) (l0_1:List Int) (a1:Int):Option (List Int×Int):=(spec_l03Code.f k a0_0 l0_1 a1).bind fun t128=>(if t128=0 then ((spec_l03Betti.f k a0_0 l0_1 a1).bind fun t129=>(some (t129,0))) else (some (([]:List Int),t128)))
theorem spec_BettiNumbers.mono:∀ a0 a1 a2 k,LeO (spec_BettiNumbers.f k a0 a1 a2) (spec_BettiNumbers.f (k+1) a0 a1 a2):=by
 intro a0 a1 a2 k;unfold spec_BettiNumbers.f;repeat' first
   |(with_reducible first|exact spec_l03Betti.mono _ _ _ _|exact spec_l03Code.mono _ _ _ _|exact LeO.refl _|exact LeO.none _|refine LeO.ite ?_ ?_|refine LeO.bind ?_ (fun _=>?_))
set_option maxHeartbeats 8000000 in
set_option maxRecDepth 100000 in
theorem spec_BettiNumbers.calls (k:Nat) (a0_0:Int) (A0_1:Option Addr) (c0_1:Nat) (l0_1:List Int) (a1:Int) (r1:List Int) (r2:Int) (w:World) (hr0_1:Kd.C (Kd.int .i64) w A0_1 l0_1.length l0_1) (hc0_1:l0_1.length≤c0_1) (h:spec_BettiNumbers.f k a0_0 l0_1 a1=some (r1,r2)) :
  Calls Tryz.prog 38 #[.agg #[.int .i64 a0_0,.slice A0_1 l0_1.length c0_1],.int .i64 a1] w fun e w'=>∃ v0_:Value,e = .returned (.tuple #[v0_,.int .i64 r2])∧Kd.R (Kd.int .i64) 2 w' w.heap.size (fun _=>True) v0_ r1∧Below w.heap.size w w':=by
 have hu26:=Tryz.underlying26;have HR0_1:=Aside0.mk hr0_1;have HC0_1:=Aside0.mk hc0_1;clear hr0_1 hc0_1;have HB:=Aside0.mk (Below.refl w.heap.size w);have H:((spec_l03Code.f k a0_0 l0_1 a1).bind fun t128=>(if t128=0 then ((spec_l03Betti.f k a0_0 l0_1 a1).bind fun t129=>(some (t129,0))) else (some (([]:List Int),t128))))=some (r1,r2):=h;clear h;replace H:=Option.bind_eq_some_iff.mp H;obtain ⟨t128,A30,H⟩:=H;replace H:(if t128=0 then ((spec_l03Betti.f k a0_0 l0_1 a1).bind fun t129=>(some (t129,0))) else (some (([]:List Int),t128)))=some (r1,r2):=H;have A3:=Aside0.mk A30;clear A30;by_cases c4:t128=0
 ·rw[if_pos c4] at H;have c4b0:(t128 == 0)=true:=beq_iff_eq.mpr c4;have c4b1:(t128 != 0)=false:=bne_eq_false_iff_eq.mpr c4;clear c4;replace H:=Option.bind_eq_some_iff.mp H;obtain ⟨t129,A50,H⟩:=H;replace H:(some (t129,0))=some (r1,r2):=H;have A5:=Aside0.mk A50;clear A50;simp only [Option.some.injEq,Prod.mk.injEq] at H;obtain ⟨rfl,rfl⟩:=H;go_enter Tryz.func38,Tryz.ntmps38;go_wp2_with (first|((with_reducible refine gate_dst (N:=2) rfl ?_);refine bx 2 #[.int .i64 a0_0,.slice A0_1 l0_1.length c0_1] 26 ?_;intro gb127 hg w6 hbox hb;have BK127:=Aside0.mk (hbox);have GE127:=gzA hg HB;replace HB:=bsA HB hb;clear hb hbox hg;have hcz7_0:=z0_ BK127;have hcz7_1:=z1_ BK127;have hfz7_0:=hf_ BK127 0;have hfz7_1:=hf_ BK127 1)|((with_reducible refine gate_callee (f:=106) rfl ?_);refine gl (some 9) Tryz.func106 #[.agg #[.int .i64 a0_0,.slice A0_1 l0_1.length c0_1],.int .i64 a1] ?_;(with_reducible refine(spec_l03Code.calls k a0_0 _ _ l0_1 a1 t128 _ (cb (Kd.C_below HR0_1.out HB.out)) HC0_1.out A3.out).mono ?_);rintro e w8 ⟨rfl,hb⟩;refine⟨_,rfl,?_⟩;replace BK127:=bkA BK127 hb;replace HB:=bsA HB hb;(try clear hb);(try clear hb2);(try clear hk);(try clear hi);have hcz9_0:=z0_ BK127;have hcz9_1:=z1_ BK127;have hfz9_0:=hf_ BK127 0;have hfz9_1:=hf_ BK127 1)|((with_reducible refine gate_callee (f:=107) rfl ?_);refine gl (some 15) Tryz.func107 #[.agg #[.int .i64 a0_0,.slice A0_1 l0_1.length c0_1],.int .i64 a1] ?_;(with_reducible refine(spec_l03Betti.calls k a0_0 _ _ l0_1 a1 t129 _ (cb (Kd.C_below HR0_1.out HB.out)) HC0_1.out A5.out).mono ?_);rintro e w10 ⟨v130,rfl,ho0,hb⟩;refine⟨_,rfl,?_⟩;have HO131:=klA ho0 HB;replace BK127:=bkA BK127 hb;replace HB:=bsA HB hb;(try clear hb);(try clear hb2);(try clear hk);(try clear hi);(try clear ho0)))
  go_ret2;exact⟨_,rr,by(with_reducible repeat(first|apply Kd.R_alloc|apply Kd.R_drewN|apply Kd.R_drew));exact HO131.out,bl HB.out⟩
 ·rw[if_neg c4] at H;have c4b0:(t128 == 0)=false:=beq_eq_false_iff_ne.mpr c4;have c4b1:(t128 != 0)=true:=bne_iff_ne.mpr c4;simp only [Option.some.injEq,Prod.mk.injEq] at H;obtain ⟨rfl,rfl⟩:=H;go_enter Tryz.func38,Tryz.ntmps38;go_wp2_with (first|((with_reducible refine gate_dst (N:=2) rfl ?_);refine bx 2 #[.int .i64 a0_0,.slice A0_1 l0_1.length c0_1] 26 ?_;intro gb127 hg w11 hbox hb;have BK127:=Aside0.mk (hbox);have GE127:=gzA hg HB;replace HB:=bsA HB hb;clear hb hbox hg;have hcz12_0:=z0_ BK127;have hcz12_1:=z1_ BK127;have hfz12_0:=hf_ BK127 0;have hfz12_1:=hf_ BK127 1)|((with_reducible refine gate_callee (f:=106) rfl ?_);refine gl (some 9) Tryz.func106 #[.agg #[.int .i64 a0_0,.slice A0_1 l0_1.length c0_1],.int .i64 a1] ?_;(with_reducible refine(spec_l03Code.calls k a0_0 _ _ l0_1 a1 t128 _ (cb (Kd.C_below HR0_1.out HB.out)) HC0_1.out A3.out).mono ?_);rintro e w13 ⟨rfl,hb⟩;refine⟨_,rfl,?_⟩;replace BK127:=bkA BK127 hb;replace HB:=bsA HB hb;(try clear hb);(try clear hb2);(try clear hk);(try clear hi)))
  go_ret2;exact⟨_,rr,by first|exact Kd.R_nil _ _ _ _ _|exact Kd.N_nil _ _ _ _ _|exact Kd.V_nil _ _ _ _ _|exact Kd.Q_nil _ _ _ _ _|exact Kd.S_nil _ _ _ _ _,bl HB.out⟩
end Go.Proofs.YtbnnamejnjfkjaaGreat.D
end

section
namespace Go.Proofs.YtbnnamejnjfkjaaGreat.D
open Go.RowKit Go.Proofs.YtbnnamejnjfkjaaGreat.Q Go.Proofs.YtbnnamejnjfkjaaGreat.X Go.Proofs.YtbnnamejnjfkjaaGreatW.PrintWords Go.Proofs.YtbnnamejnjfkjaaGreatW.PrintLast Go.Proofs.YtbnnamejnjfkjaaGreatW.PrintMore
attribute [local go_sem] max2_int min2_int max_two min_two max_three min_three max_four min_four
set_option linter.unusedVariables false
set_option linter.unusedSimpArgs false
mutual
def spec_IsAcyclicComplex.j0:Nat→List Int→Bool→Option (Bool×Int)
 |0,_,_=>none
 |k+1,x7,x8=>spec_IsAcyclicComplex.l0 k x7 x8 1
def spec_IsAcyclicComplex.l0:Nat→List Int→Bool→Int→Option (Bool×Int)
 |0,_,_,_=>none
 |k+1,x7,x8,x9=>if x9<(x7.length:Int) then (if x8=true then (if 0≤x9 then (spec_IsAcyclicComplex.l0 k x7 ((rd x7 x9) == 0) (wrap64 (x9+1))) else (none)) else (spec_IsAcyclicComplex.l0 k x7 false (wrap64 (x9+1)))) else (some (x8,0))
end
def spec_IsAcyclicComplex.f (k:Nat) (a0_0:Int) (l0_1:List Int) (a1:Int):Option (Bool×Int):=(spec_l03Code.f k a0_0 l0_1 a1).bind fun t133=>(if t133=0 then ((spec_l03Betti.f k a0_0 l0_1 a1).bind fun t134=>(if (t134.length:Int)>0 then (if 0<(t134.length:Int) then (spec_IsAcyclicComplex.j0 k t134 ((rd t134 0) == 1)) else (none)) else (spec_IsAcyclicComplex.j0 k t134 false))) else (some (false,t133)))
theorem spec_IsAcyclicComplex.mono_l:∀ k,(∀ y0 y1,LeO (spec_IsAcyclicComplex.j0 k y0 y1) (spec_IsAcyclicComplex.j0 (k+1) y0 y1))∧(∀ y0 y1 y2,LeO (spec_IsAcyclicComplex.l0 k y0 y1 y2) (spec_IsAcyclicComplex.l0 (k+1) y0 y1 y2))
 |0=>⟨fun _ _ r h=>by simp [spec_IsAcyclicComplex.j0] at h,fun _ _ _ r h=>by simp [spec_IsAcyclicComplex.l0] at h⟩
 |k+1=>by
  obtain ⟨ih0,ih1⟩:=spec_IsAcyclicComplex.mono_l k;refine⟨?_,?_⟩
  ·intro y0 y1;unfold spec_IsAcyclicComplex.j0;repeat' first
   |(with_reducible first|exact ih0 _ _|exact ih1 _ _ _|exact spec_l03Betti.mono _ _ _ _|exact spec_l03Code.mono _ _ _ _|exact LeO.refl _|exact LeO.none _|refine LeO.ite ?_ ?_|refine LeO.bind ?_ (fun _=>?_))
  ·intro y0 y1 y2;unfold spec_IsAcyclicComplex.l0;repeat' first
   |(with_reducible first|exact ih0 _ _|exact ih1 _ _ _|exact spec_l03Betti.mono _ _ _ _|exact spec_l03Code.mono _ _ _ _|exact LeO.refl _|exact LeO.none _|refine LeO.ite ?_ ?_|refine LeO.bind ?_ (fun _=>?_))
theorem spec_IsAcyclicComplex.mono:∀ a0 a1 a2 k,LeO (spec_IsAcyclicComplex.f k a0 a1 a2) (spec_IsAcyclicComplex.f (k+1) a0 a1 a2):=by
 intro a0 a1 a2 k;obtain ⟨ih0,ih1⟩:=spec_IsAcyclicComplex.mono_l k;unfold spec_IsAcyclicComplex.f;repeat' first
   |(with_reducible first|exact ih0 _ _|exact ih1 _ _ _|exact spec_l03Betti.mono _ _ _ _|exact spec_l03Code.mono _ _ _ _|exact LeO.refl _|exact LeO.none _|refine LeO.ite ?_ ?_|refine LeO.bind ?_ (fun _=>?_))
set_option maxHeartbeats 8000000 in
set_option maxRecDepth 100000 in
theorem spec_IsAcyclicComplex.calls (k:Nat) (a0_0:Int) (A0_1:Option Addr) (c0_1:Nat) (l0_1:List Int) (a1:Int) (r1:Bool) (r2:Int) (w:World) (hr0_1:Kd.C (Kd.int .i64) w A0_1 l0_1.length l0_1) (hc0_1:l0_1.length≤c0_1) (h:spec_IsAcyclicComplex.f k a0_0 l0_1 a1=some (r1,r2)) :
  Calls Tryz.prog 45 #[.agg #[.int .i64 a0_0,.slice A0_1 l0_1.length c0_1],.int .i64 a1] w fun e w'=>e = .returned (.tuple #[.bool r1,.int .i64 r2])∧Below w.heap.size w w':=by
 have hu26:=Tryz.underlying26;have HR0_1:=Aside0.mk hr0_1;have HC0_1:=Aside0.mk hc0_1;clear hr0_1 hc0_1;have HB:=Aside0.mk (Below.refl w.heap.size w);have H:((spec_l03Code.f k a0_0 l0_1 a1).bind fun t133=>(if t133=0 then ((spec_l03Betti.f k a0_0 l0_1 a1).bind fun t134=>(if (t134.length:Int)>0 then (if 0<(t134.length:Int) then (spec_IsAcyclicComplex.j0 k t134 ((rd t134 0) == 1)) else (none)) else (spec_IsAcyclicComplex.j0 k t134 false))) else (some (false,t133))))=some (r1,r2):=h;clear h;replace H:=Option.bind_eq_some_iff.mp H;obtain ⟨t133,A30,H⟩:=H;replace H:(if t133=0 then ((spec_l03Betti.f k a0_0 l0_1 a1).bind fun t134=>(if (t134.length:Int)>0 then (if 0<(t134.length:Int) then (spec_IsAcyclicComplex.j0 k t134 ((rd t134 0) == 1)) else (none)) else (spec_IsAcyclicComplex.j0 k t134 false))) else (some (false,t133)))=some (r1,r2):=H;have A3:=Aside0.mk A30;clear A30;by_cases c4:t133=0
 ·rw[if_pos c4] at H;have c4b0:(t133 == 0)=true:=beq_iff_eq.mpr c4;have c4b1:(t133 != 0)=false:=bne_eq_false_iff_eq.mpr c4;clear c4;replace H:=Option.bind_eq_some_iff.mp H;obtain ⟨t134,A50,H⟩:=H;replace H:(if (t134.length:Int)>0 then (if 0<(t134.length:Int) then (spec_IsAcyclicComplex.j0 k t134 ((rd t134 0) == 1)) else (none)) else (spec_IsAcyclicComplex.j0 k t134 false))=some (r1,r2):=H;have A5:=Aside0.mk A50;clear A50;have HC6:=Aside0.mk H;clear H;go_enter Tryz.func45,Tryz.ntmps45;go_upto_region 5 with (first|((with_reducible refine gate_dst (N:=2) rfl ?_);refine bx 2 #[.int .i64 a0_0,.slice A0_1 l0_1.length c0_1] 26 ?_;intro gb132 hg w7 hbox hb;have BK132:=Aside0.mk (hbox);have GE132:=gzA hg HB;replace HB:=bsA HB hb;clear hb hbox hg;have hcz8_0:=z0_ BK132;have hcz8_1:=z1_ BK132;have hfz8_0:=hf_ BK132 0;have hfz8_1:=hf_ BK132 1)|((with_reducible refine gate_callee (f:=106) rfl ?_);refine gl (some 12) Tryz.func106 #[.agg #[.int .i64 a0_0,.slice A0_1 l0_1.length c0_1],.int .i64 a1] ?_;(with_reducible refine(spec_l03Code.calls k a0_0 _ _ l0_1 a1 t133 _ (cb (Kd.C_below HR0_1.out HB.out)) HC0_1.out A3.out).mono ?_);rintro e w9 ⟨rfl,hb⟩;refine⟨_,rfl,?_⟩;replace BK132:=bkA BK132 hb;replace HB:=bsA HB hb;(try clear hb);(try clear hb2);(try clear hk);(try clear hi);have hcz10_0:=z0_ BK132;have hcz10_1:=z1_ BK132;have hfz10_0:=hf_ BK132 0;have hfz10_1:=hf_ BK132 1)|((with_reducible refine gate_callee (f:=107) rfl ?_);refine gl (some 18) Tryz.func107 #[.agg #[.int .i64 a0_0,.slice A0_1 l0_1.length c0_1],.int .i64 a1] ?_;(with_reducible refine(spec_l03Betti.calls k a0_0 _ _ l0_1 a1 t134 _ (cb (Kd.C_below HR0_1.out HB.out)) HC0_1.out A5.out).mono ?_);rintro e w11 ⟨v135,rfl,ho0,hb⟩;refine⟨_,rfl,?_⟩;have HO136:=klA ho0 HB;replace BK132:=bkA BK132 hb;replace HB:=bsA HB hb;(try clear hb);(try clear hb2);(try clear hk);(try clear hi);(try clear ho0)))
  (try simp only [Act.put,List.setIfInBounds_toArray,List.set_cons_zero,List.set_cons_succ])
  go_cut [8] (fun v8 wc=>∃(kq:Nat) (x8_5:Bool),v8 = .bool x8_5∧Aside0 (spec_IsAcyclicComplex.j0 kq t134 x8_5=some (r1,r2))∧Aside0 (kq≤k)∧Aside0 (Kd.R (Kd.int .i64) 2 wc w.heap.size (fun _=>True) v135 t134)∧Aside0 (wc.heap[gb132]?=some (.cells #[.int .i64 a0_0,(.slice A0_1 l0_1.length c0_1)] 26 (0,0)))∧Aside0 (Below w.heap.size w wc))
  case first=>
   have H:=HC6.out;clear HC6;by_cases c12:(t134.length:Int)>0
   ·rw[if_pos c12] at H;have c12b0:decide (0<(t134.length:Int))=true:=decide_eq_true c12;have c12b1:decide (0<t134.length)=true:=decide_eq_true (by omega);clear c12;(first|rw[c12b0]|(simp only [i64_w,i32_w];rw[c12b0])|skip)
    by_cases c13:0<(t134.length:Int)
    ·rw[if_pos c13] at H;have c13b0:decide (0<(t134.length:Int))=true:=decide_eq_true c13;have c13b1:decide (0<t134.length)=true:=decide_eq_true (by omega);clear c13;have H':=Aside0.mk H;clear H;obtain ⟨Ao14,co14,eo14⟩:=Kd.R_slice HO136.out;subst eo14;have p137:0≤(0:Int):=(by omega)
     have q137:0<(t134.length:Int):=dd;obtain ⟨ad137,e137,hx137_0⟩:=Kd.at_int (Kd.R_reads' HO136.out).2.2 0 p137 q137;cases e137;have qi137:(0<t134.length)=True:=eq_true (by omega);(try rw[show ((0:Int)).toNat=0 from rfl] at hx137_0)
     (try rw[Addr.add_zero'] at hx137_0)
     replace p137:=eq_true p137;replace q137:=eq_true q137;go_wp2
     go_meet
     case rel=>exact⟨_,(((rd t134 0) == 1)),rs,H',⟨by first|omega|exact Nat.le_refl _⟩,⟨kr HO136.out⟩,⟨bk BK132.out⟩,⟨bl HB.out⟩⟩
    ·rw[if_neg c13] at H;exact absurd H (by simp)
   ·rw[if_neg c12] at H;have c12b0:decide (0<(t134.length:Int))=false:=decide_eq_false c12;have c12b1:decide (0<t134.length)=false:=decide_eq_false (by omega);clear c12;(first|rw[c12b0]|(simp only [i64_w,i32_w];rw[c12b0])|skip)
    have H':=Aside0.mk H;clear H;obtain ⟨Ao15,co15,eo15⟩:=Kd.R_slice HO136.out;subst eo15;go_wp2
    go_meet
    case rel=>exact⟨_,(false),rs,H',⟨by first|omega|exact Nat.le_refl _⟩,⟨kr HO136.out⟩,⟨bk BK132.out⟩,⟨bl HB.out⟩⟩
  case rest=>
   clear HC6;try clear c1
   try clear p1
   try clear q1
   try clear hx1
   try clear qi1
   try clear p2
   try clear c4
   try clear c4b0
   try clear c4b1
   try clear c10
   try clear c12
   try clear c12b0
   try clear c12b1
   try clear c13
   try clear c13b0
   try clear c13b1
   try clear p13
   try clear q13
   try clear hx13
   try clear qi13
   try clear hcz10_0
   try clear hcz10_1
   try clear hcz8_0
   try clear hcz8_1
   try clear hfz10_0
   try clear hfz10_1
   try clear hfz8_0
   try clear hfz8_1
   try clear hx137_0
   try clear p137
   try clear q137
   obtain ⟨kq,x8_5,rfl,HA,HJ5,HO_7,BK132,HB⟩:=hcut;cases kq with
   |zero=>exact absurd HA.out (by simp [spec_IsAcyclicComplex.j0])
   |succ kj5=>
    have H:=HA.out;clear HA;simp only [spec_IsAcyclicComplex.j0] at H;have H':=Aside0.mk H;clear H;go_wp2
    go_loopg [8,9] kj5 (fun kq v8 v9 w'=>∃(x8_2:Bool) (x9_2:Int),v8 = .bool x8_2∧v9 = .int .i64 x9_2∧Aside0 (spec_IsAcyclicComplex.l0 kq t134 x8_2 x9_2=some (r1,r2))∧Aside0 (kq≤kj5)∧Aside0 (Kd.R (Kd.int .i64) 2 w' w.heap.size (fun _=>True) v135 t134)∧Aside0 (w'.heap[gb132]?=some (.cells #[.int .i64 a0_0,(.slice A0_1 l0_1.length c0_1)] 26 (0,0)))∧Aside0 (Below w.heap.size w w'))
    case atStart=>exact⟨(x8_5),(1),rs,rs,H',⟨Nat.le_refl _⟩,⟨kr HO_7.out⟩,⟨bk BK132.out⟩,⟨bl HB.out⟩⟩
    case round=>
     clear H';try clear c1
     try clear p1
     try clear q1
     try clear hx1
     try clear qi1
     try clear p2
     try clear c4
     try clear c4b0
     try clear c4b1
     try clear c10
     try clear c12
     try clear c12b0
     try clear c12b1
     try clear c13
     try clear c13b0
     try clear c13b1
     try clear p13
     try clear q13
     try clear hx13
     try clear qi13
     try clear hcz10_0
     try clear hcz10_1
     try clear hcz8_0
     try clear hcz8_1
     try clear hfz10_0
     try clear hfz10_1
     try clear hfz8_0
     try clear hfz8_1
     try clear hx137_0
     try clear p1
     try clear p13
     try clear p137
     try clear p2
     try clear q1
     try clear q13
     try clear q137
     obtain ⟨x8_2,x9_2,rfl,rfl,HA,HK2,HO_7,BK132,HB⟩:=hrel;cases gk with
     |zero=>exact absurd HA.out (by simp [spec_IsAcyclicComplex.l0])
     |succ k2=>
      have H:=HA.out;clear HA;simp only [spec_IsAcyclicComplex.l0] at H;by_cases c16:x9_2<(t134.length:Int)
      ·rw[if_pos c16] at H;have c16b0:decide (x9_2<(t134.length:Int))=true:=decide_eq_true c16;clear c16;by_cases c17:x8_2=true
       ·subst c17;have H1:(if 0≤x9_2 then (spec_IsAcyclicComplex.l0 k2 t134 ((rd t134 x9_2) == 0) (wrap64 (x9_2+1))) else (none))=some (r1,r2):=by rw[if_pos rfl] at H;exact H
        clear H;have H:=H1;clear H1;by_cases c18:0≤x9_2
        ·rw[if_pos c18] at H;have c18b0:decide (0≤x9_2)=true:=decide_eq_true c18;clear c18;have H':=Aside0.mk H;clear H;obtain ⟨Ao19,co19,eo19⟩:=Kd.R_slice HO_7.out;subst eo19;have p138:0≤(x9_2:Int):=dd;have q138:x9_2<(t134.length:Int):=dd;obtain ⟨ad138,e138,hx138_0⟩:=Kd.at_int (Kd.R_reads' HO_7.out).2.2 x9_2 p138 q138;cases e138;replace p138:=eq_true p138;replace q138:=eq_true q138;go_wp2
         go_roundg k2
         case measure=>have:=HJ5.out;have:=HK2.out;omega
         case rel=>exact⟨(((rd t134 x9_2) == 0)),(wrap64 (x9_2+1)),rs,rs,H',⟨by have:=HJ5.out;have:=HK2.out;omega⟩,⟨kr HO_7.out⟩,⟨bk BK132.out⟩,⟨bl HB.out⟩⟩
        ·rw[if_neg c18] at H;exact absurd H (by simp)
       ·replace c17:=Bool.eq_false_iff.mpr c17;subst c17;have H1:(spec_IsAcyclicComplex.l0 k2 t134 false (wrap64 (x9_2+1)))=some (r1,r2):=by rw[if_neg (show ¬ (false=true) by decide)] at H;exact H
        clear H;have H:=H1;clear H1;have H':=Aside0.mk H;clear H;obtain ⟨Ao20,co20,eo20⟩:=Kd.R_slice HO_7.out;subst eo20;go_wp2
        go_roundg k2
        case measure=>have:=HJ5.out;have:=HK2.out;omega
        case rel=>exact⟨(false),(wrap64 (x9_2+1)),rs,rs,H',⟨by have:=HJ5.out;have:=HK2.out;omega⟩,⟨kr HO_7.out⟩,⟨bk BK132.out⟩,⟨bl HB.out⟩⟩
      ·rw[if_neg c16] at H;have c16b0:decide (x9_2<(t134.length:Int))=false:=decide_eq_false c16;clear c16;simp only [Option.some.injEq,Prod.mk.injEq] at H;obtain ⟨rfl,rfl⟩:=H;obtain ⟨Ao21,co21,eo21⟩:=Kd.R_slice HO_7.out;subst eo21;go_wp2
       go_ret2;exact⟨rr,bl HB.out⟩
 ·rw[if_neg c4] at H;have c4b0:(t133 == 0)=false:=beq_eq_false_iff_ne.mpr c4;have c4b1:(t133 != 0)=true:=bne_iff_ne.mpr c4;simp only [Option.some.injEq,Prod.mk.injEq] at H;obtain ⟨rfl,rfl⟩:=H;go_enter Tryz.func45,Tryz.ntmps45;go_wp2_with (first|((with_reducible refine gate_dst (N:=2) rfl ?_);refine bx 2 #[.int .i64 a0_0,.slice A0_1 l0_1.length c0_1] 26 ?_;intro gb132 hg w22 hbox hb;have BK132:=Aside0.mk (hbox);have GE132:=gzA hg HB;replace HB:=bsA HB hb;clear hb hbox hg;have hcz23_0:=z0_ BK132;have hcz23_1:=z1_ BK132;have hfz23_0:=hf_ BK132 0;have hfz23_1:=hf_ BK132 1)|((with_reducible refine gate_callee (f:=106) rfl ?_);refine gl (some 12) Tryz.func106 #[.agg #[.int .i64 a0_0,.slice A0_1 l0_1.length c0_1],.int .i64 a1] ?_;(with_reducible refine(spec_l03Code.calls k a0_0 _ _ l0_1 a1 t133 _ (cb (Kd.C_below HR0_1.out HB.out)) HC0_1.out A3.out).mono ?_);rintro e w24 ⟨rfl,hb⟩;refine⟨_,rfl,?_⟩;replace BK132:=bkA BK132 hb;replace HB:=bsA HB hb;(try clear hb);(try clear hb2);(try clear hk);(try clear hi)))
  go_ret2;exact⟨rr,bl HB.out⟩
end Go.Proofs.YtbnnamejnjfkjaaGreat.D
end

section
namespace Go.Proofs.YtbnnamejnjfkjaaGreat.K
open Go.RowKit Go.Shelf Go.Proofs.YtbnnamejnjfkjaaGreat.Q Go.Proofs.YtbnnamejnjfkjaaGreat.D Go.Proofs.YtbnnamejnjfkjaaGreat Go.Proofs.YtbnnamejnjfkjaaGreatW.PrintWords Go.Proofs.YtbnnamejnjfkjaaGreatW.PrintLast Go.Proofs.YtbnnamejnjfkjaaGreatW.PrintMore
set_option linter.unusedVariables false
set_option linter.unusedSimpArgs false
theorem X_srank_is {n:Int} {l:List Int} (hi:isC n l=true) (d p:Int) (hd:0≤d∧d≤7) (hp:2≤p∧p≤3):X.spec_l03RankOf.f n l d p=some (rankL l d p):=by
 unfold X.spec_l03RankOf.f
 rw[if_pos ⟨hi,hd,hp⟩]
theorem specCode_is (n:Int) (l:List Int) (p:Int) (hl:l.length≤2097152) (k:Nat) (hk:isK l≤k):spec_l03Code.f k n l p=some (codeOf n l (decide (2≤p∧p≤3))):=by
 unfold spec_l03Code.f
 rw[specIs_is n l hl k hk]
 simp only [Option.bind_some]
 cases hi:isC n l with
 |false=>simp [codeOf,hi]
 |true=>
  rw[if_pos rfl]
  by_cases h2:p=2
  ·rw[if_pos h2];simp [codeOf,hi,h2]
  ·rw[if_neg h2]
   by_cases h3:p=3
   ·rw[if_pos h3];simp [codeOf,hi,h3]
   ·rw[if_neg h3]
    have:¬ (2≤p∧p≤3):=by omega
    simp [codeOf,hi,this]
theorem specRankOf_is (n:Int) (l:List Int) (d p:Int) (hl:l.length≤2097152) (k:Nat) (hk:isK l+2≤k) :
  spec_RankOf.f k n l d p=some ((if codeOf n l (decide (0≤d∧d≤6) && decide (2≤p∧p≤3))=0 then rankL l d p else 0),codeOf n l (decide (0≤d∧d≤6) && decide (2≤p∧p≤3))):=by
 obtain ⟨k,rfl⟩:∃ m,k=m+1:=⟨k - 1,by unfold isK at hk;omega⟩
 unfold spec_RankOf.f
 rw[specCode_is n l p hl (k+1) (by omega)]
 simp only [Option.bind_some]
 cases hi:isC n l with
 |false=>
  have hc:∀ b,codeOf n l b=1:=fun b=>by simp [codeOf,hi]
  rw[hc,hc,if_neg (by decide)]
  simp only [spec_RankOf.j0]
  simp
 |true=>
  by_cases hp:2≤p∧p≤3
  ·have hc:codeOf n l (decide (2≤p∧p≤3))=0:=by simp [codeOf,hi,hp]
   rw[hc,if_pos rfl,specIn_is]
   simp only [Option.bind_some,spec_RankOf.j0]
   by_cases hd:0≤d∧d≤6
   ·rw[X_srank_is hi d p (by omega) hp]
    simp [codeOf,hi,hd,hp]
   ·simp [codeOf,hi,hd]
  ·have hc:codeOf n l (decide (2≤p∧p≤3))=2:=by simp [codeOf,hi,hp]
   rw[hc,if_neg (by decide)]
   simp only [spec_RankOf.j0]
   simp [codeOf,hi,hp]
theorem specBetti_loop {n:Int} {l:List Int} (hi:isC n l=true) (p:Int) (hp:2≤p∧p≤3):∀(e i k:Nat),(topI l+1).toNat - i=e→i≤(topI l+1).toNat→e+81<k →
  spec_l03Betti.l0 k p ((List.range i).map (bettiAt l p)) (i:Int) n l=some (bettiL l p):=by
 have ht:=top_range l
 have h63:=(isC_faces hi).2.2.2
 have hr:=isC_of hi
 intro e
 induction e with
 |zero=>
  intro i k he hil hk
  obtain ⟨k,rfl⟩:∃ m,k=m+1:=⟨k - 1,by omega⟩
  obtain rfl:i=(topI l+1).toNat:=by omega
  simp only [spec_l03Betti.l0]
  rw[specTop_is n l h63 hr k (by omega)]
  simp only [Option.bind_some]
  rw[if_neg (by omega)]
  rfl
 |succ e ih=>
  intro i k he hil hk
  obtain ⟨k,rfl⟩:∃ m,k=m+1:=⟨k - 1,by omega⟩
  have h1:=betti_rng hi (i:Int) p hp
  have h2:=betti_rng hi ((i:Int)+1) p hp
  have h3:=of_length l (i:Int)
  simp only [spec_l03Betti.l0]
  rw[specTop_is n l h63 hr k (by omega)]
  simp only [Option.bind_some]
  rw[if_pos (by omega),specOf_is n i (by omega) l h63 hr k (by omega),X_srank_is hi _ p (by omega) hp,w64 ((i:Int)+1) (by omega) (by omega),X_srank_is hi _ p (by omega) hp]
  simp only [Option.bind_some]
  have hE:(List.range i).map (bettiAt l p) ++ [((ofL l (i:Int)).length:Int) - rankL l (i:Int) p - rankL l ((i:Int)+1) p]=(List.range (i+1)).map (bettiAt l p):=by
   rw[List.range_succ,List.map_append,List.map_singleton]
   congr 2
   unfold bettiAt
   omega
  rw[w64 (((ofL l (i:Int)).length:Int) - rankL l (i:Int) p) (by omega) (by omega),w64 _ (by omega) (by omega),hE,if_pos (by simp;omega),nat_succ]
  exact ih (i+1) k (by omega) (by omega) (by omega)
theorem specBetti_is {n:Int} {l:List Int} (hi:isC n l=true) (p:Int) (hp:2≤p∧p≤3) (k:Nat) (hk:100≤k):spec_l03Betti.f k n l p=some (bettiL l p):=by
 have ht:=top_range l
 unfold spec_l03Betti.f
 exact specBetti_loop hi p hp (topI l+1).toNat 0 k (by omega) (by omega) (by omega)
theorem code_mod {n:Int} {l:List Int} {p:Int} (h:codeOf n l (decide (2≤p∧p≤3))=0):isC n l=true∧2≤p∧p≤3:=by
 obtain ⟨h1,h2⟩:=codeOf_zero h
 exact⟨h1,of_decide_eq_true h2⟩
theorem specBettiNumbers_is (n:Int) (l:List Int) (p:Int) (hl:l.length≤2097152) (k:Nat) (hk:isK l+100≤k) :
  spec_BettiNumbers.f k n l p=some ((if codeOf n l (decide (2≤p∧p≤3))=0 then bettiL l p else []),codeOf n l (decide (2≤p∧p≤3))):=by
 unfold spec_BettiNumbers.f
 rw[specCode_is n l p hl k (by omega)]
 simp only [Option.bind_some]
 by_cases h:codeOf n l (decide (2≤p∧p≤3))=0
 ·obtain ⟨h1,h2⟩:=code_mod h
  rw[if_pos h,if_pos h,specBetti_is h1 p h2 k (by omega),h]
  rfl
 ·rw[if_neg h,if_neg h]
theorem betti_len (l:List Int) (p cd:Int):(if cd=0 then bettiL l p else []).length≤63:=by
 have:=betti_length l p
 split
 ·omega
 ·simp
def acyB (x:List Int):Bool:=match x with |[]=>false|y :: r=>y == 1 && r.all (· == 0)
theorem specAcy_loop (x:List Int) (hx:x.length≤63):∀(e i k:Nat) (b:Bool),x.length - i=e→i≤x.length→e<k→spec_IsAcyclicComplex.l0 k x b (i:Int)=some (b && (x.drop i).all (· == 0),0):=by
 intro e
 induction e with
 |zero=>
  intro i k b he hil hk
  obtain ⟨k,rfl⟩:∃ m,k=m+1:=⟨k - 1,by omega⟩
  obtain rfl:i=x.length:=by omega
  simp only [spec_IsAcyclicComplex.l0]
  rw[if_neg (by omega)]
  simp
 |succ e ih=>
  intro i k b he hil hk
  obtain ⟨k,rfl⟩:∃ m,k=m+1:=⟨k - 1,by omega⟩
  have hlt:i<x.length:=by omega
  simp only [spec_IsAcyclicComplex.l0]
  rw[if_pos (by omega),rd_nat x i hlt,w64 ((i:Int)+1) (by omega) (by omega),nat_succ,List.drop_eq_getElem_cons hlt,List.all_cons]
  cases b with
  |true=>
   rw[if_pos rfl,if_pos (by omega),ih (i+1) k _ (by omega) (by omega) (by omega)]
   simp
  |false=>
   rw[if_neg (by simp),ih (i+1) k _ (by omega) (by omega) (by omega)]
   simp
theorem specIsAcyclicComplex_is (n:Int) (l:List Int) (p:Int) (hl:l.length≤2097152) (k:Nat) (hk:isK l+100≤k) :
  spec_IsAcyclicComplex.f k n l p=some ((if codeOf n l (decide (2≤p∧p≤3))=0 then acyB (bettiL l p) else false),codeOf n l (decide (2≤p∧p≤3))):=by
 obtain ⟨k,rfl⟩:∃ m,k=m+1:=⟨k - 1,by omega⟩
 unfold spec_IsAcyclicComplex.f
 rw[specCode_is n l p hl (k+1) (by omega)]
 simp only [Option.bind_some]
 by_cases h:codeOf n l (decide (2≤p∧p≤3))=0
 ·obtain ⟨h1,h2⟩:=code_mod h
  have hb:=betti_length l p
  rw[if_pos h,if_pos h,specBetti_is h1 p h2 (k+1) (by omega),h]
  simp only [Option.bind_some]
  generalize bettiL l p=x at hb
  cases x with
  |nil=>
   rw[if_neg (by simp)]
   simp only [spec_IsAcyclicComplex.j0]
   obtain ⟨k,rfl⟩:∃ m,k=m+1:=⟨k - 1,by omega⟩
   simp [spec_IsAcyclicComplex.l0,acyB]
  |cons y r=>
   rw[if_pos (by simp),if_pos (by simp)]
   simp only [spec_IsAcyclicComplex.j0]
   have:=specAcy_loop (y :: r) (by omega) ((y :: r).length - 1) 1 k (rd (y :: r) 0 == 1) rfl (by simp) (by simp at hb ⊢;omega)
   rw[show ((1:Nat):Int)=1 from rfl] at this
   rw[this]
   simp [rd,acyB]
 ·rw[if_neg h,if_neg h]
theorem specCountCycles_is (n:Int) (l:List Int) (d:Int) (hl:l.length≤2097152) (k:Nat) (hk:isK l+100≤k) :
  spec_CountCycles.f k n l d=some ((if codeOf n l (decide (0≤d∧d≤5))=0 then shl .i64 1 (((ofL l d).length:Int) - rankL l d 2) else 0),(if codeOf n l (decide (0≤d∧d≤5))=0 then shl .i64 1 (rankL l (d+1) 2) else 0),codeOf n l (decide (0≤d∧d≤5))):=by
 unfold spec_CountCycles.f
 rw[specIs_is n l hl k (by omega)]
 simp only [Option.bind_some]
 cases hi:isC n l with
 |false=>simp [codeOf,hi]
 |true=>
  have h63:=(isC_faces hi).2.2.2
  rw[if_pos rfl,specIn_is]
  simp only [Option.bind_some]
  by_cases hd:0≤d∧d≤5
  ·have h1:=rankL_range l d 2 (by omega)
   have h2:=betti_rng hi (d+1) 2 (by omega)
   have h3:=of_length l d
   rw[specOf_is n d (by omega) l h63 (isC_of hi) k (by omega),X_srank_is hi d 2 (by omega) (by omega),w64 (d+1) (by omega) (by omega),X_srank_is hi (d+1) 2 (by omega) (by omega)]
   simp only [Option.bind_some]
   rw[w64 (((ofL l d).length:Int) - rankL l d 2) (by omega) (by omega),u64_id _ (by omega) (by omega),u64_id _ (by omega) (by omega)]
   rw[if_pos (decide_eq_true hd),if_pos (by omega),if_pos (by omega)]
   simp [codeOf,hi,hd]
  ·simp [codeOf,hi,hd]
end Go.Proofs.YtbnnamejnjfkjaaGreat.K
end

section
namespace Go.Proofs.YtbnnamejnjfkjaaGreat.K
open Go.RowKit Go.Shelf Go.Proofs.YtbnnamejnjfkjaaGreatW.PrintWords Go.Proofs.YtbnnamejnjfkjaaGreatW.PrintLast Go.Proofs.YtbnnamejnjfkjaaGreatW.PrintMore
set_option linter.unusedVariables false
set_option linter.unusedSimpArgs false
theorem shl_pow (a b:Nat) (h:a+b≤62):shl .i64 ((2:Int) ^ a) (b:Int)=2 ^ (a+b):=by
 have e:((2:Int) ^ a)*2 ^ b=((2 ^ (a+b):Nat):Int):=by
  rw[Nat.pow_add]
  push_cast
  rfl
 have e2:((2 ^ (a+b):Nat):Int)=2 ^ (a+b):=by
  push_cast
  rfl
 have h2:2 ^ (a+b)≤2 ^ 62:=Nat.pow_le_pow_right (by omega) h
 have h3:(2:Nat) ^ 62=4611686018427387904:=by decide
 rw[h3] at h2
 rw[← e2]
 generalize 2 ^ (a+b)=m at e h2
 unfold shl
 rw[Nat.min_eq_left (show ((b:Int)).toNat≤IntKind.i64.bits by show ((b:Int)).toNat≤64;omega),Int.toNat_natCast,i64_w,e,w64 _ (by omega) (by omega)]
theorem shl_oneN (b:Nat) (h:b≤62):shl .i64 1 (b:Int)=2 ^ b:=by
 have:=shl_pow 0 b (by omega)
 rw[Nat.zero_add] at this
 exact this
theorem shl_two (a b:Nat) (h:a+b≤62):shl .i64 1 ((a+b:Nat):Int)=shl .i64 (shl .i64 1 (a:Int)) (b:Int):=by
 rw[shl_oneN _ h,shl_oneN a (by omega),shl_pow a b h]
theorem of_20:∀ d:Fin 6,(ofL (upTo 63) (d.val:Int)).length≤20:=by decide +kernel
theorem of_le {n:Int} {l:List Int} (hi:isC n l=true) (d:Nat) (hd:d≤5):(ofL l (d:Int)).length≤20:=by
 have hI:=isC_faces hi
 refine Nat.le_trans (nodup_le (ofL l (d:Int)) (ofL (upTo 63) (d:Int)) ((hI.2.1.imp (fun h=>Int.ne_of_lt h)).filter _) (fun x hx=>?_)) (of_20 ⟨d,by omega⟩)
 unfold ofL at hx ⊢
 have h:=List.mem_filter.1 hx
 have hr:=hI.2.2.1 x h.1
 exact List.mem_filter.2 ⟨(mem_upTo 63 x).2 ⟨hr.1,hr.2.2⟩,h.2⟩
theorem alt_acy (x:List Int) (h:acyB x=true):altTo x x.length=1:=by
 cases x with
 |nil=>cases h
 |cons y r=>
  simp only [acyB,Bool.and_eq_true,beq_iff_eq,List.all_eq_true] at h
  have:∀ d:Nat,altTo (y :: r) (d+1)=1:=by
   intro d
   induction d with
   |zero=>
    rw[altTo,altTo,List.getD_cons_zero,h.1]
    rfl
   |succ d ih=>
    rw[altTo,ih,List.getD_cons_succ]
    have e:r.getD d 0=0:=by
     rw[List.getD_eq_getElem?_getD]
     by_cases hd:d<r.length
     ·rw[List.getElem?_eq_getElem hd]
      exact h.2 _ (List.getElem_mem hd)
     ·rw[List.getElem?_eq_none (by omega)]
      rfl
    rw[e]
    omega
  exact this r.length
theorem betti_facts {n:Int} {l:List Int} {p:Int} (h:codeOf n l (decide (2≤p∧p≤3))=0) :
  isC n l=true∧altTo (bettiL l p) (bettiL l p).length=eulerI l∧(0<(bettiL l p).length→rd (bettiL l p) 0=((componentsL l).length:Int))∧(bettiL l p).length≤6 ∧
  (∀ j (h:j<(bettiL l p).length),0≤(bettiL l p)[j]∧(bettiL l p)[j]≤62) ∧
  (p=2→∀ j (h:j<(bettiL l p).length),((0:Int)≤(j:Int)∧(j:Int)≤5)∧shl .i64 1 (((ofL l (j:Int)).length:Int) - rankL l (j:Int) 2)=shl .i64 (shl .i64 1 (rankL l ((j:Int)+1) 2)) ((bettiL l p)[j])):=by
 obtain ⟨hi,hp⟩:=code_mod h
 have h6:=betti_length l p
 have hp0:=fun(j:Nat) (h:j<(bettiL l p).length)=>betti_pos hi p hp j h
 have hlen:=fun(j:Nat) (h:j<(bettiL l p).length)=>of_le hi j (by omega)
 refine⟨hi,betti_euler hi p,fun h0=>?_,h6,fun j hj=>?_,fun h2 j hj=>⟨by omega,?_⟩⟩
 ·have e:rd (bettiL l p) 0=(bettiL l p)[0]:=by
   simp [rd,h0]
  have h1:=(hp0 0 h0).1
  have h2:=rank_zero hi p
  have h3:=betti_zero hi p hp
  rw[e,h1]
  have e1:rankL l ((0:Nat):Int) p=0:=h2
  have e2:(ofL l ((0:Nat):Int)).length=(ofL l 0).length:=rfl
  have e3:rankL l (((0:Nat):Int)+1) p=rankL l 1 p:=rfl
  rw[e1,e2,e3]
  omega
 ·have h1:=hp0 j hj
  have h2:=hlen j hj
  have h3:=rankL_range l (j:Int) p hp
  have h4:=rankL_range l ((j:Int)+1) p hp
  omega
 ·subst h2
  have h1:=hp0 j hj
  have h2:=hlen j hj
  have h3:=rankL_range l (j:Int) 2 hp
  have h4:=rankL_range l ((j:Int)+1) 2 hp
  rw[h1.1]
  have h5:=h1.2.1
  rw[h1.1] at h5
  have:=shl_two (rankL l ((j:Int)+1) 2).toNat (((ofL l (j:Int)).length:Int) - (rankL l (j:Int) 2+rankL l ((j:Int)+1) 2)).toNat (by omega)
  rw[show (((rankL l ((j:Int)+1) 2).toNat+(((ofL l (j:Int)).length:Int) - (rankL l (j:Int) 2+rankL l ((j:Int)+1) 2)).toNat:Nat):Int)=((ofL l (j:Int)).length:Int) - rankL l (j:Int) 2 by omega,
   show (((rankL l ((j:Int)+1) 2).toNat:Nat):Int)=rankL l ((j:Int)+1) 2 by omega,
   show (((((ofL l (j:Int)).length:Int) - (rankL l (j:Int) 2+rankL l ((j:Int)+1) 2)).toNat:Nat):Int)=((ofL l (j:Int)).length:Int) - (rankL l (j:Int) 2+rankL l ((j:Int)+1) 2) by omega] at this
  exact this
theorem acy_facts {n:Int} {l:List Int} {p:Int} (h:codeOf n l (decide (2≤p∧p≤3))=0) (ha:acyB (bettiL l p)=true):isC n l=true∧eulerI l=1:=by
 have hf:=betti_facts h
 exact⟨hf.1,by rw[← hf.2.1];exact alt_acy _ ha⟩
end Go.Proofs.YtbnnamejnjfkjaaGreat.K
end

section
namespace Go.Proofs.YtbnnamejnjfkjaaGreat.X
open Go.RowKit Go.Shelf Go.Proofs.YtbnnamejnjfkjaaGreat.K Go.Proofs.YtbnnamejnjfkjaaGreat.Q Go.Proofs.YtbnnamejnjfkjaaGreatW.PrintWords Go.Proofs.YtbnnamejnjfkjaaGreatW.PrintLast Go.Proofs.YtbnnamejnjfkjaaGreatW.PrintMore
set_option linter.unusedVariables false
set_option linter.unusedSimpArgs false
theorem infoL:(Tryz.prog.info? 2).map (fun i=>(i.zero,i.size,i.bytes))=some (some (.int .i64 0),1,8):=by kernel_rfl
section
variable {ops : Array Oper} {o : Oper} {a : Act} {Q : Exit → Act → World → Prop}
theorem app_rows {Kc:Act→World→Prop} {W:World} (base:Nat) (hw:Region.wanted o (yielded ops a.tmps)=true) (s x:Operand)
  (ho:o.op = .call { callee:= .builtin .append,args:=#[s,x],argTypes:=#[24,24] })
  (v:Value) (xs ys:List Int) (A:Option Addr) (kx c:Nat) (hkx:kx=ys.length) (hs:a.eval s=v) (hx:a.eval x = .slice A kx c)
  (HO:Ki.R 2 W base (fun _=>True) v xs) (HR:Ki.C W A ys.length ys) (hbase:base≤W.heap.size) (hl:xs.length+ys.length≤1000000)
  (h:∀ v1 w1,Ki.R 2 w1 base (fun _=>True) v1 (xs ++ ys)→Below base W w1→Kc (a.put o.dst v1) w1) :
  if Region.wanted o (yielded ops a.tmps)=true then Oper.wp Tryz.prog o a W Kc Q else Kc (a.put o.dst undef) W:=by
 subst hkx
 exact Kd.R_append_rows_step Ki (w0:=W) base hw s x 24 2 (.int .i64 0) 8 ho Tryz.underlying24 infoL rfl (by decide) (by decide) v xs ys A ys.length c (fun _=>True) (fun _=>False) hs hx HO HR (fun _ _ hk=>hk) (fun _ hk=>hk.elim) (fun _ _=>trivial) (Below.refl _ _) hbase (by omega) (fun v1 w1 hR hB _ _=>h v1 w1 hR hB)
end
theorem C_one {w:World} {g:Nat} {x:Int} {t:TypeId} (h:w.heap[g]?=some (.cells #[I x] t (0,0))):Ki.C w (some ⟨g,0,none⟩) [x].length [x]:=by
 refine⟨rfl,by simp,fun _=>⟨⟨g,0,none⟩,rfl,fun j p hj=>?_⟩⟩
 have hj0:j=0:=by
  rcases Nat.eq_zero_or_pos j with h0|h0
  ·exact h0
  ·rw[List.getElem?_eq_none (by simp only [List.length_singleton];omega)] at hj
   cases hj
 subst hj0
 cases hj
 refine⟨[I x],rfl,rfl,fun i u hu=>?_⟩
 have hi0:i=0:=by
  rcases Nat.eq_zero_or_pos i with h0|h0
  ·exact h0
  ·rw[List.getElem?_eq_none (by simp only [List.length_singleton];omega)] at hu
   cases hu
 subst hi0
 cases hu
 exact blk_cell h 0
def ordN (s0:List Int):Nat→Int→List Int→Int→Int→Option (List Int×Int×Int)
 |0,_,xs,b,c=>some (xs,b,c)
 |d+1,i,xs,b,c=>(spec_l01Next.f s0 b c (i+1)).bind fun t=>if 0≤t.1∧t.1≤(xs.length:Int) then ordN s0 d (i+1) (xs.take t.1.toNat ++ [i] ++ xs.drop t.1.toNat) t.2.1 t.2.2 else none
def spec_l01DrawOrder.f (s0_0:List Int) (s0_1:Int) (s0_2:Int) (a1:Int):Option (List Int×Int×Int):=if 0≤a1∧a1≤64 then ordN s0_0 a1.toNat 0 [] s0_1 s0_2 else none
set_option maxRecDepth 100000 in
set_option maxHeartbeats 8000000 in
theorem spec_l01DrawOrder.calls (g:Nat) (s0_0:List Int) (s0_1:Int) (s0_2:Int) (a1:Int) (r1:List Int) (r2:Int) (r3:Int) (w0 w:World) (hI:IsS92 w0 w g s0_0 s0_1 s0_2) (hB:Below w0.heap.size w0 w) (h:spec_l01DrawOrder.f s0_0 s0_1 s0_2 a1=some (r1,r2,r3)) :
  Calls Tryz.prog 80 #[.pointer (some ⟨g,0,none⟩),.int .i64 a1] w fun e w'=>∃ v0_:Value,e = .returned v0_∧Kd.R (Kd.int .i64) 2 w' w.heap.size (fun _=>True) v0_ r1∧IsS92 w0 w' g s0_0 r2 r3∧Below w0.heap.size w0 w'∧KeepBut w w' g none:=by
 unfold spec_l01DrawOrder.f at h
 by_cases hr:0≤a1∧a1≤64
 rotate_left
 ·rw[if_neg hr] at h
  cases h
 rw[if_pos hr] at h
 obtain ⟨n,rfl⟩:∃ n:Nat,a1=n:=⟨a1.toNat,by omega⟩
 rw[Int.toNat_natCast] at h
 have hn:n≤64:=by omega
 have HI0:=Aside0.mk hI
 have HB0:=Aside0.mk hB
 have HR0:Aside0 (Ki.R 2 (w.alloc (.cells #[] 2)) w.heap.size (fun _=>True) (.slice (some ⟨w.heap.size,0,none⟩) 0 0) []):=⟨Kd.R_of_own (h1:=fun _=>rfl) (World.ownsRow_lit (base:=w.heap.size) (e:=2) (size:=1) w #[] 0 (Nat.le_refl _) (by decide) rfl) (fun _ _=>trivial)⟩
 have HH:=Aside0.mk h
 clear hI hB h hr
 go_enter Tryz.func80,Tryz.ntmps80
 go_wp2_with fail
 go_loopg [5,6,7] n (fun gg s5 s6 s7 wr=>∃(i d:Nat) (xs:List Int) (b c:Int),i+d=n∧d≤gg∧Aside0 (xs.length=i)∧s6 = .int .i64 i∧Aside0 (ordN s0_0 d i xs b c=some (r1,r2,r3))∧Aside0 (Ki.R 2 wr w.heap.size (fun _=>True) s5 xs)∧Aside0 (IsS92 w0 wr g s0_0 b c)∧Aside0 (KeepBut w wr g none)∧Aside0 (Below w0.heap.size w0 wr))
 case atStart=>
  refine⟨0,n,[],s0_1,s0_2,by omega,Nat.le_refl _,⟨rfl⟩,rfl,HH,?_,⟨IsS92.alloc HI0.out _⟩,⟨KeepBut.of_below (below_alloc (Below.refl _ _) _) g none⟩,⟨below_step HB0.out (below_alloc (Below.refl _ _) _)⟩⟩
  exact HR0
 case round=>
  obtain ⟨i,d,xs,b,c,hid,hdg,HXL,rfl,HA,HO,HI,HK,HB⟩:=hrel
  have hil:(i:Int)≤64:=by omega
  have hxs:xs.length≤64:=by have:=HXL.out;omega
  obtain ⟨A,ca,rfl⟩:=Kd.R_slice HO.out
  cases d with
  |zero=>
   have he:=HA.out
   simp only [ordN,Option.some.injEq,Prod.mk.injEq] at he
   obtain ⟨rfl,rfl,rfl⟩:=he
   have hge:¬ ((i:Int)<(n:Int)):=by omega
   go_wp2_with fail
   go_ret
   exact⟨_,rfl,HO.out,HI.out,HB.out,HK.out⟩
  |succ d=>
   have hlt:(i:Int)<(n:Int):=by omega
   have ha:=HA.out
   simp only [ordN] at ha
   cases hnx:spec_l01Next.f s0_0 b c ((i:Int)+1) with
   |none=>rw[hnx] at ha;cases ha
   |some t=>
    obtain ⟨x,b2,c2⟩:=t
    rw[hnx] at ha
    simp only [Option.bind_some] at ha
    by_cases hx:0≤x∧x≤(xs.length:Int)
    rotate_left
    ·rw[if_neg hx] at ha
     cases ha
    rw[if_pos hx] at ha
    obtain ⟨m,rfl⟩:∃ m:Nat,x=m:=⟨x.toNat,by omega⟩
    rw[Int.toNat_natCast] at ha
    have HA2:=Aside0.mk ha
    have hw1:IntKind.wrap .i64 ((i:Int)+1)=(i:Int)+1:=by rw[IntKind.wrap_i64];omega
    have HN:=Aside0.mk (spec_l01Next.calls g s0_0 b c ((i:Int)+1) m b2 c2 w0 wr HI.out HB.out hnx)
    have hml:m≤xs.length:=by omega
    clear ha hnx
    go_wp2_with fail
    refine HN.out.mono ?_
    rintro e w3 ⟨rfl,hI3,hB3,hk3⟩
    have HO3:Aside0 (Ki.R 2 w3 w.heap.size (fun _=>True) (.slice A xs.length ca) xs):=⟨Kd.R_mono (Kd.R_keep (IsS92.apart HI.out HO.out (by decide)) hk3 (fun _ h=>h.2)) (fun _ h=>h.1)⟩
    have HI3:=Aside0.mk hI3
    have HB3:=Aside0.mk hB3
    have HK3:=Aside0.mk (KeepBut.trans HK.out hk3 (.inl rfl))
    clear hI3 hB3 hk3 HA HN
    obtain ⟨Aq,cq,heq,hqc,hqr⟩:=Kd.R_reads HO3.out
    simp only [Value.slice.injEq,true_and] at heq
    obtain ⟨rfl,rfl⟩:=heq
    have HC3:=Aside0.mk hqr
    have hcm:(m:Int)≤(ca:Int):=by omega
    have htk:(xs.take m).length=m:=by rw[List.length_take];omega
    have hdp:(xs.drop m).length=xs.length - m:=List.length_drop
    have HOWN:Aside0 (∀ W,Grew w3 W→Calls Tryz.prog 123 #[.slice A m ca] W fun e w'=>∃ v,e = .returned v∧Ki.R 2 w' W.heap.size (fun _=>True) v (xs.take m)∧Grew W w'):=⟨fun W hW=>by
     have hC:=Kd.C_take (Kd.C_below HC3.out hW) hml
     have:=spec_l01Own.calls A ca (xs.take m) (xs.take m) W hC (by omega) (by unfold spec_l01Own.f;simp;omega)
     rw[htk] at this
     exact this⟩
    have HC7:Aside0 (Ki.C w3 (if ca=m then A else A.map (fun x=>x.add m)) (xs.drop m).length (xs.drop m)):=⟨by have:=Kd.C_drop HC3.out hml hqc;rw[show m*Ki.sz=m from Nat.mul_one m] at this;exact this⟩
    have hl7:(xs.drop m).length≤64:=by omega
    obtain ⟨ys,hys⟩:∃ ys,ys=xs.drop m:=⟨_,rfl⟩
    obtain ⟨zs,hzs⟩:∃ zs,zs=xs.take m:=⟨_,rfl⟩
    have hzl:zs.length≤64:=by rw[hzs,htk];omega
    have hzz:zs.length=m:=by rw[hzs,htk]
    rw[← hys] at HC7 hl7 HA2 hdp
    rw[← hzs] at HOWN HA2
    have HZ0:=Aside0.mk hzl
    have HZ1:=Aside0.mk hzz
    have HY0:=Aside0.mk hl7
    have HY1:=Aside0.mk hdp
    have HIL:=Aside0.mk hil
    clear hqr hqc hys hzs htk hzl hzz hl7 hdp hil
    go_wp2_with fail
    refine start_ (n:=12) (S:=fun w'=>True) (ds:= []) #[false,false,false,false,false,false,false,false,false,false,false,false] (by kernel_rfl) rfl rfl trivial (fun hHeld=>?_)
    refine pure_ (i:=0) (N:=some 18) (v:=?_) (a':=?_) #[true,false,false,false,false,false,false,false,false,false,false,false] rfl rfl (by kernel_rfl) (fun _ _ _ h=>h) (Or.inl ⟨by rfl,?_⟩) ?_ ?_
    rotate_left;· intro w';go_simp;with_reducible rfl
    rotate_left;· simp only [Act.put,List.setIfInBounds_toArray,List.set_cons_zero,List.set_cons_succ,i64_w,i32_w];rfl
    refine pure_ (i:=1) (N:=some 19) (v:=?_) (a':=?_) #[true,true,false,false,false,false,false,false,false,false,false,false] rfl rfl (by kernel_rfl) (fun _ _ _ h=>h) (Or.inl ⟨by rfl,?_⟩) ?_ ?_
    rotate_left;· intro w';go_simp;with_reducible rfl
    rotate_left;· simp only [Act.put,List.setIfInBounds_toArray,List.set_cons_zero,List.set_cons_succ,i64_w,i32_w];rfl
    refine pure_ (i:=2) (N:=some 20) (v:=?_) (a':=?_) #[true,true,true,false,false,false,false,false,false,false,false,false] rfl rfl (by kernel_rfl) (fun _ _ _ h=>h) (Or.inl ⟨by rfl,?_⟩) ?_ ?_
    rotate_left;· intro w';go_simp;with_reducible rfl
    rotate_left;· simp only [Act.put,List.setIfInBounds_toArray,List.set_cons_zero,List.set_cons_succ,i64_w,i32_w];rfl
    refine pure_ (i:=4) (N:=some 22) (v:=?_) (a':=?_) #[true,true,true,false,true,false,false,false,false,false,false,false] rfl rfl (by kernel_rfl) (fun _ _ _ h=>h) (Or.inl ⟨by rfl,?_⟩) ?_ ?_
    rotate_left;· intro w';go_simp;with_reducible rfl
    rotate_left;· simp only [Act.put,List.setIfInBounds_toArray,List.set_cons_zero,List.set_cons_succ,i64_w,i32_w];rfl
    refine pure_ (i:=7) (N:=some 25) (v:=?_) (a':=?_) #[true,true,true,false,true,false,false,true,false,false,false,false] rfl rfl (by kernel_rfl) (fun _ _ _ h=>h) (Or.inl ⟨by rfl,?_⟩) ?_ ?_
    rotate_left;· intro w';go_simp;with_reducible rfl
    rotate_left;· simp only [Act.put,List.setIfInBounds_toArray,List.set_cons_zero,List.set_cons_succ,i64_w,i32_w];rfl
    refine pure_ (i:=8) (N:=some 26) (v:=?_) (a':=?_) #[true,true,true,false,true,false,false,true,true,false,false,false] rfl rfl (by kernel_rfl) (fun _ _ _ h=>h) (Or.inl ⟨by rfl,?_⟩) ?_ ?_
    rotate_left;· intro w';go_simp;with_reducible rfl
    rotate_left;· simp only [Act.put,List.setIfInBounds_toArray,List.set_cons_zero,List.set_cons_succ,i64_w,i32_w];rfl
    refine pure_ (i:=9) (N:=some 27) (v:=?_) (a':=?_) #[true,true,true,false,true,false,false,true,true,true,false,false] rfl rfl (by kernel_rfl) (fun _ _ _ h=>h) (Or.inl ⟨by rfl,?_⟩) ?_ ?_
    rotate_left;· intro w';go_simp;with_reducible rfl
    rotate_left;· simp only [Act.put,List.setIfInBounds_toArray,List.set_cons_zero,List.set_cons_succ,i64_w,i32_w];rfl
    refine join_ (σ:=Value×Nat) 3 #[true,true,true,true,true,true,false,true,true,true,false,false] (fun s=> [(21,s.1),(23,.slice (some ⟨s.2,0,none⟩) 1 1)]) (fun s w'=>Ki.R 2 w' w3.heap.size (fun k=>k≠s.2) s.1 zs∧w'.heap[s.2]?=some (.cells #[I (i:Int)] 2 (0,0))∧Grew w3 w') ?_ ?_
    rotate_left
    ·intro hCont
     refine two_ (i:=3) (j:=5) (Ni:=some 21) (Nj:=some 23) #[true,true,true,true,true,false,false,true,true,true,false,false] #[true,true,true,false,true,true,false,true,true,true,false,false] rfl rfl rfl rfl (by kernel_rfl) (by decide) (by decide) (fun K hK=>?_) (fun K hK=>?_)
     ·skip
      refine goes_ Tryz.func123 (by kernel_rfl) rfl #[.slice A m ca] (by rfl) rfl rfl (by simp only [List.map_toArray,List.map_cons,List.map_nil];rfl) ?_
      with_reducible refine(HOWN.out _ (below_drew (Grew.refl w3))).mono ?_
      rintro e w4 ⟨v4,rfl,hR4,hG4⟩
      refine⟨_,rfl,?_⟩
      have HR4:Aside0 (Ki.R 2 w4 w3.heap.size (fun k=>k≠w4.heap.size) v4 zs):=⟨Kd.R_mono (Kd.R_bound hR4) (fun k hk=>by have:=hk.2.2.1;omega)⟩
      have HL:=Aside0.mk (Grew.trans (below_drew (Grew.refl w3)) hG4)
      clear hR4 hG4
      refine hK.out _ _ trivial (fun hHeld=>?_)
      clear hK K
      refine norm_ (a':=?_) ?_ ?_
      rotate_left
      ·show Act.put _ (some 21) _=_
       simp only [Act.put,List.setIfInBounds_toArray,List.set_cons_zero,List.set_cons_succ,i64_w,i32_w]
       rfl
      refine one_ (i:=5) (N:=some 23) #[true,true,true,true,true,true,false,true,true,true,false,false] rfl rfl (by kernel_rfl) (by decide) (fun K hK=>?_)
      refine value_ (w1:=?_) (v:=?_) (by rfl) rfl ?_ ?_
      rotate_left 2
      ·go_simp
       constructor
       ·rfl
       ·rfl
      obtain ⟨w5,hw5⟩:∃ w5,w5=w4.alloc (.cells #[I (i:Int)] 2):=⟨_,rfl⟩
      have HBV:Aside0 (w5.heap[w4.heap.size]?=some (.cells #[I (i:Int)] 2 (0,0))):=⟨by rw[hw5];exact blk_new _ _⟩
      have HL0:=HL
      replace HL:Aside0 (Grew w3 w5):=⟨by rw[hw5];exact below_alloc HL0.out _⟩
      replace HR4:Aside0 (Ki.R 2 w5 w3.heap.size (fun k=>k≠w4.heap.size) v4 zs):=⟨by rw[hw5];exact Kd.R_alloc HR4.out _⟩
      rw[← hw5]
      clear hw5
      refine hK.out _ _ trivial (fun hHeld=>?_)
      clear hK K
      refine norm_ (a':=?_) ?_ ?_
      rotate_left
      ·show Act.put _ (some 23) _=_
       simp only [Act.put,List.setIfInBounds_toArray,List.set_cons_zero,List.set_cons_succ,i64_w,i32_w]
       rfl
      exact norm_ (by first|(simp only [putAll,Act.put,List.setIfInBounds_toArray,List.set_cons_zero,List.set_cons_succ];done)|rfl) (hCont (v4,w4.heap.size) _ ⟨HR4.out,HBV.out,HL.out⟩)
     ·skip
      refine value_ (w1:=?_) (v:=?_) (by rfl) rfl ?_ ?_
      rotate_left 2
      ·go_simp
       constructor
       ·rfl
       ·rfl
      obtain ⟨w5,hw5⟩:∃ w5,w5=(w3.alloc (.cells #[I (i:Int)] 2)).drew:=⟨_,rfl⟩
      have HBV:Aside0 (w5.heap[w3.heap.size]?=some (.cells #[I (i:Int)] 2 (0,0))):=⟨by rw[hw5];exact blk_new _ _⟩
      have HL:Aside0 (Grew w3 w5):=⟨by rw[hw5];exact below_drew (below_alloc (Grew.refl w3) _)⟩
      have HZ:Aside0 (w3.heap.size<w5.heap.size):=⟨by rw[hw5];show w3.heap.size<(w3.alloc _).heap.size;rw[World.size_alloc];omega⟩
      rw[← hw5]
      clear hw5
      refine hK.out _ _ trivial (fun hHeld=>?_)
      clear hK K
      refine norm_ (a':=?_) ?_ ?_
      rotate_left
      ·show Act.put _ (some 23) _=_
       simp only [Act.put,List.setIfInBounds_toArray,List.set_cons_zero,List.set_cons_succ,i64_w,i32_w]
       rfl
      refine one_ (i:=3) (N:=some 21) #[true,true,true,true,true,true,false,true,true,true,false,false] rfl rfl (by kernel_rfl) (by decide) (fun K hK=>?_)
      refine goes_ Tryz.func123 (by kernel_rfl) rfl #[.slice A m ca] (by rfl) rfl rfl (by simp only [List.map_toArray,List.map_cons,List.map_nil];rfl) ?_
      with_reducible refine(HOWN.out _ HL.out).mono ?_
      rintro e w4 ⟨v4,rfl,hR4,hG4⟩
      refine⟨_,rfl,?_⟩
      have HBV:=Aside0.mk (blk_below HBV.out hG4)
      have HR4:Aside0 (Ki.R 2 w4 w3.heap.size (fun k=>k≠w3.heap.size) v4 zs):=⟨Kd.R_lower (Kd.R_mono (Kd.R_bound hR4) (fun k hk=>by have:=hk.2.1;have:=HZ.out;omega)) HL.out.size⟩
      replace HL:=Aside0.mk (Grew.trans HL.out hG4)
      clear hR4 hG4
      refine hK.out _ _ trivial (fun hHeld=>?_)
      clear hK K
      refine norm_ (a':=?_) ?_ ?_
      rotate_left
      ·show Act.put _ (some 21) _=_
       simp only [Act.put,List.setIfInBounds_toArray,List.set_cons_zero,List.set_cons_succ,i64_w,i32_w]
       rfl
      exact norm_ (by first|(simp only [putAll,Act.put,List.setIfInBounds_toArray,List.set_cons_zero,List.set_cons_succ];done)|rfl) (hCont (v4,w3.heap.size) _ ⟨HR4.out,HBV.out,HL.out⟩)
    rintro ⟨v6,g6⟩ w6 ⟨hR6,hv6,hG6⟩
    have HL:=Aside0.mk hG6
    have HR6:Aside0 (Ki.R 2 w6 w3.heap.size (fun _=>True) v6 zs):=⟨Kd.R_mono hR6 (fun _ _=>trivial)⟩
    have HV6:=Aside0.mk (C_one hv6)
    clear hR6 hv6 hG6
    have hHeld:True:=trivial
    refine norm_ (a':=?_) ?_ ?_
    rotate_left;· simp only [putAll,Act.put,List.setIfInBounds_toArray,List.set_cons_zero,List.set_cons_succ];rfl
    refine one_ (i:=6) (N:=some 24) #[true,true,true,true,true,true,true,true,true,true,false,false] rfl rfl (by kernel_rfl) (by decide) (fun K hK=>?_)
    refine app_rows w3.heap.size (by rfl) (.tmp 21) (.tmp 23) (by rfl) v6 zs [(i:Int)] (some ⟨g6,0,none⟩) 1 1 rfl (by rfl) (by rfl) HR6.out HV6.out HL.out.size (by have:=HZ0.out;simp;omega) ?_
    intro v8 w8 hR8 hB8
    have HR8:=Aside0.mk hR8
    have HL8:Aside0 (Grew w3 w8):=⟨Below.trans HL.out hB8⟩
    clear hR8 hB8
    refine hK.out _ _ trivial (fun hHeld=>?_)
    clear hK K
    refine norm_ (a':=?_) ?_ ?_
    rotate_left
    ·show Act.put _ (some 24) _=_
     simp only [Act.put,List.setIfInBounds_toArray,List.set_cons_zero,List.set_cons_succ,i64_w,i32_w]
     rfl
    refine one_ (i:=10) (N:=some 28) #[true,true,true,true,true,true,true,true,true,true,true,false] rfl rfl (by kernel_rfl) (by decide) (fun K hK=>?_)
    refine app_rows w3.heap.size (by rfl) (.tmp 24) (.tmp 27) (by rfl) v8 (zs ++ [(i:Int)]) ys _ (xs.length - m) (ca - m) HY1.out.symm (by rfl) (by rfl) HR8.out (Kd.C_below HC7.out HL8.out) HL8.out.size (by have:=HZ0.out;have:=HY0.out;simp;omega) ?_
    intro v9 w9 hR9 hB9
    have HR9:=Aside0.mk hR9
    have HL9:Aside0 (Grew w3 w9):=⟨Below.trans HL8.out hB9⟩
    clear hR9 hB9
    refine hK.out _ _ trivial (fun hHeld=>?_)
    clear hK K
    refine norm_ (a':=?_) ?_ ?_
    rotate_left
    ·show Act.put _ (some 28) _=_
     simp only [Act.put,List.setIfInBounds_toArray,List.set_cons_zero,List.set_cons_succ,i64_w,i32_w]
     rfl
    refine pure_ (i:=11) (N:=some 5) (v:=?_) (a':=?_) #[true,true,true,true,true,true,true,true,true,true,true,true] rfl rfl (by kernel_rfl) (fun _ _ _ h=>h) (Or.inl ⟨by rfl,?_⟩) ?_ ?_
    rotate_left;· intro w';go_simp;with_reducible rfl
    rotate_left;· simp only [Act.put,List.setIfInBounds_toArray,List.set_cons_zero,List.set_cons_succ,i64_w,i32_w];rfl
    refine done_ (by kernel_rfl) ?_
    have hyl:xs.length+1=(zs ++ [(i:Int)] ++ ys).length:=by
     have:=HZ1.out
     have:=HY1.out
     simp only [List.length_append,List.length_cons,List.length_nil]
     omega
    have HE:=Aside0.mk hyl
    clear hyl
    go_wp2_with fail
    all_goals (
     go_roundg d
     case measure=>omega
     case rel=>
      refine⟨i+1,d,zs ++ [(i:Int)] ++ ys,b2,c2,by omega,Nat.le_refl _,⟨by have:=HE.out;have:=HXL.out;omega⟩,by push_cast;rfl,?_,⟨Kd.R_lower HR9.out (by have:=HK3.out.1;omega)⟩,⟨IsS92.below HI3.out HL9.out⟩,⟨KeepBut.trans HK3.out (KeepBut.of_below HL9.out g none) (.inl rfl)⟩,⟨below_step HB3.out HL9.out⟩⟩
      exact HA2)
end Go.Proofs.YtbnnamejnjfkjaaGreat.X
end
