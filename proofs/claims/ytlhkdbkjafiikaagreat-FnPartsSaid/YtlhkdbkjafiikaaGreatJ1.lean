/- Texts of this work, put together by its pack.py. No conditions. -/
import Derived.Test.YtlhkdbkjafiikaaGreatJ0
import Derived.JoinedOf
import Derived.Below
import Derived.Deep.Draws
import Derived.Deep.AppendLies
import Derived.Maps.AppendAt
import Derived.OwnWalk
import Derived.Laws.BytesArg
import Derived.Laws.MakeOwn
import Derived.Laws.OwnMore
import Derived.Deep.OwnRows
import Derived.Tactics
import Derived.Lib.ConvBytes
import Derived.Laws.Slices
import Derived.WalkKit
import Derived.KernelRfl
import Derived.RowKit3
import Derived.Deep.LoopGhost
import Derived.Deep.QuietTactic
import Derived.BigQuiet
import Derived.WideLaws
import Derived.Deep.DeepCutAuto
import Derived.Deep.CutBlock
import Derived.Deep.RegionHeld3
import Derived.Laws.Rows
import Derived.Lib.AppendStr
import Derived.ArgAppend
import Derived.Laws.IdiomCopy
import Derived.RowKit
import Derived.OrdersHeld
import Derived.Laws.BitsLemmas
import Derived.Test.YtlhkdbkjafiikaaGreatProg
import Derived.Shelf.Abstract
import Derived.Test.YtlhkdbkjafiikaaGreatRows
import Derived.ProofKit
import Derived.OpenShut
import Derived.ShutString
import Derived.ChangeOld
import Derived.SizedLaws
import Derived.Lib.SmallJoins
import Derived.Laws.StructEq
import Derived.RangeFuncBox
import Derived.RangeFuncLeaves
import Derived.OwnWalkIn
import Derived.TacticsInMore
import Derived.LoopNIn
import Derived.LoopIn
import Derived.Deep.CutRange
section
namespace Go.Proofs.YtlhkdbkjafiikaaGreat.K
open Go
theorem signs_take (n:Nat) (l:List Char) (h:(l.take n).all (fun c=>!(c == Char.ofNat 32))=true) (h2:l[n]?=some (Char.ofNat 32)):wordsSigns l=l.take n :: wordsSigns (l.drop (n+1)):=by
 induction n generalizing l with
 |zero=>cases l with
  |nil=>simp at h2
  |cons c r=>
   obtain rfl:c=Char.ofNat 32:=by simpa using h2
   simp [wordsSigns]
 |succ n ih=>cases l with
  |nil=>simp at h2
  |cons c r=>
   have hc:c≠Char.ofNat 32:=by simp at h;exact h.1
   have h3:wordsSigns r=r.take n :: wordsSigns (r.drop (n+1)):=ih r (by simp at h ⊢;exact h.2) (by simpa using h2)
   rw[wordsSigns.eq_def]
   split
   ·rename_i h;cases h
   ·rename_i h;exact absurd (List.cons.inj h).1 hc
   ·rename_i _ h;obtain ⟨rfl,rfl⟩:=List.cons.inj h
    rw[h3];rfl
theorem strip (r):stripLifts liftWords ("cut".toList :: r)=([], "cut".toList :: r):=by kernel_rfl
theorem cut_enter (P:Program) (r) (h:behindMainWord (wordsSigns P.initOrder.toList) = "cut".toList :: r) (h1:P.laysLater=false) (h2:P.bearsReflect=false) (h3:P.doorFits []=true):P.mayEnter=true:=by
 unfold Program.mayEnter
 rw[h]
 simp only [strip,h1,h2,h3]
 kernel_rfl
theorem cut_make (P:Program) (r) (h:behindMainWord (wordsSigns P.initOrder.toList) = "cut".toList :: r):P.make=some .cut:=by
 unfold Program.make
 rw[h]
 kernel_rfl
theorem cut_lifts (P:Program) (r) (h:behindMainWord (wordsSigns P.initOrder.toList) = "cut".toList :: r):P.liftsFinal=false:=by
 unfold Program.liftsFinal Program.headLifts
 simp only [h,strip]
 kernel_rfl
end Go.Proofs.YtlhkdbkjafiikaaGreat.K
end

section
namespace Go.Proofs.YtlhkdbkjafiikaaGreat.K
open Go.RowKit Go.Shelf Go.Proofs.YtlhkdbkjafiikaaGreatW.PrintWords Go.Proofs.YtlhkdbkjafiikaaGreatW.PrintLast Go.Proofs.YtlhkdbkjafiikaaGreatW.PrintMore
abbrev I (x:Int):Value:= .int .i64 x
abbrev Ki:Kd Int:=Kd.int .i64
abbrev Grew (w w':World):Prop:=Below w.heap.size w w'
theorem Grew.trans {a b c:World} (h:Grew a b) (k:Grew b c):Grew a c:=Below.trans h (k.mono h.size)
theorem Grew.refl (a:World):Grew a a:=Below.refl _ _
abbrev EntersG (g:Nat):Prop:=∀(args:Array Value) (W:World),(callFunc g args).run Tryz.prog W = .ok (.enter g args) W
def Answers (w:World) (g:Nat) (args:Array Value) (r:Value):Prop:=
 ∀ W,Grew w W→Calls Tryz.prog g args W fun e w'=>e = .returned r∧Grew W w'
theorem Answers.later {w w1:World} {g:Nat} {args:Array Value} {r:Value} (h:Answers w g args r) (hb:Grew w w1):Answers w1 g args r:=
 fun W hW=>h W (hb.trans hW)
end Go.Proofs.YtlhkdbkjafiikaaGreat.K
end

section
namespace Go.Proofs.YtlhkdbkjafiikaaGreat.K
open Go.RowKit Go.Shelf Go.Proofs.YtlhkdbkjafiikaaGreatW.PrintWords Go.Proofs.YtlhkdbkjafiikaaGreatW.PrintLast Go.Proofs.YtlhkdbkjafiikaaGreatW.PrintMore
open Go.ChangeShapes Go.WideShapes Go.ChangeAt Go.Joins
set_option linter.unusedVariables false
set_option linter.unusedSimpArgs false
theorem laidOut:laidOutB Tryz.prog=true:=by kernel_rfl
theorem ownKnob_none:ownKnob Tryz.prog.godebug=none:=by kernel_rfl
end Go.Proofs.YtlhkdbkjafiikaaGreat.K
end

section
namespace Go.Proofs.YtlhkdbkjafiikaaGreat.K
open Go.RowKit Go.Shelf Go.Proofs.YtlhkdbkjafiikaaGreatW.PrintWords Go.Proofs.YtlhkdbkjafiikaaGreatW.PrintLast Go.Proofs.YtlhkdbkjafiikaaGreatW.PrintMore
open Go.ChangeShapes Go.WideShapes Go.ChangeAt Go.Joins
set_option linter.unusedVariables false
set_option linter.unusedSimpArgs false
theorem bytes_open {H:Type} {enc:TypeId×Value→H} {W:World} {fuel:Nat} {v:Value} {x:DataW H×List MemPlace} (h:DataW.trod enc Tryz.prog W 0 (fun _=>true) true fuel 22 [v]=some x) :
  ∃ A c l,v = .slice A l.length c∧l.length≤c∧Kd.C (Kd.int .u8) W A l.length l∧∀ n ∈ l,(Lit.int .u8 n).wf=true:=by
 rcases open_ints Tryz.underlying22 Tryz.underlying5 (by kernel_rfl) h with ⟨hcs,_⟩|⟨a,len,cap,zs,hcs,_,hl,hm,hz,_,hcell,hwz⟩
 ·simp at hcs
  subst hcs
  exact⟨none,0,[],rfl,by simp,Kd.C_nil _ _,by simp⟩
 ·simp at hcs hz
  subst hcs
  unfold maxLen at hm
  have hlen:(zs.take len).length=len:=by simp;omega
  refine⟨some a,cap,zs.take len,by rw[hlen],by rw[hlen];exact hl,?_,fun n hn=>hwz n (List.mem_of_mem_take hn)⟩
  refine Kd.C_of_reads (d:=(0:Int)) ⟨rfl,by rw[hlen];omega,fun h0=>⟨a,rfl,fun j hj=>?_⟩⟩
  rw[hlen] at hj
  rw[hcell j (by omega)]
  simp [hj]
end Go.Proofs.YtlhkdbkjafiikaaGreat.K
end

section
namespace Go.Proofs.YtlhkdbkjafiikaaGreatW.PrintMore
open Go.RowKit Go.Proofs.YtlhkdbkjafiikaaGreatW.PrintWords Go.Proofs.YtlhkdbkjafiikaaGreatW.PrintLast
set_option linter.unusedVariables false
abbrev U:Bool:=true
abbrev O:Bool:=false
abbrev ar (k n:Nat):Array Bool:=(List.replicate k true ++ List.replicate n false).toArray
theorem hh_ {A B C:Type} {p:A→B→C→Prop}:∀ a b c,p a b c→p a b c:=fun _ _ _ h=>h
theorem nm_:(∀(a:Act) (d:Tmp) (v:Value),a.put (some d) v={ a with tmps:=a.tmps.setIfInBounds d v })∧(∀(a:Act) (v:Value),a.put none v=a)∧(∀(l:List Value) (i:Nat) (v:Value),l.toArray.setIfInBounds i v=(l.set i v).toArray)∧(∀(x v:Value) (l:List Value),(x :: l).set 0 v=v :: l)∧(∀(x v:Value) (l:List Value) (i:Nat),(x :: l).set (i+1) v=x :: l.set i v)∧(∀ n:Int,IntKind.i64.wrap n=wrap64 n)∧(∀ n:Int,IntKind.i32.wrap n=wrap32 n):=
⟨fun _ _ _=>rfl,fun _ _=>rfl,fun l i v=>by simp,fun _ _ _=>rfl,fun _ _ _ _=>rfl,i64_w,i32_w⟩
theorem bk {a b:World} {g:Nat} {o:Obj} (h:a.heap[g]?=some o) (k:a.heap[g]?=some o→b.heap[g]?=some o:=by intro h_;(with_reducible repeat(first|refine blk_drewN ?_ _|refine blk_drew ?_|refine blk_alloc ?_ _));exact h_):b.heap[g]?=some o:=k h
theorem bl {B:Nat} {w a b:World} (h:Below B w a) (k:Below B w a→Below B w b:=by intro h_;repeat(first|(with_reducible first|exact h_|apply below_alloc|apply pw_below_drewN|apply below_drew1|refine below_set ?_ (Aside0.out (by assumption)))|exact h_)):Below B w b:=k h
theorem blg {B C:Nat} {w a b:World} (h:Below B w a) (hg:B≤C) (k:Below B w a→B≤C→Below B w b:=by intro h_ hg_;repeat(first|(with_reducible first|exact h_|apply below_alloc|apply pw_below_drewN|apply below_drew1|refine below_set ?_ hg_|refine below_set ?_ (Aside0.out (by assumption)))|exact h_)):Below B w b:=k h hg
theorem kr {α:Type} {d:Kd α} {e base:Nat} {ok:Nat→Prop} {a b:World} {v:Value} {xs:List α} (h:d.R e a base ok v xs) (k:d.R e a base ok v xs→d.R e b base ok v xs:=by intro h_;(with_reducible repeat(first|apply Kd.R_alloc|apply Kd.R_drewN|apply Kd.R_drew));exact h_):d.R e b base ok v xs:=k h
theorem cb {α:Type} {d:Kd α} {a b:World} {A:Option Addr} {n:Nat} {xs:List α} (h:d.C a A n xs) (k:d.C a A n xs→d.C b A n xs:=by intro h_;repeat(first|exact h_|(with_reducible refine Kd.C_alloc ?_ _)|(with_reducible refine Kd.C_drewN ?_ _)|(with_reducible refine Kd.C_drew ?_))):d.C b A n xs:=k h
theorem kp {w a b:World} {g:Nat} {r:Option Nat} (h:KeepBut w a g r) (k:KeepBut w a g r→KeepBut w b g r:=by intro h_;repeat(first|(with_reducible first|exact h_|apply KeepBut.set_|apply keep_drewN|apply keep_drew|apply keep_alloc|refine keep_far ?_ (Aside0.out (by assumption)) _)|exact h_)):KeepBut w b g r:=k h
theorem bkA {a b c:World} {g:Nat} {o:Obj} (h:Aside0 (a.heap[g]?=some o)) (hb:Below b.heap.size b c) (k:a.heap[g]?=some o→b.heap[g]?=some o:=by intro h_;(with_reducible repeat(first|refine blk_drewN ?_ _|refine blk_drew ?_|refine blk_alloc ?_ _));exact h_):Aside0 (c.heap[g]?=some o):=⟨blk_below (k h.out) hb⟩
theorem bsA {w a b c:World} (h:Aside0 (Below w.heap.size w a)) (hb:Below b.heap.size b c) (k:Below w.heap.size w a→Below w.heap.size w b:=by intro h_;repeat(first|(with_reducible first|exact h_|apply below_alloc|apply pw_below_drewN|apply below_drew1|refine below_set ?_ (Aside0.out (by assumption)))|exact h_)):Aside0 (Below w.heap.size w c):=⟨below_step (k h.out) hb⟩
theorem gzA {w a b:World} {g:Nat} (hg:g=b.heap.size) (h:Aside0 (Below w.heap.size w a)) (k:Below w.heap.size w a→Below w.heap.size w b:=by intro h_;repeat(first|(with_reducible first|exact h_|apply below_alloc|apply pw_below_drewN|apply below_drew1|refine below_set ?_ (Aside0.out (by assumption)))|exact h_)):Aside0 (w.heap.size≤g):=⟨hg ▸ below_size (k h.out)⟩
theorem nlA {a b:World} {g g':Nat} {o:Obj} (hg:g'=b.heap.size) (h:Aside0 (a.heap[g]?=some o)) (k:a.heap[g]?=some o→b.heap[g]?=some o:=by intro h_;(with_reducible repeat(first|refine blk_drewN ?_ _|refine blk_drew ?_|refine blk_alloc ?_ _));exact h_):Aside0 (g≠g'):=⟨hg ▸ Nat.ne_of_lt (blk_lt (k h.out))⟩
theorem ngA {a b:World} {g g':Nat} {o:Obj} (hg:g'=b.heap.size) (h:Aside0 (a.heap[g]?=some o)) (k:a.heap[g]?=some o→b.heap[g]?=some o:=by intro h_;(with_reducible repeat(first|refine blk_drewN ?_ _|refine blk_drew ?_|refine blk_alloc ?_ _));exact h_):Aside0 (g'≠g):=⟨hg ▸ Nat.ne_of_gt (blk_lt (k h.out))⟩
theorem krA {α:Type} {d:Kd α} {e base:Nat} {ok:Nat→Prop} {a b c:World} {v:Value} {xs:List α} (h:Aside0 (d.R e a base ok v xs)) (hb:Below b.heap.size b c) (k:d.R e a base ok v xs→d.R e b base ok v xs:=by intro h_;(with_reducible repeat(first|apply Kd.R_alloc|apply Kd.R_drewN|apply Kd.R_drew));exact h_):Aside0 (d.R e c base ok v xs):=⟨Kd.R_below (k h.out) hb⟩
theorem klA {α:Type} {d:Kd α} {e:Nat} {ok:Nat→Prop} {w a b c:World} {v:Value} {xs:List α} (ho:d.R e c b.heap.size ok v xs) (h:Aside0 (Below w.heap.size w a)) (k:Below w.heap.size w a→Below w.heap.size w b:=by intro h_;repeat(first|(with_reducible first|exact h_|apply below_alloc|apply pw_below_drewN|apply below_drew1|refine below_set ?_ (Aside0.out (by assumption)))|exact h_)):Aside0 (d.R e c w.heap.size ok v xs):=⟨Kd.R_lower ho (below_size (k h.out))⟩
theorem blk_pu {w:World} {g i:Nat} {u:Value} {t:TypeId} {cs cs':Array Value} (h:w.heap[g]?=some (.cells cs t (0,0))) (e:cs.setIfInBounds i u=cs'):(w.setCell ⟨g,i,none⟩ u).heap[g]?=some (.cells cs' t (0,0)):=blk_put h i u e
theorem blk_fa {w:World} {g:Nat} {t:TypeId} {cs:Array Value} {p:Addr} {u:Value} (hp:Aside0 (g≠p.block)) (h:w.heap[g]?=some (.cells cs t (0,0))):(w.setCell p u).heap[g]?=some (.cells cs t (0,0)):=blk_far h hp.out u
theorem bp {a b:World} {g:Nat} {t:TypeId} {cs cs':Array Value} (h:a.heap[g]?=some (.cells cs t (0,0))) (k:a.heap[g]?=some (.cells cs t (0,0))→b.heap[g]?=some (.cells cs' t (0,0)):=by intro h_;repeat(first|(with_reducible exact h_)|(with_reducible refine blk_drewN ?_ _)|(with_reducible refine blk_drew ?_)|(with_reducible refine blk_alloc ?_ _)|(apply blk_fa;assumption)|apply blk_pu|rfl|exact h_)):b.heap[g]?=some (.cells cs' t (0,0)):=k h
theorem kt {w a b:World} {S:Nat→Prop} (h:Kept w a S) (k:Kept w a S→Kept w b S:=by intro h_;repeat(first|(with_reducible first|exact h_|apply Kept.alloc|apply Kept.drewN|apply Kept.drew|refine Kept.setCell ?_ (.inl (.inr rfl)) _|refine Kept.setCell ?_ (.inr (Aside0.out (by assumption))) _)|exact h_)):Kept w b S:=k h
theorem kbk {w w1:World} {g g':Nat} {o:Obj} (hk:KeepBut w w1 g none) (h:w.heap[g']?=some o) (hne:g'≠g):w1.heap[g']?=some o:=KeepBut.blk hk h hne (by simp)
theorem z0_ {w:World} {g t:Nat} {x y:Value} (h:Aside0 (w.heap[g]?=some (.cells #[x,y] t (0,0)))):w.cell? ⟨g,0,none⟩=some x:=(blk_cell h.out 0).trans rfl
theorem z1_ {w:World} {g t:Nat} {x y:Value} (h:Aside0 (w.heap[g]?=some (.cells #[x,y] t (0,0)))):w.cell? ⟨g,1,none⟩=some y:=(blk_cell h.out 1).trans rfl
theorem hf_ {w:World} {g t:Nat} {cs:Array Value} (h:Aside0 (w.heap[g]?=some (.cells cs t (0,0)))) (i:Nat):w.frozen? ⟨g,i,none⟩=false:=blk_frozen h.out i
theorem rr {α:Type} {a b:α} (h:a=b:=by first|rfl|(simp [errW_none,errW_some] <;> rfl)|(simp [*,errW_none,errW_some] <;> rfl)):a=b:=h
theorem rs {α:Type} {a b:α} (h:a=b:=by first|rfl|(simp;done)|(simp [*];done)):a=b:=h
theorem dd {p:Prop} [Decidable p] (h:decide p=true:=by first|(with_reducible assumption)|assumption):p:=of_decide_eq_true h
theorem hx_ {w a b:World} {p:Addr} {v:Value} (h:Aside0 (Below w.heap.size w a)) (hw:w.cell? p=some v) (e:b.cell? p=a.cell? p:=by rfl):b.cell? p=some v:=e.trans ((h.out.cell (World.block_lt_of_cell? w _ hw)).trans hw)
section
variable {P : Program} {ops : Array Oper} {rest : List Oper} {o : Oper} {a : Act} {Q : Exit → Act → World → Prop} {W : World}
theorem gd (N:Tmp) (h:wpList P ops Q (o :: rest) a W) (hN:o.dst=some N:=by rfl):wpList P ops Q (o :: rest) a W:=h
theorem bx (N:Tmp) (cs:Array Value) (t:TypeId)
  (h:∀ g,g=W.heap.size→∀ w1,w1.heap[g]?=some (.cells cs t (0,0))→Below W.heap.size W w1→wpList P ops Q rest (a.put o.dst (.pointer (some ⟨g,0,none⟩))) w1)
  (hd:o.dst=some N:=by rfl) (hg:o.guard=none:=by rfl)
  (hr:(execOp a.eval o).run P W = .ok (.value (.pointer (some ⟨W.heap.size,0,none⟩))) (W.alloc (.cells cs t (0,0))):=by first|(go_simp;done)|(go_simp;rfl)):wpList P ops Q (o :: rest) a W:=box_event hg hd hr h
theorem gl (N:Option Tmp) {f:FuncId} {fn:Func} {as_:Array Operand} {ts:Array TypeId} (hf:P.funcs[f]?=some fn) (args:Array Value)
  (h:Calls P f args W fun e w'=>∃ v,e = .returned v∧wpList P ops Q rest (a.put N v) w')
  (hd:o.dst=N:=by rfl) (hg:o.guard=none:=by rfl) (hop:o.op = .call { callee:= .value (.func f),args:=as_,argTypes:=ts }:=by exact rfl)
  (hname:(fn.name == "runtime.NumGoroutine")=false:=by kernel_rfl) (hb:fn.body.isSome=true:=by rfl)
  (hargs:as_.map a.eval=args:=by(try simp only [List.map_toArray,List.map_cons,List.map_nil]);first|done|rfl|(simp only [List.length_drop,List.length_take];rfl)):wpList P ops Q (o :: rest) a W:=goesL_ N hd hg hf hname hb args hop hargs h
theorem gr {K:Act→World→Prop} {N:Option Tmp} {f:FuncId} {fn:Func} {as_:Array Operand} {ts:Array TypeId} (hf:P.funcs[f]?=some fn) (args:Array Value)
  (h:Calls P f args W fun e w'=>∃ v,e = .returned v∧K (a.put N v) w')
  (hN:o.dst=N:=by rfl) (hop:o.op = .call { callee:= .value (.func f),args:=as_,argTypes:=ts }:=by exact rfl) (hw:Region.wanted o (yielded ops a.tmps)=true:=by rfl)
  (hname:(fn.name == "runtime.NumGoroutine")=false:=by kernel_rfl) (hb:fn.body.isSome=true:=by rfl)
  (hargs:as_.map a.eval=args:=by(try simp only [List.map_toArray,List.map_cons,List.map_nil]);first|done|rfl|(simp only [List.length_drop,List.length_take];rfl)):if Region.wanted o (yielded ops a.tmps)=true then Oper.wp P o a W K Q else K (a.put N undef) W:=goes_ hf hname hb args hw hN hop hargs h
end
section
variable {P : Program} {ops : Array Oper} {Q : Exit → Act → World → Prop} {md : Region.Mode} {S : World → Prop} {ds : List Nat} {T : Bool × List (List Nat × List Nat)} {B : List Nat} {oi : Oper} {v : Value} {fuel : Nat} {l : Array Bool} {a a' : Act} {w : World}
theorem pu (i:Nat) (N:Option Tmp) (l':Array Bool) (hT:Aside0 (rtab md ops=T)) (h:wpAnyLast P md ops Q S ds fuel l' a' w)
  (hi:ops[i]?=some oi:=by exact rfl) (hN:oi.dst=N:=by rfl) (hc:anyT T l.toList l'.toList i=true:=by kernel_rfl) (hQ:∀ c a w,Q (.panic c) (a.put oi.dst v) w→Q (.panic c) a w:=by exact hh_) (hw:Region.wanted oi (yielded ops a.tmps)=true:=by rfl)
  (hv:∀ w',(execOp a.eval oi).run P w' = .ok (.value v) w':=by intro w';go_simp;with_reducible rfl) (ha:a.put N v=a':=by simp only [nm_];rfl):wpAnyLast P md ops Q S ds (fuel+1) l a w:=pure_ l' hi hN (any_of hT.out hc) hQ (Or.inl ⟨hw,hv⟩) ha h
theorem pv (i:Nat) (N:Option Tmp) (l':Array Bool) (hT:Aside0 (rtab md ops=T)) (h:wpAnyLast P md ops Q S ds fuel l' a' w)
  (hi:ops[i]?=some oi:=by exact rfl) (hN:oi.dst=N:=by rfl) (hc:anyT T l.toList l'.toList i=true:=by kernel_rfl) (hQ:∀ c a w,Q (.panic c) (a.put oi.dst undef) w→Q (.panic c) a w:=by exact hh_) (hw:Region.wanted oi (yielded ops a.tmps)=false:=by rfl)
  (ha:a.put N undef=a':=by simp only [nm_];rfl):wpAnyLast P md ops Q S ds (fuel+1) l a w:=pure_ l' hi hN (any_of hT.out hc) hQ (Or.inr ⟨hw,rfl⟩) ha h
theorem tk (i:Nat) (N:Option Tmp) (l':Array Bool) (hT:Aside0 (rtab md ops=T)) (hB:Aside0 (waitsOk T.2 B=true)) (hS:S w) (h:wpAnyLast P md ops Q S ds fuel l' a' w)
  (hi:ops[i]?=some oi:=by exact rfl) (hN:oi.dst=N:=by rfl) (hc:takeW T B ds l.toList l'.toList i=true:=by kernel_rfl) (hQ:∀ c a w,Q (.panic c) (a.put oi.dst v) w→Q (.panic c) a w:=by exact hh_) (hw:Region.wanted oi (yielded ops a.tmps)=true:=by rfl)
  (hv:∀ w',S w'→(execOp a.eval oi).run P w' = .ok (.value v) w':=by intro w' hs_;repeat(have hl_:=And.left hs_;replace hs_:=And.right hs_);go_simp;with_reducible rfl) (ha:a.put N v=a':=by simp only [nm_];rfl):wpAnyLast P md ops Q S ds (fuel+1) l a w:=take_ l' hi hN (take_ofW hT.out hB.out hc) hQ (Or.inl ⟨hw,hv⟩) hS ha h
theorem on_ (i:Nat) (N:Option Tmp) (l':Array Bool) (hT:Aside0 (rtab md ops=T))
  (h:∀ K:Act→World→Prop,Shut (∀ a' w',S w'→(S w'→wpAnyLast P md ops Q S ds fuel l' a' w')→K a' w')→if Region.wanted oi (yielded ops a.tmps)=true then Oper.wp P oi a w K Q else K (a.put N undef) w)
  (hi:ops[i]?=some oi:=by exact rfl) (hN:oi.dst=N:=by rfl) (hc:(readyT T.2 l.toList == [i] && l.toList.set i true == l'.toList)=true:=by kernel_rfl) (hd:i ∉ ds:=by decide):wpAnyLast P md ops Q S ds (fuel+1) l a w:=one_ l' hi hN (one_of hT.out hc) hd h
theorem nr (d:Tmp) (h:wpAnyLast P md ops Q S ds fuel l a' w) (e:a.put (some d) v=a':=by simp only [nm_];rfl):wpAnyLast P md ops Q S ds fuel l (a.put (some d) v) w:=norm_ e h
end
end Go.Proofs.YtlhkdbkjafiikaaGreatW.PrintMore
end

section
namespace Go.Proofs.YtlhkdbkjafiikaaGreat.Q
open Go.RowKit Go.Proofs.YtlhkdbkjafiikaaGreatW.PrintWords Go.Proofs.YtlhkdbkjafiikaaGreatW.PrintLast Go.Proofs.YtlhkdbkjafiikaaGreatW.PrintMore
attribute [local go_sem] max2_int min2_int max_two min_two max_three min_three max_four min_four
set_option linter.unusedVariables false
set_option linter.unusedSimpArgs false
def errW:Option Int→Value
 |none=> .nilIface
 |some c=> .iface 0 (.int .i64 c)
theorem errW_none:errW none = .nilIface:=rfl
theorem errW_some (c:Int):errW (some c) = .iface 0 (.int .i64 c):=rfl
theorem info2:(Tryz.prog.info? 2).map (fun i=>(i.zero,i.size,i.bytes))=some (some (.int .i64 0),1,8):=by kernel_rfl
theorem info4:(Tryz.prog.info? 4).map (fun i=>(i.zero,i.size,i.bytes))=some (some (.bool false),1,1):=by kernel_rfl
theorem info9:(Tryz.prog.info? 9).map (fun i=>(i.zero,i.size,i.bytes))=some (some (.string ⟨#[]⟩),1,16):=by kernel_rfl
end Go.Proofs.YtlhkdbkjafiikaaGreat.Q
end

section
namespace Go.Proofs.YtlhkdbkjafiikaaGreat.Q
open Go.RowKit Go.Proofs.YtlhkdbkjafiikaaGreatW.PrintWords Go.Proofs.YtlhkdbkjafiikaaGreatW.PrintLast Go.Proofs.YtlhkdbkjafiikaaGreatW.PrintMore
attribute [local go_sem] max2_int min2_int max_two min_two max_three min_three max_four min_four
set_option linter.unusedVariables false
set_option linter.unusedSimpArgs false
def spec_l01Has.l0:Nat→Int→Int→Int→List Int→Option (Bool)
 |0,_,_,_,_=>none
 |k+1,x1,x5,x102000,x102001=>if x5<(x102001.length:Int) then (if 0≤x5 then (if (rd x102001 x5)=x1 then (some true) else (spec_l01Has.l0 k x1 (wrap64 (x5+1)) x102000 x102001)) else (none)) else (some false)
def spec_l01Has.f (k:Nat) (a0_0:Int) (l0_1:List Int) (a1:Int):Option (Bool):=spec_l01Has.l0 k a1 0 a0_0 l0_1
theorem spec_l01Has.mono_l:∀ k,(∀ y0 y1 y2 y3,LeO (spec_l01Has.l0 k y0 y1 y2 y3) (spec_l01Has.l0 (k+1) y0 y1 y2 y3))
 |0=>fun _ _ _ _ r h=>by simp [spec_l01Has.l0] at h
 |k+1=>by
  have ih0:=spec_l01Has.mono_l k
  ·intro y0 y1 y2 y3;unfold spec_l01Has.l0;repeat' first
   |(with_reducible first|exact ih0 _ _ _ _|exact LeO.refl _|exact LeO.none _|refine LeO.ite ?_ ?_|refine LeO.bind ?_ (fun _=>?_))
theorem spec_l01Has.mono:∀ a0 a1 a2 k,LeO (spec_l01Has.f k a0 a1 a2) (spec_l01Has.f (k+1) a0 a1 a2):=by
 intro a0 a1 a2 k;have ih0:=spec_l01Has.mono_l k;unfold spec_l01Has.f;repeat' first
   |(with_reducible first|exact ih0 _ _ _ _|exact LeO.refl _|exact LeO.none _|refine LeO.ite ?_ ?_|refine LeO.bind ?_ (fun _=>?_))
set_option maxHeartbeats 8000000 in
set_option maxRecDepth 100000 in
theorem spec_l01Has.calls (k:Nat) (a0_0:Int) (A0_1:Option Addr) (c0_1:Nat) (l0_1:List Int) (a1:Int) (r:Bool) (w:World) (hr0_1:Kd.C (Kd.int .i64) w A0_1 l0_1.length l0_1) (hc0_1:l0_1.length≤c0_1) (h:spec_l01Has.f k a0_0 l0_1 a1=some r) :
  Calls Tryz.prog 61 #[.agg #[.int .i64 a0_0,.slice A0_1 l0_1.length c0_1],.int .i64 a1] w fun e w'=>e = .returned (.bool r)∧Below w.heap.size w w':=by
 have hu26:=Tryz.underlying26;have HR0_1:=Aside0.mk hr0_1;have HC0_1:=Aside0.mk hc0_1;clear hr0_1 hc0_1;have HB:=Aside0.mk (Below.refl w.heap.size w);have H:(spec_l01Has.l0 k a1 0 a0_0 l0_1)=some r:=h;clear h;have H':=Aside0.mk H;clear H;go_enter Tryz.func61,Tryz.ntmps61;go_wp2_with (first|((with_reducible refine gate_dst (N:=2) rfl ?_);refine bx 2 #[.int .i64 a0_0,.slice A0_1 l0_1.length c0_1] 26 ?_;intro gb101 hg w3 hbox hb;have BK101:=Aside0.mk (hbox);have GE101:=gzA hg HB;replace HB:=bsA HB hb;clear hb hbox hg))
 go_loopg [5] k (fun kq v5 w'=>∃(x5_1:Int),v5 = .int .i64 x5_1∧Aside0 (spec_l01Has.l0 kq a1 x5_1 a0_0 l0_1=some r)∧Aside0 (kq≤k)∧Aside0 (w'.heap[gb101]?=some (.cells #[.int .i64 a0_0,(.slice A0_1 l0_1.length c0_1)] 26 (0,0)))∧Aside0 (Below w.heap.size w w'))
 case atStart=>exact⟨(0),rs,H',⟨Nat.le_refl _⟩,⟨bk BK101.out⟩,⟨bl HB.out⟩⟩
 case round=>
  clear H';try clear p2
  obtain ⟨x5_1,rfl,HA,HK1,BK101,HB⟩:=hrel;cases gk with
  |zero=>exact absurd HA.out (by simp [spec_l01Has.l0])
  |succ k1=>
   have H:=HA.out;clear HA;simp only [spec_l01Has.l0] at H;by_cases c4:x5_1<(l0_1.length:Int)
   ·rw[if_pos c4] at H;have c4b0:decide (x5_1<(l0_1.length:Int))=true:=decide_eq_true c4;clear c4;by_cases c5:0≤x5_1
    ·rw[if_pos c5] at H;have c5b0:decide (0≤x5_1)=true:=decide_eq_true c5;clear c5;by_cases c6:(rd l0_1 x5_1)=a1
     ·rw[if_pos c6] at H;have c6b0:((rd l0_1 x5_1) == a1)=true:=beq_iff_eq.mpr c6;have c6b1:((rd l0_1 x5_1) != a1)=false:=bne_eq_false_iff_eq.mpr c6;clear c6;obtain rfl:=Option.some.inj H;have hcz7_0:=z0_ BK101;have hcz7_1:=z1_ BK101;have hfz7_0:=hf_ BK101 0;have hfz7_1:=hf_ BK101 1;have p102:0≤(x5_1:Int):=dd;have q102:x5_1<(l0_1.length:Int):=dd;obtain ⟨ad102,e102,hx102_0⟩:=Kd.at_int HR0_1.out x5_1 p102 q102;cases e102;replace hx102_0:=hx_ HB hx102_0;replace p102:=eq_true p102;replace q102:=eq_true q102;go_wp2
      go_ret;exact⟨rr,bl HB.out⟩
     ·rw[if_neg c6] at H;have c6b0:((rd l0_1 x5_1) == a1)=false:=beq_eq_false_iff_ne.mpr c6;have c6b1:((rd l0_1 x5_1) != a1)=true:=bne_iff_ne.mpr c6;have H':=Aside0.mk H;clear H;have hcz8_0:=z0_ BK101;have hcz8_1:=z1_ BK101;have hfz8_0:=hf_ BK101 0;have hfz8_1:=hf_ BK101 1;have p102:0≤(x5_1:Int):=dd;have q102:x5_1<(l0_1.length:Int):=dd;obtain ⟨ad102,e102,hx102_0⟩:=Kd.at_int HR0_1.out x5_1 p102 q102;cases e102;replace hx102_0:=hx_ HB hx102_0;replace p102:=eq_true p102;replace q102:=eq_true q102;go_wp2
      go_roundg k1
      case measure=>have:=HK1.out;omega
      case rel=>exact⟨(wrap64 (x5_1+1)),rs,H',⟨by have:=HK1.out;omega⟩,⟨bk BK101.out⟩,⟨bl HB.out⟩⟩
    ·rw[if_neg c5] at H;exact absurd H (by simp)
   ·rw[if_neg c4] at H;have c4b0:decide (x5_1<(l0_1.length:Int))=false:=decide_eq_false c4;clear c4;obtain rfl:=Option.some.inj H;have hcz9_0:=z0_ BK101;have hcz9_1:=z1_ BK101;have hfz9_0:=hf_ BK101 0;have hfz9_1:=hf_ BK101 1;go_wp2
    go_ret;exact⟨rr,bl HB.out⟩
def spec_l01All.f (a0:Int):Option (Int):=if 0≤(IntKind.u64.wrap (a0)) then (some (wrap64 ((shl .i64 1 (IntKind.u64.wrap (a0))) - 1))) else (none)
set_option maxHeartbeats 8000000 in
set_option maxRecDepth 100000 in
theorem spec_l01All.calls (a0:Int) (r:Int) (w:World) (h:spec_l01All.f a0=some r) :
  Calls Tryz.prog 91 #[.int .i64 a0] w fun e w'=>e = .returned (.int .i64 r)∧Drawn0 w w':=by
 have H:(if 0≤(IntKind.u64.wrap (a0)) then (some (wrap64 ((shl .i64 1 (IntKind.u64.wrap (a0))) - 1))) else (none))=some r:=h;clear h;obtain ⟨ji2,hji2⟩:∃ j_:Int,(IntKind.u64.wrap (a0))=j_:=⟨_,rfl⟩
 replace H:(if 0≤(ji2) then (some (wrap64 ((shl .i64 1 (ji2)) - 1))) else (none))=some r:=by first|(rw[hji2] at H;exact H)|(simp only [hji2] at H ⊢;exact H)
 by_cases c3:0≤(ji2)
 ·rw[if_pos c3] at H;have c3b0:=eq_true c3;have c3b1:decide (0≤(ji2))=true:=decide_eq_true c3;clear c3;obtain ⟨ji4,hji4⟩:∃ j_:Int,(shl .i64 1 (ji2))=j_:=⟨_,rfl⟩
  replace H:(some (wrap64 ((ji4) - 1)))=some r:=by first|(rw[hji4] at H;exact H)|(simp only [hji4] at H ⊢;exact H)
  have hji4_:(IntKind.i64.wrap (1*2 ^ min (ji2).toNat 64))=ji4:=hji4;have hji4z:(ji2)≤64→(IntKind.i64.wrap (1*2 ^ (ji2).toNat))=ji4:=shl_small hji4;have hji4u:(IntKind.i64.wrap (2 ^ min (ji2).toNat 64))=ji4:=by have h_:=hji4_;rw[Int.one_mul] at h_;exact h_
  have hji4v:(ji2)≤64→(IntKind.i64.wrap (2 ^ (ji2).toNat))=ji4:=fun hle_=>by have h_:=hji4z hle_;rw[Int.one_mul] at h_;exact h_
  have hji4y:(wrap64 (1*2 ^ min (ji2).toNat 64))=ji4:=(i64_w _).symm.trans hji4_;have hji4x:(ji2)≤64→(wrap64 (1*2 ^ (ji2).toNat))=ji4:=fun h_=>(i64_w _).symm.trans (hji4z h_)
  obtain rfl:=Option.some.inj H;go_enter Tryz.func91,Tryz.ntmps91;go_wp2
  go_ret;exact⟨by first|rfl|(simp;done)|(simp only [← hji2,← hji4] <;> (first|rfl|simp))|(simp [*];done),by repeat(first|exact Drawn0.refl _|apply Drawn0.step)⟩
 ·rw[if_neg c3] at H;exact absurd H (by simp)
def spec_l01In.f (a0:Int) (a1:Int) (a2:Int):Option (Bool):=if a0≥a1 then (some (decide (a0≤a2))) else (some false)
set_option maxHeartbeats 8000000 in
set_option maxRecDepth 100000 in
theorem spec_l01In.calls (a0:Int) (a1:Int) (a2:Int) (r:Bool) (w:World) (h:spec_l01In.f a0 a1 a2=some r) :
  Calls Tryz.prog 95 #[.int .i64 a0,.int .i64 a1,.int .i64 a2] w fun e w'=>e = .returned (.bool r)∧Drawn0 w w':=by
 have H:(if a0≥a1 then (some (decide (a0≤a2))) else (some false))=some r:=h;clear h;by_cases c4:a0≥a1
 ·rw[if_pos c4] at H;have c4b0:decide (a1≤a0)=true:=decide_eq_true c4;clear c4;obtain rfl:=Option.some.inj H;go_enter Tryz.func95,Tryz.ntmps95;go_wp2
  go_ret;exact⟨rs,by repeat(first|exact Drawn0.refl _|apply Drawn0.step)⟩
 ·rw[if_neg c4] at H;have c4b0:decide (a1≤a0)=false:=decide_eq_false c4;clear c4;obtain rfl:=Option.some.inj H;go_enter Tryz.func95,Tryz.ntmps95;go_wp2
  go_ret;exact⟨rs,by repeat(first|exact Drawn0.refl _|apply Drawn0.step)⟩
def spec_l01Below.l0:Nat→Int→List Int→Int→Option (List Int)
 |0,_,_,_=>none
 |k+1,x0,x3,x4=>if x4≥0 then (if 0≤(IntKind.u64.wrap (x4)) then (if (Go.bits .and .i64 (shr .i64 x0 (IntKind.u64.wrap (x4))) 1)=1 then (if x0=(shl .i64 1 (IntKind.u64.wrap (x4))) then (spec_l01Below.l0 k x0 x3 (wrap64 (x4 - 1))) else (if x3.length<17592186044416 then (spec_l01Below.l0 k x0 (x3 ++ [wrap64 (x0 - (shl .i64 1 (IntKind.u64.wrap (x4))))]) (wrap64 (x4 - 1))) else (none))) else (spec_l01Below.l0 k x0 x3 (wrap64 (x4 - 1)))) else (none)) else (some x3)
def spec_l01Below.f (k:Nat) (a0:Int):Option (List Int):=spec_l01Below.l0 k a0 (([]:List Int)) 62
theorem spec_l01Below.mono_l:∀ k,(∀ y0 y1 y2,LeO (spec_l01Below.l0 k y0 y1 y2) (spec_l01Below.l0 (k+1) y0 y1 y2))
 |0=>fun _ _ _ r h=>by simp [spec_l01Below.l0] at h
 |k+1=>by
  have ih0:=spec_l01Below.mono_l k
  ·intro y0 y1 y2;unfold spec_l01Below.l0;repeat' first
   |(with_reducible first|exact ih0 _ _ _|exact LeO.refl _|exact LeO.none _|refine LeO.ite ?_ ?_|refine LeO.bind ?_ (fun _=>?_))
theorem spec_l01Below.mono:∀ a0 k,LeO (spec_l01Below.f k a0) (spec_l01Below.f (k+1) a0):=by
 intro a0 k;have ih0:=spec_l01Below.mono_l k;unfold spec_l01Below.f;repeat' first
   |(with_reducible first|exact ih0 _ _ _|exact LeO.refl _|exact LeO.none _|refine LeO.ite ?_ ?_|refine LeO.bind ?_ (fun _=>?_))
set_option maxHeartbeats 8000000 in
set_option maxRecDepth 100000 in
theorem spec_l01Below.calls (k:Nat) (a0:Int) (r:List Int) (w:World) (h:spec_l01Below.f k a0=some r) :
  Calls Tryz.prog 125 #[.int .i64 a0] w fun e w'=>∃ v0_:Value,e = .returned (v0_)∧Kd.R (Kd.int .i64) 2 w' w.heap.size (fun _=>True) v0_ r∧Below w.heap.size w w':=by
 have HB:=Aside0.mk (Below.refl w.heap.size w);have H:(spec_l01Below.l0 k a0 (([]:List Int)) 62)=some r:=h;clear h;obtain ⟨y103,hy103⟩:∃ y_:List Int,y_=(([]:List Int)):=⟨_,rfl⟩
 replace H:(spec_l01Below.l0 k a0 y103 62)=some r:=by first|(rw[hy103];with_reducible exact H)|(have H2_:=(Option.bind_some _ _).symm.trans H;rw[hy103];with_reducible exact H2_)|(have H2_:=(Option.bind_some _ _).symm.trans H;with_reducible exact H2_)|with_reducible exact H|(rw[hy103];exact H)|exact H
 have Ny103:=Aside0.mk hy103;clear hy103;have H':=Aside0.mk H;clear H;go_enter Tryz.func125,Tryz.ntmps125;go_wp2_with (first|((with_reducible refine gate_dst (N:=5) rfl ?_);refine Kd.R_lit (Kd.int .i64) _ 2 ?hg (N:=5) ?hd (xs:=([]:List Int)) (inner:= []) (ok:=fun _=>True) (okp:=fun _=>True) ?hr ?hp (fun _ hk=>hk) trivial (Below.refl _ _) (Nat.le_refl _) (by simp) ?_;(case hd=>rfl);(case hg=>rfl);(case hr=>first|(go_simp;done)|(go_simp;rfl));(case hp=>exact(Reps.none _ _));intro v104 w2 ho3 hb hg_ hnew_;clear hg_ hnew_;(first|rw[← Ny103.out] at ho3|(simp only [Int.reduceToNat] at ho3;rw[← Ny103.out] at ho3));have HO105:=klA ho3 HB;replace HB:=bsA HB hb;clear hb ho3))
 go_loopg [3,4] k (fun kq v3 v4 w'=>∃(x3_1:List Int) (x4_1:Int),v4 = .int .i64 x4_1∧Aside0 (spec_l01Below.l0 kq a0 x3_1 x4_1=some r)∧Aside0 (kq≤k)∧Aside0 (Kd.R (Kd.int .i64) 2 w' w.heap.size (fun _=>True) v3 x3_1)∧Aside0 (Below w.heap.size w w'))
 case atStart=>exact⟨(y103),(62),rs,H',⟨Nat.le_refl _⟩,⟨kr HO105.out⟩,⟨bl HB.out⟩⟩
 case round=>
  clear H';try clear c1
  try clear p2
  obtain ⟨x3_1,x4_1,rfl,HA,HK1,HO_3,HB⟩:=hrel;cases gk with
  |zero=>exact absurd HA.out (by simp [spec_l01Below.l0])
  |succ k1=>
   have H:=HA.out;clear HA;simp only [spec_l01Below.l0] at H;by_cases c4:x4_1≥0
   ·rw[if_pos c4] at H;have c4b0:decide (0≤x4_1)=true:=decide_eq_true c4;clear c4;obtain ⟨ji5,hji5⟩:∃ j_:Int,(IntKind.u64.wrap (x4_1))=j_:=⟨_,rfl⟩
    replace H:(if 0≤(ji5) then (if (Go.bits .and .i64 (shr .i64 a0 (ji5)) 1)=1 then (if a0=(shl .i64 1 (ji5)) then (spec_l01Below.l0 k1 a0 x3_1 (wrap64 (x4_1 - 1))) else (if x3_1.length<17592186044416 then (spec_l01Below.l0 k1 a0 (x3_1 ++ [wrap64 (a0 - (shl .i64 1 (ji5)))]) (wrap64 (x4_1 - 1))) else (none))) else (spec_l01Below.l0 k1 a0 x3_1 (wrap64 (x4_1 - 1)))) else (none))=some r:=by first|(rw[hji5] at H;exact H)|(simp only [hji5] at H ⊢;exact H)
    by_cases c6:0≤(ji5)
    ·rw[if_pos c6] at H;have c6b0:=eq_true c6;have c6b1:decide (0≤(ji5))=true:=decide_eq_true c6;clear c6;obtain ⟨ji7,hji7⟩:∃ j_:Int,(shr .i64 a0 (ji5))=j_:=⟨_,rfl⟩
     replace H:(if (Go.bits .and .i64 (ji7) 1)=1 then (if a0=(shl .i64 1 (ji5)) then (spec_l01Below.l0 k1 a0 x3_1 (wrap64 (x4_1 - 1))) else (if x3_1.length<17592186044416 then (spec_l01Below.l0 k1 a0 (x3_1 ++ [wrap64 (a0 - (shl .i64 1 (ji5)))]) (wrap64 (x4_1 - 1))) else (none))) else (spec_l01Below.l0 k1 a0 x3_1 (wrap64 (x4_1 - 1))))=some r:=by first|(rw[hji7] at H;exact H)|(simp only [hji7] at H ⊢;exact H)
     have hji7_:(a0 / 2 ^ min (ji5).toNat 64)=ji7:=hji7;have hji7z:(ji5)≤64→(a0 / 2 ^ (ji5).toNat)=ji7:=shr_small hji7;by_cases c8:(Go.bits .and .i64 (ji7) 1)=1
     ·rw[if_pos c8] at H;have c8b0:((Go.bits .and .i64 (ji7) 1) == 1)=true:=beq_iff_eq.mpr c8;have c8b1:((Go.bits .and .i64 (ji7) 1) != 1)=false:=bne_eq_false_iff_eq.mpr c8;clear c8;have c9b0:=eq_true (dd:0≤(ji5));obtain ⟨ji10,hji10⟩:∃ j_:Int,(shl .i64 1 (ji5))=j_:=⟨_,rfl⟩
      replace H:(if a0=(ji10) then (spec_l01Below.l0 k1 a0 x3_1 (wrap64 (x4_1 - 1))) else (if x3_1.length<17592186044416 then (spec_l01Below.l0 k1 a0 (x3_1 ++ [wrap64 (a0 - (ji10))]) (wrap64 (x4_1 - 1))) else (none)))=some r:=by first|(rw[hji10] at H;exact H)|(simp only [hji10] at H ⊢;exact H)
      have hji10_:(IntKind.i64.wrap (1*2 ^ min (ji5).toNat 64))=ji10:=hji10;have hji10z:(ji5)≤64→(IntKind.i64.wrap (1*2 ^ (ji5).toNat))=ji10:=shl_small hji10;have hji10u:(IntKind.i64.wrap (2 ^ min (ji5).toNat 64))=ji10:=by have h_:=hji10_;rw[Int.one_mul] at h_;exact h_
      have hji10v:(ji5)≤64→(IntKind.i64.wrap (2 ^ (ji5).toNat))=ji10:=fun hle_=>by have h_:=hji10z hle_;rw[Int.one_mul] at h_;exact h_
      have hji10y:(wrap64 (1*2 ^ min (ji5).toNat 64))=ji10:=(i64_w _).symm.trans hji10_;have hji10x:(ji5)≤64→(wrap64 (1*2 ^ (ji5).toNat))=ji10:=fun h_=>(i64_w _).symm.trans (hji10z h_)
      by_cases c11:a0=(ji10)
      ·rw[if_pos c11] at H;have c11b0:(a0 == (ji10))=true:=beq_iff_eq.mpr c11;have c11b1:(a0 != (ji10))=false:=bne_eq_false_iff_eq.mpr c11;clear c11;have H':=Aside0.mk H;clear H;go_wp2
       go_roundg k1
       case measure=>have:=HK1.out;omega
       case rel=>exact⟨(x3_1),(wrap64 (x4_1 - 1)),rs,H',⟨by have:=HK1.out;omega⟩,⟨kr HO_3.out⟩,⟨bl HB.out⟩⟩
      ·rw[if_neg c11] at H;have c11b0:(a0 == (ji10))=false:=beq_eq_false_iff_ne.mpr c11;have c11b1:(a0 != (ji10))=true:=bne_iff_ne.mpr c11;have c12b0:=eq_true (dd:0≤(ji5));by_cases c13:x3_1.length<17592186044416
       ·rw[if_pos c13] at H;have LMc13:=Aside0.mk c13;clear c13;obtain ⟨y106,hy106⟩:∃ y_:List Int,y_=(x3_1 ++ [wrap64 (a0 - (ji10))]):=⟨_,rfl⟩
        replace H:(spec_l01Below.l0 k1 a0 y106 (wrap64 (x4_1 - 1)))=some r:=by first|(rw[hy106];with_reducible exact H)|(have H2_:=(Option.bind_some _ _).symm.trans H;rw[hy106];with_reducible exact H2_)|(have H2_:=(Option.bind_some _ _).symm.trans H;with_reducible exact H2_)|with_reducible exact H|(rw[hy106];exact H)|exact H
        have Ny106:=Aside0.mk hy106;clear hy106;have H':=Aside0.mk H;clear H;go_wp2_with (first|((with_reducible refine gate_builtin (b:= .append) (xs:=#[.tmp 23,.tmp 29]) rfl ?_);at_builtin;refine Kd.R_append (Kd.int .i64) (w0:=w) w.heap.size rfl (.tmp 23) (.tmp 29) 24 2 (.int .i64 0) 8 rfl Tryz.underlying24 info2 rfl (by decide) (by omega) u3 x3_1 (wrap64 (a0 - (ji10))) [.int .i64 (wrap64 (a0 - (ji10)))] (fun _=>True) (fun _=>False) rfl rfl ?aP (fun _ hk=>hk.elim) ?aF ?aO ?aB ?aS ?aL ?_;(case aP=>exact rfl);(case aB=>exact(bl HB.out));(case aF=>exact(fun _ _=>trivial));(case aO=>exact(kr HO_3.out));(case aS=>exact(below_size (bl HB.out)));(case aL=>have:=LMc13.out;omega);intro v107 w14 ho hb hg hat;rw[← Ny106.out] at ho;have n0_:=Aside0.mk (hb);have n1_:=Aside0.mk (ho);clear HB;clear HO_3;have HB:=n0_;have HO108:=n1_;clear n0_ n1_;clear ho hb hg hat))
        go_roundg k1
        case measure=>have:=HK1.out;omega
        case rel=>exact⟨(y106),(wrap64 (x4_1 - 1)),rs,H',⟨by have:=HK1.out;omega⟩,⟨kr HO108.out⟩,⟨bl HB.out⟩⟩
       ·rw[if_neg c13] at H;exact absurd H (by simp)
     ·rw[if_neg c8] at H;have c8b0:((Go.bits .and .i64 (ji7) 1) == 1)=false:=beq_eq_false_iff_ne.mpr c8;have c8b1:((Go.bits .and .i64 (ji7) 1) != 1)=true:=bne_iff_ne.mpr c8;have H':=Aside0.mk H;clear H;go_wp2
      go_roundg k1
      case measure=>have:=HK1.out;omega
      case rel=>exact⟨(x3_1),(wrap64 (x4_1 - 1)),rs,H',⟨by have:=HK1.out;omega⟩,⟨kr HO_3.out⟩,⟨bl HB.out⟩⟩
    ·rw[if_neg c6] at H;exact absurd H (by simp)
   ·rw[if_neg c4] at H;have c4b0:decide (0≤x4_1)=false:=decide_eq_false c4;clear c4;obtain rfl:=Option.some.inj H;go_wp2
    go_ret;exact⟨_,rr,by(with_reducible repeat(first|apply Kd.R_alloc|apply Kd.R_drewN|apply Kd.R_drew));exact HO_3.out,bl HB.out⟩
end Go.Proofs.YtlhkdbkjafiikaaGreat.Q
end

section
namespace Go.Proofs.YtlhkdbkjafiikaaGreat.K
open Go.RowKit Go.Shelf Go.Proofs.YtlhkdbkjafiikaaGreat.Q Go.Proofs.YtlhkdbkjafiikaaGreatW.PrintWords Go.Proofs.YtlhkdbkjafiikaaGreatW.PrintLast Go.Proofs.YtlhkdbkjafiikaaGreatW.PrintMore
set_option linter.unusedVariables false
set_option linter.unusedSimpArgs false
theorem w64 (x:Int) (h0: -9223372036854775808≤x) (h1:x≤9223372036854775807):wrap64 x=x:=by unfold wrap64;omega
theorem rd_nat (l:List Int) (i:Nat) (h:i<l.length):rd l (i:Int)=l[i]:=by simp [rd,h]
theorem nat_succ (i:Nat):(i:Int)+1=((i+1:Nat):Int):=by omega
end Go.Proofs.YtlhkdbkjafiikaaGreat.K
end

section
namespace Go.Proofs.YtlhkdbkjafiikaaGreat.K
open Go.RowKit Go.Shelf Go.Proofs.YtlhkdbkjafiikaaGreatW.PrintWords Go.Proofs.YtlhkdbkjafiikaaGreatW.PrintLast Go.Proofs.YtlhkdbkjafiikaaGreatW.PrintMore
set_option linter.unusedVariables false
set_option linter.unusedSimpArgs false
def idx {α:Type} (p:α→Bool) (l:List α):Int:=match l.findIdx? p with|some i=>(i:Int)|none=> -1
theorem idx_hit {α:Type} (p:α→Bool) (l:List α) (k:Nat) (h:k<l.length) (hp:p l[k]=true) (hn:∀ j (hj:j<k),p (l[j]'(by omega))=false):idx p l=k:=by
 have:l.findIdx? p=some k:=by
  rw[List.findIdx?_eq_some_iff_getElem]
  exact⟨h,hp,fun j hj=>by simp [hn j hj]⟩
 simp [idx,this]
theorem idx_miss {α:Type} (p:α→Bool) (l:List α) (hn:∀ j (hj:j<l.length),p l[j]=false):idx p l = -1:=by
 have:l.findIdx? p=none:=by
  rw[List.findIdx?_eq_none_iff]
  intro x hx
  obtain ⟨j,hj,rfl⟩:=List.mem_iff_getElem.1 hx
  exact hn j hj
 simp [idx,this]
set_option maxHeartbeats 2000000 in
theorem IndexFunc_int (p:Int→Bool) (A:Option Addr) (c:Nat) (l:List Int) (g:Nat) (first caps:Array Value) (w:World)
  (hr:Ki.C w A l.length l) (hc:l.length≤c) (hbig:l.length≤9223372036854775807) (eg:EntersG g)
  (hp:∀ x,x ∈ l→Answers w g (first.push (I x) ++ caps) (.bool (p x))) :
  Calls Tryz.prog 164 #[.slice A l.length c,.func (.func g) first caps] w fun e w'=>e = .returned (I (idx p l))∧Grew w w':=by
 have HR:=Aside0.mk hr
 have HC:=Aside0.mk hc
 have HP:=Aside0.mk hp
 clear hr hc hp
 go_enter Tryz.func164,Tryz.ntmps164
 go_wp2
 go_loopg [5,8] l.length (fun gg _ s8 wr=>∃ kk:Nat,kk≤l.length∧l.length - kk≤gg∧s8 = .int .i64 kk∧Aside0 (Grew w wr)∧Aside0 (∀ j (h:j<l.length),j<kk→p l[j]=false))
 case atStart=>exact⟨0,Nat.zero_le _,by omega,rfl,⟨Below.refl _ w⟩,⟨fun j _ hj=>absurd hj (Nat.not_lt_zero _)⟩⟩
 case round=>
  obtain ⟨kk,hkk,hg,rfl,BW,A0⟩:=hrel
  by_cases hlt:kk<l.length
  ·have hltz:(kk:Int)<(l.length:Int):=by omega
   obtain ⟨ad,e0,hx⟩:=Kd.at_int (Kd.C_below HR.out BW.out) (kk:Int) (by omega) (by omega)
   cases e0
   have hrd:rd l (kk:Int)=l[kk]:=by simp [rd,hlt]
   rw[hrd,Int.toNat_natCast] at hx
   have hcall:=HP.out l[kk] (by simp) wr BW.out
   clear hrd
   generalize hy:l[kk]=y at hx hcall
   have B:=Aside0.mk hy
   clear hy
   cases hq:p y with
   |true=>
    rw[hq] at hcall
    go_wp2_with fail
    refine hcall.mono ?_
    rintro e w' ⟨rfl,hb'⟩
    clear hcall
    go_wp2_with fail
    go_ret
    refine⟨?_,Grew.trans BW.out hb'⟩
    rw[idx_hit p l kk hlt (by rw[B.out];exact hq) (fun j hj=>A0.out j (by omega) hj)]
    rfl
   |false=>
    rw[hq] at hcall
    go_wp2_with fail
    refine hcall.mono ?_
    rintro e w' ⟨rfl,hb'⟩
    clear hcall
    go_wp2_with fail
    go_roundg (l.length - (kk+1))
    case measure=>omega
    case rel=>
     refine⟨kk+1,by omega,by omega,by go_num,⟨Grew.trans BW.out hb'⟩,⟨fun j h hj=>?_⟩⟩
     by_cases e:j=kk
     ·subst e
      rw[B.out];exact hq
     ·exact A0.out j h (by omega)
  ·have hltz:¬ (kk:Int)<(l.length:Int):=by omega
   have e:kk=l.length:=by omega
   have H:=idx_miss p l (fun j hj=>A0.out j hj (by omega))
   have HM:=Aside0.mk H
   clear H e
   go_wp2
   go_ret
   exact⟨by rw[HM.out];rfl,BW.out⟩
theorem idx_nonneg {α:Type} (p:α→Bool) (l:List α):decide (0≤idx p l)=l.any p:=by
 unfold idx
 cases h:l.findIdx? p with
 |none=>
  rw[List.findIdx?_eq_none_iff] at h
  have:l.any p=false:=by rw[List.any_eq_false];intro x hx;simp [h x hx]
  simp [this]
 |some i=>
  rw[List.findIdx?_eq_some_iff_getElem] at h
  obtain ⟨hi,hp,_⟩:=h
  have:l.any p=true:=List.any_eq_true.2 ⟨l[i],by simp,hp⟩
  simp [this]
set_option maxHeartbeats 2000000 in
theorem ContainsFunc_int (p:Int→Bool) (A:Option Addr) (c:Nat) (l:List Int) (g:Nat) (first caps:Array Value) (w:World)
  (hr:Ki.C w A l.length l) (hc:l.length≤c) (hbig:l.length≤9223372036854775807) (eg:EntersG g)
  (hp:∀ x,x ∈ l→Answers w g (first.push (I x) ++ caps) (.bool (p x))) :
  Calls Tryz.prog 145 #[.slice A l.length c,.func (.func g) first caps] w fun e w'=>e = .returned (.bool (l.any p))∧Grew w w':=by
 rw[← idx_nonneg]
 have H:=Aside0.mk (IndexFunc_int p A c l g first caps w hr hc hbig eg hp)
 clear hr hc hbig hp
 go_enter Tryz.func145,Tryz.ntmps145
 go_wp2_with fail
 refine H.out.mono ?_
 rintro e w' ⟨rfl,hb'⟩
 go_wp2_with fail
 go_ret
 exact⟨by rfl,hb'⟩
end Go.Proofs.YtlhkdbkjafiikaaGreat.K
end

section
namespace Go.Proofs.YtlhkdbkjafiikaaGreat.K
open Go.RowKit Go.Shelf Go.Proofs.YtlhkdbkjafiikaaGreatW.PrintWords Go.Proofs.YtlhkdbkjafiikaaGreatW.PrintLast Go.Proofs.YtlhkdbkjafiikaaGreatW.PrintMore
set_option linter.unusedVariables false
set_option linter.unusedSimpArgs false
set_option maxHeartbeats 1000000 in
theorem areAll1_int (b:Bool) (x:Int) (B:Nat) (g:Nat) (first caps:Array Value) (w:World)
  (hB:w.cell? ⟨B,0,none⟩=some (.func (.func g) first caps)) (eg:EntersG g)
  (hp:Answers w g (first.push (I x) ++ caps) (.bool b)) :
  Calls Tryz.prog 146 #[I x,.pointer (some ⟨B,0,none⟩)] w fun e w'=>e = .returned (.bool (!b))∧Grew w w':=by
 have HP:=Aside0.mk hp
 clear hp
 go_enter Tryz.func146,Tryz.ntmps146
 go_wp2_with fail
 refine(HP.out _ (Grew.refl _)).mono ?_
 rintro e w' ⟨rfl,hb'⟩
 cases b <;> go_wp2_with fail
 all_goals go_ret
 all_goals exact⟨by rfl,hb'⟩
set_option maxHeartbeats 1000000 in
theorem areAll_int (p:Int→Bool) (A:Option Addr) (c:Nat) (l:List Int) (g:Nat) (first caps:Array Value) (w:World)
  (hr:Ki.C w A l.length l) (hc:l.length≤c) (hbig:l.length≤9223372036854775807) (eg:EntersG g)
  (hp:∀ x,x ∈ l→Answers w g (first.push (I x) ++ caps) (.bool (p x))) :
  Calls Tryz.prog 115 #[.slice A l.length c,.func (.func g) first caps] w fun e w'=>e = .returned (.bool (l.all p))∧Grew w w':=by
 have HR:=Aside0.mk hr
 have HC:=Aside0.mk hc
 have HP:=Aside0.mk hp
 have hg:Grew w (w.alloc (.cells #[.func (.func g) first caps] 55)):=below_alloc (Below.refl _ _) _
 have H:=Aside0.mk (ContainsFunc_int (fun x=>!p x) A c l 146 #[] #[.pointer (some ⟨w.heap.size,0,none⟩)] (w.alloc (.cells #[.func (.func g) first caps] 55))
  (Kd.C_below HR.out hg) hc hbig (enters_of Tryz.func146 (by kernel_rfl) rfl) (fun x hx W hW=>
   areAll1_int (p x) x w.heap.size g first caps W (blk_cell (blk_below (blk_new w _) hW) 0) eg (((HP.out x hx).later hg).later hW)))
 have hall:l.all p=!(l.any fun x=>!p x):=by
  rw[List.not_any_eq_all_not];simp
 rw[hall]
 clear hr hc hp hall
 generalize (l.any fun x=>!p x)=b at H ⊢
 go_enter Tryz.func115,Tryz.ntmps115
 go_wp2_with fail
 refine H.out.mono ?_
 rintro e w' ⟨rfl,hb'⟩
 have HG:=Aside0.mk (Grew.trans hg hb')
 clear hb' hg
 cases b <;> go_wp2_with fail
 all_goals go_ret
 all_goals exact⟨by rfl,HG.out⟩
end Go.Proofs.YtlhkdbkjafiikaaGreat.K
end

section
namespace Go.Proofs.YtlhkdbkjafiikaaGreat.K
open Go.RowKit Go.Shelf Go.Proofs.YtlhkdbkjafiikaaGreatW.PrintWords Go.Proofs.YtlhkdbkjafiikaaGreatW.PrintLast Go.Proofs.YtlhkdbkjafiikaaGreatW.PrintMore
set_option linter.unusedVariables false
set_option linter.unusedSimpArgs false
attribute [local go_sem] Oper.semAt_some
abbrev Vx:Type:={ v:Int // 0≤v∧v<64 }
def bwd (zs:List Vx):List (Nat×Vx):=(zs.zipIdx.map fun p=>(p.2,p.1)).reverse
theorem bwd_length (zs:List Vx):(bwd zs).length=zs.length:=by simp [bwd]
theorem bwd_get (zs:List Vx) (m:Nat) (h:m<zs.length):(bwd zs)[m]'(by rw[bwd_length];exact h)=(zs.length - 1 - m,zs[zs.length - 1 - m]):=by
 simp [bwd,List.getElem_reverse]
theorem bwd_snd (zs:List Vx):(bwd zs).map (·.2)=zs.reverse:=by
 simp only [bwd,List.map_reverse,List.map_map]
 congr 1
 apply List.ext_getElem
 ·simp
 ·intro i h1 h2;simp
def KeptBut (B n:Nat) (X Y:World):Prop:=∀ k,k<n→k≠B→Y.heap[k]?=X.heap[k]?
theorem KeptBut.refl (B n:Nat) (X:World):KeptBut B n X X:=fun _ _ _=>rfl
theorem KeptBut.t {B n:Nat} {X Y Z:World} (h:KeptBut B n X Y) (k:KeptBut B n Y Z):KeptBut B n X Z:=fun j h1 h2=>(k j h1 h2).trans (h j h1 h2)
set_option maxRecDepth 100000 in
set_option maxHeartbeats 2000000 in
theorem Backward1_in (F:Fence) (n:Nat) (hF:F.fn 167) (hro:F.round=none) (hn:1≤n) (l Bs B n₀ b cap:Nat) (zs:List Vx) (hreach:zs.length≤64) (hb:b<n₀) (hbB:b≠B) (hs:Bs<n₀) (hsB:Bs≠B)
  (J Jx:List (Nat×Vx)→World→Prop)
  (hY:∀ pre x W,J pre W→pre.length<zs.length→YieldAt F (n - 1) Tryz.prog l #[.int .i64 (x.1:Int),.int .i64 x.2.val] W fun e W'=>
   (e = .returned (.bool true)∧J (pre ++ [x]) W'∧KeptBut B n₀ W W')∨(e = .returned (.bool false)∧Jx (pre ++ [x]) W'))
  (W:World) (hBs:W.cell? ⟨Bs,0,none⟩=some (.slice (some ⟨b,0,none⟩) zs.length cap)) (hc:∀ j (h:j<zs.length),W.cell? ⟨b,j,none⟩=some (I zs[j].val)) (h0:J [] W) :
  CallsIn F n Tryz.prog 167 #[.func (.yield l) #[] #[],.pointer (some ⟨Bs,0,none⟩)] W fun e W'=>(∃ v,e = .returned v) ∧
   ((∃ ys,ys=bwd zs∧J ys W')∨(∃ pre,pre <+: bwd zs∧Jx pre W')):=by
 refine callsIn_of_wp Tryz.func167 rfl hF ?_ hro
 simp only [Tryz.ntmps167,List.size_toArray,List.length_cons,List.length_nil,Nat.reduceAdd,Nat.reduceSub,Array.replicate_succ,Array.replicate_zero,List.push_toArray,List.append_toArray,List.nil_append,List.cons_append]
 gi_wp2
 gi_loopw [3] (fun i wr=>∃ k:Nat,k≤zs.length∧i = .int .i64 ((zs.length:Int) - 1 - k)∧J ((bwd zs).take k) wr∧KeptBut B n₀ W wr)
  (fun i _=>(intOf i+1).toNat)
 case atStart=>exact⟨0,Nat.zero_le _,by simp,by simpa using h0,KeptBut.refl _ _ _⟩
 case round=>
  obtain ⟨k,hk,rfl,hJs,hnx⟩:=hrel
  by_cases hlt:k<zs.length
  ·obtain ⟨r,hr⟩:∃ r:Nat,r=zs.length - 1 - k:=⟨_,rfl⟩
   have hrl:r<zs.length:=by omega
   have er:((zs.length:Int) - 1 - k)=(r:Int):=by omega
   have hcx:wr.cell? ⟨b,r,none⟩=some (I zs[r].val):=(World.cell?_of_block (w:=W) (a:=⟨b,r,none⟩) (hnx b hb hbB)).trans (hc r hrl)
   have hbx:wr.cell? ⟨Bs,0,none⟩=some (.slice (some ⟨b,0,none⟩) zs.length cap):=(World.cell?_of_block (w:=W) (a:=⟨Bs,0,none⟩) (hnx Bs hs hsB)).trans hBs
   have HE:=Aside0.mk er
   obtain ⟨fn,tmps,assign,body,hy,hR⟩:=hY _ (r,zs[r]) wr hJs (by simp;omega)
   dsimp only at hy
   rw[er]
   clear er
   have HR:=Aside0.mk hr
   clear hr
   generalize hz:zs[r]=z at hcx hy hR
   have HZ:=Aside0.mk hz
   clear hz
   clear hc hBs
   have HT:=Aside0.mk (show (bwd zs).take (k+1)=(bwd zs).take k ++ [(r,z)] by
    rw[List.take_succ_eq_append_getElem (by rw[bwd_length];exact hlt),bwd_get zs k hlt]
    have e1:=HR.out
    have e2:=HZ.out
    subst e1
    rw[e2])
   gi_wp2
   refine hR.mono ?_
   rintro e W3 (⟨rfl,hJ3,hk3⟩|⟨rfl,hJx3⟩)
   ·gi_wp2
    go_roundw
    case rel=>exact⟨k+1,by omega,by have:=HR.out;congr 1;omega,by rw[HT.out];exact hJ3,hnx.t hk3⟩
    case measure=>simp [intOf]
   ·gi_wp2
    refine bodyPost_ret (results_none rfl _ _ _) rfl ?_
    exact⟨⟨_,rfl⟩,.inr ⟨_,by rw[← HT.out];exact List.take_prefix _ _,hJx3⟩⟩
  ·obtain rfl:k=zs.length:=by omega
   rw[List.take_of_length_le (by rw[bwd_length];exact Nat.le_refl _)] at hJs
   gi_wp2
   go_end0
   exact⟨⟨_,rfl⟩,.inl ⟨_,rfl,hJs⟩⟩
set_option maxRecDepth 100000 in
set_option maxHeartbeats 1000000 in
theorem Backward1_nil_in (F:Fence) (n:Nat) (hF:F.fn 167) (hro:F.round=none) (l Bs:Nat) (J:List (Nat×Vx)→World→Prop)
  (W:World) (hBs:W.cell? ⟨Bs,0,none⟩=some (.slice none 0 0)) (h0:J [] W) :
  CallsIn F n Tryz.prog 167 #[.func (.yield l) #[] #[],.pointer (some ⟨Bs,0,none⟩)] W fun e W'=>(∃ v,e = .returned v)∧J [] W':=by
 refine callsIn_of_wp Tryz.func167 rfl hF ?_ hro
 simp only [Tryz.ntmps167,List.size_toArray,List.length_cons,List.length_nil,Nat.reduceAdd,Nat.reduceSub,Array.replicate_succ,Array.replicate_zero,List.push_toArray,List.append_toArray,List.nil_append,List.cons_append]
 gi_wp2
 gi_loopw [3] (fun i wr=>i = .int .i64 (-1)∧J [] wr) (fun _ _=>0)
 case atStart=>exact⟨rfl,h0⟩
 case round=>
  obtain ⟨rfl,hJs⟩:=hrel
  gi_wp2
  go_end0
  exact⟨⟨_,rfl⟩,hJs⟩
set_option maxHeartbeats 1000000 in
theorem Backward_in (F:Fence) (n:Nat) (hF:F.fn 152) (hro:F.round=none) (a:Option Addr) (len cap:Nat) (w:World) :
  CallsIn F n Tryz.prog 152 #[.slice a len cap] w fun e w'=>e = .returned (.func (.func 167) #[] #[.pointer (some ⟨w.heap.size,0,none⟩)])∧w'=w.alloc (.cells #[.slice a len cap] 24):=by
 refine callsIn_of_wp Tryz.func152 rfl hF ?_ hro
 simp only [Tryz.ntmps152,List.size_toArray,List.length_cons,List.length_nil,Nat.reduceAdd,Nat.reduceSub,Array.replicate_succ,Array.replicate_zero,List.push_toArray,List.append_toArray,List.nil_append,List.cons_append]
 gi_wp2
 go_ret
 exact⟨rfl,rfl⟩
def Vs (B n:Nat) (W:World) (sv:Value) (zs:List Vx):Prop:=
 (sv = .slice none 0 0∧zs = [])∨∃ b cap,sv = .slice (some ⟨b,0,none⟩) zs.length cap∧b<n∧b≠B∧∀ j (h:j<zs.length),W.cell? ⟨b,j,none⟩=some (I zs[j].val)
theorem Backward_stops (F:Fence) (n:Nat) (hF:F.fn 167) (hro:F.round=none) (hn:1≤n) (Bs B n₀:Nat) (sv:Value) (zs:List Vx) (hreach:zs.length≤64) (w:World) (hBs:Bs<n₀) (hBB:Bs≠B) (hn₀:n₀≤w.heap.size)
  (hc:w.cell? ⟨Bs,0,none⟩=some sv) (hI:Vs B n₀ w sv zs) :
  SeqStopsK F n Tryz.prog 167 #[.pointer (some ⟨Bs,0,none⟩)] (fun x:Nat×Vx=>#[Value.int .i64 (x.1:Int),Value.int .i64 x.2.val]) (KeptBut B n₀) (fun ys=>ys=bwd zs) (fun pre=>pre <+: bwd zs) zs.length w:=fun l J Jx W hW _ _ hY h0=>by
 have hc':=(hW.cell (p:=⟨Bs,0,none⟩) (by show Bs<_;omega)).trans hc
 rcases hI with ⟨rfl,rfl⟩|⟨b,cap,rfl,hb,hbB,hcs⟩
 ·exact(Backward1_nil_in F n hF hro l Bs J W hc' h0).mono fun e W' ⟨he,hj⟩=>⟨he,.inl ⟨_,rfl,hj⟩⟩
 ·exact Backward1_in F n hF hro hn l Bs B n₀ b cap zs hreach hb hbB hBs hBB J Jx hY W hc' (fun j h=>(hW.cell (p:=⟨b,j,none⟩) (by show b<_;omega)).trans (hcs j h)) h0
end Go.Proofs.YtlhkdbkjafiikaaGreat.K
end

section
namespace Go.Proofs.YtlhkdbkjafiikaaGreat.Q
open Go.RowKit Go.Proofs.YtlhkdbkjafiikaaGreatW.PrintWords Go.Proofs.YtlhkdbkjafiikaaGreatW.PrintLast Go.Proofs.YtlhkdbkjafiikaaGreatW.PrintMore
attribute [local go_sem] max2_int min2_int max_two min_two max_three min_three max_four min_four
set_option linter.unusedVariables false
set_option linter.unusedSimpArgs false
def IsS92 (w0 W:World) (g:Nat) (f0:List Int) (f1:Int) (f2:Int):Prop:=∃ A0 c0,W.heap[g]?=some (.cells #[.slice A0 f0.length c0,.int .i64 f1,.int .u64 f2] 92 (0,0))∧w0.heap.size≤g∧Kd.C (Kd.int .u8) w0 A0 f0.length f0
theorem IsS92.grown {w0 W:World} {g:Nat} {f0:List Int} {f1:Int} {f2:Int} {W1:World} {row:Option Nat} (h:IsS92 w0 W g f0 f1 f2) (hw:W.grownBy W1 row) (hne:some g≠row):IsS92 w0 W1 g f0 f1 f2:=by
 obtain ⟨A0,c0,hb,hg,hr0⟩:=h;exact⟨A0,c0,blk_grown hb hw hne,hg,hr0⟩
theorem IsS92.kept {w0 W:World} {g:Nat} {f0:List Int} {f1:Int} {f2:Int} {W1:World} {S:Nat→Prop} (h:IsS92 w0 W g f0 f1 f2) (hk:Kept W W1 S) (hne:¬ S g):IsS92 w0 W1 g f0 f1 f2:=by
 obtain ⟨A0,c0,hb,hg,hr0⟩:=h;exact⟨A0,c0,blk_kept hb hk hne,hg,hr0⟩
theorem IsS92.below {w0 W:World} {g:Nat} {f0:List Int} {f1:Int} {f2:Int} {W1:World} (h:IsS92 w0 W g f0 f1 f2) (hw:Below W.heap.size W W1):IsS92 w0 W1 g f0 f1 f2:=h.grown (grown_of_below hw none) (by simp)
theorem IsS92.alloc {w0 W:World} {g:Nat} {f0:List Int} {f1:Int} {f2:Int} (h:IsS92 w0 W g f0 f1 f2) (o:Obj):IsS92 w0 (W.alloc o) g f0 f1 f2:=h.below (below_alloc (Below.refl _ _) o)
theorem IsS92.drewN {w0 W:World} {g:Nat} {f0:List Int} {f1:Int} {f2:Int} (h:IsS92 w0 W g f0 f1 f2) (m:Nat):IsS92 w0 (W.drewN m) g f0 f1 f2:=h
theorem IsS92.drew {w0 W:World} {g:Nat} {f0:List Int} {f1:Int} {f2:Int} (h:IsS92 w0 W g f0 f1 f2):IsS92 w0 W.drew g f0 f1 f2:=h
theorem IsS92.at_ {w0 W:World} {g:Nat} {f0:List Int} {f1:Int} {f2:Int} {w':World} {m:Nat} (hq:W.drewN m=w') (h:IsS92 w0 W g f0 f1 f2):IsS92 w0 w' g f0 f1 f2:=by subst hq;exact IsS92.drewN h m
theorem IsS92.apart {w0 W:World} {g:Nat} {f0:List Int} {f1:Int} {f2:Int} {α:Type} {d:Kd α} {e:Nat} {base:Nat} {ok:Nat→Prop} {v:Value} {xs:List α} (h:IsS92 w0 W g f0 f1 f2) (ho:d.R e W base ok v xs) (ht:∀ q,q ∈ e :: d.E→q≠92):d.R e W base (fun k=>ok k∧k≠g) v xs:=by
 obtain ⟨A0,c0,hb,hg,hr0⟩:=h;exact Kd.R_types ho hb ht
theorem IsS92.own_ne {w0 W:World} {g:Nat} {f0:List Int} {f1:Int} {f2:Int} {α:Type} {d:Kd α} {e:Nat} {base:Nat} {ok:Nat→Prop} {v:Value} {xs:List α} (h:IsS92 w0 W g f0 f1 f2) (ho:d.R e W base ok v xs) (ht:e≠92):some g≠v.ownBlock:=by
 obtain ⟨A0,c0,hb,hg,hr0⟩:=h;exact Kd.R_ne ho hb ht
theorem IsS92.lt {w0 W:World} {g:Nat} {f0:List Int} {f1:Int} {f2:Int} (h:IsS92 w0 W g f0 f1 f2):g<W.heap.size:=by
 obtain ⟨A0,c0,hb,hg,hr0⟩:=h;exact blk_lt hb
theorem IsS92.ge {w0 W:World} {g:Nat} {f0:List Int} {f1:Int} {f2:Int} (h:IsS92 w0 W g f0 f1 f2):w0.heap.size≤g:=by
 obtain ⟨A0,c0,hb,hg,hr0⟩:=h;exact hg
theorem IsS92.ne_blk {w0 W:World} {g:Nat} {f0:List Int} {f1:Int} {f2:Int} {a:Nat} {cs:Array Value} {t:TypeId} {fr:Nat×Nat} (h:IsS92 w0 W g f0 f1 f2) (hb2:W.heap[a]?=some (.cells cs t fr)) (ht:t≠92):g≠a:=by
 obtain ⟨A0,c0,hb,hg,hr0⟩:=h;rintro rfl;rw[hb] at hb2;injection hb2 with hb2
 injection hb2 with _ ht2
 exact ht ht2.symm
theorem IsS92.far {w0 W:World} {g:Nat} {f0:List Int} {f1:Int} {f2:Int} {p:Addr} (h:IsS92 w0 W g f0 f1 f2) (hne:g≠p.block) (u:Value):IsS92 w0 (W.setCell p u) g f0 f1 f2:=by
 obtain ⟨A0,c0,hb,hg,hr0⟩:=h;exact⟨A0,c0,blk_far hb hne u,hg,hr0⟩
theorem cellS92_0 {W:World} {g:Nat} {A0:Option Addr} {c0:Nat} {f0:List Int} {f1:Int} {f2:Int} (h:W.heap[g]?=some (.cells #[.slice A0 f0.length c0,.int .i64 f1,.int .u64 f2] 92 (0,0))):W.cell? ⟨g,0,none⟩=some (.slice A0 f0.length c0):=(blk_cell h 0).trans rfl
theorem cellS92_1 {W:World} {g:Nat} {A0:Option Addr} {c0:Nat} {f0:List Int} {f1:Int} {f2:Int} (h:W.heap[g]?=some (.cells #[.slice A0 f0.length c0,.int .i64 f1,.int .u64 f2] 92 (0,0))):W.cell? ⟨g,1,none⟩=some (.int .i64 f1):=(blk_cell h 1).trans rfl
theorem IsS92.set_1 {w0 W:World} {g:Nat} {f0:List Int} {f1:Int} {f2:Int} (h:IsS92 w0 W g f0 f1 f2) (x:Int):IsS92 w0 (W.setCell ⟨g,1,none⟩ (.int .i64 x)) g f0 x f2:=by
 obtain ⟨A0,c0,hb,hg,hr0⟩:=h;exact⟨A0,c0,by simpa using blk_set hb 1 (.int .i64 x),hg,hr0⟩
theorem cellS92_2 {W:World} {g:Nat} {A0:Option Addr} {c0:Nat} {f0:List Int} {f1:Int} {f2:Int} (h:W.heap[g]?=some (.cells #[.slice A0 f0.length c0,.int .i64 f1,.int .u64 f2] 92 (0,0))):W.cell? ⟨g,2,none⟩=some (.int .u64 f2):=(blk_cell h 2).trans rfl
theorem IsS92.set_2 {w0 W:World} {g:Nat} {f0:List Int} {f1:Int} {f2:Int} (h:IsS92 w0 W g f0 f1 f2) (x:Int):IsS92 w0 (W.setCell ⟨g,2,none⟩ (.int .u64 x)) g f0 f1 x:=by
 obtain ⟨A0,c0,hb,hg,hr0⟩:=h;exact⟨A0,c0,by simpa using blk_set hb 2 (.int .u64 x),hg,hr0⟩
theorem IsS92.new (w0 W:World) (A0:Option Addr) (c0:Nat) (f0:List Int) (f1:Int) (f2:Int) (hB:Below w0.heap.size w0 W) (hr0:Kd.C (Kd.int .u8) w0 A0 f0.length f0):IsS92 w0 (W.alloc (.cells #[.slice A0 f0.length c0,.int .i64 f1,.int .u64 f2] 92)) W.heap.size f0 f1 f2:=⟨A0,c0,by simpa using heap_alloc_new W _,hB.size,hr0⟩
theorem IsS92.ch {w0 a b:World} {g:Nat} {f0 f0':List Int} {f1 f1':Int} {f2 f2':Int} (h:IsS92 w0 a g f0 f1 f2) (k:IsS92 w0 a g f0 f1 f2→IsS92 w0 b g f0' f1' f2':=by intro h_;repeat(first|(with_reducible first|exact h_|apply IsS92.alloc|apply IsS92.drewN|apply IsS92.drew|apply IsS92.set_1|apply IsS92.set_2|refine IsS92.far ?_ (Aside0.out (by assumption)) _)|exact h_)):IsS92 w0 b g f0' f1' f2':=k h
def spec_l01From.l0:Nat→List Int→Int→List Int→Int→Int→Option (List Int×Int×Int)
 |0,_,_,_,_,_=>none
 |k+1,x0,x4,x302000,x302001,x302002=>if x4<(x0.length:Int) then (if x4<4096 then (if 0≤x4 then (spec_l01From.l0 k x0 (wrap64 (x4+1)) x302000 x302001 (IntKind.u64.wrap ((IntKind.u64.wrap ((IntKind.u64.wrap (x302002*1099511628211))+(IntKind.u64.wrap (rd x0 x4))))+173))) else (none)) else (some (x302000,x302001,x302002))) else (some (x302000,x302001,x302002))
def spec_l01From.f (k:Nat) (l0:List Int):Option (List Int×Int×Int):=spec_l01From.l0 k l0 0 l0 0 (IntKind.u64.wrap (13481+(IntKind.u64.wrap ((l0.length:Int)))))
theorem spec_l01From.mono_l:∀ k,(∀ y0 y1 y2 y3 y4,LeO (spec_l01From.l0 k y0 y1 y2 y3 y4) (spec_l01From.l0 (k+1) y0 y1 y2 y3 y4))
 |0=>fun _ _ _ _ _ r h=>by simp [spec_l01From.l0] at h
 |k+1=>by
  have ih0:=spec_l01From.mono_l k
  ·intro y0 y1 y2 y3 y4;unfold spec_l01From.l0;repeat' first
   |(with_reducible first|exact ih0 _ _ _ _ _|exact LeO.refl _|exact LeO.none _|refine LeO.ite ?_ ?_|refine LeO.bind ?_ (fun _=>?_))
theorem spec_l01From.mono:∀ a0 k,LeO (spec_l01From.f k a0) (spec_l01From.f (k+1) a0):=by
 intro a0 k;have ih0:=spec_l01From.mono_l k;unfold spec_l01From.f;repeat' first
   |(with_reducible first|exact ih0 _ _ _ _ _|exact LeO.refl _|exact LeO.none _|refine LeO.ite ?_ ?_|refine LeO.bind ?_ (fun _=>?_))
def spec_l01From.T5:Bool×List (List Nat×List Nat):=(true,[([],[]),([],[]),([1],[1]),([2],[2]),([3],[3]),([4],[4]),([],[]),([],[]),([6,7],[6,7]),([8],[8]),([9],[9]),([5,10],[5,10]),([11],[11]),([0,0,1,2,3,4,5,6,7,8,9,10,11,12],[0]),([13,0,1,2,3,4,5,6,7,8,9,10,11,12],[13]),([14,12,0,1,2,3,4,5,6,7,8,9,10,11,12],[12,14])])
def spec_l01From.B5:List Nat:= [0,0,2,6,14,30,0,0,192,448,960,2046,4094,8191,16383,32767]
theorem spec_l01From.tab5:rtab .any (opsOf Tryz.f66 5)=spec_l01From.T5:=by kernel_rfl
theorem spec_l01From.bits5:waitsOk spec_l01From.T5.2 spec_l01From.B5=true:=by kernel_rfl
set_option maxHeartbeats 8000000 in
set_option maxRecDepth 100000 in
theorem spec_l01From.calls (k:Nat) (A0:Option Addr) (c0:Nat) (l0:List Int) (r1:List Int) (r2:Int) (r3:Int) (w0 w:World) (hB:Below w0.heap.size w0 w) (hr0:Kd.C (Kd.int .u8) w0 A0 l0.length l0) (hc0:l0.length≤c0) (h:spec_l01From.f k l0=some (r1,r2,r3)) :
  Calls Tryz.prog 66 #[.slice A0 l0.length c0] w fun e w'=>∃ g_:Nat,e = .returned (.pointer (some ⟨g_,0,none⟩))∧IsS92 w0 w' g_ r1 r2 r3∧Below w0.heap.size w0 w'∧Below w.heap.size w w':=by
 have hu92:=Tryz.underlying92;have HR0:=Aside0.mk hr0;have HC0:=Aside0.mk hc0;clear hr0 hc0;have HBW:=Aside0.mk (Below.refl w.heap.size w);have HW0:=Aside0.mk hB.size;have HB:=Aside0.mk hB;clear hB;have H:(spec_l01From.l0 k l0 0 l0 0 (IntKind.u64.wrap (13481+(IntKind.u64.wrap ((l0.length:Int))))))=some (r1,r2,r3):=h;clear h;have H':=Aside0.mk H;clear H;go_enter Tryz.func66,Tryz.ntmps66;go_wp2_with (first|((with_reducible refine gate_dst (N:=11) rfl ?_);refine bx 11 #[.slice A0 l0.length c0,.int .i64 0,.int .u64 (IntKind.u64.wrap (13481+(IntKind.u64.wrap ((l0.length:Int)))))] 92 ?_;intro gb301 hg w2 hbox hb;replace HB:=bsA HB hb;have BK301:=Aside0.mk (hbox);have GW301:=gzA hg HBW;have GE301:=Aside0.mk ((Nat.le_trans HW0.out (by rw[hg];exact(below_size (bl HBW.out)):w.heap.size≤gb301):w0.heap.size≤gb301));replace HBW:=Aside0.mk (below_step HBW.out hb);clear hb hbox hg))
 go_loopg [4] k (fun kq v4 w'=>∃(x4_1:Int) (x302002_1:Int),v4 = .int .i64 x4_1∧Aside0 (spec_l01From.l0 kq l0 x4_1 l0 0 x302002_1=some (r1,r2,r3))∧Aside0 (kq≤k)∧Aside0 (w'.heap[gb301]?=some (.cells #[(.slice A0 l0.length c0),.int .i64 0,.int .u64 x302002_1] 92 (0,0)))∧Aside0 (Below w0.heap.size w0 w')∧Aside0 (Below w.heap.size w w'))
 case atStart=>exact⟨(0),(IntKind.u64.wrap (13481+(IntKind.u64.wrap ((l0.length:Int))))),rs,H',⟨Nat.le_refl _⟩,⟨bk BK301.out⟩,⟨bl HB.out⟩,⟨bl HBW.out⟩⟩
 case round=>
  clear H';try clear p2
  obtain ⟨x4_1,x302002_1,rfl,HA,HK1,BK301,HB,HBW⟩:=hrel;cases gk with
  |zero=>exact absurd HA.out (by simp [spec_l01From.l0])
  |succ k1=>
   have H:=HA.out;clear HA;simp only [spec_l01From.l0] at H;by_cases c3:x4_1<(l0.length:Int)
   ·rw[if_pos c3] at H;have c3b0:decide (x4_1<(l0.length:Int))=true:=decide_eq_true c3;clear c3;by_cases c4:x4_1<4096
    ·rw[if_pos c4] at H;have c4b0:decide (x4_1<4096)=true:=decide_eq_true c4;clear c4;by_cases c5:0≤x4_1
     ·rw[if_pos c5] at H;have c5b0:decide (0≤x4_1)=true:=decide_eq_true c5;clear c5;have H':=Aside0.mk H;clear H;try go_wp2
      have n0_:=Aside0.mk (blk_drew BK301.out);have n1_:=Aside0.mk (below_drew1 HB.out);have nw_:=Aside0.mk (below_drew1 HBW.out);clear BK301;clear HB;clear HBW;have BK301:=n0_;have HB:=n1_;have HBW:=nw_;clear nw_;clear n0_ n1_;have p302:0≤(x4_1:Int):=dd;have q302:x4_1<(l0.length:Int):=dd;obtain ⟨ad302,e302,hx302_0⟩:=Kd.at_int HR0.out x4_1 p302 q302;have hw302_0:=hx302_0;cases e302;replace hx302_0:=pw_cell_below HB.out hx302_0;replace p302:=eq_true p302;replace q302:=eq_true q302;refine start_ (n:=16) (S:=fun w'=>w'.cell? ⟨gb301,0,none⟩=some (.slice (some ad302) l0.length c0)∧w'.cell? ⟨gb301,1,none⟩=some (.int .i64 0)∧w'.cell? ⟨gb301,2,none⟩=some (.int .u64 x302002_1)∧w'.cell? (ad302.add (x4_1).toNat)=some (.int .u8 (rd l0 x4_1))) (ds:= [15]) (ar 0 16) (by kernel_rfl) rfl rfl ⟨(blk_cell BK301.out 0).trans rfl,(blk_cell BK301.out 1).trans rfl,(blk_cell BK301.out 2).trans rfl,((HB.out.cell (World.block_lt_of_cell? w0 _ hw302_0)).trans hw302_0)⟩ (fun hHeld=>?_);refine with_tabW spec_l01From.tab5 spec_l01From.bits5 (fun HT_ HW_=>?_);generalize wr.drew=w6 at BK301 HB HBW hx302_0 hHeld ⊢;refine pu 0 (some 22) (ar 1 15) HT_ ?_;refine pu 1 (some 23) (ar 2 14) HT_ ?_;refine pu 2 (some 24) (ar 3 13) HT_ ?_;refine pu 3 (some 25) (ar 4 12) HT_ ?_;refine pu 6 (some 28) #[U,U,U,U,O,O,U,O,O,O,O,O,O,O,O,O] HT_ ?_;refine pu 7 (some 29) #[U,U,U,U,O,O,U,U,O,O,O,O,O,O,O,O] HT_ ?_;refine pu 8 (some 30) #[U,U,U,U,O,O,U,U,U,O,O,O,O,O,O,O] HT_ ?_;refine tk 4 (some 26) #[U,U,U,U,U,O,U,U,U,O,O,O,O,O,O,O] HT_ HW_ hHeld ?_;refine pu 5 (some 27) (ar 9 7) HT_ ?_;refine tk 9 (some 31) (ar 10 6) HT_ HW_ hHeld ?_;refine pu 10 (some 32) (ar 11 5) HT_ ?_;refine pu 11 (some 33) (ar 12 4) HT_ ?_;refine pu 12 (some 34) (ar 13 3) HT_ ?_;refine pu 13 (some 35) (ar 14 2) HT_ ?_;refine pu 14 (some 36) (ar 15 1) HT_ ?_;refine last_ (i:=15) (N:=none) (ar 16 0) rfl rfl (one_of HT_.out (by kernel_rfl)) (by decide) (fun K hK=>?_);have hs7:w6.cell? ⟨gb301,2,none⟩=some (.int .u64 x302002_1):=(blk_cell BK301.out 2).trans rfl;have hfs7:=blk_frozen BK301.out 2;refine skip_ (w1:=?_) (by rfl) rfl ?_ ?_;rotate_left
      ·go_simp;rfl
      refine hK.out _ _ ?_;clear hK K;refine done_ (done_of HT_.out (by kernel_rfl)) ?_;try go_wp2
      go_roundg k1
      case measure=>have:=HK1.out;omega
      case rel=>exact⟨(wrap64 (x4_1+1)),(IntKind.u64.wrap ((IntKind.u64.wrap ((IntKind.u64.wrap (x302002_1*1099511628211))+(IntKind.u64.wrap (rd l0 x4_1))))+173)),rs,H',⟨by have:=HK1.out;omega⟩,⟨bp BK301.out⟩,⟨bl HB.out⟩,⟨bl HBW.out⟩⟩
     ·rw[if_neg c5] at H;exact absurd H (by simp)
    ·rw[if_neg c4] at H;have c4b0:decide (x4_1<4096)=false:=decide_eq_false c4;clear c4;simp only [Option.some.injEq,Prod.mk.injEq] at H;obtain ⟨rfl,rfl,rfl⟩:=H;go_wp2
     go_ret;exact⟨_,rfl,(show IsS92 w0 _ gb301 l0 0 x302002_1 from ⟨_,_,by(with_reducible repeat(first|refine blk_drewN ?_ _|refine blk_drew ?_|refine blk_alloc ?_ _));exact BK301.out,GE301.out,HR0.out⟩),bl HB.out,bl HBW.out⟩
   ·rw[if_neg c3] at H;have c3b0:decide (x4_1<(l0.length:Int))=false:=decide_eq_false c3;clear c3;simp only [Option.some.injEq,Prod.mk.injEq] at H;obtain ⟨rfl,rfl,rfl⟩:=H;go_wp2
    go_ret;exact⟨_,rfl,(show IsS92 w0 _ gb301 l0 0 x302002_1 from ⟨_,_,by(with_reducible repeat(first|refine blk_drewN ?_ _|refine blk_drew ?_|refine blk_alloc ?_ _));exact BK301.out,GE301.out,HR0.out⟩),bl HB.out,bl HBW.out⟩
end Go.Proofs.YtlhkdbkjafiikaaGreat.Q
end

section
namespace Go.Proofs.YtlhkdbkjafiikaaGreat.Q
open Go.RowKit Go.Proofs.YtlhkdbkjafiikaaGreatW.PrintWords Go.Proofs.YtlhkdbkjafiikaaGreatW.PrintLast Go.Proofs.YtlhkdbkjafiikaaGreatW.PrintMore
attribute [local go_sem] max2_int min2_int max_two min_two max_three min_three max_four min_four
set_option linter.unusedVariables false
set_option linter.unusedSimpArgs false
def spec_l01Next.f (s0_0:List Int) (s0_1:Int) (s0_2:Int) (a1:Int):Option (Int×Int×Int):=if a1<1 then (some (0,s0_1,s0_2)) else (if s0_1<(s0_0.length:Int) then (if 0≤s0_1 then (if a1=0 then (none) else (some (Int.tmod (wrap64 ((wrap64 (Go.bits .and .u64 ((IntKind.u64.wrap ((IntKind.u64.wrap (s0_2*6364136223846793005))+1442695040888963407)) / 8589934592) 16777215))+(wrap64 (rd s0_0 s0_1)))) a1,wrap64 (s0_1+1),IntKind.u64.wrap ((IntKind.u64.wrap (s0_2*6364136223846793005))+1442695040888963407)))) else (none)) else (if a1=0 then (none) else (some (Int.tmod (wrap64 (Go.bits .and .u64 ((IntKind.u64.wrap ((IntKind.u64.wrap (s0_2*6364136223846793005))+1442695040888963407)) / 8589934592) 16777215)) a1,s0_1,IntKind.u64.wrap ((IntKind.u64.wrap (s0_2*6364136223846793005))+1442695040888963407)))))
set_option maxHeartbeats 8000000 in
set_option maxRecDepth 100000 in
theorem spec_l01Next.calls (g:Nat) (s0_0:List Int) (s0_1:Int) (s0_2:Int) (a1:Int) (r1:Int) (r2:Int) (r3:Int) (w0 w:World) (hI:IsS92 w0 w g s0_0 s0_1 s0_2) (hB:Below w0.heap.size w0 w) (h:spec_l01Next.f s0_0 s0_1 s0_2 a1=some (r1,r2,r3)) :
  Calls Tryz.prog 67 #[.pointer (some ⟨g,0,none⟩),.int .i64 a1] w fun e w'=>e = .returned (.int .i64 r1)∧IsS92 w0 w' g s0_0 r2 r3∧Below w0.heap.size w0 w'∧KeepBut w w' g none:=by
 have HI0:=Aside0.mk hI;have HK:=Aside0.mk (KeepBut.refl w g none);have HL:=Aside0.mk hB.size;clear hI;have HW0:=Aside0.mk hB.size;have HB:=Aside0.mk hB;clear hB;have H:(if a1<1 then (some (0,s0_1,s0_2)) else (if s0_1<(s0_0.length:Int) then (if 0≤s0_1 then (if a1=0 then (none) else (some (Int.tmod (wrap64 ((wrap64 (Go.bits .and .u64 ((IntKind.u64.wrap ((IntKind.u64.wrap (s0_2*6364136223846793005))+1442695040888963407)) / 8589934592) 16777215))+(wrap64 (rd s0_0 s0_1)))) a1,wrap64 (s0_1+1),IntKind.u64.wrap ((IntKind.u64.wrap (s0_2*6364136223846793005))+1442695040888963407)))) else (none)) else (if a1=0 then (none) else (some (Int.tmod (wrap64 (Go.bits .and .u64 ((IntKind.u64.wrap ((IntKind.u64.wrap (s0_2*6364136223846793005))+1442695040888963407)) / 8589934592) 16777215)) a1,s0_1,IntKind.u64.wrap ((IntKind.u64.wrap (s0_2*6364136223846793005))+1442695040888963407))))))=some (r1,r2,r3):=h;clear h;by_cases c3:a1<1
 ·rw[if_pos c3] at H;have c3b0:decide (a1<1)=true:=decide_eq_true c3;clear c3;simp only [Option.some.injEq,Prod.mk.injEq] at H;obtain ⟨rfl,rfl,rfl⟩:=H;go_enter Tryz.func67,Tryz.ntmps67;go_wp2
  repeat(go_quiet (fail);try go_wp2)
  go_ret;exact⟨rr,IsS92.ch HI0.out,blg HB.out (IsS92.ge HI0.out),kp HK.out⟩
 ·rw[if_neg c3] at H;have c3b0:decide (a1<1)=false:=decide_eq_false c3;clear c3;by_cases c4:s0_1<(s0_0.length:Int)
  ·rw[if_pos c4] at H;have c4b0:decide (s0_1<(s0_0.length:Int))=true:=decide_eq_true c4;clear c4;by_cases c5:0≤s0_1
   ·rw[if_pos c5] at H;have c5b0:decide (0≤s0_1)=true:=decide_eq_true c5;clear c5;by_cases c6:a1=0
    ·rw[if_pos c6] at H;exact absurd H (by simp)
    ·rw[if_neg c6] at H;have c6b0:(a1 == 0)=false:=beq_eq_false_iff_ne.mpr c6;have c6b1:(a1 != 0)=true:=bne_iff_ne.mpr c6;simp only [Option.some.injEq,Prod.mk.injEq] at H;obtain ⟨rfl,rfl,rfl⟩:=H;obtain ⟨ASz7_0,cSz7_0,HGz7,hgz7,HSz7_0⟩:=HI0.out;have hcz7_0:=cellS92_0 HGz7;have hcz7_1:=cellS92_1 HGz7;have hcz7_2:=cellS92_2 HGz7;have hfz7_1:=blk_frozen HGz7 1;have hfz7_2:=blk_frozen HGz7 2;clear HGz7 hgz7;have p303:0≤(s0_1:Int):=dd;have q303:s0_1<(s0_0.length:Int):=dd;obtain ⟨ad303,e303,hx303_0⟩:=Kd.at_int HSz7_0 s0_1 p303 q303;cases e303;have hn303_0:ad303.block≠g:=Nat.ne_of_lt (Nat.lt_of_lt_of_le (by have:=World.block_lt_of_cell? _ _ hx303_0;first|rwa [add_block] at this|exact this) (IsS92.ge HI0.out));replace hx303_0:=pw_cell_below HB.out hx303_0;replace hx303_0:=(cell_far (p:=⟨g,2,none⟩) (by first|(rw[add_block];exact hn303_0)|(show (Addr.add _ _).block≠_;rw[add_block];exact hn303_0)|exact hn303_0) (.int .u64 (IntKind.u64.wrap ((IntKind.u64.wrap (s0_2*6364136223846793005))+1442695040888963407)))).trans hx303_0;(try have hy303_0:=fun(n_:Nat)=>(show (((w.drewN n_).setCell ⟨g,2,none⟩ (.int .u64 (IntKind.u64.wrap ((IntKind.u64.wrap (s0_2*6364136223846793005))+1442695040888963407))))).cell? _=some _ from hx303_0))
     clear hn303_0;replace p303:=eq_true p303;replace q303:=eq_true q303;go_enter Tryz.func67,Tryz.ntmps67;go_wp2
     repeat(go_quiet (fail);try go_wp2)
     go_ret;exact⟨rr,IsS92.ch HI0.out,blg HB.out (IsS92.ge HI0.out),kp HK.out⟩
   ·rw[if_neg c5] at H;exact absurd H (by simp)
  ·rw[if_neg c4] at H;have c4b0:decide (s0_1<(s0_0.length:Int))=false:=decide_eq_false c4;clear c4;by_cases c8:a1=0
   ·rw[if_pos c8] at H;exact absurd H (by simp)
   ·rw[if_neg c8] at H;have c8b0:(a1 == 0)=false:=beq_eq_false_iff_ne.mpr c8;have c8b1:(a1 != 0)=true:=bne_iff_ne.mpr c8;simp only [Option.some.injEq,Prod.mk.injEq] at H;obtain ⟨rfl,rfl,rfl⟩:=H;obtain ⟨ASz9_0,cSz9_0,HGz9,hgz9,HSz9_0⟩:=HI0.out;have hcz9_0:=cellS92_0 HGz9;have hcz9_1:=cellS92_1 HGz9;have hcz9_2:=cellS92_2 HGz9;have hfz9_1:=blk_frozen HGz9 1;have hfz9_2:=blk_frozen HGz9 2;clear HGz9 hgz9;go_enter Tryz.func67,Tryz.ntmps67;go_wp2
    repeat(go_quiet (fail);try go_wp2)
    go_ret;exact⟨rr,IsS92.ch HI0.out,blg HB.out (IsS92.ge HI0.out),kp HK.out⟩
def spec_l01Pick.f (s0_0:List Int) (s0_1:Int) (s0_2:Int) (l1:List Int):Option (Int×Int×Int):=(spec_l01Next.f s0_0 s0_1 s0_2 (l1.length:Int)).bind fun bt304=>(if 0≤bt304.1 then (if bt304.1<(l1.length:Int) then (some (rd l1 bt304.1,bt304.2.1,bt304.2.2)) else (none)) else (none))
set_option maxHeartbeats 8000000 in
set_option maxRecDepth 100000 in
theorem spec_l01Pick.calls (g:Nat) (s0_0:List Int) (s0_1:Int) (s0_2:Int) (A1:Option Addr) (c1:Nat) (l1:List Int) (r1:Int) (r2:Int) (r3:Int) (w0 w:World) (hI:IsS92 w0 w g s0_0 s0_1 s0_2) (hB:Below w0.heap.size w0 w) (hr1:Kd.C (Kd.int .i64) w A1 l1.length l1) (hc1:l1.length≤c1) (hf1:∀ ad,A1=some ad→0<l1.length→ad.block≠g) (h:spec_l01Pick.f s0_0 s0_1 s0_2 l1=some (r1,r2,r3)) :
  Calls Tryz.prog 81 #[.pointer (some ⟨g,0,none⟩),.slice A1 l1.length c1] w fun e w'=>e = .returned (.int .i64 r1)∧IsS92 w0 w' g s0_0 r2 r3∧Below w0.heap.size w0 w'∧KeepBut w w' g none:=by
 have HR1:=Aside0.mk hr1;have HC1:=Aside0.mk hc1;clear hr1 hc1;have HI0:=Aside0.mk hI;have HK:=Aside0.mk (KeepBut.refl w g none);have HL:=Aside0.mk hB.size;clear hI;have HW0:=Aside0.mk hB.size;have HB:=Aside0.mk hB;clear hB;have H:((spec_l01Next.f s0_0 s0_1 s0_2 (l1.length:Int)).bind fun bt304=>(if 0≤bt304.1 then (if bt304.1<(l1.length:Int) then (some (rd l1 bt304.1,bt304.2.1,bt304.2.2)) else (none)) else (none)))=some (r1,r2,r3):=h;clear h;replace H:=Option.bind_eq_some_iff.mp H;obtain ⟨⟨t304,t305,t306⟩,A30,H⟩:=H;replace H:(if 0≤t304 then (if t304<(l1.length:Int) then (some (rd l1 t304,t305,t306)) else (none)) else (none))=some (r1,r2,r3):=H;have A3:=Aside0.mk A30;clear A30;by_cases c4:0≤t304
 ·rw[if_pos c4] at H;have c4b0:decide (0≤t304)=true:=decide_eq_true c4;clear c4;by_cases c5:t304<(l1.length:Int)
  ·rw[if_pos c5] at H;have c5b0:decide (t304<(l1.length:Int))=true:=decide_eq_true c5;clear c5;simp only [Option.some.injEq,Prod.mk.injEq] at H;obtain ⟨rfl,rfl,rfl⟩:=H;go_enter Tryz.func81,Tryz.ntmps81;go_wp2_with (first|((with_reducible refine gate_callee (f:=67) rfl ?_);refine gl (some 9) Tryz.func67 #[.pointer (some ⟨g,0,none⟩),.int .i64 (l1.length:Int)] ?_;(with_reducible refine(spec_l01Next.calls g s0_0 s0_1 s0_2 (l1.length:Int) t304 t305 t306 w0 _ (IsS92.ch HI0.out) (blg HB.out (IsS92.ge HI0.out)) A3.out).mono ?_);rintro e w6 ⟨rfl,hi,hb,hk⟩;refine⟨_,rfl,?_⟩;replace HK:=Aside0.mk (KeepBut.trans (kp HK.out) hk (.inl rfl));replace HB:=Aside0.mk (hb);replace HI0:=Aside0.mk (hi);(try clear hb);(try clear hb2);(try clear hk);(try clear hi);have p307:0≤(t304:Int):=dd;have q307:t304<(l1.length:Int):=dd;obtain ⟨ad307,e307,hx307_0⟩:=Kd.at_int HR1.out t304 p307 q307;cases e307;replace hx307_0:=keep_cell HK.out hx307_0 (by first|(rw[add_block];exact hf1 _ rfl (by omega))|exact hf1 _ rfl (by omega)|exact hf1 ad307 rfl (by omega));replace p307:=eq_true p307;replace q307:=eq_true q307))
   go_ret;exact⟨rr,IsS92.ch HI0.out,blg HB.out (IsS92.ge HI0.out),kp HK.out⟩
  ·rw[if_neg c5] at H;exact absurd H (by simp)
 ·rw[if_neg c4] at H;exact absurd H (by simp)
end Go.Proofs.YtlhkdbkjafiikaaGreat.Q
end

section
namespace Go.Proofs.YtlhkdbkjafiikaaGreat.Q
open Go.RowKit Go.Proofs.YtlhkdbkjafiikaaGreatW.PrintWords Go.Proofs.YtlhkdbkjafiikaaGreatW.PrintLast Go.Proofs.YtlhkdbkjafiikaaGreatW.PrintMore
attribute [local go_sem] max2_int min2_int max_two min_two max_three min_three max_four min_four
set_option linter.unusedVariables false
set_option linter.unusedSimpArgs false
def spec_l01Near.f (s0_0:List Int) (s0_1:Int) (s0_2:Int) (a1:Int):Option (Int×Int×Int):=(spec_l01Next.f s0_0 s0_1 s0_2 14).bind fun bt459=>(if bt459.1=0 then ((spec_l01Pick.f s0_0 bt459.2.1 bt459.2.2 (([(-1),wrap64 (a1+1),1099511627776,(-4611686018427387904)]:List Int))).bind fun bt465=>(some (bt465.1,bt465.2.1,bt465.2.2))) else ((spec_l01Next.f s0_0 bt459.2.1 bt459.2.2 (wrap64 (a1+1))).bind fun bt468=>(some (bt468.1,bt468.2.1,bt468.2.2))))
set_option maxHeartbeats 8000000 in
set_option maxRecDepth 100000 in
theorem spec_l01Near.calls (g:Nat) (s0_0:List Int) (s0_1:Int) (s0_2:Int) (a1:Int) (r1:Int) (r2:Int) (r3:Int) (w0 w:World) (hI:IsS92 w0 w g s0_0 s0_1 s0_2) (hB:Below w0.heap.size w0 w) (h:spec_l01Near.f s0_0 s0_1 s0_2 a1=some (r1,r2,r3)) :
  Calls Tryz.prog 90 #[.pointer (some ⟨g,0,none⟩),.int .i64 a1] w fun e w'=>e = .returned (.int .i64 r1)∧IsS92 w0 w' g s0_0 r2 r3∧Below w0.heap.size w0 w'∧KeepBut w w' g none:=by
 have HI0:=Aside0.mk hI;have HK:=Aside0.mk (KeepBut.refl w g none);have HL:=Aside0.mk hB.size;clear hI;have HW0:=Aside0.mk hB.size;have HB:=Aside0.mk hB;clear hB;have H:((spec_l01Next.f s0_0 s0_1 s0_2 14).bind fun bt459=>(if bt459.1=0 then ((spec_l01Pick.f s0_0 bt459.2.1 bt459.2.2 (([(-1),wrap64 (a1+1),1099511627776,(-4611686018427387904)]:List Int))).bind fun bt465=>(some (bt465.1,bt465.2.1,bt465.2.2))) else ((spec_l01Next.f s0_0 bt459.2.1 bt459.2.2 (wrap64 (a1+1))).bind fun bt468=>(some (bt468.1,bt468.2.1,bt468.2.2)))))=some (r1,r2,r3):=h;clear h;replace H:=Option.bind_eq_some_iff.mp H;obtain ⟨⟨t459,t460,t461⟩,A30,H⟩:=H;replace H:(if t459=0 then ((spec_l01Pick.f s0_0 t460 t461 (([(-1),wrap64 (a1+1),1099511627776,(-4611686018427387904)]:List Int))).bind fun bt465=>(some (bt465.1,bt465.2.1,bt465.2.2))) else ((spec_l01Next.f s0_0 t460 t461 (wrap64 (a1+1))).bind fun bt468=>(some (bt468.1,bt468.2.1,bt468.2.2))))=some (r1,r2,r3):=H;have A3:=Aside0.mk A30;clear A30;by_cases c4:t459=0
 ·rw[if_pos c4] at H;have c4b0:(t459 == 0)=true:=beq_iff_eq.mpr c4;have c4b1:(t459 != 0)=false:=bne_eq_false_iff_eq.mpr c4;clear c4;obtain ⟨y462,hy462⟩:∃ y_:List Int,y_=(([(-1),wrap64 (a1+1),1099511627776,(-4611686018427387904)]:List Int)):=⟨_,rfl⟩
  replace H:((spec_l01Pick.f s0_0 t460 t461 y462).bind fun bt465=>(some (bt465.1,bt465.2.1,bt465.2.2)))=some (r1,r2,r3):=by first|(rw[hy462];with_reducible exact H)|(have H2_:=(Option.bind_some _ _).symm.trans H;rw[hy462];with_reducible exact H2_)|(have H2_:=(Option.bind_some _ _).symm.trans H;with_reducible exact H2_)|with_reducible exact H|(rw[hy462];exact H)|exact H
  have Ny462:=Aside0.mk hy462;clear hy462;replace H:=Option.bind_eq_some_iff.mp H;obtain ⟨⟨t465,t466,t467⟩,A50,H⟩:=H;replace H:(some (t465,t466,t467))=some (r1,r2,r3):=H;have A5:=Aside0.mk A50;clear A50;simp only [Option.some.injEq,Prod.mk.injEq] at H;obtain ⟨rfl,rfl,rfl⟩:=H;go_enter Tryz.func90,Tryz.ntmps90;go_wp2_with (first|((with_reducible refine gate_callee (f:=67) rfl ?_);refine gl (some 6) Tryz.func67 #[.pointer (some ⟨g,0,none⟩),.int .i64 14] ?_;(with_reducible refine(spec_l01Next.calls g s0_0 s0_1 s0_2 14 t459 t460 t461 w0 _ (IsS92.ch HI0.out) (blg HB.out (IsS92.ge HI0.out)) A3.out).mono ?_);rintro e w6 ⟨rfl,hi,hb,hk⟩;refine⟨_,rfl,?_⟩;replace HK:=Aside0.mk (KeepBut.trans (kp HK.out) hk (.inl rfl));replace HB:=Aside0.mk (hb);replace HI0:=Aside0.mk (hi);(try clear hb);(try clear hb2);(try clear hk);(try clear hi))|((with_reducible refine gate_dst (N:=11) rfl ?_);refine Kd.R_lit (Kd.int .i64) _ 2 ?hg (N:=11) ?hd (xs:=([(-1),wrap64 (a1+1),1099511627776,(-4611686018427387904)]:List Int)) (inner:= [.int .i64 (-1),.int .i64 (wrap64 (a1+1)),.int .i64 1099511627776,.int .i64 (-4611686018427387904)]) (ok:=fun _=>True) (okp:=fun _=>True) ?hr ?hp (fun _ hk=>hk) trivial (Below.refl _ _) (Nat.le_refl _) (by simp) ?_;(case hd=>rfl);(case hg=>rfl);(case hr=>first|(go_simp;done)|(go_simp;rfl));(case hp=>exact(Reps.one (show Kd.M (Kd.int .i64) _ _ _ (-1) [.int .i64 (-1)] from rfl) (Reps.one (show Kd.M (Kd.int .i64) _ _ _ (wrap64 (a1+1)) [.int .i64 (wrap64 (a1+1))] from rfl) (Reps.one (show Kd.M (Kd.int .i64) _ _ _ 1099511627776 [.int .i64 1099511627776] from rfl) (Reps.one (show Kd.M (Kd.int .i64) _ _ _ (-4611686018427387904) [.int .i64 (-4611686018427387904)] from rfl) (Reps.none _ _))))));intro v463 w7 ho8 hb hg_ hnew_;clear hg_ hnew_;(first|rw[← Ny462.out] at ho8|(simp only [Int.reduceToNat] at ho8;rw[← Ny462.out] at ho8));have HO464:=Aside0.mk (Kd.R_lower ho8 (keep_size (w:=w) (g:=g) (row:=none) (kp HK.out)));replace HK:=Aside0.mk (KeepBut.trans (kp HK.out) (KeepBut.of_below hb g none) (.inl rfl));replace HB:=Aside0.mk (below_step (blg HB.out (IsS92.ge HI0.out)) hb);replace HI0:=Aside0.mk (IsS92.below (IsS92.ch HI0.out) hb);clear hb ho8;obtain ⟨Ao9,co9,eo9⟩:=Kd.R_slice HO464.out;subst eo9)|((with_reducible refine gate_callee (f:=81) rfl ?_);refine gl (some 12) Tryz.func81 #[.pointer (some ⟨g,0,none⟩),.slice Ao9 y462.length co9] ?_;(with_reducible refine(spec_l01Pick.calls g s0_0 t460 t461 _ _ y462 t465 t466 t467 w0 _ (IsS92.ch HI0.out) (blg HB.out (IsS92.ge HI0.out)) (cb (Kd.R_reads' HO464.out).2.2) ((Kd.R_reads' HO464.out).2.1) (far_slice (IsS92.own_ne HI0.out HO464.out (by decide))) A5.out).mono ?_);rintro e w10 ⟨rfl,hi,hb,hk⟩;refine⟨_,rfl,?_⟩;replace HO464:=Aside0.mk (Kd.R_mono (Kd.R_keep (IsS92.apart (show IsS92 w0 _ g s0_0 t460 t461 from IsS92.ch HI0.out) (kr HO464.out) (by decide)) hk (fun _ h=>h.2)) (fun _ h=>h.1));replace HK:=Aside0.mk (KeepBut.trans (kp HK.out) hk (.inl rfl));replace HB:=Aside0.mk (hb);replace HI0:=Aside0.mk (hi);(try clear hb);(try clear hb2);(try clear hk);(try clear hi)))
  go_ret;exact⟨rr,IsS92.ch HI0.out,blg HB.out (IsS92.ge HI0.out),kp HK.out⟩
 ·rw[if_neg c4] at H;have c4b0:(t459 == 0)=false:=beq_eq_false_iff_ne.mpr c4;have c4b1:(t459 != 0)=true:=bne_iff_ne.mpr c4;replace H:=Option.bind_eq_some_iff.mp H;obtain ⟨⟨t468,t469,t470⟩,A110,H⟩:=H;replace H:(some (t468,t469,t470))=some (r1,r2,r3):=H;have A11:=Aside0.mk A110;clear A110;simp only [Option.some.injEq,Prod.mk.injEq] at H;obtain ⟨rfl,rfl,rfl⟩:=H;go_enter Tryz.func90,Tryz.ntmps90;go_wp2_with (first|((with_reducible refine gate_callee (f:=67) rfl ?_);refine gl (some 6) Tryz.func67 #[.pointer (some ⟨g,0,none⟩),.int .i64 14] ?_;(with_reducible refine(spec_l01Next.calls g s0_0 s0_1 s0_2 14 t459 t460 t461 w0 _ (IsS92.ch HI0.out) (blg HB.out (IsS92.ge HI0.out)) A3.out).mono ?_);rintro e w12 ⟨rfl,hi,hb,hk⟩;refine⟨_,rfl,?_⟩;replace HK:=Aside0.mk (KeepBut.trans (kp HK.out) hk (.inl rfl));replace HB:=Aside0.mk (hb);replace HI0:=Aside0.mk (hi);(try clear hb);(try clear hb2);(try clear hk);(try clear hi))|((with_reducible refine gate_callee (f:=67) rfl ?_);refine gl (some 16) Tryz.func67 #[.pointer (some ⟨g,0,none⟩),.int .i64 (wrap64 (a1+1))] ?_;(with_reducible refine(spec_l01Next.calls g s0_0 t460 t461 (wrap64 (a1+1)) t468 t469 t470 w0 _ (IsS92.ch HI0.out) (blg HB.out (IsS92.ge HI0.out)) A11.out).mono ?_);rintro e w13 ⟨rfl,hi,hb,hk⟩;refine⟨_,rfl,?_⟩;replace HK:=Aside0.mk (KeepBut.trans (kp HK.out) hk (.inl rfl));replace HB:=Aside0.mk (hb);replace HI0:=Aside0.mk (hi);(try clear hb);(try clear hb2);(try clear hk);(try clear hi)))
  go_ret;exact⟨rr,IsS92.ch HI0.out,blg HB.out (IsS92.ge HI0.out),kp HK.out⟩
def laws_hasInt.l0:Nat→List Int→Int→Int→Option (Bool)
 |0,_,_,_=>none
 |k+1,x0,x1,x5=>if x5<(x0.length:Int) then (if 0≤x5 then (if (rd x0 x5)=x1 then (some true) else (laws_hasInt.l0 k x0 x1 (wrap64 (x5+1)))) else (none)) else (some false)
def laws_hasInt.f (k:Nat) (l0:List Int) (a1:Int):Option (Bool):=laws_hasInt.l0 k l0 a1 0
theorem laws_hasInt.mono_l:∀ k,(∀ y0 y1 y2,LeO (laws_hasInt.l0 k y0 y1 y2) (laws_hasInt.l0 (k+1) y0 y1 y2))
 |0=>fun _ _ _ r h=>by simp [laws_hasInt.l0] at h
 |k+1=>by
  have ih0:=laws_hasInt.mono_l k
  ·intro y0 y1 y2;unfold laws_hasInt.l0;repeat' first
   |(with_reducible first|exact ih0 _ _ _|exact LeO.refl _|exact LeO.none _|refine LeO.ite ?_ ?_|refine LeO.bind ?_ (fun _=>?_))
theorem laws_hasInt.mono:∀ a0 a1 k,LeO (laws_hasInt.f k a0 a1) (laws_hasInt.f (k+1) a0 a1):=by
 intro a0 a1 k;have ih0:=laws_hasInt.mono_l k;unfold laws_hasInt.f;repeat' first
   |(with_reducible first|exact ih0 _ _ _|exact LeO.refl _|exact LeO.none _|refine LeO.ite ?_ ?_|refine LeO.bind ?_ (fun _=>?_))
set_option maxHeartbeats 8000000 in
set_option maxRecDepth 100000 in
theorem laws_hasInt.calls (k:Nat) (A0:Option Addr) (c0:Nat) (l0:List Int) (a1:Int) (r:Bool) (w:World) (hr0:Kd.C (Kd.int .i64) w A0 l0.length l0) (hc0:l0.length≤c0) (h:laws_hasInt.f k l0 a1=some r) :
  Calls Tryz.prog 14 #[.slice A0 l0.length c0,.int .i64 a1] w fun e w'=>e = .returned (.bool r)∧Drawn0 w w':=by
 have HR0:=Aside0.mk hr0;have HC0:=Aside0.mk hc0;clear hr0 hc0;have H:(laws_hasInt.l0 k l0 a1 0)=some r:=h;clear h;have H':=Aside0.mk H;clear H;go_enter Tryz.func14,Tryz.ntmps14;go_wp2
 go_loopg [5] k (fun kq v5 w'=>∃(x5_1:Int),v5 = .int .i64 x5_1∧Aside0 (laws_hasInt.l0 kq l0 a1 x5_1=some r)∧Aside0 (kq≤k)∧Drawn0 w w')
 case atStart=>exact⟨(0),rs,H',⟨Nat.le_refl _⟩,by repeat(first|exact Drawn0.refl _|apply Drawn0.step)⟩
 case round=>
  clear H';try clear c1
  try clear p2
  obtain ⟨x5_1,rfl,HA,HK1,⟨m1,rfl⟩⟩:=hrel;cases gk with
  |zero=>exact absurd HA.out (by simp [laws_hasInt.l0])
  |succ k1=>
   have H:=HA.out;clear HA;simp only [laws_hasInt.l0] at H;by_cases c3:x5_1<(l0.length:Int)
   ·rw[if_pos c3] at H;have c3b0:decide (x5_1<(l0.length:Int))=true:=decide_eq_true c3;clear c3;by_cases c4:0≤x5_1
    ·rw[if_pos c4] at H;have c4b0:decide (0≤x5_1)=true:=decide_eq_true c4;clear c4;by_cases c5:(rd l0 x5_1)=a1
     ·rw[if_pos c5] at H;have c5b0:((rd l0 x5_1) == a1)=true:=beq_iff_eq.mpr c5;have c5b1:((rd l0 x5_1) != a1)=false:=bne_eq_false_iff_eq.mpr c5;clear c5;obtain rfl:=Option.some.inj H;have p535:0≤(x5_1:Int):=dd;have q535:x5_1<(l0.length:Int):=dd;obtain ⟨ad535,e535,hx535_0⟩:=Kd.at_int HR0.out x5_1 p535 q535;cases e535;replace p535:=eq_true p535;replace q535:=eq_true q535;go_wp2
      go_ret;exact⟨rs,by repeat(first|exact Drawn0.refl _|apply Drawn0.step)⟩
     ·rw[if_neg c5] at H;have c5b0:((rd l0 x5_1) == a1)=false:=beq_eq_false_iff_ne.mpr c5;have c5b1:((rd l0 x5_1) != a1)=true:=bne_iff_ne.mpr c5;have H':=Aside0.mk H;clear H;have p535:0≤(x5_1:Int):=dd;have q535:x5_1<(l0.length:Int):=dd;obtain ⟨ad535,e535,hx535_0⟩:=Kd.at_int HR0.out x5_1 p535 q535;cases e535;replace p535:=eq_true p535;replace q535:=eq_true q535;go_wp2
      go_roundg k1
      case measure=>have:=HK1.out;omega
      case rel=>exact⟨(wrap64 (x5_1+1)),rs,H',⟨by have:=HK1.out;omega⟩,by repeat(first|exact Drawn0.refl _|apply Drawn0.step)⟩
    ·rw[if_neg c4] at H;exact absurd H (by simp)
   ·rw[if_neg c3] at H;have c3b0:decide (x5_1<(l0.length:Int))=false:=decide_eq_false c3;clear c3;obtain rfl:=Option.some.inj H;go_wp2
    go_ret;exact⟨rs,by repeat(first|exact Drawn0.refl _|apply Drawn0.step)⟩
def laws_likeInts.l0:Nat→List Int→List Int→Int→Option (Bool)
 |0,_,_,_=>none
 |k+1,x0,x1,x5=>if x5<(x0.length:Int) then (if 0≤x5 then (if x5<(x1.length:Int) then (if (rd x0 x5)=(rd x1 x5) then (laws_likeInts.l0 k x0 x1 (wrap64 (x5+1))) else (some false)) else (none)) else (none)) else (some true)
def laws_likeInts.f (k:Nat) (l0:List Int) (l1:List Int):Option (Bool):=if (l0.length:Int)=(l1.length:Int) then (laws_likeInts.l0 k l0 l1 0) else (some false)
theorem laws_likeInts.mono_l:∀ k,(∀ y0 y1 y2,LeO (laws_likeInts.l0 k y0 y1 y2) (laws_likeInts.l0 (k+1) y0 y1 y2))
 |0=>fun _ _ _ r h=>by simp [laws_likeInts.l0] at h
 |k+1=>by
  have ih0:=laws_likeInts.mono_l k
  ·intro y0 y1 y2;unfold laws_likeInts.l0;repeat' first
   |(with_reducible first|exact ih0 _ _ _|exact LeO.refl _|exact LeO.none _|refine LeO.ite ?_ ?_|refine LeO.bind ?_ (fun _=>?_))
theorem laws_likeInts.mono:∀ a0 a1 k,LeO (laws_likeInts.f k a0 a1) (laws_likeInts.f (k+1) a0 a1):=by
 intro a0 a1 k;have ih0:=laws_likeInts.mono_l k;unfold laws_likeInts.f;repeat' first
   |(with_reducible first|exact ih0 _ _ _|exact LeO.refl _|exact LeO.none _|refine LeO.ite ?_ ?_|refine LeO.bind ?_ (fun _=>?_))
set_option maxHeartbeats 8000000 in
set_option maxRecDepth 100000 in
theorem laws_likeInts.calls (k:Nat) (A0:Option Addr) (c0:Nat) (l0:List Int) (A1:Option Addr) (c1:Nat) (l1:List Int) (r:Bool) (w:World) (hr0:Kd.C (Kd.int .i64) w A0 l0.length l0) (hc0:l0.length≤c0) (hr1:Kd.C (Kd.int .i64) w A1 l1.length l1) (hc1:l1.length≤c1) (h:laws_likeInts.f k l0 l1=some r) :
  Calls Tryz.prog 34 #[.slice A0 l0.length c0,.slice A1 l1.length c1] w fun e w'=>e = .returned (.bool r)∧Drawn0 w w':=by
 have HR0:=Aside0.mk hr0;have HC0:=Aside0.mk hc0;clear hr0 hc0;have HR1:=Aside0.mk hr1;have HC1:=Aside0.mk hc1;clear hr1 hc1;have H:(if (l0.length:Int)=(l1.length:Int) then (laws_likeInts.l0 k l0 l1 0) else (some false))=some r:=h;clear h;by_cases c3:(l0.length:Int)=(l1.length:Int)
 ·rw[if_pos c3] at H;have c3b0:((l0.length:Int) == (l1.length:Int))=true:=beq_iff_eq.mpr c3;have c3b1:((l0.length:Int) != (l1.length:Int))=false:=bne_eq_false_iff_eq.mpr c3;have c3b2:(l0.length == l1.length)=true:=by first|simpa using c3|(simp at c3 ⊢;omega)
  clear c3;have H':=Aside0.mk H;clear H;go_enter Tryz.func34,Tryz.ntmps34;go_wp2
  repeat(go_quiet (fail);try go_wp2)
  go_loopg [5] k (fun kq v5 w'=>∃(x5_1:Int),v5 = .int .i64 x5_1∧Aside0 (laws_likeInts.l0 kq l0 l1 x5_1=some r)∧Aside0 (kq≤k)∧Drawn0 w w')
  case atStart=>exact⟨(0),rs,H',⟨Nat.le_refl _⟩,by repeat(first|exact Drawn0.refl _|apply Drawn0.step)⟩
  case round=>
   clear H';try clear c1
   try clear p2
   try clear c3
   try clear c3b0
   try clear c3b1
   try clear c3b2
   obtain ⟨x5_1,rfl,HA,HK1,⟨m1,rfl⟩⟩:=hrel;cases gk with
   |zero=>exact absurd HA.out (by simp [laws_likeInts.l0])
   |succ k1=>
    have H:=HA.out;clear HA;simp only [laws_likeInts.l0] at H;by_cases c4:x5_1<(l0.length:Int)
    ·rw[if_pos c4] at H;have c4b0:decide (x5_1<(l0.length:Int))=true:=decide_eq_true c4;clear c4;by_cases c5:0≤x5_1
     ·rw[if_pos c5] at H;have c5b0:decide (0≤x5_1)=true:=decide_eq_true c5;clear c5;by_cases c6:x5_1<(l1.length:Int)
      ·rw[if_pos c6] at H;have c6b0:decide (x5_1<(l1.length:Int))=true:=decide_eq_true c6;clear c6;by_cases c7:(rd l0 x5_1)=(rd l1 x5_1)
       ·rw[if_pos c7] at H;have c7b0:((rd l0 x5_1) == (rd l1 x5_1))=true:=beq_iff_eq.mpr c7;have c7b1:((rd l0 x5_1) != (rd l1 x5_1))=false:=bne_eq_false_iff_eq.mpr c7;clear c7;have H':=Aside0.mk H;clear H;have p536:0≤(x5_1:Int):=dd;have q536:x5_1<(l0.length:Int):=dd;obtain ⟨ad536,e536,hx536_0⟩:=Kd.at_int HR0.out x5_1 p536 q536;cases e536;replace p536:=eq_true p536;replace q536:=eq_true q536;have p537:0≤(x5_1:Int):=dd;have q537:x5_1<(l1.length:Int):=dd;obtain ⟨ad537,e537,hx537_0⟩:=Kd.at_int HR1.out x5_1 p537 q537;cases e537;replace p537:=eq_true p537;replace q537:=eq_true q537;go_wp2
        repeat(go_quiet (fail);try go_wp2)
        go_roundg k1
        case measure=>have:=HK1.out;omega
        case rel=>exact⟨(wrap64 (x5_1+1)),rs,H',⟨by have:=HK1.out;omega⟩,by repeat(first|exact Drawn0.refl _|apply Drawn0.step)⟩
       ·rw[if_neg c7] at H;have c7b0:((rd l0 x5_1) == (rd l1 x5_1))=false:=beq_eq_false_iff_ne.mpr c7;have c7b1:((rd l0 x5_1) != (rd l1 x5_1))=true:=bne_iff_ne.mpr c7;obtain rfl:=Option.some.inj H;have p536:0≤(x5_1:Int):=dd;have q536:x5_1<(l0.length:Int):=dd;obtain ⟨ad536,e536,hx536_0⟩:=Kd.at_int HR0.out x5_1 p536 q536;cases e536;replace p536:=eq_true p536;replace q536:=eq_true q536;have p537:0≤(x5_1:Int):=dd;have q537:x5_1<(l1.length:Int):=dd;obtain ⟨ad537,e537,hx537_0⟩:=Kd.at_int HR1.out x5_1 p537 q537;cases e537;replace p537:=eq_true p537;replace q537:=eq_true q537;go_wp2
        repeat(go_quiet (fail);try go_wp2)
        go_ret;exact⟨rs,by repeat(first|exact Drawn0.refl _|apply Drawn0.step)⟩
      ·rw[if_neg c6] at H;exact absurd H (by simp)
     ·rw[if_neg c5] at H;exact absurd H (by simp)
    ·rw[if_neg c4] at H;have c4b0:decide (x5_1<(l0.length:Int))=false:=decide_eq_false c4;clear c4;obtain rfl:=Option.some.inj H;go_wp2
     repeat(go_quiet (fail);try go_wp2)
     go_ret;exact⟨rs,by repeat(first|exact Drawn0.refl _|apply Drawn0.step)⟩
 ·rw[if_neg c3] at H;have c3b0:((l0.length:Int) == (l1.length:Int))=false:=beq_eq_false_iff_ne.mpr c3;have c3b1:((l0.length:Int) != (l1.length:Int))=true:=bne_iff_ne.mpr c3;have c3b2:(l0.length == l1.length)=false:=by first|simpa using c3|(simp at c3 ⊢;omega)
  obtain rfl:=Option.some.inj H;go_enter Tryz.func34,Tryz.ntmps34;go_wp2
  repeat(go_quiet (fail);try go_wp2)
  go_ret;exact⟨rs,by repeat(first|exact Drawn0.refl _|apply Drawn0.step)⟩
end Go.Proofs.YtlhkdbkjafiikaaGreat.Q
end

section
namespace Go.Proofs.YtlhkdbkjafiikaaGreat.Q
open Go.RowKit Go.Proofs.YtlhkdbkjafiikaaGreatW.PrintWords Go.Proofs.YtlhkdbkjafiikaaGreatW.PrintLast Go.Proofs.YtlhkdbkjafiikaaGreatW.PrintMore
attribute [local go_sem] max2_int min2_int max_two min_two max_three min_three max_four min_four
set_option linter.unusedVariables false
set_option linter.unusedSimpArgs false
def laws_complexes5.f (k:Nat) (a0_0:Int) (l0_1:List Int) (a1_0:Int) (l1_1:List Int):Option (Bool):=if a0_0=a1_0 then ((laws_likeInts.f k l0_1 l1_1).bind fun t540=>(some t540)) else (some false)
theorem laws_complexes5.mono:∀ a0 a1 a2 a3 k,LeO (laws_complexes5.f k a0 a1 a2 a3) (laws_complexes5.f (k+1) a0 a1 a2 a3):=by
 intro a0 a1 a2 a3 k;unfold laws_complexes5.f;repeat' first
   |(with_reducible first|exact laws_likeInts.mono _ _ _|exact LeO.refl _|exact LeO.none _|refine LeO.ite ?_ ?_|refine LeO.bind ?_ (fun _=>?_))
set_option maxHeartbeats 8000000 in
set_option maxRecDepth 100000 in
theorem laws_complexes5.calls (k:Nat) (a0_0:Int) (A0_1:Option Addr) (c0_1:Nat) (l0_1:List Int) (a1_0:Int) (A1_1:Option Addr) (c1_1:Nat) (l1_1:List Int) (r:Bool) (w:World) (hr0_1:Kd.C (Kd.int .i64) w A0_1 l0_1.length l0_1) (hc0_1:l0_1.length≤c0_1) (hr1_1:Kd.C (Kd.int .i64) w A1_1 l1_1.length l1_1) (hc1_1:l1_1.length≤c1_1) (h:laws_complexes5.f k a0_0 l0_1 a1_0 l1_1=some r) :
  Calls Tryz.prog 13 #[.agg #[.int .i64 a0_0,.slice A0_1 l0_1.length c0_1],.agg #[.int .i64 a1_0,.slice A1_1 l1_1.length c1_1]] w fun e w'=>e = .returned (.bool r)∧Below w.heap.size w w':=by
 have hu26:=Tryz.underlying26;have HR0_1:=Aside0.mk hr0_1;have HC0_1:=Aside0.mk hc0_1;clear hr0_1 hc0_1;have HR1_1:=Aside0.mk hr1_1;have HC1_1:=Aside0.mk hc1_1;clear hr1_1 hc1_1;have HB:=Aside0.mk (Below.refl w.heap.size w);have H:(if a0_0=a1_0 then ((laws_likeInts.f k l0_1 l1_1).bind fun t540=>(some t540)) else (some false))=some r:=h;clear h;by_cases c3:a0_0=a1_0
 ·rw[if_pos c3] at H;have c3b0:(a0_0 == a1_0)=true:=beq_iff_eq.mpr c3;have c3b1:(a0_0 != a1_0)=false:=bne_eq_false_iff_eq.mpr c3;clear c3;replace H:=Option.bind_eq_some_iff.mp H;obtain ⟨t540,A40,H⟩:=H;replace H:(some t540)=some r:=H;have A4:=Aside0.mk A40;clear A40;obtain rfl:=Option.some.inj H;go_enter Tryz.func13,Tryz.ntmps13;go_wp2_with (first|((with_reducible refine gate_dst (N:=2) rfl ?_);refine bx 2 #[.int .i64 a0_0,.slice A0_1 l0_1.length c0_1] 26 ?_;intro gb538 hg w5 hbox hb;have BK538:=Aside0.mk (hbox);have GE538:=gzA hg HB;replace HB:=bsA HB hb;clear hb hbox hg)|((with_reducible refine gate_dst (N:=3) rfl ?_);refine bx 3 #[.int .i64 a1_0,.slice A1_1 l1_1.length c1_1] 26 ?_;intro gb539 hg w6 hbox hb;have BK539:=Aside0.mk (hbox);have GE539:=gzA hg HB;replace HB:=bsA HB hb;have NB538_539:=nlA hg BK538;have NB539_538:=ngA hg BK538;replace BK538:=bkA BK538 hb;clear hb hbox hg;have hnb7:=NB538_539.out;have hnc7:=NB539_538.out;have hcz8_0:=z0_ BK538;have hcz8_1:=z1_ BK538;have hfz8_0:=hf_ BK538 0;have hfz8_1:=hf_ BK538 1;have hcz9_0:=z0_ BK539;have hcz9_1:=z1_ BK539;have hfz9_0:=hf_ BK539 0;have hfz9_1:=hf_ BK539 1)|(go_at_call 34;(with_reducible refine(laws_likeInts.calls k _ _ l0_1 _ _ l1_1 t540 _ (cb (Kd.C_below HR0_1.out HB.out)) HC0_1.out (cb (Kd.C_below HR1_1.out HB.out)) HC1_1.out A4.out).mono ?_);rintro e w' ⟨rfl,⟨nd,rfl⟩⟩))
  go_ret;exact⟨rr,bl HB.out⟩
 ·rw[if_neg c3] at H;have c3b0:(a0_0 == a1_0)=false:=beq_eq_false_iff_ne.mpr c3;have c3b1:(a0_0 != a1_0)=true:=bne_iff_ne.mpr c3;obtain rfl:=Option.some.inj H;go_enter Tryz.func13,Tryz.ntmps13;go_wp2_with (first|((with_reducible refine gate_dst (N:=2) rfl ?_);refine bx 2 #[.int .i64 a0_0,.slice A0_1 l0_1.length c0_1] 26 ?_;intro gb538 hg w10 hbox hb;have BK538:=Aside0.mk (hbox);have GE538:=gzA hg HB;replace HB:=bsA HB hb;clear hb hbox hg)|((with_reducible refine gate_dst (N:=3) rfl ?_);refine bx 3 #[.int .i64 a1_0,.slice A1_1 l1_1.length c1_1] 26 ?_;intro gb539 hg w11 hbox hb;have BK539:=Aside0.mk (hbox);have GE539:=gzA hg HB;replace HB:=bsA HB hb;have NB538_539:=nlA hg BK538;have NB539_538:=ngA hg BK538;replace BK538:=bkA BK538 hb;clear hb hbox hg;have hnb12:=NB538_539.out;have hnc12:=NB539_538.out;have hcz13_0:=z0_ BK538;have hcz13_1:=z1_ BK538;have hfz13_0:=hf_ BK538 0;have hfz13_1:=hf_ BK538 1;have hcz14_0:=z0_ BK539;have hcz14_1:=z1_ BK539;have hfz14_0:=hf_ BK539 0;have hfz14_1:=hf_ BK539 1))
  go_ret;exact⟨rr,bl HB.out⟩
def laws_big.f (l0:List Int):Option (Bool):=some (decide ((l0.length:Int)>4096))
set_option maxHeartbeats 8000000 in
set_option maxRecDepth 100000 in
theorem laws_big.calls (A0:Option Addr) (c0:Nat) (l0:List Int) (r:Bool) (w:World) (hr0:Kd.C (Kd.int .u8) w A0 l0.length l0) (hc0:l0.length≤c0) (h:laws_big.f l0=some r) :
  Calls Tryz.prog 5 #[.slice A0 l0.length c0] w fun e w'=>e = .returned (.bool r)∧Drawn0 w w':=by
 have HR0:=Aside0.mk hr0;have HC0:=Aside0.mk hc0;clear hr0 hc0;have H:(some (decide ((l0.length:Int)>4096)))=some r:=h;clear h;obtain rfl:=Option.some.inj H;go_enter Tryz.func5,Tryz.ntmps5;go_wp2
 go_ret;exact⟨rs,by repeat(first|exact Drawn0.refl _|apply Drawn0.step)⟩
def impl_Complex_full.f (a0_0:Int) (l0_1:List Int):Option (Int):=if 0≤a0_0 then (some (wrap64 ((shl .i64 1 a0_0) - 1))) else (none)
set_option maxHeartbeats 8000000 in
set_option maxRecDepth 100000 in
theorem impl_Complex_full.calls (a0_0:Int) (A0_1:Option Addr) (c0_1:Nat) (l0_1:List Int) (r:Int) (w:World) (hr0_1:Kd.C (Kd.int .i64) w A0_1 l0_1.length l0_1) (hc0_1:l0_1.length≤c0_1) (h:impl_Complex_full.f a0_0 l0_1=some r) :
  Calls Tryz.prog 79 #[.agg #[.int .i64 a0_0,.slice A0_1 l0_1.length c0_1]] w fun e w'=>e = .returned (.int .i64 r)∧Below w.heap.size w w':=by
 have hu26:=Tryz.underlying26;have HR0_1:=Aside0.mk hr0_1;have HC0_1:=Aside0.mk hc0_1;clear hr0_1 hc0_1;have HB:=Aside0.mk (Below.refl w.heap.size w);have H:(if 0≤a0_0 then (some (wrap64 ((shl .i64 1 a0_0) - 1))) else (none))=some r:=h;clear h;by_cases c2:0≤a0_0
 ·rw[if_pos c2] at H;have c2b0:=eq_true c2;have c2b1:decide (0≤a0_0)=true:=decide_eq_true c2;clear c2;obtain ⟨ji3,hji3⟩:∃ j_:Int,(shl .i64 1 a0_0)=j_:=⟨_,rfl⟩
  replace H:(some (wrap64 ((ji3) - 1)))=some r:=by first|(rw[hji3] at H;exact H)|(simp only [hji3] at H ⊢;exact H)
  have hji3_:(IntKind.i64.wrap (1*2 ^ min a0_0.toNat 64))=ji3:=hji3;have hji3z:a0_0≤64→(IntKind.i64.wrap (1*2 ^ a0_0.toNat))=ji3:=shl_small hji3;have hji3u:(IntKind.i64.wrap (2 ^ min a0_0.toNat 64))=ji3:=by have h_:=hji3_;rw[Int.one_mul] at h_;exact h_
  have hji3v:a0_0≤64→(IntKind.i64.wrap (2 ^ a0_0.toNat))=ji3:=fun hle_=>by have h_:=hji3z hle_;rw[Int.one_mul] at h_;exact h_
  have hji3y:(wrap64 (1*2 ^ min a0_0.toNat 64))=ji3:=(i64_w _).symm.trans hji3_;have hji3x:a0_0≤64→(wrap64 (1*2 ^ a0_0.toNat))=ji3:=fun h_=>(i64_w _).symm.trans (hji3z h_)
  obtain rfl:=Option.some.inj H;go_enter Tryz.func79,Tryz.ntmps79;go_wp2_with (first|((with_reducible refine gate_dst (N:=1) rfl ?_);refine bx 1 #[.int .i64 a0_0,.slice A0_1 l0_1.length c0_1] 26 ?_;intro gb541 hg w4 hbox hb;have BK541:=Aside0.mk (hbox);have GE541:=gzA hg HB;replace HB:=bsA HB hb;clear hb hbox hg;have hcz5_0:=z0_ BK541;have hcz5_1:=z1_ BK541;have hfz5_0:=hf_ BK541 0;have hfz5_1:=hf_ BK541 1))
  go_ret;exact⟨by first|rfl|(simp [errW_none,errW_some] <;> rfl)|(simp only [← hji3];first|rfl|(simp [errW_none,errW_some] <;> rfl))|(simp [*,errW_none,errW_some] <;> rfl),bl HB.out⟩
 ·rw[if_neg c2] at H;exact absurd H (by simp)
def impl_isIn.f (a0:Int) (a1:Int):Option (Bool):=some ((Go.bits .andNot .i64 a0 a1) == 0)
set_option maxHeartbeats 8000000 in
set_option maxRecDepth 100000 in
theorem impl_isIn.calls (a0:Int) (a1:Int) (r:Bool) (w:World) (h:impl_isIn.f a0 a1=some r) :
  Calls Tryz.prog 64 #[.int .i64 a0,.int .i64 a1] w fun e w'=>e = .returned (.bool r)∧Drawn0 w w':=by
 have H:(some ((Go.bits .andNot .i64 a0 a1) == 0))=some r:=h;clear h;obtain rfl:=Option.some.inj H;go_enter Tryz.func64,Tryz.ntmps64;go_wp2
 go_ret;exact⟨rs,by repeat(first|exact Drawn0.refl _|apply Drawn0.step)⟩
def impl_within.f (a0:Int) (a1:Int) (a2:Int):Option (Bool):=if a1≤a0 then (some (decide (a0≤a2))) else (some false)
set_option maxHeartbeats 8000000 in
set_option maxRecDepth 100000 in
theorem impl_within.calls (a0:Int) (a1:Int) (a2:Int) (r:Bool) (w:World) (h:impl_within.f a0 a1 a2=some r) :
  Calls Tryz.prog 93 #[.int .i64 a0,.int .i64 a1,.int .i64 a2] w fun e w'=>e = .returned (.bool r)∧Drawn0 w w':=by
 have H:(if a1≤a0 then (some (decide (a0≤a2))) else (some false))=some r:=h;clear h;by_cases c4:a1≤a0
 ·rw[if_pos c4] at H;have c4b0:decide (a1≤a0)=true:=decide_eq_true c4;clear c4;obtain rfl:=Option.some.inj H;go_enter Tryz.func93,Tryz.ntmps93;go_wp2
  go_ret;exact⟨rs,by repeat(first|exact Drawn0.refl _|apply Drawn0.step)⟩
 ·rw[if_neg c4] at H;have c4b0:decide (a1≤a0)=false:=decide_eq_false c4;clear c4;obtain rfl:=Option.some.inj H;go_enter Tryz.func93,Tryz.ntmps93;go_wp2
  go_ret;exact⟨rs,by repeat(first|exact Drawn0.refl _|apply Drawn0.step)⟩
def impl_isSize.f (a0:Int):Option (Bool):=(impl_within.f a0 1 6).bind fun t542=>(some t542)
set_option maxHeartbeats 8000000 in
set_option maxRecDepth 100000 in
theorem impl_isSize.calls (a0:Int) (r:Bool) (w:World) (h:impl_isSize.f a0=some r) :
  Calls Tryz.prog 128 #[.int .i64 a0] w fun e w'=>e = .returned (.bool r)∧Drawn0 w w':=by
 have H:((impl_within.f a0 1 6).bind fun t542=>(some t542))=some r:=h;clear h;replace H:=Option.bind_eq_some_iff.mp H;obtain ⟨t542,A20,H⟩:=H;replace H:(some t542)=some r:=H;have A2:=Aside0.mk A20;clear A20;obtain rfl:=Option.some.inj H;go_enter Tryz.func128,Tryz.ntmps128;go_wp2_with (first|((with_reducible refine gate_callee (f:=93) rfl ?_);refine gl (some 4) Tryz.func93 #[.int .i64 a0,.int .i64 1,.int .i64 6] ?_;(with_reducible refine(impl_within.calls a0 1 6 t542 _ A2.out).mono ?_);rintro e w' ⟨rfl,⟨nd,rfl⟩⟩;refine⟨_,rfl,?_⟩))
 go_ret;exact⟨rs,by repeat(first|exact Drawn0.refl _|apply Drawn0.step)⟩
def impl_vertices.l0:Nat→Int→List Int→Int→Option (List Int)
 |0,_,_,_=>none
 |k+1,x0,x3,x5=>if x5<6 then (if 0≤x5 then (if (Go.bits .and .i64 (shr .i64 x0 x5) 1)=1 then (if x3.length<17592186044416 then (impl_vertices.l0 k x0 (x3 ++ [x5]) (wrap64 (x5+1))) else (none)) else (impl_vertices.l0 k x0 x3 (wrap64 (x5+1)))) else (none)) else (some x3)
def impl_vertices.f (k:Nat) (a0:Int):Option (List Int):=impl_vertices.l0 k a0 ([]:List Int) 0
theorem impl_vertices.mono_l:∀ k,(∀ y0 y1 y2,LeO (impl_vertices.l0 k y0 y1 y2) (impl_vertices.l0 (k+1) y0 y1 y2))
 |0=>fun _ _ _ r h=>by simp [impl_vertices.l0] at h
 |k+1=>by
  have ih0:=impl_vertices.mono_l k
  ·intro y0 y1 y2;unfold impl_vertices.l0;repeat' first
   |(with_reducible first|exact ih0 _ _ _|exact LeO.refl _|exact LeO.none _|refine LeO.ite ?_ ?_|refine LeO.bind ?_ (fun _=>?_))
theorem impl_vertices.mono:∀ a0 k,LeO (impl_vertices.f k a0) (impl_vertices.f (k+1) a0):=by
 intro a0 k;have ih0:=impl_vertices.mono_l k;unfold impl_vertices.f;repeat' first
   |(with_reducible first|exact ih0 _ _ _|exact LeO.refl _|exact LeO.none _|refine LeO.ite ?_ ?_|refine LeO.bind ?_ (fun _=>?_))
set_option maxHeartbeats 8000000 in
set_option maxRecDepth 100000 in
theorem impl_vertices.calls (k:Nat) (a0:Int) (r:List Int) (w:World) (h:impl_vertices.f k a0=some r) :
  Calls Tryz.prog 131 #[.int .i64 a0] w fun e w'=>∃ v0_:Value,e = .returned (v0_)∧Kd.R (Kd.int .i64) 2 w' w.heap.size (fun _=>True) v0_ r∧Below w.heap.size w w':=by
 have HB:=Aside0.mk (Below.refl w.heap.size w);have H:(impl_vertices.l0 k a0 ([]:List Int) 0)=some r:=h;clear h;have H':=Aside0.mk H;clear H;go_enter Tryz.func131,Tryz.ntmps131;go_wp2
 go_loopg [3,5] k (fun kq v3 v5 w'=>∃(x3_1:List Int) (x5_1:Int),v5 = .int .i64 x5_1∧Aside0 (impl_vertices.l0 kq a0 x3_1 x5_1=some r)∧Aside0 (kq≤k)∧Aside0 (Kd.R (Kd.int .i64) 2 w' w.heap.size (fun _=>True) v3 x3_1)∧Aside0 (Below w.heap.size w w'))
 case atStart=>exact⟨(([]:List Int)),(0),rs,H',⟨Nat.le_refl _⟩,⟨by first|exact Kd.R_nil _ _ _ _ _|exact Kd.N_nil _ _ _ _ _|exact Kd.V_nil _ _ _ _ _|exact Kd.Q_nil _ _ _ _ _|exact Kd.S_nil _ _ _ _ _⟩,⟨bl HB.out⟩⟩
 case round=>
  clear H';try clear c1
  obtain ⟨x3_1,x5_1,rfl,HA,HK1,HO_3,HB⟩:=hrel;cases gk with
  |zero=>exact absurd HA.out (by simp [impl_vertices.l0])
  |succ k1=>
   have H:=HA.out;clear HA;simp only [impl_vertices.l0] at H;by_cases c2:x5_1<6
   ·rw[if_pos c2] at H;have c2b0:decide (x5_1<6)=true:=decide_eq_true c2;clear c2;by_cases c3:0≤x5_1
    ·rw[if_pos c3] at H;have c3b0:=eq_true c3;have c3b1:decide (0≤x5_1)=true:=decide_eq_true c3;clear c3;obtain ⟨ji4,hji4⟩:∃ j_:Int,(shr .i64 a0 x5_1)=j_:=⟨_,rfl⟩
     replace H:(if (Go.bits .and .i64 (ji4) 1)=1 then (if x3_1.length<17592186044416 then (impl_vertices.l0 k1 a0 (x3_1 ++ [x5_1]) (wrap64 (x5_1+1))) else (none)) else (impl_vertices.l0 k1 a0 x3_1 (wrap64 (x5_1+1))))=some r:=by first|(rw[hji4] at H;exact H)|(simp only [hji4] at H ⊢;exact H)
     have hji4_:(a0 / 2 ^ min x5_1.toNat 64)=ji4:=hji4;have hji4z:x5_1≤64→(a0 / 2 ^ x5_1.toNat)=ji4:=shr_small hji4;by_cases c5:(Go.bits .and .i64 (ji4) 1)=1
     ·rw[if_pos c5] at H;have c5b0:((Go.bits .and .i64 (ji4) 1) == 1)=true:=beq_iff_eq.mpr c5;have c5b1:((Go.bits .and .i64 (ji4) 1) != 1)=false:=bne_eq_false_iff_eq.mpr c5;clear c5;by_cases c6:x3_1.length<17592186044416
      ·rw[if_pos c6] at H;have LMc6:=Aside0.mk c6;clear c6;obtain ⟨y543,hy543⟩:∃ y_:List Int,y_=(x3_1 ++ [x5_1]):=⟨_,rfl⟩
       replace H:(impl_vertices.l0 k1 a0 y543 (wrap64 (x5_1+1)))=some r:=by first|(rw[hy543];with_reducible exact H)|(have H2_:=(Option.bind_some _ _).symm.trans H;rw[hy543];with_reducible exact H2_)|(have H2_:=(Option.bind_some _ _).symm.trans H;with_reducible exact H2_)|with_reducible exact H|(rw[hy543];exact H)|exact H
       have Ny543:=Aside0.mk hy543;clear hy543;have H':=Aside0.mk H;clear H;go_wp2_with (first|((with_reducible refine gate_builtin (b:= .append) (xs:=#[.tmp 13,.tmp 15]) rfl ?_);at_builtin;refine Kd.R_append (Kd.int .i64) (w0:=w) w.heap.size rfl (.tmp 13) (.tmp 15) 24 2 (.int .i64 0) 8 rfl Tryz.underlying24 info2 rfl (by decide) (by omega) u3 x3_1 x5_1 [.int .i64 x5_1] (fun _=>True) (fun _=>False) rfl rfl ?aP (fun _ hk=>hk.elim) ?aF ?aO ?aB ?aS ?aL ?_;(case aP=>exact rfl);(case aB=>exact(bl HB.out));(case aF=>exact(fun _ _=>trivial));(case aO=>exact(kr HO_3.out));(case aS=>exact(below_size (bl HB.out)));(case aL=>have:=LMc6.out;omega);intro v544 w7 ho hb hg hat;rw[← Ny543.out] at ho;have n0_:=Aside0.mk (hb);have n1_:=Aside0.mk (ho);clear HB;clear HO_3;have HB:=n0_;have HO545:=n1_;clear n0_ n1_;clear ho hb hg hat))
       go_roundg k1
       case measure=>have:=HK1.out;omega
       case rel=>exact⟨(y543),(wrap64 (x5_1+1)),rs,H',⟨by have:=HK1.out;omega⟩,⟨kr HO545.out⟩,⟨bl HB.out⟩⟩
      ·rw[if_neg c6] at H;exact absurd H (by simp)
     ·rw[if_neg c5] at H;have c5b0:((Go.bits .and .i64 (ji4) 1) == 1)=false:=beq_eq_false_iff_ne.mpr c5;have c5b1:((Go.bits .and .i64 (ji4) 1) != 1)=true:=bne_iff_ne.mpr c5;have H':=Aside0.mk H;clear H;go_wp2
      go_roundg k1
      case measure=>have:=HK1.out;omega
      case rel=>exact⟨(x3_1),(wrap64 (x5_1+1)),rs,H',⟨by have:=HK1.out;omega⟩,⟨kr HO_3.out⟩,⟨bl HB.out⟩⟩
    ·rw[if_neg c3] at H;exact absurd H (by simp)
   ·rw[if_neg c2] at H;have c2b0:decide (x5_1<6)=false:=decide_eq_false c2;clear c2;obtain rfl:=Option.some.inj H;go_wp2
    go_ret;exact⟨_,rr,by(with_reducible repeat(first|apply Kd.R_alloc|apply Kd.R_drewN|apply Kd.R_drew));exact HO_3.out,bl HB.out⟩
def cmp_isNaN_int64.f (a0:Int):Option (Bool):=some (a0 != a0)
set_option maxHeartbeats 8000000 in
set_option maxRecDepth 100000 in
theorem cmp_isNaN_int64.calls (a0:Int) (r:Bool) (w:World) (h:cmp_isNaN_int64.f a0=some r) :
  Calls Tryz.prog 166 #[.int .i64 a0] w fun e w'=>e = .returned (.bool r)∧Drawn0 w w':=by
 have H:(some (a0 != a0))=some r:=h;clear h;obtain rfl:=Option.some.inj H;go_enter Tryz.func166,Tryz.ntmps166;go_wp2
 go_ret;exact⟨rs,by repeat(first|exact Drawn0.refl _|apply Drawn0.step)⟩
def cmp_Less_int64.f (a0:Int) (a1:Int):Option (Bool):=(cmp_isNaN_int64.f a0).bind fun t546=>(if t546=true then ((cmp_isNaN_int64.f a1).bind fun t547=>(if t547=true then (some (decide (a0<a1))) else (some true))) else (some (decide (a0<a1))))
set_option maxHeartbeats 8000000 in
set_option maxRecDepth 100000 in
theorem cmp_Less_int64.calls (a0:Int) (a1:Int) (r:Bool) (w:World) (h:cmp_Less_int64.f a0 a1=some r) :
  Calls Tryz.prog 147 #[.int .i64 a0,.int .i64 a1] w fun e w'=>e = .returned (.bool r)∧Drawn0 w w':=by
 have H:((cmp_isNaN_int64.f a0).bind fun t546=>(if t546=true then ((cmp_isNaN_int64.f a1).bind fun t547=>(if t547=true then (some (decide (a0<a1))) else (some true))) else (some (decide (a0<a1)))))=some r:=h;clear h;replace H:=Option.bind_eq_some_iff.mp H;obtain ⟨t546,A30,H⟩:=H;replace H:(if t546=true then ((cmp_isNaN_int64.f a1).bind fun t547=>(if t547=true then (some (decide (a0<a1))) else (some true))) else (some (decide (a0<a1))))=some r:=H;have A3:=Aside0.mk A30;clear A30;by_cases c4:t546=true
 ·subst c4;have H1:((cmp_isNaN_int64.f a1).bind fun t547=>(if t547=true then (some (decide (a0<a1))) else (some true)))=some r:=by rw[if_pos rfl] at H;exact H
  clear H;have H:=H1;clear H1;replace H:=Option.bind_eq_some_iff.mp H;obtain ⟨t547,A50,H⟩:=H;replace H:(if t547=true then (some (decide (a0<a1))) else (some true))=some r:=H;have A5:=Aside0.mk A50;clear A50;by_cases c6:t547=true
  ·subst c6;have H1:(some (decide (a0<a1)))=some r:=by rw[if_pos rfl] at H;exact H
   clear H;have H:=H1;clear H1;obtain rfl:=Option.some.inj H;go_enter Tryz.func147,Tryz.ntmps147;go_wp2_with (first|((with_reducible refine gate_callee (f:=166) rfl ?_);refine gl (some 6) Tryz.func166 #[.int .i64 a0] ?_;(with_reducible refine(cmp_isNaN_int64.calls a0 true _ A3.out).mono ?_);rintro e w' ⟨rfl,⟨nd,rfl⟩⟩;refine⟨_,rfl,?_⟩)|(go_at_call 166;(with_reducible refine(cmp_isNaN_int64.calls a1 true _ A5.out).mono ?_);rintro e w' ⟨rfl,⟨nd,rfl⟩⟩))
   go_ret;exact⟨rs,by repeat(first|exact Drawn0.refl _|apply Drawn0.step)⟩
  ·replace c6:=Bool.eq_false_iff.mpr c6;subst c6;have H1:(some true)=some r:=by rw[if_neg (show ¬ (false=true) by decide)] at H;exact H
   clear H;have H:=H1;clear H1;obtain rfl:=Option.some.inj H;go_enter Tryz.func147,Tryz.ntmps147;go_wp2_with (first|((with_reducible refine gate_callee (f:=166) rfl ?_);refine gl (some 6) Tryz.func166 #[.int .i64 a0] ?_;(with_reducible refine(cmp_isNaN_int64.calls a0 true _ A3.out).mono ?_);rintro e w' ⟨rfl,⟨nd,rfl⟩⟩;refine⟨_,rfl,?_⟩)|(go_at_call 166;(with_reducible refine(cmp_isNaN_int64.calls a1 false _ A5.out).mono ?_);rintro e w' ⟨rfl,⟨nd,rfl⟩⟩))
   go_ret;exact⟨rs,by repeat(first|exact Drawn0.refl _|apply Drawn0.step)⟩
 ·replace c4:=Bool.eq_false_iff.mpr c4;subst c4;have H1:(some (decide (a0<a1)))=some r:=by rw[if_neg (show ¬ (false=true) by decide)] at H;exact H
  clear H;have H:=H1;clear H1;obtain rfl:=Option.some.inj H;go_enter Tryz.func147,Tryz.ntmps147;go_wp2_with (first|((with_reducible refine gate_callee (f:=166) rfl ?_);refine gl (some 6) Tryz.func166 #[.int .i64 a0] ?_;(with_reducible refine(cmp_isNaN_int64.calls a0 false _ A3.out).mono ?_);rintro e w' ⟨rfl,⟨nd,rfl⟩⟩;refine⟨_,rfl,?_⟩))
  go_ret;exact⟨rs,by repeat(first|exact Drawn0.refl _|apply Drawn0.step)⟩
def slices_isNaN_int64.f (a0:Int):Option (Bool):=some (a0 != a0)
set_option maxHeartbeats 8000000 in
set_option maxRecDepth 100000 in
theorem slices_isNaN_int64.calls (a0:Int) (r:Bool) (w:World) (h:slices_isNaN_int64.f a0=some r) :
  Calls Tryz.prog 148 #[.int .i64 a0] w fun e w'=>e = .returned (.bool r)∧Drawn0 w w':=by
 have H:(some (a0 != a0))=some r:=h;clear h;obtain rfl:=Option.some.inj H;go_enter Tryz.func148,Tryz.ntmps148;go_wp2
 go_ret;exact⟨rs,by repeat(first|exact Drawn0.refl _|apply Drawn0.step)⟩
end Go.Proofs.YtlhkdbkjafiikaaGreat.Q
end

section
namespace Go.Proofs.YtlhkdbkjafiikaaGreat.K
open Go.RowKit Go.Shelf Go.Proofs.YtlhkdbkjafiikaaGreat.Q Go.Proofs.YtlhkdbkjafiikaaGreatW.PrintWords Go.Proofs.YtlhkdbkjafiikaaGreatW.PrintLast Go.Proofs.YtlhkdbkjafiikaaGreatW.PrintMore
set_option linter.unusedVariables false
set_option linter.unusedSimpArgs false
def vbit (f v:Int):Bool:=decide (Go.bits .and .i64 (shr .i64 f v) 1=1)
def verts (f:Int):List Int:= [0,1,2,3,4,5].filter (vbit f)
theorem verts_step (k:Nat) (f:Int) (acc:List Int) (i:Int) (h0:0≤i) (h6:i<6) (ha:acc.length<100) :
  impl_vertices.l0 (k+1) f acc i=impl_vertices.l0 k f (acc ++ [i].filter (vbit f)) (i+1):=by
 have hw:wrap64 (i+1)=i+1:=by unfold wrap64;omega
 simp only [impl_vertices.l0]
 rw[if_pos h6,if_pos h0,hw]
 by_cases hb:Go.bits .and .i64 (shr .i64 f i) 1=1
 ·rw[if_pos hb,if_pos (by omega)]
  simp [vbit,hb]
 ·rw[if_neg hb]
  simp [vbit,hb]
theorem verts_is (f:Int):impl_vertices.f 7 f=some (verts f):=by
 unfold impl_vertices.f
 have hl:∀(i:Int),([i].filter (vbit f)).length≤1:=fun i=>by have:=List.length_filter_le (vbit f) [i];simpa using this
 rw[verts_step _ _ _ _ (by omega) (by omega) (by simp),verts_step _ _ _ _ (by omega) (by omega) (by have:=hl 0;simp;omega),
  verts_step _ _ _ _ (by omega) (by omega) (by have:=hl 0;have:=hl 1;simp;omega),
  verts_step _ _ _ _ (by omega) (by omega) (by have:=hl 0;have:=hl 1;have:=hl 2;simp;omega),
  verts_step _ _ _ _ (by omega) (by omega) (by have:=hl 0;have:=hl 1;have:=hl 2;have:=hl 3;simp;omega),
  verts_step _ _ _ _ (by omega) (by omega) (by have:=hl 0;have:=hl 1;have:=hl 2;have:=hl 3;have:=hl 4;simp;omega)]
 simp only [impl_vertices.l0]
 rw[if_neg (by omega)]
 congr 1
 unfold verts
 rw[show ([0,1,2,3,4,5]:List Int) = [0] ++ [1] ++ [2] ++ [3] ++ [4] ++ [5] from rfl]
 simp only [List.filter_append,List.nil_append]
 rfl
theorem verts_range (f v:Int) (h:v ∈ verts f):0≤v∧v<6:=by
 unfold verts at h
 have:=(List.mem_filter.1 h).1
 simp at this
 omega
theorem vertices_calls (f:Int) (w:World) :
  Calls Tryz.prog 131 #[I f] w fun e w'=>∃ v,e = .returned v∧Ki.R 2 w' w.heap.size (fun _=>True) v (verts f)∧Grew w w':=
 impl_vertices.calls 7 f (verts f) w (verts_is f)
end Go.Proofs.YtlhkdbkjafiikaaGreat.K
end

section
namespace Go.Proofs.YtlhkdbkjafiikaaGreat.K
open Go.RowKit Go.Shelf Go.Proofs.YtlhkdbkjafiikaaGreatW.PrintWords Go.Proofs.YtlhkdbkjafiikaaGreatW.PrintLast Go.Proofs.YtlhkdbkjafiikaaGreatW.PrintMore
set_option linter.unusedVariables false
set_option linter.unusedSimpArgs false
attribute [local go_sem] Oper.semAt_some
def without (f v:Int):Int:=Go.bits .andNot .i64 f (IntKind.i64.wrap (2 ^ v.toNat))
def bordsOf (f:Int) (vs:List Int):List Int:=(vs.map (without f)).filter (·≠0)
def bords (f:Int):List Int:=bordsOf f (verts f).reverse
theorem info2:(Tryz.prog.info? 2).map (fun i=>(i.zero,i.size,i.bytes))=some (some (.int .i64 0),1,8):=by kernel_rfl
theorem bordsOf_snoc (f:Int) (vs:List Int) (v:Int):bordsOf f (vs ++ [v])=bordsOf f vs ++ if without f v=0 then [] else [without f v]:=by
 unfold bordsOf
 by_cases h:without f v=0 <;> simp [List.filter_cons,h]
theorem bordsOf_length (f:Int) (vs:List Int):(bordsOf f vs).length≤vs.length:=by
 unfold bordsOf
 have:=List.length_filter_le (fun x:Int=>decide (x≠0)) (vs.map (without f))
 simpa using this
theorem boxed_own' {β:Type} (B:Nat) (t:TypeId) (f:β→Value):Own (fun s W=>Boxed W B t (f s)):=fun s X Y row hs hg hrow=>
 hs.kept hg (fun e'=>by
  obtain ⟨o,ho,hc⟩:=hrow B e'.symm
  rw[show X.heap[B]?=_ from hs] at ho
  cases ho
  cases hc)
theorem own_size {β:Type} (n B:Nat):OwnFrom B (fun(_:β) W=>n≤W.heap.size):=fun _ _ _ _ hs hg _=>Nat.le_trans hs hg.size
def vxs (f:Int):List Vx:=(verts f).attach.map fun x=>⟨x.1,by have:=verts_range f x.1 x.2;omega⟩
theorem vxs_val (f:Int):(vxs f).map (·.val)=verts f:=by simp [vxs]
theorem verts_length (f:Int):(verts f).length≤6:=by
 unfold verts
 have:=List.length_filter_le (vbit f) [0,1,2,3,4,5]
 simpa using this
theorem vxs_length (f:Int):(vxs f).length≤6:=by
 have:=congrArg List.length (vxs_val f)
 have h:=verts_length f
 simp at this;omega
theorem R_Vs {W:World} {base B n:Nat} {ok:Nat→Prop} {v:Value} {zs:List Vx} (h:Ki.R 2 W base ok v (zs.map (·.val))) (hB:B<base) (hn:W.heap.size≤n):Vs B n W v zs:=by
 have ho:=Kd.own_of_R h
 rcases ho.2 with ⟨rfl,h0⟩|⟨g,cap,cur,rfl,hg,hh,r⟩
 ·left
  simp at h0
  exact⟨rfl,h0⟩
 ·right
  refine⟨g,cap,by simp,?_,by omega,fun j hj=>?_⟩
  ·have:=(Array.getElem?_eq_some_iff.1 hh).1;omega
  ·have:=(Kd.R_cell (0:Int) h (j:Int) (by omega) (by simpa using hj)).1
   simpa [rdOf,hj] using this
set_option maxRecDepth 100000 in
set_option maxHeartbeats 2000000 in
theorem borders_in (f:Int) (w:World) :
  CallsIn Fence.wide 3 Tryz.prog 130 #[I f] w fun e w'=>∃ v,e = .returned v∧Ki.R 2 w' w.heap.size (fun _=>True) v (bords f)∧Grew w w':=by
 obtain ⟨i0,hi,hz0,hz1,hz2⟩:=info_parts info2
 refine callsIn_of_wp_marks Tryz.func130 rfl trivial ?_ rfl
 simp only [Tryz.ntmps130,List.size_toArray,List.length_cons,List.length_nil,Nat.reduceAdd,Nat.reduceSub,Array.replicate_succ,Array.replicate_zero,List.push_toArray,List.append_toArray,List.nil_append,List.cons_append]
 gi_wp2
 refine⟨trivial,?_⟩
 refine(callsIn_wide.2 (vertices_calls f _)).mono ?_
 rintro e w1 ⟨v,rfl,hR,hG⟩
 have hz:w.heap.size+2≤w1.heap.size:=by have:=hG.size;simpa using this
 have hB1:Grew w w1:=(below_alloc (below_alloc (Grew.refl w) _) _).trans (hG.mono (by simp;omega))
 obtain ⟨A,c,hv⟩:=Kd.R_slice hR
 subst hv
 have bF:Boxed w1 w.heap.size 2 (I f):=blk_below (blk_alloc (blk_new w _) _) hG
 have bO:Boxed w1 (w.heap.size+1) 24 (.slice none 0 0):=by
  have:=blk_new (w.alloc (.cells #[I f] 2)) (.cells #[.slice none 0 0] 24)
  rw[World.size_alloc] at this
  exact blk_below this hG
 have hVs:Vs (w.heap.size+1) (w1.heap.size+1) w1 (.slice A (verts f).length c) (vxs f):=R_Vs (base:=w.heap.size+2) (by rw[vxs_val];simpa using hR) (by omega) (by omega)
 have HVs:=Aside0.mk hVs
 have HB1:=Aside0.mk hB1
 have HBF:=Aside0.mk bF
 have HBO:=Aside0.mk bO
 clear hVs hB1 bF bO hR hG
 gi_wp2
 refine⟨trivial,?_⟩
 refine(Backward_in Fence.wide _ trivial rfl _ _ _ _).mono ?_
 rintro e w2 ⟨rfl,rfl⟩
 gi_wp2
 have hBo:Boxed (w1.alloc (.cells #[.slice A (verts f).length c] 24)) (w.heap.size+1) 24 (.slice none 0 0):=HBO.out.alloc _
 refine wpIn_rangeFunc_ownG rfl (by omega) (gf:=167) (lb:=#[.pointer (some ⟨w1.heap.size,0,none⟩)]) rfl trivial (enters_of Tryz.func167 (by kernel_rfl) rfl)
  (Backward_stops Fence.wide _ trivial rfl (by omega) w1.heap.size (w.heap.size+1) (w1.heap.size+1) (.slice A (verts f).length c) (vxs f) (by have:=vxs_length f;omega) _ (by omega) (by omega) (by simp) (Boxed.new w1 24 _).cell
   (by
    rcases HVs.out with h|⟨b,cap,h1,h2,h3,h4⟩
    ·exact .inl h
    ·exact .inr ⟨b,cap,h1,h2,h3,fun j hj=>by
      have h5:=h4 j hj
      have hlt:b<w1.heap.size:=by
       unfold World.cell? at h5
       split at h5
       ·rename_i he;exact(Array.getElem?_eq_some_iff.1 he).1
       ·cases h5
      exact((below_alloc (Grew.refl w1) _).cell (p:=⟨b,j,none⟩) hlt).trans h5⟩))
  (fun h k=>KeptBut.t h k)
  (fun W l o o' hl ho _ _ k hk _=>by
   have:=(grownBy_putObj' W l o').block k (by have:=(Array.getElem?_eq_some_iff.1 ho).1;simp at hl;omega) (by intro e;cases e;simp at hl;omega)
   exact this)
  (Grew.refl _) (fun _=>rfl)
  (fun pre W=>((∃ v,Boxed W (w.heap.size+1) 24 v∧W.ownsRow (w1.heap.size+1) 2 1 v (bordsOf f (pre.map (·.2.val))).length ((bordsOf f (pre.map (·.2.val))).map (Value.int .i64))∧True)∧Boxed W w.heap.size 2 (I f))∧w1.heap.size+1≤W.heap.size∧Below w.heap.size w W)
  (fun _ _ _=>False)
  (OwnFrom.and (OwnFrom.and (Own.from (holdsRow_own (w1.heap.size+1) (w.heap.size+1) 24 2 1 (fun pre:List (Nat×Vx)=>(bordsOf f (pre.map (·.2.val))).length) (fun pre=>(bordsOf f (pre.map (·.2.val))).map (Value.int .i64)) (fun _ _=>True)) _) (Own.from (boxed_own' _ _ (fun _=>I f)) _)) (OwnFrom.and (own_size (w1.heap.size+1) _) (ownFrom_below (Nat.le_refl _) (by simp;omega))))
  (fun _ _ _ _ _ hs _ _=>hs)
  ⟨⟨⟨_,hBo,World.ownsRow_nil _ _ _ _,trivial⟩,HBF.out.alloc _⟩,by simp,HB1.out.trans ((below_alloc (Grew.refl w1) _).mono (by omega))⟩
  (fun x=>{ tmps:=#[I f,.pointer (some ⟨w.heap.size,0,none⟩),.slice none 0 0,.pointer (some ⟨w.heap.size+1,0,none⟩),undef,I x.2.val,undef,I f,.slice A (verts f).length c,.func (.func 167) #[] #[.pointer (some ⟨w1.heap.size,0,none⟩)],I x.1,I x.2.val,undef,undef,undef,undef,undef,undef,undef,undef,undef,undef,undef],defers:= [] }) ?assign ?body ?done ?stop
 case assign=>
  intro l x W K hK
  gi_wp2
  exact hK
 case body=>
  rintro l pre x W ⟨⟨⟨v,hv,hrow,-⟩,hF⟩,hsz,hB⟩ hlt
  have hc:=hv.cell
  have hcf:=hF.cell
  have hx:=x.2.property
  have hsn:=bordsOf_snoc f (pre.map (·.2.val)) x.2.val
  have hln:=bordsOf_length f (pre.map (·.2.val))
  have hvl:=vxs_length f
  rw[List.length_map] at hln
  generalize hb:bordsOf f (pre.map (·.2.val))=bs at hrow hsn hln
  have HSN:=Aside0.mk hsn
  have HX:=Aside0.mk hb
  clear hsn hb
  gi_wp2
  gi_region
  all_goals
   generalize hy:bits BinOp.andNot IntKind.i64 f (IntKind.i64.wrap (2 ^ x.snd.val.toNat))=y
   have HY:=Aside0.mk (show without f x.2.val=y from hy)
   clear hy
   obtain ⟨W2,hW2⟩:∃ W2,W2=W.drew:=⟨_,rfl⟩
   have hv2:Boxed W2 (w.heap.size+1) 24 v:=by rw[hW2];exact hv
   have hF2:Boxed W2 w.heap.size 2 (I f):=by rw[hW2];exact hF
   have hrow2:W2.ownsRow (w1.heap.size+1) 2 1 v bs.length (bs.map (Value.int .i64)):=by rw[hW2];exact hrow
   have hB2:Below w.heap.size w W2:=by rw[hW2];exact hB.drew
   have hs2:w1.heap.size+1≤W2.heap.size:=by rw[hW2];exact hsz
   have hKO:KeepsFrom (w1.heap.size+1) W W2:=by rw[hW2];exact⟨Nat.le_refl _,fun k o _ hk _=>hk⟩
   have hKB:KeptBut (w.heap.size+1) (w1.heap.size+1) W W2:=by rw[hW2];exact fun _ _ _=>rfl
   have hc2:=hv2.cell
   rw[← hW2]
   clear hW2 hc hcf hv hF hrow hB
   have hm1:bs.length+1≤maxLen:=by unfold maxLen;omega
   have hm2:(bs.length+1)*8≤140737488355328:=by omega
   by_cases h0:y=0
   ·subst h0
    gi_wp2
    have HN:bordsOf f ((pre ++ [x]).map (·.2.val))=bs:=by
     have:=HSN.out
     rw[HY.out] at this
     simpa using this
    refine⟨by simpa using hKO,hKB,⟨⟨v,hv2,?_,trivial⟩,hF2⟩,hs2,hB2⟩
    rw[HN]
    exact hrow2
   ·gi_wp2_with (gi_at_builtin;refine wpListIn_append_own _ rfl _ _ 24 rfl (w1.heap.size+1) 2 i0 (.int .i64 0) 1 8 Tryz.underlying24 hi hz0 hz1 hz2 rfl (by decide) _ _ _ rfl (hrow2.alloc _) ⟨W2.heap.size,0,none⟩ 1 1 [.int .i64 y] rfl rfl (cell_one_new _ _ _) (by simp [Value.oneCell']) hm1 hm2 (by simp;omega) ?_;intro v' w3 hown' hgrow _;obtain ⟨g',cap',rfl⟩:=ownsRow_succ hown';obtain ⟨hv1,hv3,hr3,hk3,hb3⟩:=hv2.appended (n₀:=w.heap.size) (by decide) (own_weaken hrow2 (by omega)) hB2.size (by omega) (own_weaken hown' (by omega)) hgrow;have hc1:=hv1.cell;have hf1:=hv1.frozen)
    have HN:bordsOf f ((pre ++ [x]).map (·.2.val))=bs ++ [y]:=by
     have:=HSN.out
     rw[HY.out,if_neg h0] at this
     simpa using this
    have hro:∀ k,v.ownBlock=some k→w1.heap.size+1≤k:=fun k hk=>own_base hrow2 k hk
    refine⟨by simpa using hKO.trans (hk3.from _),hKB.t (fun k h1 h2=>?_),⟨⟨_,hv3,?_,trivial⟩,?_⟩,Nat.le_trans hs2 hb3.size,hB2.trans hb3⟩
    ·rw[Below.heap_setCell _ _ _ _ (by show k≠w.heap.size+1;exact h2)]
     rw[hgrow.block k (by simp;omega) (fun e=>by have:=hro k e.symm;omega)]
     exact Below.heap_alloc _ _ _ (by omega)
    ·rw[HN]
     have:=hown'.kept (grownBy_setCell' w3 (w.heap.size+1) (.slice (some ⟨g',0,none⟩) (bs.length+1) cap')) (.inr (hv1.not_row (by decide) hown').symm)
     simpa using this
    ·show (w3.setCell _ _).heap[w.heap.size]?=_
     rw[Below.heap_setCell _ _ _ _ (by show w.heap.size≠w.heap.size+1;omega)]
     rw[hgrow.block w.heap.size (by simp;omega) (fun e=>by have:=hro _ e.symm;omega)]
     exact(Below.heap_alloc _ _ _ (by omega)).trans hF2
 case done=>
  rintro D ys W hD rfl ⟨⟨⟨v,hv,hrow,-⟩,hF⟩,hsz,hB⟩ hK
  have hc:=hv.cell
  have HV:(bwd (vxs f)).map (·.2.val)=(verts f).reverse:=by
   have:=congrArg (List.map Subtype.val) (bwd_snd (vxs f))
   rw[List.map_map,List.map_reverse,vxs_val] at this
   exact this
  have HVA:=Aside0.mk HV
  clear HV
  gi_wp2
  refine⟨by simp,.inl ⟨_,_,rfl,run_takeDeferred hK,?_⟩⟩
  refine⟨_,results_tmp rfl _ _ _,v,rfl,?_,hB.trans (belowK_b (w:=w) (Nat.le_refl _) W D _ _ (by simp at hD;omega) hK rfl rfl)⟩
  rw[HVA.out] at hrow
  exact Kd.R_lower (Kd.R_of_own (ownsRow_putObj hrow _ hK rfl) (fun _ _=>trivial)) (by omega)
 case stop=>
  rintro D c pre W _ _ h _
  exact h.elim
theorem borders_calls (f:Int) (w:World) :
  Calls Tryz.prog 130 #[I f] w fun e w'=>∃ v,e = .returned v∧Ki.R 2 w' w.heap.size (fun _=>True) v (bords f)∧Grew w w':=
 callsIn_wide.1 (borders_in f w)
end Go.Proofs.YtlhkdbkjafiikaaGreat.K
end

section
namespace Go.Proofs.YtlhkdbkjafiikaaGreat.Q
open Go.RowKit Go.Proofs.YtlhkdbkjafiikaaGreatW.PrintWords Go.Proofs.YtlhkdbkjafiikaaGreatW.PrintLast Go.Proofs.YtlhkdbkjafiikaaGreatW.PrintMore
attribute [local go_sem] max2_int min2_int max_two min_two max_three min_three max_four min_four
set_option linter.unusedVariables false
set_option linter.unusedSimpArgs false
def slices_BinarySearch_int64_int64.l0:Nat→List Int→Int→Int→Int→Int→Option (Int×Bool)
 |0,_,_,_,_,_=>none
 |k+1,x0,x1,x6,x7,x8=>if x7<x8 then (if 0≤(wrap64 ((IntKind.u64.wrap (wrap64 (x7+x8))) / 2)) then (if (wrap64 ((IntKind.u64.wrap (wrap64 (x7+x8))) / 2))<(x0.length:Int) then ((cmp_Less_int64.f (rd x0 (wrap64 ((IntKind.u64.wrap (wrap64 (x7+x8))) / 2))) x1).bind fun t549=>(if t549=true then (slices_BinarySearch_int64_int64.l0 k x0 x1 x6 (wrap64 ((wrap64 ((IntKind.u64.wrap (wrap64 (x7+x8))) / 2))+1)) x8) else (slices_BinarySearch_int64_int64.l0 k x0 x1 x6 x7 (wrap64 ((IntKind.u64.wrap (wrap64 (x7+x8))) / 2))))) else (none)) else (none)) else (if x7<x6 then (if 0≤x7 then (if x7<(x0.length:Int) then (if (rd x0 x7)=x1 then (some (x7,true)) else ((slices_isNaN_int64.f (rd x0 x7)).bind fun t552=>(if t552=true then ((slices_isNaN_int64.f x1).bind fun t553=>(some (x7,t553))) else (some (x7,false))))) else (none)) else (none)) else (some (x7,false)))
def slices_BinarySearch_int64_int64.f (k:Nat) (l0:List Int) (a1:Int):Option (Int×Bool):=slices_BinarySearch_int64_int64.l0 k l0 a1 (l0.length:Int) 0 (l0.length:Int)
theorem slices_BinarySearch_int64_int64.mono_l:∀ k,(∀ y0 y1 y2 y3 y4,LeO (slices_BinarySearch_int64_int64.l0 k y0 y1 y2 y3 y4) (slices_BinarySearch_int64_int64.l0 (k+1) y0 y1 y2 y3 y4))
 |0=>fun _ _ _ _ _ r h=>by simp [slices_BinarySearch_int64_int64.l0] at h
 |k+1=>by
  have ih0:=slices_BinarySearch_int64_int64.mono_l k
  ·intro y0 y1 y2 y3 y4;unfold slices_BinarySearch_int64_int64.l0;repeat' first
   |(with_reducible first|exact ih0 _ _ _ _ _|exact LeO.refl _|exact LeO.none _|refine LeO.ite ?_ ?_|refine LeO.bind ?_ (fun _=>?_))
theorem slices_BinarySearch_int64_int64.mono:∀ a0 a1 k,LeO (slices_BinarySearch_int64_int64.f k a0 a1) (slices_BinarySearch_int64_int64.f (k+1) a0 a1):=by
 intro a0 a1 k;have ih0:=slices_BinarySearch_int64_int64.mono_l k;unfold slices_BinarySearch_int64_int64.f;repeat' first
   |(with_reducible first|exact ih0 _ _ _ _ _|exact LeO.refl _|exact LeO.none _|refine LeO.ite ?_ ?_|refine LeO.bind ?_ (fun _=>?_))
set_option maxHeartbeats 8000000 in
set_option maxRecDepth 100000 in
theorem slices_BinarySearch_int64_int64.calls (k:Nat) (A0:Option Addr) (c0:Nat) (l0:List Int) (a1:Int) (r1:Int) (r2:Bool) (w:World) (hr0:Kd.C (Kd.int .i64) w A0 l0.length l0) (hc0:l0.length≤c0) (h:slices_BinarySearch_int64_int64.f k l0 a1=some (r1,r2)) :
  Calls Tryz.prog 121 #[.slice A0 l0.length c0,.int .i64 a1] w fun e w'=>e = .returned (.tuple #[.int .i64 r1,.bool r2])∧Drawn0 w w':=by
 have HR0:=Aside0.mk hr0;have HC0:=Aside0.mk hc0;clear hr0 hc0;have H:(slices_BinarySearch_int64_int64.l0 k l0 a1 (l0.length:Int) 0 (l0.length:Int))=some (r1,r2):=h;clear h;have H':=Aside0.mk H;clear H;go_enter Tryz.func121,Tryz.ntmps121;go_wp2
 go_loopg [7,8] k (fun kq v7 v8 w'=>∃(x7_1:Int) (x8_1:Int),v7 = .int .i64 x7_1∧v8 = .int .i64 x8_1∧Aside0 (slices_BinarySearch_int64_int64.l0 kq l0 a1 (l0.length:Int) x7_1 x8_1=some (r1,r2))∧Aside0 (kq≤k)∧Drawn0 w w')
 case atStart=>exact⟨(0),((l0.length:Int)),rs,rs,H',⟨Nat.le_refl _⟩,by repeat(first|exact Drawn0.refl _|apply Drawn0.step)⟩
 case round=>
  clear H';try clear c1
  try clear p2
  obtain ⟨x7_1,x8_1,rfl,rfl,HA,HK1,⟨m1,rfl⟩⟩:=hrel;cases gk with
  |zero=>exact absurd HA.out (by simp [slices_BinarySearch_int64_int64.l0])
  |succ k1=>
   have H:=HA.out;clear HA;simp only [slices_BinarySearch_int64_int64.l0] at H;by_cases c3:x7_1<x8_1
   ·rw[if_pos c3] at H;have c3b0:decide (x7_1<x8_1)=true:=decide_eq_true c3;clear c3;obtain ⟨ji4,hji4⟩:∃ j_:Int,(wrap64 ((IntKind.u64.wrap (wrap64 (x7_1+x8_1))) / 2))=j_:=⟨_,rfl⟩
    replace H:(if 0≤(ji4) then (if (ji4)<(l0.length:Int) then ((cmp_Less_int64.f (rd l0 (ji4)) a1).bind fun t549=>(if t549=true then (slices_BinarySearch_int64_int64.l0 k1 l0 a1 (l0.length:Int) (wrap64 ((ji4)+1)) x8_1) else (slices_BinarySearch_int64_int64.l0 k1 l0 a1 (l0.length:Int) x7_1 ji4))) else (none)) else (none))=some (r1,r2):=by first|(rw[hji4] at H;exact H)|(simp only [hji4] at H ⊢;exact H)
    have hji4w:(IntKind.i64.wrap ((IntKind.u64.wrap (wrap64 (x7_1+x8_1))) / 2))=ji4:=(i64_w _).trans hji4;by_cases c5:0≤(ji4)
    ·rw[if_pos c5] at H;have c5b0:decide (0≤(ji4))=true:=decide_eq_true c5;clear c5;by_cases c6:(ji4)<(l0.length:Int)
     ·rw[if_pos c6] at H;have c6b0:decide ((ji4)<(l0.length:Int))=true:=decide_eq_true c6;clear c6;replace H:=Option.bind_eq_some_iff.mp H;obtain ⟨t549,A70,H⟩:=H;replace H:(if t549=true then (slices_BinarySearch_int64_int64.l0 k1 l0 a1 (l0.length:Int) (wrap64 ((ji4)+1)) x8_1) else (slices_BinarySearch_int64_int64.l0 k1 l0 a1 (l0.length:Int) x7_1 ji4))=some (r1,r2):=H;have A7:=Aside0.mk A70;clear A70;by_cases c8:t549=true
      ·subst c8;have H1:(slices_BinarySearch_int64_int64.l0 k1 l0 a1 (l0.length:Int) (wrap64 ((ji4)+1)) x8_1)=some (r1,r2):=by rw[if_pos rfl] at H;exact H
       clear H;have H:=H1;clear H1;have H':=Aside0.mk H;clear H;have p548:0≤((ji4):Int):=dd;have q548:(ji4)<(l0.length:Int):=dd;obtain ⟨ad548,e548,hx548_0⟩:=Kd.at_int HR0.out (ji4) p548 q548;cases e548;replace p548:=eq_true p548;replace q548:=eq_true q548;go_wp2_with (first|((with_reducible refine gate_callee (f:=147) rfl ?_);refine goesL_ (some 27) rfl rfl Tryz.func147 (by kernel_rfl) rfl #[.int .i64 (rd l0 (ji4)),.int .i64 a1] rfl (by(try simp only [List.map_toArray,List.map_cons,List.map_nil]);first|done|(simp only [hji4];rfl)|rfl|(simp only [List.length_drop,List.length_take];rfl)) ?_;(with_reducible refine(cmp_Less_int64.calls (rd l0 (ji4)) a1 true _ A7.out).mono ?_);rintro e w' ⟨rfl,⟨nd,rfl⟩⟩;refine⟨_,rfl,?_⟩))
       go_roundg k1
       case measure=>have:=HK1.out;omega
       case rel=>exact⟨(wrap64 ((ji4)+1)),(x8_1),(by first|rfl|(simp;done)|(simp only [← hji4] <;> (first|rfl|simp))|(simp [*];done)),rs,H',⟨by have:=HK1.out;omega⟩,by repeat(first|exact Drawn0.refl _|apply Drawn0.step)⟩
      ·replace c8:=Bool.eq_false_iff.mpr c8;subst c8;have H1:(slices_BinarySearch_int64_int64.l0 k1 l0 a1 (l0.length:Int) x7_1 ji4)=some (r1,r2):=by rw[if_neg (show ¬ (false=true) by decide)] at H;exact H
       clear H;have H:=H1;clear H1;have H':=Aside0.mk H;clear H;have p548:0≤((ji4):Int):=dd;have q548:(ji4)<(l0.length:Int):=dd;obtain ⟨ad548,e548,hx548_0⟩:=Kd.at_int HR0.out (ji4) p548 q548;cases e548;replace p548:=eq_true p548;replace q548:=eq_true q548;go_wp2_with (first|((with_reducible refine gate_callee (f:=147) rfl ?_);refine goesL_ (some 27) rfl rfl Tryz.func147 (by kernel_rfl) rfl #[.int .i64 (rd l0 (ji4)),.int .i64 a1] rfl (by(try simp only [List.map_toArray,List.map_cons,List.map_nil]);first|done|(simp only [hji4];rfl)|rfl|(simp only [List.length_drop,List.length_take];rfl)) ?_;(with_reducible refine(cmp_Less_int64.calls (rd l0 (ji4)) a1 false _ A7.out).mono ?_);rintro e w' ⟨rfl,⟨nd,rfl⟩⟩;refine⟨_,rfl,?_⟩))
       go_roundg k1
       case measure=>have:=HK1.out;omega
       case rel=>exact⟨(x7_1),(ji4),rs,(by first|rfl|(simp;done)|(simp only [← hji4] <;> (first|rfl|simp))|(simp [*];done)),H',⟨by have:=HK1.out;omega⟩,by repeat(first|exact Drawn0.refl _|apply Drawn0.step)⟩
     ·rw[if_neg c6] at H;exact absurd H (by simp)
    ·rw[if_neg c5] at H;exact absurd H (by simp)
   ·rw[if_neg c3] at H;have c3b0:decide (x7_1<x8_1)=false:=decide_eq_false c3;clear c3;by_cases c9:x7_1<(l0.length:Int)
    ·rw[if_pos c9] at H;have c9b0:decide (x7_1<(l0.length:Int))=true:=decide_eq_true c9;clear c9;by_cases c10:0≤x7_1
     ·rw[if_pos c10] at H;have c10b0:decide (0≤x7_1)=true:=decide_eq_true c10;clear c10;by_cases c11:x7_1<(l0.length:Int)
      ·rw[if_pos c11] at H;have c11b0:decide (x7_1<(l0.length:Int))=true:=decide_eq_true c11;clear c11;by_cases c12:(rd l0 x7_1)=a1
       ·rw[if_pos c12] at H;have c12b0:((rd l0 x7_1) == a1)=true:=beq_iff_eq.mpr c12;have c12b1:((rd l0 x7_1) != a1)=false:=bne_eq_false_iff_eq.mpr c12;clear c12;simp only [Option.some.injEq,Prod.mk.injEq] at H;obtain ⟨rfl,rfl⟩:=H;have p550:0≤(x7_1:Int):=dd;have q550:x7_1<(l0.length:Int):=dd;obtain ⟨ad550,e550,hx550_0⟩:=Kd.at_int HR0.out x7_1 p550 q550;cases e550;replace p550:=eq_true p550;replace q550:=eq_true q550;go_wp2
        go_ret2;exact⟨rs,by repeat(first|exact Drawn0.refl _|apply Drawn0.step)⟩
       ·rw[if_neg c12] at H;have c12b0:((rd l0 x7_1) == a1)=false:=beq_eq_false_iff_ne.mpr c12;have c12b1:((rd l0 x7_1) != a1)=true:=bne_iff_ne.mpr c12;replace H:=Option.bind_eq_some_iff.mp H;obtain ⟨t552,A130,H⟩:=H;replace H:(if t552=true then ((slices_isNaN_int64.f a1).bind fun t553=>(some (x7_1,t553))) else (some (x7_1,false)))=some (r1,r2):=H;have A13:=Aside0.mk A130;clear A130;by_cases c14:t552=true
        ·subst c14;have H1:((slices_isNaN_int64.f a1).bind fun t553=>(some (x7_1,t553)))=some (r1,r2):=by rw[if_pos rfl] at H;exact H
         clear H;have H:=H1;clear H1;replace H:=Option.bind_eq_some_iff.mp H;obtain ⟨t553,A150,H⟩:=H;replace H:(some (x7_1,t553))=some (r1,r2):=H;have A15:=Aside0.mk A150;clear A150;simp only [Option.some.injEq,Prod.mk.injEq] at H;obtain ⟨rfl,rfl⟩:=H;have p550:0≤(x7_1:Int):=dd;have q550:x7_1<(l0.length:Int):=dd;obtain ⟨ad550,e550,hx550_0⟩:=Kd.at_int HR0.out x7_1 p550 q550;cases e550;replace p550:=eq_true p550;replace q550:=eq_true q550;have p551:0≤(x7_1:Int):=dd;have q551:x7_1<(l0.length:Int):=dd;obtain ⟨ad551,e551,hx551_0⟩:=Kd.at_int HR0.out x7_1 p551 q551;obtain rfl:ad550=ad551:=(by injection e551)
         replace p551:=eq_true p551;replace q551:=eq_true q551;go_wp2_with (first|(go_at_call 148;(with_reducible refine(slices_isNaN_int64.calls (rd l0 x7_1) true _ A13.out).mono ?_);rintro e w' ⟨rfl,⟨nd,rfl⟩⟩)|(go_at_call 148;(with_reducible refine(slices_isNaN_int64.calls a1 t553 _ A15.out).mono ?_);rintro e w' ⟨rfl,⟨nd,rfl⟩⟩))
         go_ret2;exact⟨rs,by repeat(first|exact Drawn0.refl _|apply Drawn0.step)⟩
        ·replace c14:=Bool.eq_false_iff.mpr c14;subst c14;have H1:(some (x7_1,false))=some (r1,r2):=by rw[if_neg (show ¬ (false=true) by decide)] at H;exact H
         clear H;have H:=H1;clear H1;simp only [Option.some.injEq,Prod.mk.injEq] at H;obtain ⟨rfl,rfl⟩:=H;have p550:0≤(x7_1:Int):=dd;have q550:x7_1<(l0.length:Int):=dd;obtain ⟨ad550,e550,hx550_0⟩:=Kd.at_int HR0.out x7_1 p550 q550;cases e550;replace p550:=eq_true p550;replace q550:=eq_true q550;have p551:0≤(x7_1:Int):=dd;have q551:x7_1<(l0.length:Int):=dd;obtain ⟨ad551,e551,hx551_0⟩:=Kd.at_int HR0.out x7_1 p551 q551;obtain rfl:ad550=ad551:=(by injection e551)
         replace p551:=eq_true p551;replace q551:=eq_true q551;go_wp2_with (first|(go_at_call 148;(with_reducible refine(slices_isNaN_int64.calls (rd l0 x7_1) false _ A13.out).mono ?_);rintro e w' ⟨rfl,⟨nd,rfl⟩⟩))
         go_ret2;exact⟨rs,by repeat(first|exact Drawn0.refl _|apply Drawn0.step)⟩
      ·rw[if_neg c11] at H;exact absurd H (by simp)
     ·rw[if_neg c10] at H;exact absurd H (by simp)
    ·rw[if_neg c9] at H;have c9b0:decide (x7_1<(l0.length:Int))=false:=decide_eq_false c9;clear c9;simp only [Option.some.injEq,Prod.mk.injEq] at H;obtain ⟨rfl,rfl⟩:=H;go_wp2
     go_ret2;exact⟨rs,by repeat(first|exact Drawn0.refl _|apply Drawn0.step)⟩
def impl_Complex_has.f (k:Nat) (a0_0:Int) (l0_1:List Int) (a1:Int):Option (Bool):=(slices_BinarySearch_int64_int64.f k l0_1 a1).bind fun bt555=>(some bt555.2)
theorem impl_Complex_has.mono:∀ a0 a1 a2 k,LeO (impl_Complex_has.f k a0 a1 a2) (impl_Complex_has.f (k+1) a0 a1 a2):=by
 intro a0 a1 a2 k;unfold impl_Complex_has.f;repeat' first
   |(with_reducible first|exact slices_BinarySearch_int64_int64.mono _ _ _|exact LeO.refl _|exact LeO.none _|refine LeO.ite ?_ ?_|refine LeO.bind ?_ (fun _=>?_))
set_option maxHeartbeats 8000000 in
set_option maxRecDepth 100000 in
theorem impl_Complex_has.calls (k:Nat) (a0_0:Int) (A0_1:Option Addr) (c0_1:Nat) (l0_1:List Int) (a1:Int) (r:Bool) (w:World) (hr0_1:Kd.C (Kd.int .i64) w A0_1 l0_1.length l0_1) (hc0_1:l0_1.length≤c0_1) (h:impl_Complex_has.f k a0_0 l0_1 a1=some r) :
  Calls Tryz.prog 54 #[.agg #[.int .i64 a0_0,.slice A0_1 l0_1.length c0_1],.int .i64 a1] w fun e w'=>e = .returned (.bool r)∧Below w.heap.size w w':=by
 have hu26:=Tryz.underlying26;have HR0_1:=Aside0.mk hr0_1;have HC0_1:=Aside0.mk hc0_1;clear hr0_1 hc0_1;have HB:=Aside0.mk (Below.refl w.heap.size w);have H:((slices_BinarySearch_int64_int64.f k l0_1 a1).bind fun bt555=>(some bt555.2))=some r:=h;clear h;replace H:=Option.bind_eq_some_iff.mp H;obtain ⟨⟨t555,t556⟩,A30,H⟩:=H;replace H:(some t556)=some r:=H;have A3:=Aside0.mk A30;clear A30;obtain rfl:=Option.some.inj H;go_enter Tryz.func54,Tryz.ntmps54;go_wp2_with (first|((with_reducible refine gate_dst (N:=2) rfl ?_);refine bx 2 #[.int .i64 a0_0,.slice A0_1 l0_1.length c0_1] 26 ?_;intro gb554 hg w4 hbox hb;have BK554:=Aside0.mk (hbox);have GE554:=gzA hg HB;replace HB:=bsA HB hb;clear hb hbox hg;have hcz5_0:=z0_ BK554;have hcz5_1:=z1_ BK554;have hfz5_0:=hf_ BK554 0;have hfz5_1:=hf_ BK554 1)|((with_reducible refine gate_callee (f:=121) rfl ?_);refine gl (some 11) Tryz.func121 #[.slice A0_1 l0_1.length c0_1,.int .i64 a1] ?_;(with_reducible refine(slices_BinarySearch_int64_int64.calls k _ _ l0_1 a1 t555 t556 _ (cb (Kd.C_below HR0_1.out HB.out)) HC0_1.out A3.out).mono ?_);rintro e w' ⟨rfl,⟨nd,rfl⟩⟩;refine⟨_,rfl,?_⟩))
 go_ret;exact⟨rr,bl HB.out⟩
def bits_OnesCount64.f (a0:Int):Option (Int):=some (Go.bits .and .i64 (wrap64 (IntKind.u64.wrap ((IntKind.u64.wrap ((IntKind.u64.wrap ((Go.bits .and .u64 (IntKind.u64.wrap (((IntKind.u64.wrap ((Go.bits .and .u64 ((IntKind.u64.wrap ((Go.bits .and .u64 (a0 / 2) 6148914691236517205)+(Go.bits .and .u64 a0 6148914691236517205))) / 4) 3689348814741910323)+(Go.bits .and .u64 (IntKind.u64.wrap ((Go.bits .and .u64 (a0 / 2) 6148914691236517205)+(Go.bits .and .u64 a0 6148914691236517205))) 3689348814741910323))) / 16)+(IntKind.u64.wrap ((Go.bits .and .u64 ((IntKind.u64.wrap ((Go.bits .and .u64 (a0 / 2) 6148914691236517205)+(Go.bits .and .u64 a0 6148914691236517205))) / 4) 3689348814741910323)+(Go.bits .and .u64 (IntKind.u64.wrap ((Go.bits .and .u64 (a0 / 2) 6148914691236517205)+(Go.bits .and .u64 a0 6148914691236517205))) 3689348814741910323))))) 1085102592571150095)+((Go.bits .and .u64 (IntKind.u64.wrap (((IntKind.u64.wrap ((Go.bits .and .u64 ((IntKind.u64.wrap ((Go.bits .and .u64 (a0 / 2) 6148914691236517205)+(Go.bits .and .u64 a0 6148914691236517205))) / 4) 3689348814741910323)+(Go.bits .and .u64 (IntKind.u64.wrap ((Go.bits .and .u64 (a0 / 2) 6148914691236517205)+(Go.bits .and .u64 a0 6148914691236517205))) 3689348814741910323))) / 16)+(IntKind.u64.wrap ((Go.bits .and .u64 ((IntKind.u64.wrap ((Go.bits .and .u64 (a0 / 2) 6148914691236517205)+(Go.bits .and .u64 a0 6148914691236517205))) / 4) 3689348814741910323)+(Go.bits .and .u64 (IntKind.u64.wrap ((Go.bits .and .u64 (a0 / 2) 6148914691236517205)+(Go.bits .and .u64 a0 6148914691236517205))) 3689348814741910323))))) 1085102592571150095) / 256)))+((IntKind.u64.wrap ((Go.bits .and .u64 (IntKind.u64.wrap (((IntKind.u64.wrap ((Go.bits .and .u64 ((IntKind.u64.wrap ((Go.bits .and .u64 (a0 / 2) 6148914691236517205)+(Go.bits .and .u64 a0 6148914691236517205))) / 4) 3689348814741910323)+(Go.bits .and .u64 (IntKind.u64.wrap ((Go.bits .and .u64 (a0 / 2) 6148914691236517205)+(Go.bits .and .u64 a0 6148914691236517205))) 3689348814741910323))) / 16)+(IntKind.u64.wrap ((Go.bits .and .u64 ((IntKind.u64.wrap ((Go.bits .and .u64 (a0 / 2) 6148914691236517205)+(Go.bits .and .u64 a0 6148914691236517205))) / 4) 3689348814741910323)+(Go.bits .and .u64 (IntKind.u64.wrap ((Go.bits .and .u64 (a0 / 2) 6148914691236517205)+(Go.bits .and .u64 a0 6148914691236517205))) 3689348814741910323))))) 1085102592571150095)+((Go.bits .and .u64 (IntKind.u64.wrap (((IntKind.u64.wrap ((Go.bits .and .u64 ((IntKind.u64.wrap ((Go.bits .and .u64 (a0 / 2) 6148914691236517205)+(Go.bits .and .u64 a0 6148914691236517205))) / 4) 3689348814741910323)+(Go.bits .and .u64 (IntKind.u64.wrap ((Go.bits .and .u64 (a0 / 2) 6148914691236517205)+(Go.bits .and .u64 a0 6148914691236517205))) 3689348814741910323))) / 16)+(IntKind.u64.wrap ((Go.bits .and .u64 ((IntKind.u64.wrap ((Go.bits .and .u64 (a0 / 2) 6148914691236517205)+(Go.bits .and .u64 a0 6148914691236517205))) / 4) 3689348814741910323)+(Go.bits .and .u64 (IntKind.u64.wrap ((Go.bits .and .u64 (a0 / 2) 6148914691236517205)+(Go.bits .and .u64 a0 6148914691236517205))) 3689348814741910323))))) 1085102592571150095) / 256))) / 65536)))+((IntKind.u64.wrap ((IntKind.u64.wrap ((Go.bits .and .u64 (IntKind.u64.wrap (((IntKind.u64.wrap ((Go.bits .and .u64 ((IntKind.u64.wrap ((Go.bits .and .u64 (a0 / 2) 6148914691236517205)+(Go.bits .and .u64 a0 6148914691236517205))) / 4) 3689348814741910323)+(Go.bits .and .u64 (IntKind.u64.wrap ((Go.bits .and .u64 (a0 / 2) 6148914691236517205)+(Go.bits .and .u64 a0 6148914691236517205))) 3689348814741910323))) / 16)+(IntKind.u64.wrap ((Go.bits .and .u64 ((IntKind.u64.wrap ((Go.bits .and .u64 (a0 / 2) 6148914691236517205)+(Go.bits .and .u64 a0 6148914691236517205))) / 4) 3689348814741910323)+(Go.bits .and .u64 (IntKind.u64.wrap ((Go.bits .and .u64 (a0 / 2) 6148914691236517205)+(Go.bits .and .u64 a0 6148914691236517205))) 3689348814741910323))))) 1085102592571150095)+((Go.bits .and .u64 (IntKind.u64.wrap (((IntKind.u64.wrap ((Go.bits .and .u64 ((IntKind.u64.wrap ((Go.bits .and .u64 (a0 / 2) 6148914691236517205)+(Go.bits .and .u64 a0 6148914691236517205))) / 4) 3689348814741910323)+(Go.bits .and .u64 (IntKind.u64.wrap ((Go.bits .and .u64 (a0 / 2) 6148914691236517205)+(Go.bits .and .u64 a0 6148914691236517205))) 3689348814741910323))) / 16)+(IntKind.u64.wrap ((Go.bits .and .u64 ((IntKind.u64.wrap ((Go.bits .and .u64 (a0 / 2) 6148914691236517205)+(Go.bits .and .u64 a0 6148914691236517205))) / 4) 3689348814741910323)+(Go.bits .and .u64 (IntKind.u64.wrap ((Go.bits .and .u64 (a0 / 2) 6148914691236517205)+(Go.bits .and .u64 a0 6148914691236517205))) 3689348814741910323))))) 1085102592571150095) / 256)))+((IntKind.u64.wrap ((Go.bits .and .u64 (IntKind.u64.wrap (((IntKind.u64.wrap ((Go.bits .and .u64 ((IntKind.u64.wrap ((Go.bits .and .u64 (a0 / 2) 6148914691236517205)+(Go.bits .and .u64 a0 6148914691236517205))) / 4) 3689348814741910323)+(Go.bits .and .u64 (IntKind.u64.wrap ((Go.bits .and .u64 (a0 / 2) 6148914691236517205)+(Go.bits .and .u64 a0 6148914691236517205))) 3689348814741910323))) / 16)+(IntKind.u64.wrap ((Go.bits .and .u64 ((IntKind.u64.wrap ((Go.bits .and .u64 (a0 / 2) 6148914691236517205)+(Go.bits .and .u64 a0 6148914691236517205))) / 4) 3689348814741910323)+(Go.bits .and .u64 (IntKind.u64.wrap ((Go.bits .and .u64 (a0 / 2) 6148914691236517205)+(Go.bits .and .u64 a0 6148914691236517205))) 3689348814741910323))))) 1085102592571150095)+((Go.bits .and .u64 (IntKind.u64.wrap (((IntKind.u64.wrap ((Go.bits .and .u64 ((IntKind.u64.wrap ((Go.bits .and .u64 (a0 / 2) 6148914691236517205)+(Go.bits .and .u64 a0 6148914691236517205))) / 4) 3689348814741910323)+(Go.bits .and .u64 (IntKind.u64.wrap ((Go.bits .and .u64 (a0 / 2) 6148914691236517205)+(Go.bits .and .u64 a0 6148914691236517205))) 3689348814741910323))) / 16)+(IntKind.u64.wrap ((Go.bits .and .u64 ((IntKind.u64.wrap ((Go.bits .and .u64 (a0 / 2) 6148914691236517205)+(Go.bits .and .u64 a0 6148914691236517205))) / 4) 3689348814741910323)+(Go.bits .and .u64 (IntKind.u64.wrap ((Go.bits .and .u64 (a0 / 2) 6148914691236517205)+(Go.bits .and .u64 a0 6148914691236517205))) 3689348814741910323))))) 1085102592571150095) / 256))) / 65536))) / 4294967296)))) 127)
set_option maxHeartbeats 8000000 in
set_option maxRecDepth 100000 in
theorem bits_OnesCount64.calls (a0:Int) (r:Int) (w:World) (h:bits_OnesCount64.f a0=some r) :
  Calls Tryz.prog 163 #[.int .u64 a0] w fun e w'=>e = .returned (.int .i64 r)∧Drawn0 w w':=by
 have H:(some (Go.bits .and .i64 (wrap64 (IntKind.u64.wrap ((IntKind.u64.wrap ((IntKind.u64.wrap ((Go.bits .and .u64 (IntKind.u64.wrap (((IntKind.u64.wrap ((Go.bits .and .u64 ((IntKind.u64.wrap ((Go.bits .and .u64 (a0 / 2) 6148914691236517205)+(Go.bits .and .u64 a0 6148914691236517205))) / 4) 3689348814741910323)+(Go.bits .and .u64 (IntKind.u64.wrap ((Go.bits .and .u64 (a0 / 2) 6148914691236517205)+(Go.bits .and .u64 a0 6148914691236517205))) 3689348814741910323))) / 16)+(IntKind.u64.wrap ((Go.bits .and .u64 ((IntKind.u64.wrap ((Go.bits .and .u64 (a0 / 2) 6148914691236517205)+(Go.bits .and .u64 a0 6148914691236517205))) / 4) 3689348814741910323)+(Go.bits .and .u64 (IntKind.u64.wrap ((Go.bits .and .u64 (a0 / 2) 6148914691236517205)+(Go.bits .and .u64 a0 6148914691236517205))) 3689348814741910323))))) 1085102592571150095)+((Go.bits .and .u64 (IntKind.u64.wrap (((IntKind.u64.wrap ((Go.bits .and .u64 ((IntKind.u64.wrap ((Go.bits .and .u64 (a0 / 2) 6148914691236517205)+(Go.bits .and .u64 a0 6148914691236517205))) / 4) 3689348814741910323)+(Go.bits .and .u64 (IntKind.u64.wrap ((Go.bits .and .u64 (a0 / 2) 6148914691236517205)+(Go.bits .and .u64 a0 6148914691236517205))) 3689348814741910323))) / 16)+(IntKind.u64.wrap ((Go.bits .and .u64 ((IntKind.u64.wrap ((Go.bits .and .u64 (a0 / 2) 6148914691236517205)+(Go.bits .and .u64 a0 6148914691236517205))) / 4) 3689348814741910323)+(Go.bits .and .u64 (IntKind.u64.wrap ((Go.bits .and .u64 (a0 / 2) 6148914691236517205)+(Go.bits .and .u64 a0 6148914691236517205))) 3689348814741910323))))) 1085102592571150095) / 256)))+((IntKind.u64.wrap ((Go.bits .and .u64 (IntKind.u64.wrap (((IntKind.u64.wrap ((Go.bits .and .u64 ((IntKind.u64.wrap ((Go.bits .and .u64 (a0 / 2) 6148914691236517205)+(Go.bits .and .u64 a0 6148914691236517205))) / 4) 3689348814741910323)+(Go.bits .and .u64 (IntKind.u64.wrap ((Go.bits .and .u64 (a0 / 2) 6148914691236517205)+(Go.bits .and .u64 a0 6148914691236517205))) 3689348814741910323))) / 16)+(IntKind.u64.wrap ((Go.bits .and .u64 ((IntKind.u64.wrap ((Go.bits .and .u64 (a0 / 2) 6148914691236517205)+(Go.bits .and .u64 a0 6148914691236517205))) / 4) 3689348814741910323)+(Go.bits .and .u64 (IntKind.u64.wrap ((Go.bits .and .u64 (a0 / 2) 6148914691236517205)+(Go.bits .and .u64 a0 6148914691236517205))) 3689348814741910323))))) 1085102592571150095)+((Go.bits .and .u64 (IntKind.u64.wrap (((IntKind.u64.wrap ((Go.bits .and .u64 ((IntKind.u64.wrap ((Go.bits .and .u64 (a0 / 2) 6148914691236517205)+(Go.bits .and .u64 a0 6148914691236517205))) / 4) 3689348814741910323)+(Go.bits .and .u64 (IntKind.u64.wrap ((Go.bits .and .u64 (a0 / 2) 6148914691236517205)+(Go.bits .and .u64 a0 6148914691236517205))) 3689348814741910323))) / 16)+(IntKind.u64.wrap ((Go.bits .and .u64 ((IntKind.u64.wrap ((Go.bits .and .u64 (a0 / 2) 6148914691236517205)+(Go.bits .and .u64 a0 6148914691236517205))) / 4) 3689348814741910323)+(Go.bits .and .u64 (IntKind.u64.wrap ((Go.bits .and .u64 (a0 / 2) 6148914691236517205)+(Go.bits .and .u64 a0 6148914691236517205))) 3689348814741910323))))) 1085102592571150095) / 256))) / 65536)))+((IntKind.u64.wrap ((IntKind.u64.wrap ((Go.bits .and .u64 (IntKind.u64.wrap (((IntKind.u64.wrap ((Go.bits .and .u64 ((IntKind.u64.wrap ((Go.bits .and .u64 (a0 / 2) 6148914691236517205)+(Go.bits .and .u64 a0 6148914691236517205))) / 4) 3689348814741910323)+(Go.bits .and .u64 (IntKind.u64.wrap ((Go.bits .and .u64 (a0 / 2) 6148914691236517205)+(Go.bits .and .u64 a0 6148914691236517205))) 3689348814741910323))) / 16)+(IntKind.u64.wrap ((Go.bits .and .u64 ((IntKind.u64.wrap ((Go.bits .and .u64 (a0 / 2) 6148914691236517205)+(Go.bits .and .u64 a0 6148914691236517205))) / 4) 3689348814741910323)+(Go.bits .and .u64 (IntKind.u64.wrap ((Go.bits .and .u64 (a0 / 2) 6148914691236517205)+(Go.bits .and .u64 a0 6148914691236517205))) 3689348814741910323))))) 1085102592571150095)+((Go.bits .and .u64 (IntKind.u64.wrap (((IntKind.u64.wrap ((Go.bits .and .u64 ((IntKind.u64.wrap ((Go.bits .and .u64 (a0 / 2) 6148914691236517205)+(Go.bits .and .u64 a0 6148914691236517205))) / 4) 3689348814741910323)+(Go.bits .and .u64 (IntKind.u64.wrap ((Go.bits .and .u64 (a0 / 2) 6148914691236517205)+(Go.bits .and .u64 a0 6148914691236517205))) 3689348814741910323))) / 16)+(IntKind.u64.wrap ((Go.bits .and .u64 ((IntKind.u64.wrap ((Go.bits .and .u64 (a0 / 2) 6148914691236517205)+(Go.bits .and .u64 a0 6148914691236517205))) / 4) 3689348814741910323)+(Go.bits .and .u64 (IntKind.u64.wrap ((Go.bits .and .u64 (a0 / 2) 6148914691236517205)+(Go.bits .and .u64 a0 6148914691236517205))) 3689348814741910323))))) 1085102592571150095) / 256)))+((IntKind.u64.wrap ((Go.bits .and .u64 (IntKind.u64.wrap (((IntKind.u64.wrap ((Go.bits .and .u64 ((IntKind.u64.wrap ((Go.bits .and .u64 (a0 / 2) 6148914691236517205)+(Go.bits .and .u64 a0 6148914691236517205))) / 4) 3689348814741910323)+(Go.bits .and .u64 (IntKind.u64.wrap ((Go.bits .and .u64 (a0 / 2) 6148914691236517205)+(Go.bits .and .u64 a0 6148914691236517205))) 3689348814741910323))) / 16)+(IntKind.u64.wrap ((Go.bits .and .u64 ((IntKind.u64.wrap ((Go.bits .and .u64 (a0 / 2) 6148914691236517205)+(Go.bits .and .u64 a0 6148914691236517205))) / 4) 3689348814741910323)+(Go.bits .and .u64 (IntKind.u64.wrap ((Go.bits .and .u64 (a0 / 2) 6148914691236517205)+(Go.bits .and .u64 a0 6148914691236517205))) 3689348814741910323))))) 1085102592571150095)+((Go.bits .and .u64 (IntKind.u64.wrap (((IntKind.u64.wrap ((Go.bits .and .u64 ((IntKind.u64.wrap ((Go.bits .and .u64 (a0 / 2) 6148914691236517205)+(Go.bits .and .u64 a0 6148914691236517205))) / 4) 3689348814741910323)+(Go.bits .and .u64 (IntKind.u64.wrap ((Go.bits .and .u64 (a0 / 2) 6148914691236517205)+(Go.bits .and .u64 a0 6148914691236517205))) 3689348814741910323))) / 16)+(IntKind.u64.wrap ((Go.bits .and .u64 ((IntKind.u64.wrap ((Go.bits .and .u64 (a0 / 2) 6148914691236517205)+(Go.bits .and .u64 a0 6148914691236517205))) / 4) 3689348814741910323)+(Go.bits .and .u64 (IntKind.u64.wrap ((Go.bits .and .u64 (a0 / 2) 6148914691236517205)+(Go.bits .and .u64 a0 6148914691236517205))) 3689348814741910323))))) 1085102592571150095) / 256))) / 65536))) / 4294967296)))) 127))=some r:=h;clear h;obtain rfl:=Option.some.inj H;go_enter Tryz.func163,Tryz.ntmps163;go_wp2
 go_ret;exact⟨rs,by repeat(first|exact Drawn0.refl _|apply Drawn0.step)⟩
def impl_size.f (a0:Int):Option (Int):=(bits_OnesCount64.f (IntKind.u64.wrap (a0))).bind fun t557=>(some t557)
set_option maxHeartbeats 8000000 in
set_option maxRecDepth 100000 in
theorem impl_size.calls (a0:Int) (r:Int) (w:World) (h:impl_size.f a0=some r) :
  Calls Tryz.prog 135 #[.int .i64 a0] w fun e w'=>e = .returned (.int .i64 r)∧Drawn0 w w':=by
 have H:((bits_OnesCount64.f (IntKind.u64.wrap (a0))).bind fun t557=>(some t557))=some r:=h;clear h;replace H:=Option.bind_eq_some_iff.mp H;obtain ⟨t557,A20,H⟩:=H;replace H:(some t557)=some r:=H;have A2:=Aside0.mk A20;clear A20;obtain rfl:=Option.some.inj H;go_enter Tryz.func135,Tryz.ntmps135;go_wp2_with (first|((with_reducible refine gate_callee (f:=163) rfl ?_);refine gl (some 5) Tryz.func163 #[.int .u64 (IntKind.u64.wrap (a0))] ?_;(with_reducible refine(bits_OnesCount64.calls (IntKind.u64.wrap (a0)) t557 _ A2.out).mono ?_);rintro e w' ⟨rfl,⟨nd,rfl⟩⟩;refine⟨_,rfl,?_⟩))
 go_ret;exact⟨rs,by repeat(first|exact Drawn0.refl _|apply Drawn0.step)⟩
def impl_length_int64.f (l0:List Int):Option (Int):=some (l0.length:Int)
set_option maxHeartbeats 8000000 in
set_option maxRecDepth 100000 in
theorem impl_length_int64.calls (A0:Option Addr) (c0:Nat) (l0:List Int) (r:Int) (w:World) (hr0:Kd.C (Kd.int .i64) w A0 l0.length l0) (hc0:l0.length≤c0) (h:impl_length_int64.f l0=some r) :
  Calls Tryz.prog 110 #[.slice A0 l0.length c0] w fun e w'=>e = .returned (.int .i64 r)∧Drawn0 w w':=by
 have HR0:=Aside0.mk hr0;have HC0:=Aside0.mk hc0;clear hr0 hc0;have H:(some (l0.length:Int))=some r:=h;clear h;obtain rfl:=Option.some.inj H;go_enter Tryz.func110,Tryz.ntmps110;go_wp2
 go_ret;exact⟨rs,by repeat(first|exact Drawn0.refl _|apply Drawn0.step)⟩
end Go.Proofs.YtlhkdbkjafiikaaGreat.Q
end

section
namespace Go.Proofs.YtlhkdbkjafiikaaGreat.K
open Go.RowKit Go.Shelf Go.Proofs.YtlhkdbkjafiikaaGreat.Q Go.Proofs.YtlhkdbkjafiikaaGreatW.PrintWords Go.Proofs.YtlhkdbkjafiikaaGreatW.PrintLast Go.Proofs.YtlhkdbkjafiikaaGreatW.PrintMore
set_option linter.unusedVariables false
set_option linter.unusedSimpArgs false
abbrev Asc (l:List Int):Prop:=l.Pairwise (· < ·)
def below (l:List Int) (t:Int):Nat:=l.countP (·<t)
theorem mid_eq (i j:Nat) (h:j≤2305843009213693952) (hij:i≤j):wrap64 ((IntKind.u64.wrap (wrap64 ((i:Int)+(j:Int)))) / 2)=(((i+j) / 2:Nat):Int):=by
 have h1:wrap64 ((i:Int)+(j:Int))=(i:Int)+j:=by unfold wrap64;omega
 have h2:IntKind.u64.wrap ((i:Int)+(j:Int))=(i:Int)+j:=by
  simp [IntKind.wrap,IntKind.signed,IntKind.bits];omega
 rw[h1,h2]
 unfold wrap64
 omega
theorem rd_get (l:List Int) (i:Nat) (h:i<l.length):rd l (i:Int)=l[i]:=by simp [rd,h]
theorem less_is (a b:Int):cmp_Less_int64.f a b=some (decide (a<b)):=by
 simp [cmp_Less_int64.f,cmp_isNaN_int64.f]
theorem bs_loop (l:List Int) (t:Int) (hl:l.length≤2305843009213693952):∀(d k i j:Nat),j - i≤d→d<k→i≤j→j≤l.length →
  ∃(m:Nat) (ok:Bool),slices_BinarySearch_int64_int64.l0 k l t (l.length:Int) (i:Int) (j:Int)=some ((m:Int),ok)∧i≤m∧m≤j ∧
   (Asc l→(∀ q (h:q<l.length),q<i→l[q]<t)→(∀ q (h:q<l.length),j≤q→t≤l[q]) →
    ((∀ q (h:q<l.length),q<m→l[q]<t)∧(∀ q (h:q<l.length),m≤q→t≤l[q])∧ok=decide (t ∈ l))):=by
 intro d
 induction d with
 |zero=>
  intro k i j hd hk hij hj
  obtain ⟨k,rfl⟩:∃ m,k=m+1:=⟨k - 1,by omega⟩
  obtain rfl:i=j:=by omega
  simp only [slices_BinarySearch_int64_int64.l0]
  rw[if_neg (by omega)]
  by_cases hi:i<l.length
  ·rw[if_pos (by omega),if_pos (by omega),if_pos (by omega),rd_get l i hi]
   by_cases he:l[i]=t
   ·rw[if_pos he]
    refine⟨i,true,rfl,Nat.le_refl _,Nat.le_refl _,fun hs h1 h2=>⟨h1,h2,?_⟩⟩
    have:t ∈ l:=he ▸ List.getElem_mem hi
    simp [this]
   ·rw[if_neg he]
    refine⟨i,false,by simp [slices_isNaN_int64.f],Nat.le_refl _,Nat.le_refl _,fun hs h1 h2=>⟨h1,h2,?_⟩⟩
    have:t ∉ l:=by
     intro hm
     obtain ⟨q,hq,rfl⟩:=List.mem_iff_getElem.1 hm
     rcases Nat.lt_trichotomy q i with h|h|h
     ·have:=h1 q hq h;omega
     ·subst h;exact he rfl
     ·have:=h2 i hi (Nat.le_refl _)
      have:=List.pairwise_iff_getElem.1 hs i q hi hq h
      omega
    simp [this]
  ·rw[if_neg (by omega)]
   refine⟨i,false,rfl,Nat.le_refl _,Nat.le_refl _,fun hs h1 h2=>⟨h1,h2,?_⟩⟩
   have:t ∉ l:=by
    intro hm
    obtain ⟨q,hq,rfl⟩:=List.mem_iff_getElem.1 hm
    have:=h1 q hq (by omega);omega
   simp [this]
 |succ d ih=>
  intro k i j hd hk hij hj
  by_cases hlt:i<j
  ·obtain ⟨k,rfl⟩:∃ m,k=m+1:=⟨k - 1,by omega⟩
   have hm1:(i+j) / 2<l.length:=by omega
   simp only [slices_BinarySearch_int64_int64.l0]
   rw[if_pos (by omega),mid_eq i j (by omega) hij,if_pos (by omega),if_pos (by omega),rd_get l _ hm1,less_is]
   simp only [Option.bind_some]
   by_cases hc:l[(i+j) / 2]<t
   ·have hw:wrap64 ((((i+j) / 2:Nat):Int)+1)=(((i+j) / 2+1:Nat):Int):=by unfold wrap64;omega
    simp only [hc,decide_true,if_true,hw]
    obtain ⟨m,ok,h1,h2,h3,h4⟩:=ih k ((i+j) / 2+1) j (by omega) (by omega) (by omega) hj
    refine⟨m,ok,h1,by omega,h3,fun hs g1 g2=>h4 hs (fun q hq hqi=>?_) g2⟩
    rcases Nat.lt_or_ge q ((i+j) / 2) with h|h
    ·have:=List.pairwise_iff_getElem.1 hs q _ hq hm1 h;omega
    ·obtain rfl:q=(i+j) / 2:=by omega
     exact hc
   ·simp only [hc,decide_false,Bool.false_eq_true,if_false]
    obtain ⟨m,ok,h1,h2,h3,h4⟩:=ih k i ((i+j) / 2) (by omega) (by omega) (by omega) (by omega)
    refine⟨m,ok,h1,h2,by omega,fun hs g1 g2=>h4 hs g1 (fun q hq hqi=>?_)⟩
    rcases Nat.lt_or_ge ((i+j) / 2) q with h|h
    ·have:=List.pairwise_iff_getElem.1 hs _ q hm1 hq h;omega
    ·obtain rfl:q=(i+j) / 2:=by omega
     omega
  ·obtain ⟨m,ok,h1,h2⟩:=ih k i j (by omega) (by omega) hij hj
   exact⟨m,ok,h1,h2⟩
def bsOf (l:List Int) (t:Int):Int×Bool:=(slices_BinarySearch_int64_int64.f (l.length+1) l t).getD (0,false)
theorem bs_is (l:List Int) (t:Int) (hl:l.length≤2305843009213693952):slices_BinarySearch_int64_int64.f (l.length+1) l t=some (bsOf l t):=by
 obtain ⟨m,ok,h,_⟩:=bs_loop l t hl l.length (l.length+1) 0 l.length (by omega) (by omega) (by omega) (Nat.le_refl _)
 unfold bsOf slices_BinarySearch_int64_int64.f
 rw[show ((0:Nat):Int)=0 from rfl] at h
 rw[h];rfl
theorem bs_asc (l:List Int) (t:Int) (hl:l.length≤2305843009213693952) (hs:Asc l):∃ m:Nat,(bsOf l t).1=m∧m≤l.length∧(∀ q (h:q<l.length),q<m→l[q]<t)∧(∀ q (h:q<l.length),m≤q→t≤l[q])∧(bsOf l t).2=decide (t ∈ l):=by
 obtain ⟨m,ok,h,_,h3,h4⟩:=bs_loop l t hl l.length (l.length+1) 0 l.length (by omega) (by omega) (by omega) (Nat.le_refl _)
 have:=bs_is l t hl
 unfold slices_BinarySearch_int64_int64.f at this
 rw[show ((0:Nat):Int)=0 from rfl] at h
 rw[h] at this
 injection this with this
 obtain ⟨g1,g2,g3⟩:=h4 hs (fun q _ h=>by omega) (fun q hq h=>by omega)
 rw[← this]
 exact⟨m,rfl,h3,g1,g2,g3⟩
def hasB (l:List Int) (f:Int):Bool:=(bsOf l f).2
theorem has_asc (l:List Int) (f:Int) (hl:l.length≤2305843009213693952) (hs:Asc l):hasB l f=decide (f ∈ l):=by
 obtain ⟨_,_,_,_,_,h⟩:=bs_asc l f hl hs
 exact h
theorem has_calls (n:Int) (A:Option Addr) (c:Nat) (l:List Int) (f:Int) (w:World) (hr:Ki.C w A l.length l) (hc:l.length≤c) (hl:l.length≤2305843009213693952) :
  Calls Tryz.prog 54 #[.agg #[I n,.slice A l.length c],I f] w fun e w'=>e = .returned (.bool (hasB l f))∧Grew w w':=
 impl_Complex_has.calls (l.length+1) n A c l f (hasB l f) w hr hc (by unfold impl_Complex_has.f;rw[bs_is l f hl];rfl)
end Go.Proofs.YtlhkdbkjafiikaaGreat.K
end

section
namespace Go.Proofs.YtlhkdbkjafiikaaGreat.K
open Go.RowKit Go.Shelf Go.Proofs.YtlhkdbkjafiikaaGreat.Q Go.Proofs.YtlhkdbkjafiikaaGreatW.PrintWords Go.Proofs.YtlhkdbkjafiikaaGreatW.PrintLast Go.Proofs.YtlhkdbkjafiikaaGreatW.PrintMore
set_option linter.unusedVariables false
set_option linter.unusedSimpArgs false
theorem within_is (a b c:Int):impl_within.f a b c=some (decide (b≤a∧a≤c)):=by
 unfold impl_within.f
 by_cases h:b≤a <;> simp [h]
theorem within_calls (a b c:Int) (r:Bool) (h:decide (b≤a∧a≤c)=r) (w:World) :
  Calls Tryz.prog 93 #[I a,I b,I c] w fun e w'=>e = .returned (.bool r)∧Grew w w':=
 (impl_within.calls a b c r w (by rw[within_is,h])).mono fun e w' ⟨he,hd⟩=>⟨he,hd.below⟩
theorem isSize_calls (n:Int) (r:Bool) (h:decide (1≤n∧n≤6)=r) (w:World) :
  Calls Tryz.prog 128 #[I n] w fun e w'=>e = .returned (.bool r)∧Grew w w':=
 (impl_isSize.calls n r w (by unfold impl_isSize.f;rw[within_is,h];rfl)).mono fun e w' ⟨he,hd⟩=>⟨he,hd.below⟩
def fullOf (n:Int):Int:=2 ^ n.toNat - 1
theorem two_pow (m k:Nat) (h:m≤k):(1:Int)≤2 ^ m∧(2:Int) ^ m≤2 ^ k:=by
 have h1:(2:Nat) ^ m≤2 ^ k:=Nat.pow_le_pow_right (by omega) h
 have h2:(1:Nat)≤2 ^ m:=Nat.one_le_two_pow
 have e1:(2:Int) ^ m=((2 ^ m:Nat):Int):=by simp
 have e2:(2:Int) ^ k=((2 ^ k:Nat):Int):=by simp
 rw[e1,e2]
 omega
theorem full_range (n:Int) (h:1≤n∧n≤6):1≤fullOf n∧fullOf n≤63:=by
 unfold fullOf
 have h1:=two_pow n.toNat 6 (by omega)
 have h2:=two_pow 1 n.toNat (by omega)
 omega
theorem full_nat (n:Int):fullOf n=((2 ^ n.toNat - 1:Nat):Int):=by
 unfold fullOf
 have:((2 ^ n.toNat:Nat):Int)=(2:Int) ^ n.toNat:=by simp
 have h1:(1:Nat)≤2 ^ n.toNat:=Nat.one_le_two_pow
 omega
theorem shl_one (n:Int) (h0:0≤n) (h6:n≤62):shl .i64 1 n=2 ^ n.toNat:=by
 have h:=two_pow n.toNat 62 (by omega)
 unfold shl
 rw[Nat.min_eq_left (by show n.toNat≤64;omega),Int.one_mul]
 show IntKind.wrap .i64 _=_
 rw[IntKind.wrap_i64]
 omega
theorem full_is (n:Int) (l:List Int) (h0:0≤n) (h6:n≤62):impl_Complex_full.f n l=some (fullOf n):=by
 unfold impl_Complex_full.f fullOf
 rw[if_pos h0,shl_one n h0 h6]
 congr 1
 have h:=two_pow n.toNat 62 (by omega)
 unfold wrap64
 omega
theorem full_calls (n:Int) (A:Option Addr) (c:Nat) (l:List Int) (w:World) (h0:0≤n) (h6:n≤62) (hr:Ki.C w A l.length l) (hc:l.length≤c) :
  Calls Tryz.prog 79 #[.agg #[I n,.slice A l.length c]] w fun e w'=>e = .returned (I (fullOf n))∧Grew w w':=
 impl_Complex_full.calls n A c l (fullOf n) w hr hc (full_is n l h0 h6)
end Go.Proofs.YtlhkdbkjafiikaaGreat.K
end

section
namespace Go.Proofs.YtlhkdbkjafiikaaGreat.K
open Go.RowKit Go.Shelf Go.Proofs.YtlhkdbkjafiikaaGreatW.PrintWords Go.Proofs.YtlhkdbkjafiikaaGreatW.PrintLast Go.Proofs.YtlhkdbkjafiikaaGreatW.PrintMore
set_option linter.unusedVariables false
set_option linter.unusedSimpArgs false
def closedAt (l:List Int) (f:Int):Bool:=(bords f).all (hasB l)
theorem bords_length (f:Int):(bords f).length≤6:=by
 have h1:=bordsOf_length f (verts f).reverse
 have h2:=verts_length f
 unfold bords
 simp at h1;omega
theorem has_answers (n:Int) (A:Option Addr) (c:Nat) (l:List Int) (w:World) (hr:Ki.C w A l.length l) (hc:l.length≤c) (hl:l.length≤2305843009213693952) (x:Int) :
  Answers w 54 (#[.agg #[I n,.slice A l.length c]].push (I x) ++ #[]) (.bool (hasB l x)):=
 fun W hW=>has_calls n A c l x W (Kd.C_below hr hW) hc hl
set_option maxHeartbeats 2000000 in
theorem IsComplex1_calls (n f:Int) (B:Nat) (A:Option Addr) (c:Nat) (l:List Int) (w:World) (hb:w.heap[B]?=some (.cells #[I n,.slice A l.length c] 26 (0,0)))
  (hr:Ki.C w A l.length l) (hc:l.length≤c) (hl:l.length≤2305843009213693952) :
  Calls Tryz.prog 129 #[I f,.pointer (some ⟨B,0,none⟩)] w fun e w'=>e = .returned (.bool (closedAt l f))∧Grew w w':=by
 have hlt:B<w.heap.size:=(Array.getElem?_eq_some_iff.1 hb).1
 have h0:w.cell? ⟨B,0,none⟩=some (I n):=blk_cell hb 0
 have h1:w.cell? ⟨B,1,none⟩=some (.slice A l.length c):=blk_cell hb 1
 have HR:=Aside0.mk hr
 have HC:=Aside0.mk hc
 clear hr hc hb
 go_enter Tryz.func129,Tryz.ntmps129
 go_wp2_with fail
 go_region_held3 (fun w'=>w'.cell? ⟨B,0,none⟩=some (I n)∧w'.cell? ⟨B,1,none⟩=some (.slice A l.length c))
  (first|exact⟨(HG2.out.cell (p:=⟨B,0,none⟩) hlt).trans h0,(HG2.out.cell (p:=⟨B,1,none⟩) hlt).trans h1⟩|exact⟨(HG.out.cell (p:=⟨B,0,none⟩) hlt).trans h0,(HG.out.cell (p:=⟨B,1,none⟩) hlt).trans h1⟩|go_keep)
  (first
   |(go_at_call 130;refine(borders_calls f _).mono ?_;rintro e w1 ⟨v,rfl,hR,hG⟩;obtain ⟨A1,c1,hv,hle,hCr⟩:=Kd.R_reads hR;subst hv;have HG:Aside0 (Grew w w1):=⟨Below.trans ((Below.refl _ w).drew) hG⟩;have HL:=Aside0.mk hle;have HCR:=Aside0.mk hCr;clear hR hle hCr)
   |(go_at_call 115;refine(areAll_int (hasB l) A1 c1 (bords f) _ _ _ _ HCR.out HL.out (by have:=bords_length f;omega) (enters_of Tryz.func54 (by kernel_rfl) rfl) (fun x _=>has_answers n A c l _ (Kd.C_below HR.out HG.out) HC.out hl x)).mono ?_;rintro e w2 ⟨rfl,hG2⟩;have HG2:Aside0 (Grew w w2):=⟨Grew.trans HG.out hG2⟩;clear hG2))
 all_goals (go_wp2_with fail;go_ret;exact⟨rfl,HG2.out⟩)
def goodAt (n:Int) (l:List Int) (j:Nat):Prop:=∀(h:j<l.length),1≤l[j]∧l[j]≤fullOf n∧(∀(h0:0<j),l[j - 1]'(by omega)<l[j])
instance (n:Int) (l:List Int) (j:Nat):Decidable (goodAt n l j):=by unfold goodAt;infer_instance
def rangeAsc (n:Int) (l:List Int):Bool:=decide (∀ j,j<l.length→goodAt n l j)
def isC (n:Int) (l:List Int):Bool:=decide (1≤n∧n≤6) && (rangeAsc n l && l.all (closedAt l))
theorem rangeAsc_false (n:Int) (l:List Int) (j:Nat) (h:j<l.length) (hb:¬ goodAt n l j):rangeAsc n l=false:=by
 unfold rangeAsc
 exact decide_eq_false fun hall=>hb (hall j h)
set_option maxRecDepth 100000 in
set_option maxHeartbeats 4000000 in
theorem IsComplex_calls (n:Int) (A:Option Addr) (c:Nat) (l:List Int) (w:World) (hr:Ki.C w A l.length l) (hc:l.length≤c) (hl:l.length≤1152921504606846976) :
  Calls Tryz.prog 76 #[.agg #[I n,.slice A l.length c]] w fun e w'=>e = .returned (.bool (isC n l))∧Grew w w':=by
 have HR:=Aside0.mk hr
 have HC:=Aside0.mk hc
 clear hr hc
 by_cases hn:1≤n∧n≤6
 ·have hF:=full_range n hn
  have HI:=Aside0.mk (show isC n l=(rangeAsc n l && l.all (closedAt l)) by simp [isC,hn])
  go_enter Tryz.func76,Tryz.ntmps76
  go_wp2_with fail
  refine(isSize_calls n true (by simp [hn]) _).mono ?_
  rintro e w1 ⟨rfl,hG1⟩
  have HB1:Aside0 (w1.heap[w.heap.size]?=some (.cells #[I n,.slice A l.length c] 26 (0,0))):=⟨blk_below (blk_new w _) hG1⟩
  have HG1:Aside0 (Grew w w1):=⟨Grew.trans (below_alloc (Grew.refl w) _) hG1⟩
  clear hG1
  have h0:w1.cell? ⟨w.heap.size,0,none⟩=some (I n):=blk_cell HB1.out 0
  have h1:w1.cell? ⟨w.heap.size,1,none⟩=some (.slice A l.length c):=blk_cell HB1.out 1
  go_wp2_with fail
  clear h0 h1
  go_loopg [12] l.length (fun gg s12 wr=>∃ kk:Nat,kk≤l.length∧l.length - kk≤gg∧s12 = .int .i64 kk∧Aside0 (Grew w1 wr)∧Aside0 (∀ j,j<kk→goodAt n l j))
  case atStart=>exact⟨0,Nat.zero_le _,by omega,rfl,⟨Below.refl _ _⟩,⟨fun j hj=>absurd hj (Nat.not_lt_zero _)⟩⟩
  case round=>
   obtain ⟨kk,hkk,hg,rfl,BW,A0⟩:=hrel
   have HBr:Aside0 (wr.heap[w.heap.size]?=some (.cells #[I n,.slice A l.length c] 26 (0,0))):=⟨blk_below HB1.out BW.out⟩
   have HGr:Aside0 (Grew w wr):=⟨Grew.trans HG1.out BW.out⟩
   have h0:wr.cell? ⟨w.heap.size,0,none⟩=some (I n):=blk_cell HBr.out 0
   have h1:wr.cell? ⟨w.heap.size,1,none⟩=some (.slice A l.length c):=blk_cell HBr.out 1
   by_cases hlt:kk<l.length
   ·have hltz:(kk:Int)<(l.length:Int):=by omega
    obtain ⟨ad,e0,hx⟩:=Kd.at_int (Kd.C_below HR.out HGr.out) (kk:Int) (by omega) (by omega)
    cases e0
    have hrd:rd l (kk:Int)=l[kk]:=by simp [rd,hlt]
    rw[hrd,Int.toNat_natCast] at hx
    clear hrd
    obtain ⟨y,hy⟩:∃ y,y=l[kk]:=⟨_,rfl⟩
    rw[← hy] at hx
    have HY:=Aside0.mk hy
    clear hy
    go_wp2_with fail
    refine(full_calls n _ c l _ (by omega) (by omega) (Kd.C_below HR.out HGr.out) HC.out).mono ?_
    rintro e w2 ⟨rfl,hG2⟩
    go_wp2_with fail
    by_cases hin:1≤y∧y≤fullOf n
    ·refine(within_calls y 1 (fullOf n) true (by simp [hin]) _).mono ?_
     rintro e w3 ⟨rfl,hG3⟩
     have HG3:Aside0 (Grew wr w3):=⟨Grew.trans hG2 hG3⟩
     have HB3:=Aside0.mk (blk_below HBr.out HG3.out)
     have h03:w3.cell? ⟨w.heap.size,0,none⟩=some (I n):=blk_cell HB3.out 0
     have h13:w3.cell? ⟨w.heap.size,1,none⟩=some (.slice (some ad) l.length c):=blk_cell HB3.out 1
     clear hG2 hG3 h0 h1 hx
     rcases Nat.eq_zero_or_pos kk with rfl|hpos
     ·go_wp2_with fail
      go_roundg (l.length - 1)
      case measure=>omega
      case rel=>exact⟨1,by omega,by omega,rfl,⟨Grew.trans BW.out HG3.out⟩,⟨fun j hj h=>by
       obtain rfl:j=0:=by omega
       have:=HY.out
       exact⟨by omega,by omega,fun h0=>absurd h0 (Nat.lt_irrefl 0)⟩⟩⟩
     ·obtain ⟨m,rfl⟩:∃ m,kk=m+1:=⟨kk - 1,by omega⟩
      obtain ⟨ad',e0,hx'⟩:=Kd.at_int (Kd.C_below HR.out (Grew.trans HGr.out HG3.out)) (m:Int) (by omega) (by omega)
      cases e0
      have hrd:rd l (m:Int)=l[m]:=by simp [rd,show m<l.length by omega]
      rw[hrd,Int.toNat_natCast] at hx'
      clear hrd
      obtain ⟨z,hz⟩:∃ z,z=l[m]:=⟨_,rfl⟩
      rw[← hz] at hx'
      have HZ:=Aside0.mk hz
      clear hz
      by_cases hyz:y≤z
      ·have HF:Aside0 (isC n l=false):=⟨by
        rw[HI.out,rangeAsc_false n l (m+1) hlt (fun hg=>by
         have h2:=(hg hlt).2.2 (by omega)
         have e1:=HY.out
         have e2:=HZ.out
         simp only [Nat.add_sub_cancel] at h2
         omega)]
        rfl⟩
       go_wp2_with fail
       go_ret
       exact⟨by rw[HF.out];rfl,Grew.trans HGr.out HG3.out⟩
      ·go_wp2_with fail
       go_roundg (l.length - (m+1+1))
       case measure=>omega
       case rel=>exact⟨m+1+1,by omega,by omega,by go_num,⟨Grew.trans BW.out HG3.out⟩,⟨fun j hj h=>by
        rcases Nat.lt_or_ge j (m+1) with h'|h'
        ·exact A0.out j h' h
        ·obtain rfl:j=m+1:=by omega
         have e1:=HY.out
         have e2:=HZ.out
         exact⟨by omega,by omega,fun _=>by simp only [Nat.add_sub_cancel];omega⟩⟩⟩
    ·have HF:Aside0 (isC n l=false):=⟨by
      rw[HI.out,rangeAsc_false n l kk hlt (fun hg=>by
       have h2:=hg hlt
       have e1:=HY.out
       omega)]
      rfl⟩
     refine(within_calls y 1 (fullOf n) false (by simpa using hin) _).mono ?_
     rintro e w3 ⟨rfl,hG3⟩
     have HG3:Aside0 (Grew wr w3):=⟨Grew.trans hG2 hG3⟩
     clear hG2 hG3 h0 h1 hx
     go_wp2_with fail
     go_ret
     exact⟨by rw[HF.out];rfl,Grew.trans HGr.out HG3.out⟩
   ·obtain rfl:kk=l.length:=by omega
    have HT:Aside0 (isC n l=l.all (closedAt l)):=⟨by
     rw[HI.out,show rangeAsc n l=true from decide_eq_true fun j hj=>A0.out j hj]
     rfl⟩
    have H:=Aside0.mk (areAll_int (closedAt l) A c l 129 #[] #[.pointer (some ⟨w.heap.size,0,none⟩)] wr (Kd.C_below HR.out HGr.out) HC.out (by omega)
     (enters_of Tryz.func129 (by kernel_rfl) rfl)
     (fun x hx W hW=>IsComplex1_calls n x w.heap.size A c l W (blk_below HBr.out hW) (Kd.C_below HR.out (Grew.trans HGr.out hW)) HC.out (by omega)))
    generalize l.all (closedAt l)=b at H HT
    go_wp2_with fail
    refine H.out.mono ?_
    rintro e w4 ⟨rfl,hG4⟩
    go_wp2_with fail
    go_ret
    exact⟨by rw[HT.out];rfl,Grew.trans HGr.out hG4⟩
 ·have HF:Aside0 (isC n l=false):=⟨by simp only [isC,decide_eq_false hn,Bool.false_and]⟩
  go_enter Tryz.func76,Tryz.ntmps76
  go_wp2_with fail
  refine(isSize_calls n false (by simpa using hn) _).mono ?_
  rintro e w1 ⟨rfl,hG1⟩
  have HG1:Aside0 (Grew w w1):=⟨Grew.trans (below_alloc (Grew.refl w) _) hG1⟩
  clear hG1
  go_wp2_with fail
  go_ret
  exact⟨by rw[HF.out];rfl,HG1.out⟩
end Go.Proofs.YtlhkdbkjafiikaaGreat.K
end

section
namespace Go.Proofs.YtlhkdbkjafiikaaGreat.K
open Go.RowKit Go.Shelf Go.Proofs.YtlhkdbkjafiikaaGreatW.PrintWords Go.Proofs.YtlhkdbkjafiikaaGreatW.PrintLast Go.Proofs.YtlhkdbkjafiikaaGreatW.PrintMore
set_option linter.unusedVariables false
set_option linter.unusedSimpArgs false
abbrev CB (w:World) (g:Nat) (n:Int) (v:Value):Prop:=w.heap[g]?=some (.cells #[I n,v] 26 (0,0))
theorem CB.set {w:World} {g:Nat} {n m:Int} {v u:Value} (h:CB w g n v):CB ((w.setCell ⟨g,0,none⟩ (I m)).setCell ⟨g,1,none⟩ u) g m u:=
 blk_put (cs:=#[I m,v]) (blk_put (cs:=#[I n,v]) h 0 _ rfl) 1 _ rfl
theorem CB.set1 {w:World} {g:Nat} {n:Int} {v u:Value} (h:CB w g n v):CB (w.setCell ⟨g,1,none⟩ u) g n u:=blk_put (cs:=#[I n,v]) h 1 _ rfl
theorem CB.c0 {w:World} {g:Nat} {n:Int} {v:Value} (h:CB w g n v):w.cell? ⟨g,0,none⟩=some (I n):=blk_cell h 0
theorem CB.c1 {w:World} {g:Nat} {n:Int} {v:Value} (h:CB w g n v):w.cell? ⟨g,1,none⟩=some v:=blk_cell h 1
theorem CB.far {w:World} {g:Nat} {n:Int} {v:Value} (h:CB w g n v) {p:Addr} (hp:g≠p.block) (u:Value):CB (w.setCell p u) g n v:=blk_far h hp u
theorem Ri.set {w:World} {base:Nat} {ok:Nat→Prop} {v:Value} {l:List Int} (h:Ki.R 2 w base ok v l) {g t:Nat} {cells:Array Value} (hb:w.heap[g]?=some (.cells cells t (0,0))) (ht:2≠t) (j:Nat) (u:Value):Ki.R 2 (w.setCell ⟨g,j,none⟩ u) base ok v l:=
 Kd.R_set h hb (fun q hq=>by
  have:q=2:=by simpa [Ki,Kd.int,Kd.scalar] using hq
  rw[this];exact ht) j u
theorem CB.grown {w w1:World} {g:Nat} {n:Int} {v u:Value} {base:Nat} {ok:Nat→Prop} {l:List Int} (h:CB w g n v) (hR:Ki.R 2 w base ok u l) (hg:w.grownBy w1 u.ownBlock):CB w1 g n v:=
 blk_grown h hg (Kd.R_ne hR h (by decide))
theorem Ri.setCB {w:World} {base:Nat} {ok:Nat→Prop} {v u:Value} {l:List Int} {g:Nat} {n:Int} (h:Ki.R 2 w base ok v l) (hb:CB w g n u) (j:Nat) (x:Value):Ki.R 2 (w.setCell ⟨g,j,none⟩ x) base ok v l:=Ri.set h hb (by decide) j x
theorem Ri.setCB2 {w:World} {base:Nat} {ok:Nat→Prop} {v u:Value} {l:List Int} {g:Nat} {n m:Int} {y:Value} (h:Ki.R 2 w base ok v l) (hb:CB w g n u):Ki.R 2 ((w.setCell ⟨g,0,none⟩ (I m)).setCell ⟨g,1,none⟩ y) base ok v l:=
 Ri.set (Ri.set h hb (by decide) 0 (I m)) (blk_put (cs:=#[I n,u]) hb 0 (I m) rfl) (by decide) 1 y
theorem infoI:(Tryz.prog.info? 2).map (fun i=>(i.zero,i.size,i.bytes))=some (some (.int .i64 0),1,8):=by kernel_rfl
section
variable {ops : Array Oper} {rest : List Oper} {o : Oper} {a : Act} {Q : Exit → Act → World → Prop}
theorem append_int {W:World} (base:Nat) (hgd:o.guard=none) (s x:Operand)
  (ho:o.op = .call { callee:= .builtin .append,args:=#[s,x],argTypes:=#[24,24] })
  (v:Value) (xs:List Int) (p:Int) (hs:a.eval s=v) (hx:a.eval x = .slice (some ⟨W.heap.size,0,none⟩) 1 1)
  (HO:Ki.R 2 W base (fun _=>True) v xs) (hbase:base≤W.heap.size) (hl:xs.length≤1000000000000)
  (h:∀ A c w1,Ki.R 2 w1 base (fun _=>True) (.slice A (xs.length+1) c) (xs ++ [p])→Below base W w1→W.grownBy w1 v.ownBlock→wpList Tryz.prog ops Q rest (a.put o.dst (.slice A (xs.length+1) c)) w1) :
  wpList Tryz.prog ops Q (o :: rest) a (W.alloc (.cells #[I p] 2)):=by
 refine Kd.R_append Ki (w0:=W) base hgd s x 24 2 (.int .i64 0) 8 ho Tryz.underlying24 infoI rfl (by decide) (by omega) v xs p [I p] (fun _=>True) (fun _=>False) hs hx rfl (fun _ hk=>hk.elim) (fun _ _=>trivial) HO (Below.refl _ _) hbase (by omega) ?_
 intro v1 w1 hR hB hg _
 obtain ⟨A,c,e⟩:=Kd.R_slice hR
 rw[List.length_append] at e
 subst e
 exact h A c w1 hR hB hg
end
end Go.Proofs.YtlhkdbkjafiikaaGreat.K
end

section
namespace Go.Proofs.YtlhkdbkjafiikaaGreat.K
open Go.RowKit Go.Shelf Go.Proofs.YtlhkdbkjafiikaaGreatW.PrintWords Go.Proofs.YtlhkdbkjafiikaaGreatW.PrintLast Go.Proofs.YtlhkdbkjafiikaaGreatW.PrintMore
set_option linter.unusedVariables false
set_option linter.unusedSimpArgs false
theorem CB.later {w w':World} {g:Nat} {n:Int} {v:Value} (h:CB w g n v) (hb:Grew w w'):CB w' g n v:=blk_below h hb
structure Kx (w:World) (A:Option Addr) (c:Nat) (l:List Int):Prop where
 r:Ki.C w A l.length l
 c:l.length≤c
 b:l.length≤1152921504606846976
theorem Kx.later {w w':World} {A:Option Addr} {c:Nat} {l:List Int} (h:Kx w A c l) (hb:Grew w w'):Kx w' A c l:=⟨Kd.C_below h.r hb,h.c,h.b⟩
theorem Kx.has {w:World} {A:Option Addr} {c:Nat} {l:List Int} (h:Kx w A c l) (n f:Int) :
  Calls Tryz.prog 54 #[.agg #[I n,.slice A l.length c],I f] w fun e w'=>e = .returned (.bool (hasB l f))∧Grew w w':=
 has_calls n A c l f w h.r h.c (Nat.le_trans h.b (by decide))
theorem isC_size {n:Int} {l:List Int} (h:isC n l=true):1≤n∧n≤6:=by
 unfold isC at h
 simp at h
 exact h.1
end Go.Proofs.YtlhkdbkjafiikaaGreat.K
end

section
namespace Go.Proofs.YtlhkdbkjafiikaaGreat.K
open Go.RowKit Go.Shelf Go.Proofs.YtlhkdbkjafiikaaGreat.Q Go.Proofs.YtlhkdbkjafiikaaGreatW.PrintWords Go.Proofs.YtlhkdbkjafiikaaGreatW.PrintLast Go.Proofs.YtlhkdbkjafiikaaGreatW.PrintMore
set_option linter.unusedVariables false
set_option linter.unusedSimpArgs false
def Row (w:World) (lo hi:Nat) (v:Value) (l:List Int):Prop:=Ki.R 2 w lo (fun k=>lo≤k∧k<hi) v l
theorem Row.of_R {w w':World} {v:Value} {l:List Int} (h:Ki.R 2 w' w.heap.size (fun _=>True) v l):Row w' w.heap.size w'.heap.size v l:=
 Kd.R_mono (Kd.R_bound h) (fun k hk=>⟨hk.2.1,hk.2.2.1⟩)
theorem Row.kept {w w':World} {lo hi:Nat} {v:Value} {l:List Int} {S:Nat→Prop} (h:Row w lo hi v l) (hk:Kept w w' S) (hs:∀ k,lo≤k→k<hi→¬ S k):Row w' lo hi v l:=
 Kd.R_step h (fun k ho hlt=>hk.2 k hlt (hs k ho.1 ho.2))
theorem Row.reads {w:World} {lo hi:Nat} {v:Value} {l:List Int} (h:Row w lo hi v l):∃ A c,v = .slice A l.length c∧l.length≤c∧Ki.C w A l.length l:=Kd.R_reads h
theorem Row.slice {w:World} {lo hi m c:Nat} {A:Option Addr} {l:List Int} (h:Row w lo hi (.slice A m c) l):m=l.length∧m≤c∧Ki.C w A l.length l:=by
 obtain ⟨A',c',e,h1,h2⟩:=h.reads
 injection e with e1 e2 e3
 subst e1 e2 e3
 exact⟨rfl,h1,h2⟩
inductive Item where
 |box (g t:Nat) (cs:Array Value)
 |row (lo hi:Nat) (v:Value) (l:List Int)
def Item.ok (W:World):Item→Prop
 |.box g t cs=>W.heap[g]?=some (.cells cs t (0,0))
 |.row lo hi v l=>Row W lo hi v l
def Item.at_:Item→Nat→Prop
 |.box g _ _,k=>k=g
 |.row lo hi _ _,k=>lo≤k∧k<hi
theorem Item.kept {W W':World} {S:Nat→Prop} {it:Item} (h:it.ok W) (hk:Kept W W' S) (hs:∀ k,it.at_ k→¬ S k):it.ok W':=by
 cases it with
 |box g t cs=>exact blk_kept h hk (hs g rfl)
 |row lo hi v l=>exact Row.kept h hk (fun k h1 h2=>hs k ⟨h1,h2⟩)
def Mem (W:World) (its:List Item):Prop:=∀ it ∈ its,it.ok W
theorem Mem.nil (W:World):Mem W []:=fun _ h=>by cases h
theorem Mem.cons {W:World} {it:Item} {its:List Item} (h:it.ok W) (hs:Mem W its):Mem W (it :: its):=fun x hx=>by
 rcases List.mem_cons.1 hx with rfl|hx
 ·exact h
 ·exact hs x hx
theorem Mem.head {W:World} {it:Item} {its:List Item} (h:Mem W (it :: its)):it.ok W:=h it List.mem_cons_self
theorem Mem.tail {W:World} {it:Item} {its:List Item} (h:Mem W (it :: its)):Mem W its:=fun x hx=>h x (List.mem_cons_of_mem _ hx)
theorem Mem.kept {W W':World} {S:Nat→Prop} {its:List Item} (h:Mem W its) (hk:Kept W W' S) (hs:∀ it ∈ its,∀ k,it.at_ k→¬ S k):Mem W' its:=fun it hit=>Item.kept (h it hit) hk (hs it hit)
theorem Mem.grew {W W':World} {its:List Item} (h:Mem W its) (hb:Grew W W'):Mem W' its:=h.kept (Kept.of_below hb (fun _=>False)) (fun _ _ _ _ hf=>hf)
end Go.Proofs.YtlhkdbkjafiikaaGreat.K
end

section
namespace Go.Proofs.YtlhkdbkjafiikaaGreat.K
open Go.RowKit Go.Shelf Go.Proofs.YtlhkdbkjafiikaaGreat.Q Go.Proofs.YtlhkdbkjafiikaaGreatW.PrintWords Go.Proofs.YtlhkdbkjafiikaaGreatW.PrintLast Go.Proofs.YtlhkdbkjafiikaaGreatW.PrintMore
set_option linter.unusedVariables false
set_option linter.unusedSimpArgs false
theorem specIn_is (a b c:Int):spec_l01In.f a b c=some (decide (b≤a∧a≤c)):=by
 unfold spec_l01In.f
 by_cases h:b≤a
 ·rw[if_pos (by omega)];simp [h]
 ·rw[if_neg (by omega)];simp [h]
theorem u64_id (n:Int) (h0:0≤n) (h1:n≤9223372036854775807):IntKind.u64.wrap n=n:=by
 simp [IntKind.wrap,IntKind.signed,IntKind.bits];omega
theorem specAll_is (n:Int) (h0:0≤n) (h6:n≤62):spec_l01All.f n=some (fullOf n):=by
 unfold spec_l01All.f fullOf
 have h:=two_pow n.toNat 62 (by omega)
 rw[u64_id n h0 (by omega),if_pos h0,shl_one n h0 h6,w64 _ (by omega) (by omega)]
end Go.Proofs.YtlhkdbkjafiikaaGreat.K
end

section
namespace Go.Proofs.YtlhkdbkjafiikaaGreatW.PrintMore
open Go.RowKit Go.Proofs.YtlhkdbkjafiikaaGreatW.PrintWords Go.Proofs.YtlhkdbkjafiikaaGreatW.PrintLast
set_option linter.unusedVariables false
section
variable {P : Program} {ops : Array Oper} {Q : Exit → Act → World → Prop} {md : Region.Mode} {S : World → Prop} {ds : List Nat} {oi : Oper} {v : Value} {fuel : Nat} {l : Array Bool} {a a' : Act} {w : World}
theorem pu0 (i:Nat) (N:Option Tmp) (l':Array Bool) (h:wpAnyLast P md ops Q S ds fuel l' a' w)
    (hi:ops[i]?=some oi:=by exact rfl) (hN:oi.dst=N:=by rfl) (hc:anyB md ops l l' i=true:=by kernel_rfl) (hQ:∀ c a w,Q (.panic c) (a.put oi.dst v) w→Q (.panic c) a w:=by exact hh_) (hw:Region.wanted oi (yielded ops a.tmps)=true:=by rfl)
    (hv:∀ w',(execOp a.eval oi).run P w' = .ok (.value v) w':=by intro w';go_simp;with_reducible rfl) (ha:a.put N v=a':=by simp only [nm_];rfl):wpAnyLast P md ops Q S ds (fuel+1) l a w:=pure_ l' hi hN hc hQ (Or.inl ⟨hw,hv⟩) ha h
theorem tk0 (i:Nat) (N:Option Tmp) (l':Array Bool) (hS:S w) (h:wpAnyLast P md ops Q S ds fuel l' a' w)
    (hi:ops[i]?=some oi:=by exact rfl) (hN:oi.dst=N:=by rfl) (hc:takeB md ops ds l l' i=true:=by kernel_rfl) (hQ:∀ c a w,Q (.panic c) (a.put oi.dst v) w→Q (.panic c) a w:=by exact hh_) (hw:Region.wanted oi (yielded ops a.tmps)=true:=by rfl)
    (hv:∀ w',S w'→(execOp a.eval oi).run P w' = .ok (.value v) w':=by intro w' hs_;repeat(have hl_:=And.left hs_;replace hs_:=And.right hs_);go_simp;with_reducible rfl) (ha:a.put N v=a':=by simp only [nm_];rfl):wpAnyLast P md ops Q S ds (fuel+1) l a w:=take_ l' hi hN hc hQ (Or.inl ⟨hw,hv⟩) hS ha h
end
end Go.Proofs.YtlhkdbkjafiikaaGreatW.PrintMore
end

section
namespace Go.Proofs.YtlhkdbkjafiikaaGreat.K
open Go.RowKit Go.Shelf Go.Proofs.YtlhkdbkjafiikaaGreat.Q Go.Proofs.YtlhkdbkjafiikaaGreatW.PrintWords Go.Proofs.YtlhkdbkjafiikaaGreatW.PrintLast Go.Proofs.YtlhkdbkjafiikaaGreatW.PrintMore
set_option linter.unusedVariables false
set_option linter.unusedSimpArgs false
abbrev K8:Kd Int:=Kd.int .u8
def Dr (f:Nat) (code:List Int) (mk:Value→Value) (l:List Int):Prop:=∀(W:World) (A:Option Addr) (c:Nat),K8.C W A code.length code→code.length≤c →
 Calls Tryz.prog f #[.slice A code.length c] W fun e w'=>∃ v,e = .returned (mk v)∧Ki.R 2 w' W.heap.size (fun _=>True) v l∧Grew W w'
def Dr2 (f:Nat) (code:List Int) (mk:Value→Value→Value) (l l2:List Int):Prop:=∀(W:World) (A:Option Addr) (c:Nat),K8.C W A code.length code→code.length≤c →
 Calls Tryz.prog f #[.slice A code.length c] W fun e w'=>∃ v v2,e = .returned (mk v v2)∧Ki.R 2 w' W.heap.size (fun _=>True) v l∧Ki.R 2 w' W.heap.size (fun _=>True) v2 l2∧Grew W w'
def Fn (f:Nat) (l:List Int) (mkA:Value→Array Value) (mk:Value→Value) (r:List Int):Prop:=∀(W:World) (A:Option Addr) (c:Nat),Ki.C W A l.length l→l.length≤c →
 Calls Tryz.prog f (mkA (.slice A l.length c)) W fun e w'=>∃ v,e = .returned (mk v)∧Ki.R 2 w' W.heap.size (fun _=>True) v r∧Grew W w'
def Fn2 (f:Nat) (l l2:List Int) (mkA:Value→Value→Array Value) (mk:Value→Value) (r:List Int):Prop:=∀(W:World) (A:Option Addr) (c:Nat) (A2:Option Addr) (c2:Nat),Ki.C W A l.length l→l.length≤c→Ki.C W A2 l2.length l2→l2.length≤c2 →
 Calls Tryz.prog f (mkA (.slice A l.length c) (.slice A2 l2.length c2)) W fun e w'=>∃ v,e = .returned (mk v)∧Ki.R 2 w' W.heap.size (fun _=>True) v r∧Grew W w'
def Fv (f:Nat) (l:List Int) (mkA:Value→Array Value) (r:Value):Prop:=∀(W:World) (A:Option Addr) (c:Nat),Ki.C W A l.length l→l.length≤c →
 Calls Tryz.prog f (mkA (.slice A l.length c)) W fun e w'=>e = .returned r∧Grew W w'
theorem mul_bound {x y:Int} (hx: -100≤x∧x≤100) (hy: -100≤y∧y≤100): -10000≤x*y∧x*y≤10000:=by
 have h1:0≤(100 - x)*(100+y):=Int.mul_nonneg (by omega) (by omega)
 have h2:0≤(100+x)*(100 - y):=Int.mul_nonneg (by omega) (by omega)
 have h3:0≤(100 - x)*(100 - y):=Int.mul_nonneg (by omega) (by omega)
 have h4:0≤(100+x)*(100+y):=Int.mul_nonneg (by omega) (by omega)
 simp only [Int.sub_mul,Int.add_mul,Int.mul_sub,Int.mul_add] at h1 h2 h3 h4
 omega
theorem hasInt_loop (x:Int) (l:List Int) (hl:l.length≤9223372036854775806):∀(d i k:Nat),l.length - i=d→i≤l.length→d<k→laws_hasInt.l0 k l x (i:Int)=some (decide (x ∈ l.drop i)):=by
 intro d
 induction d with
 |zero=>
  intro i k hd hi hk
  obtain ⟨k,rfl⟩:∃ m,k=m+1:=⟨k - 1,by omega⟩
  simp only [laws_hasInt.l0]
  rw[if_neg (by omega),List.drop_of_length_le (by omega)]
  simp
 |succ d ih=>
  intro i k hd hi hk
  obtain ⟨k,rfl⟩:∃ m,k=m+1:=⟨k - 1,by omega⟩
  simp only [laws_hasInt.l0]
  have him:i<l.length:=by omega
  rw[if_pos (by omega),if_pos (by omega),rd_nat l i him,List.drop_eq_getElem_cons him]
  by_cases h:l[i]=x
  ·rw[if_pos h]
   simp [h]
  ·rw[if_neg h,w64 _ (by omega) (by omega),nat_succ,ih (i+1) k (by omega) (by omega) (by omega)]
   congr 1
   rw[decide_eq_decide,List.mem_cons]
   exact⟨Or.inr,fun h2=>h2.resolve_left (fun e=>h e.symm)⟩
theorem hasInt_is (x:Int) (l:List Int) (hl:l.length≤9223372036854775806) (k:Nat) (hk:l.length<k):laws_hasInt.f k l x=some (decide (x ∈ l)):=by
 unfold laws_hasInt.f
 have:=hasInt_loop x l hl l.length 0 k (by omega) (by omega) hk
 simpa using this
theorem like_loop (l:List Int) (hl:l.length≤9223372036854775806):∀(d i k:Nat),l.length - i=d→i≤l.length→d<k→laws_likeInts.l0 k l l (i:Int)=some true:=by
 intro d
 induction d with
 |zero=>
  intro i k hd hi hk
  obtain ⟨k,rfl⟩:∃ m,k=m+1:=⟨k - 1,by omega⟩
  simp only [laws_likeInts.l0]
  rw[if_neg (by omega)]
 |succ d ih=>
  intro i k hd hi hk
  obtain ⟨k,rfl⟩:∃ m,k=m+1:=⟨k - 1,by omega⟩
  simp only [laws_likeInts.l0]
  simp only [show ((i:Int)<(l.length:Int)) from by omega,show (0:Int)≤(i:Int) from by omega,if_true]
  rw[w64 _ (by omega) (by omega),nat_succ]
  exact ih (i+1) k (by omega) (by omega) (by omega)
theorem like_is (l:List Int) (hl:l.length≤9223372036854775806) (k:Nat) (hk:l.length<k):laws_likeInts.f k l l=some true:=by
 unfold laws_likeInts.f
 rw[if_pos rfl]
 have:=like_loop l hl l.length 0 k (by omega) (by omega) hk
 simpa using this
theorem hasI_calls (x:Int) (l:List Int) (A:Option Addr) (c m lo hi:Nat) (w:World) (h:Row w lo hi (.slice A m c) l) (hl:l.length≤1000000) :
  Calls Tryz.prog 14 #[.slice A m c,I x] w fun e w'=>e = .returned (.bool (decide (x ∈ l)))∧Grew w w':=by
 obtain ⟨rfl,k1,r1⟩:=h.slice
 exact(laws_hasInt.calls (l.length+1) A c l x _ w r1 k1 (hasInt_is x l (by omega) _ (Nat.lt_succ_self _))).mono fun e w' ⟨he,hd⟩=>⟨he,hd.below⟩
theorem hasI_true (x:Int) (l:List Int) (A:Option Addr) (c m lo hi:Nat) (w:World) (h:Row w lo hi (.slice A m c) l) (hl:l.length≤1000000) (hx:x ∈ l) :
  Calls Tryz.prog 14 #[.slice A m c,I x] w fun e w'=>e = .returned (.bool true)∧Grew w w':=
 (hasI_calls x l A c m lo hi w h hl).mono fun e w' ⟨he,hd⟩=>⟨by rw[he,decide_eq_true hx],hd⟩
theorem hasI_false (x:Int) (l:List Int) (A:Option Addr) (c m lo hi:Nat) (w:World) (h:Row w lo hi (.slice A m c) l) (hl:l.length≤1000000) (hx:¬ x ∈ l) :
  Calls Tryz.prog 14 #[.slice A m c,I x] w fun e w'=>e = .returned (.bool false)∧Grew w w':=
 (hasI_calls x l A c m lo hi w h hl).mono fun e w' ⟨he,hd⟩=>⟨by rw[he,decide_eq_false hx],hd⟩
theorem likeI_calls (l:List Int) (A1 A2:Option Addr) (c1 c2 m1 m2 lo1 hi1 lo2 hi2:Nat) (w:World) (h1:Row w lo1 hi1 (.slice A1 m1 c1) l) (h2:Row w lo2 hi2 (.slice A2 m2 c2) l) (hl:l.length≤1000000) :
  Calls Tryz.prog 34 #[.slice A1 m1 c1,.slice A2 m2 c2] w fun e w'=>e = .returned (.bool true)∧Grew w w':=by
 obtain ⟨rfl,k1,r1⟩:=h1.slice
 obtain ⟨rfl,k2,r2⟩:=h2.slice
 exact(laws_likeInts.calls (l.length+1) A1 c1 l A2 c2 l true w r1 k1 r2 k2 (like_is l (by omega) _ (Nat.lt_succ_self _))).mono fun e w' ⟨he,hd⟩=>⟨he,hd.below⟩
theorem cx5_calls (n:Int) (l:List Int) (A1 A2:Option Addr) (c1 c2 m1 m2 lo1 hi1 lo2 hi2:Nat) (w:World) (h1:Row w lo1 hi1 (.slice A1 m1 c1) l) (h2:Row w lo2 hi2 (.slice A2 m2 c2) l) (hl:l.length≤1000000) :
  Calls Tryz.prog 13 #[.agg #[I n,.slice A1 m1 c1],.agg #[I n,.slice A2 m2 c2]] w fun e w'=>e = .returned (.bool true)∧Grew w w':=by
 obtain ⟨rfl,k1,r1⟩:=h1.slice
 obtain ⟨rfl,k2,r2⟩:=h2.slice
 refine laws_complexes5.calls (l.length+1) n A1 c1 l n A2 c2 l true w r1 k1 r2 k2 ?_
 unfold laws_complexes5.f
 rw[if_pos rfl,like_is l (by omega) _ (Nat.lt_succ_self _)]
 rfl
theorem big_calls (A:Option Addr) (c:Nat) (l:List Int) (w:World) (hr:K8.C w A l.length l) (hc:l.length≤c) :
  Calls Tryz.prog 5 #[.slice A l.length c] w fun e w'=>e = .returned (.bool (decide ((4096:Int)<l.length)))∧Grew w w':=
 (laws_big.calls A c l _ w hr hc (by unfold laws_big.f;rfl)).mono fun e w' ⟨he,hd⟩=>⟨he,hd.below⟩
end Go.Proofs.YtlhkdbkjafiikaaGreat.K
end

section
namespace Go.Proofs.YtlhkdbkjafiikaaGreat.K
open Go.RowKit Go.Shelf Go.Proofs.YtlhkdbkjafiikaaGreat.Q Go.Proofs.YtlhkdbkjafiikaaGreatW.PrintWords Go.Proofs.YtlhkdbkjafiikaaGreatW.PrintLast Go.Proofs.YtlhkdbkjafiikaaGreatW.PrintMore
set_option linter.unusedVariables false
set_option linter.unusedSimpArgs false
set_option maxRecDepth 100000 in
set_option maxHeartbeats 40000000 in
theorem LParts_main (code:List Int) (kl ll sl tl cl nl al bl jl gl pl ml hl ol ul ql vl xl fx:List Int) (kn kf ln lc sn sc tn tc cn nn nc an bn jn jc ex ey ez gn mn mc hn oc un us qn qc vn vd xn xc:Int) (A0:Option Addr) (c0:Nat) (w:World) (hr0:K8.C w A0 code.length code) (hc0:code.length≤c0) (hb0:¬ (4096:Int)<code.length)
  (HDl:Aside0 (Dr 6 code (fun v=> .tuple #[.agg #[I kn,v],I kf]) kl))
  (HiL:Aside0 (Fn 7 kl (fun v=>#[.agg #[I kn,v],I kf]) (fun v=> .tuple #[.agg #[I ln,v],I lc]) ll))
  (HsL:Aside0 (Fn 8 kl (fun v=>#[.agg #[I kn,v],I kf]) (fun v=> .tuple #[.agg #[I ln,v],I lc]) ll))
  (HiS:Aside0 (Fn 9 kl (fun v=>#[.agg #[I kn,v],I kf]) (fun v=> .tuple #[.agg #[I sn,v],I sc]) sl))
  (HsS:Aside0 (Fn 10 kl (fun v=>#[.agg #[I kn,v],I kf]) (fun v=> .tuple #[.agg #[I sn,v],I sc]) sl))
  (HiT:Aside0 (Fn 11 kl (fun v=>#[.agg #[I kn,v],I kf]) (fun v=> .tuple #[.agg #[I tn,v],I tc]) tl))
  (HsT:Aside0 (Fn 12 kl (fun v=>#[.agg #[I kn,v],I kf]) (fun v=> .tuple #[.agg #[I tn,v],I tc]) tl))
  (HDc:Aside0 (Dr 15 code (fun v=> .agg #[I cn,v]) cl))
  (HiC:Aside0 (Fn 16 cl (fun v=>#[.agg #[I cn,v]]) (fun v=> .tuple #[.agg #[I nn,v],I nc]) nl))
  (HsC:Aside0 (Fn 17 cl (fun v=>#[.agg #[I cn,v]]) (fun v=> .tuple #[.agg #[I nn,v],I nc]) nl))
  (HDj:Aside0 (Dr2 19 code (fun v v2=> .tuple #[.agg #[I an,v],.agg #[I bn,v2]]) al bl))
  (HiJ:Aside0 (Fn2 20 al bl (fun v v2=>#[.agg #[I an,v],.agg #[I bn,v2]]) (fun v=> .tuple #[.agg #[I jn,v],I jc]) jl))
  (HsJ:Aside0 (Fn2 21 al bl (fun v v2=>#[.agg #[I an,v],.agg #[I bn,v2]]) (fun v=> .tuple #[.agg #[I jn,v],I jc]) jl))
  (HDr:Aside0 (Dr2 22 code (fun v v2=> .tuple #[.agg #[I gn,v],v2]) gl pl))
  (HiR:Aside0 (Fn2 23 gl pl (fun v v2=>#[.agg #[I gn,v],v2]) (fun v=> .tuple #[.agg #[I mn,v],I mc]) ml))
  (HsR:Aside0 (Fn2 24 gl pl (fun v v2=>#[.agg #[I gn,v],v2]) (fun v=> .tuple #[.agg #[I mn,v],I mc]) ml))
  (HDh:Aside0 (Dr 25 code (fun v=> .agg #[I hn,v]) hl))
  (HiH:Aside0 (Fn 26 hl (fun v=>#[.agg #[I hn,v]]) (fun v=> .tuple #[v,I oc]) ol))
  (HsH:Aside0 (Fn 27 hl (fun v=>#[.agg #[I hn,v]]) (fun v=> .tuple #[v,I oc]) ol))
  (HDp:Aside0 (Dr 28 code (fun v=> .tuple #[.agg #[I un,v],I us]) ul))
  (HiP:Aside0 (Fn 29 ul (fun v=>#[.agg #[I un,v],I us]) (fun v=> .tuple #[.agg #[I qn,v],I qc]) ql))
  (HsP:Aside0 (Fn 30 ul (fun v=>#[.agg #[I un,v],I us]) (fun v=> .tuple #[.agg #[I qn,v],I qc]) ql))
  (HDs:Aside0 (Dr 31 code (fun v=> .tuple #[.agg #[I vn,v],I vd]) vl))
  (HiK:Aside0 (Fn 32 vl (fun v=>#[.agg #[I vn,v],I vd]) (fun v=> .tuple #[.agg #[I xn,v],I xc]) xl))
  (HsK:Aside0 (Fn 33 vl (fun v=>#[.agg #[I vn,v],I vd]) (fun v=> .tuple #[.agg #[I xn,v],I xc]) xl))
  (HPl:Aside0 (lc=0→(∀ x ∈ ll,Go.bits .or .i64 x kf ∈ kl∧x ∈ sl)∧kf ∈ sl∧¬ kf ∈ tl∧tl.length+ll.length+1=kl.length))
  (HPc:Aside0 (nc=0→Fv 18 nl (fun v=>#[.agg #[I nn,v]]) (.tuple #[I 1,I 0])∧nl.length=2*cl.length+1))
  (HPj:Aside0 (jc=0→Fv 18 al (fun v=>#[.agg #[I an,v]]) (.tuple #[I ex,I 0])∧Fv 18 bl (fun v=>#[.agg #[I bn,v]]) (.tuple #[I ey,I 0])∧Fv 18 jl (fun v=>#[.agg #[I jn,v]]) (.tuple #[I ez,I 0])∧ez=ex+ey - ex*ey∧(-100≤ex∧ex≤100)∧(-100≤ey∧ey≤100)))
  (HPr:Aside0 (mc=0→Fn 35 gl (fun v=>#[.agg #[I gn,v]]) (fun v=> .tuple #[v,I 0]) fx∧Fn 35 ml (fun v=>#[.agg #[I mn,v]]) (fun v=> .tuple #[v,I 0]) fx))
  (HPo:Aside0 (∀ i j:Nat,∀(hi:i<ol.length) (hj:j<i),Go.bits .and .i64 ol[i] (ol[j]'(by omega))=0))
  (HLen:Aside0 (kl.length≤1000000∧ll.length≤1000000∧sl.length≤1000000∧tl.length≤1000000∧cl.length≤1000000∧nl.length≤1000000∧al.length≤1000000∧bl.length≤1000000∧jl.length≤1000000∧gl.length≤1000000∧pl.length≤1000000∧ml.length≤1000000∧hl.length≤1000000∧ol.length≤1000000∧ul.length≤1000000∧ql.length≤1000000∧vl.length≤1000000∧xl.length≤1000000∧fx.length≤1000000))
  : Calls Tryz.prog 3 #[.slice A0 code.length c0] w fun e w'=>e = .returned (.bool true)∧Grew w w':=by
 have HR0:=Aside0.mk hr0
 have HC0:=Aside0.mk hc0
 have hdb:decide ((4096:Int)<code.length)=false:=decide_eq_false hb0
 clear hr0 hc0 hb0
 go_enter Tryz.func3,Tryz.ntmps3
 have HM0:=Aside0.mk (Mem.nil w)
 have HG0:=Aside0.mk (Grew.refl w)
 go_wp2_with fail
 refine(big_calls A0 c0 code w HR0.out HC0.out).mono ?_
 rintro e w1 ⟨rfl,hG1⟩
 have HM1:=Aside0.mk (HM0.out.grew hG1)
 have HG1:=Aside0.mk (Grew.trans HG0.out hG1)
 clear hG1 HM0 HG0
 rw[hdb]
 go_wp2_with fail
 refine(HDl.out w1 A0 c0 (Kd.C_below HR0.out HG1.out) HC0.out).mono ?_
 rintro e w2 ⟨vk,rfl,hRk,hG2⟩
 obtain ⟨Ak,ck,rfl⟩:=Kd.R_slice hRk
 have HM2:=Aside0.mk (Mem.cons (it:= .row w1.heap.size w2.heap.size (.slice Ak kl.length ck) kl) (Row.of_R hRk) (HM1.out.grew hG2))
 have HG2:=Aside0.mk (Grew.trans HG1.out hG2)
 clear hG2 HM1 HG1 hRk
 have HM3:=Aside0.mk (Mem.cons (W:=(w2.alloc (.cells #[I kn,.slice Ak kl.length ck] 26))) (it:= .box (w2.heap.size) 26 #[I kn,.slice Ak kl.length ck]) (blk_new w2 _) (HM2.out.grew (below_alloc (Grew.refl w2) _)))
 have HG3:Aside0 (Grew w (w2.alloc (.cells #[I kn,.slice Ak kl.length ck] 26))):=⟨Grew.trans HG2.out (below_alloc (Grew.refl w2) _)⟩
 have hS3:(w2.alloc (.cells #[I kn,.slice Ak kl.length ck] 26)).heap.size=w2.heap.size+1:=by simp
 clear HM2 HG2
 have bk_0:(w2.alloc (.cells #[I kn,.slice Ak kl.length ck] 26)).cell? ⟨w2.heap.size,0,none⟩=some (I kn):=blk_cell HM3.out.head 0
 have bk_1:(w2.alloc (.cells #[I kn,.slice Ak kl.length ck] 26)).cell? ⟨w2.heap.size,1,none⟩=some (.slice Ak kl.length ck):=blk_cell HM3.out.head 1
 go_wp2_with fail
 generalize (w2.alloc (.cells #[I kn,.slice Ak kl.length ck] 26))=W3 at HM3 HG3 hS3 bk_0 bk_1 ⊢
 clear bk_0 bk_1
 refine(HiL.out W3 Ak ck (Row.slice HM3.out.tail.head).2.2 (Row.slice HM3.out.tail.head).2.1).mono ?_
 rintro e w4 ⟨vli,rfl,hRli,hG4⟩
 obtain ⟨Ali,cli,rfl⟩:=Kd.R_slice hRli
 have HM4:=Aside0.mk (Mem.cons (it:= .row W3.heap.size w4.heap.size (.slice Ali ll.length cli) ll) (Row.of_R hRli) (HM3.out.grew hG4))
 have HG4:=Aside0.mk (Grew.trans HG3.out hG4)
 clear hG4 HM3 HG3 hRli
 have HM5:=Aside0.mk (Mem.cons (W:=(w4.alloc (.cells #[I ln,.slice Ali ll.length cli] 26))) (it:= .box (w4.heap.size) 26 #[I ln,.slice Ali ll.length cli]) (blk_new w4 _) (HM4.out.grew (below_alloc (Grew.refl w4) _)))
 have HG5:Aside0 (Grew w (w4.alloc (.cells #[I ln,.slice Ali ll.length cli] 26))):=⟨Grew.trans HG4.out (below_alloc (Grew.refl w4) _)⟩
 have hS5:(w4.alloc (.cells #[I ln,.slice Ali ll.length cli] 26)).heap.size=w4.heap.size+1:=by simp
 clear HM4 HG4
 have bk_0:(w4.alloc (.cells #[I ln,.slice Ali ll.length cli] 26)).cell? ⟨w2.heap.size,0,none⟩=some (I kn):=blk_cell HM5.out.tail.tail.head 0
 have bk_1:(w4.alloc (.cells #[I ln,.slice Ali ll.length cli] 26)).cell? ⟨w2.heap.size,1,none⟩=some (.slice Ak kl.length ck):=blk_cell HM5.out.tail.tail.head 1
 go_wp2_with fail
 generalize (w4.alloc (.cells #[I ln,.slice Ali ll.length cli] 26))=W5 at HM5 HG5 hS5 bk_0 bk_1 ⊢
 clear bk_0 bk_1
 refine(HsL.out W5 Ak ck (Row.slice HM5.out.tail.tail.tail.head).2.2 (Row.slice HM5.out.tail.tail.tail.head).2.1).mono ?_
 rintro e w6 ⟨vls,rfl,hRls,hG6⟩
 obtain ⟨Als,cls,rfl⟩:=Kd.R_slice hRls
 have HM6:=Aside0.mk (Mem.cons (it:= .row W5.heap.size w6.heap.size (.slice Als ll.length cls) ll) (Row.of_R hRls) (HM5.out.grew hG6))
 have HG6:=Aside0.mk (Grew.trans HG5.out hG6)
 clear hG6 HM5 HG5 hRls
 have HM7:=Aside0.mk (Mem.cons (W:=(w6.alloc (.cells #[I ln,.slice Als ll.length cls] 26))) (it:= .box (w6.heap.size) 26 #[I ln,.slice Als ll.length cls]) (blk_new w6 _) (HM6.out.grew (below_alloc (Grew.refl w6) _)))
 have HG7:Aside0 (Grew w (w6.alloc (.cells #[I ln,.slice Als ll.length cls] 26))):=⟨Grew.trans HG6.out (below_alloc (Grew.refl w6) _)⟩
 have hS7:(w6.alloc (.cells #[I ln,.slice Als ll.length cls] 26)).heap.size=w6.heap.size+1:=by simp
 clear HM6 HG6
 have bk_0:(w6.alloc (.cells #[I ln,.slice Als ll.length cls] 26)).cell? ⟨w2.heap.size,0,none⟩=some (I kn):=blk_cell HM7.out.tail.tail.tail.tail.head 0
 have bk_1:(w6.alloc (.cells #[I ln,.slice Als ll.length cls] 26)).cell? ⟨w2.heap.size,1,none⟩=some (.slice Ak kl.length ck):=blk_cell HM7.out.tail.tail.tail.tail.head 1
 go_wp2_with fail
 generalize (w6.alloc (.cells #[I ln,.slice Als ll.length cls] 26))=W7 at HM7 HG7 hS7 bk_0 bk_1 ⊢
 clear bk_0 bk_1
 refine(HiS.out W7 Ak ck (Row.slice HM7.out.tail.tail.tail.tail.tail.head).2.2 (Row.slice HM7.out.tail.tail.tail.tail.tail.head).2.1).mono ?_
 rintro e w8 ⟨vsi,rfl,hRsi,hG8⟩
 obtain ⟨Asi,csi,rfl⟩:=Kd.R_slice hRsi
 have HM8:=Aside0.mk (Mem.cons (it:= .row W7.heap.size w8.heap.size (.slice Asi sl.length csi) sl) (Row.of_R hRsi) (HM7.out.grew hG8))
 have HG8:=Aside0.mk (Grew.trans HG7.out hG8)
 clear hG8 HM7 HG7 hRsi
 have HM9:=Aside0.mk (Mem.cons (W:=(w8.alloc (.cells #[I sn,.slice Asi sl.length csi] 26))) (it:= .box (w8.heap.size) 26 #[I sn,.slice Asi sl.length csi]) (blk_new w8 _) (HM8.out.grew (below_alloc (Grew.refl w8) _)))
 have HG9:Aside0 (Grew w (w8.alloc (.cells #[I sn,.slice Asi sl.length csi] 26))):=⟨Grew.trans HG8.out (below_alloc (Grew.refl w8) _)⟩
 have hS9:(w8.alloc (.cells #[I sn,.slice Asi sl.length csi] 26)).heap.size=w8.heap.size+1:=by simp
 clear HM8 HG8
 have bk_0:(w8.alloc (.cells #[I sn,.slice Asi sl.length csi] 26)).cell? ⟨w2.heap.size,0,none⟩=some (I kn):=blk_cell HM9.out.tail.tail.tail.tail.tail.tail.head 0
 have bk_1:(w8.alloc (.cells #[I sn,.slice Asi sl.length csi] 26)).cell? ⟨w2.heap.size,1,none⟩=some (.slice Ak kl.length ck):=blk_cell HM9.out.tail.tail.tail.tail.tail.tail.head 1
 go_wp2_with fail
 generalize (w8.alloc (.cells #[I sn,.slice Asi sl.length csi] 26))=W9 at HM9 HG9 hS9 bk_0 bk_1 ⊢
 clear bk_0 bk_1
 refine(HsS.out W9 Ak ck (Row.slice HM9.out.tail.tail.tail.tail.tail.tail.tail.head).2.2 (Row.slice HM9.out.tail.tail.tail.tail.tail.tail.tail.head).2.1).mono ?_
 rintro e w10 ⟨vss,rfl,hRss,hG10⟩
 obtain ⟨Ass,css,rfl⟩:=Kd.R_slice hRss
 have HM10:=Aside0.mk (Mem.cons (it:= .row W9.heap.size w10.heap.size (.slice Ass sl.length css) sl) (Row.of_R hRss) (HM9.out.grew hG10))
 have HG10:=Aside0.mk (Grew.trans HG9.out hG10)
 clear hG10 HM9 HG9 hRss
 have HM11:=Aside0.mk (Mem.cons (W:=(w10.alloc (.cells #[I sn,.slice Ass sl.length css] 26))) (it:= .box (w10.heap.size) 26 #[I sn,.slice Ass sl.length css]) (blk_new w10 _) (HM10.out.grew (below_alloc (Grew.refl w10) _)))
 have HG11:Aside0 (Grew w (w10.alloc (.cells #[I sn,.slice Ass sl.length css] 26))):=⟨Grew.trans HG10.out (below_alloc (Grew.refl w10) _)⟩
 have hS11:(w10.alloc (.cells #[I sn,.slice Ass sl.length css] 26)).heap.size=w10.heap.size+1:=by simp
 clear HM10 HG10
 have bk_0:(w10.alloc (.cells #[I sn,.slice Ass sl.length css] 26)).cell? ⟨w2.heap.size,0,none⟩=some (I kn):=blk_cell HM11.out.tail.tail.tail.tail.tail.tail.tail.tail.head 0
 have bk_1:(w10.alloc (.cells #[I sn,.slice Ass sl.length css] 26)).cell? ⟨w2.heap.size,1,none⟩=some (.slice Ak kl.length ck):=blk_cell HM11.out.tail.tail.tail.tail.tail.tail.tail.tail.head 1
 go_wp2_with fail
 generalize (w10.alloc (.cells #[I sn,.slice Ass sl.length css] 26))=W11 at HM11 HG11 hS11 bk_0 bk_1 ⊢
 clear bk_0 bk_1
 refine(HiT.out W11 Ak ck (Row.slice HM11.out.tail.tail.tail.tail.tail.tail.tail.tail.tail.head).2.2 (Row.slice HM11.out.tail.tail.tail.tail.tail.tail.tail.tail.tail.head).2.1).mono ?_
 rintro e w12 ⟨vti,rfl,hRti,hG12⟩
 obtain ⟨Ati,cti,rfl⟩:=Kd.R_slice hRti
 have HM12:=Aside0.mk (Mem.cons (it:= .row W11.heap.size w12.heap.size (.slice Ati tl.length cti) tl) (Row.of_R hRti) (HM11.out.grew hG12))
 have HG12:=Aside0.mk (Grew.trans HG11.out hG12)
 clear hG12 HM11 HG11 hRti
 have HM13:=Aside0.mk (Mem.cons (W:=(w12.alloc (.cells #[I tn,.slice Ati tl.length cti] 26))) (it:= .box (w12.heap.size) 26 #[I tn,.slice Ati tl.length cti]) (blk_new w12 _) (HM12.out.grew (below_alloc (Grew.refl w12) _)))
 have HG13:Aside0 (Grew w (w12.alloc (.cells #[I tn,.slice Ati tl.length cti] 26))):=⟨Grew.trans HG12.out (below_alloc (Grew.refl w12) _)⟩
 have hS13:(w12.alloc (.cells #[I tn,.slice Ati tl.length cti] 26)).heap.size=w12.heap.size+1:=by simp
 clear HM12 HG12
 have bk_0:(w12.alloc (.cells #[I tn,.slice Ati tl.length cti] 26)).cell? ⟨w2.heap.size,0,none⟩=some (I kn):=blk_cell HM13.out.tail.tail.tail.tail.tail.tail.tail.tail.tail.tail.head 0
 have bk_1:(w12.alloc (.cells #[I tn,.slice Ati tl.length cti] 26)).cell? ⟨w2.heap.size,1,none⟩=some (.slice Ak kl.length ck):=blk_cell HM13.out.tail.tail.tail.tail.tail.tail.tail.tail.tail.tail.head 1
 go_wp2_with fail
 generalize (w12.alloc (.cells #[I tn,.slice Ati tl.length cti] 26))=W13 at HM13 HG13 hS13 bk_0 bk_1 ⊢
 clear bk_0 bk_1
 refine(HsT.out W13 Ak ck (Row.slice HM13.out.tail.tail.tail.tail.tail.tail.tail.tail.tail.tail.tail.head).2.2 (Row.slice HM13.out.tail.tail.tail.tail.tail.tail.tail.tail.tail.tail.tail.head).2.1).mono ?_
 rintro e w14 ⟨vts,rfl,hRts,hG14⟩
 obtain ⟨Ats,cts,rfl⟩:=Kd.R_slice hRts
 have HM14:=Aside0.mk (Mem.cons (it:= .row W13.heap.size w14.heap.size (.slice Ats tl.length cts) tl) (Row.of_R hRts) (HM13.out.grew hG14))
 have HG14:=Aside0.mk (Grew.trans HG13.out hG14)
 clear hG14 HM13 HG13 hRts
 have HM15:=Aside0.mk (Mem.cons (W:=(w14.alloc (.cells #[I tn,.slice Ats tl.length cts] 26))) (it:= .box (w14.heap.size) 26 #[I tn,.slice Ats tl.length cts]) (blk_new w14 _) (HM14.out.grew (below_alloc (Grew.refl w14) _)))
 have HG15:Aside0 (Grew w (w14.alloc (.cells #[I tn,.slice Ats tl.length cts] 26))):=⟨Grew.trans HG14.out (below_alloc (Grew.refl w14) _)⟩
 have hS15:(w14.alloc (.cells #[I tn,.slice Ats tl.length cts] 26)).heap.size=w14.heap.size+1:=by simp
 clear HM14 HG14
 have hlen:=HLen.out
 have bli_0:(w14.alloc (.cells #[I tn,.slice Ats tl.length cts] 26)).cell? ⟨w4.heap.size,0,none⟩=some (I ln):=blk_cell HM15.out.tail.tail.tail.tail.tail.tail.tail.tail.tail.tail.head 0
 have bli_1:(w14.alloc (.cells #[I tn,.slice Ats tl.length cts] 26)).cell? ⟨w4.heap.size,1,none⟩=some (.slice Ali ll.length cli):=blk_cell HM15.out.tail.tail.tail.tail.tail.tail.tail.tail.tail.tail.head 1
 have bls_0:(w14.alloc (.cells #[I tn,.slice Ats tl.length cts] 26)).cell? ⟨w6.heap.size,0,none⟩=some (I ln):=blk_cell HM15.out.tail.tail.tail.tail.tail.tail.tail.tail.head 0
 have bls_1:(w14.alloc (.cells #[I tn,.slice Ats tl.length cts] 26)).cell? ⟨w6.heap.size,1,none⟩=some (.slice Als ll.length cls):=blk_cell HM15.out.tail.tail.tail.tail.tail.tail.tail.tail.head 1
 go_wp2_with fail
 generalize (w14.alloc (.cells #[I tn,.slice Ats tl.length cts] 26))=W15 at HM15 HG15 hS15 bli_0 bli_1 bls_0 bls_1 ⊢
 clear bli_0 bli_1 bls_0 bls_1
 refine(cx5_calls ln ll Ali Als cli cls _ _ _ _ _ _ W15 HM15.out.tail.tail.tail.tail.tail.tail.tail.tail.tail.tail.tail.head HM15.out.tail.tail.tail.tail.tail.tail.tail.tail.tail.head (by omega)).mono ?_
 rintro e w16 ⟨rfl,hG16⟩
 have HM16:=Aside0.mk (HM15.out.grew hG16)
 have HG16:=Aside0.mk (Grew.trans HG15.out hG16)
 clear hG16 HM15 HG15
 have bsi_0:w16.cell? ⟨w8.heap.size,0,none⟩=some (I sn):=blk_cell HM16.out.tail.tail.tail.tail.tail.tail.head 0
 have bsi_1:w16.cell? ⟨w8.heap.size,1,none⟩=some (.slice Asi sl.length csi):=blk_cell HM16.out.tail.tail.tail.tail.tail.tail.head 1
 have bss_0:w16.cell? ⟨w10.heap.size,0,none⟩=some (I sn):=blk_cell HM16.out.tail.tail.tail.tail.head 0
 have bss_1:w16.cell? ⟨w10.heap.size,1,none⟩=some (.slice Ass sl.length css):=blk_cell HM16.out.tail.tail.tail.tail.head 1
 go_wp2_with fail
 clear bsi_0 bsi_1 bss_0 bss_1
 refine(cx5_calls sn sl Asi Ass csi css _ _ _ _ _ _ w16 HM16.out.tail.tail.tail.tail.tail.tail.tail.head HM16.out.tail.tail.tail.tail.tail.head (by omega)).mono ?_
 rintro e w17 ⟨rfl,hG17⟩
 have HM17:=Aside0.mk (HM16.out.grew hG17)
 have HG17:=Aside0.mk (Grew.trans HG16.out hG17)
 clear hG17 HM16 HG16
 have bti_0:w17.cell? ⟨w12.heap.size,0,none⟩=some (I tn):=blk_cell HM17.out.tail.tail.head 0
 have bti_1:w17.cell? ⟨w12.heap.size,1,none⟩=some (.slice Ati tl.length cti):=blk_cell HM17.out.tail.tail.head 1
 have bts_0:w17.cell? ⟨w14.heap.size,0,none⟩=some (I tn):=blk_cell HM17.out.head 0
 have bts_1:w17.cell? ⟨w14.heap.size,1,none⟩=some (.slice Ats tl.length cts):=blk_cell HM17.out.head 1
 go_wp2_with fail
 clear bti_0 bti_1 bts_0 bts_1
 refine(cx5_calls tn tl Ati Ats cti cts _ _ _ _ _ _ w17 HM17.out.tail.tail.tail.head HM17.out.tail.head (by omega)).mono ?_
 rintro e w18 ⟨rfl,hG18⟩
 have HM18:=Aside0.mk (HM17.out.grew hG18)
 have HG18:=Aside0.mk (Grew.trans HG17.out hG18)
 clear hG18 HM17 HG17
 go_upto_if 141 with fail
 have HM19:=Aside0.mk (Mem.cons (it:= .box (w12.heap.size) 26 #[I tn,.slice Ati tl.length cti]) HM18.out.tail.tail.head (Mem.cons (it:= .row W11.heap.size w12.heap.size (.slice Ati tl.length cti) tl) HM18.out.tail.tail.tail.head (Mem.cons (it:= .box (w8.heap.size) 26 #[I sn,.slice Asi sl.length csi]) HM18.out.tail.tail.tail.tail.tail.tail.head (Mem.cons (it:= .row W7.heap.size w8.heap.size (.slice Asi sl.length csi) sl) HM18.out.tail.tail.tail.tail.tail.tail.tail.head (Mem.cons (it:= .box (w4.heap.size) 26 #[I ln,.slice Ali ll.length cli]) HM18.out.tail.tail.tail.tail.tail.tail.tail.tail.tail.tail.head (Mem.cons (it:= .row W3.heap.size w4.heap.size (.slice Ali ll.length cli) ll) HM18.out.tail.tail.tail.tail.tail.tail.tail.tail.tail.tail.tail.head (Mem.cons (it:= .box (w2.heap.size) 26 #[I kn,.slice Ak kl.length ck]) HM18.out.tail.tail.tail.tail.tail.tail.tail.tail.tail.tail.tail.tail.head (Mem.cons (it:= .row w1.heap.size w2.heap.size (.slice Ak kl.length ck) kl) HM18.out.tail.tail.tail.tail.tail.tail.tail.tail.tail.tail.tail.tail.tail.head (Mem.nil w18)))))))))
 have HG19:=HG18
 clear HM18 HG18
 go_upto_if 141 with fail
 go_cut [17] from 141 to 195 (fun v17_ wc=>Aside0 (Mem wc [.box (w12.heap.size) 26 #[I tn,.slice Ati tl.length cti],.row W11.heap.size w12.heap.size (.slice Ati tl.length cti) tl,.box (w8.heap.size) 26 #[I sn,.slice Asi sl.length csi],.row W7.heap.size w8.heap.size (.slice Asi sl.length csi) sl,.box (w4.heap.size) 26 #[I ln,.slice Ali ll.length cli],.row W3.heap.size w4.heap.size (.slice Ali ll.length cli) ll,.box (w2.heap.size) 26 #[I kn,.slice Ak kl.length ck],.row w1.heap.size w2.heap.size (.slice Ak kl.length ck) kl])∧Aside0 (Grew w wc))
 case first=>
  as_aux_lemma=>
  by_cases hc:lc=0
  ·have hcb:(lc == 0)=true:=by simp [hc]
   have HQ:=Aside0.mk (HPl.out hc)
   clear hc
   have bli_0:w18.cell? ⟨w4.heap.size,0,none⟩=some (I ln):=blk_cell HM19.out.tail.tail.tail.tail.head 0
   have bli_1:w18.cell? ⟨w4.heap.size,1,none⟩=some (.slice Ali ll.length cli):=blk_cell HM19.out.tail.tail.tail.tail.head 1
   go_wp2_with fail
   clear bli_0 bli_1
   go_loopg [17] ll.length (fun gg s17 wr=>∃ i:Nat,i≤ll.length∧ll.length - i≤gg∧s17=I i∧Aside0 (Mem wr [.box (w12.heap.size) 26 #[I tn,.slice Ati tl.length cti],.row W11.heap.size w12.heap.size (.slice Ati tl.length cti) tl,.box (w8.heap.size) 26 #[I sn,.slice Asi sl.length csi],.row W7.heap.size w8.heap.size (.slice Asi sl.length csi) sl,.box (w4.heap.size) 26 #[I ln,.slice Ali ll.length cli],.row W3.heap.size w4.heap.size (.slice Ali ll.length cli) ll,.box (w2.heap.size) 26 #[I kn,.slice Ak kl.length ck],.row w1.heap.size w2.heap.size (.slice Ak kl.length ck) kl])∧Aside0 (Grew w wr))
   case atStart=>exact⟨0,Nat.zero_le _,by omega,rfl,HM19,HG19⟩
   case round=>
    obtain ⟨i,hi,hg,rfl,HM21,HG21⟩:=hrel
    clear HM19 HG19
    as_aux_lemma=>
    by_cases hlt:i<ll.length
    ·have hltz:(i:Int)<(ll.length:Int):=by omega
     obtain ⟨ad,e0,hx⟩:=Kd.at_int (Row.slice HM21.out.tail.tail.tail.tail.tail.head).2.2 (i:Int) (by omega) (by omega)
     have hrd:rd ll (i:Int)=ll[i]:=by simp [rd,hlt]
     rw[hrd,Int.toNat_natCast] at hx
     obtain ⟨y,hy⟩:∃ y,y=ll[i]:=⟨_,rfl⟩
     have HY:=Aside0.mk (HQ.out.1 y (by rw[hy];exact List.getElem_mem hlt))
     rw[← hy] at hx
     clear hrd hy
     subst e0
     have bk_0:wr.cell? ⟨w2.heap.size,0,none⟩=some (I kn):=blk_cell HM21.out.tail.tail.tail.tail.tail.tail.head 0
     have bk_1:wr.cell? ⟨w2.heap.size,1,none⟩=some (.slice Ak kl.length ck):=blk_cell HM21.out.tail.tail.tail.tail.tail.tail.head 1
     have bli_0:wr.cell? ⟨w4.heap.size,0,none⟩=some (I ln):=blk_cell HM21.out.tail.tail.tail.tail.head 0
     have bli_1:wr.cell? ⟨w4.heap.size,1,none⟩=some (.slice (some ad) ll.length cli):=blk_cell HM21.out.tail.tail.tail.tail.head 1
     have bsi_0:wr.cell? ⟨w8.heap.size,0,none⟩=some (I sn):=blk_cell HM21.out.tail.tail.head 0
     have bsi_1:wr.cell? ⟨w8.heap.size,1,none⟩=some (.slice Asi sl.length csi):=blk_cell HM21.out.tail.tail.head 1
     have hlx:=World.block_lt_of_cell? wr _ hx
     go_wp2_with fail
     clear bk_0 bk_1 bli_0 bli_1 bsi_0 bsi_1
     as_aux_lemma=>
     have bk_0:wr.cell? ⟨w2.heap.size,0,none⟩=some (I kn):=blk_cell HM21.out.tail.tail.tail.tail.tail.tail.head 0
     have bk_1:wr.cell? ⟨w2.heap.size,1,none⟩=some (.slice Ak kl.length ck):=blk_cell HM21.out.tail.tail.tail.tail.tail.tail.head 1
     have bli_0:wr.cell? ⟨w4.heap.size,0,none⟩=some (I ln):=blk_cell HM21.out.tail.tail.tail.tail.head 0
     have bli_1:wr.cell? ⟨w4.heap.size,1,none⟩=some (.slice (some ad) ll.length cli):=blk_cell HM21.out.tail.tail.tail.tail.head 1
     have bsi_0:wr.cell? ⟨w8.heap.size,0,none⟩=some (I sn):=blk_cell HM21.out.tail.tail.head 0
     have bsi_1:wr.cell? ⟨w8.heap.size,1,none⟩=some (.slice Asi sl.length csi):=blk_cell HM21.out.tail.tail.head 1
     have hl_bk:=World.block_lt_of_cell? wr _ bk_0
     have hl_bli:=World.block_lt_of_cell? wr _ bli_0
     have hl_bsi:=World.block_lt_of_cell? wr _ bsi_0
     refine start_ (n:=22) (S:=fun w'=>w'.cell? ⟨w2.heap.size,0,none⟩=some (I kn)∧w'.cell? ⟨w2.heap.size,1,none⟩=some (.slice Ak kl.length ck)∧w'.cell? ⟨w4.heap.size,0,none⟩=some (I ln)∧w'.cell? ⟨w4.heap.size,1,none⟩=some (.slice (some ad) ll.length cli)∧w'.cell? ⟨w8.heap.size,0,none⟩=some (I sn)∧w'.cell? ⟨w8.heap.size,1,none⟩=some (.slice Asi sl.length csi)∧w'.cell? (ad.add i)=some (I y)) (ds:= []) (ar 0 22) (by kernel_rfl) rfl rfl ⟨(Below.cell (w:=wr) (below_drew (Grew.refl wr)) (p:=⟨w2.heap.size,0,none⟩) hl_bk).trans bk_0,(Below.cell (w:=wr) (below_drew (Grew.refl wr)) (p:=⟨w2.heap.size,1,none⟩) hl_bk).trans bk_1,(Below.cell (w:=wr) (below_drew (Grew.refl wr)) (p:=⟨w4.heap.size,0,none⟩) hl_bli).trans bli_0,(Below.cell (w:=wr) (below_drew (Grew.refl wr)) (p:=⟨w4.heap.size,1,none⟩) hl_bli).trans bli_1,(Below.cell (w:=wr) (below_drew (Grew.refl wr)) (p:=⟨w8.heap.size,0,none⟩) hl_bsi).trans bsi_0,(Below.cell (w:=wr) (below_drew (Grew.refl wr)) (p:=⟨w8.heap.size,1,none⟩) hl_bsi).trans bsi_1,(Below.cell (w:=wr) (below_drew (Grew.refl wr)) (p:=ad.add i) hlx).trans hx⟩ (fun hHeld=>?_)
     generalize hwd:wr.drew=w22 at hHeld ⊢
     have hG22:Grew wr w22:=by rw[← hwd];exact below_drew (Grew.refl wr)
     have HL:=Aside0.mk hG22
     clear hwd
     have HM22:=Aside0.mk (HM21.out.grew hG22)
     have HG22:=Aside0.mk (Grew.trans HG21.out hG22)
     clear hG22 HM21 HG21
     refine pu0 0 (some 149) (ar 1 21) ?_
     refine pu0 2 (some 151) #[U,O,U,O,O,O,O,O,O,O,O,O,O,O,O,O,O,O,O,O,O,O] ?_
     refine pu0 4 (some 153) #[U,O,U,O,U,O,O,O,O,O,O,O,O,O,O,O,O,O,O,O,O,O] ?_
     refine pu0 7 (some 156) #[U,O,U,O,U,O,O,U,O,O,O,O,O,O,O,O,O,O,O,O,O,O] ?_
     refine tk0 1 (some 150) #[U,U,U,O,U,O,O,U,O,O,O,O,O,O,O,O,O,O,O,O,O,O] hHeld ?_
     refine tk0 3 (some 152) #[U,U,U,U,U,O,O,U,O,O,O,O,O,O,O,O,O,O,O,O,O,O] hHeld ?_
     refine pu0 5 (some 154) #[U,U,U,U,U,U,O,U,O,O,O,O,O,O,O,O,O,O,O,O,O,O] ?_
     refine tk0 6 (some 155) (ar 8 14) hHeld ?_
     refine pu0 8 (some 157) (ar 9 13) ?_
     refine one_ (i:=9) (N:=some 158) (ar 10 12) rfl rfl (by kernel_rfl) (by decide) (fun K hK=>?_)
     have hCall:=hasI_true (Go.bits .or .i64 y kf) kl Ak ck _ _ _ w22 HM22.out.tail.tail.tail.tail.tail.tail.tail.head (by omega) HY.out.1
     refine goes_ Tryz.func14 (by kernel_rfl) rfl #[.slice Ak kl.length ck,I (Go.bits .or .i64 y kf)] (by rfl) rfl rfl (by simp only [List.map_toArray,List.map_cons,List.map_nil];rfl) ?_
     with_reducible refine(hCall).mono ?_
     rintro e w23 ⟨rfl,hG23⟩
     refine⟨_,rfl,?_⟩
     clear hCall
     replace HL:=Aside0.mk (Grew.trans HL.out hG23)
     have HM23:=Aside0.mk (HM22.out.grew hG23)
     have HG23:=Aside0.mk (Grew.trans HG22.out hG23)
     clear hG23 HM22 HG22
     refine hK.out _ _ ⟨(Below.cell (w:=wr) HL.out (p:=⟨w2.heap.size,0,none⟩) hl_bk).trans bk_0,(Below.cell (w:=wr) HL.out (p:=⟨w2.heap.size,1,none⟩) hl_bk).trans bk_1,(Below.cell (w:=wr) HL.out (p:=⟨w4.heap.size,0,none⟩) hl_bli).trans bli_0,(Below.cell (w:=wr) HL.out (p:=⟨w4.heap.size,1,none⟩) hl_bli).trans bli_1,(Below.cell (w:=wr) HL.out (p:=⟨w8.heap.size,0,none⟩) hl_bsi).trans bsi_0,(Below.cell (w:=wr) HL.out (p:=⟨w8.heap.size,1,none⟩) hl_bsi).trans bsi_1,(Below.cell (w:=wr) HL.out (p:=ad.add i) hlx).trans hx⟩ (fun hHeld=>?_)
     clear hK K
     refine nr 158 ?_
     refine pu0 10 (some 159) (ar 11 11) ?_
     refine pu0 11 (some 160) (ar 12 10) ?_
     refine pu0 12 (some 161) (ar 13 9) ?_
     refine pu0 14 (some 163) #[U,U,U,U,U,U,U,U,U,U,U,U,U,O,U,O,O,O,O,O,O,O] ?_
     refine pu0 16 (some 165) #[U,U,U,U,U,U,U,U,U,U,U,U,U,O,U,O,U,O,O,O,O,O] ?_
     refine tk0 13 (some 162) #[U,U,U,U,U,U,U,U,U,U,U,U,U,U,U,O,U,O,O,O,O,O] hHeld ?_
     refine tk0 15 (some 164) (ar 17 5) hHeld ?_
     refine pu0 17 (some 166) (ar 18 4) ?_
     refine tk0 18 (some 167) (ar 19 3) hHeld ?_
     refine one_ (i:=19) (N:=some 168) (ar 20 2) rfl rfl (by kernel_rfl) (by decide) (fun K hK=>?_)
     have hCall:=hasI_true y sl Asi csi _ _ _ w23 HM23.out.tail.tail.tail.head (by omega) HY.out.2
     refine goes_ Tryz.func14 (by kernel_rfl) rfl #[.slice Asi sl.length csi,I y] (by rfl) rfl rfl (by simp only [List.map_toArray,List.map_cons,List.map_nil];rfl) ?_
     with_reducible refine(hCall).mono ?_
     rintro e w24 ⟨rfl,hG24⟩
     refine⟨_,rfl,?_⟩
     clear hCall
     replace HL:=Aside0.mk (Grew.trans HL.out hG24)
     have HM24:=Aside0.mk (HM23.out.grew hG24)
     have HG24:=Aside0.mk (Grew.trans HG23.out hG24)
     clear hG24 HM23 HG23
     refine hK.out _ _ ⟨(Below.cell (w:=wr) HL.out (p:=⟨w2.heap.size,0,none⟩) hl_bk).trans bk_0,(Below.cell (w:=wr) HL.out (p:=⟨w2.heap.size,1,none⟩) hl_bk).trans bk_1,(Below.cell (w:=wr) HL.out (p:=⟨w4.heap.size,0,none⟩) hl_bli).trans bli_0,(Below.cell (w:=wr) HL.out (p:=⟨w4.heap.size,1,none⟩) hl_bli).trans bli_1,(Below.cell (w:=wr) HL.out (p:=⟨w8.heap.size,0,none⟩) hl_bsi).trans bsi_0,(Below.cell (w:=wr) HL.out (p:=⟨w8.heap.size,1,none⟩) hl_bsi).trans bsi_1,(Below.cell (w:=wr) HL.out (p:=ad.add i) hlx).trans hx⟩ (fun hHeld=>?_)
     clear hK K
     refine nr 168 ?_
     refine pu0 20 (some 169) (ar 21 1) ?_
     refine pu0 21 (some 170) (ar 22 0) ?_
     refine done_ (by kernel_rfl) ?_
     clear HL hHeld bk_0 bk_1 bli_0 bli_1 bsi_0 bsi_1 hl_bk hl_bli hl_bsi
     clear hx hlx HY
     go_wp2_with fail
     go_roundg (ll.length - (i+1))
     case measure=>omega
     case rel=>exact⟨i+1,by omega,by omega,by go_num,HM24,HG24⟩
    ·have hltz:¬ ((i:Int)<(ll.length:Int)):=by omega
     have HLn:=Aside0.mk HQ.out.2.2.2
     clear hlt hi hg
     have bli_0:wr.cell? ⟨w4.heap.size,0,none⟩=some (I ln):=blk_cell HM21.out.tail.tail.tail.tail.head 0
     have bli_1:wr.cell? ⟨w4.heap.size,1,none⟩=some (.slice Ali ll.length cli):=blk_cell HM21.out.tail.tail.tail.tail.head 1
     have bsi_0:wr.cell? ⟨w8.heap.size,0,none⟩=some (I sn):=blk_cell HM21.out.tail.tail.head 0
     have bsi_1:wr.cell? ⟨w8.heap.size,1,none⟩=some (.slice Asi sl.length csi):=blk_cell HM21.out.tail.tail.head 1
     go_wp2_with fail
     clear bli_0 bli_1 bsi_0 bsi_1
     refine(hasI_true kf sl Asi csi _ _ _ wr HM21.out.tail.tail.tail.head (by omega) HQ.out.2.1).mono ?_
     rintro e w25 ⟨rfl,hG25⟩
     have HM25:=Aside0.mk (HM21.out.grew hG25)
     have HG25:=Aside0.mk (Grew.trans HG21.out hG25)
     clear hG25 HM21 HG21
     have bti_0:w25.cell? ⟨w12.heap.size,0,none⟩=some (I tn):=blk_cell HM25.out.head 0
     have bti_1:w25.cell? ⟨w12.heap.size,1,none⟩=some (.slice Ati tl.length cti):=blk_cell HM25.out.head 1
     go_wp2_with fail
     clear bti_0 bti_1
     refine(hasI_false kf tl Ati cti _ _ _ w25 HM25.out.tail.head (by omega) HQ.out.2.2.1).mono ?_
     rintro e w26 ⟨rfl,hG26⟩
     have HM26:=Aside0.mk (HM25.out.grew hG26)
     have HG26:=Aside0.mk (Grew.trans HG25.out hG26)
     clear hG26 HM25 HG25
     have bti_0:w26.cell? ⟨w12.heap.size,0,none⟩=some (I tn):=blk_cell HM26.out.head 0
     have bti_1:w26.cell? ⟨w12.heap.size,1,none⟩=some (.slice Ati tl.length cti):=blk_cell HM26.out.head 1
     have bli_0:w26.cell? ⟨w4.heap.size,0,none⟩=some (I ln):=blk_cell HM26.out.tail.tail.tail.tail.head 0
     have bli_1:w26.cell? ⟨w4.heap.size,1,none⟩=some (.slice Ali ll.length cli):=blk_cell HM26.out.tail.tail.tail.tail.head 1
     have bk_0:w26.cell? ⟨w2.heap.size,0,none⟩=some (I kn):=blk_cell HM26.out.tail.tail.tail.tail.tail.tail.head 0
     have bk_1:w26.cell? ⟨w2.heap.size,1,none⟩=some (.slice Ak kl.length ck):=blk_cell HM26.out.tail.tail.tail.tail.tail.tail.head 1
     have hsum:IntKind.i64.wrap ((tl.length:Int)+(ll.length:Int))=(tl.length:Int)+(ll.length:Int):=by rw[i64_w];exact w64 _ (by omega) (by omega)
     have hsum2:IntKind.i64.wrap ((tl.length:Int)+(ll.length:Int)+1)=(kl.length:Int):=by rw[i64_w,w64 _ (by omega) (by omega)];have:=HLn.out;omega
     go_wp2_with fail
     clear bti_0 bti_1 bli_0 bli_1 bk_0 bk_1
     go_meet
     exact⟨HM26,HG26⟩
  ·have hcb:(lc == 0)=false:=by simp [hc]
   go_wp2_with fail
   go_meet
   exact⟨HM19,HG19⟩
 obtain ⟨HM20,HG20⟩:=hcut
 clear HM19 HG19
 generalize wc=w20 at *
 as_aux_lemma=>
 have HM27:=Aside0.mk (Mem.nil w20)
 have HG27:=HG20
 clear HM20 HG20
 go_wp2_with fail
 refine(HDc.out w20 A0 c0 (Kd.C_below HR0.out HG27.out) HC0.out).mono ?_
 rintro e w28 ⟨vc,rfl,hRc,hG28⟩
 obtain ⟨Ac,cc,rfl⟩:=Kd.R_slice hRc
 have HM28:=Aside0.mk (Mem.cons (it:= .row w20.heap.size w28.heap.size (.slice Ac cl.length cc) cl) (Row.of_R hRc) (HM27.out.grew hG28))
 have HG28:=Aside0.mk (Grew.trans HG27.out hG28)
 clear hG28 HM27 HG27 hRc
 have HM29:=Aside0.mk (Mem.cons (W:=(w28.alloc (.cells #[I cn,.slice Ac cl.length cc] 26))) (it:= .box (w28.heap.size) 26 #[I cn,.slice Ac cl.length cc]) (blk_new w28 _) (HM28.out.grew (below_alloc (Grew.refl w28) _)))
 have HG29:Aside0 (Grew w (w28.alloc (.cells #[I cn,.slice Ac cl.length cc] 26))):=⟨Grew.trans HG28.out (below_alloc (Grew.refl w28) _)⟩
 have hS29:(w28.alloc (.cells #[I cn,.slice Ac cl.length cc] 26)).heap.size=w28.heap.size+1:=by simp
 clear HM28 HG28
 have bc_0:(w28.alloc (.cells #[I cn,.slice Ac cl.length cc] 26)).cell? ⟨w28.heap.size,0,none⟩=some (I cn):=blk_cell HM29.out.head 0
 have bc_1:(w28.alloc (.cells #[I cn,.slice Ac cl.length cc] 26)).cell? ⟨w28.heap.size,1,none⟩=some (.slice Ac cl.length cc):=blk_cell HM29.out.head 1
 go_wp2_with fail
 generalize (w28.alloc (.cells #[I cn,.slice Ac cl.length cc] 26))=W29 at HM29 HG29 hS29 bc_0 bc_1 ⊢
 clear bc_0 bc_1
 refine(HiC.out W29 Ac cc (Row.slice HM29.out.tail.head).2.2 (Row.slice HM29.out.tail.head).2.1).mono ?_
 rintro e w30 ⟨vni,rfl,hRni,hG30⟩
 obtain ⟨Ani,cni,rfl⟩:=Kd.R_slice hRni
 have HM30:=Aside0.mk (Mem.cons (it:= .row W29.heap.size w30.heap.size (.slice Ani nl.length cni) nl) (Row.of_R hRni) (HM29.out.grew hG30))
 have HG30:=Aside0.mk (Grew.trans HG29.out hG30)
 clear hG30 HM29 HG29 hRni
 have HM31:=Aside0.mk (Mem.cons (W:=(w30.alloc (.cells #[I nn,.slice Ani nl.length cni] 26))) (it:= .box (w30.heap.size) 26 #[I nn,.slice Ani nl.length cni]) (blk_new w30 _) (HM30.out.grew (below_alloc (Grew.refl w30) _)))
 have HG31:Aside0 (Grew w (w30.alloc (.cells #[I nn,.slice Ani nl.length cni] 26))):=⟨Grew.trans HG30.out (below_alloc (Grew.refl w30) _)⟩
 have hS31:(w30.alloc (.cells #[I nn,.slice Ani nl.length cni] 26)).heap.size=w30.heap.size+1:=by simp
 clear HM30 HG30
 have bc_0:(w30.alloc (.cells #[I nn,.slice Ani nl.length cni] 26)).cell? ⟨w28.heap.size,0,none⟩=some (I cn):=blk_cell HM31.out.tail.tail.head 0
 have bc_1:(w30.alloc (.cells #[I nn,.slice Ani nl.length cni] 26)).cell? ⟨w28.heap.size,1,none⟩=some (.slice Ac cl.length cc):=blk_cell HM31.out.tail.tail.head 1
 go_wp2_with fail
 generalize (w30.alloc (.cells #[I nn,.slice Ani nl.length cni] 26))=W31 at HM31 HG31 hS31 bc_0 bc_1 ⊢
 clear bc_0 bc_1
 refine(HsC.out W31 Ac cc (Row.slice HM31.out.tail.tail.tail.head).2.2 (Row.slice HM31.out.tail.tail.tail.head).2.1).mono ?_
 rintro e w32 ⟨vns,rfl,hRns,hG32⟩
 obtain ⟨Ans,cns,rfl⟩:=Kd.R_slice hRns
 have HM32:=Aside0.mk (Mem.cons (it:= .row W31.heap.size w32.heap.size (.slice Ans nl.length cns) nl) (Row.of_R hRns) (HM31.out.grew hG32))
 have HG32:=Aside0.mk (Grew.trans HG31.out hG32)
 clear hG32 HM31 HG31 hRns
 have HM33:=Aside0.mk (Mem.cons (W:=(w32.alloc (.cells #[I nn,.slice Ans nl.length cns] 26))) (it:= .box (w32.heap.size) 26 #[I nn,.slice Ans nl.length cns]) (blk_new w32 _) (HM32.out.grew (below_alloc (Grew.refl w32) _)))
 have HG33:Aside0 (Grew w (w32.alloc (.cells #[I nn,.slice Ans nl.length cns] 26))):=⟨Grew.trans HG32.out (below_alloc (Grew.refl w32) _)⟩
 have hS33:(w32.alloc (.cells #[I nn,.slice Ans nl.length cns] 26)).heap.size=w32.heap.size+1:=by simp
 clear HM32 HG32
 have bni_0:(w32.alloc (.cells #[I nn,.slice Ans nl.length cns] 26)).cell? ⟨w30.heap.size,0,none⟩=some (I nn):=blk_cell HM33.out.tail.tail.head 0
 have bni_1:(w32.alloc (.cells #[I nn,.slice Ans nl.length cns] 26)).cell? ⟨w30.heap.size,1,none⟩=some (.slice Ani nl.length cni):=blk_cell HM33.out.tail.tail.head 1
 have bns_0:(w32.alloc (.cells #[I nn,.slice Ans nl.length cns] 26)).cell? ⟨w32.heap.size,0,none⟩=some (I nn):=blk_cell HM33.out.head 0
 have bns_1:(w32.alloc (.cells #[I nn,.slice Ans nl.length cns] 26)).cell? ⟨w32.heap.size,1,none⟩=some (.slice Ans nl.length cns):=blk_cell HM33.out.head 1
 go_wp2_with fail
 generalize (w32.alloc (.cells #[I nn,.slice Ans nl.length cns] 26))=W33 at HM33 HG33 hS33 bni_0 bni_1 bns_0 bns_1 ⊢
 clear bni_0 bni_1 bns_0 bns_1
 refine(cx5_calls nn nl Ani Ans cni cns _ _ _ _ _ _ W33 HM33.out.tail.tail.tail.head HM33.out.tail.head (by omega)).mono ?_
 rintro e w34 ⟨rfl,hG34⟩
 have HM34:=Aside0.mk (HM33.out.grew hG34)
 have HG34:=Aside0.mk (Grew.trans HG33.out hG34)
 clear hG34 HM33 HG33
 go_upto_if 218 with fail
 have HM35:=Aside0.mk (Mem.cons (it:= .box (w30.heap.size) 26 #[I nn,.slice Ani nl.length cni]) HM34.out.tail.tail.head (Mem.cons (it:= .row W29.heap.size w30.heap.size (.slice Ani nl.length cni) nl) HM34.out.tail.tail.tail.head (Mem.cons (it:= .box (w28.heap.size) 26 #[I cn,.slice Ac cl.length cc]) HM34.out.tail.tail.tail.tail.head (Mem.cons (it:= .row w20.heap.size w28.heap.size (.slice Ac cl.length cc) cl) HM34.out.tail.tail.tail.tail.tail.head (Mem.nil w34)))))
 have HG35:=HG34
 clear HM34 HG34
 go_upto_if 218 with fail
 go_cut [23,24] from 218 to 240 (fun v23_ v24_ wc=>Aside0 (Mem wc [.box (w30.heap.size) 26 #[I nn,.slice Ani nl.length cni],.row W29.heap.size w30.heap.size (.slice Ani nl.length cni) nl,.box (w28.heap.size) 26 #[I cn,.slice Ac cl.length cc],.row w20.heap.size w28.heap.size (.slice Ac cl.length cc) cl])∧Aside0 (Grew w wc))
 case first=>
  as_aux_lemma=>
  by_cases hc:nc=0
  ·have hcb:(nc == 0)=true:=by simp [hc]
   have HQ:=Aside0.mk (HPc.out hc)
   clear hc
   have bni_0:w34.cell? ⟨w30.heap.size,0,none⟩=some (I nn):=blk_cell HM35.out.head 0
   have bni_1:w34.cell? ⟨w30.heap.size,1,none⟩=some (.slice Ani nl.length cni):=blk_cell HM35.out.head 1
   go_wp2_with fail
   clear bni_0 bni_1
   refine(HQ.out.1 w34 Ani cni (Row.slice HM35.out.tail.head).2.2 (Row.slice HM35.out.tail.head).2.1).mono ?_
   rintro e w37 ⟨rfl,hG37⟩
   have HM37:=Aside0.mk (HM35.out.grew hG37)
   have HG37:=Aside0.mk (Grew.trans HG35.out hG37)
   clear hG37 HM35 HG35
   have bni_0:w37.cell? ⟨w30.heap.size,0,none⟩=some (I nn):=blk_cell HM37.out.head 0
   have bni_1:w37.cell? ⟨w30.heap.size,1,none⟩=some (.slice Ani nl.length cni):=blk_cell HM37.out.head 1
   have bc_0:w37.cell? ⟨w28.heap.size,0,none⟩=some (I cn):=blk_cell HM37.out.tail.tail.head 0
   have bc_1:w37.cell? ⟨w28.heap.size,1,none⟩=some (.slice Ac cl.length cc):=blk_cell HM37.out.tail.tail.head 1
   have HLn:=Aside0.mk HQ.out.2
   have hm1:IntKind.i64.wrap (2*(cl.length:Int))=2*(cl.length:Int):=by rw[i64_w];exact w64 _ (by omega) (by omega)
   have hm2:IntKind.i64.wrap (2*(cl.length:Int)+1)=(nl.length:Int):=by rw[i64_w,w64 _ (by omega) (by omega)];have:=HLn.out;omega
   go_wp2_with fail
   clear bni_0 bni_1 bc_0 bc_1
   go_meet
   exact⟨HM37,HG37⟩
  ·have hcb:(nc == 0)=false:=by simp [hc]
   go_wp2_with fail
   go_meet
   exact⟨HM35,HG35⟩
 obtain ⟨HM36,HG36⟩:=hcut
 clear HM35 HG35
 generalize wc=w36 at *
 as_aux_lemma=>
 have HM38:=Aside0.mk (Mem.nil w36)
 have HG38:=HG36
 clear HM36 HG36
 go_wp2_with fail
 refine(HDj.out w36 A0 c0 (Kd.C_below HR0.out HG38.out) HC0.out).mono ?_
 rintro e w39 ⟨va,vb,rfl,hRa,hRb,hG39⟩
 obtain ⟨Aa,ca,rfl⟩:=Kd.R_slice hRa
 obtain ⟨Ab,cb,rfl⟩:=Kd.R_slice hRb
 have HM39:=Aside0.mk (Mem.cons (it:= .row w36.heap.size w39.heap.size (.slice Aa al.length ca) al) (Row.of_R hRa) (Mem.cons (it:= .row w36.heap.size w39.heap.size (.slice Ab bl.length cb) bl) (Row.of_R hRb) (HM38.out.grew hG39)))
 have HG39:=Aside0.mk (Grew.trans HG38.out hG39)
 clear hG39 HM38 HG38 hRa hRb
 have HM40:=Aside0.mk (Mem.cons (W:=(w39.alloc (.cells #[I an,.slice Aa al.length ca] 26))) (it:= .box (w39.heap.size) 26 #[I an,.slice Aa al.length ca]) (blk_new w39 _) (HM39.out.grew (below_alloc (Grew.refl w39) _)))
 have HG40:Aside0 (Grew w (w39.alloc (.cells #[I an,.slice Aa al.length ca] 26))):=⟨Grew.trans HG39.out (below_alloc (Grew.refl w39) _)⟩
 have hS40:(w39.alloc (.cells #[I an,.slice Aa al.length ca] 26)).heap.size=w39.heap.size+1:=by simp
 clear HM39 HG39
 have HM41:=Aside0.mk (Mem.cons (W:=((w39.alloc (.cells #[I an,.slice Aa al.length ca] 26)).alloc (.cells #[I bn,.slice Ab bl.length cb] 26))) (it:= .box (w39.heap.size+1) 26 #[I bn,.slice Ab bl.length cb]) (by have:=blk_new (w39.alloc (.cells #[I an,.slice Aa al.length ca] 26)) (.cells #[I bn,.slice Ab bl.length cb] 26);rwa [World.size_alloc] at this) (HM40.out.grew (below_alloc (Grew.refl (w39.alloc (.cells #[I an,.slice Aa al.length ca] 26))) _)))
 have HG41:Aside0 (Grew w ((w39.alloc (.cells #[I an,.slice Aa al.length ca] 26)).alloc (.cells #[I bn,.slice Ab bl.length cb] 26))):=⟨Grew.trans HG40.out (below_alloc (Grew.refl (w39.alloc (.cells #[I an,.slice Aa al.length ca] 26))) _)⟩
 have hS41:((w39.alloc (.cells #[I an,.slice Aa al.length ca] 26)).alloc (.cells #[I bn,.slice Ab bl.length cb] 26)).heap.size=w39.heap.size+2:=by simp
 clear HM40 HG40
 have ba_0:((w39.alloc (.cells #[I an,.slice Aa al.length ca] 26)).alloc (.cells #[I bn,.slice Ab bl.length cb] 26)).cell? ⟨w39.heap.size,0,none⟩=some (I an):=blk_cell HM41.out.tail.head 0
 have ba_1:((w39.alloc (.cells #[I an,.slice Aa al.length ca] 26)).alloc (.cells #[I bn,.slice Ab bl.length cb] 26)).cell? ⟨w39.heap.size,1,none⟩=some (.slice Aa al.length ca):=blk_cell HM41.out.tail.head 1
 have bb_0:((w39.alloc (.cells #[I an,.slice Aa al.length ca] 26)).alloc (.cells #[I bn,.slice Ab bl.length cb] 26)).cell? ⟨w39.heap.size+1,0,none⟩=some (I bn):=blk_cell HM41.out.head 0
 have bb_1:((w39.alloc (.cells #[I an,.slice Aa al.length ca] 26)).alloc (.cells #[I bn,.slice Ab bl.length cb] 26)).cell? ⟨w39.heap.size+1,1,none⟩=some (.slice Ab bl.length cb):=blk_cell HM41.out.head 1
 go_wp2_with fail
 generalize ((w39.alloc (.cells #[I an,.slice Aa al.length ca] 26)).alloc (.cells #[I bn,.slice Ab bl.length cb] 26))=W41 at HM41 HG41 hS41 ba_0 ba_1 bb_0 bb_1 ⊢
 clear ba_0 ba_1 bb_0 bb_1
 refine(HiJ.out W41 Aa ca Ab cb (Row.slice HM41.out.tail.tail.head).2.2 (Row.slice HM41.out.tail.tail.head).2.1 (Row.slice HM41.out.tail.tail.tail.head).2.2 (Row.slice HM41.out.tail.tail.tail.head).2.1).mono ?_
 rintro e w42 ⟨vji,rfl,hRji,hG42⟩
 obtain ⟨Aji,cji,rfl⟩:=Kd.R_slice hRji
 have HM42:=Aside0.mk (Mem.cons (it:= .row W41.heap.size w42.heap.size (.slice Aji jl.length cji) jl) (Row.of_R hRji) (HM41.out.grew hG42))
 have HG42:=Aside0.mk (Grew.trans HG41.out hG42)
 clear hG42 HM41 HG41 hRji
 have HM43:=Aside0.mk (Mem.cons (W:=(w42.alloc (.cells #[I jn,.slice Aji jl.length cji] 26))) (it:= .box (w42.heap.size) 26 #[I jn,.slice Aji jl.length cji]) (blk_new w42 _) (HM42.out.grew (below_alloc (Grew.refl w42) _)))
 have HG43:Aside0 (Grew w (w42.alloc (.cells #[I jn,.slice Aji jl.length cji] 26))):=⟨Grew.trans HG42.out (below_alloc (Grew.refl w42) _)⟩
 have hS43:(w42.alloc (.cells #[I jn,.slice Aji jl.length cji] 26)).heap.size=w42.heap.size+1:=by simp
 clear HM42 HG42
 have ba_0:(w42.alloc (.cells #[I jn,.slice Aji jl.length cji] 26)).cell? ⟨w39.heap.size,0,none⟩=some (I an):=blk_cell HM43.out.tail.tail.tail.head 0
 have ba_1:(w42.alloc (.cells #[I jn,.slice Aji jl.length cji] 26)).cell? ⟨w39.heap.size,1,none⟩=some (.slice Aa al.length ca):=blk_cell HM43.out.tail.tail.tail.head 1
 have bb_0:(w42.alloc (.cells #[I jn,.slice Aji jl.length cji] 26)).cell? ⟨w39.heap.size+1,0,none⟩=some (I bn):=blk_cell HM43.out.tail.tail.head 0
 have bb_1:(w42.alloc (.cells #[I jn,.slice Aji jl.length cji] 26)).cell? ⟨w39.heap.size+1,1,none⟩=some (.slice Ab bl.length cb):=blk_cell HM43.out.tail.tail.head 1
 go_wp2_with fail
 generalize (w42.alloc (.cells #[I jn,.slice Aji jl.length cji] 26))=W43 at HM43 HG43 hS43 ba_0 ba_1 bb_0 bb_1 ⊢
 clear ba_0 ba_1 bb_0 bb_1
 refine(HsJ.out W43 Aa ca Ab cb (Row.slice HM43.out.tail.tail.tail.tail.head).2.2 (Row.slice HM43.out.tail.tail.tail.tail.head).2.1 (Row.slice HM43.out.tail.tail.tail.tail.tail.head).2.2 (Row.slice HM43.out.tail.tail.tail.tail.tail.head).2.1).mono ?_
 rintro e w44 ⟨vjs,rfl,hRjs,hG44⟩
 obtain ⟨Ajs,cjs,rfl⟩:=Kd.R_slice hRjs
 have HM44:=Aside0.mk (Mem.cons (it:= .row W43.heap.size w44.heap.size (.slice Ajs jl.length cjs) jl) (Row.of_R hRjs) (HM43.out.grew hG44))
 have HG44:=Aside0.mk (Grew.trans HG43.out hG44)
 clear hG44 HM43 HG43 hRjs
 have HM45:=Aside0.mk (Mem.cons (W:=(w44.alloc (.cells #[I jn,.slice Ajs jl.length cjs] 26))) (it:= .box (w44.heap.size) 26 #[I jn,.slice Ajs jl.length cjs]) (blk_new w44 _) (HM44.out.grew (below_alloc (Grew.refl w44) _)))
 have HG45:Aside0 (Grew w (w44.alloc (.cells #[I jn,.slice Ajs jl.length cjs] 26))):=⟨Grew.trans HG44.out (below_alloc (Grew.refl w44) _)⟩
 have hS45:(w44.alloc (.cells #[I jn,.slice Ajs jl.length cjs] 26)).heap.size=w44.heap.size+1:=by simp
 clear HM44 HG44
 have bji_0:(w44.alloc (.cells #[I jn,.slice Ajs jl.length cjs] 26)).cell? ⟨w42.heap.size,0,none⟩=some (I jn):=blk_cell HM45.out.tail.tail.head 0
 have bji_1:(w44.alloc (.cells #[I jn,.slice Ajs jl.length cjs] 26)).cell? ⟨w42.heap.size,1,none⟩=some (.slice Aji jl.length cji):=blk_cell HM45.out.tail.tail.head 1
 have bjs_0:(w44.alloc (.cells #[I jn,.slice Ajs jl.length cjs] 26)).cell? ⟨w44.heap.size,0,none⟩=some (I jn):=blk_cell HM45.out.head 0
 have bjs_1:(w44.alloc (.cells #[I jn,.slice Ajs jl.length cjs] 26)).cell? ⟨w44.heap.size,1,none⟩=some (.slice Ajs jl.length cjs):=blk_cell HM45.out.head 1
 go_wp2_with fail
 generalize (w44.alloc (.cells #[I jn,.slice Ajs jl.length cjs] 26))=W45 at HM45 HG45 hS45 bji_0 bji_1 bjs_0 bjs_1 ⊢
 clear bji_0 bji_1 bjs_0 bjs_1
 refine(cx5_calls jn jl Aji Ajs cji cjs _ _ _ _ _ _ W45 HM45.out.tail.tail.tail.head HM45.out.tail.head (by omega)).mono ?_
 rintro e w46 ⟨rfl,hG46⟩
 have HM46:=Aside0.mk (HM45.out.grew hG46)
 have HG46:=Aside0.mk (Grew.trans HG45.out hG46)
 clear hG46 HM45 HG45
 go_upto_if 268 with fail
 have HM47:=Aside0.mk (Mem.cons (it:= .box (w42.heap.size) 26 #[I jn,.slice Aji jl.length cji]) HM46.out.tail.tail.head (Mem.cons (it:= .row W41.heap.size w42.heap.size (.slice Aji jl.length cji) jl) HM46.out.tail.tail.tail.head (Mem.cons (it:= .box (w39.heap.size+1) 26 #[I bn,.slice Ab bl.length cb]) HM46.out.tail.tail.tail.tail.head (Mem.cons (it:= .box (w39.heap.size) 26 #[I an,.slice Aa al.length ca]) HM46.out.tail.tail.tail.tail.tail.head (Mem.cons (it:= .row w36.heap.size w39.heap.size (.slice Aa al.length ca) al) HM46.out.tail.tail.tail.tail.tail.tail.head (Mem.cons (it:= .row w36.heap.size w39.heap.size (.slice Ab bl.length cb) bl) HM46.out.tail.tail.tail.tail.tail.tail.tail.head (Mem.nil w46)))))))
 have HG47:=HG46
 clear HM46 HG46
 go_upto_if 268 with fail
 go_cut [31,32,33,34,35,36] from 268 to 304 (fun v31_ v32_ v33_ v34_ v35_ v36_ wc=>Aside0 (Mem wc [.box (w42.heap.size) 26 #[I jn,.slice Aji jl.length cji],.row W41.heap.size w42.heap.size (.slice Aji jl.length cji) jl,.box (w39.heap.size+1) 26 #[I bn,.slice Ab bl.length cb],.box (w39.heap.size) 26 #[I an,.slice Aa al.length ca],.row w36.heap.size w39.heap.size (.slice Aa al.length ca) al,.row w36.heap.size w39.heap.size (.slice Ab bl.length cb) bl])∧Aside0 (Grew w wc))
 case first=>
  as_aux_lemma=>
  by_cases hc:jc=0
  ·have hcb:(jc == 0)=true:=by simp [hc]
   have HQ:=Aside0.mk (HPj.out hc)
   clear hc
   have ba_0:w46.cell? ⟨w39.heap.size,0,none⟩=some (I an):=blk_cell HM47.out.tail.tail.tail.head 0
   have ba_1:w46.cell? ⟨w39.heap.size,1,none⟩=some (.slice Aa al.length ca):=blk_cell HM47.out.tail.tail.tail.head 1
   go_wp2_with fail
   clear ba_0 ba_1
   refine(HQ.out.1 w46 Aa ca (Row.slice HM47.out.tail.tail.tail.tail.head).2.2 (Row.slice HM47.out.tail.tail.tail.tail.head).2.1).mono ?_
   rintro e w49 ⟨rfl,hG49⟩
   have HM49:=Aside0.mk (HM47.out.grew hG49)
   have HG49:=Aside0.mk (Grew.trans HG47.out hG49)
   clear hG49 HM47 HG47
   have bb_0:w49.cell? ⟨w39.heap.size+1,0,none⟩=some (I bn):=blk_cell HM49.out.tail.tail.head 0
   have bb_1:w49.cell? ⟨w39.heap.size+1,1,none⟩=some (.slice Ab bl.length cb):=blk_cell HM49.out.tail.tail.head 1
   go_wp2_with fail
   clear bb_0 bb_1
   refine(HQ.out.2.1 w49 Ab cb (Row.slice HM49.out.tail.tail.tail.tail.tail.head).2.2 (Row.slice HM49.out.tail.tail.tail.tail.tail.head).2.1).mono ?_
   rintro e w50 ⟨rfl,hG50⟩
   have HM50:=Aside0.mk (HM49.out.grew hG50)
   have HG50:=Aside0.mk (Grew.trans HG49.out hG50)
   clear hG50 HM49 HG49
   have bji_0:w50.cell? ⟨w42.heap.size,0,none⟩=some (I jn):=blk_cell HM50.out.head 0
   have bji_1:w50.cell? ⟨w42.heap.size,1,none⟩=some (.slice Aji jl.length cji):=blk_cell HM50.out.head 1
   go_wp2_with fail
   clear bji_0 bji_1
   refine(HQ.out.2.2.1 w50 Aji cji (Row.slice HM50.out.tail.head).2.2 (Row.slice HM50.out.tail.head).2.1).mono ?_
   rintro e w51 ⟨rfl,hG51⟩
   have HM51:=Aside0.mk (HM50.out.grew hG51)
   have HG51:=Aside0.mk (Grew.trans HG50.out hG51)
   clear hG51 HM50 HG50
   have hxy:=HQ.out.2.2.2.2
   have hb1: -10000≤ex*ey∧ex*ey≤10000:=mul_bound hxy.1 hxy.2
   have ha1:IntKind.i64.wrap (ex+ey)=ex+ey:=by rw[i64_w];exact w64 _ (by omega) (by omega)
   have ha2:IntKind.i64.wrap (ex*ey)=ex*ey:=by rw[i64_w];exact w64 _ (by omega) (by omega)
   have ha3:IntKind.i64.wrap (ex+ey - ex*ey)=ez:=by rw[i64_w,w64 _ (by omega) (by omega)];exact HQ.out.2.2.2.1.symm
   clear hxy hb1
   go_wp2_with fail
   go_meet
   exact⟨HM51,HG51⟩
  ·have hcb:(jc == 0)=false:=by simp [hc]
   go_wp2_with fail
   go_meet
   exact⟨HM47,HG47⟩
 obtain ⟨HM48,HG48⟩:=hcut
 clear HM47 HG47
 generalize wc=w48 at *
 as_aux_lemma=>
 have HM52:=Aside0.mk (Mem.nil w48)
 have HG52:=HG48
 clear HM48 HG48
 go_wp2_with fail
 refine(HDr.out w48 A0 c0 (Kd.C_below HR0.out HG52.out) HC0.out).mono ?_
 rintro e w53 ⟨vg,vp,rfl,hRg,hRp,hG53⟩
 obtain ⟨Ag,cg,rfl⟩:=Kd.R_slice hRg
 obtain ⟨Ap,cp,rfl⟩:=Kd.R_slice hRp
 have HM53:=Aside0.mk (Mem.cons (it:= .row w48.heap.size w53.heap.size (.slice Ag gl.length cg) gl) (Row.of_R hRg) (Mem.cons (it:= .row w48.heap.size w53.heap.size (.slice Ap pl.length cp) pl) (Row.of_R hRp) (HM52.out.grew hG53)))
 have HG53:=Aside0.mk (Grew.trans HG52.out hG53)
 clear hG53 HM52 HG52 hRg hRp
 have HM54:=Aside0.mk (Mem.cons (W:=(w53.alloc (.cells #[I gn,.slice Ag gl.length cg] 26))) (it:= .box (w53.heap.size) 26 #[I gn,.slice Ag gl.length cg]) (blk_new w53 _) (HM53.out.grew (below_alloc (Grew.refl w53) _)))
 have HG54:Aside0 (Grew w (w53.alloc (.cells #[I gn,.slice Ag gl.length cg] 26))):=⟨Grew.trans HG53.out (below_alloc (Grew.refl w53) _)⟩
 have hS54:(w53.alloc (.cells #[I gn,.slice Ag gl.length cg] 26)).heap.size=w53.heap.size+1:=by simp
 clear HM53 HG53
 have bg_0:(w53.alloc (.cells #[I gn,.slice Ag gl.length cg] 26)).cell? ⟨w53.heap.size,0,none⟩=some (I gn):=blk_cell HM54.out.head 0
 have bg_1:(w53.alloc (.cells #[I gn,.slice Ag gl.length cg] 26)).cell? ⟨w53.heap.size,1,none⟩=some (.slice Ag gl.length cg):=blk_cell HM54.out.head 1
 go_wp2_with fail
 generalize (w53.alloc (.cells #[I gn,.slice Ag gl.length cg] 26))=W54 at HM54 HG54 hS54 bg_0 bg_1 ⊢
 clear bg_0 bg_1
 refine(HiR.out W54 Ag cg Ap cp (Row.slice HM54.out.tail.head).2.2 (Row.slice HM54.out.tail.head).2.1 (Row.slice HM54.out.tail.tail.head).2.2 (Row.slice HM54.out.tail.tail.head).2.1).mono ?_
 rintro e w55 ⟨vmi,rfl,hRmi,hG55⟩
 obtain ⟨Ami,cmi,rfl⟩:=Kd.R_slice hRmi
 have HM55:=Aside0.mk (Mem.cons (it:= .row W54.heap.size w55.heap.size (.slice Ami ml.length cmi) ml) (Row.of_R hRmi) (HM54.out.grew hG55))
 have HG55:=Aside0.mk (Grew.trans HG54.out hG55)
 clear hG55 HM54 HG54 hRmi
 have HM56:=Aside0.mk (Mem.cons (W:=(w55.alloc (.cells #[I mn,.slice Ami ml.length cmi] 26))) (it:= .box (w55.heap.size) 26 #[I mn,.slice Ami ml.length cmi]) (blk_new w55 _) (HM55.out.grew (below_alloc (Grew.refl w55) _)))
 have HG56:Aside0 (Grew w (w55.alloc (.cells #[I mn,.slice Ami ml.length cmi] 26))):=⟨Grew.trans HG55.out (below_alloc (Grew.refl w55) _)⟩
 have hS56:(w55.alloc (.cells #[I mn,.slice Ami ml.length cmi] 26)).heap.size=w55.heap.size+1:=by simp
 clear HM55 HG55
 have bg_0:(w55.alloc (.cells #[I mn,.slice Ami ml.length cmi] 26)).cell? ⟨w53.heap.size,0,none⟩=some (I gn):=blk_cell HM56.out.tail.tail.head 0
 have bg_1:(w55.alloc (.cells #[I mn,.slice Ami ml.length cmi] 26)).cell? ⟨w53.heap.size,1,none⟩=some (.slice Ag gl.length cg):=blk_cell HM56.out.tail.tail.head 1
 go_wp2_with fail
 generalize (w55.alloc (.cells #[I mn,.slice Ami ml.length cmi] 26))=W56 at HM56 HG56 hS56 bg_0 bg_1 ⊢
 clear bg_0 bg_1
 refine(HsR.out W56 Ag cg Ap cp (Row.slice HM56.out.tail.tail.tail.head).2.2 (Row.slice HM56.out.tail.tail.tail.head).2.1 (Row.slice HM56.out.tail.tail.tail.tail.head).2.2 (Row.slice HM56.out.tail.tail.tail.tail.head).2.1).mono ?_
 rintro e w57 ⟨vms,rfl,hRms,hG57⟩
 obtain ⟨Ams,cms,rfl⟩:=Kd.R_slice hRms
 have HM57:=Aside0.mk (Mem.cons (it:= .row W56.heap.size w57.heap.size (.slice Ams ml.length cms) ml) (Row.of_R hRms) (HM56.out.grew hG57))
 have HG57:=Aside0.mk (Grew.trans HG56.out hG57)
 clear hG57 HM56 HG56 hRms
 have HM58:=Aside0.mk (Mem.cons (W:=(w57.alloc (.cells #[I mn,.slice Ams ml.length cms] 26))) (it:= .box (w57.heap.size) 26 #[I mn,.slice Ams ml.length cms]) (blk_new w57 _) (HM57.out.grew (below_alloc (Grew.refl w57) _)))
 have HG58:Aside0 (Grew w (w57.alloc (.cells #[I mn,.slice Ams ml.length cms] 26))):=⟨Grew.trans HG57.out (below_alloc (Grew.refl w57) _)⟩
 have hS58:(w57.alloc (.cells #[I mn,.slice Ams ml.length cms] 26)).heap.size=w57.heap.size+1:=by simp
 clear HM57 HG57
 go_wp2_with fail
 generalize (w57.alloc (.cells #[I mn,.slice Ams ml.length cms] 26))=W58 at HM58 HG58 hS58  ⊢
 refine(HDh.out W58 A0 c0 (Kd.C_below HR0.out HG58.out) HC0.out).mono ?_
 rintro e w59 ⟨vh,rfl,hRh,hG59⟩
 obtain ⟨Ah,ch,rfl⟩:=Kd.R_slice hRh
 have HM59:=Aside0.mk (Mem.cons (it:= .row W58.heap.size w59.heap.size (.slice Ah hl.length ch) hl) (Row.of_R hRh) (HM58.out.grew hG59))
 have HG59:=Aside0.mk (Grew.trans HG58.out hG59)
 clear hG59 HM58 HG58 hRh
 have HM60:=Aside0.mk (Mem.cons (W:=(w59.alloc (.cells #[I hn,.slice Ah hl.length ch] 26))) (it:= .box (w59.heap.size) 26 #[I hn,.slice Ah hl.length ch]) (blk_new w59 _) (HM59.out.grew (below_alloc (Grew.refl w59) _)))
 have HG60:Aside0 (Grew w (w59.alloc (.cells #[I hn,.slice Ah hl.length ch] 26))):=⟨Grew.trans HG59.out (below_alloc (Grew.refl w59) _)⟩
 have hS60:(w59.alloc (.cells #[I hn,.slice Ah hl.length ch] 26)).heap.size=w59.heap.size+1:=by simp
 clear HM59 HG59
 have bh_0:(w59.alloc (.cells #[I hn,.slice Ah hl.length ch] 26)).cell? ⟨w59.heap.size,0,none⟩=some (I hn):=blk_cell HM60.out.head 0
 have bh_1:(w59.alloc (.cells #[I hn,.slice Ah hl.length ch] 26)).cell? ⟨w59.heap.size,1,none⟩=some (.slice Ah hl.length ch):=blk_cell HM60.out.head 1
 go_wp2_with fail
 generalize (w59.alloc (.cells #[I hn,.slice Ah hl.length ch] 26))=W60 at HM60 HG60 hS60 bh_0 bh_1 ⊢
 clear bh_0 bh_1
 refine(HiH.out W60 Ah ch (Row.slice HM60.out.tail.head).2.2 (Row.slice HM60.out.tail.head).2.1).mono ?_
 rintro e w61 ⟨voi,rfl,hRoi,hG61⟩
 obtain ⟨Aoi,coi,rfl⟩:=Kd.R_slice hRoi
 have HM61:=Aside0.mk (Mem.cons (it:= .row W60.heap.size w61.heap.size (.slice Aoi ol.length coi) ol) (Row.of_R hRoi) (HM60.out.grew hG61))
 have HG61:=Aside0.mk (Grew.trans HG60.out hG61)
 clear hG61 HM60 HG60 hRoi
 have bh_0:w61.cell? ⟨w59.heap.size,0,none⟩=some (I hn):=blk_cell HM61.out.tail.head 0
 have bh_1:w61.cell? ⟨w59.heap.size,1,none⟩=some (.slice Ah hl.length ch):=blk_cell HM61.out.tail.head 1
 go_wp2_with fail
 clear bh_0 bh_1
 refine(HsH.out w61 Ah ch (Row.slice HM61.out.tail.tail.head).2.2 (Row.slice HM61.out.tail.tail.head).2.1).mono ?_
 rintro e w62 ⟨vos,rfl,hRos,hG62⟩
 obtain ⟨Aos,cos,rfl⟩:=Kd.R_slice hRos
 have HM62:=Aside0.mk (Mem.cons (it:= .row w61.heap.size w62.heap.size (.slice Aos ol.length cos) ol) (Row.of_R hRos) (HM61.out.grew hG62))
 have HG62:=Aside0.mk (Grew.trans HG61.out hG62)
 clear hG62 HM61 HG61 hRos
 go_wp2_with fail
 refine(HDp.out w62 A0 c0 (Kd.C_below HR0.out HG62.out) HC0.out).mono ?_
 rintro e w63 ⟨vu,rfl,hRu,hG63⟩
 obtain ⟨Au,cu,rfl⟩:=Kd.R_slice hRu
 have HM63:=Aside0.mk (Mem.cons (it:= .row w62.heap.size w63.heap.size (.slice Au ul.length cu) ul) (Row.of_R hRu) (HM62.out.grew hG63))
 have HG63:=Aside0.mk (Grew.trans HG62.out hG63)
 clear hG63 HM62 HG62 hRu
 have HM64:=Aside0.mk (Mem.cons (W:=(w63.alloc (.cells #[I un,.slice Au ul.length cu] 26))) (it:= .box (w63.heap.size) 26 #[I un,.slice Au ul.length cu]) (blk_new w63 _) (HM63.out.grew (below_alloc (Grew.refl w63) _)))
 have HG64:Aside0 (Grew w (w63.alloc (.cells #[I un,.slice Au ul.length cu] 26))):=⟨Grew.trans HG63.out (below_alloc (Grew.refl w63) _)⟩
 have hS64:(w63.alloc (.cells #[I un,.slice Au ul.length cu] 26)).heap.size=w63.heap.size+1:=by simp
 clear HM63 HG63
 have bu_0:(w63.alloc (.cells #[I un,.slice Au ul.length cu] 26)).cell? ⟨w63.heap.size,0,none⟩=some (I un):=blk_cell HM64.out.head 0
 have bu_1:(w63.alloc (.cells #[I un,.slice Au ul.length cu] 26)).cell? ⟨w63.heap.size,1,none⟩=some (.slice Au ul.length cu):=blk_cell HM64.out.head 1
 go_wp2_with fail
 generalize (w63.alloc (.cells #[I un,.slice Au ul.length cu] 26))=W64 at HM64 HG64 hS64 bu_0 bu_1 ⊢
 clear bu_0 bu_1
 refine(HiP.out W64 Au cu (Row.slice HM64.out.tail.head).2.2 (Row.slice HM64.out.tail.head).2.1).mono ?_
 rintro e w65 ⟨vqi,rfl,hRqi,hG65⟩
 obtain ⟨Aqi,cqi,rfl⟩:=Kd.R_slice hRqi
 have HM65:=Aside0.mk (Mem.cons (it:= .row W64.heap.size w65.heap.size (.slice Aqi ql.length cqi) ql) (Row.of_R hRqi) (HM64.out.grew hG65))
 have HG65:=Aside0.mk (Grew.trans HG64.out hG65)
 clear hG65 HM64 HG64 hRqi
 have HM66:=Aside0.mk (Mem.cons (W:=(w65.alloc (.cells #[I qn,.slice Aqi ql.length cqi] 26))) (it:= .box (w65.heap.size) 26 #[I qn,.slice Aqi ql.length cqi]) (blk_new w65 _) (HM65.out.grew (below_alloc (Grew.refl w65) _)))
 have HG66:Aside0 (Grew w (w65.alloc (.cells #[I qn,.slice Aqi ql.length cqi] 26))):=⟨Grew.trans HG65.out (below_alloc (Grew.refl w65) _)⟩
 have hS66:(w65.alloc (.cells #[I qn,.slice Aqi ql.length cqi] 26)).heap.size=w65.heap.size+1:=by simp
 clear HM65 HG65
 have bu_0:(w65.alloc (.cells #[I qn,.slice Aqi ql.length cqi] 26)).cell? ⟨w63.heap.size,0,none⟩=some (I un):=blk_cell HM66.out.tail.tail.head 0
 have bu_1:(w65.alloc (.cells #[I qn,.slice Aqi ql.length cqi] 26)).cell? ⟨w63.heap.size,1,none⟩=some (.slice Au ul.length cu):=blk_cell HM66.out.tail.tail.head 1
 go_wp2_with fail
 generalize (w65.alloc (.cells #[I qn,.slice Aqi ql.length cqi] 26))=W66 at HM66 HG66 hS66 bu_0 bu_1 ⊢
 clear bu_0 bu_1
 refine(HsP.out W66 Au cu (Row.slice HM66.out.tail.tail.tail.head).2.2 (Row.slice HM66.out.tail.tail.tail.head).2.1).mono ?_
 rintro e w67 ⟨vqs,rfl,hRqs,hG67⟩
 obtain ⟨Aqs,cqs,rfl⟩:=Kd.R_slice hRqs
 have HM67:=Aside0.mk (Mem.cons (it:= .row W66.heap.size w67.heap.size (.slice Aqs ql.length cqs) ql) (Row.of_R hRqs) (HM66.out.grew hG67))
 have HG67:=Aside0.mk (Grew.trans HG66.out hG67)
 clear hG67 HM66 HG66 hRqs
 have HM68:=Aside0.mk (Mem.cons (W:=(w67.alloc (.cells #[I qn,.slice Aqs ql.length cqs] 26))) (it:= .box (w67.heap.size) 26 #[I qn,.slice Aqs ql.length cqs]) (blk_new w67 _) (HM67.out.grew (below_alloc (Grew.refl w67) _)))
 have HG68:Aside0 (Grew w (w67.alloc (.cells #[I qn,.slice Aqs ql.length cqs] 26))):=⟨Grew.trans HG67.out (below_alloc (Grew.refl w67) _)⟩
 have hS68:(w67.alloc (.cells #[I qn,.slice Aqs ql.length cqs] 26)).heap.size=w67.heap.size+1:=by simp
 clear HM67 HG67
 go_wp2_with fail
 generalize (w67.alloc (.cells #[I qn,.slice Aqs ql.length cqs] 26))=W68 at HM68 HG68 hS68  ⊢
 refine(HDs.out W68 A0 c0 (Kd.C_below HR0.out HG68.out) HC0.out).mono ?_
 rintro e w69 ⟨vv,rfl,hRv,hG69⟩
 obtain ⟨Av,cv,rfl⟩:=Kd.R_slice hRv
 have HM69:=Aside0.mk (Mem.cons (it:= .row W68.heap.size w69.heap.size (.slice Av vl.length cv) vl) (Row.of_R hRv) (HM68.out.grew hG69))
 have HG69:=Aside0.mk (Grew.trans HG68.out hG69)
 clear hG69 HM68 HG68 hRv
 have HM70:=Aside0.mk (Mem.cons (W:=(w69.alloc (.cells #[I vn,.slice Av vl.length cv] 26))) (it:= .box (w69.heap.size) 26 #[I vn,.slice Av vl.length cv]) (blk_new w69 _) (HM69.out.grew (below_alloc (Grew.refl w69) _)))
 have HG70:Aside0 (Grew w (w69.alloc (.cells #[I vn,.slice Av vl.length cv] 26))):=⟨Grew.trans HG69.out (below_alloc (Grew.refl w69) _)⟩
 have hS70:(w69.alloc (.cells #[I vn,.slice Av vl.length cv] 26)).heap.size=w69.heap.size+1:=by simp
 clear HM69 HG69
 have bv_0:(w69.alloc (.cells #[I vn,.slice Av vl.length cv] 26)).cell? ⟨w69.heap.size,0,none⟩=some (I vn):=blk_cell HM70.out.head 0
 have bv_1:(w69.alloc (.cells #[I vn,.slice Av vl.length cv] 26)).cell? ⟨w69.heap.size,1,none⟩=some (.slice Av vl.length cv):=blk_cell HM70.out.head 1
 go_wp2_with fail
 generalize (w69.alloc (.cells #[I vn,.slice Av vl.length cv] 26))=W70 at HM70 HG70 hS70 bv_0 bv_1 ⊢
 clear bv_0 bv_1
 refine(HiK.out W70 Av cv (Row.slice HM70.out.tail.head).2.2 (Row.slice HM70.out.tail.head).2.1).mono ?_
 rintro e w71 ⟨vxi,rfl,hRxi,hG71⟩
 obtain ⟨Axi,cxi,rfl⟩:=Kd.R_slice hRxi
 have HM71:=Aside0.mk (Mem.cons (it:= .row W70.heap.size w71.heap.size (.slice Axi xl.length cxi) xl) (Row.of_R hRxi) (HM70.out.grew hG71))
 have HG71:=Aside0.mk (Grew.trans HG70.out hG71)
 clear hG71 HM70 HG70 hRxi
 have HM72:=Aside0.mk (Mem.cons (W:=(w71.alloc (.cells #[I xn,.slice Axi xl.length cxi] 26))) (it:= .box (w71.heap.size) 26 #[I xn,.slice Axi xl.length cxi]) (blk_new w71 _) (HM71.out.grew (below_alloc (Grew.refl w71) _)))
 have HG72:Aside0 (Grew w (w71.alloc (.cells #[I xn,.slice Axi xl.length cxi] 26))):=⟨Grew.trans HG71.out (below_alloc (Grew.refl w71) _)⟩
 have hS72:(w71.alloc (.cells #[I xn,.slice Axi xl.length cxi] 26)).heap.size=w71.heap.size+1:=by simp
 clear HM71 HG71
 have bv_0:(w71.alloc (.cells #[I xn,.slice Axi xl.length cxi] 26)).cell? ⟨w69.heap.size,0,none⟩=some (I vn):=blk_cell HM72.out.tail.tail.head 0
 have bv_1:(w71.alloc (.cells #[I xn,.slice Axi xl.length cxi] 26)).cell? ⟨w69.heap.size,1,none⟩=some (.slice Av vl.length cv):=blk_cell HM72.out.tail.tail.head 1
 go_wp2_with fail
 generalize (w71.alloc (.cells #[I xn,.slice Axi xl.length cxi] 26))=W72 at HM72 HG72 hS72 bv_0 bv_1 ⊢
 clear bv_0 bv_1
 refine(HsK.out W72 Av cv (Row.slice HM72.out.tail.tail.tail.head).2.2 (Row.slice HM72.out.tail.tail.tail.head).2.1).mono ?_
 rintro e w73 ⟨vxs,rfl,hRxs,hG73⟩
 obtain ⟨Axs,cxs,rfl⟩:=Kd.R_slice hRxs
 have HM73:=Aside0.mk (Mem.cons (it:= .row W72.heap.size w73.heap.size (.slice Axs xl.length cxs) xl) (Row.of_R hRxs) (HM72.out.grew hG73))
 have HG73:=Aside0.mk (Grew.trans HG72.out hG73)
 clear hG73 HM72 HG72 hRxs
 have HM74:=Aside0.mk (Mem.cons (W:=(w73.alloc (.cells #[I xn,.slice Axs xl.length cxs] 26))) (it:= .box (w73.heap.size) 26 #[I xn,.slice Axs xl.length cxs]) (blk_new w73 _) (HM73.out.grew (below_alloc (Grew.refl w73) _)))
 have HG74:Aside0 (Grew w (w73.alloc (.cells #[I xn,.slice Axs xl.length cxs] 26))):=⟨Grew.trans HG73.out (below_alloc (Grew.refl w73) _)⟩
 have hS74:(w73.alloc (.cells #[I xn,.slice Axs xl.length cxs] 26)).heap.size=w73.heap.size+1:=by simp
 clear HM73 HG73
 have bmi_0:(w73.alloc (.cells #[I xn,.slice Axs xl.length cxs] 26)).cell? ⟨w55.heap.size,0,none⟩=some (I mn):=blk_cell HM74.out.tail.tail.tail.tail.tail.tail.tail.tail.tail.tail.tail.tail.tail.tail.tail.tail.tail.tail.head 0
 have bmi_1:(w73.alloc (.cells #[I xn,.slice Axs xl.length cxs] 26)).cell? ⟨w55.heap.size,1,none⟩=some (.slice Ami ml.length cmi):=blk_cell HM74.out.tail.tail.tail.tail.tail.tail.tail.tail.tail.tail.tail.tail.tail.tail.tail.tail.tail.tail.head 1
 have bms_0:(w73.alloc (.cells #[I xn,.slice Axs xl.length cxs] 26)).cell? ⟨w57.heap.size,0,none⟩=some (I mn):=blk_cell HM74.out.tail.tail.tail.tail.tail.tail.tail.tail.tail.tail.tail.tail.tail.tail.tail.tail.head 0
 have bms_1:(w73.alloc (.cells #[I xn,.slice Axs xl.length cxs] 26)).cell? ⟨w57.heap.size,1,none⟩=some (.slice Ams ml.length cms):=blk_cell HM74.out.tail.tail.tail.tail.tail.tail.tail.tail.tail.tail.tail.tail.tail.tail.tail.tail.head 1
 go_wp2_with fail
 generalize (w73.alloc (.cells #[I xn,.slice Axs xl.length cxs] 26))=W74 at HM74 HG74 hS74 bmi_0 bmi_1 bms_0 bms_1 ⊢
 clear bmi_0 bmi_1 bms_0 bms_1
 refine(cx5_calls mn ml Ami Ams cmi cms _ _ _ _ _ _ W74 HM74.out.tail.tail.tail.tail.tail.tail.tail.tail.tail.tail.tail.tail.tail.tail.tail.tail.tail.tail.tail.head HM74.out.tail.tail.tail.tail.tail.tail.tail.tail.tail.tail.tail.tail.tail.tail.tail.tail.tail.head (by omega)).mono ?_
 rintro e w75 ⟨rfl,hG75⟩
 have HM75:=Aside0.mk (HM74.out.grew hG75)
 have HG75:=Aside0.mk (Grew.trans HG74.out hG75)
 clear hG75 HM74 HG74
 go_wp2_with fail
 refine(likeI_calls ol Aoi Aos coi cos _ _ _ _ _ _ w75 HM75.out.tail.tail.tail.tail.tail.tail.tail.tail.tail.tail.tail.tail.tail.head HM75.out.tail.tail.tail.tail.tail.tail.tail.tail.tail.tail.tail.tail.head (by omega)).mono ?_
 rintro e w76 ⟨rfl,hG76⟩
 have HM76:=Aside0.mk (HM75.out.grew hG76)
 have HG76:=Aside0.mk (Grew.trans HG75.out hG76)
 clear hG76 HM75 HG75
 have bqi_0:w76.cell? ⟨w65.heap.size,0,none⟩=some (I qn):=blk_cell HM76.out.tail.tail.tail.tail.tail.tail.tail.tail.head 0
 have bqi_1:w76.cell? ⟨w65.heap.size,1,none⟩=some (.slice Aqi ql.length cqi):=blk_cell HM76.out.tail.tail.tail.tail.tail.tail.tail.tail.head 1
 have bqs_0:w76.cell? ⟨w67.heap.size,0,none⟩=some (I qn):=blk_cell HM76.out.tail.tail.tail.tail.tail.tail.head 0
 have bqs_1:w76.cell? ⟨w67.heap.size,1,none⟩=some (.slice Aqs ql.length cqs):=blk_cell HM76.out.tail.tail.tail.tail.tail.tail.head 1
 go_wp2_with fail
 clear bqi_0 bqi_1 bqs_0 bqs_1
 refine(cx5_calls qn ql Aqi Aqs cqi cqs _ _ _ _ _ _ w76 HM76.out.tail.tail.tail.tail.tail.tail.tail.tail.tail.head HM76.out.tail.tail.tail.tail.tail.tail.tail.head (by omega)).mono ?_
 rintro e w77 ⟨rfl,hG77⟩
 have HM77:=Aside0.mk (HM76.out.grew hG77)
 have HG77:=Aside0.mk (Grew.trans HG76.out hG77)
 clear hG77 HM76 HG76
 have bxi_0:w77.cell? ⟨w71.heap.size,0,none⟩=some (I xn):=blk_cell HM77.out.tail.tail.head 0
 have bxi_1:w77.cell? ⟨w71.heap.size,1,none⟩=some (.slice Axi xl.length cxi):=blk_cell HM77.out.tail.tail.head 1
 have bxs_0:w77.cell? ⟨w73.heap.size,0,none⟩=some (I xn):=blk_cell HM77.out.head 0
 have bxs_1:w77.cell? ⟨w73.heap.size,1,none⟩=some (.slice Axs xl.length cxs):=blk_cell HM77.out.head 1
 go_wp2_with fail
 clear bxi_0 bxi_1 bxs_0 bxs_1
 refine(cx5_calls xn xl Axi Axs cxi cxs _ _ _ _ _ _ w77 HM77.out.tail.tail.tail.head HM77.out.tail.head (by omega)).mono ?_
 rintro e w78 ⟨rfl,hG78⟩
 have HM78:=Aside0.mk (HM77.out.grew hG78)
 have HG78:=Aside0.mk (Grew.trans HG77.out hG78)
 clear hG78 HM77 HG77
 go_upto_if 411 with fail
 have HM79:=Aside0.mk (Mem.cons (it:= .row W60.heap.size w61.heap.size (.slice Aoi ol.length coi) ol) HM78.out.tail.tail.tail.tail.tail.tail.tail.tail.tail.tail.tail.tail.tail.head (Mem.cons (it:= .box (w55.heap.size) 26 #[I mn,.slice Ami ml.length cmi]) HM78.out.tail.tail.tail.tail.tail.tail.tail.tail.tail.tail.tail.tail.tail.tail.tail.tail.tail.tail.head (Mem.cons (it:= .row W54.heap.size w55.heap.size (.slice Ami ml.length cmi) ml) HM78.out.tail.tail.tail.tail.tail.tail.tail.tail.tail.tail.tail.tail.tail.tail.tail.tail.tail.tail.tail.head (Mem.cons (it:= .box (w53.heap.size) 26 #[I gn,.slice Ag gl.length cg]) HM78.out.tail.tail.tail.tail.tail.tail.tail.tail.tail.tail.tail.tail.tail.tail.tail.tail.tail.tail.tail.tail.head (Mem.cons (it:= .row w48.heap.size w53.heap.size (.slice Ag gl.length cg) gl) HM78.out.tail.tail.tail.tail.tail.tail.tail.tail.tail.tail.tail.tail.tail.tail.tail.tail.tail.tail.tail.tail.tail.head (Mem.nil w78))))))
 have HG79:=HG78
 clear HM78 HG78
 go_upto_if 411 with fail
 go_cut [60,61,62,63] from 411 to 433 (fun v60_ v61_ v62_ v63_ wc=>Aside0 (Mem wc [.row W60.heap.size w61.heap.size (.slice Aoi ol.length coi) ol,.box (w55.heap.size) 26 #[I mn,.slice Ami ml.length cmi],.row W54.heap.size w55.heap.size (.slice Ami ml.length cmi) ml,.box (w53.heap.size) 26 #[I gn,.slice Ag gl.length cg],.row w48.heap.size w53.heap.size (.slice Ag gl.length cg) gl])∧Aside0 (Grew w wc))
 case first=>
  as_aux_lemma=>
  by_cases hc:mc=0
  ·have hcb:(mc == 0)=true:=by simp [hc]
   have HQ:=Aside0.mk (HPr.out hc)
   clear hc
   have bg_0:w78.cell? ⟨w53.heap.size,0,none⟩=some (I gn):=blk_cell HM79.out.tail.tail.tail.head 0
   have bg_1:w78.cell? ⟨w53.heap.size,1,none⟩=some (.slice Ag gl.length cg):=blk_cell HM79.out.tail.tail.tail.head 1
   go_wp2_with fail
   clear bg_0 bg_1
   refine(HQ.out.1 w78 Ag cg (Row.slice HM79.out.tail.tail.tail.tail.head).2.2 (Row.slice HM79.out.tail.tail.tail.tail.head).2.1).mono ?_
   rintro e w81 ⟨vy1,rfl,hRy1,hG81⟩
   obtain ⟨Ay1,cy1,rfl⟩:=Kd.R_slice hRy1
   have HM81:=Aside0.mk (Mem.cons (it:= .row w78.heap.size w81.heap.size (.slice Ay1 fx.length cy1) fx) (Row.of_R hRy1) (HM79.out.grew hG81))
   have HG81:=Aside0.mk (Grew.trans HG79.out hG81)
   clear hG81 HM79 HG79 hRy1
   have bmi_0:w81.cell? ⟨w55.heap.size,0,none⟩=some (I mn):=blk_cell HM81.out.tail.tail.head 0
   have bmi_1:w81.cell? ⟨w55.heap.size,1,none⟩=some (.slice Ami ml.length cmi):=blk_cell HM81.out.tail.tail.head 1
   go_wp2_with fail
   clear bmi_0 bmi_1
   refine(HQ.out.2 w81 Ami cmi (Row.slice HM81.out.tail.tail.tail.head).2.2 (Row.slice HM81.out.tail.tail.tail.head).2.1).mono ?_
   rintro e w82 ⟨vy2,rfl,hRy2,hG82⟩
   obtain ⟨Ay2,cy2,rfl⟩:=Kd.R_slice hRy2
   have HM82:=Aside0.mk (Mem.cons (it:= .row w81.heap.size w82.heap.size (.slice Ay2 fx.length cy2) fx) (Row.of_R hRy2) (HM81.out.grew hG82))
   have HG82:=Aside0.mk (Grew.trans HG81.out hG82)
   clear hG82 HM81 HG81 hRy2
   go_wp2_with fail
   refine(likeI_calls fx Ay1 Ay2 cy1 cy2 _ _ _ _ _ _ w82 HM82.out.tail.head HM82.out.head (by omega)).mono ?_
   rintro e w83 ⟨rfl,hG83⟩
   have HM83:=Aside0.mk (HM82.out.grew hG83)
   have HG83:=Aside0.mk (Grew.trans HG82.out hG83)
   clear hG83 HM82 HG82
   go_wp2_with fail
   have HM84:=Aside0.mk (Mem.cons (it:= .row W60.heap.size w61.heap.size (.slice Aoi ol.length coi) ol) HM83.out.tail.tail.head (Mem.cons (it:= .box (w55.heap.size) 26 #[I mn,.slice Ami ml.length cmi]) HM83.out.tail.tail.tail.head (Mem.cons (it:= .row W54.heap.size w55.heap.size (.slice Ami ml.length cmi) ml) HM83.out.tail.tail.tail.tail.head (Mem.cons (it:= .box (w53.heap.size) 26 #[I gn,.slice Ag gl.length cg]) HM83.out.tail.tail.tail.tail.tail.head (Mem.cons (it:= .row w48.heap.size w53.heap.size (.slice Ag gl.length cg) gl) HM83.out.tail.tail.tail.tail.tail.tail.head (Mem.nil w83))))))
   have HG84:=HG83
   clear HM83 HG83
   go_meet
   exact⟨HM84,HG84⟩
  ·have hcb:(mc == 0)=false:=by simp [hc]
   go_wp2_with fail
   go_meet
   exact⟨HM79,HG79⟩
 obtain ⟨HM80,HG80⟩:=hcut
 clear HM79 HG79
 generalize wc=w80 at *
 as_aux_lemma=>
 have HM85:=Aside0.mk (Mem.cons (it:= .row W60.heap.size w61.heap.size (.slice Aoi ol.length coi) ol) HM80.out.head (Mem.nil w80))
 have HG85:=HG80
 clear HM80 HG80
 go_wp2_with fail
 go_loopg [64] ol.length (fun gg s64 wr=>∃ i:Nat,i≤ol.length∧ol.length - i≤gg∧s64=I i∧Aside0 (Mem wr [.row W60.heap.size w61.heap.size (.slice Aoi ol.length coi) ol])∧Aside0 (Grew w wr))
 case atStart=>exact⟨0,Nat.zero_le _,by omega,rfl,HM85,HG85⟩
 case round=>
  obtain ⟨i,hi,hg,rfl,HM86,HG86⟩:=hrel
  clear HM85 HG85
  as_aux_lemma=>
  by_cases hlt:i<ol.length
  ·have hltz:(i:Int)<(ol.length:Int):=by omega
   go_wp2_with fail
   go_loopg [65] i (fun gg s65 ws=>∃ j:Nat,j≤i∧i - j≤gg∧s65=I j∧Aside0 (Mem ws [.row W60.heap.size w61.heap.size (.slice Aoi ol.length coi) ol])∧Aside0 (Grew w ws))
   case atStart=>exact⟨0,Nat.zero_le _,by omega,rfl,HM86,HG86⟩
   case round=>
    obtain ⟨j,hj,hgj,rfl,HM87,HG87⟩:=hrel
    clear HM86 HG86
    as_aux_lemma=>
    by_cases hltj:j<i
    ·have hltk:(j:Int)<(i:Int):=by omega
     have hltj2:(j:Int)<(ol.length:Int):=by omega
     obtain ⟨ad,e0,hx⟩:=Kd.at_int (Row.slice HM87.out.head).2.2 (i:Int) (by omega) (by omega)
     obtain ⟨ad',e1,hx'⟩:=Kd.at_int (Row.slice HM87.out.head).2.2 (j:Int) (by omega) (by omega)
     rw[e0] at e1
     injection e1 with e1
     subst e1
     have hrd:rd ol (i:Int)=ol[i]:=by simp [rd,hlt]
     have hrd':rd ol (j:Int)=ol[j]'(by omega):=by simp [rd,show j<ol.length by omega]
     rw[hrd,Int.toNat_natCast] at hx
     rw[hrd',Int.toNat_natCast] at hx'
     have hz:=HPo.out i j hlt hltj
     obtain ⟨y,hy⟩:∃ y,y=ol[i]:=⟨_,rfl⟩
     obtain ⟨y',hy'⟩:∃ y,y=ol[j]'(by omega):=⟨_,rfl⟩
     rw[← hy,← hy'] at hz
     have hzb:(Go.bits .and .i64 y y' != 0)=false:=by rw[hz];rfl
     rw[← hy] at hx
     rw[← hy'] at hx'
     clear hrd hrd' hy hy'
     subst e0
     have hlx:=World.block_lt_of_cell? wr _ hx
     have hlx':=World.block_lt_of_cell? wr _ hx'
     go_upto_region 65 with fail
     refine start_ (n:=10) (S:=fun w'=>w'.cell? (ad.add i)=some (I y)∧w'.cell? (ad.add j)=some (I y')) (ds:= []) (ar 0 10) (by kernel_rfl) rfl rfl ⟨(Below.cell (w:=wr) (below_drew (Grew.refl wr)) (p:=ad.add i) hlx).trans hx,(Below.cell (w:=wr) (below_drew (Grew.refl wr)) (p:=ad.add j) hlx').trans hx'⟩ (fun hHeld=>?_)
     generalize hwd:wr.drew=w88 at hHeld ⊢
     have hG88:Grew wr w88:=by rw[← hwd];exact below_drew (Grew.refl wr)
     have HL:=Aside0.mk hG88
     clear hwd
     have HM88:=Aside0.mk (HM87.out.grew hG88)
     have HG88:=Aside0.mk (Grew.trans HG87.out hG88)
     clear hG88 HM87 HG87
     refine pu0 0 (some 445) (ar 1 9) ?_
     refine pu0 1 (some 446) (ar 2 8) ?_
     refine pu0 2 (some 447) (ar 3 7) ?_
     refine pu0 4 (some 449) #[U,U,U,O,U,O,O,O,O,O] ?_
     refine pu0 5 (some 450) #[U,U,U,O,U,U,O,O,O,O] ?_
     refine pu0 6 (some 451) #[U,U,U,O,U,U,U,O,O,O] ?_
     refine tk0 3 (some 448) (ar 7 3) hHeld ?_
     refine tk0 7 (some 452) (ar 8 2) hHeld ?_
     refine pu0 8 (some 453) (ar 9 1) ?_
     refine pu0 9 (some 454) (ar 10 0) ?_
     refine done_ (by kernel_rfl) ?_
     clear HL hHeld
     clear hz hx hx' hlx hlx'
     go_wp2_with fail
     clear hzb
     go_roundg (i - (j+1))
     case measure=>omega
     case rel=>exact⟨j+1,by omega,by omega,by go_num,HM88,HG88⟩
    ·have hltk:¬ ((j:Int)<(i:Int)):=by omega
     go_wp2_with fail
     go_roundg (ol.length - (i+1))
     case measure=>omega
     case rel=>exact⟨i+1,by omega,by omega,by go_num,HM87,HG87⟩
  ·have hltz:¬ ((i:Int)<(ol.length:Int)):=by omega
   go_wp2_with fail
   go_ret
   exact⟨rfl,HG86.out⟩
end Go.Proofs.YtlhkdbkjafiikaaGreat.K
end

section
namespace Go.Proofs.YtlhkdbkjafiikaaGreat.K
open Go.RowKit Go.Shelf Go.Proofs.YtlhkdbkjafiikaaGreatW.PrintWords Go.Proofs.YtlhkdbkjafiikaaGreatW.PrintLast Go.Proofs.YtlhkdbkjafiikaaGreatW.PrintMore
set_option linter.unusedVariables false
set_option linter.unusedSimpArgs false
def upTo (m:Nat):List Int:=(List.range m).map fun i:Nat=>(i:Int)+1
theorem upTo_succ (m:Nat):upTo (m+1)=upTo m ++ [(m:Int)+1]:=by simp [upTo,List.range_succ]
def thoseL (n:Int) (p:Int→Bool):List Int:=(upTo (2 ^ n.toNat - 1)).filter p
theorem upTo_filter_length (p:Int→Bool) (m:Nat):((upTo m).filter p).length≤m:=by
 have:=List.length_filter_le p (upTo m)
 simpa [upTo] using this
end Go.Proofs.YtlhkdbkjafiikaaGreat.K
end

section
namespace Go.Proofs.YtlhkdbkjafiikaaGreat.K
open Go.RowKit Go.Shelf Go.Proofs.YtlhkdbkjafiikaaGreat.Q Go.Proofs.YtlhkdbkjafiikaaGreatW.PrintWords Go.Proofs.YtlhkdbkjafiikaaGreatW.PrintLast Go.Proofs.YtlhkdbkjafiikaaGreatW.PrintMore
set_option linter.unusedVariables false
set_option linter.unusedSimpArgs false
def inB (f g:Int):Bool:=Go.bits .andNot .i64 f g == 0
theorem isIn_calls (f g:Int) (w:World):Calls Tryz.prog 64 #[I f,I g] w fun e w'=>e = .returned (.bool (inB f g))∧Grew w w':=
 (impl_isIn.calls f g (inB f g) w rfl).mono fun e w' ⟨he,hd⟩=>⟨he,hd.below⟩
end Go.Proofs.YtlhkdbkjafiikaaGreat.K
end

section
namespace Go.Proofs.YtlhkdbkjafiikaaGreat.K
open Go.RowKit Go.Shelf Go.Proofs.YtlhkdbkjafiikaaGreatW.PrintWords Go.Proofs.YtlhkdbkjafiikaaGreatW.PrintLast Go.Proofs.YtlhkdbkjafiikaaGreatW.PrintMore
set_option linter.unusedVariables false
set_option linter.unusedSimpArgs false
theorem or_64:∀ a b:Fin 64,Go.bits .or .i64 (a.val:Int) (b.val:Int)=Go.bits .or .i64 (b.val:Int) (a.val:Int):=by decide +kernel
theorem and_64:∀ a b:Fin 64,Go.bits .and .i64 (a.val:Int) (b.val:Int)=Go.bits .and .i64 (b.val:Int) (a.val:Int):=by decide +kernel
theorem inB_64:∀ a b:Fin 64,inB (a.val:Int) (b.val:Int)=decide (Go.bits .and .i64 (a.val:Int) (b.val:Int)=(a.val:Int)):=by decide +kernel
theorem small2 {P:Int→Int→Prop} (h:∀ a b:Fin 64,P (a.val:Int) (b.val:Int)) (x y:Int) (hx:0≤x∧x≤63) (hy:0≤y∧y≤63):P x y:=by
 obtain ⟨m,rfl⟩:=Int.eq_ofNat_of_zero_le hx.1
 obtain ⟨k,rfl⟩:=Int.eq_ofNat_of_zero_le hy.1
 exact h ⟨m,by omega⟩ ⟨k,by omega⟩
theorem or_comm' (x y:Int) (hx:0≤x∧x≤63) (hy:0≤y∧y≤63):Go.bits .or .i64 x y=Go.bits .or .i64 y x:=small2 (P:=fun x y=>Go.bits .or .i64 x y=Go.bits .or .i64 y x) or_64 x y hx hy
theorem and_comm' (x y:Int) (hx:0≤x∧x≤63) (hy:0≤y∧y≤63):Go.bits .and .i64 x y=Go.bits .and .i64 y x:=small2 (P:=fun x y=>Go.bits .and .i64 x y=Go.bits .and .i64 y x) and_64 x y hx hy
theorem inB_is (x y:Int) (hx:0≤x∧x≤63) (hy:0≤y∧y≤63):inB x y=decide (Go.bits .and .i64 x y=x):=small2 (P:=fun x y=>inB x y=decide (Go.bits .and .i64 x y=x)) inB_64 x y hx hy
end Go.Proofs.YtlhkdbkjafiikaaGreat.K
end
