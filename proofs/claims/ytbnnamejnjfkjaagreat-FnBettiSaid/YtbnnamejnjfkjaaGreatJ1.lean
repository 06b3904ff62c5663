/- Texts of this work, put together by its pack.py. No conditions. -/
import Derived.Test.YtbnnamejnjfkjaaGreatJ0
import Derived.JoinedOf
import Derived.Below
import Derived.Deep.Draws
import Derived.Deep.AppendLies
import Derived.Maps.AppendAt
import Derived.OwnWalk
import Derived.Laws.BytesArg
import Derived.Laws.MakeOwn
import Derived.Laws.OwnMore
import Derived.Deep.OwnRows
import Derived.Tactics
import Derived.Lib.ConvBytes
import Derived.Laws.Slices
import Derived.WalkKit
import Derived.KernelRfl
import Derived.RowKit3
import Derived.Deep.LoopGhost
import Derived.Deep.QuietTactic
import Derived.BigQuiet
import Derived.WideLaws
import Derived.Deep.DeepCutAuto
import Derived.Deep.CutBlock
import Derived.Deep.RegionHeld3
import Derived.Laws.Rows
import Derived.Lib.AppendStr
import Derived.ArgAppend
import Derived.Laws.IdiomCopy
import Derived.RowKit
import Derived.OrdersHeld
import Derived.Laws.BitsLemmas
import Derived.Test.YtbnnamejnjfkjaaGreatProg
import Derived.Shelf.Abstract
import Derived.Test.YtbnnamejnjfkjaaGreatRows
import Derived.ProofKit
import Derived.OpenShut
import Derived.ShutString
import Derived.ChangeOld
import Derived.SizedLaws
import Derived.Lib.SmallJoins
import Derived.Laws.StructEq
import Derived.RangeFuncBox
import Derived.RangeFuncLeaves
import Derived.OwnWalkIn
import Derived.TacticsInMore
import Derived.LoopNIn
import Derived.LoopIn
import Derived.Deep.CutRange
section
namespace Go.Proofs.YtbnnamejnjfkjaaGreat.K
open Go
theorem signs_take (n:Nat) (l:List Char) (h:(l.take n).all (fun c=>!(c == Char.ofNat 32))=true) (h2:l[n]?=some (Char.ofNat 32)):wordsSigns l=l.take n :: wordsSigns (l.drop (n+1)):=by
 induction n generalizing l with
 |zero=>cases l with
  |nil=>simp at h2
  |cons c r=>
   obtain rfl:c=Char.ofNat 32:=by simpa using h2
   simp [wordsSigns]
 |succ n ih=>cases l with
  |nil=>simp at h2
  |cons c r=>
   have hc:c≠Char.ofNat 32:=by simp at h;exact h.1
   have h3:wordsSigns r=r.take n :: wordsSigns (r.drop (n+1)):=ih r (by simp at h ⊢;exact h.2) (by simpa using h2)
   rw[wordsSigns.eq_def]
   split
   ·rename_i h;cases h
   ·rename_i h;exact absurd (List.cons.inj h).1 hc
   ·rename_i _ h;obtain ⟨rfl,rfl⟩:=List.cons.inj h
    rw[h3];rfl
theorem strip (r):stripLifts liftWords ("cut".toList :: r)=([], "cut".toList :: r):=by kernel_rfl
theorem cut_enter (P:Program) (r) (h:behindMainWord (wordsSigns P.initOrder.toList) = "cut".toList :: r) (h1:P.laysLater=false) (h2:P.bearsReflect=false) (h3:P.doorFits []=true):P.mayEnter=true:=by
 unfold Program.mayEnter
 rw[h]
 simp only [strip,h1,h2,h3]
 kernel_rfl
theorem cut_make (P:Program) (r) (h:behindMainWord (wordsSigns P.initOrder.toList) = "cut".toList :: r):P.make=some .cut:=by
 unfold Program.make
 rw[h]
 kernel_rfl
theorem cut_lifts (P:Program) (r) (h:behindMainWord (wordsSigns P.initOrder.toList) = "cut".toList :: r):P.liftsFinal=false:=by
 unfold Program.liftsFinal Program.headLifts
 simp only [h,strip]
 kernel_rfl
end Go.Proofs.YtbnnamejnjfkjaaGreat.K
end

section
namespace Go.Proofs.YtbnnamejnjfkjaaGreat.K
open Go.RowKit Go.Shelf Go.Proofs.YtbnnamejnjfkjaaGreatW.PrintWords Go.Proofs.YtbnnamejnjfkjaaGreatW.PrintLast Go.Proofs.YtbnnamejnjfkjaaGreatW.PrintMore
abbrev I (x:Int):Value:= .int .i64 x
abbrev Ki:Kd Int:=Kd.int .i64
abbrev Grew (w w':World):Prop:=Below w.heap.size w w'
theorem Grew.trans {a b c:World} (h:Grew a b) (k:Grew b c):Grew a c:=Below.trans h (k.mono h.size)
theorem Grew.refl (a:World):Grew a a:=Below.refl _ _
abbrev EntersG (g:Nat):Prop:=∀(args:Array Value) (W:World),(callFunc g args).run Tryz.prog W = .ok (.enter g args) W
def Answers (w:World) (g:Nat) (args:Array Value) (r:Value):Prop:=
 ∀ W,Grew w W→Calls Tryz.prog g args W fun e w'=>e = .returned r∧Grew W w'
theorem Answers.later {w w1:World} {g:Nat} {args:Array Value} {r:Value} (h:Answers w g args r) (hb:Grew w w1):Answers w1 g args r:=
 fun W hW=>h W (hb.trans hW)
end Go.Proofs.YtbnnamejnjfkjaaGreat.K
end

section
namespace Go.Proofs.YtbnnamejnjfkjaaGreat.K
open Go.RowKit Go.Shelf Go.Proofs.YtbnnamejnjfkjaaGreatW.PrintWords Go.Proofs.YtbnnamejnjfkjaaGreatW.PrintLast Go.Proofs.YtbnnamejnjfkjaaGreatW.PrintMore
open Go.ChangeShapes Go.WideShapes Go.ChangeAt Go.Joins
set_option linter.unusedVariables false
set_option linter.unusedSimpArgs false
theorem laidOut:laidOutB Tryz.prog=true:=by kernel_rfl
theorem ownKnob_none:ownKnob Tryz.prog.godebug=none:=by kernel_rfl
end Go.Proofs.YtbnnamejnjfkjaaGreat.K
end

section
namespace Go.Proofs.YtbnnamejnjfkjaaGreat.K
open Go.RowKit Go.Shelf Go.Proofs.YtbnnamejnjfkjaaGreatW.PrintWords Go.Proofs.YtbnnamejnjfkjaaGreatW.PrintLast Go.Proofs.YtbnnamejnjfkjaaGreatW.PrintMore
open Go.ChangeShapes Go.WideShapes Go.ChangeAt Go.Joins
set_option linter.unusedVariables false
set_option linter.unusedSimpArgs false
theorem bytes_open {H:Type} {enc:TypeId×Value→H} {W:World} {fuel:Nat} {v:Value} {x:DataW H×List MemPlace} (h:DataW.trod enc Tryz.prog W 0 (fun _=>true) true fuel 22 [v]=some x) :
  ∃ A c l,v = .slice A l.length c∧l.length≤c∧Kd.C (Kd.int .u8) W A l.length l∧∀ n ∈ l,(Lit.int .u8 n).wf=true:=by
 rcases open_ints Tryz.underlying22 Tryz.underlying5 (by kernel_rfl) h with ⟨hcs,_⟩|⟨a,len,cap,zs,hcs,_,hl,hm,hz,_,hcell,hwz⟩
 ·simp at hcs
  subst hcs
  exact⟨none,0,[],rfl,by simp,Kd.C_nil _ _,by simp⟩
 ·simp at hcs hz
  subst hcs
  unfold maxLen at hm
  have hlen:(zs.take len).length=len:=by simp;omega
  refine⟨some a,cap,zs.take len,by rw[hlen],by rw[hlen];exact hl,?_,fun n hn=>hwz n (List.mem_of_mem_take hn)⟩
  refine Kd.C_of_reads (d:=(0:Int)) ⟨rfl,by rw[hlen];omega,fun h0=>⟨a,rfl,fun j hj=>?_⟩⟩
  rw[hlen] at hj
  rw[hcell j (by omega)]
  simp [hj]
end Go.Proofs.YtbnnamejnjfkjaaGreat.K
end

section
namespace Go.Proofs.YtbnnamejnjfkjaaGreatW.PrintMore
open Go.RowKit Go.Proofs.YtbnnamejnjfkjaaGreatW.PrintWords Go.Proofs.YtbnnamejnjfkjaaGreatW.PrintLast
set_option linter.unusedVariables false
abbrev U:Bool:=true
abbrev O:Bool:=false
abbrev ar (k n:Nat):Array Bool:=(List.replicate k true ++ List.replicate n false).toArray
theorem hh_ {A B C:Type} {p:A→B→C→Prop}:∀ a b c,p a b c→p a b c:=fun _ _ _ h=>h
theorem nm_:(∀(a:Act) (d:Tmp) (v:Value),a.put (some d) v={ a with tmps:=a.tmps.setIfInBounds d v })∧(∀(a:Act) (v:Value),a.put none v=a)∧(∀(l:List Value) (i:Nat) (v:Value),l.toArray.setIfInBounds i v=(l.set i v).toArray)∧(∀(x v:Value) (l:List Value),(x :: l).set 0 v=v :: l)∧(∀(x v:Value) (l:List Value) (i:Nat),(x :: l).set (i+1) v=x :: l.set i v)∧(∀ n:Int,IntKind.i64.wrap n=wrap64 n)∧(∀ n:Int,IntKind.i32.wrap n=wrap32 n):=
⟨fun _ _ _=>rfl,fun _ _=>rfl,fun l i v=>by simp,fun _ _ _=>rfl,fun _ _ _ _=>rfl,i64_w,i32_w⟩
theorem bk {a b:World} {g:Nat} {o:Obj} (h:a.heap[g]?=some o) (k:a.heap[g]?=some o→b.heap[g]?=some o:=by intro h_;(with_reducible repeat(first|refine blk_drewN ?_ _|refine blk_drew ?_|refine blk_alloc ?_ _));exact h_):b.heap[g]?=some o:=k h
theorem bl {B:Nat} {w a b:World} (h:Below B w a) (k:Below B w a→Below B w b:=by intro h_;repeat(first|(with_reducible first|exact h_|apply below_alloc|apply pw_below_drewN|apply below_drew1|refine below_set ?_ (Aside0.out (by assumption)))|exact h_)):Below B w b:=k h
theorem blg {B C:Nat} {w a b:World} (h:Below B w a) (hg:B≤C) (k:Below B w a→B≤C→Below B w b:=by intro h_ hg_;repeat(first|(with_reducible first|exact h_|apply below_alloc|apply pw_below_drewN|apply below_drew1|refine below_set ?_ hg_|refine below_set ?_ (Aside0.out (by assumption)))|exact h_)):Below B w b:=k h hg
theorem kr {α:Type} {d:Kd α} {e base:Nat} {ok:Nat→Prop} {a b:World} {v:Value} {xs:List α} (h:d.R e a base ok v xs) (k:d.R e a base ok v xs→d.R e b base ok v xs:=by intro h_;(with_reducible repeat(first|apply Kd.R_alloc|apply Kd.R_drewN|apply Kd.R_drew));exact h_):d.R e b base ok v xs:=k h
theorem cb {α:Type} {d:Kd α} {a b:World} {A:Option Addr} {n:Nat} {xs:List α} (h:d.C a A n xs) (k:d.C a A n xs→d.C b A n xs:=by intro h_;repeat(first|exact h_|(with_reducible refine Kd.C_alloc ?_ _)|(with_reducible refine Kd.C_drewN ?_ _)|(with_reducible refine Kd.C_drew ?_))):d.C b A n xs:=k h
theorem kp {w a b:World} {g:Nat} {r:Option Nat} (h:KeepBut w a g r) (k:KeepBut w a g r→KeepBut w b g r:=by intro h_;repeat(first|(with_reducible first|exact h_|apply KeepBut.set_|apply keep_drewN|apply keep_drew|apply keep_alloc|refine keep_far ?_ (Aside0.out (by assumption)) _)|exact h_)):KeepBut w b g r:=k h
theorem bkA {a b c:World} {g:Nat} {o:Obj} (h:Aside0 (a.heap[g]?=some o)) (hb:Below b.heap.size b c) (k:a.heap[g]?=some o→b.heap[g]?=some o:=by intro h_;(with_reducible repeat(first|refine blk_drewN ?_ _|refine blk_drew ?_|refine blk_alloc ?_ _));exact h_):Aside0 (c.heap[g]?=some o):=⟨blk_below (k h.out) hb⟩
theorem bsA {w a b c:World} (h:Aside0 (Below w.heap.size w a)) (hb:Below b.heap.size b c) (k:Below w.heap.size w a→Below w.heap.size w b:=by intro h_;repeat(first|(with_reducible first|exact h_|apply below_alloc|apply pw_below_drewN|apply below_drew1|refine below_set ?_ (Aside0.out (by assumption)))|exact h_)):Aside0 (Below w.heap.size w c):=⟨below_step (k h.out) hb⟩
theorem gzA {w a b:World} {g:Nat} (hg:g=b.heap.size) (h:Aside0 (Below w.heap.size w a)) (k:Below w.heap.size w a→Below w.heap.size w b:=by intro h_;repeat(first|(with_reducible first|exact h_|apply below_alloc|apply pw_below_drewN|apply below_drew1|refine below_set ?_ (Aside0.out (by assumption)))|exact h_)):Aside0 (w.heap.size≤g):=⟨hg ▸ below_size (k h.out)⟩
theorem nlA {a b:World} {g g':Nat} {o:Obj} (hg:g'=b.heap.size) (h:Aside0 (a.heap[g]?=some o)) (k:a.heap[g]?=some o→b.heap[g]?=some o:=by intro h_;(with_reducible repeat(first|refine blk_drewN ?_ _|refine blk_drew ?_|refine blk_alloc ?_ _));exact h_):Aside0 (g≠g'):=⟨hg ▸ Nat.ne_of_lt (blk_lt (k h.out))⟩
theorem ngA {a b:World} {g g':Nat} {o:Obj} (hg:g'=b.heap.size) (h:Aside0 (a.heap[g]?=some o)) (k:a.heap[g]?=some o→b.heap[g]?=some o:=by intro h_;(with_reducible repeat(first|refine blk_drewN ?_ _|refine blk_drew ?_|refine blk_alloc ?_ _));exact h_):Aside0 (g'≠g):=⟨hg ▸ Nat.ne_of_gt (blk_lt (k h.out))⟩
theorem krA {α:Type} {d:Kd α} {e base:Nat} {ok:Nat→Prop} {a b c:World} {v:Value} {xs:List α} (h:Aside0 (d.R e a base ok v xs)) (hb:Below b.heap.size b c) (k:d.R e a base ok v xs→d.R e b base ok v xs:=by intro h_;(with_reducible repeat(first|apply Kd.R_alloc|apply Kd.R_drewN|apply Kd.R_drew));exact h_):Aside0 (d.R e c base ok v xs):=⟨Kd.R_below (k h.out) hb⟩
theorem klA {α:Type} {d:Kd α} {e:Nat} {ok:Nat→Prop} {w a b c:World} {v:Value} {xs:List α} (ho:d.R e c b.heap.size ok v xs) (h:Aside0 (Below w.heap.size w a)) (k:Below w.heap.size w a→Below w.heap.size w b:=by intro h_;repeat(first|(with_reducible first|exact h_|apply below_alloc|apply pw_below_drewN|apply below_drew1|refine below_set ?_ (Aside0.out (by assumption)))|exact h_)):Aside0 (d.R e c w.heap.size ok v xs):=⟨Kd.R_lower ho (below_size (k h.out))⟩
theorem blk_pu {w:World} {g i:Nat} {u:Value} {t:TypeId} {cs cs':Array Value} (h:w.heap[g]?=some (.cells cs t (0,0))) (e:cs.setIfInBounds i u=cs'):(w.setCell ⟨g,i,none⟩ u).heap[g]?=some (.cells cs' t (0,0)):=blk_put h i u e
theorem blk_fa {w:World} {g:Nat} {t:TypeId} {cs:Array Value} {p:Addr} {u:Value} (hp:Aside0 (g≠p.block)) (h:w.heap[g]?=some (.cells cs t (0,0))):(w.setCell p u).heap[g]?=some (.cells cs t (0,0)):=blk_far h hp.out u
theorem bp {a b:World} {g:Nat} {t:TypeId} {cs cs':Array Value} (h:a.heap[g]?=some (.cells cs t (0,0))) (k:a.heap[g]?=some (.cells cs t (0,0))→b.heap[g]?=some (.cells cs' t (0,0)):=by intro h_;repeat(first|(with_reducible exact h_)|(with_reducible refine blk_drewN ?_ _)|(with_reducible refine blk_drew ?_)|(with_reducible refine blk_alloc ?_ _)|(apply blk_fa;assumption)|apply blk_pu|rfl|exact h_)):b.heap[g]?=some (.cells cs' t (0,0)):=k h
theorem kt {w a b:World} {S:Nat→Prop} (h:Kept w a S) (k:Kept w a S→Kept w b S:=by intro h_;repeat(first|(with_reducible first|exact h_|apply Kept.alloc|apply Kept.drewN|apply Kept.drew|refine Kept.setCell ?_ (.inl (.inr rfl)) _|refine Kept.setCell ?_ (.inr (Aside0.out (by assumption))) _)|exact h_)):Kept w b S:=k h
theorem kbk {w w1:World} {g g':Nat} {o:Obj} (hk:KeepBut w w1 g none) (h:w.heap[g']?=some o) (hne:g'≠g):w1.heap[g']?=some o:=KeepBut.blk hk h hne (by simp)
theorem z0_ {w:World} {g t:Nat} {x y:Value} (h:Aside0 (w.heap[g]?=some (.cells #[x,y] t (0,0)))):w.cell? ⟨g,0,none⟩=some x:=(blk_cell h.out 0).trans rfl
theorem z1_ {w:World} {g t:Nat} {x y:Value} (h:Aside0 (w.heap[g]?=some (.cells #[x,y] t (0,0)))):w.cell? ⟨g,1,none⟩=some y:=(blk_cell h.out 1).trans rfl
theorem hf_ {w:World} {g t:Nat} {cs:Array Value} (h:Aside0 (w.heap[g]?=some (.cells cs t (0,0)))) (i:Nat):w.frozen? ⟨g,i,none⟩=false:=blk_frozen h.out i
theorem rr {α:Type} {a b:α} (h:a=b:=by first|rfl|(simp [errW_none,errW_some] <;> rfl)|(simp [*,errW_none,errW_some] <;> rfl)):a=b:=h
theorem rs {α:Type} {a b:α} (h:a=b:=by first|rfl|(simp;done)|(simp [*];done)):a=b:=h
theorem dd {p:Prop} [Decidable p] (h:decide p=true:=by first|(with_reducible assumption)|assumption):p:=of_decide_eq_true h
theorem hx_ {w a b:World} {p:Addr} {v:Value} (h:Aside0 (Below w.heap.size w a)) (hw:w.cell? p=some v) (e:b.cell? p=a.cell? p:=by rfl):b.cell? p=some v:=e.trans ((h.out.cell (World.block_lt_of_cell? w _ hw)).trans hw)
section
variable {P : Program} {ops : Array Oper} {rest : List Oper} {o : Oper} {a : Act} {Q : Exit → Act → World → Prop} {W : World}
theorem gd (N:Tmp) (h:wpList P ops Q (o :: rest) a W) (hN:o.dst=some N:=by rfl):wpList P ops Q (o :: rest) a W:=h
theorem bx (N:Tmp) (cs:Array Value) (t:TypeId)
  (h:∀ g,g=W.heap.size→∀ w1,w1.heap[g]?=some (.cells cs t (0,0))→Below W.heap.size W w1→wpList P ops Q rest (a.put o.dst (.pointer (some ⟨g,0,none⟩))) w1)
  (hd:o.dst=some N:=by rfl) (hg:o.guard=none:=by rfl)
  (hr:(execOp a.eval o).run P W = .ok (.value (.pointer (some ⟨W.heap.size,0,none⟩))) (W.alloc (.cells cs t (0,0))):=by first|(go_simp;done)|(go_simp;rfl)):wpList P ops Q (o :: rest) a W:=box_event hg hd hr h
theorem gl (N:Option Tmp) {f:FuncId} {fn:Func} {as_:Array Operand} {ts:Array TypeId} (hf:P.funcs[f]?=some fn) (args:Array Value)
  (h:Calls P f args W fun e w'=>∃ v,e = .returned v∧wpList P ops Q rest (a.put N v) w')
  (hd:o.dst=N:=by rfl) (hg:o.guard=none:=by rfl) (hop:o.op = .call { callee:= .value (.func f),args:=as_,argTypes:=ts }:=by exact rfl)
  (hname:(fn.name == "runtime.NumGoroutine")=false:=by kernel_rfl) (hb:fn.body.isSome=true:=by rfl)
  (hargs:as_.map a.eval=args:=by(try simp only [List.map_toArray,List.map_cons,List.map_nil]);first|done|rfl|(simp only [List.length_drop,List.length_take];rfl)):wpList P ops Q (o :: rest) a W:=goesL_ N hd hg hf hname hb args hop hargs h
theorem gr {K:Act→World→Prop} {N:Option Tmp} {f:FuncId} {fn:Func} {as_:Array Operand} {ts:Array TypeId} (hf:P.funcs[f]?=some fn) (args:Array Value)
  (h:Calls P f args W fun e w'=>∃ v,e = .returned v∧K (a.put N v) w')
  (hN:o.dst=N:=by rfl) (hop:o.op = .call { callee:= .value (.func f),args:=as_,argTypes:=ts }:=by exact rfl) (hw:Region.wanted o (yielded ops a.tmps)=true:=by rfl)
  (hname:(fn.name == "runtime.NumGoroutine")=false:=by kernel_rfl) (hb:fn.body.isSome=true:=by rfl)
  (hargs:as_.map a.eval=args:=by(try simp only [List.map_toArray,List.map_cons,List.map_nil]);first|done|rfl|(simp only [List.length_drop,List.length_take];rfl)):if Region.wanted o (yielded ops a.tmps)=true then Oper.wp P o a W K Q else K (a.put N undef) W:=goes_ hf hname hb args hw hN hop hargs h
end
section
variable {P : Program} {ops : Array Oper} {Q : Exit → Act → World → Prop} {md : Region.Mode} {S : World → Prop} {ds : List Nat} {T : Bool × List (List Nat × List Nat)} {B : List Nat} {oi : Oper} {v : Value} {fuel : Nat} {l : Array Bool} {a a' : Act} {w : World}
theorem pu (i:Nat) (N:Option Tmp) (l':Array Bool) (hT:Aside0 (rtab md ops=T)) (h:wpAnyLast P md ops Q S ds fuel l' a' w)
  (hi:ops[i]?=some oi:=by exact rfl) (hN:oi.dst=N:=by rfl) (hc:anyT T l.toList l'.toList i=true:=by kernel_rfl) (hQ:∀ c a w,Q (.panic c) (a.put oi.dst v) w→Q (.panic c) a w:=by exact hh_) (hw:Region.wanted oi (yielded ops a.tmps)=true:=by rfl)
  (hv:∀ w',(execOp a.eval oi).run P w' = .ok (.value v) w':=by intro w';go_simp;with_reducible rfl) (ha:a.put N v=a':=by simp only [nm_];rfl):wpAnyLast P md ops Q S ds (fuel+1) l a w:=pure_ l' hi hN (any_of hT.out hc) hQ (Or.inl ⟨hw,hv⟩) ha h
theorem pv (i:Nat) (N:Option Tmp) (l':Array Bool) (hT:Aside0 (rtab md ops=T)) (h:wpAnyLast P md ops Q S ds fuel l' a' w)
  (hi:ops[i]?=some oi:=by exact rfl) (hN:oi.dst=N:=by rfl) (hc:anyT T l.toList l'.toList i=true:=by kernel_rfl) (hQ:∀ c a w,Q (.panic c) (a.put oi.dst undef) w→Q (.panic c) a w:=by exact hh_) (hw:Region.wanted oi (yielded ops a.tmps)=false:=by rfl)
  (ha:a.put N undef=a':=by simp only [nm_];rfl):wpAnyLast P md ops Q S ds (fuel+1) l a w:=pure_ l' hi hN (any_of hT.out hc) hQ (Or.inr ⟨hw,rfl⟩) ha h
theorem tk (i:Nat) (N:Option Tmp) (l':Array Bool) (hT:Aside0 (rtab md ops=T)) (hB:Aside0 (waitsOk T.2 B=true)) (hS:S w) (h:wpAnyLast P md ops Q S ds fuel l' a' w)
  (hi:ops[i]?=some oi:=by exact rfl) (hN:oi.dst=N:=by rfl) (hc:takeW T B ds l.toList l'.toList i=true:=by kernel_rfl) (hQ:∀ c a w,Q (.panic c) (a.put oi.dst v) w→Q (.panic c) a w:=by exact hh_) (hw:Region.wanted oi (yielded ops a.tmps)=true:=by rfl)
  (hv:∀ w',S w'→(execOp a.eval oi).run P w' = .ok (.value v) w':=by intro w' hs_;repeat(have hl_:=And.left hs_;replace hs_:=And.right hs_);go_simp;with_reducible rfl) (ha:a.put N v=a':=by simp only [nm_];rfl):wpAnyLast P md ops Q S ds (fuel+1) l a w:=take_ l' hi hN (take_ofW hT.out hB.out hc) hQ (Or.inl ⟨hw,hv⟩) hS ha h
theorem on_ (i:Nat) (N:Option Tmp) (l':Array Bool) (hT:Aside0 (rtab md ops=T))
  (h:∀ K:Act→World→Prop,Shut (∀ a' w',S w'→(S w'→wpAnyLast P md ops Q S ds fuel l' a' w')→K a' w')→if Region.wanted oi (yielded ops a.tmps)=true then Oper.wp P oi a w K Q else K (a.put N undef) w)
  (hi:ops[i]?=some oi:=by exact rfl) (hN:oi.dst=N:=by rfl) (hc:(readyT T.2 l.toList == [i] && l.toList.set i true == l'.toList)=true:=by kernel_rfl) (hd:i ∉ ds:=by decide):wpAnyLast P md ops Q S ds (fuel+1) l a w:=one_ l' hi hN (one_of hT.out hc) hd h
theorem nr (d:Tmp) (h:wpAnyLast P md ops Q S ds fuel l a' w) (e:a.put (some d) v=a':=by simp only [nm_];rfl):wpAnyLast P md ops Q S ds fuel l (a.put (some d) v) w:=norm_ e h
end
end Go.Proofs.YtbnnamejnjfkjaaGreatW.PrintMore
end

section
namespace Go.Proofs.YtbnnamejnjfkjaaGreat.Q
open Go.RowKit Go.Proofs.YtbnnamejnjfkjaaGreatW.PrintWords Go.Proofs.YtbnnamejnjfkjaaGreatW.PrintLast Go.Proofs.YtbnnamejnjfkjaaGreatW.PrintMore
attribute [local go_sem] max2_int min2_int max_two min_two max_three min_three max_four min_four
set_option linter.unusedVariables false
set_option linter.unusedSimpArgs false
def errW:Option Int→Value
 |none=> .nilIface
 |some c=> .iface 0 (.int .i64 c)
theorem errW_none:errW none = .nilIface:=rfl
theorem errW_some (c:Int):errW (some c) = .iface 0 (.int .i64 c):=rfl
theorem info2:(Tryz.prog.info? 2).map (fun i=>(i.zero,i.size,i.bytes))=some (some (.int .i64 0),1,8):=by kernel_rfl
theorem info9:(Tryz.prog.info? 9).map (fun i=>(i.zero,i.size,i.bytes))=some (some (.string ⟨#[]⟩),1,16):=by kernel_rfl
end Go.Proofs.YtbnnamejnjfkjaaGreat.Q
end

section
namespace Go.Proofs.YtbnnamejnjfkjaaGreat.Q
open Go.RowKit Go.Proofs.YtbnnamejnjfkjaaGreatW.PrintWords Go.Proofs.YtbnnamejnjfkjaaGreatW.PrintLast Go.Proofs.YtbnnamejnjfkjaaGreatW.PrintMore
attribute [local go_sem] max2_int min2_int max_two min_two max_three min_three max_four min_four
set_option linter.unusedVariables false
set_option linter.unusedSimpArgs false
def spec_l01Has.l0:Nat→Int→Int→Int→List Int→Option (Bool)
 |0,_,_,_,_=>none
 |k+1,x1,x5,x102000,x102001=>if x5<(x102001.length:Int) then (if 0≤x5 then (if (rd x102001 x5)=x1 then (some true) else (spec_l01Has.l0 k x1 (wrap64 (x5+1)) x102000 x102001)) else (none)) else (some false)
def spec_l01Has.f (k:Nat) (a0_0:Int) (l0_1:List Int) (a1:Int):Option (Bool):=spec_l01Has.l0 k a1 0 a0_0 l0_1
theorem spec_l01Has.mono_l:∀ k,(∀ y0 y1 y2 y3,LeO (spec_l01Has.l0 k y0 y1 y2 y3) (spec_l01Has.l0 (k+1) y0 y1 y2 y3))
 |0=>fun _ _ _ _ r h=>by simp [spec_l01Has.l0] at h
 |k+1=>by
  have ih0:=spec_l01Has.mono_l k
  ·intro y0 y1 y2 y3;unfold spec_l01Has.l0;repeat' first
   |(with_reducible first|exact ih0 _ _ _ _|exact LeO.refl _|exact LeO.none _|refine LeO.ite ?_ ?_|refine LeO.bind ?_ (fun _=>?_))
theorem spec_l01Has.mono:∀ a0 a1 a2 k,LeO (spec_l01Has.f k a0 a1 a2) (spec_l01Has.f (k+1) a0 a1 a2):=by
 intro a0 a1 a2 k;have ih0:=spec_l01Has.mono_l k;unfold spec_l01Has.f;repeat' first
   |(with_reducible first|exact ih0 _ _ _ _|exact LeO.refl _|exact LeO.none _|refine LeO.ite ?_ ?_|refine LeO.bind ?_ (fun _=>?_))
set_option maxHeartbeats 8000000 in
set_option maxRecDepth 100000 in
theorem spec_l01Has.calls (k:Nat) (a0_0:Int) (A0_1:Option Addr) (c0_1:Nat) (l0_1:List Int) (a1:Int) (r:Bool) (w:World) (hr0_1:Kd.C (Kd.int .i64) w A0_1 l0_1.length l0_1) (hc0_1:l0_1.length≤c0_1) (h:spec_l01Has.f k a0_0 l0_1 a1=some r) :
  Calls Tryz.prog 61 #[.agg #[.int .i64 a0_0,.slice A0_1 l0_1.length c0_1],.int .i64 a1] w fun e w'=>e = .returned (.bool r)∧Below w.heap.size w w':=by
 have hu26:=Tryz.underlying26;have HR0_1:=Aside0.mk hr0_1;have HC0_1:=Aside0.mk hc0_1;clear hr0_1 hc0_1;have HB:=Aside0.mk (Below.refl w.heap.size w);have H:(spec_l01Has.l0 k a1 0 a0_0 l0_1)=some r:=h;clear h;have H':=Aside0.mk H;clear H;go_enter Tryz.func61,Tryz.ntmps61;go_wp2_with (first|((with_reducible refine gate_dst (N:=2) rfl ?_);refine bx 2 #[.int .i64 a0_0,.slice A0_1 l0_1.length c0_1] 26 ?_;intro gb101 hg w3 hbox hb;have BK101:=Aside0.mk (hbox);have GE101:=gzA hg HB;replace HB:=bsA HB hb;clear hb hbox hg))
 go_loopg [5] k (fun kq v5 w'=>∃(x5_1:Int),v5 = .int .i64 x5_1∧Aside0 (spec_l01Has.l0 kq a1 x5_1 a0_0 l0_1=some r)∧Aside0 (kq≤k)∧Aside0 (w'.heap[gb101]?=some (.cells #[.int .i64 a0_0,(.slice A0_1 l0_1.length c0_1)] 26 (0,0)))∧Aside0 (Below w.heap.size w w'))
 case atStart=>exact⟨(0),rs,H',⟨Nat.le_refl _⟩,⟨bk BK101.out⟩,⟨bl HB.out⟩⟩
 case round=>
  clear H';try clear p2
  obtain ⟨x5_1,rfl,HA,HK1,BK101,HB⟩:=hrel;cases gk with
  |zero=>exact absurd HA.out (by simp [spec_l01Has.l0])
  |succ k1=>
   have H:=HA.out;clear HA;simp only [spec_l01Has.l0] at H;by_cases c4:x5_1<(l0_1.length:Int)
   ·rw[if_pos c4] at H;have c4b0:decide (x5_1<(l0_1.length:Int))=true:=decide_eq_true c4;clear c4;by_cases c5:0≤x5_1
    ·rw[if_pos c5] at H;have c5b0:decide (0≤x5_1)=true:=decide_eq_true c5;clear c5;by_cases c6:(rd l0_1 x5_1)=a1
     ·rw[if_pos c6] at H;have c6b0:((rd l0_1 x5_1) == a1)=true:=beq_iff_eq.mpr c6;have c6b1:((rd l0_1 x5_1) != a1)=false:=bne_eq_false_iff_eq.mpr c6;clear c6;obtain rfl:=Option.some.inj H;have hcz7_0:=z0_ BK101;have hcz7_1:=z1_ BK101;have hfz7_0:=hf_ BK101 0;have hfz7_1:=hf_ BK101 1;have p102:0≤(x5_1:Int):=dd;have q102:x5_1<(l0_1.length:Int):=dd;obtain ⟨ad102,e102,hx102_0⟩:=Kd.at_int HR0_1.out x5_1 p102 q102;cases e102;replace hx102_0:=hx_ HB hx102_0;replace p102:=eq_true p102;replace q102:=eq_true q102;go_wp2
      go_ret;exact⟨rr,bl HB.out⟩
     ·rw[if_neg c6] at H;have c6b0:((rd l0_1 x5_1) == a1)=false:=beq_eq_false_iff_ne.mpr c6;have c6b1:((rd l0_1 x5_1) != a1)=true:=bne_iff_ne.mpr c6;have H':=Aside0.mk H;clear H;have hcz8_0:=z0_ BK101;have hcz8_1:=z1_ BK101;have hfz8_0:=hf_ BK101 0;have hfz8_1:=hf_ BK101 1;have p102:0≤(x5_1:Int):=dd;have q102:x5_1<(l0_1.length:Int):=dd;obtain ⟨ad102,e102,hx102_0⟩:=Kd.at_int HR0_1.out x5_1 p102 q102;cases e102;replace hx102_0:=hx_ HB hx102_0;replace p102:=eq_true p102;replace q102:=eq_true q102;go_wp2
      go_roundg k1
      case measure=>have:=HK1.out;omega
      case rel=>exact⟨(wrap64 (x5_1+1)),rs,H',⟨by have:=HK1.out;omega⟩,⟨bk BK101.out⟩,⟨bl HB.out⟩⟩
    ·rw[if_neg c5] at H;exact absurd H (by simp)
   ·rw[if_neg c4] at H;have c4b0:decide (x5_1<(l0_1.length:Int))=false:=decide_eq_false c4;clear c4;obtain rfl:=Option.some.inj H;have hcz9_0:=z0_ BK101;have hcz9_1:=z1_ BK101;have hfz9_0:=hf_ BK101 0;have hfz9_1:=hf_ BK101 1;go_wp2
    go_ret;exact⟨rr,bl HB.out⟩
def spec_l01All.f (a0:Int):Option (Int):=if 0≤(IntKind.u64.wrap (a0)) then (some (wrap64 ((shl .i64 1 (IntKind.u64.wrap (a0))) - 1))) else (none)
set_option maxHeartbeats 8000000 in
set_option maxRecDepth 100000 in
theorem spec_l01All.calls (a0:Int) (r:Int) (w:World) (h:spec_l01All.f a0=some r) :
  Calls Tryz.prog 91 #[.int .i64 a0] w fun e w'=>e = .returned (.int .i64 r)∧Drawn0 w w':=by
 have H:(if 0≤(IntKind.u64.wrap (a0)) then (some (wrap64 ((shl .i64 1 (IntKind.u64.wrap (a0))) - 1))) else (none))=some r:=h;clear h;obtain ⟨ji2,hji2⟩:∃ j_:Int,(IntKind.u64.wrap (a0))=j_:=⟨_,rfl⟩
 replace H:(if 0≤(ji2) then (some (wrap64 ((shl .i64 1 (ji2)) - 1))) else (none))=some r:=by first|(rw[hji2] at H;exact H)|(simp only [hji2] at H ⊢;exact H)
 by_cases c3:0≤(ji2)
 ·rw[if_pos c3] at H;have c3b0:=eq_true c3;have c3b1:decide (0≤(ji2))=true:=decide_eq_true c3;clear c3;obtain ⟨ji4,hji4⟩:∃ j_:Int,(shl .i64 1 (ji2))=j_:=⟨_,rfl⟩
  replace H:(some (wrap64 ((ji4) - 1)))=some r:=by first|(rw[hji4] at H;exact H)|(simp only [hji4] at H ⊢;exact H)
  have hji4_:(IntKind.i64.wrap (1*2 ^ min (ji2).toNat 64))=ji4:=hji4;have hji4z:(ji2)≤64→(IntKind.i64.wrap (1*2 ^ (ji2).toNat))=ji4:=shl_small hji4;have hji4u:(IntKind.i64.wrap (2 ^ min (ji2).toNat 64))=ji4:=by have h_:=hji4_;rw[Int.one_mul] at h_;exact h_
  have hji4v:(ji2)≤64→(IntKind.i64.wrap (2 ^ (ji2).toNat))=ji4:=fun hle_=>by have h_:=hji4z hle_;rw[Int.one_mul] at h_;exact h_
  have hji4y:(wrap64 (1*2 ^ min (ji2).toNat 64))=ji4:=(i64_w _).symm.trans hji4_;have hji4x:(ji2)≤64→(wrap64 (1*2 ^ (ji2).toNat))=ji4:=fun h_=>(i64_w _).symm.trans (hji4z h_)
  obtain rfl:=Option.some.inj H;go_enter Tryz.func91,Tryz.ntmps91;go_wp2
  go_ret;exact⟨by first|rfl|(simp;done)|(simp only [← hji2,← hji4] <;> (first|rfl|simp))|(simp [*];done),by repeat(first|exact Drawn0.refl _|apply Drawn0.step)⟩
 ·rw[if_neg c3] at H;exact absurd H (by simp)
def spec_l01In.f (a0:Int) (a1:Int) (a2:Int):Option (Bool):=if a0≥a1 then (some (decide (a0≤a2))) else (some false)
set_option maxHeartbeats 8000000 in
set_option maxRecDepth 100000 in
theorem spec_l01In.calls (a0:Int) (a1:Int) (a2:Int) (r:Bool) (w:World) (h:spec_l01In.f a0 a1 a2=some r) :
  Calls Tryz.prog 95 #[.int .i64 a0,.int .i64 a1,.int .i64 a2] w fun e w'=>e = .returned (.bool r)∧Drawn0 w w':=by
 have H:(if a0≥a1 then (some (decide (a0≤a2))) else (some false))=some r:=h;clear h;by_cases c4:a0≥a1
 ·rw[if_pos c4] at H;have c4b0:decide (a1≤a0)=true:=decide_eq_true c4;clear c4;obtain rfl:=Option.some.inj H;go_enter Tryz.func95,Tryz.ntmps95;go_wp2
  go_ret;exact⟨rs,by repeat(first|exact Drawn0.refl _|apply Drawn0.step)⟩
 ·rw[if_neg c4] at H;have c4b0:decide (a1≤a0)=false:=decide_eq_false c4;clear c4;obtain rfl:=Option.some.inj H;go_enter Tryz.func95,Tryz.ntmps95;go_wp2
  go_ret;exact⟨rs,by repeat(first|exact Drawn0.refl _|apply Drawn0.step)⟩
def spec_l01Below.l0:Nat→Int→List Int→Int→Option (List Int)
 |0,_,_,_=>none
 |k+1,x0,x3,x4=>if x4≥0 then (if 0≤(IntKind.u64.wrap (x4)) then (if (Go.bits .and .i64 (shr .i64 x0 (IntKind.u64.wrap (x4))) 1)=1 then (if x0=(shl .i64 1 (IntKind.u64.wrap (x4))) then (spec_l01Below.l0 k x0 x3 (wrap64 (x4 - 1))) else (if x3.length<17592186044416 then (spec_l01Below.l0 k x0 (x3 ++ [wrap64 (x0 - (shl .i64 1 (IntKind.u64.wrap (x4))))]) (wrap64 (x4 - 1))) else (none))) else (spec_l01Below.l0 k x0 x3 (wrap64 (x4 - 1)))) else (none)) else (some x3)
def spec_l01Below.f (k:Nat) (a0:Int):Option (List Int):=spec_l01Below.l0 k a0 (([]:List Int)) 62
theorem spec_l01Below.mono_l:∀ k,(∀ y0 y1 y2,LeO (spec_l01Below.l0 k y0 y1 y2) (spec_l01Below.l0 (k+1) y0 y1 y2))
 |0=>fun _ _ _ r h=>by simp [spec_l01Below.l0] at h
 |k+1=>by
  have ih0:=spec_l01Below.mono_l k
  ·intro y0 y1 y2;unfold spec_l01Below.l0;repeat' first
   |(with_reducible first|exact ih0 _ _ _|exact LeO.refl _|exact LeO.none _|refine LeO.ite ?_ ?_|refine LeO.bind ?_ (fun _=>?_))
theorem spec_l01Below.mono:∀ a0 k,LeO (spec_l01Below.f k a0) (spec_l01Below.f (k+1) a0):=by
 intro a0 k;have ih0:=spec_l01Below.mono_l k;unfold spec_l01Below.f;repeat' first
   |(with_reducible first|exact ih0 _ _ _|exact LeO.refl _|exact LeO.none _|refine LeO.ite ?_ ?_|refine LeO.bind ?_ (fun _=>?_))
set_option maxHeartbeats 8000000 in
set_option maxRecDepth 100000 in
theorem spec_l01Below.calls (k:Nat) (a0:Int) (r:List Int) (w:World) (h:spec_l01Below.f k a0=some r) :
  Calls Tryz.prog 125 #[.int .i64 a0] w fun e w'=>∃ v0_:Value,e = .returned (v0_)∧Kd.R (Kd.int .i64) 2 w' w.heap.size (fun _=>True) v0_ r∧Below w.heap.size w w':=by
 have HB:=Aside0.mk (Below.refl w.heap.size w);have H:(spec_l01Below.l0 k a0 (([]:List Int)) 62)=some r:=h;clear h;obtain ⟨y103,hy103⟩:∃ y_:List Int,y_=(([]:List Int)):=⟨_,rfl⟩
 replace H:(spec_l01Below.l0 k a0 y103 62)=some r:=by first|(rw[hy103];with_reducible exact H)|(have H2_:=(Option.bind_some _ _).symm.trans H;rw[hy103];with_reducible exact H2_)|(have H2_:=(Option.bind_some _ _).symm.trans H;with_reducible exact H2_)|with_reducible exact H|(rw[hy103];exact H)|exact H
 have Ny103:=Aside0.mk hy103;clear hy103;have H':=Aside0.mk H;clear H;go_enter Tryz.func125,Tryz.ntmps125;go_wp2_with (first|((with_reducible refine gate_dst (N:=5) rfl ?_);refine Kd.R_lit (Kd.int .i64) _ 2 ?hg (N:=5) ?hd (xs:=([]:List Int)) (inner:= []) (ok:=fun _=>True) (okp:=fun _=>True) ?hr ?hp (fun _ hk=>hk) trivial (Below.refl _ _) (Nat.le_refl _) (by simp) ?_;(case hd=>rfl);(case hg=>rfl);(case hr=>first|(go_simp;done)|(go_simp;rfl));(case hp=>exact(Reps.none _ _));intro v104 w2 ho3 hb hg_ hnew_;clear hg_ hnew_;(first|rw[← Ny103.out] at ho3|(simp only [Int.reduceToNat] at ho3;rw[← Ny103.out] at ho3));have HO105:=klA ho3 HB;replace HB:=bsA HB hb;clear hb ho3))
 go_loopg [3,4] k (fun kq v3 v4 w'=>∃(x3_1:List Int) (x4_1:Int),v4 = .int .i64 x4_1∧Aside0 (spec_l01Below.l0 kq a0 x3_1 x4_1=some r)∧Aside0 (kq≤k)∧Aside0 (Kd.R (Kd.int .i64) 2 w' w.heap.size (fun _=>True) v3 x3_1)∧Aside0 (Below w.heap.size w w'))
 case atStart=>exact⟨(y103),(62),rs,H',⟨Nat.le_refl _⟩,⟨kr HO105.out⟩,⟨bl HB.out⟩⟩
 case round=>
  clear H';try clear c1
  try clear p2
  obtain ⟨x3_1,x4_1,rfl,HA,HK1,HO_3,HB⟩:=hrel;cases gk with
  |zero=>exact absurd HA.out (by simp [spec_l01Below.l0])
  |succ k1=>
   have H:=HA.out;clear HA;simp only [spec_l01Below.l0] at H;by_cases c4:x4_1≥0
   ·rw[if_pos c4] at H;have c4b0:decide (0≤x4_1)=true:=decide_eq_true c4;clear c4;obtain ⟨ji5,hji5⟩:∃ j_:Int,(IntKind.u64.wrap (x4_1))=j_:=⟨_,rfl⟩
    replace H:(if 0≤(ji5) then (if (Go.bits .and .i64 (shr .i64 a0 (ji5)) 1)=1 then (if a0=(shl .i64 1 (ji5)) then (spec_l01Below.l0 k1 a0 x3_1 (wrap64 (x4_1 - 1))) else (if x3_1.length<17592186044416 then (spec_l01Below.l0 k1 a0 (x3_1 ++ [wrap64 (a0 - (shl .i64 1 (ji5)))]) (wrap64 (x4_1 - 1))) else (none))) else (spec_l01Below.l0 k1 a0 x3_1 (wrap64 (x4_1 - 1)))) else (none))=some r:=by first|(rw[hji5] at H;exact H)|(simp only [hji5] at H ⊢;exact H)
    by_cases c6:0≤(ji5)
    ·rw[if_pos c6] at H;have c6b0:=eq_true c6;have c6b1:decide (0≤(ji5))=true:=decide_eq_true c6;clear c6;obtain ⟨ji7,hji7⟩:∃ j_:Int,(shr .i64 a0 (ji5))=j_:=⟨_,rfl⟩
     replace H:(if (Go.bits .and .i64 (ji7) 1)=1 then (if a0=(shl .i64 1 (ji5)) then (spec_l01Below.l0 k1 a0 x3_1 (wrap64 (x4_1 - 1))) else (if x3_1.length<17592186044416 then (spec_l01Below.l0 k1 a0 (x3_1 ++ [wrap64 (a0 - (shl .i64 1 (ji5)))]) (wrap64 (x4_1 - 1))) else (none))) else (spec_l01Below.l0 k1 a0 x3_1 (wrap64 (x4_1 - 1))))=some r:=by first|(rw[hji7] at H;exact H)|(simp only [hji7] at H ⊢;exact H)
     have hji7_:(a0 / 2 ^ min (ji5).toNat 64)=ji7:=hji7;have hji7z:(ji5)≤64→(a0 / 2 ^ (ji5).toNat)=ji7:=shr_small hji7;by_cases c8:(Go.bits .and .i64 (ji7) 1)=1
     ·rw[if_pos c8] at H;have c8b0:((Go.bits .and .i64 (ji7) 1) == 1)=true:=beq_iff_eq.mpr c8;have c8b1:((Go.bits .and .i64 (ji7) 1) != 1)=false:=bne_eq_false_iff_eq.mpr c8;clear c8;have c9b0:=eq_true (dd:0≤(ji5));obtain ⟨ji10,hji10⟩:∃ j_:Int,(shl .i64 1 (ji5))=j_:=⟨_,rfl⟩
      replace H:(if a0=(ji10) then (spec_l01Below.l0 k1 a0 x3_1 (wrap64 (x4_1 - 1))) else (if x3_1.length<17592186044416 then (spec_l01Below.l0 k1 a0 (x3_1 ++ [wrap64 (a0 - (ji10))]) (wrap64 (x4_1 - 1))) else (none)))=some r:=by first|(rw[hji10] at H;exact H)|(simp only [hji10] at H ⊢;exact H)
      have hji10_:(IntKind.i64.wrap (1*2 ^ min (ji5).toNat 64))=ji10:=hji10;have hji10z:(ji5)≤64→(IntKind.i64.wrap (1*2 ^ (ji5).toNat))=ji10:=shl_small hji10;have hji10u:(IntKind.i64.wrap (2 ^ min (ji5).toNat 64))=ji10:=by have h_:=hji10_;rw[Int.one_mul] at h_;exact h_
      have hji10v:(ji5)≤64→(IntKind.i64.wrap (2 ^ (ji5).toNat))=ji10:=fun hle_=>by have h_:=hji10z hle_;rw[Int.one_mul] at h_;exact h_
      have hji10y:(wrap64 (1*2 ^ min (ji5).toNat 64))=ji10:=(i64_w _).symm.trans hji10_;have hji10x:(ji5)≤64→(wrap64 (1*2 ^ (ji5).toNat))=ji10:=fun h_=>(i64_w _).symm.trans (hji10z h_)
      by_cases c11:a0=(ji10)
      ·rw[if_pos c11] at H;have c11b0:(a0 == (ji10))=true:=beq_iff_eq.mpr c11;have c11b1:(a0 != (ji10))=false:=bne_eq_false_iff_eq.mpr c11;clear c11;have H':=Aside0.mk H;clear H;go_wp2
       go_roundg k1
       case measure=>have:=HK1.out;omega
       case rel=>exact⟨(x3_1),(wrap64 (x4_1 - 1)),rs,H',⟨by have:=HK1.out;omega⟩,⟨kr HO_3.out⟩,⟨bl HB.out⟩⟩
      ·rw[if_neg c11] at H;have c11b0:(a0 == (ji10))=false:=beq_eq_false_iff_ne.mpr c11;have c11b1:(a0 != (ji10))=true:=bne_iff_ne.mpr c11;have c12b0:=eq_true (dd:0≤(ji5));by_cases c13:x3_1.length<17592186044416
       ·rw[if_pos c13] at H;have LMc13:=Aside0.mk c13;clear c13;obtain ⟨y106,hy106⟩:∃ y_:List Int,y_=(x3_1 ++ [wrap64 (a0 - (ji10))]):=⟨_,rfl⟩
        replace H:(spec_l01Below.l0 k1 a0 y106 (wrap64 (x4_1 - 1)))=some r:=by first|(rw[hy106];with_reducible exact H)|(have H2_:=(Option.bind_some _ _).symm.trans H;rw[hy106];with_reducible exact H2_)|(have H2_:=(Option.bind_some _ _).symm.trans H;with_reducible exact H2_)|with_reducible exact H|(rw[hy106];exact H)|exact H
        have Ny106:=Aside0.mk hy106;clear hy106;have H':=Aside0.mk H;clear H;go_wp2_with (first|((with_reducible refine gate_builtin (b:= .append) (xs:=#[.tmp 23,.tmp 29]) rfl ?_);at_builtin;refine Kd.R_append (Kd.int .i64) (w0:=w) w.heap.size rfl (.tmp 23) (.tmp 29) 24 2 (.int .i64 0) 8 rfl Tryz.underlying24 info2 rfl (by decide) (by omega) u3 x3_1 (wrap64 (a0 - (ji10))) [.int .i64 (wrap64 (a0 - (ji10)))] (fun _=>True) (fun _=>False) rfl rfl ?aP (fun _ hk=>hk.elim) ?aF ?aO ?aB ?aS ?aL ?_;(case aP=>exact rfl);(case aB=>exact(bl HB.out));(case aF=>exact(fun _ _=>trivial));(case aO=>exact(kr HO_3.out));(case aS=>exact(below_size (bl HB.out)));(case aL=>have:=LMc13.out;omega);intro v107 w14 ho hb hg hat;rw[← Ny106.out] at ho;have n0_:=Aside0.mk (hb);have n1_:=Aside0.mk (ho);clear HB;clear HO_3;have HB:=n0_;have HO108:=n1_;clear n0_ n1_;clear ho hb hg hat))
        go_roundg k1
        case measure=>have:=HK1.out;omega
        case rel=>exact⟨(y106),(wrap64 (x4_1 - 1)),rs,H',⟨by have:=HK1.out;omega⟩,⟨kr HO108.out⟩,⟨bl HB.out⟩⟩
       ·rw[if_neg c13] at H;exact absurd H (by simp)
     ·rw[if_neg c8] at H;have c8b0:((Go.bits .and .i64 (ji7) 1) == 1)=false:=beq_eq_false_iff_ne.mpr c8;have c8b1:((Go.bits .and .i64 (ji7) 1) != 1)=true:=bne_iff_ne.mpr c8;have H':=Aside0.mk H;clear H;go_wp2
      go_roundg k1
      case measure=>have:=HK1.out;omega
      case rel=>exact⟨(x3_1),(wrap64 (x4_1 - 1)),rs,H',⟨by have:=HK1.out;omega⟩,⟨kr HO_3.out⟩,⟨bl HB.out⟩⟩
    ·rw[if_neg c6] at H;exact absurd H (by simp)
   ·rw[if_neg c4] at H;have c4b0:decide (0≤x4_1)=false:=decide_eq_false c4;clear c4;obtain rfl:=Option.some.inj H;go_wp2
    go_ret;exact⟨_,rr,by(with_reducible repeat(first|apply Kd.R_alloc|apply Kd.R_drewN|apply Kd.R_drew));exact HO_3.out,bl HB.out⟩
end Go.Proofs.YtbnnamejnjfkjaaGreat.Q
end

section
namespace Go.Proofs.YtbnnamejnjfkjaaGreat.K
open Go.RowKit Go.Shelf Go.Proofs.YtbnnamejnjfkjaaGreat.Q Go.Proofs.YtbnnamejnjfkjaaGreatW.PrintWords Go.Proofs.YtbnnamejnjfkjaaGreatW.PrintLast Go.Proofs.YtbnnamejnjfkjaaGreatW.PrintMore
set_option linter.unusedVariables false
set_option linter.unusedSimpArgs false
theorem w64 (x:Int) (h0: -9223372036854775808≤x) (h1:x≤9223372036854775807):wrap64 x=x:=by unfold wrap64;omega
theorem rd_nat (l:List Int) (i:Nat) (h:i<l.length):rd l (i:Int)=l[i]:=by simp [rd,h]
theorem nat_succ (i:Nat):(i:Int)+1=((i+1:Nat):Int):=by omega
end Go.Proofs.YtbnnamejnjfkjaaGreat.K
end

section
namespace Go.Proofs.YtbnnamejnjfkjaaGreat.K
open Go.RowKit Go.Shelf Go.Proofs.YtbnnamejnjfkjaaGreatW.PrintWords Go.Proofs.YtbnnamejnjfkjaaGreatW.PrintLast Go.Proofs.YtbnnamejnjfkjaaGreatW.PrintMore
set_option linter.unusedVariables false
set_option linter.unusedSimpArgs false
def idx {α:Type} (p:α→Bool) (l:List α):Int:=match l.findIdx? p with|some i=>(i:Int)|none=> -1
theorem idx_hit {α:Type} (p:α→Bool) (l:List α) (k:Nat) (h:k<l.length) (hp:p l[k]=true) (hn:∀ j (hj:j<k),p (l[j]'(by omega))=false):idx p l=k:=by
 have:l.findIdx? p=some k:=by
  rw[List.findIdx?_eq_some_iff_getElem]
  exact⟨h,hp,fun j hj=>by simp [hn j hj]⟩
 simp [idx,this]
theorem idx_miss {α:Type} (p:α→Bool) (l:List α) (hn:∀ j (hj:j<l.length),p l[j]=false):idx p l = -1:=by
 have:l.findIdx? p=none:=by
  rw[List.findIdx?_eq_none_iff]
  intro x hx
  obtain ⟨j,hj,rfl⟩:=List.mem_iff_getElem.1 hx
  exact hn j hj
 simp [idx,this]
set_option maxHeartbeats 2000000 in
theorem IndexFunc_int (p:Int→Bool) (A:Option Addr) (c:Nat) (l:List Int) (g:Nat) (first caps:Array Value) (w:World)
  (hr:Ki.C w A l.length l) (hc:l.length≤c) (hbig:l.length≤9223372036854775807) (eg:EntersG g)
  (hp:∀ x,x ∈ l→Answers w g (first.push (I x) ++ caps) (.bool (p x))) :
  Calls Tryz.prog 164 #[.slice A l.length c,.func (.func g) first caps] w fun e w'=>e = .returned (I (idx p l))∧Grew w w':=by
 have HR:=Aside0.mk hr
 have HC:=Aside0.mk hc
 have HP:=Aside0.mk hp
 clear hr hc hp
 go_enter Tryz.func164,Tryz.ntmps164
 go_wp2
 go_loopg [5,8] l.length (fun gg _ s8 wr=>∃ kk:Nat,kk≤l.length∧l.length - kk≤gg∧s8 = .int .i64 kk∧Aside0 (Grew w wr)∧Aside0 (∀ j (h:j<l.length),j<kk→p l[j]=false))
 case atStart=>exact⟨0,Nat.zero_le _,by omega,rfl,⟨Below.refl _ w⟩,⟨fun j _ hj=>absurd hj (Nat.not_lt_zero _)⟩⟩
 case round=>
  obtain ⟨kk,hkk,hg,rfl,BW,A0⟩:=hrel
  by_cases hlt:kk<l.length
  ·have hltz:(kk:Int)<(l.length:Int):=by omega
   obtain ⟨ad,e0,hx⟩:=Kd.at_int (Kd.C_below HR.out BW.out) (kk:Int) (by omega) (by omega)
   cases e0
   have hrd:rd l (kk:Int)=l[kk]:=by simp [rd,hlt]
   rw[hrd,Int.toNat_natCast] at hx
   have hcall:=HP.out l[kk] (by simp) wr BW.out
   clear hrd
   generalize hy:l[kk]=y at hx hcall
   have B:=Aside0.mk hy
   clear hy
   cases hq:p y with
   |true=>
    rw[hq] at hcall
    go_wp2_with fail
    refine hcall.mono ?_
    rintro e w' ⟨rfl,hb'⟩
    clear hcall
    go_wp2_with fail
    go_ret
    refine⟨?_,Grew.trans BW.out hb'⟩
    rw[idx_hit p l kk hlt (by rw[B.out];exact hq) (fun j hj=>A0.out j (by omega) hj)]
    rfl
   |false=>
    rw[hq] at hcall
    go_wp2_with fail
    refine hcall.mono ?_
    rintro e w' ⟨rfl,hb'⟩
    clear hcall
    go_wp2_with fail
    go_roundg (l.length - (kk+1))
    case measure=>omega
    case rel=>
     refine⟨kk+1,by omega,by omega,by go_num,⟨Grew.trans BW.out hb'⟩,⟨fun j h hj=>?_⟩⟩
     by_cases e:j=kk
     ·subst e
      rw[B.out];exact hq
     ·exact A0.out j h (by omega)
  ·have hltz:¬ (kk:Int)<(l.length:Int):=by omega
   have e:kk=l.length:=by omega
   have H:=idx_miss p l (fun j hj=>A0.out j hj (by omega))
   have HM:=Aside0.mk H
   clear H e
   go_wp2
   go_ret
   exact⟨by rw[HM.out];rfl,BW.out⟩
theorem idx_nonneg {α:Type} (p:α→Bool) (l:List α):decide (0≤idx p l)=l.any p:=by
 unfold idx
 cases h:l.findIdx? p with
 |none=>
  rw[List.findIdx?_eq_none_iff] at h
  have:l.any p=false:=by rw[List.any_eq_false];intro x hx;simp [h x hx]
  simp [this]
 |some i=>
  rw[List.findIdx?_eq_some_iff_getElem] at h
  obtain ⟨hi,hp,_⟩:=h
  have:l.any p=true:=List.any_eq_true.2 ⟨l[i],by simp,hp⟩
  simp [this]
set_option maxHeartbeats 2000000 in
theorem ContainsFunc_int (p:Int→Bool) (A:Option Addr) (c:Nat) (l:List Int) (g:Nat) (first caps:Array Value) (w:World)
  (hr:Ki.C w A l.length l) (hc:l.length≤c) (hbig:l.length≤9223372036854775807) (eg:EntersG g)
  (hp:∀ x,x ∈ l→Answers w g (first.push (I x) ++ caps) (.bool (p x))) :
  Calls Tryz.prog 145 #[.slice A l.length c,.func (.func g) first caps] w fun e w'=>e = .returned (.bool (l.any p))∧Grew w w':=by
 rw[← idx_nonneg]
 have H:=Aside0.mk (IndexFunc_int p A c l g first caps w hr hc hbig eg hp)
 clear hr hc hbig hp
 go_enter Tryz.func145,Tryz.ntmps145
 go_wp2_with fail
 refine H.out.mono ?_
 rintro e w' ⟨rfl,hb'⟩
 go_wp2_with fail
 go_ret
 exact⟨by rfl,hb'⟩
end Go.Proofs.YtbnnamejnjfkjaaGreat.K
end

section
namespace Go.Proofs.YtbnnamejnjfkjaaGreat.K
open Go.RowKit Go.Shelf Go.Proofs.YtbnnamejnjfkjaaGreatW.PrintWords Go.Proofs.YtbnnamejnjfkjaaGreatW.PrintLast Go.Proofs.YtbnnamejnjfkjaaGreatW.PrintMore
set_option linter.unusedVariables false
set_option linter.unusedSimpArgs false
set_option maxHeartbeats 1000000 in
theorem areAll1_int (b:Bool) (x:Int) (B:Nat) (g:Nat) (first caps:Array Value) (w:World)
  (hB:w.cell? ⟨B,0,none⟩=some (.func (.func g) first caps)) (eg:EntersG g)
  (hp:Answers w g (first.push (I x) ++ caps) (.bool b)) :
  Calls Tryz.prog 146 #[I x,.pointer (some ⟨B,0,none⟩)] w fun e w'=>e = .returned (.bool (!b))∧Grew w w':=by
 have HP:=Aside0.mk hp
 clear hp
 go_enter Tryz.func146,Tryz.ntmps146
 go_wp2_with fail
 refine(HP.out _ (Grew.refl _)).mono ?_
 rintro e w' ⟨rfl,hb'⟩
 cases b <;> go_wp2_with fail
 all_goals go_ret
 all_goals exact⟨by rfl,hb'⟩
set_option maxHeartbeats 1000000 in
theorem areAll_int (p:Int→Bool) (A:Option Addr) (c:Nat) (l:List Int) (g:Nat) (first caps:Array Value) (w:World)
  (hr:Ki.C w A l.length l) (hc:l.length≤c) (hbig:l.length≤9223372036854775807) (eg:EntersG g)
  (hp:∀ x,x ∈ l→Answers w g (first.push (I x) ++ caps) (.bool (p x))) :
  Calls Tryz.prog 115 #[.slice A l.length c,.func (.func g) first caps] w fun e w'=>e = .returned (.bool (l.all p))∧Grew w w':=by
 have HR:=Aside0.mk hr
 have HC:=Aside0.mk hc
 have HP:=Aside0.mk hp
 have hg:Grew w (w.alloc (.cells #[.func (.func g) first caps] 55)):=below_alloc (Below.refl _ _) _
 have H:=Aside0.mk (ContainsFunc_int (fun x=>!p x) A c l 146 #[] #[.pointer (some ⟨w.heap.size,0,none⟩)] (w.alloc (.cells #[.func (.func g) first caps] 55))
  (Kd.C_below HR.out hg) hc hbig (enters_of Tryz.func146 (by kernel_rfl) rfl) (fun x hx W hW=>
   areAll1_int (p x) x w.heap.size g first caps W (blk_cell (blk_below (blk_new w _) hW) 0) eg (((HP.out x hx).later hg).later hW)))
 have hall:l.all p=!(l.any fun x=>!p x):=by
  rw[List.not_any_eq_all_not];simp
 rw[hall]
 clear hr hc hp hall
 generalize (l.any fun x=>!p x)=b at H ⊢
 go_enter Tryz.func115,Tryz.ntmps115
 go_wp2_with fail
 refine H.out.mono ?_
 rintro e w' ⟨rfl,hb'⟩
 have HG:=Aside0.mk (Grew.trans hg hb')
 clear hb' hg
 cases b <;> go_wp2_with fail
 all_goals go_ret
 all_goals exact⟨by rfl,HG.out⟩
end Go.Proofs.YtbnnamejnjfkjaaGreat.K
end

section
namespace Go.Proofs.YtbnnamejnjfkjaaGreat.K
open Go.RowKit Go.Shelf Go.Proofs.YtbnnamejnjfkjaaGreatW.PrintWords Go.Proofs.YtbnnamejnjfkjaaGreatW.PrintLast Go.Proofs.YtbnnamejnjfkjaaGreatW.PrintMore
set_option linter.unusedVariables false
set_option linter.unusedSimpArgs false
attribute [local go_sem] Oper.semAt_some
abbrev Vx:Type:={ v:Int // 0≤v∧v<64 }
def bwd (zs:List Vx):List (Nat×Vx):=(zs.zipIdx.map fun p=>(p.2,p.1)).reverse
theorem bwd_length (zs:List Vx):(bwd zs).length=zs.length:=by simp [bwd]
theorem bwd_get (zs:List Vx) (m:Nat) (h:m<zs.length):(bwd zs)[m]'(by rw[bwd_length];exact h)=(zs.length - 1 - m,zs[zs.length - 1 - m]):=by
 simp [bwd,List.getElem_reverse]
theorem bwd_snd (zs:List Vx):(bwd zs).map (·.2)=zs.reverse:=by
 simp only [bwd,List.map_reverse,List.map_map]
 congr 1
 apply List.ext_getElem
 ·simp
 ·intro i h1 h2;simp
def KeptBut (B n:Nat) (X Y:World):Prop:=∀ k,k<n→k≠B→Y.heap[k]?=X.heap[k]?
theorem KeptBut.refl (B n:Nat) (X:World):KeptBut B n X X:=fun _ _ _=>rfl
theorem KeptBut.t {B n:Nat} {X Y Z:World} (h:KeptBut B n X Y) (k:KeptBut B n Y Z):KeptBut B n X Z:=fun j h1 h2=>(k j h1 h2).trans (h j h1 h2)
set_option maxRecDepth 100000 in
set_option maxHeartbeats 2000000 in
theorem Backward1_in (F:Fence) (n:Nat) (hF:F.fn 167) (hro:F.round=none) (hn:1≤n) (l Bs B n₀ b cap:Nat) (zs:List Vx) (hreach:zs.length≤64) (hb:b<n₀) (hbB:b≠B) (hs:Bs<n₀) (hsB:Bs≠B)
  (J Jx:List (Nat×Vx)→World→Prop)
  (hY:∀ pre x W,J pre W→pre.length<zs.length→YieldAt F (n - 1) Tryz.prog l #[.int .i64 (x.1:Int),.int .i64 x.2.val] W fun e W'=>
   (e = .returned (.bool true)∧J (pre ++ [x]) W'∧KeptBut B n₀ W W')∨(e = .returned (.bool false)∧Jx (pre ++ [x]) W'))
  (W:World) (hBs:W.cell? ⟨Bs,0,none⟩=some (.slice (some ⟨b,0,none⟩) zs.length cap)) (hc:∀ j (h:j<zs.length),W.cell? ⟨b,j,none⟩=some (I zs[j].val)) (h0:J [] W) :
  CallsIn F n Tryz.prog 167 #[.func (.yield l) #[] #[],.pointer (some ⟨Bs,0,none⟩)] W fun e W'=>(∃ v,e = .returned v) ∧
   ((∃ ys,ys=bwd zs∧J ys W')∨(∃ pre,pre <+: bwd zs∧Jx pre W')):=by
 refine callsIn_of_wp Tryz.func167 rfl hF ?_ hro
 simp only [Tryz.ntmps167,List.size_toArray,List.length_cons,List.length_nil,Nat.reduceAdd,Nat.reduceSub,Array.replicate_succ,Array.replicate_zero,List.push_toArray,List.append_toArray,List.nil_append,List.cons_append]
 gi_wp2
 gi_loopw [3] (fun i wr=>∃ k:Nat,k≤zs.length∧i = .int .i64 ((zs.length:Int) - 1 - k)∧J ((bwd zs).take k) wr∧KeptBut B n₀ W wr)
  (fun i _=>(intOf i+1).toNat)
 case atStart=>exact⟨0,Nat.zero_le _,by simp,by simpa using h0,KeptBut.refl _ _ _⟩
 case round=>
  obtain ⟨k,hk,rfl,hJs,hnx⟩:=hrel
  by_cases hlt:k<zs.length
  ·obtain ⟨r,hr⟩:∃ r:Nat,r=zs.length - 1 - k:=⟨_,rfl⟩
   have hrl:r<zs.length:=by omega
   have er:((zs.length:Int) - 1 - k)=(r:Int):=by omega
   have hcx:wr.cell? ⟨b,r,none⟩=some (I zs[r].val):=(World.cell?_of_block (w:=W) (a:=⟨b,r,none⟩) (hnx b hb hbB)).trans (hc r hrl)
   have hbx:wr.cell? ⟨Bs,0,none⟩=some (.slice (some ⟨b,0,none⟩) zs.length cap):=(World.cell?_of_block (w:=W) (a:=⟨Bs,0,none⟩) (hnx Bs hs hsB)).trans hBs
   have HE:=Aside0.mk er
   obtain ⟨fn,tmps,assign,body,hy,hR⟩:=hY _ (r,zs[r]) wr hJs (by simp;omega)
   dsimp only at hy
   rw[er]
   clear er
   have HR:=Aside0.mk hr
   clear hr
   generalize hz:zs[r]=z at hcx hy hR
   have HZ:=Aside0.mk hz
   clear hz
   clear hc hBs
   have HT:=Aside0.mk (show (bwd zs).take (k+1)=(bwd zs).take k ++ [(r,z)] by
    rw[List.take_succ_eq_append_getElem (by rw[bwd_length];exact hlt),bwd_get zs k hlt]
    have e1:=HR.out
    have e2:=HZ.out
    subst e1
    rw[e2])
   gi_wp2
   refine hR.mono ?_
   rintro e W3 (⟨rfl,hJ3,hk3⟩|⟨rfl,hJx3⟩)
   ·gi_wp2
    go_roundw
    case rel=>exact⟨k+1,by omega,by have:=HR.out;congr 1;omega,by rw[HT.out];exact hJ3,hnx.t hk3⟩
    case measure=>simp [intOf]
   ·gi_wp2
    refine bodyPost_ret (results_none rfl _ _ _) rfl ?_
    exact⟨⟨_,rfl⟩,.inr ⟨_,by rw[← HT.out];exact List.take_prefix _ _,hJx3⟩⟩
  ·obtain rfl:k=zs.length:=by omega
   rw[List.take_of_length_le (by rw[bwd_length];exact Nat.le_refl _)] at hJs
   gi_wp2
   go_end0
   exact⟨⟨_,rfl⟩,.inl ⟨_,rfl,hJs⟩⟩
set_option maxRecDepth 100000 in
set_option maxHeartbeats 1000000 in
theorem Backward1_nil_in (F:Fence) (n:Nat) (hF:F.fn 167) (hro:F.round=none) (l Bs:Nat) (J:List (Nat×Vx)→World→Prop)
  (W:World) (hBs:W.cell? ⟨Bs,0,none⟩=some (.slice none 0 0)) (h0:J [] W) :
  CallsIn F n Tryz.prog 167 #[.func (.yield l) #[] #[],.pointer (some ⟨Bs,0,none⟩)] W fun e W'=>(∃ v,e = .returned v)∧J [] W':=by
 refine callsIn_of_wp Tryz.func167 rfl hF ?_ hro
 simp only [Tryz.ntmps167,List.size_toArray,List.length_cons,List.length_nil,Nat.reduceAdd,Nat.reduceSub,Array.replicate_succ,Array.replicate_zero,List.push_toArray,List.append_toArray,List.nil_append,List.cons_append]
 gi_wp2
 gi_loopw [3] (fun i wr=>i = .int .i64 (-1)∧J [] wr) (fun _ _=>0)
 case atStart=>exact⟨rfl,h0⟩
 case round=>
  obtain ⟨rfl,hJs⟩:=hrel
  gi_wp2
  go_end0
  exact⟨⟨_,rfl⟩,hJs⟩
set_option maxHeartbeats 1000000 in
theorem Backward_in (F:Fence) (n:Nat) (hF:F.fn 152) (hro:F.round=none) (a:Option Addr) (len cap:Nat) (w:World) :
  CallsIn F n Tryz.prog 152 #[.slice a len cap] w fun e w'=>e = .returned (.func (.func 167) #[] #[.pointer (some ⟨w.heap.size,0,none⟩)])∧w'=w.alloc (.cells #[.slice a len cap] 24):=by
 refine callsIn_of_wp Tryz.func152 rfl hF ?_ hro
 simp only [Tryz.ntmps152,List.size_toArray,List.length_cons,List.length_nil,Nat.reduceAdd,Nat.reduceSub,Array.replicate_succ,Array.replicate_zero,List.push_toArray,List.append_toArray,List.nil_append,List.cons_append]
 gi_wp2
 go_ret
 exact⟨rfl,rfl⟩
def Vs (B n:Nat) (W:World) (sv:Value) (zs:List Vx):Prop:=
 (sv = .slice none 0 0∧zs = [])∨∃ b cap,sv = .slice (some ⟨b,0,none⟩) zs.length cap∧b<n∧b≠B∧∀ j (h:j<zs.length),W.cell? ⟨b,j,none⟩=some (I zs[j].val)
theorem Backward_stops (F:Fence) (n:Nat) (hF:F.fn 167) (hro:F.round=none) (hn:1≤n) (Bs B n₀:Nat) (sv:Value) (zs:List Vx) (hreach:zs.length≤64) (w:World) (hBs:Bs<n₀) (hBB:Bs≠B) (hn₀:n₀≤w.heap.size)
  (hc:w.cell? ⟨Bs,0,none⟩=some sv) (hI:Vs B n₀ w sv zs) :
  SeqStopsK F n Tryz.prog 167 #[.pointer (some ⟨Bs,0,none⟩)] (fun x:Nat×Vx=>#[Value.int .i64 (x.1:Int),Value.int .i64 x.2.val]) (KeptBut B n₀) (fun ys=>ys=bwd zs) (fun pre=>pre <+: bwd zs) zs.length w:=fun l J Jx W hW _ _ hY h0=>by
 have hc':=(hW.cell (p:=⟨Bs,0,none⟩) (by show Bs<_;omega)).trans hc
 rcases hI with ⟨rfl,rfl⟩|⟨b,cap,rfl,hb,hbB,hcs⟩
 ·exact(Backward1_nil_in F n hF hro l Bs J W hc' h0).mono fun e W' ⟨he,hj⟩=>⟨he,.inl ⟨_,rfl,hj⟩⟩
 ·exact Backward1_in F n hF hro hn l Bs B n₀ b cap zs hreach hb hbB hBs hBB J Jx hY W hc' (fun j h=>(hW.cell (p:=⟨b,j,none⟩) (by show b<_;omega)).trans (hcs j h)) h0
end Go.Proofs.YtbnnamejnjfkjaaGreat.K
end

section
namespace Go.Proofs.YtbnnamejnjfkjaaGreat.Q
open Go.RowKit Go.Proofs.YtbnnamejnjfkjaaGreatW.PrintWords Go.Proofs.YtbnnamejnjfkjaaGreatW.PrintLast Go.Proofs.YtbnnamejnjfkjaaGreatW.PrintMore
attribute [local go_sem] max2_int min2_int max_two min_two max_three min_three max_four min_four
set_option linter.unusedVariables false
set_option linter.unusedSimpArgs false
def IsS92 (w0 W:World) (g:Nat) (f0:List Int) (f1:Int) (f2:Int):Prop:=∃ A0 c0,W.heap[g]?=some (.cells #[.slice A0 f0.length c0,.int .i64 f1,.int .u64 f2] 92 (0,0))∧w0.heap.size≤g∧Kd.C (Kd.int .u8) w0 A0 f0.length f0
theorem IsS92.grown {w0 W:World} {g:Nat} {f0:List Int} {f1:Int} {f2:Int} {W1:World} {row:Option Nat} (h:IsS92 w0 W g f0 f1 f2) (hw:W.grownBy W1 row) (hne:some g≠row):IsS92 w0 W1 g f0 f1 f2:=by
 obtain ⟨A0,c0,hb,hg,hr0⟩:=h;exact⟨A0,c0,blk_grown hb hw hne,hg,hr0⟩
theorem IsS92.fresh {w0 W:World} {g:Nat} {f0:List Int} {f1:Int} {f2:Int} (h:IsS92 w0 W g f0 f1 f2):∀ k,W.heap.size≤k→k≠g:=by
 obtain ⟨A0,c0,hb,hg,hr0⟩:=h;exact Kd.freshB hb
theorem IsS92.kept {w0 W:World} {g:Nat} {f0:List Int} {f1:Int} {f2:Int} {W1:World} {S:Nat→Prop} (h:IsS92 w0 W g f0 f1 f2) (hk:Kept W W1 S) (hne:¬ S g):IsS92 w0 W1 g f0 f1 f2:=by
 obtain ⟨A0,c0,hb,hg,hr0⟩:=h;exact⟨A0,c0,blk_kept hb hk hne,hg,hr0⟩
theorem IsS92.below {w0 W:World} {g:Nat} {f0:List Int} {f1:Int} {f2:Int} {W1:World} (h:IsS92 w0 W g f0 f1 f2) (hw:Below W.heap.size W W1):IsS92 w0 W1 g f0 f1 f2:=h.grown (grown_of_below hw none) (by simp)
theorem IsS92.alloc {w0 W:World} {g:Nat} {f0:List Int} {f1:Int} {f2:Int} (h:IsS92 w0 W g f0 f1 f2) (o:Obj):IsS92 w0 (W.alloc o) g f0 f1 f2:=h.below (below_alloc (Below.refl _ _) o)
theorem IsS92.drewN {w0 W:World} {g:Nat} {f0:List Int} {f1:Int} {f2:Int} (h:IsS92 w0 W g f0 f1 f2) (m:Nat):IsS92 w0 (W.drewN m) g f0 f1 f2:=h
theorem IsS92.drew {w0 W:World} {g:Nat} {f0:List Int} {f1:Int} {f2:Int} (h:IsS92 w0 W g f0 f1 f2):IsS92 w0 W.drew g f0 f1 f2:=h
theorem IsS92.at_ {w0 W:World} {g:Nat} {f0:List Int} {f1:Int} {f2:Int} {w':World} {m:Nat} (hq:W.drewN m=w') (h:IsS92 w0 W g f0 f1 f2):IsS92 w0 w' g f0 f1 f2:=by subst hq;exact IsS92.drewN h m
theorem IsS92.apart {w0 W:World} {g:Nat} {f0:List Int} {f1:Int} {f2:Int} {α:Type} {d:Kd α} {e:Nat} {base:Nat} {ok:Nat→Prop} {v:Value} {xs:List α} (h:IsS92 w0 W g f0 f1 f2) (ho:d.R e W base ok v xs) (ht:∀ q,q ∈ e :: d.E→q≠92):d.R e W base (fun k=>ok k∧k≠g) v xs:=by
 obtain ⟨A0,c0,hb,hg,hr0⟩:=h;exact Kd.R_types ho hb ht
theorem IsS92.own_ne {w0 W:World} {g:Nat} {f0:List Int} {f1:Int} {f2:Int} {α:Type} {d:Kd α} {e:Nat} {base:Nat} {ok:Nat→Prop} {v:Value} {xs:List α} (h:IsS92 w0 W g f0 f1 f2) (ho:d.R e W base ok v xs) (ht:e≠92):some g≠v.ownBlock:=by
 obtain ⟨A0,c0,hb,hg,hr0⟩:=h;exact Kd.R_ne ho hb ht
theorem IsS92.lt {w0 W:World} {g:Nat} {f0:List Int} {f1:Int} {f2:Int} (h:IsS92 w0 W g f0 f1 f2):g<W.heap.size:=by
 obtain ⟨A0,c0,hb,hg,hr0⟩:=h;exact blk_lt hb
theorem IsS92.ge {w0 W:World} {g:Nat} {f0:List Int} {f1:Int} {f2:Int} (h:IsS92 w0 W g f0 f1 f2):w0.heap.size≤g:=by
 obtain ⟨A0,c0,hb,hg,hr0⟩:=h;exact hg
theorem IsS92.ne_blk {w0 W:World} {g:Nat} {f0:List Int} {f1:Int} {f2:Int} {a:Nat} {cs:Array Value} {t:TypeId} {fr:Nat×Nat} (h:IsS92 w0 W g f0 f1 f2) (hb2:W.heap[a]?=some (.cells cs t fr)) (ht:t≠92):g≠a:=by
 obtain ⟨A0,c0,hb,hg,hr0⟩:=h;rintro rfl;rw[hb] at hb2;injection hb2 with hb2
 injection hb2 with _ ht2
 exact ht ht2.symm
theorem IsS92.far {w0 W:World} {g:Nat} {f0:List Int} {f1:Int} {f2:Int} {p:Addr} (h:IsS92 w0 W g f0 f1 f2) (hne:g≠p.block) (u:Value):IsS92 w0 (W.setCell p u) g f0 f1 f2:=by
 obtain ⟨A0,c0,hb,hg,hr0⟩:=h;exact⟨A0,c0,blk_far hb hne u,hg,hr0⟩
theorem cellS92_0 {W:World} {g:Nat} {A0:Option Addr} {c0:Nat} {f0:List Int} {f1:Int} {f2:Int} (h:W.heap[g]?=some (.cells #[.slice A0 f0.length c0,.int .i64 f1,.int .u64 f2] 92 (0,0))):W.cell? ⟨g,0,none⟩=some (.slice A0 f0.length c0):=(blk_cell h 0).trans rfl
theorem cellS92_1 {W:World} {g:Nat} {A0:Option Addr} {c0:Nat} {f0:List Int} {f1:Int} {f2:Int} (h:W.heap[g]?=some (.cells #[.slice A0 f0.length c0,.int .i64 f1,.int .u64 f2] 92 (0,0))):W.cell? ⟨g,1,none⟩=some (.int .i64 f1):=(blk_cell h 1).trans rfl
theorem IsS92.set_1 {w0 W:World} {g:Nat} {f0:List Int} {f1:Int} {f2:Int} (h:IsS92 w0 W g f0 f1 f2) (x:Int):IsS92 w0 (W.setCell ⟨g,1,none⟩ (.int .i64 x)) g f0 x f2:=by
 obtain ⟨A0,c0,hb,hg,hr0⟩:=h;exact⟨A0,c0,by simpa using blk_set hb 1 (.int .i64 x),hg,hr0⟩
theorem cellS92_2 {W:World} {g:Nat} {A0:Option Addr} {c0:Nat} {f0:List Int} {f1:Int} {f2:Int} (h:W.heap[g]?=some (.cells #[.slice A0 f0.length c0,.int .i64 f1,.int .u64 f2] 92 (0,0))):W.cell? ⟨g,2,none⟩=some (.int .u64 f2):=(blk_cell h 2).trans rfl
theorem IsS92.set_2 {w0 W:World} {g:Nat} {f0:List Int} {f1:Int} {f2:Int} (h:IsS92 w0 W g f0 f1 f2) (x:Int):IsS92 w0 (W.setCell ⟨g,2,none⟩ (.int .u64 x)) g f0 f1 x:=by
 obtain ⟨A0,c0,hb,hg,hr0⟩:=h;exact⟨A0,c0,by simpa using blk_set hb 2 (.int .u64 x),hg,hr0⟩
theorem IsS92.new (w0 W:World) (A0:Option Addr) (c0:Nat) (f0:List Int) (f1:Int) (f2:Int) (hB:Below w0.heap.size w0 W) (hr0:Kd.C (Kd.int .u8) w0 A0 f0.length f0):IsS92 w0 (W.alloc (.cells #[.slice A0 f0.length c0,.int .i64 f1,.int .u64 f2] 92)) W.heap.size f0 f1 f2:=⟨A0,c0,by simpa using heap_alloc_new W _,hB.size,hr0⟩
theorem IsS92.ch {w0 a b:World} {g:Nat} {f0 f0':List Int} {f1 f1':Int} {f2 f2':Int} (h:IsS92 w0 a g f0 f1 f2) (k:IsS92 w0 a g f0 f1 f2→IsS92 w0 b g f0' f1' f2':=by intro h_;repeat(first|(with_reducible first|exact h_|apply IsS92.alloc|apply IsS92.drewN|apply IsS92.drew|apply IsS92.set_1|apply IsS92.set_2|refine IsS92.far ?_ (Aside0.out (by assumption)) _)|exact h_)):IsS92 w0 b g f0' f1' f2':=k h
def spec_l01From.l0:Nat→List Int→Int→List Int→Int→Int→Option (List Int×Int×Int)
 |0,_,_,_,_,_=>none
 |k+1,x0,x4,x302000,x302001,x302002=>if x4<(x0.length:Int) then (if x4<4096 then (if 0≤x4 then (spec_l01From.l0 k x0 (wrap64 (x4+1)) x302000 x302001 (IntKind.u64.wrap ((IntKind.u64.wrap ((IntKind.u64.wrap (x302002*1099511628211))+(IntKind.u64.wrap (rd x0 x4))))+173))) else (none)) else (some (x302000,x302001,x302002))) else (some (x302000,x302001,x302002))
def spec_l01From.f (k:Nat) (l0:List Int):Option (List Int×Int×Int):=spec_l01From.l0 k l0 0 l0 0 (IntKind.u64.wrap (13481+(IntKind.u64.wrap ((l0.length:Int)))))
theorem spec_l01From.mono_l:∀ k,(∀ y0 y1 y2 y3 y4,LeO (spec_l01From.l0 k y0 y1 y2 y3 y4) (spec_l01From.l0 (k+1) y0 y1 y2 y3 y4))
 |0=>fun _ _ _ _ _ r h=>by simp [spec_l01From.l0] at h
 |k+1=>by
  have ih0:=spec_l01From.mono_l k
  ·intro y0 y1 y2 y3 y4;unfold spec_l01From.l0;repeat' first
   |(with_reducible first|exact ih0 _ _ _ _ _|exact LeO.refl _|exact LeO.none _|refine LeO.ite ?_ ?_|refine LeO.bind ?_ (fun _=>?_))
theorem spec_l01From.mono:∀ a0 k,LeO (spec_l01From.f k a0) (spec_l01From.f (k+1) a0):=by
 intro a0 k;have ih0:=spec_l01From.mono_l k;unfold spec_l01From.f;repeat' first
   |(with_reducible first|exact ih0 _ _ _ _ _|exact LeO.refl _|exact LeO.none _|refine LeO.ite ?_ ?_|refine LeO.bind ?_ (fun _=>?_))
def spec_l01From.T5:Bool×List (List Nat×List Nat):=(true,[([],[]),([],[]),([1],[1]),([2],[2]),([3],[3]),([4],[4]),([],[]),([],[]),([6,7],[6,7]),([8],[8]),([9],[9]),([5,10],[5,10]),([11],[11]),([0,0,1,2,3,4,5,6,7,8,9,10,11,12],[0]),([13,0,1,2,3,4,5,6,7,8,9,10,11,12],[13]),([14,12,0,1,2,3,4,5,6,7,8,9,10,11,12],[12,14])])
def spec_l01From.B5:List Nat:= [0,0,2,6,14,30,0,0,192,448,960,2046,4094,8191,16383,32767]
theorem spec_l01From.tab5:rtab .any (opsOf Tryz.f66 5)=spec_l01From.T5:=by kernel_rfl
theorem spec_l01From.bits5:waitsOk spec_l01From.T5.2 spec_l01From.B5=true:=by kernel_rfl
set_option maxHeartbeats 8000000 in
set_option maxRecDepth 100000 in
theorem spec_l01From.calls (k:Nat) (A0:Option Addr) (c0:Nat) (l0:List Int) (r1:List Int) (r2:Int) (r3:Int) (w0 w:World) (hB:Below w0.heap.size w0 w) (hr0:Kd.C (Kd.int .u8) w0 A0 l0.length l0) (hc0:l0.length≤c0) (h:spec_l01From.f k l0=some (r1,r2,r3)) :
  Calls Tryz.prog 66 #[.slice A0 l0.length c0] w fun e w'=>∃ g_:Nat,e = .returned (.pointer (some ⟨g_,0,none⟩))∧IsS92 w0 w' g_ r1 r2 r3∧Below w0.heap.size w0 w'∧Below w.heap.size w w':=by
 have hu92:=Tryz.underlying92;have HR0:=Aside0.mk hr0;have HC0:=Aside0.mk hc0;clear hr0 hc0;have HBW:=Aside0.mk (Below.refl w.heap.size w);have HW0:=Aside0.mk hB.size;have HB:=Aside0.mk hB;clear hB;have H:(spec_l01From.l0 k l0 0 l0 0 (IntKind.u64.wrap (13481+(IntKind.u64.wrap ((l0.length:Int))))))=some (r1,r2,r3):=h;clear h;have H':=Aside0.mk H;clear H;go_enter Tryz.func66,Tryz.ntmps66;go_wp2_with (first|((with_reducible refine gate_dst (N:=11) rfl ?_);refine bx 11 #[.slice A0 l0.length c0,.int .i64 0,.int .u64 (IntKind.u64.wrap (13481+(IntKind.u64.wrap ((l0.length:Int)))))] 92 ?_;intro gb301 hg w2 hbox hb;replace HB:=bsA HB hb;have BK301:=Aside0.mk (hbox);have GW301:=gzA hg HBW;have GE301:=Aside0.mk ((Nat.le_trans HW0.out (by rw[hg];exact(below_size (bl HBW.out)):w.heap.size≤gb301):w0.heap.size≤gb301));replace HBW:=Aside0.mk (below_step HBW.out hb);clear hb hbox hg))
 go_loopg [4] k (fun kq v4 w'=>∃(x4_1:Int) (x302002_1:Int),v4 = .int .i64 x4_1∧Aside0 (spec_l01From.l0 kq l0 x4_1 l0 0 x302002_1=some (r1,r2,r3))∧Aside0 (kq≤k)∧Aside0 (w'.heap[gb301]?=some (.cells #[(.slice A0 l0.length c0),.int .i64 0,.int .u64 x302002_1] 92 (0,0)))∧Aside0 (Below w0.heap.size w0 w')∧Aside0 (Below w.heap.size w w'))
 case atStart=>exact⟨(0),(IntKind.u64.wrap (13481+(IntKind.u64.wrap ((l0.length:Int))))),rs,H',⟨Nat.le_refl _⟩,⟨bk BK301.out⟩,⟨bl HB.out⟩,⟨bl HBW.out⟩⟩
 case round=>
  clear H';try clear p2
  obtain ⟨x4_1,x302002_1,rfl,HA,HK1,BK301,HB,HBW⟩:=hrel;cases gk with
  |zero=>exact absurd HA.out (by simp [spec_l01From.l0])
  |succ k1=>
   have H:=HA.out;clear HA;simp only [spec_l01From.l0] at H;by_cases c3:x4_1<(l0.length:Int)
   ·rw[if_pos c3] at H;have c3b0:decide (x4_1<(l0.length:Int))=true:=decide_eq_true c3;clear c3;by_cases c4:x4_1<4096
    ·rw[if_pos c4] at H;have c4b0:decide (x4_1<4096)=true:=decide_eq_true c4;clear c4;by_cases c5:0≤x4_1
     ·rw[if_pos c5] at H;have c5b0:decide (0≤x4_1)=true:=decide_eq_true c5;clear c5;have H':=Aside0.mk H;clear H;try go_wp2
      have n0_:=Aside0.mk (blk_drew BK301.out);have n1_:=Aside0.mk (below_drew1 HB.out);have nw_:=Aside0.mk (below_drew1 HBW.out);clear BK301;clear HB;clear HBW;have BK301:=n0_;have HB:=n1_;have HBW:=nw_;clear nw_;clear n0_ n1_;have p302:0≤(x4_1:Int):=dd;have q302:x4_1<(l0.length:Int):=dd;obtain ⟨ad302,e302,hx302_0⟩:=Kd.at_int HR0.out x4_1 p302 q302;have hw302_0:=hx302_0;cases e302;replace hx302_0:=pw_cell_below HB.out hx302_0;replace p302:=eq_true p302;replace q302:=eq_true q302;refine start_ (n:=16) (S:=fun w'=>w'.cell? ⟨gb301,0,none⟩=some (.slice (some ad302) l0.length c0)∧w'.cell? ⟨gb301,1,none⟩=some (.int .i64 0)∧w'.cell? ⟨gb301,2,none⟩=some (.int .u64 x302002_1)∧w'.cell? (ad302.add (x4_1).toNat)=some (.int .u8 (rd l0 x4_1))) (ds:= [15]) (ar 0 16) (by kernel_rfl) rfl rfl ⟨(blk_cell BK301.out 0).trans rfl,(blk_cell BK301.out 1).trans rfl,(blk_cell BK301.out 2).trans rfl,((HB.out.cell (World.block_lt_of_cell? w0 _ hw302_0)).trans hw302_0)⟩ (fun hHeld=>?_);refine with_tabW spec_l01From.tab5 spec_l01From.bits5 (fun HT_ HW_=>?_);generalize wr.drew=w6 at BK301 HB HBW hx302_0 hHeld ⊢;refine pu 0 (some 22) (ar 1 15) HT_ ?_;refine pu 1 (some 23) (ar 2 14) HT_ ?_;refine pu 2 (some 24) (ar 3 13) HT_ ?_;refine pu 3 (some 25) (ar 4 12) HT_ ?_;refine pu 6 (some 28) #[U,U,U,U,O,O,U,O,O,O,O,O,O,O,O,O] HT_ ?_;refine pu 7 (some 29) #[U,U,U,U,O,O,U,U,O,O,O,O,O,O,O,O] HT_ ?_;refine pu 8 (some 30) #[U,U,U,U,O,O,U,U,U,O,O,O,O,O,O,O] HT_ ?_;refine tk 4 (some 26) #[U,U,U,U,U,O,U,U,U,O,O,O,O,O,O,O] HT_ HW_ hHeld ?_;refine pu 5 (some 27) (ar 9 7) HT_ ?_;refine tk 9 (some 31) (ar 10 6) HT_ HW_ hHeld ?_;refine pu 10 (some 32) (ar 11 5) HT_ ?_;refine pu 11 (some 33) (ar 12 4) HT_ ?_;refine pu 12 (some 34) (ar 13 3) HT_ ?_;refine pu 13 (some 35) (ar 14 2) HT_ ?_;refine pu 14 (some 36) (ar 15 1) HT_ ?_;refine last_ (i:=15) (N:=none) (ar 16 0) rfl rfl (one_of HT_.out (by kernel_rfl)) (by decide) (fun K hK=>?_);have hs7:w6.cell? ⟨gb301,2,none⟩=some (.int .u64 x302002_1):=(blk_cell BK301.out 2).trans rfl;have hfs7:=blk_frozen BK301.out 2;refine skip_ (w1:=?_) (by rfl) rfl ?_ ?_;rotate_left
      ·go_simp;rfl
      refine hK.out _ _ ?_;clear hK K;refine done_ (done_of HT_.out (by kernel_rfl)) ?_;try go_wp2
      go_roundg k1
      case measure=>have:=HK1.out;omega
      case rel=>exact⟨(wrap64 (x4_1+1)),(IntKind.u64.wrap ((IntKind.u64.wrap ((IntKind.u64.wrap (x302002_1*1099511628211))+(IntKind.u64.wrap (rd l0 x4_1))))+173)),rs,H',⟨by have:=HK1.out;omega⟩,⟨bp BK301.out⟩,⟨bl HB.out⟩,⟨bl HBW.out⟩⟩
     ·rw[if_neg c5] at H;exact absurd H (by simp)
    ·rw[if_neg c4] at H;have c4b0:decide (x4_1<4096)=false:=decide_eq_false c4;clear c4;simp only [Option.some.injEq,Prod.mk.injEq] at H;obtain ⟨rfl,rfl,rfl⟩:=H;go_wp2
     go_ret;exact⟨_,rfl,(show IsS92 w0 _ gb301 l0 0 x302002_1 from ⟨_,_,by(with_reducible repeat(first|refine blk_drewN ?_ _|refine blk_drew ?_|refine blk_alloc ?_ _));exact BK301.out,GE301.out,HR0.out⟩),bl HB.out,bl HBW.out⟩
   ·rw[if_neg c3] at H;have c3b0:decide (x4_1<(l0.length:Int))=false:=decide_eq_false c3;clear c3;simp only [Option.some.injEq,Prod.mk.injEq] at H;obtain ⟨rfl,rfl,rfl⟩:=H;go_wp2
    go_ret;exact⟨_,rfl,(show IsS92 w0 _ gb301 l0 0 x302002_1 from ⟨_,_,by(with_reducible repeat(first|refine blk_drewN ?_ _|refine blk_drew ?_|refine blk_alloc ?_ _));exact BK301.out,GE301.out,HR0.out⟩),bl HB.out,bl HBW.out⟩
end Go.Proofs.YtbnnamejnjfkjaaGreat.Q
end

section
namespace Go.Proofs.YtbnnamejnjfkjaaGreat.Q
open Go.RowKit Go.Proofs.YtbnnamejnjfkjaaGreatW.PrintWords Go.Proofs.YtbnnamejnjfkjaaGreatW.PrintLast Go.Proofs.YtbnnamejnjfkjaaGreatW.PrintMore
attribute [local go_sem] max2_int min2_int max_two min_two max_three min_three max_four min_four
set_option linter.unusedVariables false
set_option linter.unusedSimpArgs false
def spec_l01Next.f (s0_0:List Int) (s0_1:Int) (s0_2:Int) (a1:Int):Option (Int×Int×Int):=if a1<1 then (some (0,s0_1,s0_2)) else (if s0_1<(s0_0.length:Int) then (if 0≤s0_1 then (if a1=0 then (none) else (some (Int.tmod (wrap64 ((wrap64 (Go.bits .and .u64 ((IntKind.u64.wrap ((IntKind.u64.wrap (s0_2*6364136223846793005))+1442695040888963407)) / 8589934592) 16777215))+(wrap64 (rd s0_0 s0_1)))) a1,wrap64 (s0_1+1),IntKind.u64.wrap ((IntKind.u64.wrap (s0_2*6364136223846793005))+1442695040888963407)))) else (none)) else (if a1=0 then (none) else (some (Int.tmod (wrap64 (Go.bits .and .u64 ((IntKind.u64.wrap ((IntKind.u64.wrap (s0_2*6364136223846793005))+1442695040888963407)) / 8589934592) 16777215)) a1,s0_1,IntKind.u64.wrap ((IntKind.u64.wrap (s0_2*6364136223846793005))+1442695040888963407)))))
set_option maxHeartbeats 8000000 in
set_option maxRecDepth 100000 in
theorem spec_l01Next.calls (g:Nat) (s0_0:List Int) (s0_1:Int) (s0_2:Int) (a1:Int) (r1:Int) (r2:Int) (r3:Int) (w0 w:World) (hI:IsS92 w0 w g s0_0 s0_1 s0_2) (hB:Below w0.heap.size w0 w) (h:spec_l01Next.f s0_0 s0_1 s0_2 a1=some (r1,r2,r3)) :
  Calls Tryz.prog 67 #[.pointer (some ⟨g,0,none⟩),.int .i64 a1] w fun e w'=>e = .returned (.int .i64 r1)∧IsS92 w0 w' g s0_0 r2 r3∧Below w0.heap.size w0 w'∧KeepBut w w' g none:=by
 have HI0:=Aside0.mk hI;have HK:=Aside0.mk (KeepBut.refl w g none);have HL:=Aside0.mk hB.size;clear hI;have HW0:=Aside0.mk hB.size;have HB:=Aside0.mk hB;clear hB;have H:(if a1<1 then (some (0,s0_1,s0_2)) else (if s0_1<(s0_0.length:Int) then (if 0≤s0_1 then (if a1=0 then (none) else (some (Int.tmod (wrap64 ((wrap64 (Go.bits .and .u64 ((IntKind.u64.wrap ((IntKind.u64.wrap (s0_2*6364136223846793005))+1442695040888963407)) / 8589934592) 16777215))+(wrap64 (rd s0_0 s0_1)))) a1,wrap64 (s0_1+1),IntKind.u64.wrap ((IntKind.u64.wrap (s0_2*6364136223846793005))+1442695040888963407)))) else (none)) else (if a1=0 then (none) else (some (Int.tmod (wrap64 (Go.bits .and .u64 ((IntKind.u64.wrap ((IntKind.u64.wrap (s0_2*6364136223846793005))+1442695040888963407)) / 8589934592) 16777215)) a1,s0_1,IntKind.u64.wrap ((IntKind.u64.wrap (s0_2*6364136223846793005))+1442695040888963407))))))=some (r1,r2,r3):=h;clear h;by_cases c3:a1<1
 ·rw[if_pos c3] at H;have c3b0:decide (a1<1)=true:=decide_eq_true c3;clear c3;simp only [Option.some.injEq,Prod.mk.injEq] at H;obtain ⟨rfl,rfl,rfl⟩:=H;go_enter Tryz.func67,Tryz.ntmps67;go_wp2
  repeat(go_quiet (fail);try go_wp2)
  go_ret;exact⟨rr,IsS92.ch HI0.out,blg HB.out (IsS92.ge HI0.out),kp HK.out⟩
 ·rw[if_neg c3] at H;have c3b0:decide (a1<1)=false:=decide_eq_false c3;clear c3;by_cases c4:s0_1<(s0_0.length:Int)
  ·rw[if_pos c4] at H;have c4b0:decide (s0_1<(s0_0.length:Int))=true:=decide_eq_true c4;clear c4;by_cases c5:0≤s0_1
   ·rw[if_pos c5] at H;have c5b0:decide (0≤s0_1)=true:=decide_eq_true c5;clear c5;by_cases c6:a1=0
    ·rw[if_pos c6] at H;exact absurd H (by simp)
    ·rw[if_neg c6] at H;have c6b0:(a1 == 0)=false:=beq_eq_false_iff_ne.mpr c6;have c6b1:(a1 != 0)=true:=bne_iff_ne.mpr c6;simp only [Option.some.injEq,Prod.mk.injEq] at H;obtain ⟨rfl,rfl,rfl⟩:=H;obtain ⟨ASz7_0,cSz7_0,HGz7,hgz7,HSz7_0⟩:=HI0.out;have hcz7_0:=cellS92_0 HGz7;have hcz7_1:=cellS92_1 HGz7;have hcz7_2:=cellS92_2 HGz7;have hfz7_1:=blk_frozen HGz7 1;have hfz7_2:=blk_frozen HGz7 2;clear HGz7 hgz7;have p303:0≤(s0_1:Int):=dd;have q303:s0_1<(s0_0.length:Int):=dd;obtain ⟨ad303,e303,hx303_0⟩:=Kd.at_int HSz7_0 s0_1 p303 q303;cases e303;have hn303_0:ad303.block≠g:=Nat.ne_of_lt (Nat.lt_of_lt_of_le (by have:=World.block_lt_of_cell? _ _ hx303_0;first|rwa [add_block] at this|exact this) (IsS92.ge HI0.out));replace hx303_0:=pw_cell_below HB.out hx303_0;replace hx303_0:=(cell_far (p:=⟨g,2,none⟩) (by first|(rw[add_block];exact hn303_0)|(show (Addr.add _ _).block≠_;rw[add_block];exact hn303_0)|exact hn303_0) (.int .u64 (IntKind.u64.wrap ((IntKind.u64.wrap (s0_2*6364136223846793005))+1442695040888963407)))).trans hx303_0;(try have hy303_0:=fun(n_:Nat)=>(show (((w.drewN n_).setCell ⟨g,2,none⟩ (.int .u64 (IntKind.u64.wrap ((IntKind.u64.wrap (s0_2*6364136223846793005))+1442695040888963407))))).cell? _=some _ from hx303_0))
     clear hn303_0;replace p303:=eq_true p303;replace q303:=eq_true q303;go_enter Tryz.func67,Tryz.ntmps67;go_wp2
     repeat(go_quiet (fail);try go_wp2)
     go_ret;exact⟨rr,IsS92.ch HI0.out,blg HB.out (IsS92.ge HI0.out),kp HK.out⟩
   ·rw[if_neg c5] at H;exact absurd H (by simp)
  ·rw[if_neg c4] at H;have c4b0:decide (s0_1<(s0_0.length:Int))=false:=decide_eq_false c4;clear c4;by_cases c8:a1=0
   ·rw[if_pos c8] at H;exact absurd H (by simp)
   ·rw[if_neg c8] at H;have c8b0:(a1 == 0)=false:=beq_eq_false_iff_ne.mpr c8;have c8b1:(a1 != 0)=true:=bne_iff_ne.mpr c8;simp only [Option.some.injEq,Prod.mk.injEq] at H;obtain ⟨rfl,rfl,rfl⟩:=H;obtain ⟨ASz9_0,cSz9_0,HGz9,hgz9,HSz9_0⟩:=HI0.out;have hcz9_0:=cellS92_0 HGz9;have hcz9_1:=cellS92_1 HGz9;have hcz9_2:=cellS92_2 HGz9;have hfz9_1:=blk_frozen HGz9 1;have hfz9_2:=blk_frozen HGz9 2;clear HGz9 hgz9;go_enter Tryz.func67,Tryz.ntmps67;go_wp2
    repeat(go_quiet (fail);try go_wp2)
    go_ret;exact⟨rr,IsS92.ch HI0.out,blg HB.out (IsS92.ge HI0.out),kp HK.out⟩
def spec_l01Pick.f (s0_0:List Int) (s0_1:Int) (s0_2:Int) (l1:List Int):Option (Int×Int×Int):=(spec_l01Next.f s0_0 s0_1 s0_2 (l1.length:Int)).bind fun bt304=>(if 0≤bt304.1 then (if bt304.1<(l1.length:Int) then (some (rd l1 bt304.1,bt304.2.1,bt304.2.2)) else (none)) else (none))
set_option maxHeartbeats 8000000 in
set_option maxRecDepth 100000 in
theorem spec_l01Pick.calls (g:Nat) (s0_0:List Int) (s0_1:Int) (s0_2:Int) (A1:Option Addr) (c1:Nat) (l1:List Int) (r1:Int) (r2:Int) (r3:Int) (w0 w:World) (hI:IsS92 w0 w g s0_0 s0_1 s0_2) (hB:Below w0.heap.size w0 w) (hr1:Kd.C (Kd.int .i64) w A1 l1.length l1) (hc1:l1.length≤c1) (hf1:∀ ad,A1=some ad→0<l1.length→ad.block≠g) (h:spec_l01Pick.f s0_0 s0_1 s0_2 l1=some (r1,r2,r3)) :
  Calls Tryz.prog 81 #[.pointer (some ⟨g,0,none⟩),.slice A1 l1.length c1] w fun e w'=>e = .returned (.int .i64 r1)∧IsS92 w0 w' g s0_0 r2 r3∧Below w0.heap.size w0 w'∧KeepBut w w' g none:=by
 have HR1:=Aside0.mk hr1;have HC1:=Aside0.mk hc1;clear hr1 hc1;have HI0:=Aside0.mk hI;have HK:=Aside0.mk (KeepBut.refl w g none);have HL:=Aside0.mk hB.size;clear hI;have HW0:=Aside0.mk hB.size;have HB:=Aside0.mk hB;clear hB;have H:((spec_l01Next.f s0_0 s0_1 s0_2 (l1.length:Int)).bind fun bt304=>(if 0≤bt304.1 then (if bt304.1<(l1.length:Int) then (some (rd l1 bt304.1,bt304.2.1,bt304.2.2)) else (none)) else (none)))=some (r1,r2,r3):=h;clear h;replace H:=Option.bind_eq_some_iff.mp H;obtain ⟨⟨t304,t305,t306⟩,A30,H⟩:=H;replace H:(if 0≤t304 then (if t304<(l1.length:Int) then (some (rd l1 t304,t305,t306)) else (none)) else (none))=some (r1,r2,r3):=H;have A3:=Aside0.mk A30;clear A30;by_cases c4:0≤t304
 ·rw[if_pos c4] at H;have c4b0:decide (0≤t304)=true:=decide_eq_true c4;clear c4;by_cases c5:t304<(l1.length:Int)
  ·rw[if_pos c5] at H;have c5b0:decide (t304<(l1.length:Int))=true:=decide_eq_true c5;clear c5;simp only [Option.some.injEq,Prod.mk.injEq] at H;obtain ⟨rfl,rfl,rfl⟩:=H;go_enter Tryz.func81,Tryz.ntmps81;go_wp2_with (first|((with_reducible refine gate_callee (f:=67) rfl ?_);refine gl (some 9) Tryz.func67 #[.pointer (some ⟨g,0,none⟩),.int .i64 (l1.length:Int)] ?_;(with_reducible refine(spec_l01Next.calls g s0_0 s0_1 s0_2 (l1.length:Int) t304 t305 t306 w0 _ (IsS92.ch HI0.out) (blg HB.out (IsS92.ge HI0.out)) A3.out).mono ?_);rintro e w6 ⟨rfl,hi,hb,hk⟩;refine⟨_,rfl,?_⟩;replace HK:=Aside0.mk (KeepBut.trans (kp HK.out) hk (.inl rfl));replace HB:=Aside0.mk (hb);replace HI0:=Aside0.mk (hi);(try clear hb);(try clear hb2);(try clear hk);(try clear hi);have p307:0≤(t304:Int):=dd;have q307:t304<(l1.length:Int):=dd;obtain ⟨ad307,e307,hx307_0⟩:=Kd.at_int HR1.out t304 p307 q307;cases e307;replace hx307_0:=keep_cell HK.out hx307_0 (by first|(rw[add_block];exact hf1 _ rfl (by omega))|exact hf1 _ rfl (by omega)|exact hf1 ad307 rfl (by omega));replace p307:=eq_true p307;replace q307:=eq_true q307))
   go_ret;exact⟨rr,IsS92.ch HI0.out,blg HB.out (IsS92.ge HI0.out),kp HK.out⟩
  ·rw[if_neg c5] at H;exact absurd H (by simp)
 ·rw[if_neg c4] at H;exact absurd H (by simp)
end Go.Proofs.YtbnnamejnjfkjaaGreat.Q
end

section
namespace Go.Proofs.YtbnnamejnjfkjaaGreat.Q
open Go.RowKit Go.Proofs.YtbnnamejnjfkjaaGreatW.PrintWords Go.Proofs.YtbnnamejnjfkjaaGreatW.PrintLast Go.Proofs.YtbnnamejnjfkjaaGreatW.PrintMore
attribute [local go_sem] max2_int min2_int max_two min_two max_three min_three max_four min_four
set_option linter.unusedVariables false
set_option linter.unusedSimpArgs false
def spec_l01Near.f (s0_0:List Int) (s0_1:Int) (s0_2:Int) (a1:Int):Option (Int×Int×Int):=(spec_l01Next.f s0_0 s0_1 s0_2 14).bind fun bt459=>(if bt459.1=0 then ((spec_l01Pick.f s0_0 bt459.2.1 bt459.2.2 (([(-1),wrap64 (a1+1),1099511627776,(-4611686018427387904)]:List Int))).bind fun bt465=>(some (bt465.1,bt465.2.1,bt465.2.2))) else ((spec_l01Next.f s0_0 bt459.2.1 bt459.2.2 (wrap64 (a1+1))).bind fun bt468=>(some (bt468.1,bt468.2.1,bt468.2.2))))
set_option maxHeartbeats 8000000 in
set_option maxRecDepth 100000 in
theorem spec_l01Near.calls (g:Nat) (s0_0:List Int) (s0_1:Int) (s0_2:Int) (a1:Int) (r1:Int) (r2:Int) (r3:Int) (w0 w:World) (hI:IsS92 w0 w g s0_0 s0_1 s0_2) (hB:Below w0.heap.size w0 w) (h:spec_l01Near.f s0_0 s0_1 s0_2 a1=some (r1,r2,r3)) :
  Calls Tryz.prog 90 #[.pointer (some ⟨g,0,none⟩),.int .i64 a1] w fun e w'=>e = .returned (.int .i64 r1)∧IsS92 w0 w' g s0_0 r2 r3∧Below w0.heap.size w0 w'∧KeepBut w w' g none:=by
 have HI0:=Aside0.mk hI;have HK:=Aside0.mk (KeepBut.refl w g none);have HL:=Aside0.mk hB.size;clear hI;have HW0:=Aside0.mk hB.size;have HB:=Aside0.mk hB;clear hB;have H:((spec_l01Next.f s0_0 s0_1 s0_2 14).bind fun bt459=>(if bt459.1=0 then ((spec_l01Pick.f s0_0 bt459.2.1 bt459.2.2 (([(-1),wrap64 (a1+1),1099511627776,(-4611686018427387904)]:List Int))).bind fun bt465=>(some (bt465.1,bt465.2.1,bt465.2.2))) else ((spec_l01Next.f s0_0 bt459.2.1 bt459.2.2 (wrap64 (a1+1))).bind fun bt468=>(some (bt468.1,bt468.2.1,bt468.2.2)))))=some (r1,r2,r3):=h;clear h;replace H:=Option.bind_eq_some_iff.mp H;obtain ⟨⟨t459,t460,t461⟩,A30,H⟩:=H;replace H:(if t459=0 then ((spec_l01Pick.f s0_0 t460 t461 (([(-1),wrap64 (a1+1),1099511627776,(-4611686018427387904)]:List Int))).bind fun bt465=>(some (bt465.1,bt465.2.1,bt465.2.2))) else ((spec_l01Next.f s0_0 t460 t461 (wrap64 (a1+1))).bind fun bt468=>(some (bt468.1,bt468.2.1,bt468.2.2))))=some (r1,r2,r3):=H;have A3:=Aside0.mk A30;clear A30;by_cases c4:t459=0
 ·rw[if_pos c4] at H;have c4b0:(t459 == 0)=true:=beq_iff_eq.mpr c4;have c4b1:(t459 != 0)=false:=bne_eq_false_iff_eq.mpr c4;clear c4;obtain ⟨y462,hy462⟩:∃ y_:List Int,y_=(([(-1),wrap64 (a1+1),1099511627776,(-4611686018427387904)]:List Int)):=⟨_,rfl⟩
  replace H:((spec_l01Pick.f s0_0 t460 t461 y462).bind fun bt465=>(some (bt465.1,bt465.2.1,bt465.2.2)))=some (r1,r2,r3):=by first|(rw[hy462];with_reducible exact H)|(have H2_:=(Option.bind_some _ _).symm.trans H;rw[hy462];with_reducible exact H2_)|(have H2_:=(Option.bind_some _ _).symm.trans H;with_reducible exact H2_)|with_reducible exact H|(rw[hy462];exact H)|exact H
  have Ny462:=Aside0.mk hy462;clear hy462;replace H:=Option.bind_eq_some_iff.mp H;obtain ⟨⟨t465,t466,t467⟩,A50,H⟩:=H;replace H:(some (t465,t466,t467))=some (r1,r2,r3):=H;have A5:=Aside0.mk A50;clear A50;simp only [Option.some.injEq,Prod.mk.injEq] at H;obtain ⟨rfl,rfl,rfl⟩:=H;go_enter Tryz.func90,Tryz.ntmps90;go_wp2_with (first|((with_reducible refine gate_callee (f:=67) rfl ?_);refine gl (some 6) Tryz.func67 #[.pointer (some ⟨g,0,none⟩),.int .i64 14] ?_;(with_reducible refine(spec_l01Next.calls g s0_0 s0_1 s0_2 14 t459 t460 t461 w0 _ (IsS92.ch HI0.out) (blg HB.out (IsS92.ge HI0.out)) A3.out).mono ?_);rintro e w6 ⟨rfl,hi,hb,hk⟩;refine⟨_,rfl,?_⟩;replace HK:=Aside0.mk (KeepBut.trans (kp HK.out) hk (.inl rfl));replace HB:=Aside0.mk (hb);replace HI0:=Aside0.mk (hi);(try clear hb);(try clear hb2);(try clear hk);(try clear hi))|((with_reducible refine gate_dst (N:=11) rfl ?_);refine Kd.R_lit (Kd.int .i64) _ 2 ?hg (N:=11) ?hd (xs:=([(-1),wrap64 (a1+1),1099511627776,(-4611686018427387904)]:List Int)) (inner:= [.int .i64 (-1),.int .i64 (wrap64 (a1+1)),.int .i64 1099511627776,.int .i64 (-4611686018427387904)]) (ok:=fun _=>True) (okp:=fun _=>True) ?hr ?hp (fun _ hk=>hk) trivial (Below.refl _ _) (Nat.le_refl _) (by simp) ?_;(case hd=>rfl);(case hg=>rfl);(case hr=>first|(go_simp;done)|(go_simp;rfl));(case hp=>exact(Reps.one (show Kd.M (Kd.int .i64) _ _ _ (-1) [.int .i64 (-1)] from rfl) (Reps.one (show Kd.M (Kd.int .i64) _ _ _ (wrap64 (a1+1)) [.int .i64 (wrap64 (a1+1))] from rfl) (Reps.one (show Kd.M (Kd.int .i64) _ _ _ 1099511627776 [.int .i64 1099511627776] from rfl) (Reps.one (show Kd.M (Kd.int .i64) _ _ _ (-4611686018427387904) [.int .i64 (-4611686018427387904)] from rfl) (Reps.none _ _))))));intro v463 w7 ho8 hb hg_ hnew_;clear hg_ hnew_;(first|rw[← Ny462.out] at ho8|(simp only [Int.reduceToNat] at ho8;rw[← Ny462.out] at ho8));have HO464:=Aside0.mk (Kd.R_lower ho8 (keep_size (w:=w) (g:=g) (row:=none) (kp HK.out)));replace HK:=Aside0.mk (KeepBut.trans (kp HK.out) (KeepBut.of_below hb g none) (.inl rfl));replace HB:=Aside0.mk (below_step (blg HB.out (IsS92.ge HI0.out)) hb);replace HI0:=Aside0.mk (IsS92.below (IsS92.ch HI0.out) hb);clear hb ho8;obtain ⟨Ao9,co9,eo9⟩:=Kd.R_slice HO464.out;subst eo9)|((with_reducible refine gate_callee (f:=81) rfl ?_);refine gl (some 12) Tryz.func81 #[.pointer (some ⟨g,0,none⟩),.slice Ao9 y462.length co9] ?_;(with_reducible refine(spec_l01Pick.calls g s0_0 t460 t461 _ _ y462 t465 t466 t467 w0 _ (IsS92.ch HI0.out) (blg HB.out (IsS92.ge HI0.out)) (cb (Kd.R_reads' HO464.out).2.2) ((Kd.R_reads' HO464.out).2.1) (far_slice (IsS92.own_ne HI0.out HO464.out (by decide))) A5.out).mono ?_);rintro e w10 ⟨rfl,hi,hb,hk⟩;refine⟨_,rfl,?_⟩;replace HO464:=Aside0.mk (Kd.R_mono (Kd.R_keep (IsS92.apart (show IsS92 w0 _ g s0_0 t460 t461 from IsS92.ch HI0.out) (kr HO464.out) (by decide)) hk (fun _ h=>h.2)) (fun _ h=>h.1));replace HK:=Aside0.mk (KeepBut.trans (kp HK.out) hk (.inl rfl));replace HB:=Aside0.mk (hb);replace HI0:=Aside0.mk (hi);(try clear hb);(try clear hb2);(try clear hk);(try clear hi)))
  go_ret;exact⟨rr,IsS92.ch HI0.out,blg HB.out (IsS92.ge HI0.out),kp HK.out⟩
 ·rw[if_neg c4] at H;have c4b0:(t459 == 0)=false:=beq_eq_false_iff_ne.mpr c4;have c4b1:(t459 != 0)=true:=bne_iff_ne.mpr c4;replace H:=Option.bind_eq_some_iff.mp H;obtain ⟨⟨t468,t469,t470⟩,A110,H⟩:=H;replace H:(some (t468,t469,t470))=some (r1,r2,r3):=H;have A11:=Aside0.mk A110;clear A110;simp only [Option.some.injEq,Prod.mk.injEq] at H;obtain ⟨rfl,rfl,rfl⟩:=H;go_enter Tryz.func90,Tryz.ntmps90;go_wp2_with (first|((with_reducible refine gate_callee (f:=67) rfl ?_);refine gl (some 6) Tryz.func67 #[.pointer (some ⟨g,0,none⟩),.int .i64 14] ?_;(with_reducible refine(spec_l01Next.calls g s0_0 s0_1 s0_2 14 t459 t460 t461 w0 _ (IsS92.ch HI0.out) (blg HB.out (IsS92.ge HI0.out)) A3.out).mono ?_);rintro e w12 ⟨rfl,hi,hb,hk⟩;refine⟨_,rfl,?_⟩;replace HK:=Aside0.mk (KeepBut.trans (kp HK.out) hk (.inl rfl));replace HB:=Aside0.mk (hb);replace HI0:=Aside0.mk (hi);(try clear hb);(try clear hb2);(try clear hk);(try clear hi))|((with_reducible refine gate_callee (f:=67) rfl ?_);refine gl (some 16) Tryz.func67 #[.pointer (some ⟨g,0,none⟩),.int .i64 (wrap64 (a1+1))] ?_;(with_reducible refine(spec_l01Next.calls g s0_0 t460 t461 (wrap64 (a1+1)) t468 t469 t470 w0 _ (IsS92.ch HI0.out) (blg HB.out (IsS92.ge HI0.out)) A11.out).mono ?_);rintro e w13 ⟨rfl,hi,hb,hk⟩;refine⟨_,rfl,?_⟩;replace HK:=Aside0.mk (KeepBut.trans (kp HK.out) hk (.inl rfl));replace HB:=Aside0.mk (hb);replace HI0:=Aside0.mk (hi);(try clear hb);(try clear hb2);(try clear hk);(try clear hi)))
  go_ret;exact⟨rr,IsS92.ch HI0.out,blg HB.out (IsS92.ge HI0.out),kp HK.out⟩
def laws_likeInts.l0:Nat→List Int→List Int→Int→Option (Bool)
 |0,_,_,_=>none
 |k+1,x0,x1,x5=>if x5<(x0.length:Int) then (if 0≤x5 then (if x5<(x1.length:Int) then (if (rd x0 x5)=(rd x1 x5) then (laws_likeInts.l0 k x0 x1 (wrap64 (x5+1))) else (some false)) else (none)) else (none)) else (some true)
def laws_likeInts.f (k:Nat) (l0:List Int) (l1:List Int):Option (Bool):=if (l0.length:Int)=(l1.length:Int) then (laws_likeInts.l0 k l0 l1 0) else (some false)
theorem laws_likeInts.mono_l:∀ k,(∀ y0 y1 y2,LeO (laws_likeInts.l0 k y0 y1 y2) (laws_likeInts.l0 (k+1) y0 y1 y2))
 |0=>fun _ _ _ r h=>by simp [laws_likeInts.l0] at h
 |k+1=>by
  have ih0:=laws_likeInts.mono_l k
  ·intro y0 y1 y2;unfold laws_likeInts.l0;repeat' first
   |(with_reducible first|exact ih0 _ _ _|exact LeO.refl _|exact LeO.none _|refine LeO.ite ?_ ?_|refine LeO.bind ?_ (fun _=>?_))
theorem laws_likeInts.mono:∀ a0 a1 k,LeO (laws_likeInts.f k a0 a1) (laws_likeInts.f (k+1) a0 a1):=by
 intro a0 a1 k;have ih0:=laws_likeInts.mono_l k;unfold laws_likeInts.f;repeat' first
   |(with_reducible first|exact ih0 _ _ _|exact LeO.refl _|exact LeO.none _|refine LeO.ite ?_ ?_|refine LeO.bind ?_ (fun _=>?_))
set_option maxHeartbeats 8000000 in
set_option maxRecDepth 100000 in
theorem laws_likeInts.calls (k:Nat) (A0:Option Addr) (c0:Nat) (l0:List Int) (A1:Option Addr) (c1:Nat) (l1:List Int) (r:Bool) (w:World) (hr0:Kd.C (Kd.int .i64) w A0 l0.length l0) (hc0:l0.length≤c0) (hr1:Kd.C (Kd.int .i64) w A1 l1.length l1) (hc1:l1.length≤c1) (h:laws_likeInts.f k l0 l1=some r) :
  Calls Tryz.prog 34 #[.slice A0 l0.length c0,.slice A1 l1.length c1] w fun e w'=>e = .returned (.bool r)∧Drawn0 w w':=by
 have HR0:=Aside0.mk hr0;have HC0:=Aside0.mk hc0;clear hr0 hc0;have HR1:=Aside0.mk hr1;have HC1:=Aside0.mk hc1;clear hr1 hc1;have H:(if (l0.length:Int)=(l1.length:Int) then (laws_likeInts.l0 k l0 l1 0) else (some false))=some r:=h;clear h;by_cases c3:(l0.length:Int)=(l1.length:Int)
 ·rw[if_pos c3] at H;have c3b0:((l0.length:Int) == (l1.length:Int))=true:=beq_iff_eq.mpr c3;have c3b1:((l0.length:Int) != (l1.length:Int))=false:=bne_eq_false_iff_eq.mpr c3;have c3b2:(l0.length == l1.length)=true:=by first|simpa using c3|(simp at c3 ⊢;omega)
  clear c3;have H':=Aside0.mk H;clear H;go_enter Tryz.func34,Tryz.ntmps34;go_wp2
  repeat(go_quiet (fail);try go_wp2)
  go_loopg [5] k (fun kq v5 w'=>∃(x5_1:Int),v5 = .int .i64 x5_1∧Aside0 (laws_likeInts.l0 kq l0 l1 x5_1=some r)∧Aside0 (kq≤k)∧Drawn0 w w')
  case atStart=>exact⟨(0),rs,H',⟨Nat.le_refl _⟩,by repeat(first|exact Drawn0.refl _|apply Drawn0.step)⟩
  case round=>
   clear H';try clear c1
   try clear p2
   try clear c3
   try clear c3b0
   try clear c3b1
   try clear c3b2
   obtain ⟨x5_1,rfl,HA,HK1,⟨m1,rfl⟩⟩:=hrel;cases gk with
   |zero=>exact absurd HA.out (by simp [laws_likeInts.l0])
   |succ k1=>
    have H:=HA.out;clear HA;simp only [laws_likeInts.l0] at H;by_cases c4:x5_1<(l0.length:Int)
    ·rw[if_pos c4] at H;have c4b0:decide (x5_1<(l0.length:Int))=true:=decide_eq_true c4;clear c4;by_cases c5:0≤x5_1
     ·rw[if_pos c5] at H;have c5b0:decide (0≤x5_1)=true:=decide_eq_true c5;clear c5;by_cases c6:x5_1<(l1.length:Int)
      ·rw[if_pos c6] at H;have c6b0:decide (x5_1<(l1.length:Int))=true:=decide_eq_true c6;clear c6;by_cases c7:(rd l0 x5_1)=(rd l1 x5_1)
       ·rw[if_pos c7] at H;have c7b0:((rd l0 x5_1) == (rd l1 x5_1))=true:=beq_iff_eq.mpr c7;have c7b1:((rd l0 x5_1) != (rd l1 x5_1))=false:=bne_eq_false_iff_eq.mpr c7;clear c7;have H':=Aside0.mk H;clear H;have p536:0≤(x5_1:Int):=dd;have q536:x5_1<(l0.length:Int):=dd;obtain ⟨ad536,e536,hx536_0⟩:=Kd.at_int HR0.out x5_1 p536 q536;cases e536;replace p536:=eq_true p536;replace q536:=eq_true q536;have p537:0≤(x5_1:Int):=dd;have q537:x5_1<(l1.length:Int):=dd;obtain ⟨ad537,e537,hx537_0⟩:=Kd.at_int HR1.out x5_1 p537 q537;cases e537;replace p537:=eq_true p537;replace q537:=eq_true q537;go_wp2
        repeat(go_quiet (fail);try go_wp2)
        go_roundg k1
        case measure=>have:=HK1.out;omega
        case rel=>exact⟨(wrap64 (x5_1+1)),rs,H',⟨by have:=HK1.out;omega⟩,by repeat(first|exact Drawn0.refl _|apply Drawn0.step)⟩
       ·rw[if_neg c7] at H;have c7b0:((rd l0 x5_1) == (rd l1 x5_1))=false:=beq_eq_false_iff_ne.mpr c7;have c7b1:((rd l0 x5_1) != (rd l1 x5_1))=true:=bne_iff_ne.mpr c7;obtain rfl:=Option.some.inj H;have p536:0≤(x5_1:Int):=dd;have q536:x5_1<(l0.length:Int):=dd;obtain ⟨ad536,e536,hx536_0⟩:=Kd.at_int HR0.out x5_1 p536 q536;cases e536;replace p536:=eq_true p536;replace q536:=eq_true q536;have p537:0≤(x5_1:Int):=dd;have q537:x5_1<(l1.length:Int):=dd;obtain ⟨ad537,e537,hx537_0⟩:=Kd.at_int HR1.out x5_1 p537 q537;cases e537;replace p537:=eq_true p537;replace q537:=eq_true q537;go_wp2
        repeat(go_quiet (fail);try go_wp2)
        go_ret;exact⟨rs,by repeat(first|exact Drawn0.refl _|apply Drawn0.step)⟩
      ·rw[if_neg c6] at H;exact absurd H (by simp)
     ·rw[if_neg c5] at H;exact absurd H (by simp)
    ·rw[if_neg c4] at H;have c4b0:decide (x5_1<(l0.length:Int))=false:=decide_eq_false c4;clear c4;obtain rfl:=Option.some.inj H;go_wp2
     repeat(go_quiet (fail);try go_wp2)
     go_ret;exact⟨rs,by repeat(first|exact Drawn0.refl _|apply Drawn0.step)⟩
 ·rw[if_neg c3] at H;have c3b0:((l0.length:Int) == (l1.length:Int))=false:=beq_eq_false_iff_ne.mpr c3;have c3b1:((l0.length:Int) != (l1.length:Int))=true:=bne_iff_ne.mpr c3;have c3b2:(l0.length == l1.length)=false:=by first|simpa using c3|(simp at c3 ⊢;omega)
  obtain rfl:=Option.some.inj H;go_enter Tryz.func34,Tryz.ntmps34;go_wp2
  repeat(go_quiet (fail);try go_wp2)
  go_ret;exact⟨rs,by repeat(first|exact Drawn0.refl _|apply Drawn0.step)⟩
end Go.Proofs.YtbnnamejnjfkjaaGreat.Q
end

section
namespace Go.Proofs.YtbnnamejnjfkjaaGreat.Q
open Go.RowKit Go.Proofs.YtbnnamejnjfkjaaGreatW.PrintWords Go.Proofs.YtbnnamejnjfkjaaGreatW.PrintLast Go.Proofs.YtbnnamejnjfkjaaGreatW.PrintMore
attribute [local go_sem] max2_int min2_int max_two min_two max_three min_three max_four min_four
set_option linter.unusedVariables false
set_option linter.unusedSimpArgs false
def laws_big.f (l0:List Int):Option (Bool):=some (decide ((l0.length:Int)>4096))
set_option maxHeartbeats 8000000 in
set_option maxRecDepth 100000 in
theorem laws_big.calls (A0:Option Addr) (c0:Nat) (l0:List Int) (r:Bool) (w:World) (hr0:Kd.C (Kd.int .u8) w A0 l0.length l0) (hc0:l0.length≤c0) (h:laws_big.f l0=some r) :
  Calls Tryz.prog 5 #[.slice A0 l0.length c0] w fun e w'=>e = .returned (.bool r)∧Drawn0 w w':=by
 have HR0:=Aside0.mk hr0;have HC0:=Aside0.mk hc0;clear hr0 hc0;have H:(some (decide ((l0.length:Int)>4096)))=some r:=h;clear h;obtain rfl:=Option.some.inj H;go_enter Tryz.func5,Tryz.ntmps5;go_wp2
 go_ret;exact⟨rs,by repeat(first|exact Drawn0.refl _|apply Drawn0.step)⟩
def impl_Complex_full.f (a0_0:Int) (l0_1:List Int):Option (Int):=if 0≤a0_0 then (some (wrap64 ((shl .i64 1 a0_0) - 1))) else (none)
set_option maxHeartbeats 8000000 in
set_option maxRecDepth 100000 in
theorem impl_Complex_full.calls (a0_0:Int) (A0_1:Option Addr) (c0_1:Nat) (l0_1:List Int) (r:Int) (w:World) (hr0_1:Kd.C (Kd.int .i64) w A0_1 l0_1.length l0_1) (hc0_1:l0_1.length≤c0_1) (h:impl_Complex_full.f a0_0 l0_1=some r) :
  Calls Tryz.prog 79 #[.agg #[.int .i64 a0_0,.slice A0_1 l0_1.length c0_1]] w fun e w'=>e = .returned (.int .i64 r)∧Below w.heap.size w w':=by
 have hu26:=Tryz.underlying26;have HR0_1:=Aside0.mk hr0_1;have HC0_1:=Aside0.mk hc0_1;clear hr0_1 hc0_1;have HB:=Aside0.mk (Below.refl w.heap.size w);have H:(if 0≤a0_0 then (some (wrap64 ((shl .i64 1 a0_0) - 1))) else (none))=some r:=h;clear h;by_cases c2:0≤a0_0
 ·rw[if_pos c2] at H;have c2b0:=eq_true c2;have c2b1:decide (0≤a0_0)=true:=decide_eq_true c2;clear c2;obtain ⟨ji3,hji3⟩:∃ j_:Int,(shl .i64 1 a0_0)=j_:=⟨_,rfl⟩
  replace H:(some (wrap64 ((ji3) - 1)))=some r:=by first|(rw[hji3] at H;exact H)|(simp only [hji3] at H ⊢;exact H)
  have hji3_:(IntKind.i64.wrap (1*2 ^ min a0_0.toNat 64))=ji3:=hji3;have hji3z:a0_0≤64→(IntKind.i64.wrap (1*2 ^ a0_0.toNat))=ji3:=shl_small hji3;have hji3u:(IntKind.i64.wrap (2 ^ min a0_0.toNat 64))=ji3:=by have h_:=hji3_;rw[Int.one_mul] at h_;exact h_
  have hji3v:a0_0≤64→(IntKind.i64.wrap (2 ^ a0_0.toNat))=ji3:=fun hle_=>by have h_:=hji3z hle_;rw[Int.one_mul] at h_;exact h_
  have hji3y:(wrap64 (1*2 ^ min a0_0.toNat 64))=ji3:=(i64_w _).symm.trans hji3_;have hji3x:a0_0≤64→(wrap64 (1*2 ^ a0_0.toNat))=ji3:=fun h_=>(i64_w _).symm.trans (hji3z h_)
  obtain rfl:=Option.some.inj H;go_enter Tryz.func79,Tryz.ntmps79;go_wp2_with (first|((with_reducible refine gate_dst (N:=1) rfl ?_);refine bx 1 #[.int .i64 a0_0,.slice A0_1 l0_1.length c0_1] 26 ?_;intro gb541 hg w4 hbox hb;have BK541:=Aside0.mk (hbox);have GE541:=gzA hg HB;replace HB:=bsA HB hb;clear hb hbox hg;have hcz5_0:=z0_ BK541;have hcz5_1:=z1_ BK541;have hfz5_0:=hf_ BK541 0;have hfz5_1:=hf_ BK541 1))
  go_ret;exact⟨by first|rfl|(simp [errW_none,errW_some] <;> rfl)|(simp only [← hji3];first|rfl|(simp [errW_none,errW_some] <;> rfl))|(simp [*,errW_none,errW_some] <;> rfl),bl HB.out⟩
 ·rw[if_neg c2] at H;exact absurd H (by simp)
def impl_isIn.f (a0:Int) (a1:Int):Option (Bool):=some ((Go.bits .andNot .i64 a0 a1) == 0)
set_option maxHeartbeats 8000000 in
set_option maxRecDepth 100000 in
theorem impl_isIn.calls (a0:Int) (a1:Int) (r:Bool) (w:World) (h:impl_isIn.f a0 a1=some r) :
  Calls Tryz.prog 64 #[.int .i64 a0,.int .i64 a1] w fun e w'=>e = .returned (.bool r)∧Drawn0 w w':=by
 have H:(some ((Go.bits .andNot .i64 a0 a1) == 0))=some r:=h;clear h;obtain rfl:=Option.some.inj H;go_enter Tryz.func64,Tryz.ntmps64;go_wp2
 go_ret;exact⟨rs,by repeat(first|exact Drawn0.refl _|apply Drawn0.step)⟩
def impl_within.f (a0:Int) (a1:Int) (a2:Int):Option (Bool):=if a1≤a0 then (some (decide (a0≤a2))) else (some false)
set_option maxHeartbeats 8000000 in
set_option maxRecDepth 100000 in
theorem impl_within.calls (a0:Int) (a1:Int) (a2:Int) (r:Bool) (w:World) (h:impl_within.f a0 a1 a2=some r) :
  Calls Tryz.prog 93 #[.int .i64 a0,.int .i64 a1,.int .i64 a2] w fun e w'=>e = .returned (.bool r)∧Drawn0 w w':=by
 have H:(if a1≤a0 then (some (decide (a0≤a2))) else (some false))=some r:=h;clear h;by_cases c4:a1≤a0
 ·rw[if_pos c4] at H;have c4b0:decide (a1≤a0)=true:=decide_eq_true c4;clear c4;obtain rfl:=Option.some.inj H;go_enter Tryz.func93,Tryz.ntmps93;go_wp2
  go_ret;exact⟨rs,by repeat(first|exact Drawn0.refl _|apply Drawn0.step)⟩
 ·rw[if_neg c4] at H;have c4b0:decide (a1≤a0)=false:=decide_eq_false c4;clear c4;obtain rfl:=Option.some.inj H;go_enter Tryz.func93,Tryz.ntmps93;go_wp2
  go_ret;exact⟨rs,by repeat(first|exact Drawn0.refl _|apply Drawn0.step)⟩
def impl_isSize.f (a0:Int):Option (Bool):=(impl_within.f a0 1 6).bind fun t542=>(some t542)
set_option maxHeartbeats 8000000 in
set_option maxRecDepth 100000 in
theorem impl_isSize.calls (a0:Int) (r:Bool) (w:World) (h:impl_isSize.f a0=some r) :
  Calls Tryz.prog 128 #[.int .i64 a0] w fun e w'=>e = .returned (.bool r)∧Drawn0 w w':=by
 have H:((impl_within.f a0 1 6).bind fun t542=>(some t542))=some r:=h;clear h;replace H:=Option.bind_eq_some_iff.mp H;obtain ⟨t542,A20,H⟩:=H;replace H:(some t542)=some r:=H;have A2:=Aside0.mk A20;clear A20;obtain rfl:=Option.some.inj H;go_enter Tryz.func128,Tryz.ntmps128;go_wp2_with (first|((with_reducible refine gate_callee (f:=93) rfl ?_);refine gl (some 4) Tryz.func93 #[.int .i64 a0,.int .i64 1,.int .i64 6] ?_;(with_reducible refine(impl_within.calls a0 1 6 t542 _ A2.out).mono ?_);rintro e w' ⟨rfl,⟨nd,rfl⟩⟩;refine⟨_,rfl,?_⟩))
 go_ret;exact⟨rs,by repeat(first|exact Drawn0.refl _|apply Drawn0.step)⟩
def impl_vertices.l0:Nat→Int→List Int→Int→Option (List Int)
 |0,_,_,_=>none
 |k+1,x0,x3,x5=>if x5<6 then (if 0≤x5 then (if (Go.bits .and .i64 (shr .i64 x0 x5) 1)=1 then (if x3.length<17592186044416 then (impl_vertices.l0 k x0 (x3 ++ [x5]) (wrap64 (x5+1))) else (none)) else (impl_vertices.l0 k x0 x3 (wrap64 (x5+1)))) else (none)) else (some x3)
def impl_vertices.f (k:Nat) (a0:Int):Option (List Int):=impl_vertices.l0 k a0 ([]:List Int) 0
theorem impl_vertices.mono_l:∀ k,(∀ y0 y1 y2,LeO (impl_vertices.l0 k y0 y1 y2) (impl_vertices.l0 (k+1) y0 y1 y2))
 |0=>fun _ _ _ r h=>by simp [impl_vertices.l0] at h
 |k+1=>by
  have ih0:=impl_vertices.mono_l k
  ·intro y0 y1 y2;unfold impl_vertices.l0;repeat' first
   |(with_reducible first|exact ih0 _ _ _|exact LeO.refl _|exact LeO.none _|refine LeO.ite ?_ ?_|refine LeO.bind ?_ (fun _=>?_))
theorem impl_vertices.mono:∀ a0 k,LeO (impl_vertices.f k a0) (impl_vertices.f (k+1) a0):=by
 intro a0 k;have ih0:=impl_vertices.mono_l k;unfold impl_vertices.f;repeat' first
   |(with_reducible first|exact ih0 _ _ _|exact LeO.refl _|exact LeO.none _|refine LeO.ite ?_ ?_|refine LeO.bind ?_ (fun _=>?_))
set_option maxHeartbeats 8000000 in
set_option maxRecDepth 100000 in
theorem impl_vertices.calls (k:Nat) (a0:Int) (r:List Int) (w:World) (h:impl_vertices.f k a0=some r) :
  Calls Tryz.prog 131 #[.int .i64 a0] w fun e w'=>∃ v0_:Value,e = .returned (v0_)∧Kd.R (Kd.int .i64) 2 w' w.heap.size (fun _=>True) v0_ r∧Below w.heap.size w w':=by
 have HB:=Aside0.mk (Below.refl w.heap.size w);have H:(impl_vertices.l0 k a0 ([]:List Int) 0)=some r:=h;clear h;have H':=Aside0.mk H;clear H;go_enter Tryz.func131,Tryz.ntmps131;go_wp2
 go_loopg [3,5] k (fun kq v3 v5 w'=>∃(x3_1:List Int) (x5_1:Int),v5 = .int .i64 x5_1∧Aside0 (impl_vertices.l0 kq a0 x3_1 x5_1=some r)∧Aside0 (kq≤k)∧Aside0 (Kd.R (Kd.int .i64) 2 w' w.heap.size (fun _=>True) v3 x3_1)∧Aside0 (Below w.heap.size w w'))
 case atStart=>exact⟨(([]:List Int)),(0),rs,H',⟨Nat.le_refl _⟩,⟨by first|exact Kd.R_nil _ _ _ _ _|exact Kd.N_nil _ _ _ _ _|exact Kd.V_nil _ _ _ _ _|exact Kd.Q_nil _ _ _ _ _|exact Kd.S_nil _ _ _ _ _⟩,⟨bl HB.out⟩⟩
 case round=>
  clear H';try clear c1
  obtain ⟨x3_1,x5_1,rfl,HA,HK1,HO_3,HB⟩:=hrel;cases gk with
  |zero=>exact absurd HA.out (by simp [impl_vertices.l0])
  |succ k1=>
   have H:=HA.out;clear HA;simp only [impl_vertices.l0] at H;by_cases c2:x5_1<6
   ·rw[if_pos c2] at H;have c2b0:decide (x5_1<6)=true:=decide_eq_true c2;clear c2;by_cases c3:0≤x5_1
    ·rw[if_pos c3] at H;have c3b0:=eq_true c3;have c3b1:decide (0≤x5_1)=true:=decide_eq_true c3;clear c3;obtain ⟨ji4,hji4⟩:∃ j_:Int,(shr .i64 a0 x5_1)=j_:=⟨_,rfl⟩
     replace H:(if (Go.bits .and .i64 (ji4) 1)=1 then (if x3_1.length<17592186044416 then (impl_vertices.l0 k1 a0 (x3_1 ++ [x5_1]) (wrap64 (x5_1+1))) else (none)) else (impl_vertices.l0 k1 a0 x3_1 (wrap64 (x5_1+1))))=some r:=by first|(rw[hji4] at H;exact H)|(simp only [hji4] at H ⊢;exact H)
     have hji4_:(a0 / 2 ^ min x5_1.toNat 64)=ji4:=hji4;have hji4z:x5_1≤64→(a0 / 2 ^ x5_1.toNat)=ji4:=shr_small hji4;by_cases c5:(Go.bits .and .i64 (ji4) 1)=1
     ·rw[if_pos c5] at H;have c5b0:((Go.bits .and .i64 (ji4) 1) == 1)=true:=beq_iff_eq.mpr c5;have c5b1:((Go.bits .and .i64 (ji4) 1) != 1)=false:=bne_eq_false_iff_eq.mpr c5;clear c5;by_cases c6:x3_1.length<17592186044416
      ·rw[if_pos c6] at H;have LMc6:=Aside0.mk c6;clear c6;obtain ⟨y543,hy543⟩:∃ y_:List Int,y_=(x3_1 ++ [x5_1]):=⟨_,rfl⟩
       replace H:(impl_vertices.l0 k1 a0 y543 (wrap64 (x5_1+1)))=some r:=by first|(rw[hy543];with_reducible exact H)|(have H2_:=(Option.bind_some _ _).symm.trans H;rw[hy543];with_reducible exact H2_)|(have H2_:=(Option.bind_some _ _).symm.trans H;with_reducible exact H2_)|with_reducible exact H|(rw[hy543];exact H)|exact H
       have Ny543:=Aside0.mk hy543;clear hy543;have H':=Aside0.mk H;clear H;go_wp2_with (first|((with_reducible refine gate_builtin (b:= .append) (xs:=#[.tmp 13,.tmp 15]) rfl ?_);at_builtin;refine Kd.R_append (Kd.int .i64) (w0:=w) w.heap.size rfl (.tmp 13) (.tmp 15) 24 2 (.int .i64 0) 8 rfl Tryz.underlying24 info2 rfl (by decide) (by omega) u3 x3_1 x5_1 [.int .i64 x5_1] (fun _=>True) (fun _=>False) rfl rfl ?aP (fun _ hk=>hk.elim) ?aF ?aO ?aB ?aS ?aL ?_;(case aP=>exact rfl);(case aB=>exact(bl HB.out));(case aF=>exact(fun _ _=>trivial));(case aO=>exact(kr HO_3.out));(case aS=>exact(below_size (bl HB.out)));(case aL=>have:=LMc6.out;omega);intro v544 w7 ho hb hg hat;rw[← Ny543.out] at ho;have n0_:=Aside0.mk (hb);have n1_:=Aside0.mk (ho);clear HB;clear HO_3;have HB:=n0_;have HO545:=n1_;clear n0_ n1_;clear ho hb hg hat))
       go_roundg k1
       case measure=>have:=HK1.out;omega
       case rel=>exact⟨(y543),(wrap64 (x5_1+1)),rs,H',⟨by have:=HK1.out;omega⟩,⟨kr HO545.out⟩,⟨bl HB.out⟩⟩
      ·rw[if_neg c6] at H;exact absurd H (by simp)
     ·rw[if_neg c5] at H;have c5b0:((Go.bits .and .i64 (ji4) 1) == 1)=false:=beq_eq_false_iff_ne.mpr c5;have c5b1:((Go.bits .and .i64 (ji4) 1) != 1)=true:=bne_iff_ne.mpr c5;have H':=Aside0.mk H;clear H;go_wp2
      go_roundg k1
      case measure=>have:=HK1.out;omega
      case rel=>exact⟨(x3_1),(wrap64 (x5_1+1)),rs,H',⟨by have:=HK1.out;omega⟩,⟨kr HO_3.out⟩,⟨bl HB.out⟩⟩
    ·rw[if_neg c3] at H;exact absurd H (by simp)
   ·rw[if_neg c2] at H;have c2b0:decide (x5_1<6)=false:=decide_eq_false c2;clear c2;obtain rfl:=Option.some.inj H;go_wp2
    go_ret;exact⟨_,rr,by(with_reducible repeat(first|apply Kd.R_alloc|apply Kd.R_drewN|apply Kd.R_drew));exact HO_3.out,bl HB.out⟩
def cmp_isNaN_int64.f (a0:Int):Option (Bool):=some (a0 != a0)
set_option maxHeartbeats 8000000 in
set_option maxRecDepth 100000 in
theorem cmp_isNaN_int64.calls (a0:Int) (r:Bool) (w:World) (h:cmp_isNaN_int64.f a0=some r) :
  Calls Tryz.prog 166 #[.int .i64 a0] w fun e w'=>e = .returned (.bool r)∧Drawn0 w w':=by
 have H:(some (a0 != a0))=some r:=h;clear h;obtain rfl:=Option.some.inj H;go_enter Tryz.func166,Tryz.ntmps166;go_wp2
 go_ret;exact⟨rs,by repeat(first|exact Drawn0.refl _|apply Drawn0.step)⟩
def cmp_Less_int64.f (a0:Int) (a1:Int):Option (Bool):=(cmp_isNaN_int64.f a0).bind fun t546=>(if t546=true then ((cmp_isNaN_int64.f a1).bind fun t547=>(if t547=true then (some (decide (a0<a1))) else (some true))) else (some (decide (a0<a1))))
set_option maxHeartbeats 8000000 in
set_option maxRecDepth 100000 in
theorem cmp_Less_int64.calls (a0:Int) (a1:Int) (r:Bool) (w:World) (h:cmp_Less_int64.f a0 a1=some r) :
  Calls Tryz.prog 147 #[.int .i64 a0,.int .i64 a1] w fun e w'=>e = .returned (.bool r)∧Drawn0 w w':=by
 have H:((cmp_isNaN_int64.f a0).bind fun t546=>(if t546=true then ((cmp_isNaN_int64.f a1).bind fun t547=>(if t547=true then (some (decide (a0<a1))) else (some true))) else (some (decide (a0<a1)))))=some r:=h;clear h;replace H:=Option.bind_eq_some_iff.mp H;obtain ⟨t546,A30,H⟩:=H;replace H:(if t546=true then ((cmp_isNaN_int64.f a1).bind fun t547=>(if t547=true then (some (decide (a0<a1))) else (some true))) else (some (decide (a0<a1))))=some r:=H;have A3:=Aside0.mk A30;clear A30;by_cases c4:t546=true
 ·subst c4;have H1:((cmp_isNaN_int64.f a1).bind fun t547=>(if t547=true then (some (decide (a0<a1))) else (some true)))=some r:=by rw[if_pos rfl] at H;exact H
  clear H;have H:=H1;clear H1;replace H:=Option.bind_eq_some_iff.mp H;obtain ⟨t547,A50,H⟩:=H;replace H:(if t547=true then (some (decide (a0<a1))) else (some true))=some r:=H;have A5:=Aside0.mk A50;clear A50;by_cases c6:t547=true
  ·subst c6;have H1:(some (decide (a0<a1)))=some r:=by rw[if_pos rfl] at H;exact H
   clear H;have H:=H1;clear H1;obtain rfl:=Option.some.inj H;go_enter Tryz.func147,Tryz.ntmps147;go_wp2_with (first|((with_reducible refine gate_callee (f:=166) rfl ?_);refine gl (some 6) Tryz.func166 #[.int .i64 a0] ?_;(with_reducible refine(cmp_isNaN_int64.calls a0 true _ A3.out).mono ?_);rintro e w' ⟨rfl,⟨nd,rfl⟩⟩;refine⟨_,rfl,?_⟩)|(go_at_call 166;(with_reducible refine(cmp_isNaN_int64.calls a1 true _ A5.out).mono ?_);rintro e w' ⟨rfl,⟨nd,rfl⟩⟩))
   go_ret;exact⟨rs,by repeat(first|exact Drawn0.refl _|apply Drawn0.step)⟩
  ·replace c6:=Bool.eq_false_iff.mpr c6;subst c6;have H1:(some true)=some r:=by rw[if_neg (show ¬ (false=true) by decide)] at H;exact H
   clear H;have H:=H1;clear H1;obtain rfl:=Option.some.inj H;go_enter Tryz.func147,Tryz.ntmps147;go_wp2_with (first|((with_reducible refine gate_callee (f:=166) rfl ?_);refine gl (some 6) Tryz.func166 #[.int .i64 a0] ?_;(with_reducible refine(cmp_isNaN_int64.calls a0 true _ A3.out).mono ?_);rintro e w' ⟨rfl,⟨nd,rfl⟩⟩;refine⟨_,rfl,?_⟩)|(go_at_call 166;(with_reducible refine(cmp_isNaN_int64.calls a1 false _ A5.out).mono ?_);rintro e w' ⟨rfl,⟨nd,rfl⟩⟩))
   go_ret;exact⟨rs,by repeat(first|exact Drawn0.refl _|apply Drawn0.step)⟩
 ·replace c4:=Bool.eq_false_iff.mpr c4;subst c4;have H1:(some (decide (a0<a1)))=some r:=by rw[if_neg (show ¬ (false=true) by decide)] at H;exact H
  clear H;have H:=H1;clear H1;obtain rfl:=Option.some.inj H;go_enter Tryz.func147,Tryz.ntmps147;go_wp2_with (first|((with_reducible refine gate_callee (f:=166) rfl ?_);refine gl (some 6) Tryz.func166 #[.int .i64 a0] ?_;(with_reducible refine(cmp_isNaN_int64.calls a0 false _ A3.out).mono ?_);rintro e w' ⟨rfl,⟨nd,rfl⟩⟩;refine⟨_,rfl,?_⟩))
  go_ret;exact⟨rs,by repeat(first|exact Drawn0.refl _|apply Drawn0.step)⟩
def slices_isNaN_int64.f (a0:Int):Option (Bool):=some (a0 != a0)
set_option maxHeartbeats 8000000 in
set_option maxRecDepth 100000 in
theorem slices_isNaN_int64.calls (a0:Int) (r:Bool) (w:World) (h:slices_isNaN_int64.f a0=some r) :
  Calls Tryz.prog 148 #[.int .i64 a0] w fun e w'=>e = .returned (.bool r)∧Drawn0 w w':=by
 have H:(some (a0 != a0))=some r:=h;clear h;obtain rfl:=Option.some.inj H;go_enter Tryz.func148,Tryz.ntmps148;go_wp2
 go_ret;exact⟨rs,by repeat(first|exact Drawn0.refl _|apply Drawn0.step)⟩
end Go.Proofs.YtbnnamejnjfkjaaGreat.Q
end

section
namespace Go.Proofs.YtbnnamejnjfkjaaGreat.K
open Go.RowKit Go.Shelf Go.Proofs.YtbnnamejnjfkjaaGreat.Q Go.Proofs.YtbnnamejnjfkjaaGreatW.PrintWords Go.Proofs.YtbnnamejnjfkjaaGreatW.PrintLast Go.Proofs.YtbnnamejnjfkjaaGreatW.PrintMore
set_option linter.unusedVariables false
set_option linter.unusedSimpArgs false
def vbit (f v:Int):Bool:=decide (Go.bits .and .i64 (shr .i64 f v) 1=1)
def verts (f:Int):List Int:= [0,1,2,3,4,5].filter (vbit f)
theorem verts_step (k:Nat) (f:Int) (acc:List Int) (i:Int) (h0:0≤i) (h6:i<6) (ha:acc.length<100) :
  impl_vertices.l0 (k+1) f acc i=impl_vertices.l0 k f (acc ++ [i].filter (vbit f)) (i+1):=by
 have hw:wrap64 (i+1)=i+1:=by unfold wrap64;omega
 simp only [impl_vertices.l0]
 rw[if_pos h6,if_pos h0,hw]
 by_cases hb:Go.bits .and .i64 (shr .i64 f i) 1=1
 ·rw[if_pos hb,if_pos (by omega)]
  simp [vbit,hb]
 ·rw[if_neg hb]
  simp [vbit,hb]
theorem verts_is (f:Int):impl_vertices.f 7 f=some (verts f):=by
 unfold impl_vertices.f
 have hl:∀(i:Int),([i].filter (vbit f)).length≤1:=fun i=>by have:=List.length_filter_le (vbit f) [i];simpa using this
 rw[verts_step _ _ _ _ (by omega) (by omega) (by simp),verts_step _ _ _ _ (by omega) (by omega) (by have:=hl 0;simp;omega),
  verts_step _ _ _ _ (by omega) (by omega) (by have:=hl 0;have:=hl 1;simp;omega),
  verts_step _ _ _ _ (by omega) (by omega) (by have:=hl 0;have:=hl 1;have:=hl 2;simp;omega),
  verts_step _ _ _ _ (by omega) (by omega) (by have:=hl 0;have:=hl 1;have:=hl 2;have:=hl 3;simp;omega),
  verts_step _ _ _ _ (by omega) (by omega) (by have:=hl 0;have:=hl 1;have:=hl 2;have:=hl 3;have:=hl 4;simp;omega)]
 simp only [impl_vertices.l0]
 rw[if_neg (by omega)]
 congr 1
 unfold verts
 rw[show ([0,1,2,3,4,5]:List Int) = [0] ++ [1] ++ [2] ++ [3] ++ [4] ++ [5] from rfl]
 simp only [List.filter_append,List.nil_append]
 rfl
theorem verts_range (f v:Int) (h:v ∈ verts f):0≤v∧v<6:=by
 unfold verts at h
 have:=(List.mem_filter.1 h).1
 simp at this
 omega
theorem vertices_calls (f:Int) (w:World) :
  Calls Tryz.prog 131 #[I f] w fun e w'=>∃ v,e = .returned v∧Ki.R 2 w' w.heap.size (fun _=>True) v (verts f)∧Grew w w':=
 impl_vertices.calls 7 f (verts f) w (verts_is f)
end Go.Proofs.YtbnnamejnjfkjaaGreat.K
end

section
namespace Go.Proofs.YtbnnamejnjfkjaaGreat.K
open Go.RowKit Go.Shelf Go.Proofs.YtbnnamejnjfkjaaGreatW.PrintWords Go.Proofs.YtbnnamejnjfkjaaGreatW.PrintLast Go.Proofs.YtbnnamejnjfkjaaGreatW.PrintMore
set_option linter.unusedVariables false
set_option linter.unusedSimpArgs false
attribute [local go_sem] Oper.semAt_some
def without (f v:Int):Int:=Go.bits .andNot .i64 f (IntKind.i64.wrap (2 ^ v.toNat))
def bordsOf (f:Int) (vs:List Int):List Int:=(vs.map (without f)).filter (·≠0)
def bords (f:Int):List Int:=bordsOf f (verts f).reverse
theorem info2:(Tryz.prog.info? 2).map (fun i=>(i.zero,i.size,i.bytes))=some (some (.int .i64 0),1,8):=by kernel_rfl
theorem bordsOf_snoc (f:Int) (vs:List Int) (v:Int):bordsOf f (vs ++ [v])=bordsOf f vs ++ if without f v=0 then [] else [without f v]:=by
 unfold bordsOf
 by_cases h:without f v=0 <;> simp [List.filter_cons,h]
theorem bordsOf_length (f:Int) (vs:List Int):(bordsOf f vs).length≤vs.length:=by
 unfold bordsOf
 have:=List.length_filter_le (fun x:Int=>decide (x≠0)) (vs.map (without f))
 simpa using this
theorem boxed_own' {β:Type} (B:Nat) (t:TypeId) (f:β→Value):Own (fun s W=>Boxed W B t (f s)):=fun s X Y row hs hg hrow=>
 hs.kept hg (fun e'=>by
  obtain ⟨o,ho,hc⟩:=hrow B e'.symm
  rw[show X.heap[B]?=_ from hs] at ho
  cases ho
  cases hc)
theorem own_size {β:Type} (n B:Nat):OwnFrom B (fun(_:β) W=>n≤W.heap.size):=fun _ _ _ _ hs hg _=>Nat.le_trans hs hg.size
def vxs (f:Int):List Vx:=(verts f).attach.map fun x=>⟨x.1,by have:=verts_range f x.1 x.2;omega⟩
theorem vxs_val (f:Int):(vxs f).map (·.val)=verts f:=by simp [vxs]
theorem verts_length (f:Int):(verts f).length≤6:=by
 unfold verts
 have:=List.length_filter_le (vbit f) [0,1,2,3,4,5]
 simpa using this
theorem vxs_length (f:Int):(vxs f).length≤6:=by
 have:=congrArg List.length (vxs_val f)
 have h:=verts_length f
 simp at this;omega
theorem R_Vs {W:World} {base B n:Nat} {ok:Nat→Prop} {v:Value} {zs:List Vx} (h:Ki.R 2 W base ok v (zs.map (·.val))) (hB:B<base) (hn:W.heap.size≤n):Vs B n W v zs:=by
 have ho:=Kd.own_of_R h
 rcases ho.2 with ⟨rfl,h0⟩|⟨g,cap,cur,rfl,hg,hh,r⟩
 ·left
  simp at h0
  exact⟨rfl,h0⟩
 ·right
  refine⟨g,cap,by simp,?_,by omega,fun j hj=>?_⟩
  ·have:=(Array.getElem?_eq_some_iff.1 hh).1;omega
  ·have:=(Kd.R_cell (0:Int) h (j:Int) (by omega) (by simpa using hj)).1
   simpa [rdOf,hj] using this
set_option maxRecDepth 100000 in
set_option maxHeartbeats 2000000 in
theorem borders_in (f:Int) (w:World) :
  CallsIn Fence.wide 3 Tryz.prog 130 #[I f] w fun e w'=>∃ v,e = .returned v∧Ki.R 2 w' w.heap.size (fun _=>True) v (bords f)∧Grew w w':=by
 obtain ⟨i0,hi,hz0,hz1,hz2⟩:=info_parts info2
 refine callsIn_of_wp_marks Tryz.func130 rfl trivial ?_ rfl
 simp only [Tryz.ntmps130,List.size_toArray,List.length_cons,List.length_nil,Nat.reduceAdd,Nat.reduceSub,Array.replicate_succ,Array.replicate_zero,List.push_toArray,List.append_toArray,List.nil_append,List.cons_append]
 gi_wp2
 refine⟨trivial,?_⟩
 refine(callsIn_wide.2 (vertices_calls f _)).mono ?_
 rintro e w1 ⟨v,rfl,hR,hG⟩
 have hz:w.heap.size+2≤w1.heap.size:=by have:=hG.size;simpa using this
 have hB1:Grew w w1:=(below_alloc (below_alloc (Grew.refl w) _) _).trans (hG.mono (by simp;omega))
 obtain ⟨A,c,hv⟩:=Kd.R_slice hR
 subst hv
 have bF:Boxed w1 w.heap.size 2 (I f):=blk_below (blk_alloc (blk_new w _) _) hG
 have bO:Boxed w1 (w.heap.size+1) 24 (.slice none 0 0):=by
  have:=blk_new (w.alloc (.cells #[I f] 2)) (.cells #[.slice none 0 0] 24)
  rw[World.size_alloc] at this
  exact blk_below this hG
 have hVs:Vs (w.heap.size+1) (w1.heap.size+1) w1 (.slice A (verts f).length c) (vxs f):=R_Vs (base:=w.heap.size+2) (by rw[vxs_val];simpa using hR) (by omega) (by omega)
 have HVs:=Aside0.mk hVs
 have HB1:=Aside0.mk hB1
 have HBF:=Aside0.mk bF
 have HBO:=Aside0.mk bO
 clear hVs hB1 bF bO hR hG
 gi_wp2
 refine⟨trivial,?_⟩
 refine(Backward_in Fence.wide _ trivial rfl _ _ _ _).mono ?_
 rintro e w2 ⟨rfl,rfl⟩
 gi_wp2
 have hBo:Boxed (w1.alloc (.cells #[.slice A (verts f).length c] 24)) (w.heap.size+1) 24 (.slice none 0 0):=HBO.out.alloc _
 refine wpIn_rangeFunc_ownG rfl (by omega) (gf:=167) (lb:=#[.pointer (some ⟨w1.heap.size,0,none⟩)]) rfl trivial (enters_of Tryz.func167 (by kernel_rfl) rfl)
  (Backward_stops Fence.wide _ trivial rfl (by omega) w1.heap.size (w.heap.size+1) (w1.heap.size+1) (.slice A (verts f).length c) (vxs f) (by have:=vxs_length f;omega) _ (by omega) (by omega) (by simp) (Boxed.new w1 24 _).cell
   (by
    rcases HVs.out with h|⟨b,cap,h1,h2,h3,h4⟩
    ·exact .inl h
    ·exact .inr ⟨b,cap,h1,h2,h3,fun j hj=>by
      have h5:=h4 j hj
      have hlt:b<w1.heap.size:=by
       unfold World.cell? at h5
       split at h5
       ·rename_i he;exact(Array.getElem?_eq_some_iff.1 he).1
       ·cases h5
      exact((below_alloc (Grew.refl w1) _).cell (p:=⟨b,j,none⟩) hlt).trans h5⟩))
  (fun h k=>KeptBut.t h k)
  (fun W l o o' hl ho _ _ k hk _=>by
   have:=(grownBy_putObj' W l o').block k (by have:=(Array.getElem?_eq_some_iff.1 ho).1;simp at hl;omega) (by intro e;cases e;simp at hl;omega)
   exact this)
  (Grew.refl _) (fun _=>rfl)
  (fun pre W=>((∃ v,Boxed W (w.heap.size+1) 24 v∧W.ownsRow (w1.heap.size+1) 2 1 v (bordsOf f (pre.map (·.2.val))).length ((bordsOf f (pre.map (·.2.val))).map (Value.int .i64))∧True)∧Boxed W w.heap.size 2 (I f))∧w1.heap.size+1≤W.heap.size∧Below w.heap.size w W)
  (fun _ _ _=>False)
  (OwnFrom.and (OwnFrom.and (Own.from (holdsRow_own (w1.heap.size+1) (w.heap.size+1) 24 2 1 (fun pre:List (Nat×Vx)=>(bordsOf f (pre.map (·.2.val))).length) (fun pre=>(bordsOf f (pre.map (·.2.val))).map (Value.int .i64)) (fun _ _=>True)) _) (Own.from (boxed_own' _ _ (fun _=>I f)) _)) (OwnFrom.and (own_size (w1.heap.size+1) _) (ownFrom_below (Nat.le_refl _) (by simp;omega))))
  (fun _ _ _ _ _ hs _ _=>hs)
  ⟨⟨⟨_,hBo,World.ownsRow_nil _ _ _ _,trivial⟩,HBF.out.alloc _⟩,by simp,HB1.out.trans ((below_alloc (Grew.refl w1) _).mono (by omega))⟩
  (fun x=>{ tmps:=#[I f,.pointer (some ⟨w.heap.size,0,none⟩),.slice none 0 0,.pointer (some ⟨w.heap.size+1,0,none⟩),undef,I x.2.val,undef,I f,.slice A (verts f).length c,.func (.func 167) #[] #[.pointer (some ⟨w1.heap.size,0,none⟩)],I x.1,I x.2.val,undef,undef,undef,undef,undef,undef,undef,undef,undef,undef,undef],defers:= [] }) ?assign ?body ?done ?stop
 case assign=>
  intro l x W K hK
  gi_wp2
  exact hK
 case body=>
  rintro l pre x W ⟨⟨⟨v,hv,hrow,-⟩,hF⟩,hsz,hB⟩ hlt
  have hc:=hv.cell
  have hcf:=hF.cell
  have hx:=x.2.property
  have hsn:=bordsOf_snoc f (pre.map (·.2.val)) x.2.val
  have hln:=bordsOf_length f (pre.map (·.2.val))
  have hvl:=vxs_length f
  rw[List.length_map] at hln
  generalize hb:bordsOf f (pre.map (·.2.val))=bs at hrow hsn hln
  have HSN:=Aside0.mk hsn
  have HX:=Aside0.mk hb
  clear hsn hb
  gi_wp2
  gi_region
  all_goals
   generalize hy:bits BinOp.andNot IntKind.i64 f (IntKind.i64.wrap (2 ^ x.snd.val.toNat))=y
   have HY:=Aside0.mk (show without f x.2.val=y from hy)
   clear hy
   obtain ⟨W2,hW2⟩:∃ W2,W2=W.drew:=⟨_,rfl⟩
   have hv2:Boxed W2 (w.heap.size+1) 24 v:=by rw[hW2];exact hv
   have hF2:Boxed W2 w.heap.size 2 (I f):=by rw[hW2];exact hF
   have hrow2:W2.ownsRow (w1.heap.size+1) 2 1 v bs.length (bs.map (Value.int .i64)):=by rw[hW2];exact hrow
   have hB2:Below w.heap.size w W2:=by rw[hW2];exact hB.drew
   have hs2:w1.heap.size+1≤W2.heap.size:=by rw[hW2];exact hsz
   have hKO:KeepsFrom (w1.heap.size+1) W W2:=by rw[hW2];exact⟨Nat.le_refl _,fun k o _ hk _=>hk⟩
   have hKB:KeptBut (w.heap.size+1) (w1.heap.size+1) W W2:=by rw[hW2];exact fun _ _ _=>rfl
   have hc2:=hv2.cell
   rw[← hW2]
   clear hW2 hc hcf hv hF hrow hB
   have hm1:bs.length+1≤maxLen:=by unfold maxLen;omega
   have hm2:(bs.length+1)*8≤140737488355328:=by omega
   by_cases h0:y=0
   ·subst h0
    gi_wp2
    have HN:bordsOf f ((pre ++ [x]).map (·.2.val))=bs:=by
     have:=HSN.out
     rw[HY.out] at this
     simpa using this
    refine⟨by simpa using hKO,hKB,⟨⟨v,hv2,?_,trivial⟩,hF2⟩,hs2,hB2⟩
    rw[HN]
    exact hrow2
   ·gi_wp2_with (gi_at_builtin;refine wpListIn_append_own _ rfl _ _ 24 rfl (w1.heap.size+1) 2 i0 (.int .i64 0) 1 8 Tryz.underlying24 hi hz0 hz1 hz2 rfl (by decide) _ _ _ rfl (hrow2.alloc _) ⟨W2.heap.size,0,none⟩ 1 1 [.int .i64 y] rfl rfl (cell_one_new _ _ _) (by simp [Value.oneCell']) hm1 hm2 (by simp;omega) ?_;intro v' w3 hown' hgrow _;obtain ⟨g',cap',rfl⟩:=ownsRow_succ hown';obtain ⟨hv1,hv3,hr3,hk3,hb3⟩:=hv2.appended (n₀:=w.heap.size) (by decide) (own_weaken hrow2 (by omega)) hB2.size (by omega) (own_weaken hown' (by omega)) hgrow;have hc1:=hv1.cell;have hf1:=hv1.frozen)
    have HN:bordsOf f ((pre ++ [x]).map (·.2.val))=bs ++ [y]:=by
     have:=HSN.out
     rw[HY.out,if_neg h0] at this
     simpa using this
    have hro:∀ k,v.ownBlock=some k→w1.heap.size+1≤k:=fun k hk=>own_base hrow2 k hk
    refine⟨by simpa using hKO.trans (hk3.from _),hKB.t (fun k h1 h2=>?_),⟨⟨_,hv3,?_,trivial⟩,?_⟩,Nat.le_trans hs2 hb3.size,hB2.trans hb3⟩
    ·rw[Below.heap_setCell _ _ _ _ (by show k≠w.heap.size+1;exact h2)]
     rw[hgrow.block k (by simp;omega) (fun e=>by have:=hro k e.symm;omega)]
     exact Below.heap_alloc _ _ _ (by omega)
    ·rw[HN]
     have:=hown'.kept (grownBy_setCell' w3 (w.heap.size+1) (.slice (some ⟨g',0,none⟩) (bs.length+1) cap')) (.inr (hv1.not_row (by decide) hown').symm)
     simpa using this
    ·show (w3.setCell _ _).heap[w.heap.size]?=_
     rw[Below.heap_setCell _ _ _ _ (by show w.heap.size≠w.heap.size+1;omega)]
     rw[hgrow.block w.heap.size (by simp;omega) (fun e=>by have:=hro _ e.symm;omega)]
     exact(Below.heap_alloc _ _ _ (by omega)).trans hF2
 case done=>
  rintro D ys W hD rfl ⟨⟨⟨v,hv,hrow,-⟩,hF⟩,hsz,hB⟩ hK
  have hc:=hv.cell
  have HV:(bwd (vxs f)).map (·.2.val)=(verts f).reverse:=by
   have:=congrArg (List.map Subtype.val) (bwd_snd (vxs f))
   rw[List.map_map,List.map_reverse,vxs_val] at this
   exact this
  have HVA:=Aside0.mk HV
  clear HV
  gi_wp2
  refine⟨by simp,.inl ⟨_,_,rfl,run_takeDeferred hK,?_⟩⟩
  refine⟨_,results_tmp rfl _ _ _,v,rfl,?_,hB.trans (belowK_b (w:=w) (Nat.le_refl _) W D _ _ (by simp at hD;omega) hK rfl rfl)⟩
  rw[HVA.out] at hrow
  exact Kd.R_lower (Kd.R_of_own (ownsRow_putObj hrow _ hK rfl) (fun _ _=>trivial)) (by omega)
 case stop=>
  rintro D c pre W _ _ h _
  exact h.elim
theorem borders_calls (f:Int) (w:World) :
  Calls Tryz.prog 130 #[I f] w fun e w'=>∃ v,e = .returned v∧Ki.R 2 w' w.heap.size (fun _=>True) v (bords f)∧Grew w w':=
 callsIn_wide.1 (borders_in f w)
end Go.Proofs.YtbnnamejnjfkjaaGreat.K
end

section
namespace Go.Proofs.YtbnnamejnjfkjaaGreat.Q
open Go.RowKit Go.Proofs.YtbnnamejnjfkjaaGreatW.PrintWords Go.Proofs.YtbnnamejnjfkjaaGreatW.PrintLast Go.Proofs.YtbnnamejnjfkjaaGreatW.PrintMore
attribute [local go_sem] max2_int min2_int max_two min_two max_three min_three max_four min_four
set_option linter.unusedVariables false
set_option linter.unusedSimpArgs false
def slices_BinarySearch_int64_int64.l0:Nat→List Int→Int→Int→Int→Int→Option (Int×Bool)
 |0,_,_,_,_,_=>none
 |k+1,x0,x1,x6,x7,x8=>if x7<x8 then (if 0≤(wrap64 ((IntKind.u64.wrap (wrap64 (x7+x8))) / 2)) then (if (wrap64 ((IntKind.u64.wrap (wrap64 (x7+x8))) / 2))<(x0.length:Int) then ((cmp_Less_int64.f (rd x0 (wrap64 ((IntKind.u64.wrap (wrap64 (x7+x8))) / 2))) x1).bind fun t549=>(if t549=true then (slices_BinarySearch_int64_int64.l0 k x0 x1 x6 (wrap64 ((wrap64 ((IntKind.u64.wrap (wrap64 (x7+x8))) / 2))+1)) x8) else (slices_BinarySearch_int64_int64.l0 k x0 x1 x6 x7 (wrap64 ((IntKind.u64.wrap (wrap64 (x7+x8))) / 2))))) else (none)) else (none)) else (if x7<x6 then (if 0≤x7 then (if x7<(x0.length:Int) then (if (rd x0 x7)=x1 then (some (x7,true)) else ((slices_isNaN_int64.f (rd x0 x7)).bind fun t552=>(if t552=true then ((slices_isNaN_int64.f x1).bind fun t553=>(some (x7,t553))) else (some (x7,false))))) else (none)) else (none)) else (some (x7,false)))
def slices_BinarySearch_int64_int64.f (k:Nat) (l0:List Int) (a1:Int):Option (Int×Bool):=slices_BinarySearch_int64_int64.l0 k l0 a1 (l0.length:Int) 0 (l0.length:Int)
theorem slices_BinarySearch_int64_int64.mono_l:∀ k,(∀ y0 y1 y2 y3 y4,LeO (slices_BinarySearch_int64_int64.l0 k y0 y1 y2 y3 y4) (slices_BinarySearch_int64_int64.l0 (k+1) y0 y1 y2 y3 y4))
 |0=>fun _ _ _ _ _ r h=>by simp [slices_BinarySearch_int64_int64.l0] at h
 |k+1=>by
  have ih0:=slices_BinarySearch_int64_int64.mono_l k
  ·intro y0 y1 y2 y3 y4;unfold slices_BinarySearch_int64_int64.l0;repeat' first
   |(with_reducible first|exact ih0 _ _ _ _ _|exact LeO.refl _|exact LeO.none _|refine LeO.ite ?_ ?_|refine LeO.bind ?_ (fun _=>?_))
theorem slices_BinarySearch_int64_int64.mono:∀ a0 a1 k,LeO (slices_BinarySearch_int64_int64.f k a0 a1) (slices_BinarySearch_int64_int64.f (k+1) a0 a1):=by
 intro a0 a1 k;have ih0:=slices_BinarySearch_int64_int64.mono_l k;unfold slices_BinarySearch_int64_int64.f;repeat' first
   |(with_reducible first|exact ih0 _ _ _ _ _|exact LeO.refl _|exact LeO.none _|refine LeO.ite ?_ ?_|refine LeO.bind ?_ (fun _=>?_))
set_option maxHeartbeats 8000000 in
set_option maxRecDepth 100000 in
theorem slices_BinarySearch_int64_int64.calls (k:Nat) (A0:Option Addr) (c0:Nat) (l0:List Int) (a1:Int) (r1:Int) (r2:Bool) (w:World) (hr0:Kd.C (Kd.int .i64) w A0 l0.length l0) (hc0:l0.length≤c0) (h:slices_BinarySearch_int64_int64.f k l0 a1=some (r1,r2)) :
  Calls Tryz.prog 121 #[.slice A0 l0.length c0,.int .i64 a1] w fun e w'=>e = .returned (.tuple #[.int .i64 r1,.bool r2])∧Drawn0 w w':=by
 have HR0:=Aside0.mk hr0;have HC0:=Aside0.mk hc0;clear hr0 hc0;have H:(slices_BinarySearch_int64_int64.l0 k l0 a1 (l0.length:Int) 0 (l0.length:Int))=some (r1,r2):=h;clear h;have H':=Aside0.mk H;clear H;go_enter Tryz.func121,Tryz.ntmps121;go_wp2
 go_loopg [7,8] k (fun kq v7 v8 w'=>∃(x7_1:Int) (x8_1:Int),v7 = .int .i64 x7_1∧v8 = .int .i64 x8_1∧Aside0 (slices_BinarySearch_int64_int64.l0 kq l0 a1 (l0.length:Int) x7_1 x8_1=some (r1,r2))∧Aside0 (kq≤k)∧Drawn0 w w')
 case atStart=>exact⟨(0),((l0.length:Int)),rs,rs,H',⟨Nat.le_refl _⟩,by repeat(first|exact Drawn0.refl _|apply Drawn0.step)⟩
 case round=>
  clear H';try clear c1
  try clear p2
  obtain ⟨x7_1,x8_1,rfl,rfl,HA,HK1,⟨m1,rfl⟩⟩:=hrel;cases gk with
  |zero=>exact absurd HA.out (by simp [slices_BinarySearch_int64_int64.l0])
  |succ k1=>
   have H:=HA.out;clear HA;simp only [slices_BinarySearch_int64_int64.l0] at H;by_cases c3:x7_1<x8_1
   ·rw[if_pos c3] at H;have c3b0:decide (x7_1<x8_1)=true:=decide_eq_true c3;clear c3;obtain ⟨ji4,hji4⟩:∃ j_:Int,(wrap64 ((IntKind.u64.wrap (wrap64 (x7_1+x8_1))) / 2))=j_:=⟨_,rfl⟩
    replace H:(if 0≤(ji4) then (if (ji4)<(l0.length:Int) then ((cmp_Less_int64.f (rd l0 (ji4)) a1).bind fun t549=>(if t549=true then (slices_BinarySearch_int64_int64.l0 k1 l0 a1 (l0.length:Int) (wrap64 ((ji4)+1)) x8_1) else (slices_BinarySearch_int64_int64.l0 k1 l0 a1 (l0.length:Int) x7_1 ji4))) else (none)) else (none))=some (r1,r2):=by first|(rw[hji4] at H;exact H)|(simp only [hji4] at H ⊢;exact H)
    have hji4w:(IntKind.i64.wrap ((IntKind.u64.wrap (wrap64 (x7_1+x8_1))) / 2))=ji4:=(i64_w _).trans hji4;by_cases c5:0≤(ji4)
    ·rw[if_pos c5] at H;have c5b0:decide (0≤(ji4))=true:=decide_eq_true c5;clear c5;by_cases c6:(ji4)<(l0.length:Int)
     ·rw[if_pos c6] at H;have c6b0:decide ((ji4)<(l0.length:Int))=true:=decide_eq_true c6;clear c6;replace H:=Option.bind_eq_some_iff.mp H;obtain ⟨t549,A70,H⟩:=H;replace H:(if t549=true then (slices_BinarySearch_int64_int64.l0 k1 l0 a1 (l0.length:Int) (wrap64 ((ji4)+1)) x8_1) else (slices_BinarySearch_int64_int64.l0 k1 l0 a1 (l0.length:Int) x7_1 ji4))=some (r1,r2):=H;have A7:=Aside0.mk A70;clear A70;by_cases c8:t549=true
      ·subst c8;have H1:(slices_BinarySearch_int64_int64.l0 k1 l0 a1 (l0.length:Int) (wrap64 ((ji4)+1)) x8_1)=some (r1,r2):=by rw[if_pos rfl] at H;exact H
       clear H;have H:=H1;clear H1;have H':=Aside0.mk H;clear H;have p548:0≤((ji4):Int):=dd;have q548:(ji4)<(l0.length:Int):=dd;obtain ⟨ad548,e548,hx548_0⟩:=Kd.at_int HR0.out (ji4) p548 q548;cases e548;replace p548:=eq_true p548;replace q548:=eq_true q548;go_wp2_with (first|((with_reducible refine gate_callee (f:=147) rfl ?_);refine goesL_ (some 27) rfl rfl Tryz.func147 (by kernel_rfl) rfl #[.int .i64 (rd l0 (ji4)),.int .i64 a1] rfl (by(try simp only [List.map_toArray,List.map_cons,List.map_nil]);first|done|(simp only [hji4];rfl)|rfl|(simp only [List.length_drop,List.length_take];rfl)) ?_;(with_reducible refine(cmp_Less_int64.calls (rd l0 (ji4)) a1 true _ A7.out).mono ?_);rintro e w' ⟨rfl,⟨nd,rfl⟩⟩;refine⟨_,rfl,?_⟩))
       go_roundg k1
       case measure=>have:=HK1.out;omega
       case rel=>exact⟨(wrap64 ((ji4)+1)),(x8_1),(by first|rfl|(simp;done)|(simp only [← hji4] <;> (first|rfl|simp))|(simp [*];done)),rs,H',⟨by have:=HK1.out;omega⟩,by repeat(first|exact Drawn0.refl _|apply Drawn0.step)⟩
      ·replace c8:=Bool.eq_false_iff.mpr c8;subst c8;have H1:(slices_BinarySearch_int64_int64.l0 k1 l0 a1 (l0.length:Int) x7_1 ji4)=some (r1,r2):=by rw[if_neg (show ¬ (false=true) by decide)] at H;exact H
       clear H;have H:=H1;clear H1;have H':=Aside0.mk H;clear H;have p548:0≤((ji4):Int):=dd;have q548:(ji4)<(l0.length:Int):=dd;obtain ⟨ad548,e548,hx548_0⟩:=Kd.at_int HR0.out (ji4) p548 q548;cases e548;replace p548:=eq_true p548;replace q548:=eq_true q548;go_wp2_with (first|((with_reducible refine gate_callee (f:=147) rfl ?_);refine goesL_ (some 27) rfl rfl Tryz.func147 (by kernel_rfl) rfl #[.int .i64 (rd l0 (ji4)),.int .i64 a1] rfl (by(try simp only [List.map_toArray,List.map_cons,List.map_nil]);first|done|(simp only [hji4];rfl)|rfl|(simp only [List.length_drop,List.length_take];rfl)) ?_;(with_reducible refine(cmp_Less_int64.calls (rd l0 (ji4)) a1 false _ A7.out).mono ?_);rintro e w' ⟨rfl,⟨nd,rfl⟩⟩;refine⟨_,rfl,?_⟩))
       go_roundg k1
       case measure=>have:=HK1.out;omega
       case rel=>exact⟨(x7_1),(ji4),rs,(by first|rfl|(simp;done)|(simp only [← hji4] <;> (first|rfl|simp))|(simp [*];done)),H',⟨by have:=HK1.out;omega⟩,by repeat(first|exact Drawn0.refl _|apply Drawn0.step)⟩
     ·rw[if_neg c6] at H;exact absurd H (by simp)
    ·rw[if_neg c5] at H;exact absurd H (by simp)
   ·rw[if_neg c3] at H;have c3b0:decide (x7_1<x8_1)=false:=decide_eq_false c3;clear c3;by_cases c9:x7_1<(l0.length:Int)
    ·rw[if_pos c9] at H;have c9b0:decide (x7_1<(l0.length:Int))=true:=decide_eq_true c9;clear c9;by_cases c10:0≤x7_1
     ·rw[if_pos c10] at H;have c10b0:decide (0≤x7_1)=true:=decide_eq_true c10;clear c10;by_cases c11:x7_1<(l0.length:Int)
      ·rw[if_pos c11] at H;have c11b0:decide (x7_1<(l0.length:Int))=true:=decide_eq_true c11;clear c11;by_cases c12:(rd l0 x7_1)=a1
       ·rw[if_pos c12] at H;have c12b0:((rd l0 x7_1) == a1)=true:=beq_iff_eq.mpr c12;have c12b1:((rd l0 x7_1) != a1)=false:=bne_eq_false_iff_eq.mpr c12;clear c12;simp only [Option.some.injEq,Prod.mk.injEq] at H;obtain ⟨rfl,rfl⟩:=H;have p550:0≤(x7_1:Int):=dd;have q550:x7_1<(l0.length:Int):=dd;obtain ⟨ad550,e550,hx550_0⟩:=Kd.at_int HR0.out x7_1 p550 q550;cases e550;replace p550:=eq_true p550;replace q550:=eq_true q550;go_wp2
        go_ret2;exact⟨rs,by repeat(first|exact Drawn0.refl _|apply Drawn0.step)⟩
       ·rw[if_neg c12] at H;have c12b0:((rd l0 x7_1) == a1)=false:=beq_eq_false_iff_ne.mpr c12;have c12b1:((rd l0 x7_1) != a1)=true:=bne_iff_ne.mpr c12;replace H:=Option.bind_eq_some_iff.mp H;obtain ⟨t552,A130,H⟩:=H;replace H:(if t552=true then ((slices_isNaN_int64.f a1).bind fun t553=>(some (x7_1,t553))) else (some (x7_1,false)))=some (r1,r2):=H;have A13:=Aside0.mk A130;clear A130;by_cases c14:t552=true
        ·subst c14;have H1:((slices_isNaN_int64.f a1).bind fun t553=>(some (x7_1,t553)))=some (r1,r2):=by rw[if_pos rfl] at H;exact H
         clear H;have H:=H1;clear H1;replace H:=Option.bind_eq_some_iff.mp H;obtain ⟨t553,A150,H⟩:=H;replace H:(some (x7_1,t553))=some (r1,r2):=H;have A15:=Aside0.mk A150;clear A150;simp only [Option.some.injEq,Prod.mk.injEq] at H;obtain ⟨rfl,rfl⟩:=H;have p550:0≤(x7_1:Int):=dd;have q550:x7_1<(l0.length:Int):=dd;obtain ⟨ad550,e550,hx550_0⟩:=Kd.at_int HR0.out x7_1 p550 q550;cases e550;replace p550:=eq_true p550;replace q550:=eq_true q550;have p551:0≤(x7_1:Int):=dd;have q551:x7_1<(l0.length:Int):=dd;obtain ⟨ad551,e551,hx551_0⟩:=Kd.at_int HR0.out x7_1 p551 q551;obtain rfl:ad550=ad551:=(by injection e551)
         replace p551:=eq_true p551;replace q551:=eq_true q551;go_wp2_with (first|(go_at_call 148;(with_reducible refine(slices_isNaN_int64.calls (rd l0 x7_1) true _ A13.out).mono ?_);rintro e w' ⟨rfl,⟨nd,rfl⟩⟩)|(go_at_call 148;(with_reducible refine(slices_isNaN_int64.calls a1 t553 _ A15.out).mono ?_);rintro e w' ⟨rfl,⟨nd,rfl⟩⟩))
         go_ret2;exact⟨rs,by repeat(first|exact Drawn0.refl _|apply Drawn0.step)⟩
        ·replace c14:=Bool.eq_false_iff.mpr c14;subst c14;have H1:(some (x7_1,false))=some (r1,r2):=by rw[if_neg (show ¬ (false=true) by decide)] at H;exact H
         clear H;have H:=H1;clear H1;simp only [Option.some.injEq,Prod.mk.injEq] at H;obtain ⟨rfl,rfl⟩:=H;have p550:0≤(x7_1:Int):=dd;have q550:x7_1<(l0.length:Int):=dd;obtain ⟨ad550,e550,hx550_0⟩:=Kd.at_int HR0.out x7_1 p550 q550;cases e550;replace p550:=eq_true p550;replace q550:=eq_true q550;have p551:0≤(x7_1:Int):=dd;have q551:x7_1<(l0.length:Int):=dd;obtain ⟨ad551,e551,hx551_0⟩:=Kd.at_int HR0.out x7_1 p551 q551;obtain rfl:ad550=ad551:=(by injection e551)
         replace p551:=eq_true p551;replace q551:=eq_true q551;go_wp2_with (first|(go_at_call 148;(with_reducible refine(slices_isNaN_int64.calls (rd l0 x7_1) false _ A13.out).mono ?_);rintro e w' ⟨rfl,⟨nd,rfl⟩⟩))
         go_ret2;exact⟨rs,by repeat(first|exact Drawn0.refl _|apply Drawn0.step)⟩
      ·rw[if_neg c11] at H;exact absurd H (by simp)
     ·rw[if_neg c10] at H;exact absurd H (by simp)
    ·rw[if_neg c9] at H;have c9b0:decide (x7_1<(l0.length:Int))=false:=decide_eq_false c9;clear c9;simp only [Option.some.injEq,Prod.mk.injEq] at H;obtain ⟨rfl,rfl⟩:=H;go_wp2
     go_ret2;exact⟨rs,by repeat(first|exact Drawn0.refl _|apply Drawn0.step)⟩
def impl_Complex_has.f (k:Nat) (a0_0:Int) (l0_1:List Int) (a1:Int):Option (Bool):=(slices_BinarySearch_int64_int64.f k l0_1 a1).bind fun bt555=>(some bt555.2)
theorem impl_Complex_has.mono:∀ a0 a1 a2 k,LeO (impl_Complex_has.f k a0 a1 a2) (impl_Complex_has.f (k+1) a0 a1 a2):=by
 intro a0 a1 a2 k;unfold impl_Complex_has.f;repeat' first
   |(with_reducible first|exact slices_BinarySearch_int64_int64.mono _ _ _|exact LeO.refl _|exact LeO.none _|refine LeO.ite ?_ ?_|refine LeO.bind ?_ (fun _=>?_))
set_option maxHeartbeats 8000000 in
set_option maxRecDepth 100000 in
theorem impl_Complex_has.calls (k:Nat) (a0_0:Int) (A0_1:Option Addr) (c0_1:Nat) (l0_1:List Int) (a1:Int) (r:Bool) (w:World) (hr0_1:Kd.C (Kd.int .i64) w A0_1 l0_1.length l0_1) (hc0_1:l0_1.length≤c0_1) (h:impl_Complex_has.f k a0_0 l0_1 a1=some r) :
  Calls Tryz.prog 54 #[.agg #[.int .i64 a0_0,.slice A0_1 l0_1.length c0_1],.int .i64 a1] w fun e w'=>e = .returned (.bool r)∧Below w.heap.size w w':=by
 have hu26:=Tryz.underlying26;have HR0_1:=Aside0.mk hr0_1;have HC0_1:=Aside0.mk hc0_1;clear hr0_1 hc0_1;have HB:=Aside0.mk (Below.refl w.heap.size w);have H:((slices_BinarySearch_int64_int64.f k l0_1 a1).bind fun bt555=>(some bt555.2))=some r:=h;clear h;replace H:=Option.bind_eq_some_iff.mp H;obtain ⟨⟨t555,t556⟩,A30,H⟩:=H;replace H:(some t556)=some r:=H;have A3:=Aside0.mk A30;clear A30;obtain rfl:=Option.some.inj H;go_enter Tryz.func54,Tryz.ntmps54;go_wp2_with (first|((with_reducible refine gate_dst (N:=2) rfl ?_);refine bx 2 #[.int .i64 a0_0,.slice A0_1 l0_1.length c0_1] 26 ?_;intro gb554 hg w4 hbox hb;have BK554:=Aside0.mk (hbox);have GE554:=gzA hg HB;replace HB:=bsA HB hb;clear hb hbox hg;have hcz5_0:=z0_ BK554;have hcz5_1:=z1_ BK554;have hfz5_0:=hf_ BK554 0;have hfz5_1:=hf_ BK554 1)|((with_reducible refine gate_callee (f:=121) rfl ?_);refine gl (some 11) Tryz.func121 #[.slice A0_1 l0_1.length c0_1,.int .i64 a1] ?_;(with_reducible refine(slices_BinarySearch_int64_int64.calls k _ _ l0_1 a1 t555 t556 _ (cb (Kd.C_below HR0_1.out HB.out)) HC0_1.out A3.out).mono ?_);rintro e w' ⟨rfl,⟨nd,rfl⟩⟩;refine⟨_,rfl,?_⟩))
 go_ret;exact⟨rr,bl HB.out⟩
def bits_OnesCount64.f (a0:Int):Option (Int):=some (Go.bits .and .i64 (wrap64 (IntKind.u64.wrap ((IntKind.u64.wrap ((IntKind.u64.wrap ((Go.bits .and .u64 (IntKind.u64.wrap (((IntKind.u64.wrap ((Go.bits .and .u64 ((IntKind.u64.wrap ((Go.bits .and .u64 (a0 / 2) 6148914691236517205)+(Go.bits .and .u64 a0 6148914691236517205))) / 4) 3689348814741910323)+(Go.bits .and .u64 (IntKind.u64.wrap ((Go.bits .and .u64 (a0 / 2) 6148914691236517205)+(Go.bits .and .u64 a0 6148914691236517205))) 3689348814741910323))) / 16)+(IntKind.u64.wrap ((Go.bits .and .u64 ((IntKind.u64.wrap ((Go.bits .and .u64 (a0 / 2) 6148914691236517205)+(Go.bits .and .u64 a0 6148914691236517205))) / 4) 3689348814741910323)+(Go.bits .and .u64 (IntKind.u64.wrap ((Go.bits .and .u64 (a0 / 2) 6148914691236517205)+(Go.bits .and .u64 a0 6148914691236517205))) 3689348814741910323))))) 1085102592571150095)+((Go.bits .and .u64 (IntKind.u64.wrap (((IntKind.u64.wrap ((Go.bits .and .u64 ((IntKind.u64.wrap ((Go.bits .and .u64 (a0 / 2) 6148914691236517205)+(Go.bits .and .u64 a0 6148914691236517205))) / 4) 3689348814741910323)+(Go.bits .and .u64 (IntKind.u64.wrap ((Go.bits .and .u64 (a0 / 2) 6148914691236517205)+(Go.bits .and .u64 a0 6148914691236517205))) 3689348814741910323))) / 16)+(IntKind.u64.wrap ((Go.bits .and .u64 ((IntKind.u64.wrap ((Go.bits .and .u64 (a0 / 2) 6148914691236517205)+(Go.bits .and .u64 a0 6148914691236517205))) / 4) 3689348814741910323)+(Go.bits .and .u64 (IntKind.u64.wrap ((Go.bits .and .u64 (a0 / 2) 6148914691236517205)+(Go.bits .and .u64 a0 6148914691236517205))) 3689348814741910323))))) 1085102592571150095) / 256)))+((IntKind.u64.wrap ((Go.bits .and .u64 (IntKind.u64.wrap (((IntKind.u64.wrap ((Go.bits .and .u64 ((IntKind.u64.wrap ((Go.bits .and .u64 (a0 / 2) 6148914691236517205)+(Go.bits .and .u64 a0 6148914691236517205))) / 4) 3689348814741910323)+(Go.bits .and .u64 (IntKind.u64.wrap ((Go.bits .and .u64 (a0 / 2) 6148914691236517205)+(Go.bits .and .u64 a0 6148914691236517205))) 3689348814741910323))) / 16)+(IntKind.u64.wrap ((Go.bits .and .u64 ((IntKind.u64.wrap ((Go.bits .and .u64 (a0 / 2) 6148914691236517205)+(Go.bits .and .u64 a0 6148914691236517205))) / 4) 3689348814741910323)+(Go.bits .and .u64 (IntKind.u64.wrap ((Go.bits .and .u64 (a0 / 2) 6148914691236517205)+(Go.bits .and .u64 a0 6148914691236517205))) 3689348814741910323))))) 1085102592571150095)+((Go.bits .and .u64 (IntKind.u64.wrap (((IntKind.u64.wrap ((Go.bits .and .u64 ((IntKind.u64.wrap ((Go.bits .and .u64 (a0 / 2) 6148914691236517205)+(Go.bits .and .u64 a0 6148914691236517205))) / 4) 3689348814741910323)+(Go.bits .and .u64 (IntKind.u64.wrap ((Go.bits .and .u64 (a0 / 2) 6148914691236517205)+(Go.bits .and .u64 a0 6148914691236517205))) 3689348814741910323))) / 16)+(IntKind.u64.wrap ((Go.bits .and .u64 ((IntKind.u64.wrap ((Go.bits .and .u64 (a0 / 2) 6148914691236517205)+(Go.bits .and .u64 a0 6148914691236517205))) / 4) 3689348814741910323)+(Go.bits .and .u64 (IntKind.u64.wrap ((Go.bits .and .u64 (a0 / 2) 6148914691236517205)+(Go.bits .and .u64 a0 6148914691236517205))) 3689348814741910323))))) 1085102592571150095) / 256))) / 65536)))+((IntKind.u64.wrap ((IntKind.u64.wrap ((Go.bits .and .u64 (IntKind.u64.wrap (((IntKind.u64.wrap ((Go.bits .and .u64 ((IntKind.u64.wrap ((Go.bits .and .u64 (a0 / 2) 6148914691236517205)+(Go.bits .and .u64 a0 6148914691236517205))) / 4) 3689348814741910323)+(Go.bits .and .u64 (IntKind.u64.wrap ((Go.bits .and .u64 (a0 / 2) 6148914691236517205)+(Go.bits .and .u64 a0 6148914691236517205))) 3689348814741910323))) / 16)+(IntKind.u64.wrap ((Go.bits .and .u64 ((IntKind.u64.wrap ((Go.bits .and .u64 (a0 / 2) 6148914691236517205)+(Go.bits .and .u64 a0 6148914691236517205))) / 4) 3689348814741910323)+(Go.bits .and .u64 (IntKind.u64.wrap ((Go.bits .and .u64 (a0 / 2) 6148914691236517205)+(Go.bits .and .u64 a0 6148914691236517205))) 3689348814741910323))))) 1085102592571150095)+((Go.bits .and .u64 (IntKind.u64.wrap (((IntKind.u64.wrap ((Go.bits .and .u64 ((IntKind.u64.wrap ((Go.bits .and .u64 (a0 / 2) 6148914691236517205)+(Go.bits .and .u64 a0 6148914691236517205))) / 4) 3689348814741910323)+(Go.bits .and .u64 (IntKind.u64.wrap ((Go.bits .and .u64 (a0 / 2) 6148914691236517205)+(Go.bits .and .u64 a0 6148914691236517205))) 3689348814741910323))) / 16)+(IntKind.u64.wrap ((Go.bits .and .u64 ((IntKind.u64.wrap ((Go.bits .and .u64 (a0 / 2) 6148914691236517205)+(Go.bits .and .u64 a0 6148914691236517205))) / 4) 3689348814741910323)+(Go.bits .and .u64 (IntKind.u64.wrap ((Go.bits .and .u64 (a0 / 2) 6148914691236517205)+(Go.bits .and .u64 a0 6148914691236517205))) 3689348814741910323))))) 1085102592571150095) / 256)))+((IntKind.u64.wrap ((Go.bits .and .u64 (IntKind.u64.wrap (((IntKind.u64.wrap ((Go.bits .and .u64 ((IntKind.u64.wrap ((Go.bits .and .u64 (a0 / 2) 6148914691236517205)+(Go.bits .and .u64 a0 6148914691236517205))) / 4) 3689348814741910323)+(Go.bits .and .u64 (IntKind.u64.wrap ((Go.bits .and .u64 (a0 / 2) 6148914691236517205)+(Go.bits .and .u64 a0 6148914691236517205))) 3689348814741910323))) / 16)+(IntKind.u64.wrap ((Go.bits .and .u64 ((IntKind.u64.wrap ((Go.bits .and .u64 (a0 / 2) 6148914691236517205)+(Go.bits .and .u64 a0 6148914691236517205))) / 4) 3689348814741910323)+(Go.bits .and .u64 (IntKind.u64.wrap ((Go.bits .and .u64 (a0 / 2) 6148914691236517205)+(Go.bits .and .u64 a0 6148914691236517205))) 3689348814741910323))))) 1085102592571150095)+((Go.bits .and .u64 (IntKind.u64.wrap (((IntKind.u64.wrap ((Go.bits .and .u64 ((IntKind.u64.wrap ((Go.bits .and .u64 (a0 / 2) 6148914691236517205)+(Go.bits .and .u64 a0 6148914691236517205))) / 4) 3689348814741910323)+(Go.bits .and .u64 (IntKind.u64.wrap ((Go.bits .and .u64 (a0 / 2) 6148914691236517205)+(Go.bits .and .u64 a0 6148914691236517205))) 3689348814741910323))) / 16)+(IntKind.u64.wrap ((Go.bits .and .u64 ((IntKind.u64.wrap ((Go.bits .and .u64 (a0 / 2) 6148914691236517205)+(Go.bits .and .u64 a0 6148914691236517205))) / 4) 3689348814741910323)+(Go.bits .and .u64 (IntKind.u64.wrap ((Go.bits .and .u64 (a0 / 2) 6148914691236517205)+(Go.bits .and .u64 a0 6148914691236517205))) 3689348814741910323))))) 1085102592571150095) / 256))) / 65536))) / 4294967296)))) 127)
set_option maxHeartbeats 8000000 in
set_option maxRecDepth 100000 in
theorem bits_OnesCount64.calls (a0:Int) (r:Int) (w:World) (h:bits_OnesCount64.f a0=some r) :
  Calls Tryz.prog 163 #[.int .u64 a0] w fun e w'=>e = .returned (.int .i64 r)∧Drawn0 w w':=by
 have H:(some (Go.bits .and .i64 (wrap64 (IntKind.u64.wrap ((IntKind.u64.wrap ((IntKind.u64.wrap ((Go.bits .and .u64 (IntKind.u64.wrap (((IntKind.u64.wrap ((Go.bits .and .u64 ((IntKind.u64.wrap ((Go.bits .and .u64 (a0 / 2) 6148914691236517205)+(Go.bits .and .u64 a0 6148914691236517205))) / 4) 3689348814741910323)+(Go.bits .and .u64 (IntKind.u64.wrap ((Go.bits .and .u64 (a0 / 2) 6148914691236517205)+(Go.bits .and .u64 a0 6148914691236517205))) 3689348814741910323))) / 16)+(IntKind.u64.wrap ((Go.bits .and .u64 ((IntKind.u64.wrap ((Go.bits .and .u64 (a0 / 2) 6148914691236517205)+(Go.bits .and .u64 a0 6148914691236517205))) / 4) 3689348814741910323)+(Go.bits .and .u64 (IntKind.u64.wrap ((Go.bits .and .u64 (a0 / 2) 6148914691236517205)+(Go.bits .and .u64 a0 6148914691236517205))) 3689348814741910323))))) 1085102592571150095)+((Go.bits .and .u64 (IntKind.u64.wrap (((IntKind.u64.wrap ((Go.bits .and .u64 ((IntKind.u64.wrap ((Go.bits .and .u64 (a0 / 2) 6148914691236517205)+(Go.bits .and .u64 a0 6148914691236517205))) / 4) 3689348814741910323)+(Go.bits .and .u64 (IntKind.u64.wrap ((Go.bits .and .u64 (a0 / 2) 6148914691236517205)+(Go.bits .and .u64 a0 6148914691236517205))) 3689348814741910323))) / 16)+(IntKind.u64.wrap ((Go.bits .and .u64 ((IntKind.u64.wrap ((Go.bits .and .u64 (a0 / 2) 6148914691236517205)+(Go.bits .and .u64 a0 6148914691236517205))) / 4) 3689348814741910323)+(Go.bits .and .u64 (IntKind.u64.wrap ((Go.bits .and .u64 (a0 / 2) 6148914691236517205)+(Go.bits .and .u64 a0 6148914691236517205))) 3689348814741910323))))) 1085102592571150095) / 256)))+((IntKind.u64.wrap ((Go.bits .and .u64 (IntKind.u64.wrap (((IntKind.u64.wrap ((Go.bits .and .u64 ((IntKind.u64.wrap ((Go.bits .and .u64 (a0 / 2) 6148914691236517205)+(Go.bits .and .u64 a0 6148914691236517205))) / 4) 3689348814741910323)+(Go.bits .and .u64 (IntKind.u64.wrap ((Go.bits .and .u64 (a0 / 2) 6148914691236517205)+(Go.bits .and .u64 a0 6148914691236517205))) 3689348814741910323))) / 16)+(IntKind.u64.wrap ((Go.bits .and .u64 ((IntKind.u64.wrap ((Go.bits .and .u64 (a0 / 2) 6148914691236517205)+(Go.bits .and .u64 a0 6148914691236517205))) / 4) 3689348814741910323)+(Go.bits .and .u64 (IntKind.u64.wrap ((Go.bits .and .u64 (a0 / 2) 6148914691236517205)+(Go.bits .and .u64 a0 6148914691236517205))) 3689348814741910323))))) 1085102592571150095)+((Go.bits .and .u64 (IntKind.u64.wrap (((IntKind.u64.wrap ((Go.bits .and .u64 ((IntKind.u64.wrap ((Go.bits .and .u64 (a0 / 2) 6148914691236517205)+(Go.bits .and .u64 a0 6148914691236517205))) / 4) 3689348814741910323)+(Go.bits .and .u64 (IntKind.u64.wrap ((Go.bits .and .u64 (a0 / 2) 6148914691236517205)+(Go.bits .and .u64 a0 6148914691236517205))) 3689348814741910323))) / 16)+(IntKind.u64.wrap ((Go.bits .and .u64 ((IntKind.u64.wrap ((Go.bits .and .u64 (a0 / 2) 6148914691236517205)+(Go.bits .and .u64 a0 6148914691236517205))) / 4) 3689348814741910323)+(Go.bits .and .u64 (IntKind.u64.wrap ((Go.bits .and .u64 (a0 / 2) 6148914691236517205)+(Go.bits .and .u64 a0 6148914691236517205))) 3689348814741910323))))) 1085102592571150095) / 256))) / 65536)))+((IntKind.u64.wrap ((IntKind.u64.wrap ((Go.bits .and .u64 (IntKind.u64.wrap (((IntKind.u64.wrap ((Go.bits .and .u64 ((IntKind.u64.wrap ((Go.bits .and .u64 (a0 / 2) 6148914691236517205)+(Go.bits .and .u64 a0 6148914691236517205))) / 4) 3689348814741910323)+(Go.bits .and .u64 (IntKind.u64.wrap ((Go.bits .and .u64 (a0 / 2) 6148914691236517205)+(Go.bits .and .u64 a0 6148914691236517205))) 3689348814741910323))) / 16)+(IntKind.u64.wrap ((Go.bits .and .u64 ((IntKind.u64.wrap ((Go.bits .and .u64 (a0 / 2) 6148914691236517205)+(Go.bits .and .u64 a0 6148914691236517205))) / 4) 3689348814741910323)+(Go.bits .and .u64 (IntKind.u64.wrap ((Go.bits .and .u64 (a0 / 2) 6148914691236517205)+(Go.bits .and .u64 a0 6148914691236517205))) 3689348814741910323))))) 1085102592571150095)+((Go.bits .and .u64 (IntKind.u64.wrap (((IntKind.u64.wrap ((Go.bits .and .u64 ((IntKind.u64.wrap ((Go.bits .and .u64 (a0 / 2) 6148914691236517205)+(Go.bits .and .u64 a0 6148914691236517205))) / 4) 3689348814741910323)+(Go.bits .and .u64 (IntKind.u64.wrap ((Go.bits .and .u64 (a0 / 2) 6148914691236517205)+(Go.bits .and .u64 a0 6148914691236517205))) 3689348814741910323))) / 16)+(IntKind.u64.wrap ((Go.bits .and .u64 ((IntKind.u64.wrap ((Go.bits .and .u64 (a0 / 2) 6148914691236517205)+(Go.bits .and .u64 a0 6148914691236517205))) / 4) 3689348814741910323)+(Go.bits .and .u64 (IntKind.u64.wrap ((Go.bits .and .u64 (a0 / 2) 6148914691236517205)+(Go.bits .and .u64 a0 6148914691236517205))) 3689348814741910323))))) 1085102592571150095) / 256)))+((IntKind.u64.wrap ((Go.bits .and .u64 (IntKind.u64.wrap (((IntKind.u64.wrap ((Go.bits .and .u64 ((IntKind.u64.wrap ((Go.bits .and .u64 (a0 / 2) 6148914691236517205)+(Go.bits .and .u64 a0 6148914691236517205))) / 4) 3689348814741910323)+(Go.bits .and .u64 (IntKind.u64.wrap ((Go.bits .and .u64 (a0 / 2) 6148914691236517205)+(Go.bits .and .u64 a0 6148914691236517205))) 3689348814741910323))) / 16)+(IntKind.u64.wrap ((Go.bits .and .u64 ((IntKind.u64.wrap ((Go.bits .and .u64 (a0 / 2) 6148914691236517205)+(Go.bits .and .u64 a0 6148914691236517205))) / 4) 3689348814741910323)+(Go.bits .and .u64 (IntKind.u64.wrap ((Go.bits .and .u64 (a0 / 2) 6148914691236517205)+(Go.bits .and .u64 a0 6148914691236517205))) 3689348814741910323))))) 1085102592571150095)+((Go.bits .and .u64 (IntKind.u64.wrap (((IntKind.u64.wrap ((Go.bits .and .u64 ((IntKind.u64.wrap ((Go.bits .and .u64 (a0 / 2) 6148914691236517205)+(Go.bits .and .u64 a0 6148914691236517205))) / 4) 3689348814741910323)+(Go.bits .and .u64 (IntKind.u64.wrap ((Go.bits .and .u64 (a0 / 2) 6148914691236517205)+(Go.bits .and .u64 a0 6148914691236517205))) 3689348814741910323))) / 16)+(IntKind.u64.wrap ((Go.bits .and .u64 ((IntKind.u64.wrap ((Go.bits .and .u64 (a0 / 2) 6148914691236517205)+(Go.bits .and .u64 a0 6148914691236517205))) / 4) 3689348814741910323)+(Go.bits .and .u64 (IntKind.u64.wrap ((Go.bits .and .u64 (a0 / 2) 6148914691236517205)+(Go.bits .and .u64 a0 6148914691236517205))) 3689348814741910323))))) 1085102592571150095) / 256))) / 65536))) / 4294967296)))) 127))=some r:=h;clear h;obtain rfl:=Option.some.inj H;go_enter Tryz.func163,Tryz.ntmps163;go_wp2
 go_ret;exact⟨rs,by repeat(first|exact Drawn0.refl _|apply Drawn0.step)⟩
def impl_size.f (a0:Int):Option (Int):=(bits_OnesCount64.f (IntKind.u64.wrap (a0))).bind fun t557=>(some t557)
set_option maxHeartbeats 8000000 in
set_option maxRecDepth 100000 in
theorem impl_size.calls (a0:Int) (r:Int) (w:World) (h:impl_size.f a0=some r) :
  Calls Tryz.prog 135 #[.int .i64 a0] w fun e w'=>e = .returned (.int .i64 r)∧Drawn0 w w':=by
 have H:((bits_OnesCount64.f (IntKind.u64.wrap (a0))).bind fun t557=>(some t557))=some r:=h;clear h;replace H:=Option.bind_eq_some_iff.mp H;obtain ⟨t557,A20,H⟩:=H;replace H:(some t557)=some r:=H;have A2:=Aside0.mk A20;clear A20;obtain rfl:=Option.some.inj H;go_enter Tryz.func135,Tryz.ntmps135;go_wp2_with (first|((with_reducible refine gate_callee (f:=163) rfl ?_);refine gl (some 5) Tryz.func163 #[.int .u64 (IntKind.u64.wrap (a0))] ?_;(with_reducible refine(bits_OnesCount64.calls (IntKind.u64.wrap (a0)) t557 _ A2.out).mono ?_);rintro e w' ⟨rfl,⟨nd,rfl⟩⟩;refine⟨_,rfl,?_⟩))
 go_ret;exact⟨rs,by repeat(first|exact Drawn0.refl _|apply Drawn0.step)⟩
def impl_length_int64.f (l0:List Int):Option (Int):=some (l0.length:Int)
set_option maxHeartbeats 8000000 in
set_option maxRecDepth 100000 in
theorem impl_length_int64.calls (A0:Option Addr) (c0:Nat) (l0:List Int) (r:Int) (w:World) (hr0:Kd.C (Kd.int .i64) w A0 l0.length l0) (hc0:l0.length≤c0) (h:impl_length_int64.f l0=some r) :
  Calls Tryz.prog 110 #[.slice A0 l0.length c0] w fun e w'=>e = .returned (.int .i64 r)∧Drawn0 w w':=by
 have HR0:=Aside0.mk hr0;have HC0:=Aside0.mk hc0;clear hr0 hc0;have H:(some (l0.length:Int))=some r:=h;clear h;obtain rfl:=Option.some.inj H;go_enter Tryz.func110,Tryz.ntmps110;go_wp2
 go_ret;exact⟨rs,by repeat(first|exact Drawn0.refl _|apply Drawn0.step)⟩
end Go.Proofs.YtbnnamejnjfkjaaGreat.Q
end

section
namespace Go.Proofs.YtbnnamejnjfkjaaGreat.K
open Go.RowKit Go.Shelf Go.Proofs.YtbnnamejnjfkjaaGreat.Q Go.Proofs.YtbnnamejnjfkjaaGreatW.PrintWords Go.Proofs.YtbnnamejnjfkjaaGreatW.PrintLast Go.Proofs.YtbnnamejnjfkjaaGreatW.PrintMore
set_option linter.unusedVariables false
set_option linter.unusedSimpArgs false
abbrev Asc (l:List Int):Prop:=l.Pairwise (· < ·)
def below (l:List Int) (t:Int):Nat:=l.countP (·<t)
theorem mid_eq (i j:Nat) (h:j≤2305843009213693952) (hij:i≤j):wrap64 ((IntKind.u64.wrap (wrap64 ((i:Int)+(j:Int)))) / 2)=(((i+j) / 2:Nat):Int):=by
 have h1:wrap64 ((i:Int)+(j:Int))=(i:Int)+j:=by unfold wrap64;omega
 have h2:IntKind.u64.wrap ((i:Int)+(j:Int))=(i:Int)+j:=by
  simp [IntKind.wrap,IntKind.signed,IntKind.bits];omega
 rw[h1,h2]
 unfold wrap64
 omega
theorem rd_get (l:List Int) (i:Nat) (h:i<l.length):rd l (i:Int)=l[i]:=by simp [rd,h]
theorem less_is (a b:Int):cmp_Less_int64.f a b=some (decide (a<b)):=by
 simp [cmp_Less_int64.f,cmp_isNaN_int64.f]
theorem bs_loop (l:List Int) (t:Int) (hl:l.length≤2305843009213693952):∀(d k i j:Nat),j - i≤d→d<k→i≤j→j≤l.length →
  ∃(m:Nat) (ok:Bool),slices_BinarySearch_int64_int64.l0 k l t (l.length:Int) (i:Int) (j:Int)=some ((m:Int),ok)∧i≤m∧m≤j ∧
   (Asc l→(∀ q (h:q<l.length),q<i→l[q]<t)→(∀ q (h:q<l.length),j≤q→t≤l[q]) →
    ((∀ q (h:q<l.length),q<m→l[q]<t)∧(∀ q (h:q<l.length),m≤q→t≤l[q])∧ok=decide (t ∈ l))):=by
 intro d
 induction d with
 |zero=>
  intro k i j hd hk hij hj
  obtain ⟨k,rfl⟩:∃ m,k=m+1:=⟨k - 1,by omega⟩
  obtain rfl:i=j:=by omega
  simp only [slices_BinarySearch_int64_int64.l0]
  rw[if_neg (by omega)]
  by_cases hi:i<l.length
  ·rw[if_pos (by omega),if_pos (by omega),if_pos (by omega),rd_get l i hi]
   by_cases he:l[i]=t
   ·rw[if_pos he]
    refine⟨i,true,rfl,Nat.le_refl _,Nat.le_refl _,fun hs h1 h2=>⟨h1,h2,?_⟩⟩
    have:t ∈ l:=he ▸ List.getElem_mem hi
    simp [this]
   ·rw[if_neg he]
    refine⟨i,false,by simp [slices_isNaN_int64.f],Nat.le_refl _,Nat.le_refl _,fun hs h1 h2=>⟨h1,h2,?_⟩⟩
    have:t ∉ l:=by
     intro hm
     obtain ⟨q,hq,rfl⟩:=List.mem_iff_getElem.1 hm
     rcases Nat.lt_trichotomy q i with h|h|h
     ·have:=h1 q hq h;omega
     ·subst h;exact he rfl
     ·have:=h2 i hi (Nat.le_refl _)
      have:=List.pairwise_iff_getElem.1 hs i q hi hq h
      omega
    simp [this]
  ·rw[if_neg (by omega)]
   refine⟨i,false,rfl,Nat.le_refl _,Nat.le_refl _,fun hs h1 h2=>⟨h1,h2,?_⟩⟩
   have:t ∉ l:=by
    intro hm
    obtain ⟨q,hq,rfl⟩:=List.mem_iff_getElem.1 hm
    have:=h1 q hq (by omega);omega
   simp [this]
 |succ d ih=>
  intro k i j hd hk hij hj
  by_cases hlt:i<j
  ·obtain ⟨k,rfl⟩:∃ m,k=m+1:=⟨k - 1,by omega⟩
   have hm1:(i+j) / 2<l.length:=by omega
   simp only [slices_BinarySearch_int64_int64.l0]
   rw[if_pos (by omega),mid_eq i j (by omega) hij,if_pos (by omega),if_pos (by omega),rd_get l _ hm1,less_is]
   simp only [Option.bind_some]
   by_cases hc:l[(i+j) / 2]<t
   ·have hw:wrap64 ((((i+j) / 2:Nat):Int)+1)=(((i+j) / 2+1:Nat):Int):=by unfold wrap64;omega
    simp only [hc,decide_true,if_true,hw]
    obtain ⟨m,ok,h1,h2,h3,h4⟩:=ih k ((i+j) / 2+1) j (by omega) (by omega) (by omega) hj
    refine⟨m,ok,h1,by omega,h3,fun hs g1 g2=>h4 hs (fun q hq hqi=>?_) g2⟩
    rcases Nat.lt_or_ge q ((i+j) / 2) with h|h
    ·have:=List.pairwise_iff_getElem.1 hs q _ hq hm1 h;omega
    ·obtain rfl:q=(i+j) / 2:=by omega
     exact hc
   ·simp only [hc,decide_false,Bool.false_eq_true,if_false]
    obtain ⟨m,ok,h1,h2,h3,h4⟩:=ih k i ((i+j) / 2) (by omega) (by omega) (by omega) (by omega)
    refine⟨m,ok,h1,h2,by omega,fun hs g1 g2=>h4 hs g1 (fun q hq hqi=>?_)⟩
    rcases Nat.lt_or_ge ((i+j) / 2) q with h|h
    ·have:=List.pairwise_iff_getElem.1 hs _ q hm1 hq h;omega
    ·obtain rfl:q=(i+j) / 2:=by omega
     omega
  ·obtain ⟨m,ok,h1,h2⟩:=ih k i j (by omega) (by omega) hij hj
   exact⟨m,ok,h1,h2⟩
def bsOf (l:List Int) (t:Int):Int×Bool:=(slices_BinarySearch_int64_int64.f (l.length+1) l t).getD (0,false)
theorem bs_is (l:List Int) (t:Int) (hl:l.length≤2305843009213693952):slices_BinarySearch_int64_int64.f (l.length+1) l t=some (bsOf l t):=by
 obtain ⟨m,ok,h,_⟩:=bs_loop l t hl l.length (l.length+1) 0 l.length (by omega) (by omega) (by omega) (Nat.le_refl _)
 unfold bsOf slices_BinarySearch_int64_int64.f
 rw[show ((0:Nat):Int)=0 from rfl] at h
 rw[h];rfl
theorem bs_asc (l:List Int) (t:Int) (hl:l.length≤2305843009213693952) (hs:Asc l):∃ m:Nat,(bsOf l t).1=m∧m≤l.length∧(∀ q (h:q<l.length),q<m→l[q]<t)∧(∀ q (h:q<l.length),m≤q→t≤l[q])∧(bsOf l t).2=decide (t ∈ l):=by
 obtain ⟨m,ok,h,_,h3,h4⟩:=bs_loop l t hl l.length (l.length+1) 0 l.length (by omega) (by omega) (by omega) (Nat.le_refl _)
 have:=bs_is l t hl
 unfold slices_BinarySearch_int64_int64.f at this
 rw[show ((0:Nat):Int)=0 from rfl] at h
 rw[h] at this
 injection this with this
 obtain ⟨g1,g2,g3⟩:=h4 hs (fun q _ h=>by omega) (fun q hq h=>by omega)
 rw[← this]
 exact⟨m,rfl,h3,g1,g2,g3⟩
def hasB (l:List Int) (f:Int):Bool:=(bsOf l f).2
theorem has_asc (l:List Int) (f:Int) (hl:l.length≤2305843009213693952) (hs:Asc l):hasB l f=decide (f ∈ l):=by
 obtain ⟨_,_,_,_,_,h⟩:=bs_asc l f hl hs
 exact h
theorem has_calls (n:Int) (A:Option Addr) (c:Nat) (l:List Int) (f:Int) (w:World) (hr:Ki.C w A l.length l) (hc:l.length≤c) (hl:l.length≤2305843009213693952) :
  Calls Tryz.prog 54 #[.agg #[I n,.slice A l.length c],I f] w fun e w'=>e = .returned (.bool (hasB l f))∧Grew w w':=
 impl_Complex_has.calls (l.length+1) n A c l f (hasB l f) w hr hc (by unfold impl_Complex_has.f;rw[bs_is l f hl];rfl)
end Go.Proofs.YtbnnamejnjfkjaaGreat.K
end

section
namespace Go.Proofs.YtbnnamejnjfkjaaGreat.K
open Go.RowKit Go.Shelf Go.Proofs.YtbnnamejnjfkjaaGreat.Q Go.Proofs.YtbnnamejnjfkjaaGreatW.PrintWords Go.Proofs.YtbnnamejnjfkjaaGreatW.PrintLast Go.Proofs.YtbnnamejnjfkjaaGreatW.PrintMore
set_option linter.unusedVariables false
set_option linter.unusedSimpArgs false
theorem within_is (a b c:Int):impl_within.f a b c=some (decide (b≤a∧a≤c)):=by
 unfold impl_within.f
 by_cases h:b≤a <;> simp [h]
theorem within_calls (a b c:Int) (r:Bool) (h:decide (b≤a∧a≤c)=r) (w:World) :
  Calls Tryz.prog 93 #[I a,I b,I c] w fun e w'=>e = .returned (.bool r)∧Grew w w':=
 (impl_within.calls a b c r w (by rw[within_is,h])).mono fun e w' ⟨he,hd⟩=>⟨he,hd.below⟩
theorem isSize_calls (n:Int) (r:Bool) (h:decide (1≤n∧n≤6)=r) (w:World) :
  Calls Tryz.prog 128 #[I n] w fun e w'=>e = .returned (.bool r)∧Grew w w':=
 (impl_isSize.calls n r w (by unfold impl_isSize.f;rw[within_is,h];rfl)).mono fun e w' ⟨he,hd⟩=>⟨he,hd.below⟩
def fullOf (n:Int):Int:=2 ^ n.toNat - 1
theorem two_pow (m k:Nat) (h:m≤k):(1:Int)≤2 ^ m∧(2:Int) ^ m≤2 ^ k:=by
 have h1:(2:Nat) ^ m≤2 ^ k:=Nat.pow_le_pow_right (by omega) h
 have h2:(1:Nat)≤2 ^ m:=Nat.one_le_two_pow
 have e1:(2:Int) ^ m=((2 ^ m:Nat):Int):=by simp
 have e2:(2:Int) ^ k=((2 ^ k:Nat):Int):=by simp
 rw[e1,e2]
 omega
theorem full_range (n:Int) (h:1≤n∧n≤6):1≤fullOf n∧fullOf n≤63:=by
 unfold fullOf
 have h1:=two_pow n.toNat 6 (by omega)
 have h2:=two_pow 1 n.toNat (by omega)
 omega
theorem full_nat (n:Int):fullOf n=((2 ^ n.toNat - 1:Nat):Int):=by
 unfold fullOf
 have:((2 ^ n.toNat:Nat):Int)=(2:Int) ^ n.toNat:=by simp
 have h1:(1:Nat)≤2 ^ n.toNat:=Nat.one_le_two_pow
 omega
theorem shl_one (n:Int) (h0:0≤n) (h6:n≤62):shl .i64 1 n=2 ^ n.toNat:=by
 have h:=two_pow n.toNat 62 (by omega)
 unfold shl
 rw[Nat.min_eq_left (by show n.toNat≤64;omega),Int.one_mul]
 show IntKind.wrap .i64 _=_
 rw[IntKind.wrap_i64]
 omega
theorem full_is (n:Int) (l:List Int) (h0:0≤n) (h6:n≤62):impl_Complex_full.f n l=some (fullOf n):=by
 unfold impl_Complex_full.f fullOf
 rw[if_pos h0,shl_one n h0 h6]
 congr 1
 have h:=two_pow n.toNat 62 (by omega)
 unfold wrap64
 omega
theorem full_calls (n:Int) (A:Option Addr) (c:Nat) (l:List Int) (w:World) (h0:0≤n) (h6:n≤62) (hr:Ki.C w A l.length l) (hc:l.length≤c) :
  Calls Tryz.prog 79 #[.agg #[I n,.slice A l.length c]] w fun e w'=>e = .returned (I (fullOf n))∧Grew w w':=
 impl_Complex_full.calls n A c l (fullOf n) w hr hc (full_is n l h0 h6)
end Go.Proofs.YtbnnamejnjfkjaaGreat.K
end

section
namespace Go.Proofs.YtbnnamejnjfkjaaGreat.K
open Go.RowKit Go.Shelf Go.Proofs.YtbnnamejnjfkjaaGreatW.PrintWords Go.Proofs.YtbnnamejnjfkjaaGreatW.PrintLast Go.Proofs.YtbnnamejnjfkjaaGreatW.PrintMore
set_option linter.unusedVariables false
set_option linter.unusedSimpArgs false
def closedAt (l:List Int) (f:Int):Bool:=(bords f).all (hasB l)
theorem bords_length (f:Int):(bords f).length≤6:=by
 have h1:=bordsOf_length f (verts f).reverse
 have h2:=verts_length f
 unfold bords
 simp at h1;omega
theorem has_answers (n:Int) (A:Option Addr) (c:Nat) (l:List Int) (w:World) (hr:Ki.C w A l.length l) (hc:l.length≤c) (hl:l.length≤2305843009213693952) (x:Int) :
  Answers w 54 (#[.agg #[I n,.slice A l.length c]].push (I x) ++ #[]) (.bool (hasB l x)):=
 fun W hW=>has_calls n A c l x W (Kd.C_below hr hW) hc hl
set_option maxHeartbeats 2000000 in
theorem IsComplex1_calls (n f:Int) (B:Nat) (A:Option Addr) (c:Nat) (l:List Int) (w:World) (hb:w.heap[B]?=some (.cells #[I n,.slice A l.length c] 26 (0,0)))
  (hr:Ki.C w A l.length l) (hc:l.length≤c) (hl:l.length≤2305843009213693952) :
  Calls Tryz.prog 129 #[I f,.pointer (some ⟨B,0,none⟩)] w fun e w'=>e = .returned (.bool (closedAt l f))∧Grew w w':=by
 have hlt:B<w.heap.size:=(Array.getElem?_eq_some_iff.1 hb).1
 have h0:w.cell? ⟨B,0,none⟩=some (I n):=blk_cell hb 0
 have h1:w.cell? ⟨B,1,none⟩=some (.slice A l.length c):=blk_cell hb 1
 have HR:=Aside0.mk hr
 have HC:=Aside0.mk hc
 clear hr hc hb
 go_enter Tryz.func129,Tryz.ntmps129
 go_wp2_with fail
 go_region_held3 (fun w'=>w'.cell? ⟨B,0,none⟩=some (I n)∧w'.cell? ⟨B,1,none⟩=some (.slice A l.length c))
  (first|exact⟨(HG2.out.cell (p:=⟨B,0,none⟩) hlt).trans h0,(HG2.out.cell (p:=⟨B,1,none⟩) hlt).trans h1⟩|exact⟨(HG.out.cell (p:=⟨B,0,none⟩) hlt).trans h0,(HG.out.cell (p:=⟨B,1,none⟩) hlt).trans h1⟩|go_keep)
  (first
   |(go_at_call 130;refine(borders_calls f _).mono ?_;rintro e w1 ⟨v,rfl,hR,hG⟩;obtain ⟨A1,c1,hv,hle,hCr⟩:=Kd.R_reads hR;subst hv;have HG:Aside0 (Grew w w1):=⟨Below.trans ((Below.refl _ w).drew) hG⟩;have HL:=Aside0.mk hle;have HCR:=Aside0.mk hCr;clear hR hle hCr)
   |(go_at_call 115;refine(areAll_int (hasB l) A1 c1 (bords f) _ _ _ _ HCR.out HL.out (by have:=bords_length f;omega) (enters_of Tryz.func54 (by kernel_rfl) rfl) (fun x _=>has_answers n A c l _ (Kd.C_below HR.out HG.out) HC.out hl x)).mono ?_;rintro e w2 ⟨rfl,hG2⟩;have HG2:Aside0 (Grew w w2):=⟨Grew.trans HG.out hG2⟩;clear hG2))
 all_goals (go_wp2_with fail;go_ret;exact⟨rfl,HG2.out⟩)
def goodAt (n:Int) (l:List Int) (j:Nat):Prop:=∀(h:j<l.length),1≤l[j]∧l[j]≤fullOf n∧(∀(h0:0<j),l[j - 1]'(by omega)<l[j])
instance (n:Int) (l:List Int) (j:Nat):Decidable (goodAt n l j):=by unfold goodAt;infer_instance
def rangeAsc (n:Int) (l:List Int):Bool:=decide (∀ j,j<l.length→goodAt n l j)
def isC (n:Int) (l:List Int):Bool:=decide (1≤n∧n≤6) && (rangeAsc n l && l.all (closedAt l))
theorem rangeAsc_false (n:Int) (l:List Int) (j:Nat) (h:j<l.length) (hb:¬ goodAt n l j):rangeAsc n l=false:=by
 unfold rangeAsc
 exact decide_eq_false fun hall=>hb (hall j h)
set_option maxRecDepth 100000 in
set_option maxHeartbeats 4000000 in
theorem IsComplex_calls (n:Int) (A:Option Addr) (c:Nat) (l:List Int) (w:World) (hr:Ki.C w A l.length l) (hc:l.length≤c) (hl:l.length≤1152921504606846976) :
  Calls Tryz.prog 76 #[.agg #[I n,.slice A l.length c]] w fun e w'=>e = .returned (.bool (isC n l))∧Grew w w':=by
 have HR:=Aside0.mk hr
 have HC:=Aside0.mk hc
 clear hr hc
 by_cases hn:1≤n∧n≤6
 ·have hF:=full_range n hn
  have HI:=Aside0.mk (show isC n l=(rangeAsc n l && l.all (closedAt l)) by simp [isC,hn])
  go_enter Tryz.func76,Tryz.ntmps76
  go_wp2_with fail
  refine(isSize_calls n true (by simp [hn]) _).mono ?_
  rintro e w1 ⟨rfl,hG1⟩
  have HB1:Aside0 (w1.heap[w.heap.size]?=some (.cells #[I n,.slice A l.length c] 26 (0,0))):=⟨blk_below (blk_new w _) hG1⟩
  have HG1:Aside0 (Grew w w1):=⟨Grew.trans (below_alloc (Grew.refl w) _) hG1⟩
  clear hG1
  have h0:w1.cell? ⟨w.heap.size,0,none⟩=some (I n):=blk_cell HB1.out 0
  have h1:w1.cell? ⟨w.heap.size,1,none⟩=some (.slice A l.length c):=blk_cell HB1.out 1
  go_wp2_with fail
  clear h0 h1
  go_loopg [12] l.length (fun gg s12 wr=>∃ kk:Nat,kk≤l.length∧l.length - kk≤gg∧s12 = .int .i64 kk∧Aside0 (Grew w1 wr)∧Aside0 (∀ j,j<kk→goodAt n l j))
  case atStart=>exact⟨0,Nat.zero_le _,by omega,rfl,⟨Below.refl _ _⟩,⟨fun j hj=>absurd hj (Nat.not_lt_zero _)⟩⟩
  case round=>
   obtain ⟨kk,hkk,hg,rfl,BW,A0⟩:=hrel
   have HBr:Aside0 (wr.heap[w.heap.size]?=some (.cells #[I n,.slice A l.length c] 26 (0,0))):=⟨blk_below HB1.out BW.out⟩
   have HGr:Aside0 (Grew w wr):=⟨Grew.trans HG1.out BW.out⟩
   have h0:wr.cell? ⟨w.heap.size,0,none⟩=some (I n):=blk_cell HBr.out 0
   have h1:wr.cell? ⟨w.heap.size,1,none⟩=some (.slice A l.length c):=blk_cell HBr.out 1
   by_cases hlt:kk<l.length
   ·have hltz:(kk:Int)<(l.length:Int):=by omega
    obtain ⟨ad,e0,hx⟩:=Kd.at_int (Kd.C_below HR.out HGr.out) (kk:Int) (by omega) (by omega)
    cases e0
    have hrd:rd l (kk:Int)=l[kk]:=by simp [rd,hlt]
    rw[hrd,Int.toNat_natCast] at hx
    clear hrd
    obtain ⟨y,hy⟩:∃ y,y=l[kk]:=⟨_,rfl⟩
    rw[← hy] at hx
    have HY:=Aside0.mk hy
    clear hy
    go_wp2_with fail
    refine(full_calls n _ c l _ (by omega) (by omega) (Kd.C_below HR.out HGr.out) HC.out).mono ?_
    rintro e w2 ⟨rfl,hG2⟩
    go_wp2_with fail
    by_cases hin:1≤y∧y≤fullOf n
    ·refine(within_calls y 1 (fullOf n) true (by simp [hin]) _).mono ?_
     rintro e w3 ⟨rfl,hG3⟩
     have HG3:Aside0 (Grew wr w3):=⟨Grew.trans hG2 hG3⟩
     have HB3:=Aside0.mk (blk_below HBr.out HG3.out)
     have h03:w3.cell? ⟨w.heap.size,0,none⟩=some (I n):=blk_cell HB3.out 0
     have h13:w3.cell? ⟨w.heap.size,1,none⟩=some (.slice (some ad) l.length c):=blk_cell HB3.out 1
     clear hG2 hG3 h0 h1 hx
     rcases Nat.eq_zero_or_pos kk with rfl|hpos
     ·go_wp2_with fail
      go_roundg (l.length - 1)
      case measure=>omega
      case rel=>exact⟨1,by omega,by omega,rfl,⟨Grew.trans BW.out HG3.out⟩,⟨fun j hj h=>by
       obtain rfl:j=0:=by omega
       have:=HY.out
       exact⟨by omega,by omega,fun h0=>absurd h0 (Nat.lt_irrefl 0)⟩⟩⟩
     ·obtain ⟨m,rfl⟩:∃ m,kk=m+1:=⟨kk - 1,by omega⟩
      obtain ⟨ad',e0,hx'⟩:=Kd.at_int (Kd.C_below HR.out (Grew.trans HGr.out HG3.out)) (m:Int) (by omega) (by omega)
      cases e0
      have hrd:rd l (m:Int)=l[m]:=by simp [rd,show m<l.length by omega]
      rw[hrd,Int.toNat_natCast] at hx'
      clear hrd
      obtain ⟨z,hz⟩:∃ z,z=l[m]:=⟨_,rfl⟩
      rw[← hz] at hx'
      have HZ:=Aside0.mk hz
      clear hz
      by_cases hyz:y≤z
      ·have HF:Aside0 (isC n l=false):=⟨by
        rw[HI.out,rangeAsc_false n l (m+1) hlt (fun hg=>by
         have h2:=(hg hlt).2.2 (by omega)
         have e1:=HY.out
         have e2:=HZ.out
         simp only [Nat.add_sub_cancel] at h2
         omega)]
        rfl⟩
       go_wp2_with fail
       go_ret
       exact⟨by rw[HF.out];rfl,Grew.trans HGr.out HG3.out⟩
      ·go_wp2_with fail
       go_roundg (l.length - (m+1+1))
       case measure=>omega
       case rel=>exact⟨m+1+1,by omega,by omega,by go_num,⟨Grew.trans BW.out HG3.out⟩,⟨fun j hj h=>by
        rcases Nat.lt_or_ge j (m+1) with h'|h'
        ·exact A0.out j h' h
        ·obtain rfl:j=m+1:=by omega
         have e1:=HY.out
         have e2:=HZ.out
         exact⟨by omega,by omega,fun _=>by simp only [Nat.add_sub_cancel];omega⟩⟩⟩
    ·have HF:Aside0 (isC n l=false):=⟨by
      rw[HI.out,rangeAsc_false n l kk hlt (fun hg=>by
       have h2:=hg hlt
       have e1:=HY.out
       omega)]
      rfl⟩
     refine(within_calls y 1 (fullOf n) false (by simpa using hin) _).mono ?_
     rintro e w3 ⟨rfl,hG3⟩
     have HG3:Aside0 (Grew wr w3):=⟨Grew.trans hG2 hG3⟩
     clear hG2 hG3 h0 h1 hx
     go_wp2_with fail
     go_ret
     exact⟨by rw[HF.out];rfl,Grew.trans HGr.out HG3.out⟩
   ·obtain rfl:kk=l.length:=by omega
    have HT:Aside0 (isC n l=l.all (closedAt l)):=⟨by
     rw[HI.out,show rangeAsc n l=true from decide_eq_true fun j hj=>A0.out j hj]
     rfl⟩
    have H:=Aside0.mk (areAll_int (closedAt l) A c l 129 #[] #[.pointer (some ⟨w.heap.size,0,none⟩)] wr (Kd.C_below HR.out HGr.out) HC.out (by omega)
     (enters_of Tryz.func129 (by kernel_rfl) rfl)
     (fun x hx W hW=>IsComplex1_calls n x w.heap.size A c l W (blk_below HBr.out hW) (Kd.C_below HR.out (Grew.trans HGr.out hW)) HC.out (by omega)))
    generalize l.all (closedAt l)=b at H HT
    go_wp2_with fail
    refine H.out.mono ?_
    rintro e w4 ⟨rfl,hG4⟩
    go_wp2_with fail
    go_ret
    exact⟨by rw[HT.out];rfl,Grew.trans HGr.out hG4⟩
 ·have HF:Aside0 (isC n l=false):=⟨by simp only [isC,decide_eq_false hn,Bool.false_and]⟩
  go_enter Tryz.func76,Tryz.ntmps76
  go_wp2_with fail
  refine(isSize_calls n false (by simpa using hn) _).mono ?_
  rintro e w1 ⟨rfl,hG1⟩
  have HG1:Aside0 (Grew w w1):=⟨Grew.trans (below_alloc (Grew.refl w) _) hG1⟩
  clear hG1
  go_wp2_with fail
  go_ret
  exact⟨by rw[HF.out];rfl,HG1.out⟩
end Go.Proofs.YtbnnamejnjfkjaaGreat.K
end

section
namespace Go.Proofs.YtbnnamejnjfkjaaGreat.K
open Go.RowKit Go.Shelf Go.Proofs.YtbnnamejnjfkjaaGreatW.PrintWords Go.Proofs.YtbnnamejnjfkjaaGreatW.PrintLast Go.Proofs.YtbnnamejnjfkjaaGreatW.PrintMore
set_option linter.unusedVariables false
set_option linter.unusedSimpArgs false
abbrev CB (w:World) (g:Nat) (n:Int) (v:Value):Prop:=w.heap[g]?=some (.cells #[I n,v] 26 (0,0))
theorem CB.set {w:World} {g:Nat} {n m:Int} {v u:Value} (h:CB w g n v):CB ((w.setCell ⟨g,0,none⟩ (I m)).setCell ⟨g,1,none⟩ u) g m u:=
 blk_put (cs:=#[I m,v]) (blk_put (cs:=#[I n,v]) h 0 _ rfl) 1 _ rfl
theorem CB.c0 {w:World} {g:Nat} {n:Int} {v:Value} (h:CB w g n v):w.cell? ⟨g,0,none⟩=some (I n):=blk_cell h 0
theorem CB.c1 {w:World} {g:Nat} {n:Int} {v:Value} (h:CB w g n v):w.cell? ⟨g,1,none⟩=some v:=blk_cell h 1
theorem CB.far {w:World} {g:Nat} {n:Int} {v:Value} (h:CB w g n v) {p:Addr} (hp:g≠p.block) (u:Value):CB (w.setCell p u) g n v:=blk_far h hp u
theorem Ri.set {w:World} {base:Nat} {ok:Nat→Prop} {v:Value} {l:List Int} (h:Ki.R 2 w base ok v l) {g t:Nat} {cells:Array Value} (hb:w.heap[g]?=some (.cells cells t (0,0))) (ht:2≠t) (j:Nat) (u:Value):Ki.R 2 (w.setCell ⟨g,j,none⟩ u) base ok v l:=
 Kd.R_set h hb (fun q hq=>by
  have:q=2:=by simpa [Ki,Kd.int,Kd.scalar] using hq
  rw[this];exact ht) j u
theorem CB.grown {w w1:World} {g:Nat} {n:Int} {v u:Value} {base:Nat} {ok:Nat→Prop} {l:List Int} (h:CB w g n v) (hR:Ki.R 2 w base ok u l) (hg:w.grownBy w1 u.ownBlock):CB w1 g n v:=
 blk_grown h hg (Kd.R_ne hR h (by decide))
theorem infoI:(Tryz.prog.info? 2).map (fun i=>(i.zero,i.size,i.bytes))=some (some (.int .i64 0),1,8):=by kernel_rfl
section
variable {ops : Array Oper} {rest : List Oper} {o : Oper} {a : Act} {Q : Exit → Act → World → Prop}
theorem append_int {W:World} (base:Nat) (hgd:o.guard=none) (s x:Operand)
  (ho:o.op = .call { callee:= .builtin .append,args:=#[s,x],argTypes:=#[24,24] })
  (v:Value) (xs:List Int) (p:Int) (hs:a.eval s=v) (hx:a.eval x = .slice (some ⟨W.heap.size,0,none⟩) 1 1)
  (HO:Ki.R 2 W base (fun _=>True) v xs) (hbase:base≤W.heap.size) (hl:xs.length≤1000000000000)
  (h:∀ A c w1,Ki.R 2 w1 base (fun _=>True) (.slice A (xs.length+1) c) (xs ++ [p])→Below base W w1→W.grownBy w1 v.ownBlock→wpList Tryz.prog ops Q rest (a.put o.dst (.slice A (xs.length+1) c)) w1) :
  wpList Tryz.prog ops Q (o :: rest) a (W.alloc (.cells #[I p] 2)):=by
 refine Kd.R_append Ki (w0:=W) base hgd s x 24 2 (.int .i64 0) 8 ho Tryz.underlying24 infoI rfl (by decide) (by omega) v xs p [I p] (fun _=>True) (fun _=>False) hs hx rfl (fun _ hk=>hk.elim) (fun _ _=>trivial) HO (Below.refl _ _) hbase (by omega) ?_
 intro v1 w1 hR hB hg _
 obtain ⟨A,c,e⟩:=Kd.R_slice hR
 rw[List.length_append] at e
 subst e
 exact h A c w1 hR hB hg
end
end Go.Proofs.YtbnnamejnjfkjaaGreat.K
end

section
namespace Go.Proofs.YtbnnamejnjfkjaaGreat.K
open Go.RowKit Go.Shelf Go.Proofs.YtbnnamejnjfkjaaGreatW.PrintWords Go.Proofs.YtbnnamejnjfkjaaGreatW.PrintLast Go.Proofs.YtbnnamejnjfkjaaGreatW.PrintMore
set_option linter.unusedVariables false
set_option linter.unusedSimpArgs false
theorem CB.later {w w':World} {g:Nat} {n:Int} {v:Value} (h:CB w g n v) (hb:Grew w w'):CB w' g n v:=blk_below h hb
structure Kx (w:World) (A:Option Addr) (c:Nat) (l:List Int):Prop where
 r:Ki.C w A l.length l
 c:l.length≤c
 b:l.length≤1152921504606846976
theorem Kx.later {w w':World} {A:Option Addr} {c:Nat} {l:List Int} (h:Kx w A c l) (hb:Grew w w'):Kx w' A c l:=⟨Kd.C_below h.r hb,h.c,h.b⟩
theorem Kx.has {w:World} {A:Option Addr} {c:Nat} {l:List Int} (h:Kx w A c l) (n f:Int) :
  Calls Tryz.prog 54 #[.agg #[I n,.slice A l.length c],I f] w fun e w'=>e = .returned (.bool (hasB l f))∧Grew w w':=
 has_calls n A c l f w h.r h.c (Nat.le_trans h.b (by decide))
theorem isC_size {n:Int} {l:List Int} (h:isC n l=true):1≤n∧n≤6:=by
 unfold isC at h
 simp at h
 exact h.1
end Go.Proofs.YtbnnamejnjfkjaaGreat.K
end

section
namespace Go.Proofs.YtbnnamejnjfkjaaGreat.K
open Go.RowKit Go.Shelf Go.Proofs.YtbnnamejnjfkjaaGreat.Q Go.Proofs.YtbnnamejnjfkjaaGreatW.PrintWords Go.Proofs.YtbnnamejnjfkjaaGreatW.PrintLast Go.Proofs.YtbnnamejnjfkjaaGreatW.PrintMore
set_option linter.unusedVariables false
set_option linter.unusedSimpArgs false
def Row (w:World) (lo hi:Nat) (v:Value) (l:List Int):Prop:=Ki.R 2 w lo (fun k=>lo≤k∧k<hi) v l
theorem Row.of_R {w w':World} {v:Value} {l:List Int} (h:Ki.R 2 w' w.heap.size (fun _=>True) v l):Row w' w.heap.size w'.heap.size v l:=
 Kd.R_mono (Kd.R_bound h) (fun k hk=>⟨hk.2.1,hk.2.2.1⟩)
theorem Row.kept {w w':World} {lo hi:Nat} {v:Value} {l:List Int} {S:Nat→Prop} (h:Row w lo hi v l) (hk:Kept w w' S) (hs:∀ k,lo≤k→k<hi→¬ S k):Row w' lo hi v l:=
 Kd.R_step h (fun k ho hlt=>hk.2 k hlt (hs k ho.1 ho.2))
theorem Row.reads {w:World} {lo hi:Nat} {v:Value} {l:List Int} (h:Row w lo hi v l):∃ A c,v = .slice A l.length c∧l.length≤c∧Ki.C w A l.length l:=Kd.R_reads h
theorem Row.slice {w:World} {lo hi m c:Nat} {A:Option Addr} {l:List Int} (h:Row w lo hi (.slice A m c) l):m=l.length∧m≤c∧Ki.C w A l.length l:=by
 obtain ⟨A',c',e,h1,h2⟩:=h.reads
 injection e with e1 e2 e3
 subst e1 e2 e3
 exact⟨rfl,h1,h2⟩
inductive Item where
 |box (g t:Nat) (cs:Array Value)
 |row (lo hi:Nat) (v:Value) (l:List Int)
def Item.ok (W:World):Item→Prop
 |.box g t cs=>W.heap[g]?=some (.cells cs t (0,0))
 |.row lo hi v l=>Row W lo hi v l
def Item.at_:Item→Nat→Prop
 |.box g _ _,k=>k=g
 |.row lo hi _ _,k=>lo≤k∧k<hi
theorem Item.kept {W W':World} {S:Nat→Prop} {it:Item} (h:it.ok W) (hk:Kept W W' S) (hs:∀ k,it.at_ k→¬ S k):it.ok W':=by
 cases it with
 |box g t cs=>exact blk_kept h hk (hs g rfl)
 |row lo hi v l=>exact Row.kept h hk (fun k h1 h2=>hs k ⟨h1,h2⟩)
def Mem (W:World) (its:List Item):Prop:=∀ it ∈ its,it.ok W
theorem Mem.nil (W:World):Mem W []:=fun _ h=>by cases h
theorem Mem.cons {W:World} {it:Item} {its:List Item} (h:it.ok W) (hs:Mem W its):Mem W (it :: its):=fun x hx=>by
 rcases List.mem_cons.1 hx with rfl|hx
 ·exact h
 ·exact hs x hx
theorem Mem.head {W:World} {it:Item} {its:List Item} (h:Mem W (it :: its)):it.ok W:=h it List.mem_cons_self
theorem Mem.tail {W:World} {it:Item} {its:List Item} (h:Mem W (it :: its)):Mem W its:=fun x hx=>h x (List.mem_cons_of_mem _ hx)
theorem Mem.kept {W W':World} {S:Nat→Prop} {its:List Item} (h:Mem W its) (hk:Kept W W' S) (hs:∀ it ∈ its,∀ k,it.at_ k→¬ S k):Mem W' its:=fun it hit=>Item.kept (h it hit) hk (hs it hit)
theorem Mem.grew {W W':World} {its:List Item} (h:Mem W its) (hb:Grew W W'):Mem W' its:=h.kept (Kept.of_below hb (fun _=>False)) (fun _ _ _ _ hf=>hf)
end Go.Proofs.YtbnnamejnjfkjaaGreat.K
end

section
namespace Go.Proofs.YtbnnamejnjfkjaaGreat.K
open Go.RowKit Go.Shelf Go.Proofs.YtbnnamejnjfkjaaGreat.Q Go.Proofs.YtbnnamejnjfkjaaGreatW.PrintWords Go.Proofs.YtbnnamejnjfkjaaGreatW.PrintLast Go.Proofs.YtbnnamejnjfkjaaGreatW.PrintMore
set_option linter.unusedVariables false
set_option linter.unusedSimpArgs false
theorem specIn_is (a b c:Int):spec_l01In.f a b c=some (decide (b≤a∧a≤c)):=by
 unfold spec_l01In.f
 by_cases h:b≤a
 ·rw[if_pos (by omega)];simp [h]
 ·rw[if_neg (by omega)];simp [h]
theorem u64_id (n:Int) (h0:0≤n) (h1:n≤9223372036854775807):IntKind.u64.wrap n=n:=by
 simp [IntKind.wrap,IntKind.signed,IntKind.bits];omega
theorem specAll_is (n:Int) (h0:0≤n) (h6:n≤62):spec_l01All.f n=some (fullOf n):=by
 unfold spec_l01All.f fullOf
 have h:=two_pow n.toNat 62 (by omega)
 rw[u64_id n h0 (by omega),if_pos h0,shl_one n h0 h6,w64 _ (by omega) (by omega)]
end Go.Proofs.YtbnnamejnjfkjaaGreat.K
end

section
namespace Go.Proofs.YtbnnamejnjfkjaaGreat.K
open Go.RowKit Go.Shelf Go.Proofs.YtbnnamejnjfkjaaGreat.Q Go.Proofs.YtbnnamejnjfkjaaGreatW.PrintWords Go.Proofs.YtbnnamejnjfkjaaGreatW.PrintLast Go.Proofs.YtbnnamejnjfkjaaGreatW.PrintMore
set_option linter.unusedVariables false
set_option linter.unusedSimpArgs false
abbrev K8:Kd Int:=Kd.int .u8
def Dr (f:Nat) (code:List Int) (mk:Value→Value) (l:List Int):Prop:=∀(W:World) (A:Option Addr) (c:Nat),K8.C W A code.length code→code.length≤c →
 Calls Tryz.prog f #[.slice A code.length c] W fun e w'=>∃ v,e = .returned (mk v)∧Ki.R 2 w' W.heap.size (fun _=>True) v l∧Grew W w'
def Fn (f:Nat) (l:List Int) (mkA:Value→Array Value) (mk:Value→Value) (r:List Int):Prop:=∀(W:World) (A:Option Addr) (c:Nat),Ki.C W A l.length l→l.length≤c →
 Calls Tryz.prog f (mkA (.slice A l.length c)) W fun e w'=>∃ v,e = .returned (mk v)∧Ki.R 2 w' W.heap.size (fun _=>True) v r∧Grew W w'
def Fv (f:Nat) (l:List Int) (mkA:Value→Array Value) (r:Value):Prop:=∀(W:World) (A:Option Addr) (c:Nat),Ki.C W A l.length l→l.length≤c →
 Calls Tryz.prog f (mkA (.slice A l.length c)) W fun e w'=>e = .returned r∧Grew W w'
theorem like_loop (l:List Int) (hl:l.length≤9223372036854775806):∀(d i k:Nat),l.length - i=d→i≤l.length→d<k→laws_likeInts.l0 k l l (i:Int)=some true:=by
 intro d
 induction d with
 |zero=>
  intro i k hd hi hk
  obtain ⟨k,rfl⟩:∃ m,k=m+1:=⟨k - 1,by omega⟩
  simp only [laws_likeInts.l0]
  rw[if_neg (by omega)]
 |succ d ih=>
  intro i k hd hi hk
  obtain ⟨k,rfl⟩:∃ m,k=m+1:=⟨k - 1,by omega⟩
  simp only [laws_likeInts.l0]
  simp only [show ((i:Int)<(l.length:Int)) from by omega,show (0:Int)≤(i:Int) from by omega,if_true]
  rw[w64 _ (by omega) (by omega),nat_succ]
  exact ih (i+1) k (by omega) (by omega) (by omega)
theorem like_is (l:List Int) (hl:l.length≤9223372036854775806) (k:Nat) (hk:l.length<k):laws_likeInts.f k l l=some true:=by
 unfold laws_likeInts.f
 rw[if_pos rfl]
 have:=like_loop l hl l.length 0 k (by omega) (by omega) hk
 simpa using this
theorem likeI_calls (l:List Int) (A1 A2:Option Addr) (c1 c2 m1 m2 lo1 hi1 lo2 hi2:Nat) (w:World) (h1:Row w lo1 hi1 (.slice A1 m1 c1) l) (h2:Row w lo2 hi2 (.slice A2 m2 c2) l) (hl:l.length≤1000000) :
  Calls Tryz.prog 34 #[.slice A1 m1 c1,.slice A2 m2 c2] w fun e w'=>e = .returned (.bool true)∧Grew w w':=by
 obtain ⟨rfl,k1,r1⟩:=h1.slice
 obtain ⟨rfl,k2,r2⟩:=h2.slice
 exact(laws_likeInts.calls (l.length+1) A1 c1 l A2 c2 l true w r1 k1 r2 k2 (like_is l (by omega) _ (Nat.lt_succ_self _))).mono fun e w' ⟨he,hd⟩=>⟨he,hd.below⟩
theorem big_calls (A:Option Addr) (c:Nat) (l:List Int) (w:World) (hr:K8.C w A l.length l) (hc:l.length≤c) :
  Calls Tryz.prog 5 #[.slice A l.length c] w fun e w'=>e = .returned (.bool (decide ((4096:Int)<l.length)))∧Grew w w':=
 (laws_big.calls A c l _ w hr hc (by unfold laws_big.f;rfl)).mono fun e w' ⟨he,hd⟩=>⟨he,hd.below⟩
end Go.Proofs.YtbnnamejnjfkjaaGreat.K
end

section
namespace Go.Proofs.YtbnnamejnjfkjaaGreat.K
open Go.RowKit Go.Shelf Go.Proofs.YtbnnamejnjfkjaaGreatW.PrintWords Go.Proofs.YtbnnamejnjfkjaaGreatW.PrintLast Go.Proofs.YtbnnamejnjfkjaaGreatW.PrintMore
set_option linter.unusedVariables false
set_option linter.unusedSimpArgs false
def sg2 (d:Nat):Int:=if d % 2=0 then 1 else -1
theorem sg2_succ (d:Nat):sg2 (d+1) = - sg2 d:=by
 unfold sg2
 by_cases h:d % 2=0
 ·rw[if_pos h,if_neg (show ¬ (d+1) % 2=0 by omega)]
 ·rw[if_neg h,if_pos (show (d+1) % 2=0 by omega)]
  rfl
theorem sg2_cases (d:Nat):sg2 d=1∨sg2 d = -1:=by
 unfold sg2
 by_cases h:d % 2=0
 ·exact Or.inl (if_pos h)
 ·exact Or.inr (if_neg h)
def altTo (xs:List Int):Nat→Int
 |0=>0
 |d+1=>altTo xs d+sg2 d*xs.getD d 0
theorem altTo_succ (xs:List Int) (i:Nat) (h:i<xs.length):altTo xs (i+1)=altTo xs i+sg2 i*xs[i]:=by
 rw[altTo,List.getD_eq_getElem?_getD,List.getElem?_eq_getElem h]
 rfl
theorem alt_bound {xs:List Int} (hx:∀ j (h:j<xs.length),0≤xs[j]∧xs[j]≤62) (h6:xs.length≤6) (i:Nat) (hi:i≤xs.length): -1000≤altTo xs i∧altTo xs i≤1000:=by
 have:∀ i:Nat,i≤xs.length → -(62*(i:Int))≤altTo xs i∧altTo xs i≤62*i:=by
  intro i
  induction i with
  |zero=>intro _;simp [altTo]
  |succ i ih=>
   intro h
   have h1:=ih (by omega)
   have h2:=hx i (by omega)
   rw[altTo_succ xs i (by omega)]
   rcases sg2_cases i with e|e <;> rw[e] <;> omega
 have:=this i hi
 omega
theorem u64_small {x:Int} (h0:0≤x) (h1:x≤62):IntKind.u64.wrap x=x:=by
 simp [IntKind.wrap,IntKind.bits,IntKind.signed]
 omega
theorem shl_small {z y:Int} (h0:0≤y) (h:y≤62):(shl .i64 z y != wrap64 (z*2 ^ y.toNat))=false:=by
 have e:shl .i64 z y=wrap64 (z*2 ^ y.toNat):=by
  unfold shl
  rw[Nat.min_eq_left (show y.toNat≤IntKind.i64.bits by show y.toNat≤64;omega)]
  exact i64_w _
 rw[e]
 simp
end Go.Proofs.YtbnnamejnjfkjaaGreat.K
end

section
namespace Go.Proofs.YtbnnamejnjfkjaaGreat.K
open Go.RowKit Go.Shelf Go.Proofs.YtbnnamejnjfkjaaGreat.Q Go.Proofs.YtbnnamejnjfkjaaGreatW.PrintWords Go.Proofs.YtbnnamejnjfkjaaGreatW.PrintLast Go.Proofs.YtbnnamejnjfkjaaGreatW.PrintMore
set_option linter.unusedVariables false
set_option linter.unusedSimpArgs false
set_option maxRecDepth 100000 in
set_option maxHeartbeats 40000000 in
theorem LBetti_main (code:List Int) (bl xl rl kl al cl sl gl:List Int) (bn bp bc be kn kd kp kr kc an ap ac zn zd zy zb zc sn sf sc:Int) (ab:Bool) (A0:Option Addr) (c0:Nat) (w:World) (hr0:K8.C w A0 code.length code) (hc0:code.length≤c0) (hb0:¬ (4096:Int)<code.length)
  (HDb:Aside0 (Dr 36 code (fun v=> .tuple #[.agg #[I bn,v],I bp]) bl))
  (HiB:Aside0 (Fn 37 bl (fun v=>#[.agg #[I bn,v],I bp]) (fun v=> .tuple #[v,I bc]) xl))
  (HsB:Aside0 (Fn 38 bl (fun v=>#[.agg #[I bn,v],I bp]) (fun v=> .tuple #[v,I bc]) xl))
  (HPb:Aside0 (bc=0→Fv 18 bl (fun v=>#[.agg #[I bn,v]]) (.tuple #[I be,I 0])∧Fn 26 bl (fun v=>#[.agg #[I bn,v]]) (fun v=> .tuple #[v,I 0]) rl∧altTo xl xl.length=be∧(0<xl.length→rd xl 0=(rl.length:Int))∧(xl.length≤6∧rl.length≤1000)∧(∀ j (h:j<xl.length),0≤xl[j]∧xl[j]≤62)∧(bp=2→∀ j (h:j<xl.length),∃ y,Fv 39 bl (fun v=>#[.agg #[I bn,v],I (j:Int)]) (.tuple #[I (shl .i64 y xl[j]),I y,I 0]))))
  (HDk:Aside0 (Dr 40 code (fun v=> .tuple #[.agg #[I kn,v],I kd,I kp]) kl))
  (HiK:Aside0 (Fv 41 kl (fun v=>#[.agg #[I kn,v],I kd,I kp]) (.tuple #[I kr,I kc])))
  (HsK:Aside0 (Fv 42 kl (fun v=>#[.agg #[I kn,v],I kd,I kp]) (.tuple #[I kr,I kc])))
  (HDa:Aside0 (Dr 43 code (fun v=> .tuple #[.agg #[I an,v],I ap]) al))
  (HiA:Aside0 (Fv 44 al (fun v=>#[.agg #[I an,v],I ap]) (.tuple #[.bool ab,I ac])))
  (HsA:Aside0 (Fv 45 al (fun v=>#[.agg #[I an,v],I ap]) (.tuple #[.bool ab,I ac])))
  (HPa:Aside0 (ac=0→ab=true→Fv 18 al (fun v=>#[.agg #[I an,v]]) (.tuple #[I 1,I 0])))
  (HDc:Aside0 (Dr 46 code (fun v=> .tuple #[.agg #[I zn,v],I zd]) cl))
  (HiC:Aside0 (Fv 39 cl (fun v=>#[.agg #[I zn,v],I zd]) (.tuple #[I zy,I zb,I zc])))
  (HsC:Aside0 (Fv 47 cl (fun v=>#[.agg #[I zn,v],I zd]) (.tuple #[I zy,I zb,I zc])))
  (HDs:Aside0 (Dr 48 code (fun v=> .tuple #[.agg #[I sn,v],I sf]) sl))
  (HiS:Aside0 (Fn 49 sl (fun v=>#[.agg #[I sn,v],I sf]) (fun v=> .tuple #[v,I sc]) gl))
  (HsS:Aside0 (Fn 50 sl (fun v=>#[.agg #[I sn,v],I sf]) (fun v=> .tuple #[v,I sc]) gl))
  (HLen:Aside0 (xl.length≤1000000∧gl.length≤1000000))
  : Calls Tryz.prog 4 #[.slice A0 code.length c0] w fun e w'=>e = .returned (.bool true)∧Grew w w':=by
 have HR0:=Aside0.mk hr0
 have HC0:=Aside0.mk hc0
 have hdb:decide ((4096:Int)<code.length)=false:=decide_eq_false hb0
 clear hr0 hc0 hb0
 go_enter Tryz.func4,Tryz.ntmps4
 have HM0:=Aside0.mk (Mem.nil w)
 have HG0:=Aside0.mk (Grew.refl w)
 go_wp2_with fail
 refine(big_calls A0 c0 code w HR0.out HC0.out).mono ?_
 rintro e w1 ⟨rfl,hG1⟩
 have HM1:=Aside0.mk (HM0.out.grew hG1)
 have HG1:=Aside0.mk (Grew.trans HG0.out hG1)
 clear hG1 HM0 HG0
 rw[hdb]
 go_wp2_with fail
 refine(HDb.out w1 A0 c0 (Kd.C_below HR0.out HG1.out) HC0.out).mono ?_
 rintro e w2 ⟨vb,rfl,hRb,hG2⟩
 obtain ⟨Ab,cb,rfl⟩:=Kd.R_slice hRb
 have HM2:=Aside0.mk (Mem.cons (it:= .row w1.heap.size w2.heap.size (.slice Ab bl.length cb) bl) (Row.of_R hRb) (HM1.out.grew hG2))
 have HG2:=Aside0.mk (Grew.trans HG1.out hG2)
 clear hG2 HM1 HG1 hRb
 have HM3:=Aside0.mk (Mem.cons (W:=(w2.alloc (.cells #[I bn,.slice Ab bl.length cb] 26))) (it:= .box (w2.heap.size) 26 #[I bn,.slice Ab bl.length cb]) (blk_new w2 _) (HM2.out.grew (below_alloc (Grew.refl w2) _)))
 have HG3:Aside0 (Grew w (w2.alloc (.cells #[I bn,.slice Ab bl.length cb] 26))):=⟨Grew.trans HG2.out (below_alloc (Grew.refl w2) _)⟩
 have hS3:(w2.alloc (.cells #[I bn,.slice Ab bl.length cb] 26)).heap.size=w2.heap.size+1:=by simp
 clear HM2 HG2
 have bb_0:(w2.alloc (.cells #[I bn,.slice Ab bl.length cb] 26)).cell? ⟨w2.heap.size,0,none⟩=some (I bn):=blk_cell HM3.out.head 0
 have bb_1:(w2.alloc (.cells #[I bn,.slice Ab bl.length cb] 26)).cell? ⟨w2.heap.size,1,none⟩=some (.slice Ab bl.length cb):=blk_cell HM3.out.head 1
 go_wp2_with fail
 generalize (w2.alloc (.cells #[I bn,.slice Ab bl.length cb] 26))=W3 at HM3 HG3 hS3 bb_0 bb_1 ⊢
 clear bb_0 bb_1
 refine(HiB.out W3 Ab cb (Row.slice HM3.out.tail.head).2.2 (Row.slice HM3.out.tail.head).2.1).mono ?_
 rintro e w4 ⟨vxi,rfl,hRxi,hG4⟩
 obtain ⟨Axi,cxi,rfl⟩:=Kd.R_slice hRxi
 have HM4:=Aside0.mk (Mem.cons (it:= .row W3.heap.size w4.heap.size (.slice Axi xl.length cxi) xl) (Row.of_R hRxi) (HM3.out.grew hG4))
 have HG4:=Aside0.mk (Grew.trans HG3.out hG4)
 clear hG4 HM3 HG3 hRxi
 have bb_0:w4.cell? ⟨w2.heap.size,0,none⟩=some (I bn):=blk_cell HM4.out.tail.head 0
 have bb_1:w4.cell? ⟨w2.heap.size,1,none⟩=some (.slice Ab bl.length cb):=blk_cell HM4.out.tail.head 1
 go_wp2_with fail
 clear bb_0 bb_1
 refine(HsB.out w4 Ab cb (Row.slice HM4.out.tail.tail.head).2.2 (Row.slice HM4.out.tail.tail.head).2.1).mono ?_
 rintro e w5 ⟨vxs,rfl,hRxs,hG5⟩
 obtain ⟨Axs,cxs,rfl⟩:=Kd.R_slice hRxs
 have HM5:=Aside0.mk (Mem.cons (it:= .row w4.heap.size w5.heap.size (.slice Axs xl.length cxs) xl) (Row.of_R hRxs) (HM4.out.grew hG5))
 have HG5:=Aside0.mk (Grew.trans HG4.out hG5)
 clear hG5 HM4 HG4 hRxs
 have hlen:=HLen.out
 have hcc:(bc != bc)=false:=by simp
 go_wp2_with fail
 refine(likeI_calls xl Axi Axs cxi cxs _ _ _ _ _ _ w5 HM5.out.tail.head HM5.out.head (by omega)).mono ?_
 rintro e w6 ⟨rfl,hG6⟩
 have HM6:=Aside0.mk (HM5.out.grew hG6)
 have HG6:=Aside0.mk (Grew.trans HG5.out hG6)
 clear hG6 HM5 HG5
 clear hlen hcc
 go_upto_if 77 with fail
 have HM7:=Aside0.mk (Mem.cons (it:= .row W3.heap.size w4.heap.size (.slice Axi xl.length cxi) xl) HM6.out.tail.head (Mem.cons (it:= .box (w2.heap.size) 26 #[I bn,.slice Ab bl.length cb]) HM6.out.tail.tail.head (Mem.cons (it:= .row w1.heap.size w2.heap.size (.slice Ab bl.length cb) bl) HM6.out.tail.tail.tail.head (Mem.nil w6))))
 have HG7:=HG6
 clear HM6 HG6
 go_upto_if 77 with fail
 go_cut [9,10,11,12,13,14,15,16,17,18] from 77 to 149 (fun v9_ v10_ v11_ v12_ v13_ v14_ v15_ v16_ v17_ v18_ wc=>Aside0 (Mem wc [.row W3.heap.size w4.heap.size (.slice Axi xl.length cxi) xl,.box (w2.heap.size) 26 #[I bn,.slice Ab bl.length cb],.row w1.heap.size w2.heap.size (.slice Ab bl.length cb) bl])∧Aside0 (Grew w wc))
 case first=>
  as_aux_lemma=>
  by_cases hc:bc=0
  ·have hcb:(bc == 0)=true:=by simp [hc]
   have HQ:=Aside0.mk (HPb.out hc)
   clear hc
   have bb_0:w6.cell? ⟨w2.heap.size,0,none⟩=some (I bn):=blk_cell HM7.out.tail.head 0
   have bb_1:w6.cell? ⟨w2.heap.size,1,none⟩=some (.slice Ab bl.length cb):=blk_cell HM7.out.tail.head 1
   go_wp2_with fail
   clear bb_0 bb_1
   refine(HQ.out.1 w6 Ab cb (Row.slice HM7.out.tail.tail.head).2.2 (Row.slice HM7.out.tail.tail.head).2.1).mono ?_
   rintro e w9 ⟨rfl,hG9⟩
   have HM9:=Aside0.mk (HM7.out.grew hG9)
   have HG9:=Aside0.mk (Grew.trans HG7.out hG9)
   clear hG9 HM7 HG7
   have bb_0:w9.cell? ⟨w2.heap.size,0,none⟩=some (I bn):=blk_cell HM9.out.tail.head 0
   have bb_1:w9.cell? ⟨w2.heap.size,1,none⟩=some (.slice Ab bl.length cb):=blk_cell HM9.out.tail.head 1
   go_wp2_with fail
   clear bb_0 bb_1
   refine(HQ.out.2.1 w9 Ab cb (Row.slice HM9.out.tail.tail.head).2.2 (Row.slice HM9.out.tail.tail.head).2.1).mono ?_
   rintro e w10 ⟨vr,rfl,hRr,hG10⟩
   obtain ⟨Ar,cr,rfl⟩:=Kd.R_slice hRr
   have HM10:=Aside0.mk (Mem.cons (it:= .row w9.heap.size w10.heap.size (.slice Ar rl.length cr) rl) (Row.of_R hRr) (HM9.out.grew hG10))
   have HG10:=Aside0.mk (Grew.trans HG9.out hG10)
   clear hG10 HM9 HG9 hRr
   go_wp2_with fail
   go_loopg [13,14,15,16,17,18] xl.length (fun gg s13 s14 s15 s16 s17 s18 wr=>∃ i:Nat,i≤xl.length∧xl.length - i≤gg∧s13=I (altTo xl i)∧s14=I (sg2 i)∧s15=I i∧Aside0 (Mem wr [.row w9.heap.size w10.heap.size (.slice Ar rl.length cr) rl,.row W3.heap.size w4.heap.size (.slice Axi xl.length cxi) xl,.box (w2.heap.size) 26 #[I bn,.slice Ab bl.length cb],.row w1.heap.size w2.heap.size (.slice Ab bl.length cb) bl])∧Aside0 (Grew w wr))
   case atStart=>exact⟨0,Nat.zero_le _,by omega,rfl,rfl,rfl,HM10,HG10⟩
   case round=>
    obtain ⟨i,hi,hg,rfl,rfl,rfl,HM11,HG11⟩:=hrel
    clear HM10 HG10
    as_aux_lemma=>
    have hx6:=HQ.out.2.2.2.2.1.1
    by_cases hlt:i<xl.length
    ·have hltz:(i:Int)<(xl.length:Int):=by omega
     have hxi:=HQ.out.2.2.2.2.2.1 i hlt
     obtain ⟨ad,e0,hx⟩:=Kd.at_int (Row.slice HM11.out.tail.head).2.2 (i:Int) (by omega) (by omega)
     have hrd:rd xl (i:Int)=xl[i]:=by simp [rd,hlt]
     rw[hrd,Int.toNat_natCast] at hx
     obtain ⟨y,hy⟩:∃ y,y=xl[i]:=⟨_,rfl⟩
     rw[← hy] at hx hxi
     have HRD:=Aside0.mk (show rd xl (i:Int)=y by rw[hrd,hy])
     have hal:=alt_bound (fun j h=>HQ.out.2.2.2.2.2.1 j h) hx6 i (by omega)
     have hsg:=sg2_cases i
     have hal1:=alt_bound (fun j h=>HQ.out.2.2.2.2.2.1 j h) hx6 (i+1) (by omega)
     have hst:altTo xl (i+1)=altTo xl i+sg2 i*y:=by rw[hy];exact altTo_succ xl i hlt
     have hsu:=sg2_succ i
     have hw1:IntKind.i64.wrap (sg2 i*y)=sg2 i*y:=by rw[i64_w];exact w64 _ (by rcases hsg with h|h <;> rw[h] <;> omega) (by rcases hsg with h|h <;> rw[h] <;> omega)
     have hw2:IntKind.i64.wrap (altTo xl i+sg2 i*y)=altTo xl (i+1):=by rw[hst,i64_w];exact w64 _ (by rw[← hst];omega) (by rw[← hst];omega)
     have hw3:IntKind.i64.wrap (-(sg2 i))=sg2 (i+1):=by rw[hsu,i64_w];exact w64 _ (by rcases hsg with h|h <;> rw[h] <;> omega) (by rcases hsg with h|h <;> rw[h] <;> omega)
     have hw4:IntKind.i64.wrap ((i:Int)+1)=((i+1:Nat):Int):=by rw[i64_w,w64 _ (by omega) (by omega)];omega
     have hw5:IntKind.u64.wrap y=y:=u64_small (by omega) (by omega)
     have HY:=Aside0.mk hy
     have HS:=Aside0.mk hst
     have HU:=Aside0.mk hsu
     clear hrd hy hal hal1 hst hsu hsg
     subst e0
     go_upto_if 105 with fail
     by_cases hp2:bp=2
     ·have hpb:(bp == 2)=true:=by simp [hp2]
      obtain ⟨z,hz⟩:=HQ.out.2.2.2.2.2.2 hp2 i hlt
      rw[← HY.out] at hz
      have HZ:=Aside0.mk hz
      clear hz hp2
      have bb_0:wr.cell? ⟨w2.heap.size,0,none⟩=some (I bn):=blk_cell HM11.out.tail.tail.head 0
      have bb_1:wr.cell? ⟨w2.heap.size,1,none⟩=some (.slice Ab bl.length cb):=blk_cell HM11.out.tail.tail.head 1
      go_wp2_with fail
      clear bb_0 bb_1
      refine(HZ.out wr Ab cb (Row.slice HM11.out.tail.tail.tail.head).2.2 (Row.slice HM11.out.tail.tail.tail.head).2.1).mono ?_
      rintro e w12 ⟨rfl,hG12⟩
      have HM12:=Aside0.mk (HM11.out.grew hG12)
      have HG12:=Aside0.mk (Grew.trans HG11.out hG12)
      clear hG12 HM11 HG11
      obtain ⟨ad',e1,hx'⟩:=Kd.at_int (Row.slice HM12.out.tail.head).2.2 (i:Int) (by omega) (by omega)
      injection e1 with e1
      subst e1
      rw[HRD.out,Int.toNat_natCast] at hx'
      have hnn:=shl_small (z:=z) hxi.1 hxi.2
      go_wp2_with fail
      go_roundg (xl.length - (i+1))
      case measure=>omega
      case rel=>exact⟨i+1,by omega,by omega,rfl,rfl,by go_num,HM12,HG12⟩
     ·have hpb:(bp == 2)=false:=by simp [hp2]
      go_wp2_with fail
      go_roundg (xl.length - (i+1))
      case measure=>omega
      case rel=>exact⟨i+1,by omega,by omega,rfl,rfl,by go_num,HM11,HG11⟩
    ·have hltz:¬ ((i:Int)<(xl.length:Int)):=by omega
     obtain rfl:i=xl.length:=by omega
     have hsum:=HQ.out.2.2.1
     have hn1:(be != be)=false:=by simp
     have hn2:((rl.length:Int) != (rl.length:Int))=false:=by simp
     by_cases hpos:0<xl.length
     ·obtain ⟨ad,e0,hx⟩:=Kd.at_int (Row.slice HM11.out.tail.head).2.2 (0:Int) (by omega) (by omega)
      rw[HQ.out.2.2.2.1 hpos,Int.toNat_zero] at hx
      have hx0:=hx
      rw[Addr.add_zero'] at hx0
      subst e0
      have hz0:¬ xl.length=0:=by omega
      go_wp2_with fail
      go_meet
      exact⟨⟨HM11.out.tail⟩,HG11⟩
     ·go_wp2_with fail
      go_meet
      exact⟨⟨HM11.out.tail⟩,HG11⟩
  ·have hcb:(bc == 0)=false:=by simp [hc]
   go_wp2_with fail
   go_meet
   exact⟨HM7,HG7⟩
 obtain ⟨HM8,HG8⟩:=hcut
 clear HM7 HG7
 generalize wc=w8 at *
 as_aux_lemma=>
 have HM13:=Aside0.mk (Mem.nil w8)
 have HG13:=HG8
 clear HM8 HG8
 go_wp2_with fail
 refine(HDk.out w8 A0 c0 (Kd.C_below HR0.out HG13.out) HC0.out).mono ?_
 rintro e w14 ⟨vk,rfl,hRk,hG14⟩
 obtain ⟨Ak,ck,rfl⟩:=Kd.R_slice hRk
 have HM14:=Aside0.mk (Mem.cons (it:= .row w8.heap.size w14.heap.size (.slice Ak kl.length ck) kl) (Row.of_R hRk) (HM13.out.grew hG14))
 have HG14:=Aside0.mk (Grew.trans HG13.out hG14)
 clear hG14 HM13 HG13 hRk
 have HM15:=Aside0.mk (Mem.cons (W:=(w14.alloc (.cells #[I kn,.slice Ak kl.length ck] 26))) (it:= .box (w14.heap.size) 26 #[I kn,.slice Ak kl.length ck]) (blk_new w14 _) (HM14.out.grew (below_alloc (Grew.refl w14) _)))
 have HG15:Aside0 (Grew w (w14.alloc (.cells #[I kn,.slice Ak kl.length ck] 26))):=⟨Grew.trans HG14.out (below_alloc (Grew.refl w14) _)⟩
 have hS15:(w14.alloc (.cells #[I kn,.slice Ak kl.length ck] 26)).heap.size=w14.heap.size+1:=by simp
 clear HM14 HG14
 have bk_0:(w14.alloc (.cells #[I kn,.slice Ak kl.length ck] 26)).cell? ⟨w14.heap.size,0,none⟩=some (I kn):=blk_cell HM15.out.head 0
 have bk_1:(w14.alloc (.cells #[I kn,.slice Ak kl.length ck] 26)).cell? ⟨w14.heap.size,1,none⟩=some (.slice Ak kl.length ck):=blk_cell HM15.out.head 1
 go_wp2_with fail
 generalize (w14.alloc (.cells #[I kn,.slice Ak kl.length ck] 26))=W15 at HM15 HG15 hS15 bk_0 bk_1 ⊢
 clear bk_0 bk_1
 refine(HiK.out W15 Ak ck (Row.slice HM15.out.tail.head).2.2 (Row.slice HM15.out.tail.head).2.1).mono ?_
 rintro e w16 ⟨rfl,hG16⟩
 have HM16:=Aside0.mk (HM15.out.grew hG16)
 have HG16:=Aside0.mk (Grew.trans HG15.out hG16)
 clear hG16 HM15 HG15
 have bk_0:w16.cell? ⟨w14.heap.size,0,none⟩=some (I kn):=blk_cell HM16.out.head 0
 have bk_1:w16.cell? ⟨w14.heap.size,1,none⟩=some (.slice Ak kl.length ck):=blk_cell HM16.out.head 1
 go_wp2_with fail
 clear bk_0 bk_1
 refine(HsK.out w16 Ak ck (Row.slice HM16.out.tail.head).2.2 (Row.slice HM16.out.tail.head).2.1).mono ?_
 rintro e w17 ⟨rfl,hG17⟩
 have HM17:=Aside0.mk (HM16.out.grew hG17)
 have HG17:=Aside0.mk (Grew.trans HG16.out hG17)
 clear hG17 HM16 HG16
 go_wp2_with fail
 refine(HDa.out w17 A0 c0 (Kd.C_below HR0.out HG17.out) HC0.out).mono ?_
 rintro e w18 ⟨va,rfl,hRa,hG18⟩
 obtain ⟨Aa,ca,rfl⟩:=Kd.R_slice hRa
 have HM18:=Aside0.mk (Mem.cons (it:= .row w17.heap.size w18.heap.size (.slice Aa al.length ca) al) (Row.of_R hRa) (HM17.out.grew hG18))
 have HG18:=Aside0.mk (Grew.trans HG17.out hG18)
 clear hG18 HM17 HG17 hRa
 have HM19:=Aside0.mk (Mem.cons (W:=(w18.alloc (.cells #[I an,.slice Aa al.length ca] 26))) (it:= .box (w18.heap.size) 26 #[I an,.slice Aa al.length ca]) (blk_new w18 _) (HM18.out.grew (below_alloc (Grew.refl w18) _)))
 have HG19:Aside0 (Grew w (w18.alloc (.cells #[I an,.slice Aa al.length ca] 26))):=⟨Grew.trans HG18.out (below_alloc (Grew.refl w18) _)⟩
 have hS19:(w18.alloc (.cells #[I an,.slice Aa al.length ca] 26)).heap.size=w18.heap.size+1:=by simp
 clear HM18 HG18
 have ba_0:(w18.alloc (.cells #[I an,.slice Aa al.length ca] 26)).cell? ⟨w18.heap.size,0,none⟩=some (I an):=blk_cell HM19.out.head 0
 have ba_1:(w18.alloc (.cells #[I an,.slice Aa al.length ca] 26)).cell? ⟨w18.heap.size,1,none⟩=some (.slice Aa al.length ca):=blk_cell HM19.out.head 1
 go_wp2_with fail
 generalize (w18.alloc (.cells #[I an,.slice Aa al.length ca] 26))=W19 at HM19 HG19 hS19 ba_0 ba_1 ⊢
 clear ba_0 ba_1
 refine(HiA.out W19 Aa ca (Row.slice HM19.out.tail.head).2.2 (Row.slice HM19.out.tail.head).2.1).mono ?_
 rintro e w20 ⟨rfl,hG20⟩
 have HM20:=Aside0.mk (HM19.out.grew hG20)
 have HG20:=Aside0.mk (Grew.trans HG19.out hG20)
 clear hG20 HM19 HG19
 have ba_0:w20.cell? ⟨w18.heap.size,0,none⟩=some (I an):=blk_cell HM20.out.head 0
 have ba_1:w20.cell? ⟨w18.heap.size,1,none⟩=some (.slice Aa al.length ca):=blk_cell HM20.out.head 1
 go_wp2_with fail
 clear ba_0 ba_1
 refine(HsA.out w20 Aa ca (Row.slice HM20.out.tail.head).2.2 (Row.slice HM20.out.tail.head).2.1).mono ?_
 rintro e w21 ⟨rfl,hG21⟩
 have HM21:=Aside0.mk (HM20.out.grew hG21)
 have HG21:=Aside0.mk (Grew.trans HG20.out hG21)
 clear hG21 HM20 HG20
 have h1:(kc != kc)=false:=by simp
 have h2:(kr != kr)=false:=by simp
 have h3:(ac != ac)=false:=by simp
 have h4:(ab != ab)=false:=by simp
 go_upto_region 31 with fail
 clear h1 h2 h3 h4
 have HM22:=Aside0.mk (Mem.cons (it:= .box (w18.heap.size) 26 #[I an,.slice Aa al.length ca]) HM21.out.head (Mem.cons (it:= .row w17.heap.size w18.heap.size (.slice Aa al.length ca) al) HM21.out.tail.head (Mem.nil w21)))
 have HG22:=HG21
 clear HM21 HG21
 go_cut [209] from 205 to 208 (fun v209_ wc=>∃ q:Bool,v209_ = .bool q∧Aside0 (q=true→ac=0∧ab=true)∧Aside0 (Mem wc [.box (w18.heap.size) 26 #[I an,.slice Aa al.length ca],.row w17.heap.size w18.heap.size (.slice Aa al.length ca) al])∧Aside0 (Grew w wc))
 case first=>
  as_aux_lemma=>
  by_cases hc:ac=0
  ·have hcb:(ac == 0)=true:=by simp [hc]
   go_wp2_with fail
   go_meet
   exact⟨ab,rfl,⟨fun h=>⟨hc,h⟩⟩,HM22,HG22⟩
  ·have hcb:(ac == 0)=false:=by simp [hc]
   go_wp2_with fail
   go_meet
   exact⟨false,rfl,⟨fun h=>by cases h⟩,HM22,HG22⟩
 obtain ⟨q,rfl,HCQ,HM23,HG23⟩:=hcut
 clear HM22 HG22
 generalize wc=w23 at *
 as_aux_lemma=>
 go_upto_if 209 with fail
 go_cut [32,33] from 209 to 220 (fun v32_ v33_ wc=>Aside0 (Mem wc [.box (w18.heap.size) 26 #[I an,.slice Aa al.length ca],.row w17.heap.size w18.heap.size (.slice Aa al.length ca) al])∧Aside0 (Grew w wc))
 case first=>
  as_aux_lemma=>
  rcases Bool.eq_false_or_eq_true q with rfl|rfl
  ·have HQ:=Aside0.mk (HPa.out (HCQ.out rfl).1 (HCQ.out rfl).2)
   have ba_0:w23.cell? ⟨w18.heap.size,0,none⟩=some (I an):=blk_cell HM23.out.head 0
   have ba_1:w23.cell? ⟨w18.heap.size,1,none⟩=some (.slice Aa al.length ca):=blk_cell HM23.out.head 1
   go_wp2_with fail
   clear ba_0 ba_1
   refine(HQ.out w23 Aa ca (Row.slice HM23.out.tail.head).2.2 (Row.slice HM23.out.tail.head).2.1).mono ?_
   rintro e w25 ⟨rfl,hG25⟩
   have HM25:=Aside0.mk (HM23.out.grew hG25)
   have HG25:=Aside0.mk (Grew.trans HG23.out hG25)
   clear hG25 HM23 HG23
   go_wp2_with fail
   go_meet
   exact⟨HM25,HG25⟩
  ·go_wp2_with fail
   go_meet
   exact⟨HM23,HG23⟩
 obtain ⟨HM24,HG24⟩:=hcut
 clear HM23 HG23
 generalize wc=w24 at *
 as_aux_lemma=>
 have HM26:=Aside0.mk (Mem.nil w24)
 have HG26:=HG24
 clear HM24 HG24
 go_wp2_with fail
 refine(HDc.out w24 A0 c0 (Kd.C_below HR0.out HG26.out) HC0.out).mono ?_
 rintro e w27 ⟨vc,rfl,hRc,hG27⟩
 obtain ⟨Ac,cc,rfl⟩:=Kd.R_slice hRc
 have HM27:=Aside0.mk (Mem.cons (it:= .row w24.heap.size w27.heap.size (.slice Ac cl.length cc) cl) (Row.of_R hRc) (HM26.out.grew hG27))
 have HG27:=Aside0.mk (Grew.trans HG26.out hG27)
 clear hG27 HM26 HG26 hRc
 have HM28:=Aside0.mk (Mem.cons (W:=(w27.alloc (.cells #[I zn,.slice Ac cl.length cc] 26))) (it:= .box (w27.heap.size) 26 #[I zn,.slice Ac cl.length cc]) (blk_new w27 _) (HM27.out.grew (below_alloc (Grew.refl w27) _)))
 have HG28:Aside0 (Grew w (w27.alloc (.cells #[I zn,.slice Ac cl.length cc] 26))):=⟨Grew.trans HG27.out (below_alloc (Grew.refl w27) _)⟩
 have hS28:(w27.alloc (.cells #[I zn,.slice Ac cl.length cc] 26)).heap.size=w27.heap.size+1:=by simp
 clear HM27 HG27
 have bc_0:(w27.alloc (.cells #[I zn,.slice Ac cl.length cc] 26)).cell? ⟨w27.heap.size,0,none⟩=some (I zn):=blk_cell HM28.out.head 0
 have bc_1:(w27.alloc (.cells #[I zn,.slice Ac cl.length cc] 26)).cell? ⟨w27.heap.size,1,none⟩=some (.slice Ac cl.length cc):=blk_cell HM28.out.head 1
 go_wp2_with fail
 generalize (w27.alloc (.cells #[I zn,.slice Ac cl.length cc] 26))=W28 at HM28 HG28 hS28 bc_0 bc_1 ⊢
 clear bc_0 bc_1
 refine(HiC.out W28 Ac cc (Row.slice HM28.out.tail.head).2.2 (Row.slice HM28.out.tail.head).2.1).mono ?_
 rintro e w29 ⟨rfl,hG29⟩
 have HM29:=Aside0.mk (HM28.out.grew hG29)
 have HG29:=Aside0.mk (Grew.trans HG28.out hG29)
 clear hG29 HM28 HG28
 have bc_0:w29.cell? ⟨w27.heap.size,0,none⟩=some (I zn):=blk_cell HM29.out.head 0
 have bc_1:w29.cell? ⟨w27.heap.size,1,none⟩=some (.slice Ac cl.length cc):=blk_cell HM29.out.head 1
 go_wp2_with fail
 clear bc_0 bc_1
 refine(HsC.out w29 Ac cc (Row.slice HM29.out.tail.head).2.2 (Row.slice HM29.out.tail.head).2.1).mono ?_
 rintro e w30 ⟨rfl,hG30⟩
 have HM30:=Aside0.mk (HM29.out.grew hG30)
 have HG30:=Aside0.mk (Grew.trans HG29.out hG30)
 clear hG30 HM29 HG29
 go_wp2_with fail
 refine(HDs.out w30 A0 c0 (Kd.C_below HR0.out HG30.out) HC0.out).mono ?_
 rintro e w31 ⟨vs,rfl,hRs,hG31⟩
 obtain ⟨As,cs,rfl⟩:=Kd.R_slice hRs
 have HM31:=Aside0.mk (Mem.cons (it:= .row w30.heap.size w31.heap.size (.slice As sl.length cs) sl) (Row.of_R hRs) (HM30.out.grew hG31))
 have HG31:=Aside0.mk (Grew.trans HG30.out hG31)
 clear hG31 HM30 HG30 hRs
 have HM32:=Aside0.mk (Mem.cons (W:=(w31.alloc (.cells #[I sn,.slice As sl.length cs] 26))) (it:= .box (w31.heap.size) 26 #[I sn,.slice As sl.length cs]) (blk_new w31 _) (HM31.out.grew (below_alloc (Grew.refl w31) _)))
 have HG32:Aside0 (Grew w (w31.alloc (.cells #[I sn,.slice As sl.length cs] 26))):=⟨Grew.trans HG31.out (below_alloc (Grew.refl w31) _)⟩
 have hS32:(w31.alloc (.cells #[I sn,.slice As sl.length cs] 26)).heap.size=w31.heap.size+1:=by simp
 clear HM31 HG31
 have bs_0:(w31.alloc (.cells #[I sn,.slice As sl.length cs] 26)).cell? ⟨w31.heap.size,0,none⟩=some (I sn):=blk_cell HM32.out.head 0
 have bs_1:(w31.alloc (.cells #[I sn,.slice As sl.length cs] 26)).cell? ⟨w31.heap.size,1,none⟩=some (.slice As sl.length cs):=blk_cell HM32.out.head 1
 go_wp2_with fail
 generalize (w31.alloc (.cells #[I sn,.slice As sl.length cs] 26))=W32 at HM32 HG32 hS32 bs_0 bs_1 ⊢
 clear bs_0 bs_1
 refine(HiS.out W32 As cs (Row.slice HM32.out.tail.head).2.2 (Row.slice HM32.out.tail.head).2.1).mono ?_
 rintro e w33 ⟨vgi,rfl,hRgi,hG33⟩
 obtain ⟨Agi,cgi,rfl⟩:=Kd.R_slice hRgi
 have HM33:=Aside0.mk (Mem.cons (it:= .row W32.heap.size w33.heap.size (.slice Agi gl.length cgi) gl) (Row.of_R hRgi) (HM32.out.grew hG33))
 have HG33:=Aside0.mk (Grew.trans HG32.out hG33)
 clear hG33 HM32 HG32 hRgi
 have bs_0:w33.cell? ⟨w31.heap.size,0,none⟩=some (I sn):=blk_cell HM33.out.tail.head 0
 have bs_1:w33.cell? ⟨w31.heap.size,1,none⟩=some (.slice As sl.length cs):=blk_cell HM33.out.tail.head 1
 go_wp2_with fail
 clear bs_0 bs_1
 refine(HsS.out w33 As cs (Row.slice HM33.out.tail.tail.head).2.2 (Row.slice HM33.out.tail.tail.head).2.1).mono ?_
 rintro e w34 ⟨vgs,rfl,hRgs,hG34⟩
 obtain ⟨Ags,cgs,rfl⟩:=Kd.R_slice hRgs
 have HM34:=Aside0.mk (Mem.cons (it:= .row w33.heap.size w34.heap.size (.slice Ags gl.length cgs) gl) (Row.of_R hRgs) (HM33.out.grew hG34))
 have HG34:=Aside0.mk (Grew.trans HG33.out hG34)
 clear hG34 HM33 HG33 hRgs
 have hlen:=HLen.out
 have h1:(zc == zc)=true:=by simp
 have h2:(zy == zy)=true:=by simp
 have h3:(zb == zb)=true:=by simp
 have h4:(sc == sc)=true:=by simp
 go_wp2_with fail
 refine(likeI_calls gl Agi Ags cgi cgs _ _ _ _ _ _ w34 HM34.out.tail.head HM34.out.head (by omega)).mono ?_
 rintro e w35 ⟨rfl,hG35⟩
 have HM35:=Aside0.mk (HM34.out.grew hG35)
 have HG35:=Aside0.mk (Grew.trans HG34.out hG35)
 clear hG35 HM34 HG34
 go_wp2_with fail
 go_ret
 exact⟨rfl,HG35.out⟩
end Go.Proofs.YtbnnamejnjfkjaaGreat.K
end

section
namespace Go.Proofs.YtbnnamejnjfkjaaGreat.K
open Go.RowKit Go.Shelf Go.Proofs.YtbnnamejnjfkjaaGreatW.PrintWords Go.Proofs.YtbnnamejnjfkjaaGreatW.PrintLast Go.Proofs.YtbnnamejnjfkjaaGreatW.PrintMore
set_option linter.unusedVariables false
set_option linter.unusedSimpArgs false
def upTo (m:Nat):List Int:=(List.range m).map fun i:Nat=>(i:Int)+1
theorem upTo_succ (m:Nat):upTo (m+1)=upTo m ++ [(m:Int)+1]:=by simp [upTo,List.range_succ]
def thoseL (n:Int) (p:Int→Bool):List Int:=(upTo (2 ^ n.toNat - 1)).filter p
theorem upTo_filter_length (p:Int→Bool) (m:Nat):((upTo m).filter p).length≤m:=by
 have:=List.length_filter_le p (upTo m)
 simpa [upTo] using this
end Go.Proofs.YtbnnamejnjfkjaaGreat.K
end

section
namespace Go.Proofs.YtbnnamejnjfkjaaGreat.K
open Go.RowKit Go.Shelf Go.Proofs.YtbnnamejnjfkjaaGreatW.PrintWords Go.Proofs.YtbnnamejnjfkjaaGreatW.PrintLast Go.Proofs.YtbnnamejnjfkjaaGreatW.PrintMore
set_option linter.unusedVariables false
set_option linter.unusedSimpArgs false
theorem asc_get (l:List Int) (hs:l.Pairwise (· < ·)) (h1:∀ x ∈ l,1≤x):∀ i (h:i<l.length),(i:Int)+1≤l[i]:=by
 intro i
 induction i with
 |zero=>intro h;have:=h1 _ (List.getElem_mem h);omega
 |succ i ih=>
  intro h
  have h2:=ih (by omega)
  have h3:=List.pairwise_iff_getElem.1 hs i (i+1) (by omega) h (by omega)
  omega
theorem asc_length (l:List Int) (N:Nat) (hs:l.Pairwise (· < ·)) (h1:∀ x ∈ l,1≤x∧x≤(N:Int)):l.length≤N:=by
 rcases Nat.eq_zero_or_pos l.length with h|h
 ·omega
 ·have h2:=asc_get l hs (fun x hx=>(h1 x hx).1) (l.length - 1) (by omega)
  have h3:=h1 _ (List.getElem_mem (show l.length - 1<l.length by omega))
  omega
theorem isC_faces {n:Int} {l:List Int} (h:isC n l=true):(1≤n∧n≤6)∧l.Pairwise (· < ·)∧(∀ x ∈ l,1≤x∧x≤fullOf n∧x≤63)∧l.length≤63:=by
 have hn:=isC_size h
 have hF:=full_range n hn
 unfold isC at h
 simp only [Bool.and_eq_true,decide_eq_true_eq,rangeAsc] at h
 obtain ⟨_,hg,_⟩:=h
 have hr:∀ x ∈ l,1≤x∧x≤fullOf n∧x≤63:=by
  intro x hx
  obtain ⟨i,hi,rfl⟩:=List.mem_iff_getElem.1 hx
  have:=hg i hi hi
  omega
 have hs:l.Pairwise (· < ·):=by
  rw[List.pairwise_iff_getElem]
  intro i j hi hj hij
  induction j with
  |zero=>omega
  |succ j ih=>
   have h1:=(hg (j+1) hj hj).2.2 (by omega)
   simp only [Nat.add_sub_cancel] at h1
   rcases Nat.lt_or_ge i j with h2|h2
   ·have:=ih (by omega) h2
    omega
   ·obtain rfl:i=j:=by omega
    exact h1
 exact⟨hn,hs,hr,asc_length l 63 hs (fun x hx=>⟨(hr x hx).1,(hr x hx).2.2⟩)⟩
theorem mem_upTo (m:Nat) (x:Int):x ∈ upTo m↔1≤x∧x≤m:=by
 unfold upTo
 rw[List.mem_map]
 constructor
 ·rintro ⟨i,hi,rfl⟩
  rw[List.mem_range] at hi
  omega
 ·rintro ⟨h1,h2⟩
  exact⟨(x - 1).toNat,by rw[List.mem_range];omega,by omega⟩
end Go.Proofs.YtbnnamejnjfkjaaGreat.K
end

section
namespace Go.Proofs.YtbnnamejnjfkjaaGreat.Q
open Go.RowKit Go.Proofs.YtbnnamejnjfkjaaGreatW.PrintWords Go.Proofs.YtbnnamejnjfkjaaGreatW.PrintLast Go.Proofs.YtbnnamejnjfkjaaGreatW.PrintMore
attribute [local go_sem] max2_int min2_int max_two min_two max_three min_three max_four min_four
set_option linter.unusedVariables false
set_option linter.unusedSimpArgs false
def impl_dimension.f (a0:Int):Option (Int):=(impl_size.f a0).bind fun t566=>(some (wrap64 (t566 - 1)))
set_option maxHeartbeats 8000000 in
set_option maxRecDepth 100000 in
theorem impl_dimension.calls (a0:Int) (r:Int) (w:World) (h:impl_dimension.f a0=some r) :
  Calls Tryz.prog 99 #[.int .i64 a0] w fun e w'=>e = .returned (.int .i64 r)∧Drawn0 w w':=by
 have H:((impl_size.f a0).bind fun t566=>(some (wrap64 (t566 - 1))))=some r:=h;clear h;replace H:=Option.bind_eq_some_iff.mp H;obtain ⟨t566,A20,H⟩:=H;replace H:(some (wrap64 (t566 - 1)))=some r:=H;have A2:=Aside0.mk A20;clear A20;obtain rfl:=Option.some.inj H;go_enter Tryz.func99,Tryz.ntmps99;go_wp2_with (first|((with_reducible refine gate_callee (f:=135) rfl ?_);refine gl (some 4) Tryz.func135 #[.int .i64 a0] ?_;(with_reducible refine(impl_size.calls a0 t566 _ A2.out).mono ?_);rintro e w' ⟨rfl,⟨nd,rfl⟩⟩;refine⟨_,rfl,?_⟩))
 go_ret;exact⟨rs,by repeat(first|exact Drawn0.refl _|apply Drawn0.step)⟩
end Go.Proofs.YtbnnamejnjfkjaaGreat.Q
end

section
namespace Go.Proofs.YtbnnamejnjfkjaaGreat.K
open Go.RowKit Go.Shelf Go.Proofs.YtbnnamejnjfkjaaGreat.Q Go.Proofs.YtbnnamejnjfkjaaGreatW.PrintWords Go.Proofs.YtbnnamejnjfkjaaGreatW.PrintLast Go.Proofs.YtbnnamejnjfkjaaGreatW.PrintMore
set_option linter.unusedVariables false
set_option linter.unusedSimpArgs false
def onesI (f:Int):Int:=f % 2+f / 2 % 2+f / 4 % 2+f / 8 % 2+f / 16 % 2+f / 32 % 2
def dimI (f:Int):Int:=onesI f - 1
theorem ones_le (f:Int):0≤onesI f∧onesI f≤6:=by unfold onesI;omega
theorem dim_64:∀ m:Fin 64,impl_dimension.f (m.val:Int)=some (dimI (m.val:Int)):=by decide +kernel
theorem dim_is (f:Int) (h0:0≤f) (h1:f≤63):impl_dimension.f f=some (dimI f):=by
 obtain ⟨m,rfl⟩:=Int.eq_ofNat_of_zero_le h0
 exact dim_64 ⟨m,by omega⟩
theorem dim_range (f:Int): -1≤dimI f∧dimI f≤5:=by
 unfold dimI onesI
 omega
theorem dimension_calls (f:Int) (h0:0≤f) (h1:f≤63) (w:World):Calls Tryz.prog 99 #[I f] w fun e w'=>e = .returned (I (dimI f))∧Grew w w':=
 (impl_dimension.calls f (dimI f) w (dim_is f h0 h1)).mono fun e w' ⟨he,hd⟩=>⟨he,hd.below⟩
theorem tm_range (d:Int) (h: -1≤d∧d≤5): -1≤Int.tmod d 2∧Int.tmod d 2≤1:=by
 have:d = -1∨d=0∨d=1∨d=2∨d=3∨d=4∨d=5:=by omega
 rcases this with rfl|rfl|rfl|rfl|rfl|rfl|rfl <;> decide
end Go.Proofs.YtbnnamejnjfkjaaGreat.K
end

section
namespace Go.Proofs.YtbnnamejnjfkjaaGreat.K
open Go.RowKit Go.Shelf Go.Proofs.YtbnnamejnjfkjaaGreatW.PrintWords Go.Proofs.YtbnnamejnjfkjaaGreatW.PrintLast Go.Proofs.YtbnnamejnjfkjaaGreatW.PrintMore
set_option linter.unusedVariables false
set_option linter.unusedSimpArgs false
theorem always_calls (w:World):Calls Tryz.prog 73 #[] w fun e w'=>e = .returned (.bool true)∧Grew w w':=by
 go_enter Tryz.func73,Tryz.ntmps73
 go_wp2_with fail
 go_ret
 exact⟨rfl,Grew.refl w⟩
theorem always_answers (w:World):Answers w 73 (#[] ++ #[]) (.bool true):=fun W _=>always_calls W
def codeOf (n:Int) (l:List Int) (b:Bool):Int:=if isC n l then (if b then 0 else 2) else 1
theorem codeOf_zero {n:Int} {l:List Int} {b:Bool} (h:codeOf n l b=0):isC n l=true∧b=true:=by
 unfold codeOf at h
 cases hi:isC n l <;> cases b <;> simp [hi] at h ⊢
set_option maxHeartbeats 1000000 in
theorem complexCode_calls (b:Bool) (n:Int) (A:Option Addr) (c:Nat) (l:List Int) (g:Nat) (first caps:Array Value) (w:World) (hk:Kx w A c l) (eg:EntersG g)
  (ha:isC n l=true→Answers w g (first ++ caps) (.bool b)) :
  Calls Tryz.prog 52 #[.agg #[I n,.slice A l.length c],.func (.func g) first caps] w fun e w'=>e = .returned (I (codeOf n l b))∧Grew w w':=by
 have hg:Grew w (w.alloc (.cells #[I n,.slice A l.length c] 26)):=below_alloc (Grew.refl w) _
 have H:=Aside0.mk (IsComplex_calls n A c l _ (hk.later hg).r hk.c hk.b)
 have HA:=Aside0.mk ha
 have HG:=Aside0.mk hg
 clear hk ha hg
 obtain ⟨i,hi⟩:∃ i,i=isC n l:=⟨_,rfl⟩
 rw[← hi] at H
 cases i with
 |false=>
  have HV:Aside0 (codeOf n l b=1):=⟨by simp [codeOf,← hi]⟩
  clear hi
  go_enter Tryz.func52,Tryz.ntmps52
  go_wp2_with fail
  refine H.out.mono ?_
  rintro e w1 ⟨rfl,hG1⟩
  go_wp2_with fail
  go_ret
  exact⟨by rw[HV.out];rfl,Grew.trans HG.out hG1⟩
 |true=>
  have HA2:=Aside0.mk (HA.out hi.symm)
  have HI:=Aside0.mk hi
  clear hi HA
  cases b with
  |false=>
   have HV:Aside0 (codeOf n l false=2):=⟨by simp [codeOf,← HI.out]⟩
   go_enter Tryz.func52,Tryz.ntmps52
   go_wp2_with fail
   refine H.out.mono ?_
   rintro e w1 ⟨rfl,hG1⟩
   have HG1:=Aside0.mk (Grew.trans HG.out hG1)
   have hcall:=HA2.out w1 HG1.out
   clear hG1
   go_wp2_with fail
   refine hcall.mono ?_
   rintro e w2 ⟨rfl,hG2⟩
   clear hcall
   go_wp2_with fail
   go_ret
   exact⟨by rw[HV.out];rfl,Grew.trans HG1.out hG2⟩
  |true=>
   have HV:Aside0 (codeOf n l true=0):=⟨by simp [codeOf,← HI.out]⟩
   go_enter Tryz.func52,Tryz.ntmps52
   go_wp2_with fail
   refine H.out.mono ?_
   rintro e w1 ⟨rfl,hG1⟩
   have HG1:=Aside0.mk (Grew.trans HG.out hG1)
   have hcall:=HA2.out w1 HG1.out
   clear hG1
   go_wp2_with fail
   refine hcall.mono ?_
   rintro e w2 ⟨rfl,hG2⟩
   clear hcall
   go_wp2_with fail
   go_ret
   exact⟨by rw[HV.out];rfl,Grew.trans HG1.out hG2⟩
end Go.Proofs.YtbnnamejnjfkjaaGreat.K
end

section
namespace Go.Proofs.YtbnnamejnjfkjaaGreat.Q
open Go.RowKit Go.Proofs.YtbnnamejnjfkjaaGreatW.PrintWords Go.Proofs.YtbnnamejnjfkjaaGreatW.PrintLast Go.Proofs.YtbnnamejnjfkjaaGreatW.PrintMore
attribute [local go_sem] max2_int min2_int max_two min_two max_three min_three max_four min_four
set_option linter.unusedVariables false
set_option linter.unusedSimpArgs false
def impl_Complex_dimension.l0:Nat→Int→List Int→Int→Int→Option (Int)
 |0,_,_,_,_=>none
 |k+1,x3,x7,x8,x9=>if x9<x8 then (if 0≤x9 then (if x9<(x7.length:Int) then ((impl_dimension.f (rd x7 x9)).bind fun t569=>(impl_Complex_dimension.l0 k (mx x3 t569) x7 x8 (wrap64 (x9+1)))) else (none)) else (none)) else (some x3)
def impl_Complex_dimension.f (k:Nat) (a0_0:Int) (l0_1:List Int):Option (Int):=impl_Complex_dimension.l0 k (-1) l0_1 (l0_1.length:Int) 0
theorem impl_Complex_dimension.mono_l:∀ k,(∀ y0 y1 y2 y3,LeO (impl_Complex_dimension.l0 k y0 y1 y2 y3) (impl_Complex_dimension.l0 (k+1) y0 y1 y2 y3))
 |0=>fun _ _ _ _ r h=>by simp [impl_Complex_dimension.l0] at h
 |k+1=>by
  have ih0:=impl_Complex_dimension.mono_l k
  ·intro y0 y1 y2 y3;unfold impl_Complex_dimension.l0;repeat' first
   |(with_reducible first|exact ih0 _ _ _ _|exact LeO.refl _|exact LeO.none _|refine LeO.ite ?_ ?_|refine LeO.bind ?_ (fun _=>?_))
theorem impl_Complex_dimension.mono:∀ a0 a1 k,LeO (impl_Complex_dimension.f k a0 a1) (impl_Complex_dimension.f (k+1) a0 a1):=by
 intro a0 a1 k;have ih0:=impl_Complex_dimension.mono_l k;unfold impl_Complex_dimension.f;repeat' first
   |(with_reducible first|exact ih0 _ _ _ _|exact LeO.refl _|exact LeO.none _|refine LeO.ite ?_ ?_|refine LeO.bind ?_ (fun _=>?_))
set_option maxHeartbeats 8000000 in
set_option maxRecDepth 100000 in
theorem impl_Complex_dimension.calls (k:Nat) (a0_0:Int) (A0_1:Option Addr) (c0_1:Nat) (l0_1:List Int) (r:Int) (w:World) (hr0_1:Kd.C (Kd.int .i64) w A0_1 l0_1.length l0_1) (hc0_1:l0_1.length≤c0_1) (h:impl_Complex_dimension.f k a0_0 l0_1=some r) :
  Calls Tryz.prog 136 #[.agg #[.int .i64 a0_0,.slice A0_1 l0_1.length c0_1]] w fun e w'=>e = .returned (.int .i64 r)∧Below w.heap.size w w':=by
 have hu26:=Tryz.underlying26;have HR0_1:=Aside0.mk hr0_1;have HC0_1:=Aside0.mk hc0_1;clear hr0_1 hc0_1;have HB:=Aside0.mk (Below.refl w.heap.size w);have H:(impl_Complex_dimension.l0 k (-1) l0_1 (l0_1.length:Int) 0)=some r:=h;clear h;have H':=Aside0.mk H;clear H;go_enter Tryz.func136,Tryz.ntmps136;go_wp2_with (first|((with_reducible refine gate_dst (N:=1) rfl ?_);refine bx 1 #[.int .i64 a0_0,.slice A0_1 l0_1.length c0_1] 26 ?_;intro gb567 hg w2 hbox hb;have BK567:=Aside0.mk (hbox);have GE567:=gzA hg HB;replace HB:=bsA HB hb;clear hb hbox hg;have hcz3_0:=z0_ BK567;have hcz3_1:=z1_ BK567;have hfz3_0:=hf_ BK567 0;have hfz3_1:=hf_ BK567 1))
 go_loopg [3,9] k (fun kq v3 v9 w'=>∃(x3_1:Int) (x9_1:Int),v3 = .int .i64 x3_1∧v9 = .int .i64 x9_1∧Aside0 (impl_Complex_dimension.l0 kq x3_1 l0_1 (l0_1.length:Int) x9_1=some r)∧Aside0 (kq≤k)∧Aside0 (w'.heap[gb567]?=some (.cells #[.int .i64 a0_0,(.slice A0_1 l0_1.length c0_1)] 26 (0,0)))∧Aside0 (Below w.heap.size w w'))
 case atStart=>exact⟨((-1)),(0),rs,rs,H',⟨Nat.le_refl _⟩,⟨bk BK567.out⟩,⟨bl HB.out⟩⟩
 case round=>
  clear H';try clear c1
  try clear p2
  try clear hcz3_0
  try clear hcz3_1
  try clear hfz3_0
  try clear hfz3_1
  obtain ⟨x3_1,x9_1,rfl,rfl,HA,HK1,BK567,HB⟩:=hrel;cases gk with
  |zero=>exact absurd HA.out (by simp [impl_Complex_dimension.l0])
  |succ k1=>
   have H:=HA.out;clear HA;simp only [impl_Complex_dimension.l0] at H;by_cases c4:x9_1<(l0_1.length:Int)
   ·rw[if_pos c4] at H;have c4b0:decide (x9_1<(l0_1.length:Int))=true:=decide_eq_true c4;clear c4;by_cases c5:0≤x9_1
    ·rw[if_pos c5] at H;have c5b0:decide (0≤x9_1)=true:=decide_eq_true c5;clear c5;by_cases c6:x9_1<(l0_1.length:Int)
     ·rw[if_pos c6] at H;have c6b0:decide (x9_1<(l0_1.length:Int))=true:=decide_eq_true c6;clear c6;replace H:=Option.bind_eq_some_iff.mp H;obtain ⟨t569,A70,H⟩:=H;replace H:(impl_Complex_dimension.l0 k1 (mx x3_1 t569) l0_1 (l0_1.length:Int) (wrap64 (x9_1+1)))=some r:=H;have A7:=Aside0.mk A70;clear A70;obtain ⟨ji8,hji8⟩:∃ j_:Int,(mx x3_1 t569)=j_:=⟨_,rfl⟩
      replace H:(impl_Complex_dimension.l0 k1 ji8 l0_1 (l0_1.length:Int) (wrap64 (x9_1+1)))=some r:=by first|(rw[hji8] at H;exact H)|(simp only [hji8] at H ⊢;exact H)
      (try rw[hji8] at A7)
      have hji8_:(if x3_1<t569 then t569 else x3_1)=ji8:=hji8;have H':=Aside0.mk H;clear H;have p568:0≤(x9_1:Int):=dd;have q568:x9_1<(l0_1.length:Int):=dd;obtain ⟨ad568,e568,hx568_0⟩:=Kd.at_int HR0_1.out x9_1 p568 q568;cases e568;replace hx568_0:=hx_ HB hx568_0;replace p568:=eq_true p568;replace q568:=eq_true q568;go_wp2_with (first|((with_reducible refine gate_callee (f:=99) rfl ?_);refine gl (some 15) Tryz.func99 #[.int .i64 (rd l0_1 x9_1)] ?_;(with_reducible refine(impl_dimension.calls (rd l0_1 x9_1) t569 _ A7.out).mono ?_);rintro e w' ⟨rfl,⟨nd,rfl⟩⟩;refine⟨_,rfl,?_⟩))
      go_roundg k1
      case measure=>have:=HK1.out;omega
      case rel=>exact⟨(ji8),(wrap64 (x9_1+1)),(by first|rfl|(simp;done)|(simp only [← hji8] <;> (first|rfl|simp))|(simp [*];done)),rs,H',⟨by have:=HK1.out;omega⟩,⟨bk BK567.out⟩,⟨bl HB.out⟩⟩
     ·rw[if_neg c6] at H;exact absurd H (by simp)
    ·rw[if_neg c5] at H;exact absurd H (by simp)
   ·rw[if_neg c4] at H;have c4b0:decide (x9_1<(l0_1.length:Int))=false:=decide_eq_false c4;clear c4;obtain rfl:=Option.some.inj H;go_wp2
    go_ret;exact⟨rr,bl HB.out⟩
def impl_Complex_euler.l0:Nat→Int→List Int→Int→Int→Option (Int)
 |0,_,_,_,_=>none
 |k+1,x3,x7,x8,x9=>if x9<x8 then (if 0≤x9 then (if x9<(x7.length:Int) then ((impl_dimension.f (rd x7 x9)).bind fun t572=>(impl_Complex_euler.l0 k (wrap64 (x3+(wrap64 (1 - (wrap64 (2*(Int.tmod t572 2))))))) x7 x8 (wrap64 (x9+1)))) else (none)) else (none)) else (some x3)
def impl_Complex_euler.f (k:Nat) (a0_0:Int) (l0_1:List Int):Option (Int):=impl_Complex_euler.l0 k 0 l0_1 (l0_1.length:Int) 0
theorem impl_Complex_euler.mono_l:∀ k,(∀ y0 y1 y2 y3,LeO (impl_Complex_euler.l0 k y0 y1 y2 y3) (impl_Complex_euler.l0 (k+1) y0 y1 y2 y3))
 |0=>fun _ _ _ _ r h=>by simp [impl_Complex_euler.l0] at h
 |k+1=>by
  have ih0:=impl_Complex_euler.mono_l k
  ·intro y0 y1 y2 y3;unfold impl_Complex_euler.l0;repeat' first
   |(with_reducible first|exact ih0 _ _ _ _|exact LeO.refl _|exact LeO.none _|refine LeO.ite ?_ ?_|refine LeO.bind ?_ (fun _=>?_))
theorem impl_Complex_euler.mono:∀ a0 a1 k,LeO (impl_Complex_euler.f k a0 a1) (impl_Complex_euler.f (k+1) a0 a1):=by
 intro a0 a1 k;have ih0:=impl_Complex_euler.mono_l k;unfold impl_Complex_euler.f;repeat' first
   |(with_reducible first|exact ih0 _ _ _ _|exact LeO.refl _|exact LeO.none _|refine LeO.ite ?_ ?_|refine LeO.bind ?_ (fun _=>?_))
set_option maxHeartbeats 8000000 in
set_option maxRecDepth 100000 in
theorem impl_Complex_euler.calls (k:Nat) (a0_0:Int) (A0_1:Option Addr) (c0_1:Nat) (l0_1:List Int) (r:Int) (w:World) (hr0_1:Kd.C (Kd.int .i64) w A0_1 l0_1.length l0_1) (hc0_1:l0_1.length≤c0_1) (h:impl_Complex_euler.f k a0_0 l0_1=some r) :
  Calls Tryz.prog 74 #[.agg #[.int .i64 a0_0,.slice A0_1 l0_1.length c0_1]] w fun e w'=>e = .returned (.int .i64 r)∧Below w.heap.size w w':=by
 have hu26:=Tryz.underlying26;have HR0_1:=Aside0.mk hr0_1;have HC0_1:=Aside0.mk hc0_1;clear hr0_1 hc0_1;have HB:=Aside0.mk (Below.refl w.heap.size w);have H:(impl_Complex_euler.l0 k 0 l0_1 (l0_1.length:Int) 0)=some r:=h;clear h;have H':=Aside0.mk H;clear H;go_enter Tryz.func74,Tryz.ntmps74;go_wp2_with (first|((with_reducible refine gate_dst (N:=1) rfl ?_);refine bx 1 #[.int .i64 a0_0,.slice A0_1 l0_1.length c0_1] 26 ?_;intro gb570 hg w2 hbox hb;have BK570:=Aside0.mk (hbox);have GE570:=gzA hg HB;replace HB:=bsA HB hb;clear hb hbox hg;have hcz3_0:=z0_ BK570;have hcz3_1:=z1_ BK570;have hfz3_0:=hf_ BK570 0;have hfz3_1:=hf_ BK570 1))
 go_loopg [3,9] k (fun kq v3 v9 w'=>∃(x3_1:Int) (x9_1:Int),v3 = .int .i64 x3_1∧v9 = .int .i64 x9_1∧Aside0 (impl_Complex_euler.l0 kq x3_1 l0_1 (l0_1.length:Int) x9_1=some r)∧Aside0 (kq≤k)∧Aside0 (w'.heap[gb570]?=some (.cells #[.int .i64 a0_0,(.slice A0_1 l0_1.length c0_1)] 26 (0,0)))∧Aside0 (Below w.heap.size w w'))
 case atStart=>exact⟨(0),(0),rs,rs,H',⟨Nat.le_refl _⟩,⟨bk BK570.out⟩,⟨bl HB.out⟩⟩
 case round=>
  clear H';try clear p2
  try clear hcz3_0
  try clear hcz3_1
  try clear hfz3_0
  try clear hfz3_1
  obtain ⟨x3_1,x9_1,rfl,rfl,HA,HK1,BK570,HB⟩:=hrel;cases gk with
  |zero=>exact absurd HA.out (by simp [impl_Complex_euler.l0])
  |succ k1=>
   have H:=HA.out;clear HA;simp only [impl_Complex_euler.l0] at H;by_cases c4:x9_1<(l0_1.length:Int)
   ·rw[if_pos c4] at H;have c4b0:decide (x9_1<(l0_1.length:Int))=true:=decide_eq_true c4;clear c4;by_cases c5:0≤x9_1
    ·rw[if_pos c5] at H;have c5b0:decide (0≤x9_1)=true:=decide_eq_true c5;clear c5;by_cases c6:x9_1<(l0_1.length:Int)
     ·rw[if_pos c6] at H;have c6b0:decide (x9_1<(l0_1.length:Int))=true:=decide_eq_true c6;clear c6;replace H:=Option.bind_eq_some_iff.mp H;obtain ⟨t572,A70,H⟩:=H;replace H:(impl_Complex_euler.l0 k1 (wrap64 (x3_1+(wrap64 (1 - (wrap64 (2*(Int.tmod t572 2))))))) l0_1 (l0_1.length:Int) (wrap64 (x9_1+1)))=some r:=H;have A7:=Aside0.mk A70;clear A70;have H':=Aside0.mk H;clear H;have p571:0≤(x9_1:Int):=dd;have q571:x9_1<(l0_1.length:Int):=dd;obtain ⟨ad571,e571,hx571_0⟩:=Kd.at_int HR0_1.out x9_1 p571 q571;cases e571;replace hx571_0:=hx_ HB hx571_0;replace p571:=eq_true p571;replace q571:=eq_true q571;go_wp2_with (first|((with_reducible refine gate_callee (f:=99) rfl ?_);refine gl (some 15) Tryz.func99 #[.int .i64 (rd l0_1 x9_1)] ?_;(with_reducible refine(impl_dimension.calls (rd l0_1 x9_1) t572 _ A7.out).mono ?_);rintro e w' ⟨rfl,⟨nd,rfl⟩⟩;refine⟨_,rfl,?_⟩))
      go_roundg k1
      case measure=>have:=HK1.out;omega
      case rel=>exact⟨(wrap64 (x3_1+(wrap64 (1 - (wrap64 (2*(Int.tmod t572 2))))))),(wrap64 (x9_1+1)),rs,rs,H',⟨by have:=HK1.out;omega⟩,⟨bk BK570.out⟩,⟨bl HB.out⟩⟩
     ·rw[if_neg c6] at H;exact absurd H (by simp)
    ·rw[if_neg c5] at H;exact absurd H (by simp)
   ·rw[if_neg c4] at H;have c4b0:decide (x9_1<(l0_1.length:Int))=false:=decide_eq_false c4;clear c4;obtain rfl:=Option.some.inj H;go_wp2
    go_ret;exact⟨rr,bl HB.out⟩
end Go.Proofs.YtbnnamejnjfkjaaGreat.Q
end

section
namespace Go.Proofs.YtbnnamejnjfkjaaGreat.K
open Go.RowKit Go.Shelf Go.Proofs.YtbnnamejnjfkjaaGreat.Q Go.Proofs.YtbnnamejnjfkjaaGreatW.PrintWords Go.Proofs.YtbnnamejnjfkjaaGreatW.PrintLast Go.Proofs.YtbnnamejnjfkjaaGreatW.PrintMore
set_option linter.unusedVariables false
set_option linter.unusedSimpArgs false
def eulerI (l:List Int):Int:=(l.map fun f=>1 - 2*(Int.tmod (dimI f) 2)).sum
theorem eulerI_cons (x:Int) (l:List Int):eulerI (x :: l)=(1 - 2*Int.tmod (dimI x) 2)+eulerI l:=by
 simp only [eulerI,List.map_cons,List.sum_cons]
theorem euler_step (s t:Int) (i:Nat) (hi:i≤63) (hs: -3*(i:Int)≤s∧s≤3*(i:Int)) (htm: -1≤t∧t≤1) :
  wrap64 (2*t)=2*t∧wrap64 (1 - 2*t)=1 - 2*t∧wrap64 (s+(1 - 2*t))=s+(1 - 2*t)∧wrap64 ((i:Int)+1)=((i+1:Nat):Int)∧(-3*((i+1:Nat):Int)≤s+(1 - 2*t)∧s+(1 - 2*t)≤3*((i+1:Nat):Int)):=by
 unfold wrap64
 omega
theorem euler_loop (l:List Int) (hl:l.length≤63) (hr:∀ x ∈ l,1≤x∧x≤63):∀(d i k:Nat) (s:Int),l.length - i=d→i≤l.length→d<k → -3*(i:Int)≤s∧s≤3*(i:Int) →
  impl_Complex_euler.l0 k s l (l.length:Int) (i:Int)=some (s+eulerI (l.drop i)):=by
 intro d
 induction d with
 |zero=>
  intro i k s hd hi hk hs
  obtain ⟨k,rfl⟩:∃ m,k=m+1:=⟨k - 1,by omega⟩
  obtain rfl:i=l.length:=by omega
  simp only [impl_Complex_euler.l0]
  rw[if_neg (by omega)]
  simp [eulerI]
 |succ d ih=>
  intro i k s hd hi hk hs
  obtain ⟨k,rfl⟩:∃ m,k=m+1:=⟨k - 1,by omega⟩
  simp only [impl_Complex_euler.l0]
  have hil:i<l.length:=by omega
  have hx:=hr _ (List.getElem_mem hil)
  have hrd:rd l (i:Int)=l[i]:=by simp [rd,hil]
  rw[if_pos (by omega),if_pos (by omega),if_pos (by omega),hrd,dim_is l[i] (by omega) hx.2]
  simp only [Option.bind_some]
  have ih2:=fun s' hs'=>ih (i+1) k s' (by omega) (by omega) (by omega) hs'
  have hE:eulerI (l.drop i)=(1 - 2*Int.tmod (dimI l[i]) 2)+eulerI (l.drop (i+1)):=by
   rw[List.drop_eq_getElem_cons hil,eulerI_cons]
  obtain ⟨e1,e2,e3,e4,e5⟩:=euler_step s (Int.tmod (dimI l[i]) 2) i (by omega) hs (tm_range _ (dim_range l[i]))
  rw[hE,e1,e2,e3,e4,ih2 _ e5,Int.add_assoc]
theorem euler_is (n:Int) (l:List Int) (hl:l.length≤63) (hr:∀ x ∈ l,1≤x∧x≤63) (k:Nat) (hk:64≤k):impl_Complex_euler.f k n l=some (eulerI l):=by
 unfold impl_Complex_euler.f
 have:=euler_loop l hl hr l.length 0 k 0 (by omega) (by omega) (by omega) (by omega)
 simpa using this
set_option maxHeartbeats 2000000 in
theorem EulerNumber_calls (n:Int) (A:Option Addr) (c:Nat) (l:List Int) (w:World) (hk:Kx w A c l) :
  Calls Tryz.prog 18 #[.agg #[I n,.slice A l.length c]] w fun e w'=>e = .returned (.tuple #[I (if isC n l=true then eulerI l else 0),I (codeOf n l true)])∧Grew w w':=by
 have hg:Grew w (w.alloc (.cells #[I n,.slice A l.length c] 26)):=below_alloc (Grew.refl w) _
 have hB:CB (w.alloc (.cells #[I n,.slice A l.length c] 26)) w.heap.size n (.slice A l.length c):=blk_new w _
 have H:=Aside0.mk (complexCode_calls true n A c l 73 #[] #[] _ (hk.later hg) (enters_of Tryz.func73 (by kernel_rfl) rfl) (fun _=>always_answers _))
 have HK:=Aside0.mk hk
 have HG:=Aside0.mk hg
 have HB:=Aside0.mk hB
 clear hk hg hB
 cases hi:isC n l with
 |false=>
  have HV:Aside0 (codeOf n l true=1):=⟨by simp [codeOf,hi]⟩
  rw[HV.out] at H ⊢
  clear hi
  go_enter Tryz.func18,Tryz.ntmps18
  go_wp2_with fail
  refine H.out.mono ?_
  rintro e w1 ⟨rfl,hG1⟩
  go_wp2_with fail
  go_ret2
  exact⟨rfl,Grew.trans HG.out hG1⟩
 |true=>
  have HV:Aside0 (codeOf n l true=0):=⟨by simp [codeOf,hi]⟩
  rw[HV.out] at H ⊢
  have HI:=Aside0.mk (isC_faces hi)
  clear hi
  go_enter Tryz.func18,Tryz.ntmps18
  go_wp2_with fail
  refine H.out.mono ?_
  rintro e w1 ⟨rfl,hG1⟩
  have HG1:=Aside0.mk (Grew.trans HG.out hG1)
  have k0:=(CB.later HB.out hG1).c0
  have k1:=(CB.later HB.out hG1).c1
  clear hG1
  go_wp2_with fail
  refine(impl_Complex_euler.calls 64 n A c l (eulerI l) w1 (HK.out.later HG1.out).r HK.out.c (euler_is n l HI.out.2.2.2 (fun x hx=>⟨(HI.out.2.2.1 x hx).1,(HI.out.2.2.1 x hx).2.2⟩) 64 (Nat.le_refl _))).mono ?_
  rintro e w2 ⟨rfl,hG2⟩
  go_wp2_with fail
  go_ret2
  exact⟨rfl,Grew.trans HG1.out hG2⟩
end Go.Proofs.YtbnnamejnjfkjaaGreat.K
end

section
namespace Go.Proofs.YtbnnamejnjfkjaaGreat.K
open Go.RowKit Go.Shelf Go.Proofs.YtbnnamejnjfkjaaGreat.Q Go.Proofs.YtbnnamejnjfkjaaGreatW.PrintWords Go.Proofs.YtbnnamejnjfkjaaGreatW.PrintLast Go.Proofs.YtbnnamejnjfkjaaGreatW.PrintMore
set_option linter.unusedVariables false
set_option linter.unusedSimpArgs false
theorem Kx.of {w:World} {A:Option Addr} {c:Nat} {l:List Int} (hr:Ki.C w A l.length l) (hc:l.length≤c) (hl:l.length≤1001):Kx w A c l:=⟨hr,hc,by omega⟩
theorem euler_fv {n:Int} {l:List Int} (h:isC n l=true) (hl:l.length≤1001):Fv 18 l (fun v=>#[.agg #[I n,v]]) (.tuple #[I (eulerI l),I 0]):=by
 intro W A c hr hc
 have:=EulerNumber_calls n A c l W (Kx.of hr hc hl)
 rw[if_pos h,show codeOf n l true=0 by unfold codeOf;rw[if_pos h];rfl] at this
 exact this
end Go.Proofs.YtbnnamejnjfkjaaGreat.K
end

section
namespace Go.Proofs.YtbnnamejnjfkjaaGreat.K
set_option linter.unusedVariables false
set_option linter.unusedSimpArgs false
abbrev VV:=Nat→Int
def comb:List Int→List VV→VV
 |c :: cs,v :: vs=>fun n=>c*v n+comb cs vs n
 |_,_=>fun _=>0
theorem comb_app:∀(a b:List Int) (x y:List VV),a.length=x.length→∀ n,comb (a ++ b) (x ++ y) n=comb a x n+comb b y n
 |[],b,[],y,_,n=>by simp [comb]
 |c :: a,b,v :: x,y,h,n=>by
  simp only [List.cons_append,comb]
  rw[comb_app a b x y (by simpa using h) n]
  omega
 |[],_,_ :: _,_,h,_=>by cases h
 |_ :: _,_,[],_,h,_=>by cases h
theorem comb_zero:∀(a:List Int) (vs:List VV) (p:Int) (n:Nat),(∀ v ∈ vs,v n % p=0)→comb a vs n % p=0
 |[],_,p,n,_=>by simp [comb]
 |_ :: _,[],p,n,_=>by simp [comb]
 |c :: a,v :: vs,p,n,h=>by
  simp only [comb]
  have h1:=h v List.mem_cons_self
  have h2:=comb_zero a vs p n (fun w hw=>h w (List.mem_cons_of_mem _ hw))
  rw[Int.add_emod,Int.mul_emod,h1,h2]
  simp
theorem comb_map (r:Nat) (t:Int) (w:VV):∀(a:List Int) (vs:List VV) (n:Nat),comb a (vs.map fun v=>fun n=>v n - v r*t*w n) n=comb a vs n - comb a vs r*t*w n
 |[],_,n=>by simp [comb]
 |_ :: _,[],n=>by simp [comb]
 |c :: a,v :: vs,n=>by
  simp only [List.map_cons,comb]
  rw[comb_map r t w a vs n]
  simp only [Int.mul_sub,Int.add_mul,Int.mul_assoc]
  omega
def Indep (p:Int) (N:Nat) (vs:List VV):Prop:=∀ cs:List Int,cs.length=vs.length→(∀ n,n<N→comb cs vs n % p=0)→∀ c ∈ cs,c % p=0
theorem sq_one (p x:Int) (hp:2≤p∧p≤3) (hx:x % p≠0):(x*x) % p=1:=by
 rw[Int.mul_emod]
 have h1:=Int.emod_nonneg x (show p≠0 by omega)
 have h2:=Int.emod_lt_of_pos x (show 0<p by omega)
 generalize x % p=y at h1 h2 hx ⊢
 have:(p=2∧y=1)∨(p=3∧(y=1∨y=2)):=by omega
 rcases this with ⟨rfl,rfl⟩|⟨rfl,rfl|rfl⟩ <;> rfl
theorem solve {p:Int} (hp:2≤p∧p≤3):∀(r:Nat) (ws:List VV),r<ws.length→∃ cs:List Int,cs.length=ws.length∧(∃ c ∈ cs,c % p≠0)∧∀ n,n<r→comb cs ws n % p=0:=by
 intro r
 induction r with
 |zero=>
  intro ws h
  cases ws with
  |nil=>cases h
  |cons w ws=>exact⟨1 :: List.replicate ws.length 0,by simp,⟨1,List.mem_cons_self,by rcases (show p=2∨p=3 by omega) with rfl|rfl <;> decide⟩,fun n hn=>absurd hn (Nat.not_lt_zero n)⟩
 |succ r ih=>
  intro ws h
  by_cases hz:∀ w ∈ ws,w r % p=0
  ·obtain ⟨cs,h1,h2,h3⟩:=ih ws (by omega)
   refine⟨cs,h1,h2,fun n hn=>?_⟩
   rcases Nat.lt_or_ge n r with h4|h4
   ·exact h3 n h4
   ·obtain rfl:n=r:=by omega
    exact comb_zero cs ws p n hz
  ·obtain ⟨w,hw,hne⟩:∃ w ∈ ws,w r % p≠0:=by
    apply Classical.byContradiction
    intro hcon
    exact hz fun w hw=>Classical.byContradiction fun hne=>hcon ⟨w,hw,hne⟩
   obtain ⟨l1,l2,rfl⟩:=List.append_of_mem hw
   have hl:r<((l1 ++ l2).map fun v=>fun n=>v n - v r*w r*w n).length:=by
    rw[List.length_map,List.length_append]
    rw[List.length_append,List.length_cons] at h
    omega
   obtain ⟨cs,h1,⟨c,hc,hcn⟩,h3⟩:=ih _ hl
   rw[List.length_map,List.length_append] at h1
   have hs:cs.take l1.length ++ cs.drop l1.length=cs:=List.take_append_drop _ _
   have hlt:(cs.take l1.length).length=l1.length:=by rw[List.length_take];omega
   have hcomb:∀ n,comb (cs.take l1.length ++ (-(comb cs (l1 ++ l2) r*w r)) :: cs.drop l1.length) (l1 ++ w :: l2) n=comb cs (l1 ++ l2) n - comb cs (l1 ++ l2) r*w r*w n:=by
    intro n
    rw[comb_app _ _ _ _ hlt]
    have e:comb cs (l1 ++ l2) n=comb (cs.take l1.length) l1 n+comb (cs.drop l1.length) l2 n:=by
     rw[← comb_app _ _ _ _ hlt,hs]
    rw[e]
    simp only [comb,Int.neg_mul]
    omega
   refine⟨cs.take l1.length ++ (-(comb cs (l1 ++ l2) r*w r)) :: cs.drop l1.length,by rw[List.length_append,List.length_cons,List.length_append,List.length_cons,hlt,List.length_drop];omega,?_,fun n hn=>?_⟩
   ·refine⟨c,?_,hcn⟩
    rw[← hs] at hc
    rcases List.mem_append.1 hc with h|h
    ·exact List.mem_append_left _ h
    ·exact List.mem_append_right _ (List.mem_cons_of_mem _ h)
   ·rw[hcomb n]
    rcases Nat.lt_or_ge n r with h4|h4
    ·have:=h3 n h4
     rw[comb_map] at this
     exact this
    ·obtain rfl:n=r:=by omega
     have h5:=sq_one p (w n) hp hne
     generalize comb cs (l1 ++ l2) n=q
     have e:q - q*w n*w n=q*(1 - w n*w n):=by rw[Int.mul_sub,Int.mul_one,Int.mul_assoc]
     rw[e,Int.mul_emod,Int.sub_emod,h5]
     rcases (show p=2∨p=3 by omega) with rfl|rfl <;> simp
def Sp (p:Int) (N:Nat) (us:List VV) (v:VV):Prop:=∃ a:List Int,a.length=us.length∧∀ n,n<N→(v n - comb a us n) % p=0
def mixL:List Int→List (List Int)→Nat→List Int
 |c :: cs,a :: ass,k=>(List.range k).map fun j=>c*a.getD j 0+(mixL cs ass k).getD j 0
 |_,_,k=>List.replicate k 0
theorem mix_length:∀(cs:List Int) (ass:List (List Int)) (k:Nat),(mixL cs ass k).length=k
 |[],_,k=>by simp [mixL]
 |_ :: _,[],k=>by simp [mixL]
 |c :: cs,a :: ass,k=>by simp [mixL]
theorem comb_lin (c:Int):∀(us:List VV) (a b d:List Int),a.length=us.length→b.length=us.length→d.length=us.length→(∀ j,j<us.length→d.getD j 0=c*a.getD j 0+b.getD j 0)→∀ n,comb d us n=c*comb a us n+comb b us n
 |[],a,b,d,h1,h2,h3,h,n=>by
  have:a = []:=List.eq_nil_of_length_eq_zero h1
  have:b = []:=List.eq_nil_of_length_eq_zero h2
  have:d = []:=List.eq_nil_of_length_eq_zero h3
  subst_vars
  simp [comb]
 |u :: us,x :: a,y :: b,z :: d,h1,h2,h3,h,n=>by
  simp only [comb]
  have h0:=h 0 (by simp)
  simp only [List.getD_cons_zero] at h0
  rw[comb_lin c us a b d (by simpa using h1) (by simpa using h2) (by simpa using h3) (fun j hj=>by simpa using h (j+1) (by simp;omega)) n,h0,Int.add_mul,Int.mul_add,Int.mul_assoc]
  omega
 |_ :: _,[],_,_,h1,_,_,_,_=>by cases h1
 |_ :: _,_ :: _,[],_,_,h2,_,_,_=>by cases h2
 |_ :: _,_ :: _,_ :: _,[],_,_,h3,_,_=>by cases h3
theorem mix_comb (us:List VV):∀(cs:List Int) (ass:List (List Int)),cs.length=ass.length→(∀ a ∈ ass,a.length=us.length)→∀ n,comb (mixL cs ass us.length) us n=comb cs (ass.map fun a=>comb a us) n
 |[],[],_,_,n=>by
  simp only [mixL,comb,List.map_nil]
  have:∀(us:List VV),comb (List.replicate us.length 0) us n=0:=by
   intro us
   induction us with
   |nil=>rfl
   |cons u us ih=>simp [List.replicate_succ,comb,ih]
  exact this us
 |c :: cs,a :: ass,h,ha,n=>by
  simp only [List.map_cons,comb]
  rw[← mix_comb us cs ass (by simpa using h) (fun b hb=>ha b (List.mem_cons_of_mem _ hb)) n]
  refine comb_lin c us a (mixL cs ass us.length) _ (ha a List.mem_cons_self) (mix_length _ _ _) (mix_length _ _ _) (fun j hj=>?_) n
  simp [mixL,hj]
 |[],_ :: _,h,_,_=>by cases h
 |_ :: _,[],h,_,_=>by cases h
theorem comb_congr {p:Int} (n:Nat):∀(cs:List Int) (vs ws:List VV),vs.length=ws.length→(∀(i:Nat) (h:i<vs.length) (h':i<ws.length),(vs[i] n - ws[i] n) % p=0)→(comb cs vs n - comb cs ws n) % p=0
 |[],_,_,_,_=>by simp [comb]
 |_ :: _,[],[],_,_=>by simp [comb]
 |c :: cs,v :: vs,w :: ws,h,hh=>by
  simp only [comb]
  have h1:=hh 0 (by simp) (by simp)
  simp only [List.getElem_cons_zero] at h1
  have h2:=comb_congr n cs vs ws (by simpa using h) (fun i h h'=>hh (i+1) (by simpa using h) (by simpa using h'))
  have e:c*v n+comb cs vs n - (c*w n+comb cs ws n)=c*(v n - w n)+(comb cs vs n - comb cs ws n):=by rw[Int.mul_sub];omega
  rw[e,Int.add_emod,Int.mul_emod,h1,h2]
  simp
 |_ :: _,[],_ :: _,h,_=>by cases h
 |_ :: _,_ :: _,[],h,_=>by cases h
theorem steinitz {p:Int} (hp:2≤p∧p≤3) {N:Nat} {vs us:List VV} (h:Indep p N vs) (hs:∀ v ∈ vs,Sp p N us v):vs.length≤us.length:=by
 apply Classical.byContradiction
 intro hn
 obtain ⟨ass,hla,has,hsp⟩:∃ ass:List (List Int),ass.length=vs.length∧(∀ a ∈ ass,a.length=us.length)∧∀(i:Nat) (h:i<vs.length) (h':i<ass.length),∀ n,n<N→(vs[i] n - comb ass[i] us n) % p=0:=by
  clear h hn
  induction vs with
  |nil=>exact⟨[],rfl,(fun a h=>by cases h),(fun i h=>by cases h)⟩
  |cons v vs ih=>
   obtain ⟨ass,h1,h2,h3⟩:=ih (fun w hw=>hs w (List.mem_cons_of_mem _ hw))
   obtain ⟨a,ha,hb⟩:=hs v List.mem_cons_self
   refine⟨a :: ass,by simp [h1],fun b hb=>?_,fun i h h' n hn=>?_⟩
   ·rcases List.mem_cons.1 hb with rfl|hb
    ·exact ha
    ·exact h2 b hb
   ·cases i with
    |zero=>exact hb n hn
    |succ i=>exact h3 i (by simpa using h) (by simpa using h') n hn
 obtain ⟨cs,h1,⟨c,hc,hne⟩,h3⟩:=solve hp us.length (ass.map fun a=>fun j=>a.getD j 0) (by rw[List.length_map];omega)
 rw[List.length_map] at h1
 refine hne (h cs (by omega) (fun n hn=>?_) c hc)
 have e1:(comb cs vs n - comb cs (ass.map fun a=>comb a us) n) % p=0:=comb_congr n cs _ _ (by rw[List.length_map];omega) (fun i hi hi'=>by
  rw[List.getElem_map]
  exact hsp i hi (by rw[List.length_map] at hi';exact hi') n hn)
 have hj:∀ j,(mixL cs ass us.length).getD j 0=if j<us.length then comb cs (ass.map fun a=>fun j=>a.getD j 0) j else 0:=by
  intro j
  have:∀(cs:List Int) (ass:List (List Int)),cs.length=ass.length→(mixL cs ass us.length).getD j 0=if j<us.length then comb cs (ass.map fun a=>fun j=>a.getD j 0) j else 0:=by
   intro cs ass
   induction cs generalizing ass with
   |nil=>intro h;cases ass with
    |nil=>by_cases hj:j<us.length <;> simp [mixL,comb,hj]
    |cons a ass=>cases h
   |cons c cs ih=>intro h;cases ass with
    |nil=>cases h
    |cons a ass=>
     simp only [mixL,List.map_cons,comb]
     by_cases hj:j<us.length
     ·rw[if_pos hj]
      have:=ih ass (by simpa using h)
      rw[if_pos hj] at this
      simp only [List.getD_eq_getElem?_getD] at this ⊢
      simp [hj,this]
     ·rw[if_neg hj]
      simp [hj]
  exact this cs ass h1
 have hz:∀ x ∈ mixL cs ass us.length,x % p=0:=by
  intro x hx
  obtain ⟨j,hjl,rfl⟩:=List.mem_iff_getElem.1 hx
  rw[mix_length] at hjl
  have:=hj j
  rw[if_pos hjl] at this
  have hg:(mixL cs ass us.length).getD j 0=(mixL cs ass us.length)[j]'(by rw[mix_length];exact hjl):=by simp [mix_length,hjl]
  rw[← hg,this]
  exact h3 j hjl
 have hc0:∀(d:List Int) (us:List VV),(∀ x ∈ d,x % p=0)→comb d us n % p=0:=by
  intro d
  induction d with
  |nil=>intro us _;simp [comb]
  |cons x d ih=>
   intro us hx
   cases us with
   |nil=>simp [comb]
   |cons u us=>
    simp only [comb]
    rw[Int.add_emod,Int.mul_emod,hx x List.mem_cons_self,ih us (fun y hy=>hx y (List.mem_cons_of_mem _ hy))]
    simp
 have e2:=hc0 (mixL cs ass us.length) us hz
 rw[mix_comb us cs ass h1 has] at e2
 have e3:comb cs vs n=(comb cs vs n - comb cs (ass.map fun a=>comb a us) n)+comb cs (ass.map fun a=>comb a us) n:=by omega
 rw[e3,Int.add_emod,e1,e2]
 simp
end Go.Proofs.YtbnnamejnjfkjaaGreat.K
end

section
namespace Go.Proofs.YtbnnamejnjfkjaaGreat.K
open Go.RowKit Go.Shelf Go.Proofs.YtbnnamejnjfkjaaGreat.Q Go.Proofs.YtbnnamejnjfkjaaGreatW.PrintWords Go.Proofs.YtbnnamejnjfkjaaGreatW.PrintLast Go.Proofs.YtbnnamejnjfkjaaGreatW.PrintMore
set_option linter.unusedVariables false
set_option linter.unusedSimpArgs false
theorem bords_ones_64:∀ m:Fin 64,((bords (m.val:Int)).length:Int)≤onesI (m.val:Int):=by decide +kernel
theorem bords_ones (f:Int) (h0:0≤f) (h1:f≤63):((bords f).length:Int)≤onesI f:=by
 obtain ⟨m,rfl⟩:=Int.eq_ofNat_of_zero_le h0
 exact bords_ones_64 ⟨m,by omega⟩
def signAt (s:Int) (i:Nat):Int:=1 - 2*((s - 1 - i) % 2)
def signsL (f:Int):List Int:=(List.range (bords f).length).map (signAt (onesI f))
end Go.Proofs.YtbnnamejnjfkjaaGreat.K
end

section
namespace Go.Proofs.YtbnnamejnjfkjaaGreat.K
open Go.RowKit Go.Shelf Go.Proofs.YtbnnamejnjfkjaaGreat.Q Go.Proofs.YtbnnamejnjfkjaaGreatW.PrintWords Go.Proofs.YtbnnamejnjfkjaaGreatW.PrintLast Go.Proofs.YtbnnamejnjfkjaaGreatW.PrintMore
set_option linter.unusedVariables false
set_option linter.unusedSimpArgs false
def ofL (l:List Int) (d:Int):List Int:=l.filter fun x=>!(dimI x != d)
theorem of_length (l:List Int) (d:Int):(ofL l d).length≤l.length:=List.length_filter_le _ _
theorem isC_of {n:Int} {l:List Int} (h:isC n l=true):∀ x ∈ l,0≤x∧x≤63:=fun x hx=>by
 have:=(isC_faces h).2.2.1 x hx
 omega
end Go.Proofs.YtbnnamejnjfkjaaGreat.K
end

section
namespace Go.Proofs.YtbnnamejnjfkjaaGreat.K
open Go.RowKit Go.Shelf Go.Proofs.YtbnnamejnjfkjaaGreatW.PrintWords Go.Proofs.YtbnnamejnjfkjaaGreatW.PrintLast Go.Proofs.YtbnnamejnjfkjaaGreatW.PrintMore
set_option linter.unusedVariables false
set_option linter.unusedSimpArgs false
def elimAt (p:Int) (c:Nat) (pv row:List Int) (n:Nat):Int:=(row.getD n 0 - row.getD c 0*pv.getD c 0*pv.getD n 0) % p
def elimR (p:Int) (c:Nat) (pv row:List Int):List Int:=(List.range row.length).map (elimAt p c pv row)
def elimM (p:Int) (c r:Nat) (M:List (List Int)) (hi:Nat):List (List Int):=(List.range M.length).map fun k=>if r<k∧k<hi then elimR p c (M.getD r []) (M.getD k []) else M.getD k []
def swapM (M:List (List Int)) (a b:Nat):List (List Int):=(M.set a (M.getD b [])).set b (M.getD a [])
def pivI (M:List (List Int)) (r c:Nat):Int:=idx (fun row=>row.getD c 0 != 0) (M.drop r)
def rstep (p:Int) (s:Nat×List (List Int)) (c:Nat):Nat×List (List Int):=
 if pivI s.2 s.1 c<0 then s else (s.1+1,elimM p c s.1 (swapM s.2 s.1 (s.1+(pivI s.2 s.1 c).toNat)) s.2.length)
def rankTo (p:Int) (M:List (List Int)) (c:Nat):Nat×List (List Int):=(List.range c).foldl (rstep p) (0,M)
theorem rankTo_succ (p:Int) (M:List (List Int)) (c:Nat):rankTo p M (c+1)=rstep p (rankTo p M c) c:=by
 unfold rankTo
 rw[List.range_succ,List.foldl_append]
 rfl
def Good (p:Int) (m:Nat) (M:List (List Int)):Prop:=∀ row ∈ M,row.length=m∧∀ x ∈ row,0≤x∧x<p
def Clear (r c:Nat) (M:List (List Int)):Prop:=∀ i,r≤i→i<M.length→∀ n,n<c→(M.getD i []).getD n 0=0
theorem elimM_length (p:Int) (c r hi:Nat) (M:List (List Int)):(elimM p c r M hi).length=M.length:=by simp [elimM]
theorem swapM_length (M:List (List Int)) (a b:Nat):(swapM M a b).length=M.length:=by simp [swapM]
theorem getD_get {α:Type} (M:List α) (i:Nat) (d:α) (h:i<M.length):M.getD i d=M[i]:=by simp [h]
theorem pivI_cases (M:List (List Int)) (r c:Nat):pivI M r c = -1∨∃ i:Nat,pivI M r c=i∧r+i<M.length∧(M.getD (r+i) []).getD c 0≠0:=by
 unfold pivI idx
 cases h:(M.drop r).findIdx? (fun row=>row.getD c 0 != 0) with
 |none=>exact .inl rfl
 |some i=>
  rw[List.findIdx?_eq_some_iff_getElem] at h
  obtain ⟨hi,hp,_⟩:=h
  rw[List.length_drop] at hi
  have hi2:r+i<M.length:=by omega
  refine .inr ⟨i,rfl,hi2,?_⟩
  rw[List.getElem_drop] at hp
  rw[getD_get M (r+i) [] hi2]
  simpa using hp
theorem pivI_none {M:List (List Int)} {r c:Nat} (h:pivI M r c = -1):∀ i,r≤i→i<M.length→(M.getD i []).getD c 0=0:=by
 intro i h1 h2
 unfold pivI idx at h
 cases hf:(M.drop r).findIdx? (fun row=>row.getD c 0 != 0) with
 |some j=>rw[hf] at h;have:(j:Int) = -1:=h;omega
 |none=>
  rw[List.findIdx?_eq_none_iff] at hf
  have hm:M[i] ∈ M.drop r:=by
   rw[List.mem_iff_getElem]
   exact⟨i - r,by rw[List.length_drop];omega,by rw[List.getElem_drop];congr 1;omega⟩
  have:=hf _ hm
  rw[getD_get M i [] h2]
  simpa using this
theorem getD_mem (M:List (List Int)) (i:Nat) (h:i<M.length):M.getD i [] ∈ M:=by
 rw[getD_get M i [] h]
 exact List.getElem_mem h
theorem swapM_get (M:List (List Int)) (a b i:Nat) (ha:a<M.length) (hb:b<M.length):(swapM M a b).getD i []=if i=b then M.getD a [] else if i=a then M.getD b [] else M.getD i []:=by
 unfold swapM
 rw[List.getD_eq_getElem?_getD,List.getElem?_set,List.getElem?_set]
 simp only [List.length_set]
 by_cases e:b=i
 ·rw[if_pos e,if_pos (by omega),if_pos e.symm]
  rfl
 ·rw[if_neg e,if_neg (show ¬ i=b from fun x=>e x.symm)]
  by_cases e2:a=i
  ·rw[if_pos e2,if_pos (by omega),if_pos e2.symm]
   rfl
  ·rw[if_neg e2,if_neg (show ¬ i=a from fun x=>e2 x.symm),List.getD_eq_getElem?_getD]
theorem swapM_good {p:Int} {m:Nat} {M:List (List Int)} (h:Good p m M) (a b:Nat) (ha:a<M.length) (hb:b<M.length):Good p m (swapM M a b):=by
 intro row hr
 obtain ⟨i,hi,rfl⟩:=List.mem_iff_getElem.1 hr
 rw[swapM_length] at hi
 have e:(swapM M a b)[i]'(by rw[swapM_length];exact hi)=(swapM M a b).getD i []:=(getD_get _ _ _ (by rw[swapM_length];exact hi)).symm
 rw[e,swapM_get M a b i ha hb]
 split
 ·exact h _ (getD_mem M a ha)
 ·split
  ·exact h _ (getD_mem M b hb)
  ·exact h _ (getD_mem M i hi)
theorem elimM_get (p:Int) (c r hi:Nat) (M:List (List Int)) (k:Nat) (hk:k<M.length):(elimM p c r M hi).getD k []=if r<k∧k<hi then elimR p c (M.getD r []) (M.getD k []) else M.getD k []:=by
 unfold elimM
 rw[List.getD_eq_getElem?_getD,List.getElem?_map,List.getElem?_range hk]
 rfl
theorem elimR_length (p:Int) (c:Nat) (pv row:List Int):(elimR p c pv row).length=row.length:=by simp [elimR]
theorem elimR_get (p:Int) (c:Nat) (pv row:List Int) (n:Nat) (h:n<row.length):(elimR p c pv row).getD n 0=elimAt p c pv row n:=by
 unfold elimR
 rw[List.getD_eq_getElem?_getD,List.getElem?_map,List.getElem?_range h]
 rfl
theorem elimM_good {p:Int} (hp:2≤p) {m:Nat} {M:List (List Int)} (h:Good p m M) (c r hi:Nat):Good p m (elimM p c r M hi):=by
 intro row hr
 unfold elimM at hr
 obtain ⟨k,hk,rfl⟩:=List.mem_map.1 hr
 rw[List.mem_range] at hk
 have hg:=h _ (getD_mem M k hk)
 split
 ·refine⟨by rw[elimR_length];exact hg.1,fun x hx=>?_⟩
  unfold elimR at hx
  obtain ⟨n,_,rfl⟩:=List.mem_map.1 hx
  unfold elimAt
  exact⟨Int.emod_nonneg _ (by omega),Int.emod_lt_of_pos _ (by omega)⟩
 ·exact hg
theorem self_inv (p x y:Int) (hp:2≤p∧p≤3) (hy:0≤y∧y<p) (hy0:y≠0):(x - x*y*y) % p=0:=by
 have h1:(y*y) % p=1:=by
  rcases (show p=2∨p=3 by omega) with rfl|rfl
  ·obtain rfl:y=1:=by omega
   rfl
  ·rcases (show y=1∨y=2 by omega) with rfl|rfl <;> rfl
 have h2:x - x*y*y=x*(1 - y*y):=by rw[Int.mul_sub,Int.mul_one,Int.mul_assoc]
 rw[h2]
 have h3:(1 - y*y) % p=0:=by
  rw[Int.sub_emod,h1]
  rcases (show p=2∨p=3 by omega) with rfl|rfl <;> rfl
 rw[Int.mul_emod,h3,Int.mul_zero]
 exact Int.zero_emod p
theorem rank_good {p:Int} (hp:2≤p∧p≤3) {m:Nat} {M0:List (List Int)} (h0:Good p m M0):∀ c,c≤m→(rankTo p M0 c).1≤M0.length∧(rankTo p M0 c).1≤c∧(rankTo p M0 c).2.length=M0.length∧Good p m (rankTo p M0 c).2∧Clear (rankTo p M0 c).1 c (rankTo p M0 c).2:=by
 intro c
 induction c with
 |zero=>exact fun _=>⟨Nat.zero_le _,Nat.le_refl _,rfl,h0,fun i _ _ n hn=>absurd hn (Nat.not_lt_zero n)⟩
 |succ c ih=>
  intro hc
  obtain ⟨h1,h2,h3,h4,h5⟩:=ih (by omega)
  rw[rankTo_succ]
  generalize rankTo p M0 c=s at h1 h2 h3 h4 h5
  obtain ⟨r,M⟩:=s
  simp only at h1 h2 h3 h4 h5
  unfold rstep
  simp only
  rcases pivI_cases M r c with h6|⟨i,h6,h7,h8⟩
  ·rw[if_pos (by omega)]
   refine⟨h1,by simp only;omega,h3,h4,fun i hi hil n hn=>?_⟩
   rcases Nat.lt_or_ge n c with h9|h9
   ·exact h5 i hi hil n h9
   ·obtain rfl:n=c:=by omega
    exact pivI_none h6 i hi hil
  ·rw[if_neg (by omega),h6]
   simp only [Int.toNat_natCast]
   have hr:r<M.length:=by omega
   have hg:=swapM_good h4 r (r+i) hr h7
   refine⟨by omega,by omega,by rw[elimM_length,swapM_length];exact h3,elimM_good hp.1 hg _ _ _,fun k hk hkl n hn=>?_⟩
   rw[elimM_length,swapM_length] at hkl
   rw[elimM_get _ _ _ _ _ k (by rw[swapM_length];exact hkl),if_pos ⟨by omega,by omega⟩]
   have hlk:=(hg _ (getD_mem (swapM M r (r+i)) k (by rw[swapM_length];exact hkl))).1
   rw[elimR_get _ _ _ _ n (by rw[hlk];omega)]
   unfold elimAt
   have hpv:(swapM M r (r+i)).getD r []=M.getD (r+i) []:=by
    rw[swapM_get M r (r+i) r hr h7]
    split
    ·rename_i e;rw[← e]
    ·rw[if_pos rfl]
   rcases Nat.lt_or_ge n c with h9|h9
   ·have hk0:((swapM M r (r+i)).getD k []).getD n 0=0:=by
     rw[swapM_get M r (r+i) k hr h7]
     split
     ·exact h5 r (Nat.le_refl _) hr n h9
     ·rw[if_neg (by omega)];exact h5 k (by omega) hkl n h9
    rw[hk0,hpv,h5 (r+i) (by omega) h7 n h9]
    simp
   ·obtain rfl:n=c:=by omega
    rw[hpv]
    have hgp:=h4 _ (getD_mem M (r+i) h7)
    refine self_inv p _ _ hp ?_ h8
    have hlt:n<(M.getD (r+i) []).length:=by rw[hgp.1];omega
    rw[getD_get _ n 0 hlt]
    exact hgp.2 _ (List.getElem_mem hlt)
def rankM (p:Int) (m:Nat) (M:List (List Int)):Int:=((rankTo p M m).1:Int)
theorem rankM_range {p:Int} (hp:2≤p∧p≤3) {m:Nat} {M:List (List Int)} (h:Good p m M):0≤rankM p m M∧rankM p m M≤M.length∧rankM p m M≤m:=by
 obtain ⟨h1,h2,_⟩:=rank_good hp h m (Nat.le_refl _)
 unfold rankM
 omega
theorem rankM_nil (p:Int):∀ m,rankTo p [] m=(0,[]):=by
 intro m
 induction m with
 |zero=>rfl
 |succ m ih=>rw[rankTo_succ,ih];rfl
def place (cs:List Int) (g:Int):Nat:=(bsOf cs g).1.toNat
def fillR (cs:List Int) (p:Int) (bs sg:List Int) (kk:Nat):List Int:=(List.range kk).foldl (fun row i=>row.set (place cs (bs.getD i 0)) ((sg.getD i 0+p) % p)) (List.replicate cs.length 0)
def rowR (cs:List Int) (p:Int) (f:Int):List Int:=fillR cs p (bords f) (signsL f) (bords f).length
def rowsL (l:List Int) (d p:Int):List (List Int):=(ofL l d).map (rowR (ofL l (d - 1)) p)
theorem fillR_succ (cs:List Int) (p:Int) (bs sg:List Int) (kk:Nat):fillR cs p bs sg (kk+1)=(fillR cs p bs sg kk).set (place cs (bs.getD kk 0)) ((sg.getD kk 0+p) % p):=by
 unfold fillR
 rw[List.range_succ,List.foldl_append]
 rfl
theorem fillR_good (cs:List Int) (p:Int) (hp:2≤p) (bs sg:List Int):∀ kk,(fillR cs p bs sg kk).length=cs.length∧∀ x ∈ fillR cs p bs sg kk,0≤x∧x<p:=by
 intro kk
 induction kk with
 |zero=>
  refine⟨by simp [fillR],fun x hx=>?_⟩
  have:x ∈ List.replicate cs.length (0:Int):=hx
  rw[(List.mem_replicate.1 this).2]
  omega
 |succ kk ih=>
  rw[fillR_succ]
  refine⟨by rw[List.length_set];exact ih.1,fun x hx=>?_⟩
  rcases List.mem_or_eq_of_mem_set hx with h|h
  ·exact ih.2 x h
  ·rw[h]
   exact⟨Int.emod_nonneg _ (by omega),Int.emod_lt_of_pos _ (by omega)⟩
theorem rowsL_good (l:List Int) (d p:Int) (hp:2≤p):Good p (ofL l (d - 1)).length (rowsL l d p):=by
 intro row hr
 obtain ⟨f,_,rfl⟩:=List.mem_map.1 hr
 exact fillR_good _ p hp _ _ _
def rankL (l:List Int) (d p:Int):Int:=rankM p (ofL l (d - 1)).length (rowsL l d p)
theorem rankL_range (l:List Int) (d p:Int) (hp:2≤p∧p≤3):0≤rankL l d p∧rankL l d p≤(ofL l d).length:=by
 have:=rankM_range hp (rowsL_good l d p hp.1)
 unfold rankL
 have h2:(rowsL l d p).length=(ofL l d).length:=by simp [rowsL]
 omega
end Go.Proofs.YtbnnamejnjfkjaaGreat.K
end

section
namespace Go.Proofs.YtbnnamejnjfkjaaGreat.K
set_option linter.unusedVariables false
set_option linter.unusedSimpArgs false
theorem coef_zero {p:Int} (n:Nat):∀(d:List Int) (us:List VV),(∀ x ∈ d,x % p=0)→comb d us n % p=0
 |[],_,_=>by simp [comb]
 |_ :: _,[],_=>by simp [comb]
 |x :: d,u :: us,h=>by
  simp only [comb]
  rw[Int.add_emod,Int.mul_emod,h x List.mem_cons_self,coef_zero n d us (fun y hy=>h y (List.mem_cons_of_mem _ hy))]
  simp
theorem sp_mem {p:Int} {N:Nat} {us:List VV} {v:VV} (h:v ∈ us):Sp p N us v:=by
 obtain ⟨l1,l2,rfl⟩:=List.append_of_mem h
 refine⟨List.replicate l1.length 0 ++ 1 :: List.replicate l2.length 0,by simp,fun n _=>?_⟩
 have hz:∀(l:List VV),comb (List.replicate l.length 0) l n=0:=by
  intro l
  induction l with
  |nil=>rfl
  |cons u l ih=>simp [List.replicate_succ,comb,ih]
 rw[comb_app _ _ _ _ (by simp),hz l1]
 simp only [comb]
 rw[hz l2]
 simp
theorem sp_zero {p:Int} {N:Nat} (us:List VV) {v:VV} (h:∀ n,n<N→v n % p=0):Sp p N us v:=by
 refine⟨List.replicate us.length 0,by simp,fun n hn=>?_⟩
 have hz:∀(l:List VV),comb (List.replicate l.length 0) l n=0:=by
  intro l
  induction l with
  |nil=>rfl
  |cons u l ih=>simp [List.replicate_succ,comb,ih]
 rw[hz,Int.sub_zero]
 exact h n hn
theorem sp_lin {p:Int} {N:Nat} {us:List VV} {v w x:VV} (t:Int) (hv:Sp p N us v) (hw:Sp p N us w) (hx:∀ n,n<N→(x n - (t*w n+v n)) % p=0):Sp p N us x:=by
 obtain ⟨a,ha,hav⟩:=hv
 obtain ⟨b,hb,hbw⟩:=hw
 refine⟨(List.range us.length).map fun j=>t*b.getD j 0+a.getD j 0,by simp,fun n hn=>?_⟩
 have e:=comb_lin t us b a ((List.range us.length).map fun j=>t*b.getD j 0+a.getD j 0) hb ha (by simp) (fun j hj=>by simp [hj]) n
 rw[e]
 have h1:=hx n hn
 have h2:=hav n hn
 have h3:=hbw n hn
 have e2:x n - (t*comb b us n+comb a us n)=(x n - (t*w n+v n))+(t*(w n - comb b us n)+(v n - comb a us n)):=by rw[Int.mul_sub];omega
 rw[e2,Int.add_emod,h1,Int.add_emod (t*(w n - comb b us n)),Int.mul_emod,h3,h2]
 simp
theorem sp_trans {p:Int} {N:Nat} {us vs:List VV} {w:VV} (h:∀ v ∈ vs,Sp p N us v) (hw:Sp p N vs w):Sp p N us w:=by
 obtain ⟨a,ha,haw⟩:=hw
 have:∀(a:List Int) (vs:List VV),a.length=vs.length→(∀ v ∈ vs,Sp p N us v)→Sp p N us (comb a vs):=by
  intro a
  induction a with
  |nil=>intro vs _ _;exact sp_zero us (fun n _=>by simp [comb])
  |cons c a ih=>
   intro vs hl hvs
   cases vs with
   |nil=>cases hl
   |cons v vs=>
    exact sp_lin c (ih vs (by simpa using hl) (fun u hu=>hvs u (List.mem_cons_of_mem _ hu))) (hvs v List.mem_cons_self) (fun n _=>by simp only [comb];rw[Int.sub_self];rfl)
 refine sp_lin 0 (this a vs ha h) (sp_zero us (v:=fun _=>0) (fun n _=>by simp)) (fun n hn=>?_)
 simpa using haw n hn
def appO:List VV→Nat→VV→VV
 |[],_,_=>fun _=>0
 |b :: B,o,v=>fun m=>v o*b m+appO B (o+1) v m
theorem app_lin (c:Int) (v w:VV):∀(B:List VV) (o m:Nat),appO B o (fun n=>c*v n+w n) m=c*appO B o v m+appO B o w m
 |[],_,_=>by simp [appO]
 |b :: B,o,m=>by
  simp only [appO]
  rw[app_lin c v w B (o+1) m]
  simp only [Int.add_mul,Int.mul_add,Int.mul_assoc]
  omega
theorem app_comb (B:List VV) (o m:Nat):∀(cs:List Int) (vs:List VV),appO B o (comb cs vs) m=comb cs (vs.map (appO B o)) m
 |[],vs=>by
  simp only [comb]
  have:∀(B:List VV) (o:Nat),appO B o (fun _=>0) m=0:=by
   intro B
   induction B with
   |nil=>intro o;rfl
   |cons b B ih=>intro o;simp [appO,ih]
  exact this B o
 |_ :: _,[]=>by
  simp only [comb,List.map_nil]
  have:∀(B:List VV) (o:Nat),appO B o (fun _=>0) m=0:=by
   intro B
   induction B with
   |nil=>intro o;rfl
   |cons b B ih=>intro o;simp [appO,ih]
  exact this B o
 |c :: cs,v :: vs=>by
  simp only [comb,List.map_cons]
  rw[app_lin,app_comb B o m cs vs]
theorem app_zero {p:Int} (m:Nat) (v:VV):∀(B:List VV) (o:Nat),(∀ n,n<o+B.length→v n % p=0)→appO B o v m % p=0
 |[],_,_=>by simp [appO]
 |b :: B,o,h=>by
  simp only [appO]
  rw[Int.add_emod,Int.mul_emod,h o (by simp only [List.length_cons];omega),app_zero m v B (o+1) (fun n hn=>h n (by simp only [List.length_cons];omega))]
  simp
theorem ker_le {p:Int} (hp:2≤p∧p≤3) {B vs us:List VV} {K:Nat} (h:Indep p B.length vs) (hz:∀ v ∈ vs,∀ m,m<K→appO B 0 v m % p=0) (hu:Indep p K (us.map (appO B 0))):vs.length+us.length≤B.length:=by
 apply Classical.byContradiction
 intro hn
 obtain ⟨cs,h1,⟨c,hc,hne⟩,h3⟩:=solve hp B.length (vs ++ us) (by rw[List.length_append];omega)
 rw[List.length_append] at h1
 have hs:cs.take vs.length ++ cs.drop vs.length=cs:=List.take_append_drop _ _
 have hlt:(cs.take vs.length).length=vs.length:=by rw[List.length_take];omega
 have hld:(cs.drop vs.length).length=us.length:=by rw[List.length_drop];omega
 have e:∀ n,comb cs (vs ++ us) n=comb (cs.take vs.length) vs n+comb (cs.drop vs.length) us n:=fun n=>by rw[← comb_app _ _ _ _ hlt,hs]
 have h2:∀ x ∈ cs.drop vs.length,x % p=0:=by
  refine hu _ (by rw[List.length_map];exact hld) (fun m hm=>?_)
  have h4:=app_zero m (comb cs (vs ++ us)) B 0 (fun n hn=>h3 n (by omega))
  rw[app_comb,List.map_append] at h4
  have h5:comb cs (vs.map (appO B 0) ++ us.map (appO B 0)) m=comb (cs.take vs.length) (vs.map (appO B 0)) m+comb (cs.drop vs.length) (us.map (appO B 0)) m:=by rw[← comb_app _ _ _ _ (by rw[List.length_map];exact hlt),hs]
  have h6:=comb_zero (cs.take vs.length) (vs.map (appO B 0)) p m (fun v hv=>by obtain ⟨w,hw,rfl⟩:=List.mem_map.1 hv;exact hz w hw m hm)
  rw[h5] at h4
  have h7:comb (cs.drop vs.length) (us.map (appO B 0)) m=(comb (cs.take vs.length) (vs.map (appO B 0)) m+comb (cs.drop vs.length) (us.map (appO B 0)) m) - comb (cs.take vs.length) (vs.map (appO B 0)) m:=by omega
  rw[h7,Int.sub_emod,h4,h6]
  simp
 have h8:∀ x ∈ cs.take vs.length,x % p=0:=by
  refine h _ hlt (fun n hn=>?_)
  have h9:=h3 n hn
  have h10:=coef_zero n (cs.drop vs.length) us h2
  rw[e n] at h9
  have h11:comb (cs.take vs.length) vs n=(comb (cs.take vs.length) vs n+comb (cs.drop vs.length) us n) - comb (cs.drop vs.length) us n:=by omega
  rw[h11,Int.sub_emod,h9,h10]
  simp
 rw[← hs] at hc
 rcases List.mem_append.1 hc with hc|hc
 ·exact hne (h8 c hc)
 ·exact hne (h2 c hc)
theorem mul_zero_mod {p x y:Int} (hp:2≤p∧p≤3) (h:(x*y) % p=0) (hy:y % p≠0):x % p=0:=by
 have h1:=sq_one p y hp hy
 have h2:(x*y*y) % p=0:=by rw[Int.mul_emod,h];simp
 rw[Int.mul_assoc,Int.mul_emod,h1,Int.mul_one,Int.emod_emod] at h2
 exact h2
theorem ech_indep {p:Int} (hp:2≤p∧p≤3) {N:Nat}:∀(vs:List VV),(∀(i:Nat) (h:i<vs.length),∃ q,q<N∧vs[i] q % p≠0∧∀(j:Nat) (hj:j<vs.length),i<j→vs[j] q % p=0)→Indep p N vs
 |[],_=>fun cs h _ c hc=>by
  have:cs = []:=List.eq_nil_of_length_eq_zero h
  subst this
  cases hc
 |v :: vs,h=>fun cs hl hz c hc=>by
  cases cs with
  |nil=>cases hl
  |cons c0 cs=>
   obtain ⟨q,hq,hne,hj⟩:=h 0 (by simp)
   have hrest:=comb_zero cs vs p q (fun w hw=>by
    obtain ⟨i,hi,rfl⟩:=List.mem_iff_getElem.1 hw
    exact hj (i+1) (by simp only [List.length_cons];omega) (by omega))
   have h0:=hz q hq
   simp only [comb] at h0
   have hv0:(c0*v q) % p=0:=by
    have e:c0*v q=(c0*v q+comb cs vs q) - comb cs vs q:=by omega
    rw[e,Int.sub_emod,h0,hrest]
    simp
   have hc0:=mul_zero_mod hp hv0 hne
   have ih:=ech_indep hp vs (fun i hi=>by
    obtain ⟨q,h1,h2,h3⟩:=h (i+1) (by simp only [List.length_cons];omega)
    exact⟨q,h1,h2,fun j hj hij=>h3 (j+1) (by simp only [List.length_cons];omega) (by omega)⟩)
   rcases List.mem_cons.1 hc with rfl|hc
   ·exact hc0
   ·refine ih cs (by simpa using hl) (fun n hn=>?_) c hc
    have h4:=hz n hn
    simp only [comb] at h4
    have e:comb cs vs n=(c0*v n+comb cs vs n) - c0*v n:=by omega
    rw[e,Int.sub_emod,h4,Int.mul_emod,hc0]
    simp
def toV (row:List Int):VV:=fun n=>row.getD n 0
def EqM (p:Int) (m:Nat) (A B:List (List Int)):Prop:=(∀ row ∈ B,Sp p m (A.map toV) (toV row))∧∀ row ∈ A,Sp p m (B.map toV) (toV row)
theorem EqM.refl (p:Int) (m:Nat) (A:List (List Int)):EqM p m A A:=⟨fun row h=>sp_mem (List.mem_map_of_mem h),fun row h=>sp_mem (List.mem_map_of_mem h)⟩
theorem EqM.trans {p:Int} {m:Nat} {A B C:List (List Int)} (h:EqM p m A B) (k:EqM p m B C):EqM p m A C:=
 ⟨fun row hr=>sp_trans (fun v hv=>by obtain ⟨r,hr,rfl⟩:=List.mem_map.1 hv;exact h.1 r hr) (k.1 row hr),fun row hr=>sp_trans (fun v hv=>by obtain ⟨r,hr,rfl⟩:=List.mem_map.1 hv;exact k.2 r hr) (h.2 row hr)⟩
theorem eqM_swap (p:Int) (m:Nat) (M:List (List Int)) (a b:Nat) (ha:a<M.length) (hb:b<M.length):EqM p m M (swapM M a b):=by
 have hm:∀ row,row ∈ swapM M a b↔row ∈ M:=by
  intro row
  constructor
  ·intro h
   obtain ⟨i,hi,rfl⟩:=List.mem_iff_getElem.1 h
   rw[← getD_get (swapM M a b) i [] hi,swapM_get M a b i ha hb]
   rw[swapM_length] at hi
   split
   ·exact getD_mem M a ha
   ·split
    ·exact getD_mem M b hb
    ·exact getD_mem M i hi
  ·intro h
   obtain ⟨i,hi,rfl⟩:=List.mem_iff_getElem.1 h
   have hl:=swapM_length M a b
   have key:∀ j,j<M.length→(swapM M a b).getD j []=M[i]→M[i] ∈ swapM M a b:=fun j hj e=>by
    rw[← e]
    exact getD_mem _ j (by rw[hl];exact hj)
   by_cases h1:i=a
   ·subst h1
    exact key b hb (by rw[swapM_get M i b b ha hb,if_pos rfl,getD_get M i [] hi])
   ·by_cases h2:i=b
    ·subst h2
     exact key a ha (by
      rw[swapM_get M a i a ha hb]
      split
      ·rename_i e;exact absurd e.symm h1
      ·rw[if_pos rfl,getD_get M i [] hi])
    ·exact key i hi (by rw[swapM_get M a b i ha hb,if_neg h2,if_neg h1,getD_get M i [] hi])
 exact⟨fun row h=>sp_mem (List.mem_map_of_mem ((hm row).1 h)),fun row h=>sp_mem (List.mem_map_of_mem ((hm row).2 h))⟩
theorem elim_row {p:Int} {m:Nat} {c:Nat} (pv row:List Int) (hl:row.length=m) (n:Nat) (hn:n<m):(toV (elimR p c pv row) n - (-(row.getD c 0*pv.getD c 0)*toV pv n+toV row n)) % p=0:=by
 unfold toV
 rw[elimR_get p c pv row n (by omega)]
 unfold elimAt
 have e: -(row.getD c 0*pv.getD c 0)*pv.getD n 0+row.getD n 0=row.getD n 0 - row.getD c 0*pv.getD c 0*pv.getD n 0:=by rw[Int.neg_mul];omega
 rw[e,Int.sub_emod,Int.emod_emod,Int.sub_self]
 rfl
theorem eqM_elim {p:Int} (m c r:Nat) (M:List (List Int)) (hr:r<M.length) (hg:∀ row ∈ M,row.length=m):EqM p m M (elimM p c r M M.length):=by
 have hl:=elimM_length p c r M.length M
 have hget:=fun k (hk:k<M.length)=>elimM_get p c r M.length M k hk
 have hrr:(elimM p c r M M.length).getD r []=M.getD r []:=by rw[hget r hr,if_neg (by omega)]
 have hrm:Sp p m ((elimM p c r M M.length).map toV) (toV (M.getD r [])):=by
  rw[← hrr]
  exact sp_mem (List.mem_map_of_mem (getD_mem _ r (by rw[hl];exact hr)))
 constructor
 ·intro row h
  obtain ⟨k,hk,rfl⟩:=List.mem_iff_getElem.1 h
  rw[← getD_get (elimM p c r M M.length) k [] hk]
  rw[hl] at hk
  rw[hget k hk]
  by_cases h1:r<k∧k<M.length
  ·rw[if_pos h1]
   exact sp_lin _ (sp_mem (List.mem_map_of_mem (getD_mem M k hk))) (sp_mem (List.mem_map_of_mem (getD_mem M r hr))) (fun n hn=>elim_row _ _ (hg _ (getD_mem M k hk)) n hn)
  ·rw[if_neg h1]
   exact sp_mem (List.mem_map_of_mem (getD_mem M k hk))
 ·intro row h
  obtain ⟨k,hk,rfl⟩:=List.mem_iff_getElem.1 h
  rw[← getD_get M k [] hk]
  by_cases h1:r<k∧k<M.length
  ·have hm:Sp p m ((elimM p c r M M.length).map toV) (toV (elimR p c (M.getD r []) (M.getD k []))):=by
    have:=hget k hk
    rw[if_pos h1] at this
    rw[← this]
    exact sp_mem (List.mem_map_of_mem (getD_mem _ k (by rw[hl];exact hk)))
   refine sp_lin ((M.getD k []).getD c 0*(M.getD r []).getD c 0) hm hrm (fun n hn=>?_)
   have:=elim_row (p:=p) (c:=c) (M.getD r []) (M.getD k []) (hg _ (getD_mem M k hk)) n hn
   have e:toV (M.getD k []) n - ((M.getD k []).getD c 0*(M.getD r []).getD c 0*toV (M.getD r []) n+toV (elimR p c (M.getD r []) (M.getD k [])) n) = -(toV (elimR p c (M.getD r []) (M.getD k [])) n - (-((M.getD k []).getD c 0*(M.getD r []).getD c 0)*toV (M.getD r []) n+toV (M.getD k []) n)):=by
    rw[Int.neg_mul]
    omega
   rw[e,Int.neg_emod]
   rw[if_pos (Int.dvd_of_emod_eq_zero this)]
  ·have:=hget k hk
   rw[if_neg h1] at this
   rw[← this]
   exact sp_mem (List.mem_map_of_mem (getD_mem _ k (by rw[hl];exact hk)))
def Ech (p:Int) (m r:Nat) (M:List (List Int)):Prop:=∀ i,i<r→∃ q,q<m∧(M.getD i []).getD q 0 % p≠0∧∀ j,i<j→j<M.length→(M.getD j []).getD q 0=0
theorem rank_facts {p:Int} (hp:2≤p∧p≤3) {m:Nat} {M0:List (List Int)} (h0:Good p m M0):∀ c,c≤m→EqM p m M0 (rankTo p M0 c).2∧Ech p m (rankTo p M0 c).1 (rankTo p M0 c).2:=by
 intro c
 induction c with
 |zero=>exact fun _=>⟨EqM.refl p m M0,fun i hi=>absurd hi (Nat.not_lt_zero i)⟩
 |succ c ih=>
  intro hc
  obtain ⟨g1,g2⟩:=ih (by omega)
  obtain ⟨h1,h2,h3,h4,h5⟩:=rank_good hp h0 c (by omega)
  obtain ⟨k1,k2,k3,k4,k5⟩:=rank_good hp h0 (c+1) hc
  rw[rankTo_succ] at k1 k2 k3 k4 k5 ⊢
  generalize rankTo p M0 c=s at g1 g2 h1 h2 h3 h4 h5 k1 k2 k3 k4 k5
  obtain ⟨r,M⟩:=s
  simp only at g1 g2 h1 h2 h3 h4 h5
  unfold rstep at k1 k2 k3 k4 k5 ⊢
  simp only at k1 k2 k3 k4 k5 ⊢
  rcases pivI_cases M r c with h6|⟨i,h6,h7,h8⟩
  ·rw[if_pos (by omega)]
   exact⟨g1,g2⟩
  ·rw[if_neg (by omega),h6] at k1 k2 k3 k4 k5 ⊢
   simp only [Int.toNat_natCast] at k1 k2 k3 k4 k5 ⊢
   have hr:r<M.length:=by omega
   have hsl:=swapM_length M r (r+i)
   have hsg:=swapM_good h4 r (r+i) hr h7
   have hel:=elimM_length p c r M.length (swapM M r (r+i))
   refine⟨?_,fun j hj=>?_⟩
   ·refine g1.trans ((eqM_swap p m M r (r+i) hr h7).trans ?_)
    have:=eqM_elim (p:=p) m c r (swapM M r (r+i)) (by rw[hsl];exact hr) (fun row h=>(hsg row h).1)
    rw[hsl] at this
    exact this
   ·have hget:=fun k (hk:k<M.length)=>elimM_get p c r M.length (swapM M r (r+i)) k (by rw[hsl];exact hk)
    rcases Nat.lt_or_ge j r with hjr|hjr
    ·obtain ⟨q,q1,q2,q3⟩:=g2 j hjr
     refine⟨q,q1,?_,fun k hjk hk=>?_⟩
     ·rw[hget j (by omega),if_neg (by omega),swapM_get M r (r+i) j hr h7,if_neg (by omega),if_neg (by omega)]
      exact q2
     ·rw[hel,hsl] at hk
      have hs0:∀ k,j<k→k<M.length→((swapM M r (r+i)).getD k []).getD q 0=0:=fun k hjk hk=>by
       rw[swapM_get M r (r+i) k hr h7]
       split
       ·exact q3 r hjr hr
       ·split
        ·exact q3 (r+i) (by omega) h7
        ·exact q3 k hjk hk
      rw[hget k hk]
      by_cases h9:r<k∧k<M.length
      ·rw[if_pos h9]
       have hlk:=(hsg _ (getD_mem (swapM M r (r+i)) k (by rw[hsl];exact hk))).1
       rw[elimR_get _ _ _ _ q (by rw[hlk];exact q1)]
       unfold elimAt
       rw[hs0 k hjk hk,hs0 r hjr hr]
       simp
      ·rw[if_neg h9]
       exact hs0 k hjk hk
    ·obtain rfl:j=r:=by omega
     refine⟨c,by omega,?_,fun k hjk hk=>k5 k (by omega) hk c (by omega)⟩
     rw[hget j hr,if_neg (by omega),swapM_get M j (j+i) j hr h7]
     have hpv:(if j=j+i then M.getD j [] else if j=j then M.getD (j+i) [] else M.getD j [])=M.getD (j+i) []:=by
      split
      ·rename_i e;rw[← e]
      ·rw[if_pos rfl]
     rw[hpv]
     have hgp:=h4 _ (getD_mem M (j+i) h7)
     have hlt:c<(M.getD (j+i) []).length:=by rw[hgp.1];omega
     have hx:=hgp.2 _ (List.getElem_mem hlt)
     rw[getD_get _ c 0 hlt] at h8 ⊢
     rw[Int.emod_eq_of_lt hx.1 hx.2]
     exact h8
theorem rank_basis {p:Int} (hp:2≤p∧p≤3) {m:Nat} {M:List (List Int)} (h:Good p m M):∃ E:List VV,(E.length:Int)=rankM p m M∧Indep p m E∧(∀ v ∈ E,Sp p m (M.map toV) v)∧∀ row ∈ M,Sp p m E (toV row):=by
 obtain ⟨g1,g2⟩:=rank_facts hp h m (Nat.le_refl _)
 obtain ⟨h1,h2,h3,h4,h5⟩:=rank_good hp h m (Nat.le_refl _)
 unfold rankM
 generalize rankTo p M m=s at g1 g2 h1 h2 h3 h4 h5 ⊢
 obtain ⟨r,R⟩:=s
 simp only at g1 g2 h1 h2 h3 h4 h5 ⊢
 have hl:((R.take r).map toV).length=r:=by rw[List.length_map,List.length_take];omega
 refine⟨(R.take r).map toV,by rw[hl],ech_indep hp _ (fun i hi=>?_),fun v hv=>?_,fun row hr=>?_⟩
 ·rw[hl] at hi
  obtain ⟨q,q1,q2,q3⟩:=g2 i hi
  have hg:∀ k (hk:k<((R.take r).map toV).length),((R.take r).map toV)[k] q=(R.getD k []).getD q 0:=fun k hk=>by
   rw[List.getElem_map,List.getElem_take]
   rw[hl] at hk
   rw[getD_get R k [] (by omega)]
   rfl
  refine⟨q,q1,by rw[hg];exact q2,fun j hj hij=>?_⟩
  rw[hg]
  rw[hl] at hj
  rw[q3 j hij (by omega)]
  simp
 ·obtain ⟨row,hrow,rfl⟩:=List.mem_map.1 hv
  exact g1.1 row (List.mem_of_mem_take hrow)
 ·refine sp_trans (fun v hv=>?_) (g1.2 row hr)
  obtain ⟨row',hrow,rfl⟩:=List.mem_map.1 hv
  obtain ⟨k,hk,rfl⟩:=List.mem_iff_getElem.1 hrow
  rcases Nat.lt_or_ge k r with hkr|hkr
  ·refine sp_mem (List.mem_map_of_mem ?_)
   rw[List.mem_take_iff_getElem]
   exact⟨k,by omega,rfl⟩
  ·refine sp_zero _ (fun n hn=>?_)
   have:=h5 k hkr hk n hn
   rw[getD_get R k [] hk] at this
   unfold toV
   rw[this]
   simp
end Go.Proofs.YtbnnamejnjfkjaaGreat.K
end
