/- Texts of this work, put together by its pack.py. No conditions. -/
import Derived.Test.YtlhkdbkjafiikaaGreatJ2
import Derived.Below
import Derived.Deep.Draws
import Derived.Deep.AppendLies
import Derived.Maps.AppendAt
import Derived.OwnWalk
import Derived.Laws.BytesArg
import Derived.Laws.MakeOwn
import Derived.Laws.OwnMore
import Derived.Deep.OwnRows
import Derived.Tactics
import Derived.Lib.ConvBytes
import Derived.Laws.Slices
import Derived.WalkKit
import Derived.KernelRfl
import Derived.RowKit3
import Derived.Deep.LoopGhost
import Derived.Deep.QuietTactic
import Derived.BigQuiet
import Derived.WideLaws
import Derived.Deep.DeepCutAuto
import Derived.Deep.CutBlock
import Derived.Deep.RegionHeld3
import Derived.Laws.Rows
import Derived.Lib.AppendStr
import Derived.ArgAppend
import Derived.Laws.IdiomCopy
import Derived.RowKit
import Derived.OrdersHeld
import Derived.Laws.BitsLemmas
import Derived.Test.YtlhkdbkjafiikaaGreatProg
import Derived.Shelf.Abstract
import Derived.Laws.StructEq
import Derived.RangeFuncBox
import Derived.RangeFuncLeaves
import Derived.OwnWalkIn
import Derived.TacticsInMore
import Derived.LoopNIn
import Derived.LoopIn
import Derived.Lib.SliceRun
section
namespace Go.Proofs.YtlhkdbkjafiikaaGreat.K
open Go.RowKit Go.Shelf Go.Proofs.YtlhkdbkjafiikaaGreat.Q Go.Proofs.YtlhkdbkjafiikaaGreatW.PrintWords Go.Proofs.YtlhkdbkjafiikaaGreatW.PrintLast Go.Proofs.YtlhkdbkjafiikaaGreatW.PrintMore
set_option linter.unusedVariables false
set_option linter.unusedSimpArgs false
theorem verts_le (f:Int):∀ d,impl_vertices.f (7+d) f=some (verts f)
 |0=>verts_is f
 |d+1=>impl_vertices.mono _ _ _ (verts_le f d)
theorem img_loop (p vs:List Int) (hv:∀ v ∈ vs,0≤v∧v<p.length∧0≤rd p v∧rd p v<6) (hl:vs.length≤100):∀(e i k a:Nat),vs.length - i=e→i≤vs.length→e<k→a<64 →
  impl_imageOf.l0 k p (a:Int) vs (vs.length:Int) (i:Int)=some ((((vs.drop i).map fun v=>rd p v).foldl orS a:Nat):Int):=by
 intro e
 induction e with
 |zero=>
  intro i k a he hi hk ha
  obtain ⟨k,rfl⟩:∃ m,k=m+1:=⟨k - 1,by omega⟩
  obtain rfl:i=vs.length:=by omega
  simp only [impl_imageOf.l0]
  rw[if_neg (by omega),List.drop_eq_nil_of_le (by omega)]
  rfl
 |succ e ih=>
  intro i k a he hi hk ha
  obtain ⟨k,rfl⟩:∃ m,k=m+1:=⟨k - 1,by omega⟩
  have hil:i<vs.length:=by omega
  have hx:=hv _ (List.getElem_mem hil)
  have HW:Aside0 (wrap64 ((i:Int)+1)=((i+1:Nat):Int)):=⟨by rw[w64 _ (by omega) (by omega)];omega⟩
  have hlt:orS a (rd p vs[i])<64:=orF_lt 6 [rd p vs[i]] a (fun x hx2=>by rw[List.mem_singleton.1 hx2];omega) ha
  simp only [impl_imageOf.l0]
  rw[if_pos (by omega),if_pos (by omega),if_pos (by omega),rd_nat vs i hil,if_pos hx.1,if_pos hx.2.1,if_pos hx.2.2.1,or_is a ha _ hx.2.2.1 hx.2.2.2,HW.out,ih (i+1) k _ (by omega) (by omega) (by omega) hlt,List.drop_eq_getElem_cons hil,List.map_cons,List.foldl_cons]
theorem verts_ok {n:Int} {p:List Int} (hn:1≤n∧n≤6) (ho:ordB n p=true) (f:Int) (h1:1≤f) (h2:f≤fullOf n):∀ v ∈ verts f,0≤v∧v<p.length∧0≤rd p v∧rd p v<6:=fun v hv=>by
 have h63:=full_range n hn
 obtain ⟨m,rfl⟩:=Int.eq_ofNat_of_zero_le (show 0≤f by omega)
 have h3:=verts_range _ v hv
 obtain ⟨u,rfl⟩:=Int.eq_ofNat_of_zero_le h3.1
 have h4:=verts_lt hn m h2 u ((mem_verts m (by omega) u).1 hv)
 have h5:=ord_rd ho _ h3.1 h4
 have h6:=(ord_at ho).2.2
 omega
theorem verts_len (f:Int):(verts f).length≤6:=by
 unfold verts
 exact List.length_filter_le _ _
theorem imageOf_is {n:Int} {p:List Int} (hn:1≤n∧n≤6) (ho:ordB n p=true) (f:Int) (h1:1≤f) (h2:f≤fullOf n):impl_imageOf.f 20 f p=some (imgN p f:Int):=by
 unfold impl_imageOf.f
 rw[show (20:Nat)=7+13 from rfl,verts_le]
 simp only [Option.bind_some]
 have hl:=verts_len f
 have:=img_loop p (verts f) (verts_ok hn ho f h1 h2) (by omega) (verts f).length 0 20 0 (by omega) (by omega) (by omega) (by decide)
 rw[List.drop_zero] at this
 exact this
theorem isOrder_loop {n:Int} (hn:1≤n∧n≤6) (p:List Int) (hl:p.length≤2097152):∀(e i k a:Nat),p.length - i=e→i≤p.length→e<k→a<64 →
  impl_isOrder.l0 k p n (a:Int) p (p.length:Int) (i:Int)=some ((p.drop i).all (fun v=>decide (0≤v∧v≤n - 1)) && (decide ((p.length:Int)=n) && decide ((((p.drop i).foldl orS a:Nat):Int)=fullOf n))):=by
 have HWn:Aside0 (wrap64 (n - 1)=n - 1):=⟨w64 _ (by omega) (by omega)⟩
 have hF:=full_range n hn
 intro e
 induction e with
 |zero=>
  intro i k a he hi hk ha
  obtain ⟨k,rfl⟩:∃ m,k=m+1:=⟨k - 1,by omega⟩
  obtain rfl:i=p.length:=by omega
  simp only [impl_isOrder.l0]
  rw[if_neg (by omega),List.drop_eq_nil_of_le (by omega)]
  unfold impl_length_int64.f
  simp only [Option.bind_some,List.all_nil,Bool.true_and,List.foldl_nil]
  by_cases h:(p.length:Int)=n
  ·have HS:Aside0 (wrap64 (shl .i64 1 n - 1)=fullOf n):=⟨by rw[shl_one n (by omega) (by omega),w64 _ (by have:=full_nat n;unfold fullOf at this hF;omega) (by unfold fullOf at hF;omega)];rfl⟩
   rw[if_pos h,if_pos (by omega),decide_eq_true h,HS.out,Bool.true_and]
   rfl
  ·rw[if_neg h,decide_eq_false h,Bool.false_and]
 |succ e ih=>
  intro i k a he hi hk ha
  obtain ⟨k,rfl⟩:∃ m,k=m+1:=⟨k - 1,by omega⟩
  have hil:i<p.length:=by omega
  have HW:Aside0 (wrap64 ((i:Int)+1)=((i+1:Nat):Int)):=⟨by rw[w64 _ (by omega) (by omega)];omega⟩
  simp only [impl_isOrder.l0]
  rw[if_pos (by omega),if_pos (by omega),if_pos (by omega),rd_nat p i hil,HWn.out,within_is,List.drop_eq_getElem_cons hil,List.all_cons,List.foldl_cons]
  simp only [Option.bind_some]
  by_cases hv:0≤p[i]∧p[i]≤n - 1
  ·have hlt:orS a p[i]<64:=orF_lt 6 [p[i]] a (fun x hx2=>by rw[List.mem_singleton.1 hx2];omega) ha
   rw[decide_eq_true hv,if_pos rfl,if_pos hv.1,or_is a ha _ hv.1 (by omega),HW.out,ih (i+1) k _ (by omega) (by omega) (by omega) hlt,Bool.true_and]
  ·rw[decide_eq_false hv,if_neg (by simp),Bool.false_and,Bool.false_and]
theorem isOrder_is {n:Int} (hn:1≤n∧n≤6) (p:List Int) (hl:p.length≤2097152) (k:Nat) (hk:p.length<k):impl_isOrder.f k p n=some (ordB n p):=by
 unfold impl_isOrder.f
 have h:=isOrder_loop hn p hl p.length 0 k 0 (by omega) (by omega) hk (by decide)
 rw[show ((0:Nat):Int)=0 from rfl,List.drop_zero] at h
 rw[h]
 congr 1
 unfold ordB
 cases hr:p.all (fun v=>decide (0≤v∧v≤n - 1)) with
 |false=>rfl
 |true=>
  rw[List.all_eq_true] at hr
  simp only [decide_eq_true_eq] at hr
  rw[Bool.true_and,Bool.true_and]
  by_cases hlen:(p.length:Int)=n
  ·rw[decide_eq_true hlen,Bool.true_and,Bool.and_true,Bool.eq_iff_iff,decide_eq_true_eq,decide_eq_true_eq]
   have h1:=full_iff n.toNat p (fun v hv=>by have:=hr v hv;omega) (by omega)
   have h2:=full_nat n
   have h3:p.foldl orS 0=orN p:=rfl
   rw[h3,h2,← h1]
   omega
  ·rw[decide_eq_false hlen,Bool.false_and,Bool.and_false]
def freshB (pre rest:List Int):Bool:=decide rest.Nodup && rest.all fun v=>!decide (v ∈ pre)
theorem fresh_cons (pre rest:List Int) (x:Int):freshB pre (x :: rest)=(!decide (x ∈ pre) && freshB (pre ++ [x]) rest):=by
 unfold freshB
 rw[Bool.eq_iff_iff]
 simp only [Bool.and_eq_true,decide_eq_true_eq,List.all_eq_true,Bool.not_eq_true',decide_eq_false_iff_not,List.nodup_cons]
 constructor
 ·rintro ⟨⟨h0,h1⟩,h2⟩
  refine⟨h2 x List.mem_cons_self,h1,fun v hv h=>?_⟩
  rcases List.mem_append.1 h with h|h
  ·exact h2 v (List.mem_cons_of_mem _ hv) h
  ·rw[List.mem_singleton.1 h] at hv
   exact h0 hv
 ·rintro ⟨h0,h1,h2⟩
  refine⟨⟨fun h=>h2 x h (List.mem_append_right _ (List.mem_singleton.2 rfl)),h1⟩,fun v hv h=>?_⟩
  rcases List.mem_cons.1 hv with e|hv
  ·rw[e] at h;exact h0 h
  ·exact h2 v hv (List.mem_append_left _ h)
theorem specOrder_loop {n:Int} (hn:1≤n∧n≤6) (p:List Int) (hl:p.length≤2097152):∀(e i k:Nat) (met:List Bool),p.length - i=e→i≤p.length→e<k→met.length=n.toNat→(∀ v:Int,0≤v→v≤n - 1→rdOf false met v=decide (v ∈ p.take i)) →
  spec_l01Order.l0 k p n met (i:Int)=some ((p.drop i).all (fun v=>decide (0≤v∧v≤n - 1)) && (freshB (p.take i) (p.drop i) && decide ((p.length:Int)=n))):=by
 have HWn:Aside0 (wrap64 (n - 1)=n - 1):=⟨w64 _ (by omega) (by omega)⟩
 intro e
 induction e with
 |zero=>
  intro i k met he hi hk hm hmet
  obtain ⟨k,rfl⟩:∃ m,k=m+1:=⟨k - 1,by omega⟩
  obtain rfl:i=p.length:=by omega
  simp only [spec_l01Order.l0]
  rw[if_neg (by omega),List.drop_eq_nil_of_le (by omega),show freshB (p.take p.length) []=true from rfl]
  simp only [List.all_nil,Bool.true_and]
  rfl
 |succ e ih=>
  intro i k met he hi hk hm hmet
  obtain ⟨k,rfl⟩:∃ m,k=m+1:=⟨k - 1,by omega⟩
  have hil:i<p.length:=by omega
  have HW:Aside0 (wrap64 ((i:Int)+1)=((i+1:Nat):Int)):=⟨by rw[w64 _ (by omega) (by omega)];omega⟩
  have htk:p.take (i+1)=p.take i ++ [p[i]]:=List.take_succ_eq_append_getElem hil
  simp only [spec_l01Order.l0]
  rw[if_pos (by omega),if_pos (by omega),rd_nat p i hil,HWn.out,specIn_is,List.drop_eq_getElem_cons hil,List.all_cons]
  simp only [Option.bind_some]
  by_cases hv:0≤p[i]∧p[i]≤n - 1
  ·rw[decide_eq_true hv,if_pos rfl,if_pos hv.1,if_pos (by omega),hmet _ hv.1 hv.2,Bool.true_and]
   rw[fresh_cons]
   by_cases hin:p[i] ∈ p.take i
   ·rw[decide_eq_true hin,if_pos rfl]
    simp
   ·rw[decide_eq_false hin,if_neg (by simp),HW.out,ih (i+1) k _ (by omega) (by omega) (by omega) (by rw[List.length_set];exact hm) (fun v h0 h1=>by
     rw[htk]
     unfold rdOf
     rw[List.getD_eq_getElem?_getD,List.getElem?_set]
     by_cases e1:p[i].toNat=v.toNat
     ·have e2:v=p[i]:=by omega
      rw[if_pos e1,if_pos (by omega),decide_eq_true (show v ∈ p.take i ++ [p[i]] from List.mem_append_right _ (List.mem_singleton.2 e2))]
      rfl
     ·rw[if_neg e1,← List.getD_eq_getElem?_getD]
      have h2:=hmet v h0 h1
      unfold rdOf at h2
      rw[h2,decide_eq_decide]
      constructor
      ·exact fun h=>List.mem_append_left _ h
      ·intro h
       rcases List.mem_append.1 h with h|h
       ·exact h
       ·exact absurd (by rw[List.mem_singleton.1 h]) e1),htk]
    rfl
  ·rw[decide_eq_false hv,if_neg (by simp),Bool.false_and,Bool.false_and]
theorem specOrder_is {n:Int} (hn:1≤n∧n≤6) (p:List Int) (hl:p.length≤2097152) (k:Nat) (hk:p.length<k):spec_l01Order.f k p n=some (ordB n p):=by
 unfold spec_l01Order.f ordB
 have:=specOrder_loop hn p hl p.length 0 k (List.replicate n.toNat false) (by omega) (by omega) hk (by simp) (fun v h0 h1=>by
  unfold rdOf
  rw[List.getD_eq_getElem?_getD,List.getElem?_replicate]
  split <;> simp)
 rw[show ((0:Nat):Int)=0 from rfl,List.drop_zero,List.take_zero] at this
 rw[if_pos (by omega),if_pos (by omega),this]
 unfold freshB
 have ht:(p.all fun v=>!decide (v ∈ ([]:List Int)))=true:=by
  rw[List.all_eq_true]
  intro v _
  simp
 rw[ht,Bool.and_true]
theorem moved_loop {n:Int} {p:List Int} (hn:1≤n∧n≤6) (ho:ordB n p=true) (f:Int):∀(e i k a:Nat),p.length - i=e→i≤p.length→e<k→a<64 →
  spec_l01Moved.l0 k f p (a:Int) (i:Int)=some ((((((List.range p.length).drop i).filter fun v:Nat=>vbit f (v:Int)).map fun v:Nat=>rd p (v:Int)).foldl orS a:Nat):Int):=by
 have hlen:=(ord_at ho).2.2
 intro e
 induction e with
 |zero=>
  intro i k a he hi hk ha
  obtain ⟨k,rfl⟩:∃ m,k=m+1:=⟨k - 1,by omega⟩
  obtain rfl:i=p.length:=by omega
  simp only [spec_l01Moved.l0]
  rw[if_neg (by omega),List.drop_eq_nil_of_le (by simp)]
  rfl
 |succ e ih=>
  intro i k a he hi hk ha
  obtain ⟨k,rfl⟩:∃ m,k=m+1:=⟨k - 1,by omega⟩
  have hil:i<p.length:=by omega
  have hrl:i<(List.range p.length).length:=by rw[List.length_range];exact hil
  have hx:=ord_rd ho (i:Int) (by omega) (by omega)
  have HW:Aside0 (wrap64 ((i:Int)+1)=((i+1:Nat):Int)):=⟨by rw[w64 _ (by omega) (by omega)];omega⟩
  have HU:Aside0 (IntKind.u64.wrap (i:Int)=(i:Int)):=⟨u64_id _ (by omega) (by omega)⟩
  have HU2:Aside0 (IntKind.u64.wrap (rd p (i:Int))=rd p (i:Int)):=⟨u64_id _ (by omega) (by omega)⟩
  have hlt:orS a (rd p (i:Int))<64:=orF_lt 6 [rd p (i:Int)] a (fun x hx2=>by rw[List.mem_singleton.1 hx2];omega) ha
  simp only [spec_l01Moved.l0]
  rw[if_pos (by omega),HU.out,if_pos (by omega),HU2.out,HW.out,List.drop_eq_getElem_cons hrl,List.getElem_range,List.filter_cons]
  by_cases hb:Go.bits .and .i64 (shr .i64 f (i:Int)) 1=1
  ·have hvb:vbit f (i:Int)=true:=decide_eq_true hb
   rw[if_pos hb,if_pos (by omega),if_pos hx.1,or_is a ha _ hx.1 (by omega),ih (i+1) k _ (by omega) (by omega) (by omega) hlt,if_pos hvb]
   rfl
  ·have hvb:¬ vbit f (i:Int)=true:=fun h=>hb (of_decide_eq_true h)
   rw[if_neg hb,ih (i+1) k _ (by omega) (by omega) (by omega) ha,if_neg hvb]
theorem moved_is {n:Int} {p:List Int} (hn:1≤n∧n≤6) (ho:ordB n p=true) (f:Int) (h1:1≤f) (h2:f≤fullOf n) (k:Nat) (hk:10≤k):spec_l01Moved.f k f p=some (imgN p f:Int):=by
 have hlen:=(ord_at ho).2.2
 have h63:=full_range n hn
 unfold spec_l01Moved.f
 have h:=moved_loop hn ho f p.length 0 k 0 (by omega) (by omega) (by omega) (by decide)
 rw[show ((0:Nat):Int)=0 from rfl,List.drop_zero] at h
 rw[h]
 obtain ⟨m,rfl⟩:=Int.eq_ofNat_of_zero_le (show 0≤f by omega)
 have hr:∀ v:Nat,v<p.length→0≤rd p (v:Int):=fun v hv=>(ord_rd ho _ (by omega) (by omega)).1
 have:orN (((List.range p.length).filter fun v:Nat=>vbit (m:Int) (v:Int)).map fun v:Nat=>rd p (v:Int))=imgN p (m:Int):=by
  unfold imgN
  refine orN_same (fun x hx=>?_) (fun x hx=>?_) (fun j=>?_)
  ·obtain ⟨v,hv,rfl⟩:=List.mem_map.1 hx
   exact hr v (List.mem_range.1 (List.mem_filter.1 hv).1)
  ·obtain ⟨v,hv,rfl⟩:=List.mem_map.1 hx
   exact(verts_ok hn ho _ h1 h2 v hv).2.2.1
  ·rw[List.mem_map,List.mem_map]
   constructor
   ·rintro ⟨v,hv,e⟩
    rw[List.mem_filter] at hv
    have hv2:=List.mem_range.1 hv.1
    refine⟨(v:Int),?_,e⟩
    rw[mem_verts m (by omega)]
    rw[vbit_64 ⟨m,by omega⟩ ⟨v,by omega⟩] at hv
    exact hv.2
   ·rintro ⟨v,hv,e⟩
    have hv2:=verts_ok hn ho _ h1 h2 v hv
    obtain ⟨u,rfl⟩:=Int.eq_ofNat_of_zero_le hv2.1
    refine⟨u,List.mem_filter.2 ⟨List.mem_range.2 (by omega),?_⟩,e⟩
    rw[vbit_64 ⟨m,by omega⟩ ⟨u,by omega⟩]
    exact(mem_verts m (by omega) u).1 hv
 rw[show (((List.range p.length).filter fun v:Nat=>vbit (m:Int) (v:Int)).map fun v:Nat=>rd p (v:Int)).foldl orS 0=orN (((List.range p.length).filter fun v:Nat=>vbit (m:Int) (v:Int)).map fun v:Nat=>rd p (v:Int)) from rfl,this]
def imgsL (l p:List Int):List Int:=l.map fun f=>(imgN p f:Int)
def renL (l p:List Int):List Int:=(imgsL l p).mergeSort fun x y=>decide (x≤y)
theorem upToR_asc (m:Nat):(upTo m).Pairwise (· < ·):=by
 unfold upTo
 rw[List.pairwise_map]
 exact List.pairwise_lt_range.imp (fun h=>by omega)
theorem ascR_ext:∀(a b:List Int),a.Pairwise (· < ·)→b.Pairwise (· < ·)→(∀ z,z ∈ a↔z ∈ b)→a=b
 |[],[],_,_,_=>rfl
 |[],y :: b,_,_,h=>absurd ((h y).2 (by simp)) (by simp)
 |x :: a,[],_,_,h=>absurd ((h x).1 (by simp)) (by simp)
 |x :: a,y :: b,ha,hb,h=>by
  have ha':=List.pairwise_cons.1 ha
  have hb':=List.pairwise_cons.1 hb
  have e:x=y:=by
   have h1:=(h x).1 (by simp)
   have h2:=(h y).2 (by simp)
   rcases List.mem_cons.1 h1 with e|h1
   ·exact e
   ·rcases List.mem_cons.1 h2 with e|h2
    ·exact e.symm
    ·have:=ha'.1 y h2
     have:=hb'.1 x h1
     omega
  subst e
  rw[ascR_ext a b ha'.2 hb'.2 fun z=>?_]
  have hz:=h z
  simp only [List.mem_cons] at hz
  constructor
  ·intro hm
   have:=ha'.1 z hm
   rcases hz.1 (Or.inr hm) with e|h
   ·omega
   ·exact h
  ·intro hm
   have:=hb'.1 z hm
   rcases hz.2 (Or.inr hm) with e|h
   ·omega
   ·exact h
theorem ren_those {n:Int} {l p:List Int} (hi:isC n l=true) (ho:ordB n p=true):thoseL n (fun x=>(imgsL l p).any (fun s=>decide (Go.bits .and .i64 x s=x)))=renL l p:=by
 obtain ⟨hn,hs,hr,h63⟩:=isC_faces hi
 have hF:=full_nat n
 have hF2:=full_range n hn
 refine ascR_ext _ _ ((upToR_asc _).filter _) ?_ (fun z=>?_)
 ·have h1:=List.pairwise_mergeSort (le:=fun x y:Int=>decide (x≤y)) (fun a b c h1 h2=>by simp at *;omega) (fun a b=>by simp;omega) (imgsL l p)
  have h2:((imgsL l p).mergeSort fun x y=>decide (x≤y)).Nodup:=(List.mergeSort_perm _ _).nodup_iff.2 (img_nodup hi ho)
  unfold renL
  rw[List.nodup_iff_pairwise_ne] at h2
  exact(h1.and h2).imp (fun h=>by have:=of_decide_eq_true h.1;have:=h.2;omega)
 ·unfold thoseL renL
  rw[List.mem_filter,List.mem_mergeSort]
  have hm:=img_mem hi ho z
  unfold imgsL
  rw[hm]
  constructor
  ·rintro ⟨h1,h2⟩
   unfold upTo at h1
   obtain ⟨i,hi2,rfl⟩:=List.mem_map.1 h1
   have:=List.mem_range.1 hi2
   exact⟨⟨by omega,by omega⟩,h2⟩
  ·rintro ⟨h1,h2⟩
   refine⟨?_,h2⟩
   unfold upTo
   exact List.mem_map.2 ⟨z.toNat - 1,List.mem_range.2 (by omega),by omega⟩
theorem renamed_loop {n:Int} {l p:List Int} (hi:isC n l=true) (ho:ordB n p=true):∀(e i k:Nat),l.length - i=e→i≤l.length→e+5000<k →
  spec_l01Renamed.l0 k p ((l.take i).map fun f=>(imgN p f:Int)) (i:Int) n l=some (n,renL l p):=by
 obtain ⟨hn,hs,hr,h63⟩:=isC_faces hi
 intro e
 induction e with
 |zero=>
  intro i k he hi2 hk
  obtain ⟨k,rfl⟩:∃ m,k=m+1:=⟨k - 1,by omega⟩
  obtain rfl:i=l.length:=by omega
  simp only [spec_l01Renamed.l0]
  rw[if_neg (by omega),List.take_length]
  have h1:=specMade_l0 n hn (imgsL l p) (by simp [imgsL];omega) (fun x=>(imgsL l p).any (fun s=>decide (Go.bits .and .i64 x s=x))) (fun _ _ _=>rfl) (2 ^ n.toNat - 1) 0 k (by omega) (by omega) (by
   have:2 ^ n.toNat≤2 ^ 6:=Nat.pow_le_pow_right (by omega) (by omega)
   omega)
  have h2:spec_l01Made.f k n (imgsL l p)=some (n,renL l p):=by
   rw[← ren_those hi ho]
   exact h1
  show (spec_l01Made.f k n (imgsL l p)).bind _=_
  rw[h2]
  rfl
 |succ e ih=>
  intro i k he hi2 hk
  obtain ⟨k,rfl⟩:∃ m,k=m+1:=⟨k - 1,by omega⟩
  have hil:i<l.length:=by omega
  have hx:=hr _ (List.getElem_mem hil)
  have HW:Aside0 (wrap64 ((i:Int)+1)=((i+1:Nat):Int)):=⟨by rw[w64 _ (by omega) (by omega)];omega⟩
  simp only [spec_l01Renamed.l0]
  rw[if_pos (by omega),if_pos (by omega),rd_nat l i hil,moved_is hn ho _ hx.1 hx.2.1 k (by omega)]
  simp only [Option.bind_some]
  rw[if_pos (by simp;omega),HW.out]
  have:=ih (i+1) k (by omega) (by omega) (by omega)
  rw[List.take_succ_eq_append_getElem hil,List.map_append] at this
  exact this
def renOf (n:Int) (l p:List Int):Int×List Int×Int:=if codeOf n l (ordB n p)=0 then (n,renL l p,0) else (0,[],codeOf n l (ordB n p))
theorem renOf_len {n:Int} {l p:List Int}:(renOf n l p).2.1.length≤63:=by
 unfold renOf
 split
 ·rename_i h
  have:=(isC_faces (codeOf_zero h).1).2.2.2
  simp [renL,imgsL,List.length_mergeSort]
  exact this
 ·simp
theorem specRenumber_is (n:Int) (l p:List Int) (hl:l.length≤2097152) (hp:p.length≤2097152) (k:Nat) (hk:isK l+p.length+6000≤k):spec_RenumberComplex.f k n l p=some ((renOf n l p).1,(renOf n l p).2.1,(renOf n l p).2.2):=by
 unfold spec_RenumberComplex.f renOf codeOf
 rw[specIs_is n l hl k (by omega)]
 simp only [Option.bind_some]
 cases hC:isC n l with
 |false=>rfl
 |true=>
  obtain ⟨hn,hs,hr,h63⟩:=isC_faces hC
  rw[if_pos rfl,if_pos rfl,specOrder_is hn p hp k (by omega)]
  simp only [Option.bind_some]
  cases ho:ordB n p with
  |false=>rfl
  |true=>
   have h1:=renamed_loop hC ho l.length 0 k (by omega) (by omega) (by omega)
   rw[show ((0:Nat):Int)=0 from rfl,List.take_zero,List.map_nil] at h1
   rw[if_pos rfl,if_pos rfl]
   unfold spec_l01Renamed.f
   rw[h1]
   rfl
end Go.Proofs.YtlhkdbkjafiikaaGreat.K
end

section
namespace Go.Proofs.YtlhkdbkjafiikaaGreat.K
open Go.RowKit Go.Shelf Go.Proofs.YtlhkdbkjafiikaaGreat.Q Go.Proofs.YtlhkdbkjafiikaaGreatW.PrintWords Go.Proofs.YtlhkdbkjafiikaaGreatW.PrintLast Go.Proofs.YtlhkdbkjafiikaaGreatW.PrintMore
set_option linter.unusedVariables false
set_option linter.unusedSimpArgs false
def ofL (l:List Int) (d:Int):List Int:=l.filter fun x=>!(dimI x != d)
theorem of_length (l:List Int) (d:Int):(ofL l d).length≤l.length:=List.length_filter_le _ _
theorem isC_of {n:Int} {l:List Int} (h:isC n l=true):∀ x ∈ l,0≤x∧x≤63:=fun x hx=>by
 have:=(isC_faces h).2.2.1 x hx
 omega
end Go.Proofs.YtlhkdbkjafiikaaGreat.K
end

section
namespace Go.Proofs.YtlhkdbkjafiikaaGreat.K
open Go.RowKit Go.Shelf Go.Proofs.YtlhkdbkjafiikaaGreatW.PrintWords Go.Proofs.YtlhkdbkjafiikaaGreatW.PrintLast Go.Proofs.YtlhkdbkjafiikaaGreatW.PrintMore
set_option linter.unusedVariables false
set_option linter.unusedSimpArgs false
theorem below_setCells {base:Nat} {w:World} {G:Nat} (hb:base≤G):∀(vs:List Value) (i:Nat) (W:World),Below base w W→Below base w (W.setCells G i vs)
 |[],_,_,h=>h
 |v :: r,i,W,h=>below_setCells hb r (i+1) _ (Below.setCell h hb v)
theorem Ri.clear {base:Nat} {ok:Nat→Prop} {G n c:Nat}:∀(m i:Nat) (W:World) (xs:List Int),Ki.R 2 W base ok (.slice (some ⟨G,0,none⟩) n c) xs →
  ∃ ys:List Int,ys.take i=xs.take i∧ys.length=xs.length∧Ki.R 2 (W.setCells G i (List.replicate m (I 0))) base ok (.slice (some ⟨G,0,none⟩) n c) ys
 |0,i,W,xs,h=>⟨xs,rfl,rfl,h⟩
 |m+1,i,W,xs,h=>by
  have h1:=Kd.R_putn h (i:Int) 0
  rw[Int.toNat_natCast] at h1
  obtain ⟨ys,e1,e2,e3⟩:=Ri.clear m (i+1) _ _ h1
  refine⟨ys,?_,by rw[e2,List.length_set],e3⟩
  have:=congrArg (List.take i) e1
  rw[List.take_take,List.take_take,List.take_set,List.set_eq_of_length_le (by simp;omega)] at this
  simpa [Nat.min_eq_left (Nat.le_succ i)] using this
theorem del_keep (q:Int→Bool) (l xs:List Int) (i j:Nat) (hij:i<j) (hj:j<l.length) (hx:xs.length=l.length) (h1:xs.take i=(l.take j).filter q) (h2:xs.drop j=l.drop j) (hp:q l[j]=true) :
  (xs.set i l[j]).take (i+1)=(l.take (j+1)).filter q∧(xs.set i l[j]).drop (j+1)=l.drop (j+1):=by
 constructor
 ·rw[List.take_succ_eq_append_getElem hj,List.filter_append,← h1,List.take_set,List.take_succ_eq_append_getElem (show i<xs.length by omega),List.set_append_right _ _ (by simp;omega)]
  simp [hp]
  have:i - min i xs.length=0:=by omega
  rw[this]
  rfl
 ·rw[List.drop_set_of_lt (by omega)]
  have:=congrArg (List.drop 1) h2
  simpa using this
theorem del_skip (q:Int→Bool) (l xs:List Int) (i j:Nat) (hj:j<l.length) (h1:xs.take i=(l.take j).filter q) (h2:xs.drop j=l.drop j) (hp:q l[j]=false) :
  xs.take i=(l.take (j+1)).filter q∧xs.drop (j+1)=l.drop (j+1):=by
 constructor
 ·rw[List.take_succ_eq_append_getElem hj,List.filter_append,← h1]
  simp [hp]
 ·have:=congrArg (List.drop 1) h2
  simpa using this
theorem del_get (l xs:List Int) (j:Nat) (hj:j<l.length) (hx:xs.length=l.length) (h2:xs.drop j=l.drop j):xs[j]'(by omega)=l[j]:=by
 rw[List.drop_eq_getElem_cons hj,List.drop_eq_getElem_cons (show j<xs.length by omega)] at h2
 injection h2
theorem idx_some {p:Int→Bool} {l:List Int} (h:idx p l ≠ -1):∃ i:Nat,idx p l=i∧∃ hi:i<l.length,p l[i]=true∧∀ j (hj:j<i),p (l[j]'(by omega))=false:=by
 unfold idx at h ⊢
 cases hf:l.findIdx? p with
 |none=>rw[hf] at h;exact absurd rfl h
 |some i=>
  rw[List.findIdx?_eq_some_iff_getElem] at hf
  obtain ⟨hi,hp,hn⟩:=hf
  exact⟨i,rfl,hi,hp,fun j hj=>by have:=hn j hj;simpa using this⟩
theorem idx_none {p:Int→Bool} {l:List Int} (h:idx p l = -1):l.filter (fun x=>!p x)=l:=by
 unfold idx at h
 cases hf:l.findIdx? p with
 |some i=>rw[hf] at h;have:((i:Int)) = -1:=h;omega
 |none=>
  rw[List.findIdx?_eq_none_iff] at hf
  rw[List.filter_eq_self]
  intro x hx
  simp [hf x hx]
theorem del_start {p:Int→Bool} {l:List Int} {i:Nat} (hi:i<l.length) (hp:p l[i]=true) (hn:∀ j (hj:j<i),p (l[j]'(by omega))=false):l.take i=(l.take (i+1)).filter (fun x=>!p x):=by
 rw[List.take_succ_eq_append_getElem hi,List.filter_append]
 have:(l.take i).filter (fun x=>!p x)=l.take i:=by
  rw[List.filter_eq_self]
  intro x hx
  obtain ⟨j,hj,rfl⟩:=List.mem_iff_getElem.1 hx
  rw[List.length_take] at hj
  rw[List.getElem_take,hn j (by omega)]
  rfl
 rw[this]
 simp [hp]
set_option maxRecDepth 100000 in
set_option maxHeartbeats 4000000 in
theorem DeleteFunc_calls (p:Int→Bool) (base:Nat) (v:Value) (l:List Int) (g:Nat) (first caps:Array Value) (w:World) (hbase:base≤w.heap.size) (hR:Ki.R 2 w base (fun _=>True) v l) (hbig:l.length≤1000000000) (eg:EntersG g)
  (hp:∀ x,x ∈ l→∀ W,Below base w W→Calls Tryz.prog g (first.push (I x) ++ caps) W fun e w'=>e = .returned (.bool (p x))∧Grew W w') :
  Calls Tryz.prog 138 #[v,.func (.func g) first caps] w fun e w'=>∃ v',e = .returned v'∧Ki.R 2 w' base (fun _=>True) v' (l.filter fun x=>!p x)∧Below base w w':=by
 obtain ⟨A,c,hv,hc,hC⟩:=Kd.R_reads hR
 subst hv
 have H:=Aside0.mk (IndexFunc_int p A c l g first caps w hC hc (by omega) eg (fun x hx W hW=>hp x hx W (hW.mono hbase)))
 have HR:=Aside0.mk hR
 have HP:=Aside0.mk hp
 have HC:=Aside0.mk hc
 clear hR hp hC hc
 by_cases hi:idx p l = -1
 ·have HV:=Aside0.mk (idx_none hi)
  rw[hi] at H
  rw[HV.out]
  go_enter Tryz.func138,Tryz.ntmps138
  go_wp2_with fail
  refine H.out.mono ?_
  rintro e w1 ⟨rfl,hG1⟩
  go_wp2_with fail
  go_ret
  exact⟨_,rfl,Kd.R_below HR.out hG1,hG1.mono hbase⟩
 ·obtain ⟨i0,he,hi0,hp0,hn0⟩:=idx_some hi
  rw[he] at H hi
  have HS:=Aside0.mk (del_start hi0 hp0 hn0)
  clear hn0 hp0 he
  go_enter Tryz.func138,Tryz.ntmps138
  go_wp2_with fail
  refine H.out.mono ?_
  rintro e w1 ⟨rfl,hG1⟩
  have HR1:=Aside0.mk (Kd.R_below HR.out hG1)
  have HG1:Aside0 (Below base w w1):=⟨hG1.mono hbase⟩
  clear hG1 H HR
  obtain ⟨G,cc,eo,gb,gl,_⟩:=Kd.R_form HR1.out (by omega)
  injection eo with ea en ec
  subst ea ec
  clear en
  go_wp2_with fail
  go_loopg [5,6] l.length (fun gg s5 s6 wr=>∃(i j:Nat) (xs:List Int),s5 = .int .i64 i∧s6 = .int .i64 j∧i<j∧j≤l.length∧l.length - j≤gg∧xs.length=l.length ∧
   Aside0 (xs.take i=(l.take j).filter (fun x=>!p x))∧Aside0 (xs.drop j=l.drop j)∧Aside0 (Ki.R 2 wr base (fun _=>True) (.slice (some ⟨G,0,none⟩) l.length c) xs)∧Aside0 (Below base w wr))
  case atStart=>exact⟨i0,i0+1,l,rfl,by go_num,by omega,by omega,by omega,rfl,HS,⟨rfl⟩,HR1,HG1⟩
  case round=>
   obtain ⟨i,j,xs,rfl,rfl,hij,hj,hg,hxl,HT,HD,HRr,HGr⟩:=hrel
   by_cases hlt:j<l.length
   ·have hltz:(j:Int)<(l.length:Int):=by omega
    obtain ⟨hx,_⟩:=Kd.R_celln 0 HRr.out (j:Int) (by omega) (by omega)
    obtain ⟨hy,hf⟩:=Kd.R_celln 0 HRr.out (i:Int) (by omega) (by omega)
    have hrd:rdOf 0 xs (j:Int)=l[j]:=by rw[← del_get l xs j hlt hxl HD.out];simp [rdOf,show j<xs.length by omega]
    rw[hrd,Int.toNat_natCast] at hx
    rw[Int.toNat_natCast] at hy hf
    have hcall:=HP.out l[j] (List.getElem_mem hlt) wr HGr.out
    have HK:=Aside0.mk (fun h=>del_keep (fun x=>!p x) l xs i j hij hlt hxl HT.out HD.out h)
    have HS2:=Aside0.mk (fun h=>del_skip (fun x=>!p x) l xs i j hlt HT.out HD.out h)
    clear hrd
    generalize l[j]=y at hx hcall HK HS2
    cases hq:p y with
    |false=>
     rw[hq] at hcall
     have HK2:=Aside0.mk (HK.out (by simp [hq]))
     clear HK HS2
     go_wp2_with fail
     refine hcall.mono ?_
     rintro e w2 ⟨rfl,hG2⟩
     have HR2:=Aside0.mk (Kd.R_below HRr.out hG2)
     have HG2:=Aside0.mk (Below.trans HGr.out (hG2.mono (Nat.le_trans hbase HGr.out.size)))
     obtain ⟨hy,hf⟩:=Kd.R_celln 0 HR2.out (i:Int) (by omega) (by omega)
     rw[Int.toNat_natCast] at hy hf
     have HW:=Aside0.mk (Kd.R_putn HR2.out (i:Int) y)
     clear hcall hx hG2
     go_wp2_with fail
     go_roundg (l.length - (j+1))
     case measure=>omega
     case rel=>exact⟨i+1,j+1,xs.set i y,by go_num,by go_num,by omega,by omega,by omega,by rw[List.length_set];exact hxl,⟨HK2.out.1⟩,⟨HK2.out.2⟩,HW,⟨Below.setCell HG2.out gb _⟩⟩
    |true=>
     rw[hq] at hcall
     have HK2:=Aside0.mk (HS2.out (by simp [hq]))
     clear HK HS2
     go_wp2_with fail
     refine hcall.mono ?_
     rintro e w2 ⟨rfl,hG2⟩
     have HR2:=Aside0.mk (Kd.R_below HRr.out hG2)
     have HG2:=Aside0.mk (Below.trans HGr.out (hG2.mono (Nat.le_trans hbase HGr.out.size)))
     clear hcall hx hy hf hG2
     go_wp2_with fail
     go_roundg (l.length - (j+1))
     case measure=>omega
     case rel=>exact⟨i,j+1,xs,rfl,by go_num,by omega,by omega,by omega,hxl,⟨HK2.out.1⟩,⟨HK2.out.2⟩,HR2,HG2⟩
   ·obtain rfl:j=l.length:=by omega
    have hltz:¬ (l.length:Int)<(l.length:Int):=by omega
    have HT2:Aside0 (xs.take i=l.filter (fun x=>!p x)):=⟨by have:=HT.out;rwa [List.take_length] at this⟩
    clear HT HD
    have hcl:∀ ty,(Builtin.clear_ #[24] ty #[.slice (some ⟨G,i,none⟩) (l.length - i) (c - i)]).run Tryz.prog wr = .ok (.tuple #[]) (wr.setCells G i (List.replicate (l.length - i) (I 0))):=
     fun ty=>Lib.run_clear_slice wr _ _ ty _ Tryz.underlying24 (fun w=>by kernel_rfl) rfl rfl G i _ _ (by omega) (fun t ht=>by
      obtain ⟨h1,h2⟩:=Kd.R_celln 0 HRr.out ((i+t:Nat):Int) (by omega) (by omega)
      rw[Int.toNat_natCast] at h1
      rw[h1];rfl) (fun t ht=>by
      obtain ⟨h1,h2⟩:=Kd.R_celln 0 HRr.out ((i+t:Nat):Int) (by omega) (by omega)
      rw[Int.toNat_natCast] at h2
      exact h2)
    have hic:i<c:=by have:=HC.out;omega
    go_wp2_with fail
    go_ret
    obtain ⟨ys,h1,h2,h3⟩:=Ri.clear (l.length - i) i wr xs HRr.out
    refine⟨_,rfl,?_,below_setCells gb _ _ _ HGr.out⟩
    have h4:=Kd.R_take h3 (m:=i) (by omega)
    rw[h1,HT2.out] at h4
    exact h4
end Go.Proofs.YtlhkdbkjafiikaaGreat.K
end

section
namespace Go.Proofs.YtlhkdbkjafiikaaGreat.K
open Go.RowKit Go.Shelf Go.Proofs.YtlhkdbkjafiikaaGreatW.PrintWords Go.Proofs.YtlhkdbkjafiikaaGreatW.PrintLast Go.Proofs.YtlhkdbkjafiikaaGreatW.PrintMore
set_option linter.unusedVariables false
set_option linter.unusedSimpArgs false
section
variable {ops : Array Oper} {rest : List Oper} {o : Oper} {a : Act} {Q : Exit → Act → World → Prop}
theorem append_ints {W:World} (base:Nat) (hgd:o.guard=none) (s x:Operand)
  (ho:o.op = .call { callee:= .builtin .append,args:=#[s,x],argTypes:=#[24,24] })
  (v:Value) (xs ys:List Int) (A:Option Addr) (c:Nat) (hs:a.eval s=v) (hx:a.eval x = .slice A ys.length c)
  (HO:Ki.R 2 W base (fun _=>True) v xs) (HR:Ki.C W A ys.length ys) (hbase:base≤W.heap.size) (hl:xs.length+ys.length≤1000000000000)
  (h:∀ A' c' w1,Ki.R 2 w1 base (fun _=>True) (.slice A' (xs.length+ys.length) c') (xs ++ ys)→Below base W w1→W.grownBy w1 v.ownBlock→wpList Tryz.prog ops Q rest (a.put o.dst (.slice A' (xs.length+ys.length) c')) w1) :
  wpList Tryz.prog ops Q (o :: rest) a W:=by
 refine Kd.R_append_rows Ki (w0:=W) base hgd s x 24 2 (.int .i64 0) 8 ho Tryz.underlying24 infoI rfl (by decide) (by omega) v xs ys A ys.length c (fun _=>True) (fun _=>False) hs hx HO HR (fun _ _ h=>h) (fun _ h=>h.elim) (fun _ _=>trivial) (Below.refl _ _) hbase (by omega) ?_
 intro v1 w1 hR hB hg _
 obtain ⟨A',c',e⟩:=Kd.R_slice hR
 rw[List.length_append] at e
 subst e
 exact h A' c' w1 hR hB hg
end
theorem Ri.empty (w:World) (base:Nat) (hb:base≤w.heap.size):Ki.R 2 (w.alloc (.cells #[] 2)) base (fun _=>True) (.slice (some ⟨w.heap.size,0,none⟩) 0 0) []:=by
 have:=own_lit w base 2 .i64 [] hb (by simp)
 exact⟨fun _ _=>trivial,[],this,Reps.none _ _⟩
end Go.Proofs.YtlhkdbkjafiikaaGreat.K
end

section
namespace Go.Proofs.YtlhkdbkjafiikaaGreat.K
open Go.RowKit Go.Shelf Go.Proofs.YtlhkdbkjafiikaaGreatW.PrintWords Go.Proofs.YtlhkdbkjafiikaaGreatW.PrintLast Go.Proofs.YtlhkdbkjafiikaaGreatW.PrintMore
set_option linter.unusedVariables false
set_option linter.unusedSimpArgs false
set_option maxHeartbeats 2000000 in
theorem Clone_calls (A:Option Addr) (c:Nat) (l:List Int) (w:World) (hr:Ki.C w A l.length l) (hc:l.length≤c) (hl:l.length≤1000000000) :
  Calls Tryz.prog 139 #[.slice A l.length c] w fun e w'=>∃ v,e = .returned v∧Ki.R 2 w' w.heap.size (fun _=>True) v l∧Grew w w':=by
 have hq:∀(w:World) (a:Option Addr) (n c n' c':Nat),(binOp .eql 24 (.slice a n c) (.slice none n' c')).run Tryz.prog w = .ok (.bool a.isNone) w:=fun w a n c n' c'=>Lib.run_eql_slice_nil w _ _ a n c n' c' Tryz.underlying24
 cases A with
 |none=>
  have h0:l.length=0:=by
   rcases Nat.eq_zero_or_pos l.length with h|h
   ·exact h
   ·obtain ⟨a,ha,_⟩:=hr.2.2 h
    cases ha
  have HL:Aside0 (l = []):=⟨List.length_eq_zero_iff.1 h0⟩
  clear hr
  go_enter Tryz.func139,Tryz.ntmps139
  go_wp2_with fail
  go_ret
  exact⟨_,rfl,by rw[HL.out];exact Kd.R_nil _ _ _ _ _,Grew.refl w⟩
 |some ad=>
  have HR:=Aside0.mk hr
  have HG:Aside0 (Grew w (w.alloc (.cells #[] 2))):=⟨below_alloc (Grew.refl w) _⟩
  clear hr
  go_enter Tryz.func139,Tryz.ntmps139
  go_wp2_with (at_builtin;refine append_ints w.heap.size rfl (.tmp 5) (.tmp 6) rfl _ [] l (some ad) c rfl rfl (Ri.empty w _ (Nat.le_refl _)) (Kd.C_below HR.out HG.out) HG.out.size (by simp;omega) ?_;intro A3 c3 w3 hR3 hB3 hg3;have HR3:=Aside0.mk hR3;have HG3:Aside0 (Below w.heap.size w w3):=⟨Below.trans HG.out hB3⟩;clear hR3 hB3 hg3)
  go_ret
  refine⟨_,rfl,?_,HG3.out⟩
  have:=HR3.out
  rw[List.length_nil,Nat.zero_add,List.nil_append] at this
  exact this
end Go.Proofs.YtlhkdbkjafiikaaGreat.K
end

section
namespace Go.Proofs.YtlhkdbkjafiikaaGreat.K
open Go.RowKit Go.Shelf Go.Proofs.YtlhkdbkjafiikaaGreatW.PrintWords Go.Proofs.YtlhkdbkjafiikaaGreatW.PrintLast Go.Proofs.YtlhkdbkjafiikaaGreatW.PrintMore
set_option linter.unusedVariables false
set_option linter.unusedSimpArgs false
set_option maxHeartbeats 1000000 in
theorem part1_calls (pb:Bool) (x n:Int) (B1 B2:Nat) (A:Option Addr) (c:Nat) (l:List Int) (g:Nat) (first caps:Array Value) (w:World) (h1:CB w B1 n (.slice A l.length c))
  (h2:w.cell? ⟨B2,0,none⟩=some (.func (.func g) first caps)) (hk:Kx w A c l) (eg:EntersG g) (ha:hasB l x=true→Answers w g (first.push (I x) ++ caps) (.bool pb)) :
  Calls Tryz.prog 122 #[I x,.pointer (some ⟨B1,0,none⟩),.pointer (some ⟨B2,0,none⟩)] w fun e w'=>e = .returned (.bool (hasB l x && pb))∧Grew w w':=by
 have hlt:=World.block_lt_of_cell? w _ h2
 have k0:=h1.c0
 have k1:=h1.c1
 have H:=Aside0.mk (hk.has n x)
 have HA:=Aside0.mk ha
 clear hk ha h1
 obtain ⟨i,hi⟩:∃ i,i=hasB l x:=⟨_,rfl⟩
 rw[← hi]
 rw[← hi] at H HA
 clear hi
 cases i with
 |false=>
  go_enter Tryz.func122,Tryz.ntmps122
  go_wp2_with fail
  refine H.out.mono ?_
  rintro e w1 ⟨rfl,hG1⟩
  go_wp2_with fail
  go_ret
  exact⟨rfl,hG1⟩
 |true=>
  have HA2:=Aside0.mk (HA.out rfl)
  clear HA
  go_enter Tryz.func122,Tryz.ntmps122
  go_wp2_with fail
  refine H.out.mono ?_
  rintro e w1 ⟨rfl,hG1⟩
  have hcall:=HA2.out w1 hG1
  have h21:=(Below.cell hG1 (p:=⟨B2,0,none⟩) hlt).trans h2
  go_wp2_with fail
  refine hcall.mono ?_
  rintro e w2 ⟨rfl,hG2⟩
  clear hcall
  go_wp2_with fail
  go_ret
  exact⟨by cases pb <;> rfl,Grew.trans hG1 hG2⟩
set_option maxHeartbeats 2000000 in
theorem part_calls (p:Int→Bool) (n:Int) (hn:0≤n∧n≤6) (A:Option Addr) (c:Nat) (l:List Int) (g:Nat) (first caps:Array Value) (w:World) (hk:Kx w A c l) (eg:EntersG g)
  (hp:∀ x,1≤x→x≤fullOf n→hasB l x=true→Answers w g (first.push (I x) ++ caps) (.bool (p x))) :
  Calls Tryz.prog 55 #[.agg #[I n,.slice A l.length c],.func (.func g) first caps] w fun e w'=>
   ∃ v,e = .returned (.agg #[I n,v])∧Ki.R 2 w' w.heap.size (fun _=>True) v (thoseL n fun x=>hasB l x && p x)∧Grew w w':=by
 obtain ⟨W3,hW3⟩:∃ W3,W3=((w.alloc (.cells #[I n,.slice A l.length c] 26)).alloc (.cells #[.func (.func g) first caps] 55)).alloc (.cells #[I 0,.slice none 0 0] 26):=⟨_,rfl⟩
 have hB:CB W3 w.heap.size n (.slice A l.length c):=by rw[hW3];exact blk_alloc (blk_alloc (blk_new w _) _) _
 have hF:W3.heap[w.heap.size+1]?=some (.cells #[.func (.func g) first caps] 55 (0,0)):=by
  rw[hW3]
  refine blk_alloc ?_ _
  have:=blk_new (w.alloc (.cells #[I n,.slice A l.length c] 26)) (.cells #[.func (.func g) first caps] 55)
  rwa [World.size_alloc] at this
 have hO:CB W3 (w.heap.size+2) 0 (.slice none 0 0):=by
  rw[hW3]
  have:=blk_new ((w.alloc (.cells #[I n,.slice A l.length c] 26)).alloc (.cells #[.func (.func g) first caps] 55)) (.cells #[I 0,.slice none 0 0] 26)
  rwa [World.size_alloc,World.size_alloc] at this
 have hg:Grew w W3:=by rw[hW3];exact below_alloc (below_alloc (below_alloc (Grew.refl w) _) _) _
 have H:=Aside0.mk (those_calls (fun x=>hasB l x && p x) n hn 122 #[] #[.pointer (some ⟨w.heap.size,0,none⟩),.pointer (some ⟨w.heap.size+1,0,none⟩)] W3 (enters_of Tryz.func122 (by kernel_rfl) rfl)
  (fun x h1 h2 W hW=>part1_calls (p x) x n w.heap.size (w.heap.size+1) A c l g first caps W (blk_below hB hW) (blk_cell (blk_below hF hW) 0) (hk.later (Grew.trans hg hW)) eg (fun hh=>(hp x h1 h2 hh).later (Grew.trans hg hW))))
 have k0:=hB.c0
 have HO:=Aside0.mk hO
 have HG:=Aside0.mk hg
 clear hk hp hB hF hO hg
 subst hW3
 go_enter Tryz.func55,Tryz.ntmps55
 go_wp2_with fail
 refine H.out.mono ?_
 rintro e w2 ⟨v,rfl,hR,hG⟩
 have hB2:CB w2 (w.heap.size+2) 0 (.slice none 0 0):=blk_below HO.out hG
 have HB2:=Aside0.mk hB2
 have HR2:=Aside0.mk hR
 have HG2:=Aside0.mk (Grew.trans HG.out hG)
 have hsz:=HG.out.size
 have k0:=hB2.c0
 have k1:=hB2.c1
 have f0:=blk_frozen hB2 0
 have f1:=blk_frozen hB2 1
 obtain ⟨A2,c2,e2⟩:=Kd.R_slice hR
 subst e2
 clear hB2 hR hG
 go_wp2_with fail
 refine bodyPost_ret (results_cell_row rfl _ _ (w.heap.size+2) 26 #[I n,_] (0,0) _ rfl HB2.out.set Tryz.underlying26 rfl (by kernel_rfl)) rfl ?_
 refine⟨_,rfl,?_,below_set (below_set HG2.out (by omega)) (by omega)⟩
 exact Kd.R_lower (Ri.setCB2 HR2.out HB2.out) hsz
def partOf (n:Int) (l:List Int) (b:Bool) (p:Int→Bool):Int×List Int×Int:=
 if codeOf n l b=0 then (n,thoseL n (fun x=>hasB l x && p x),0) else (0,[],codeOf n l b)
end Go.Proofs.YtlhkdbkjafiikaaGreat.K
end

section
namespace Go.Proofs.YtlhkdbkjafiikaaGreat.K
open Go.RowKit Go.Shelf Go.Proofs.YtlhkdbkjafiikaaGreat.Q Go.Proofs.YtlhkdbkjafiikaaGreatW.PrintWords Go.Proofs.YtlhkdbkjafiikaaGreatW.PrintLast Go.Proofs.YtlhkdbkjafiikaaGreatW.PrintMore
set_option linter.unusedVariables false
set_option linter.unusedSimpArgs false
set_option maxHeartbeats 1000000 in
theorem of1_calls (f d:Int) (h0:0≤f) (h1:f≤63) (B:Nat) (w:World) (hb:w.cell? ⟨B,0,none⟩=some (I d)) :
  Calls Tryz.prog 140 #[I f,.pointer (some ⟨B,0,none⟩)] w fun e w'=>e = .returned (.bool (dimI f != d))∧Grew w w':=by
 have hlt:B<w.heap.size:=World.block_lt_of_cell? w _ hb
 have H:=Aside0.mk (fun w=>dimension_calls f h0 h1 w)
 clear h0 h1
 generalize dimI f=q at H ⊢
 go_enter Tryz.func140,Tryz.ntmps140
 go_wp2_with fail
 go_region_held3 (fun w'=>w'.cell? ⟨B,0,none⟩=some (I d))
  (first|exact(HG.out.cell (p:=⟨B,0,none⟩) hlt).trans hb|go_keep)
  ((go_at_call 99;refine(H.out _).mono ?_;rintro e w1 ⟨rfl,hG⟩;have HG:Aside0 (Grew w w1):=⟨Below.trans ((Below.refl _ w).drew) hG⟩;clear hG))
 all_goals (go_wp2_with fail;go_ret;exact⟨by first|rfl|(simp [bne];done),HG.out⟩)
set_option maxHeartbeats 2000000 in
theorem of_calls (n:Int) (A:Option Addr) (c:Nat) (l:List Int) (d:Int) (w:World) (hk:Kx w A c l) (hl:l.length≤1000000000) (hf:∀ x ∈ l,0≤x∧x≤63) :
  Calls Tryz.prog 111 #[.agg #[I n,.slice A l.length c],I d] w fun e w'=>∃ v,e = .returned v∧Ki.R 2 w' w.heap.size (fun _=>True) v (ofL l d)∧Grew w w':=by
 obtain ⟨W3,hW3⟩:∃ W3,W3=(w.alloc (.cells #[I n,.slice A l.length c] 26)).alloc (.cells #[I d] 2):=⟨_,rfl⟩
 have hB:CB W3 w.heap.size n (.slice A l.length c):=by rw[hW3];exact blk_alloc (blk_new w _) _
 have hF:W3.heap[w.heap.size+1]?=some (.cells #[I d] 2 (0,0)):=by
  rw[hW3]
  have:=blk_new (w.alloc (.cells #[I n,.slice A l.length c] 26)) (.cells #[I d] 2)
  rwa [World.size_alloc] at this
 have hg:Grew w W3:=by rw[hW3];exact below_alloc (below_alloc (Grew.refl w) _) _
 have hsz:W3.heap.size=w.heap.size+2:=by rw[hW3,World.size_alloc,World.size_alloc]
 have H:=Aside0.mk (Clone_calls A c l _ (hk.later hg).r hk.c hl)
 have k1:=hB.c1
 have HK:=Aside0.mk hk
 have HG:=Aside0.mk hg
 have HF:=Aside0.mk hF
 have HFA:=Aside0.mk hf
 have HSZ:=Aside0.mk hsz
 clear hk hg hB hF hf hsz
 subst hW3
 go_enter Tryz.func111,Tryz.ntmps111
 go_wp2_with fail
 refine H.out.mono ?_
 rintro e w1 ⟨v,rfl,hR,hG1⟩
 have HR1:=Aside0.mk hR
 have HG1:=Aside0.mk hG1
 clear hR hG1 k1
 have hs:=HG.out.size
 have hs2:w.heap.size+2≤w1.heap.size:=by have:=HG1.out.size;rwa [HSZ.out] at this
 have HF1:=Aside0.mk (blk_below HF.out HG1.out)
 have H2:=Aside0.mk (DeleteFunc_calls (fun x=>dimI x != d) (w.heap.size+2) v l 140 #[] #[.pointer (some ⟨w.heap.size+1,0,none⟩)] w1 hs2 (by have:=HR1.out;rwa [HSZ.out] at this) hl (enters_of Tryz.func140 (by kernel_rfl) rfl)
  (fun x hx W hW=>of1_calls x d (HFA.out x hx).1 (HFA.out x hx).2 (w.heap.size+1) W (blk_cell (show W.heap[w.heap.size+1]?=some (.cells #[I d] 2 (0,0)) by rw[hW.block _ (Nat.lt_succ_self _)];exact HF1.out) 0)))
 go_wp2_with fail
 refine H2.out.mono ?_
 rintro e w2 ⟨v2,rfl,hR2,hG2⟩
 go_wp2_with fail
 go_ret
 exact⟨_,rfl,Kd.R_lower hR2 (by omega),Below.trans (Grew.trans HG.out HG1.out) (hG2.mono (by omega))⟩
end Go.Proofs.YtlhkdbkjafiikaaGreat.K
end

section
namespace Go.Proofs.YtlhkdbkjafiikaaGreat.Q
open Go.RowKit Go.Proofs.YtlhkdbkjafiikaaGreatW.PrintWords Go.Proofs.YtlhkdbkjafiikaaGreatW.PrintLast Go.Proofs.YtlhkdbkjafiikaaGreatW.PrintMore
attribute [local go_sem] max2_int min2_int max_two min_two max_three min_three max_four min_four
set_option linter.unusedVariables false
set_option linter.unusedSimpArgs false
def impl_Complex_dimension.l0:Nat→Int→List Int→Int→Int→Option (Int)
 |0,_,_,_,_=>none
 |k+1,x3,x7,x8,x9=>if x9<x8 then (if 0≤x9 then (if x9<(x7.length:Int) then ((impl_dimension.f (rd x7 x9)).bind fun t569=>(impl_Complex_dimension.l0 k (mx x3 t569) x7 x8 (wrap64 (x9+1)))) else (none)) else (none)) else (some x3)
def impl_Complex_dimension.f (k:Nat) (a0_0:Int) (l0_1:List Int):Option (Int):=impl_Complex_dimension.l0 k (-1) l0_1 (l0_1.length:Int) 0
theorem impl_Complex_dimension.mono_l:∀ k,(∀ y0 y1 y2 y3,LeO (impl_Complex_dimension.l0 k y0 y1 y2 y3) (impl_Complex_dimension.l0 (k+1) y0 y1 y2 y3))
 |0=>fun _ _ _ _ r h=>by simp [impl_Complex_dimension.l0] at h
 |k+1=>by
  have ih0:=impl_Complex_dimension.mono_l k
  ·intro y0 y1 y2 y3;unfold impl_Complex_dimension.l0;repeat' first
   |(with_reducible first|exact ih0 _ _ _ _|exact LeO.refl _|exact LeO.none _|refine LeO.ite ?_ ?_|refine LeO.bind ?_ (fun _=>?_))
theorem impl_Complex_dimension.mono:∀ a0 a1 k,LeO (impl_Complex_dimension.f k a0 a1) (impl_Complex_dimension.f (k+1) a0 a1):=by
 intro a0 a1 k;have ih0:=impl_Complex_dimension.mono_l k;unfold impl_Complex_dimension.f;repeat' first
   |(with_reducible first|exact ih0 _ _ _ _|exact LeO.refl _|exact LeO.none _|refine LeO.ite ?_ ?_|refine LeO.bind ?_ (fun _=>?_))
set_option maxHeartbeats 8000000 in
set_option maxRecDepth 100000 in
theorem impl_Complex_dimension.calls (k:Nat) (a0_0:Int) (A0_1:Option Addr) (c0_1:Nat) (l0_1:List Int) (r:Int) (w:World) (hr0_1:Kd.C (Kd.int .i64) w A0_1 l0_1.length l0_1) (hc0_1:l0_1.length≤c0_1) (h:impl_Complex_dimension.f k a0_0 l0_1=some r) :
  Calls Tryz.prog 136 #[.agg #[.int .i64 a0_0,.slice A0_1 l0_1.length c0_1]] w fun e w'=>e = .returned (.int .i64 r)∧Below w.heap.size w w':=by
 have hu26:=Tryz.underlying26;have HR0_1:=Aside0.mk hr0_1;have HC0_1:=Aside0.mk hc0_1;clear hr0_1 hc0_1;have HB:=Aside0.mk (Below.refl w.heap.size w);have H:(impl_Complex_dimension.l0 k (-1) l0_1 (l0_1.length:Int) 0)=some r:=h;clear h;have H':=Aside0.mk H;clear H;go_enter Tryz.func136,Tryz.ntmps136;go_wp2_with (first|((with_reducible refine gate_dst (N:=1) rfl ?_);refine bx 1 #[.int .i64 a0_0,.slice A0_1 l0_1.length c0_1] 26 ?_;intro gb567 hg w2 hbox hb;have BK567:=Aside0.mk (hbox);have GE567:=gzA hg HB;replace HB:=bsA HB hb;clear hb hbox hg;have hcz3_0:=z0_ BK567;have hcz3_1:=z1_ BK567;have hfz3_0:=hf_ BK567 0;have hfz3_1:=hf_ BK567 1))
 go_loopg [3,9] k (fun kq v3 v9 w'=>∃(x3_1:Int) (x9_1:Int),v3 = .int .i64 x3_1∧v9 = .int .i64 x9_1∧Aside0 (impl_Complex_dimension.l0 kq x3_1 l0_1 (l0_1.length:Int) x9_1=some r)∧Aside0 (kq≤k)∧Aside0 (w'.heap[gb567]?=some (.cells #[.int .i64 a0_0,(.slice A0_1 l0_1.length c0_1)] 26 (0,0)))∧Aside0 (Below w.heap.size w w'))
 case atStart=>exact⟨((-1)),(0),rs,rs,H',⟨Nat.le_refl _⟩,⟨bk BK567.out⟩,⟨bl HB.out⟩⟩
 case round=>
  clear H';try clear c1
  try clear p2
  try clear hcz3_0
  try clear hcz3_1
  try clear hfz3_0
  try clear hfz3_1
  obtain ⟨x3_1,x9_1,rfl,rfl,HA,HK1,BK567,HB⟩:=hrel;cases gk with
  |zero=>exact absurd HA.out (by simp [impl_Complex_dimension.l0])
  |succ k1=>
   have H:=HA.out;clear HA;simp only [impl_Complex_dimension.l0] at H;by_cases c4:x9_1<(l0_1.length:Int)
   ·rw[if_pos c4] at H;have c4b0:decide (x9_1<(l0_1.length:Int))=true:=decide_eq_true c4;clear c4;by_cases c5:0≤x9_1
    ·rw[if_pos c5] at H;have c5b0:decide (0≤x9_1)=true:=decide_eq_true c5;clear c5;by_cases c6:x9_1<(l0_1.length:Int)
     ·rw[if_pos c6] at H;have c6b0:decide (x9_1<(l0_1.length:Int))=true:=decide_eq_true c6;clear c6;replace H:=Option.bind_eq_some_iff.mp H;obtain ⟨t569,A70,H⟩:=H;replace H:(impl_Complex_dimension.l0 k1 (mx x3_1 t569) l0_1 (l0_1.length:Int) (wrap64 (x9_1+1)))=some r:=H;have A7:=Aside0.mk A70;clear A70;obtain ⟨ji8,hji8⟩:∃ j_:Int,(mx x3_1 t569)=j_:=⟨_,rfl⟩
      replace H:(impl_Complex_dimension.l0 k1 ji8 l0_1 (l0_1.length:Int) (wrap64 (x9_1+1)))=some r:=by first|(rw[hji8] at H;exact H)|(simp only [hji8] at H ⊢;exact H)
      (try rw[hji8] at A7)
      have hji8_:(if x3_1<t569 then t569 else x3_1)=ji8:=hji8;have H':=Aside0.mk H;clear H;have p568:0≤(x9_1:Int):=dd;have q568:x9_1<(l0_1.length:Int):=dd;obtain ⟨ad568,e568,hx568_0⟩:=Kd.at_int HR0_1.out x9_1 p568 q568;cases e568;replace hx568_0:=hx_ HB hx568_0;replace p568:=eq_true p568;replace q568:=eq_true q568;go_wp2_with (first|((with_reducible refine gate_callee (f:=99) rfl ?_);refine gl (some 15) Tryz.func99 #[.int .i64 (rd l0_1 x9_1)] ?_;(with_reducible refine(impl_dimension.calls (rd l0_1 x9_1) t569 _ A7.out).mono ?_);rintro e w' ⟨rfl,⟨nd,rfl⟩⟩;refine⟨_,rfl,?_⟩))
      go_roundg k1
      case measure=>have:=HK1.out;omega
      case rel=>exact⟨(ji8),(wrap64 (x9_1+1)),(by first|rfl|(simp;done)|(simp only [← hji8] <;> (first|rfl|simp))|(simp [*];done)),rs,H',⟨by have:=HK1.out;omega⟩,⟨bk BK567.out⟩,⟨bl HB.out⟩⟩
     ·rw[if_neg c6] at H;exact absurd H (by simp)
    ·rw[if_neg c5] at H;exact absurd H (by simp)
   ·rw[if_neg c4] at H;have c4b0:decide (x9_1<(l0_1.length:Int))=false:=decide_eq_false c4;clear c4;obtain rfl:=Option.some.inj H;go_wp2
    go_ret;exact⟨rr,bl HB.out⟩
def impl_Complex_euler.l0:Nat→Int→List Int→Int→Int→Option (Int)
 |0,_,_,_,_=>none
 |k+1,x3,x7,x8,x9=>if x9<x8 then (if 0≤x9 then (if x9<(x7.length:Int) then ((impl_dimension.f (rd x7 x9)).bind fun t572=>(impl_Complex_euler.l0 k (wrap64 (x3+(wrap64 (1 - (wrap64 (2*(Int.tmod t572 2))))))) x7 x8 (wrap64 (x9+1)))) else (none)) else (none)) else (some x3)
def impl_Complex_euler.f (k:Nat) (a0_0:Int) (l0_1:List Int):Option (Int):=impl_Complex_euler.l0 k 0 l0_1 (l0_1.length:Int) 0
theorem impl_Complex_euler.mono_l:∀ k,(∀ y0 y1 y2 y3,LeO (impl_Complex_euler.l0 k y0 y1 y2 y3) (impl_Complex_euler.l0 (k+1) y0 y1 y2 y3))
 |0=>fun _ _ _ _ r h=>by simp [impl_Complex_euler.l0] at h
 |k+1=>by
  have ih0:=impl_Complex_euler.mono_l k
  ·intro y0 y1 y2 y3;unfold impl_Complex_euler.l0;repeat' first
   |(with_reducible first|exact ih0 _ _ _ _|exact LeO.refl _|exact LeO.none _|refine LeO.ite ?_ ?_|refine LeO.bind ?_ (fun _=>?_))
theorem impl_Complex_euler.mono:∀ a0 a1 k,LeO (impl_Complex_euler.f k a0 a1) (impl_Complex_euler.f (k+1) a0 a1):=by
 intro a0 a1 k;have ih0:=impl_Complex_euler.mono_l k;unfold impl_Complex_euler.f;repeat' first
   |(with_reducible first|exact ih0 _ _ _ _|exact LeO.refl _|exact LeO.none _|refine LeO.ite ?_ ?_|refine LeO.bind ?_ (fun _=>?_))
set_option maxHeartbeats 8000000 in
set_option maxRecDepth 100000 in
theorem impl_Complex_euler.calls (k:Nat) (a0_0:Int) (A0_1:Option Addr) (c0_1:Nat) (l0_1:List Int) (r:Int) (w:World) (hr0_1:Kd.C (Kd.int .i64) w A0_1 l0_1.length l0_1) (hc0_1:l0_1.length≤c0_1) (h:impl_Complex_euler.f k a0_0 l0_1=some r) :
  Calls Tryz.prog 74 #[.agg #[.int .i64 a0_0,.slice A0_1 l0_1.length c0_1]] w fun e w'=>e = .returned (.int .i64 r)∧Below w.heap.size w w':=by
 have hu26:=Tryz.underlying26;have HR0_1:=Aside0.mk hr0_1;have HC0_1:=Aside0.mk hc0_1;clear hr0_1 hc0_1;have HB:=Aside0.mk (Below.refl w.heap.size w);have H:(impl_Complex_euler.l0 k 0 l0_1 (l0_1.length:Int) 0)=some r:=h;clear h;have H':=Aside0.mk H;clear H;go_enter Tryz.func74,Tryz.ntmps74;go_wp2_with (first|((with_reducible refine gate_dst (N:=1) rfl ?_);refine bx 1 #[.int .i64 a0_0,.slice A0_1 l0_1.length c0_1] 26 ?_;intro gb570 hg w2 hbox hb;have BK570:=Aside0.mk (hbox);have GE570:=gzA hg HB;replace HB:=bsA HB hb;clear hb hbox hg;have hcz3_0:=z0_ BK570;have hcz3_1:=z1_ BK570;have hfz3_0:=hf_ BK570 0;have hfz3_1:=hf_ BK570 1))
 go_loopg [3,9] k (fun kq v3 v9 w'=>∃(x3_1:Int) (x9_1:Int),v3 = .int .i64 x3_1∧v9 = .int .i64 x9_1∧Aside0 (impl_Complex_euler.l0 kq x3_1 l0_1 (l0_1.length:Int) x9_1=some r)∧Aside0 (kq≤k)∧Aside0 (w'.heap[gb570]?=some (.cells #[.int .i64 a0_0,(.slice A0_1 l0_1.length c0_1)] 26 (0,0)))∧Aside0 (Below w.heap.size w w'))
 case atStart=>exact⟨(0),(0),rs,rs,H',⟨Nat.le_refl _⟩,⟨bk BK570.out⟩,⟨bl HB.out⟩⟩
 case round=>
  clear H';try clear p2
  try clear hcz3_0
  try clear hcz3_1
  try clear hfz3_0
  try clear hfz3_1
  obtain ⟨x3_1,x9_1,rfl,rfl,HA,HK1,BK570,HB⟩:=hrel;cases gk with
  |zero=>exact absurd HA.out (by simp [impl_Complex_euler.l0])
  |succ k1=>
   have H:=HA.out;clear HA;simp only [impl_Complex_euler.l0] at H;by_cases c4:x9_1<(l0_1.length:Int)
   ·rw[if_pos c4] at H;have c4b0:decide (x9_1<(l0_1.length:Int))=true:=decide_eq_true c4;clear c4;by_cases c5:0≤x9_1
    ·rw[if_pos c5] at H;have c5b0:decide (0≤x9_1)=true:=decide_eq_true c5;clear c5;by_cases c6:x9_1<(l0_1.length:Int)
     ·rw[if_pos c6] at H;have c6b0:decide (x9_1<(l0_1.length:Int))=true:=decide_eq_true c6;clear c6;replace H:=Option.bind_eq_some_iff.mp H;obtain ⟨t572,A70,H⟩:=H;replace H:(impl_Complex_euler.l0 k1 (wrap64 (x3_1+(wrap64 (1 - (wrap64 (2*(Int.tmod t572 2))))))) l0_1 (l0_1.length:Int) (wrap64 (x9_1+1)))=some r:=H;have A7:=Aside0.mk A70;clear A70;have H':=Aside0.mk H;clear H;have p571:0≤(x9_1:Int):=dd;have q571:x9_1<(l0_1.length:Int):=dd;obtain ⟨ad571,e571,hx571_0⟩:=Kd.at_int HR0_1.out x9_1 p571 q571;cases e571;replace hx571_0:=hx_ HB hx571_0;replace p571:=eq_true p571;replace q571:=eq_true q571;go_wp2_with (first|((with_reducible refine gate_callee (f:=99) rfl ?_);refine gl (some 15) Tryz.func99 #[.int .i64 (rd l0_1 x9_1)] ?_;(with_reducible refine(impl_dimension.calls (rd l0_1 x9_1) t572 _ A7.out).mono ?_);rintro e w' ⟨rfl,⟨nd,rfl⟩⟩;refine⟨_,rfl,?_⟩))
      go_roundg k1
      case measure=>have:=HK1.out;omega
      case rel=>exact⟨(wrap64 (x3_1+(wrap64 (1 - (wrap64 (2*(Int.tmod t572 2))))))),(wrap64 (x9_1+1)),rs,rs,H',⟨by have:=HK1.out;omega⟩,⟨bk BK570.out⟩,⟨bl HB.out⟩⟩
     ·rw[if_neg c6] at H;exact absurd H (by simp)
    ·rw[if_neg c5] at H;exact absurd H (by simp)
   ·rw[if_neg c4] at H;have c4b0:decide (x9_1<(l0_1.length:Int))=false:=decide_eq_false c4;clear c4;obtain rfl:=Option.some.inj H;go_wp2
    go_ret;exact⟨rr,bl HB.out⟩
end Go.Proofs.YtlhkdbkjafiikaaGreat.Q
end

section
namespace Go.Proofs.YtlhkdbkjafiikaaGreat.K
open Go.RowKit Go.Shelf Go.Proofs.YtlhkdbkjafiikaaGreat.Q Go.Proofs.YtlhkdbkjafiikaaGreatW.PrintWords Go.Proofs.YtlhkdbkjafiikaaGreatW.PrintLast Go.Proofs.YtlhkdbkjafiikaaGreatW.PrintMore
set_option linter.unusedVariables false
set_option linter.unusedSimpArgs false
def topI (l:List Int):Int:=l.foldl (fun d f=>mx d (dimI f)) (-1)
theorem mx_is (a b:Int):mx a b=if a<b then b else a:=by
 unfold mx
 repeat' split
 all_goals omega
theorem top_loop (l:List Int) (hl:l.length≤1000000000) (hf:∀ x ∈ l,0≤x∧x≤63):∀(d i k:Nat) (s:Int),l.length - i=d→i≤l.length→d<k →
  impl_Complex_dimension.l0 k s l (l.length:Int) (i:Int)=some ((l.drop i).foldl (fun d f=>mx d (dimI f)) s):=by
 intro d
 induction d with
 |zero=>
  intro i k s hd hi hk
  obtain ⟨k,rfl⟩:∃ m,k=m+1:=⟨k - 1,by omega⟩
  obtain rfl:i=l.length:=by omega
  simp only [impl_Complex_dimension.l0]
  rw[if_neg (by omega)]
  simp
 |succ d ih=>
  intro i k s hd hi hk
  obtain ⟨k,rfl⟩:∃ m,k=m+1:=⟨k - 1,by omega⟩
  simp only [impl_Complex_dimension.l0]
  have hil:i<l.length:=by omega
  have hx:=hf _ (List.getElem_mem hil)
  have hrd:rd l (i:Int)=l[i]:=by simp [rd,hil]
  have hw:wrap64 ((i:Int)+1)=((i+1:Nat):Int):=by unfold wrap64;omega
  rw[if_pos (by omega),if_pos (by omega),if_pos (by omega),hrd,dim_is l[i] (by omega) hx.2]
  simp only [Option.bind_some]
  rw[hw,ih (i+1) k _ (by omega) (by omega) (by omega),List.drop_eq_getElem_cons hil,List.foldl_cons]
theorem top_is (n:Int) (l:List Int) (hl:l.length≤1000000000) (hf:∀ x ∈ l,0≤x∧x≤63):impl_Complex_dimension.f (l.length+1) n l=some (topI l):=by
 unfold impl_Complex_dimension.f
 have:=top_loop l hl hf l.length 0 (l.length+1) (-1) (by omega) (by omega) (by omega)
 simpa [topI] using this
theorem top_calls (n:Int) (A:Option Addr) (c:Nat) (l:List Int) (w:World) (hk:Kx w A c l) (hl:l.length≤1000000000) (hf:∀ x ∈ l,0≤x∧x≤63) :
  Calls Tryz.prog 136 #[.agg #[I n,.slice A l.length c]] w fun e w'=>e = .returned (I (topI l))∧Grew w w':=
 impl_Complex_dimension.calls (l.length+1) n A c l (topI l) w hk.r hk.c (top_is n l hl hf)
theorem top_ge (l:List Int):∀(s:Int),s≤l.foldl (fun d f=>mx d (dimI f)) s∧∀ x ∈ l,dimI x≤l.foldl (fun d f=>mx d (dimI f)) s:=by
 induction l with
 |nil=>intro s;simp
 |cons y l ih=>
  intro s
  obtain ⟨h1,h2⟩:=ih (mx s (dimI y))
  have h3:s≤mx s (dimI y)∧dimI y≤mx s (dimI y):=by rw[mx_is];split <;> omega
  rw[List.foldl_cons]
  refine⟨by omega,fun x hx=>?_⟩
  rcases List.mem_cons.1 hx with rfl|hx
  ·omega
  ·exact h2 x hx
theorem top_le (l:List Int):∀(s:Int),s≤5→l.foldl (fun d f=>mx d (dimI f)) s≤5:=by
 induction l with
 |nil=>intro s hs;exact hs
 |cons y l ih=>
  intro s hs
  rw[List.foldl_cons]
  refine ih _ ?_
  have:=dim_range y
  rw[mx_is];split <;> omega
theorem top_range (l:List Int): -1≤topI l∧topI l≤5:=⟨(top_ge l (-1)).1,top_le l (-1) (by omega)⟩
theorem top_mem (l:List Int) (x:Int) (hx:x ∈ l):dimI x≤topI l:=(top_ge l (-1)).2 x hx
def tick (xs:List Int) (f:Int):List Int:=xs.set (dimI f).toNat (rdOf 0 xs (dimI f)+1)
def countL (m:Nat) (q:List Int):List Int:=q.foldl tick (List.replicate m 0)
theorem tick_length (xs:List Int) (f:Int):(tick xs f).length=xs.length:=by simp [tick]
theorem ticks_length (q:List Int):∀ xs:List Int,(q.foldl tick xs).length=xs.length:=by
 induction q with
 |nil=>intro xs;rfl
 |cons f q ih=>intro xs;rw[List.foldl_cons,ih,tick_length]
theorem countL_length (m:Nat) (q:List Int):(countL m q).length=m:=by rw[countL,ticks_length,List.length_replicate]
theorem ticks_get (q:List Int) (hq:∀ x ∈ q,0≤dimI x):∀(xs:List Int) (i:Nat) (h:i<xs.length),(q.foldl tick xs)[i]'(by rw[ticks_length];exact h)=xs[i]+((q.filter fun x=>dimI x == (i:Int)).length:Int):=by
 induction q with
 |nil=>intro xs i h;simp
 |cons f q ih=>
  intro xs i h
  have h2:=ih (fun x hx=>hq x (List.mem_cons_of_mem _ hx)) (tick xs f) i (by rw[tick_length];exact h)
  simp only [List.foldl_cons]
  rw[h2]
  have hd:=hq f List.mem_cons_self
  by_cases e:dimI f=(i:Int)
  ·have e2:(dimI f).toNat=i:=by omega
   have h3:(tick xs f)[i]'(by rw[tick_length];exact h)=xs[i]+1:=by
    simp [tick,e,rdOf,h]
   rw[h3,List.filter_cons,if_pos (by simp [e]),List.length_cons]
   omega
  ·have e2:(dimI f).toNat≠i:=by omega
   have h3:(tick xs f)[i]'(by rw[tick_length];exact h)=xs[i]:=by
    simp [tick,List.getElem_set,e2]
   rw[h3,List.filter_cons,if_neg (by simp [e])]
theorem countL_get (m:Nat) (q:List Int) (hq:∀ x ∈ q,0≤dimI x) (i:Nat) (h:i<m):(countL m q)[i]'(by rw[countL_length];exact h)=((q.filter fun x=>dimI x == (i:Int)).length:Int):=by
 have:=ticks_get q hq (List.replicate m 0) i (by rw[List.length_replicate];exact h)
 rw[List.getElem_replicate,Int.zero_add] at this
 exact this
theorem ticks_range (q:List Int) (hq:∀ x ∈ q,0≤dimI x) (m:Nat) (i:Int) (h0:0≤i) (h:i<m):0≤rdOf 0 (countL m q) i∧rdOf 0 (countL m q) i≤q.length:=by
 obtain ⟨j,rfl⟩:=Int.eq_ofNat_of_zero_le h0
 have hj:j<m:=by omega
 have h1:=countL_get m q hq j hj
 have h2:rdOf 0 (countL m q) (j:Int)=(countL m q)[j]'(by rw[countL_length];exact hj):=by simp [rdOf,countL_length,hj]
 have h3:=List.length_filter_le (fun x=>dimI x == (j:Int)) q
 rw[h2,h1]
 omega
theorem dim_pos_64:∀ m:Fin 64,m.val≠0→0≤dimI (m.val:Int):=by decide +kernel
theorem dim_pos (f:Int) (h0:1≤f) (h1:f≤63):0≤dimI f:=by
 obtain ⟨m,rfl⟩:=Int.eq_ofNat_of_zero_le (show 0≤f by omega)
 exact dim_pos_64 ⟨m,by omega⟩ (by show m≠0;omega)
set_option maxRecDepth 100000 in
set_option maxHeartbeats 4000000 in
theorem count_calls (n:Int) (A:Option Addr) (c:Nat) (l:List Int) (A2:Option Addr) (c2:Nat) (q:List Int) (w:World) (hk:Kx w A c l) (hl:l.length≤1000000000) (hf:∀ x ∈ l,1≤x∧x≤63) (hr:Ki.C w A2 q.length q) (hc:q.length≤c2) (hq:∀ x ∈ q,x ∈ l) (hql:q.length≤1000000000) :
  Calls Tryz.prog 101 #[.agg #[I n,.slice A l.length c],.slice A2 q.length c2] w fun e w'=>∃ v,e = .returned v∧Ki.R 2 w' w.heap.size (fun _=>True) v (countL (topI l+1).toNat q)∧Grew w w':=by
 have hg:Grew w (w.alloc (.cells #[I n,.slice A l.length c] 26)):=below_alloc (Grew.refl w) _
 have hB:CB (w.alloc (.cells #[I n,.slice A l.length c] 26)) w.heap.size n (.slice A l.length c):=blk_new w _
 have H:=Aside0.mk (top_calls n A c l _ (hk.later hg) hl (fun x hx=>by have:=hf x hx;omega))
 have hT:=top_range l
 have HT:=Aside0.mk (fun x (hx:x ∈ q)=>And.intro (dim_pos x (hf x (hq x hx)).1 (hf x (hq x hx)).2) (top_mem l x (hq x hx)))
 have HF:=Aside0.mk (fun x (hx:x ∈ q)=>hf x (hq x hx))
 have HR:=Aside0.mk hr
 have HC:=Aside0.mk hc
 have HG:=Aside0.mk hg
 have k0:=hB.c0
 have k1:=hB.c1
 obtain ⟨t,ht⟩:∃ t,t=topI l:=⟨_,rfl⟩
 rw[← ht] at H hT HT ⊢
 clear hk hg hB hf hq hr hc ht
 obtain ⟨m,hm⟩:∃ m:Nat,t+1=(m:Int):=⟨(t+1).toNat,by omega⟩
 have hm6:m≤6:=by omega
 rw[show (t+1).toNat=m by omega]
 have HM:=Aside0.mk hm
 clear hm
 have h0m:0≤(m:Int):=by omega
 go_enter Tryz.func101,Tryz.ntmps101
 go_wp2_with fail
 refine H.out.mono ?_
 rintro e w1 ⟨rfl,hG1⟩
 have HG1:=Aside0.mk (Grew.trans HG.out hG1)
 clear hG1 k0 k1
 have hm:=HM.out
 go_wp2_with (first|((with_reducible refine gate_dst (N:=11) rfl ?_);refine Kd.R_make (Kd.int .i64) _ 2 rfl (N:=11) rfl 24 _ _ rfl (m:Int) (by go_num) (by go_num) Tryz.underlying24 (.int .i64 0) 8 infoI rfl (by decide) (by omega) 0 (ok:=fun _=>True) (okp:=fun _=>True) rfl (fun _ hk=>hk) trivial h0m (by omega) (Below.refl _ _) (Nat.le_refl _) ?_;intro v w2 ho hb hg_ hnew_;clear hg_ hnew_;have HO2:=Aside0.mk (Kd.R_lower ho HG1.out.size);have HG2:=Aside0.mk (Grew.trans HG1.out hb);clear ho hb))
 rw[Int.toNat_natCast] at HO2
 obtain ⟨A5,c5,e5⟩:=Kd.R_slice HO2.out
 rw[List.length_replicate] at e5
 subst e5
 go_wp2_with fail
 go_loopg [14] q.length (fun gg s14 wr=>∃ kk:Nat,kk≤q.length∧q.length - kk≤gg∧s14 = .int .i64 kk∧Aside0 (Ki.R 2 wr w.heap.size (fun _=>True) (.slice A5 m c5) (countL m (q.take kk)))∧Aside0 (Grew w wr))
 case atStart=>exact⟨0,Nat.zero_le _,by omega,rfl,HO2,HG2⟩
 case round=>
  obtain ⟨kk,hkk,hg,rfl,HRr,HGr⟩:=hrel
  by_cases hlt:kk<q.length
  ·have hltz:(kk:Int)<(q.length:Int):=by omega
   obtain ⟨ad,e0,hx⟩:=Kd.at_int (Kd.C_below HR.out HGr.out) (kk:Int) (by omega) (by omega)
   cases e0
   have hrd:rd q (kk:Int)=q[kk]:=by simp [rd,hlt]
   rw[hrd,Int.toNat_natCast] at hx
   have hy1:=HF.out _ (List.getElem_mem hlt)
   have hy2:=HT.out _ (List.getElem_mem hlt)
   have HN:Aside0 (countL m (q.take (kk+1))=tick (countL m (q.take kk)) q[kk]):=⟨by rw[List.take_succ_eq_append_getElem hlt,countL,List.foldl_append];rfl⟩
   have hb2:=ticks_range (q.take kk) (fun x hx=>(HT.out x (List.mem_of_mem_take hx)).1) m (dimI q[kk]) hy2.1 (by omega)
   have hLl:=countL_length m (q.take kk)
   have htk:(q.take kk).length=kk:=by rw[List.length_take];omega
   rw[htk] at hb2
   generalize countL m (q.take kk)=L at HRr HN hb2 hLl
   generalize q[kk]=y at hx hy1 hy2 HN hb2
   clear hrd htk
   have H3:=Aside0.mk (dimension_calls y (by omega) (by omega) wr)
   unfold tick at HN
   generalize dimI y=e at hy2 HN hb2 H3
   go_wp2_with fail
   refine H3.out.mono ?_
   rintro e' w3 ⟨rfl,hG3⟩
   have HR3:=Aside0.mk (Kd.R_below HRr.out hG3)
   have HG3:=Aside0.mk (Grew.trans HGr.out hG3)
   clear HRr hx hG3
   obtain ⟨G,cc,eo,gb,gl,_⟩:=Kd.R_form HR3.out (by omega)
   injection eo with ea en ec
   subst ea ec
   clear en
   obtain ⟨hx,hf⟩:=Kd.R_celln 0 HR3.out e (by omega) (by omega)
   generalize rdOf 0 L e=z at hx HN hb2
   have HW:=Aside0.mk (Kd.R_putn HR3.out e (z+1))
   have e0:=hy2.1
   have e1:e<m:=by omega
   go_wp2_with fail
   go_roundg (q.length - (kk+1))
   case measure=>omega
   case rel=>exact⟨kk+1,by omega,by omega,by go_num,⟨by rw[HN.out];exact HW.out⟩,⟨Below.setCell HG3.out gb _⟩⟩
  ·obtain rfl:kk=q.length:=by omega
   rw[List.take_length] at HRr
   go_wp2_with fail
   go_ret
   exact⟨_,rfl,HRr.out,HGr.out⟩
end Go.Proofs.YtlhkdbkjafiikaaGreat.K
end

section
namespace Go.Proofs.YtlhkdbkjafiikaaGreat.K
open Go.RowKit Go.Shelf Go.Proofs.YtlhkdbkjafiikaaGreat.Q Go.Proofs.YtlhkdbkjafiikaaGreatW.PrintWords Go.Proofs.YtlhkdbkjafiikaaGreatW.PrintLast Go.Proofs.YtlhkdbkjafiikaaGreatW.PrintMore
set_option linter.unusedVariables false
set_option linter.unusedSimpArgs false
set_option maxRecDepth 100000 in
set_option maxHeartbeats 4000000 in
theorem CountFaces_calls (n:Int) (A:Option Addr) (c:Nat) (l:List Int) (w:World) (hk:Kx w A c l) :
  Calls Tryz.prog 35 #[.agg #[I n,.slice A l.length c]] w fun e w'=>∃ v0,e = .returned (.tuple #[v0,I (codeOf n l (true))])∧Ki.R 2 w' w.heap.size (fun _=>True) v0 (if (codeOf n l (true))=0 then (countL (topI l+1).toNat l) else [])∧Grew w w':=by
 obtain ⟨W3,hW3⟩:∃ W3,W3=(w.alloc (.cells #[I n,.slice A l.length c] 26)):=⟨_,rfl⟩
 have hB:CB W3 w.heap.size n (.slice A l.length c):=by rw[hW3];exact blk_new w _
 have hg:Grew w W3:=by rw[hW3];exact below_alloc (Grew.refl w) _
 have H:=Aside0.mk (complexCode_calls true n A c l 73 #[] #[] W3 (hk.later hg) (enters_of Tryz.func73 (by kernel_rfl) rfl) (fun _=>always_answers _))
 have k_0:=hB.c0
 have k_1:=hB.c1
 have HK:=Aside0.mk hk
 have HB:=Aside0.mk hB
 have HG:=Aside0.mk hg
 clear hk hB hg
 obtain ⟨cc,hcc⟩:∃ cc,cc=codeOf n l (true):=⟨_,rfl⟩
 rw[← hcc] at H ⊢
 by_cases hz:cc=0
 ·subst hz
  have hb:=codeOf_zero hcc.symm
  have HI:=Aside0.mk hb.1
  have HBt:Aside0 ((true)=true):=⟨hb.2⟩
  have HZ:=Aside0.mk hcc
  have hx0:∀ {α:Type} (a b:α),(if (0:Int)=0 then a else b)=a:=fun a b=>if_pos rfl
  simp only [hx0]
  clear hcc hb hx0
  subst hW3
  go_enter Tryz.func35,Tryz.ntmps35
  go_wp2_with fail
  refine H.out.mono ?_
  rintro e w1 ⟨rfl,hG1⟩
  have HB1:Aside0 (CB w1 w.heap.size n (.slice A l.length c)):=⟨blk_below HB.out hG1⟩
  have HG1:=Aside0.mk (Grew.trans HG.out hG1)
  clear hG1 k_0 k_1
  have k_0:=HB1.out.c0
  have k_1:=HB1.out.c1
  have hb:=isC_faces HI.out
  have H2:=Aside0.mk (count_calls n A c l A c l w1 (HK.out.later HG1.out) (by omega) (fun x hx=>by have:=hb.2.2.1 x hx;omega) (HK.out.later HG1.out).r HK.out.c (fun x hx=>hx) (by omega))
  clear hb
  go_wp2_with fail
  refine H2.out.mono ?_
  rintro e w2 ⟨v,rfl,hR2,hG2⟩
  go_wp2_with fail
  go_ret2
  exact⟨_,rfl,Kd.R_lower hR2 HG1.out.size,Grew.trans HG1.out hG2⟩
 ·have HV:Aside0 (∀ {α:Type} (a b:α),(if cc=0 then a else b)=b):=⟨fun a b=>if_neg hz⟩
  simp only [HV.out]
  clear hcc
  subst hW3
  go_enter Tryz.func35,Tryz.ntmps35
  go_wp2_with fail
  refine H.out.mono ?_
  rintro e w1 ⟨rfl,hG1⟩
  have HG1:=Aside0.mk (Grew.trans HG.out hG1)
  clear hG1 k_0 k_1
  go_wp2_with fail
  go_ret2
  exact⟨_,rfl,Kd.R_nil _ _ _ _ _,HG1.out⟩
end Go.Proofs.YtlhkdbkjafiikaaGreat.K
end

section
namespace Go.Proofs.YtlhkdbkjafiikaaGreat.K
open Go.RowKit Go.Shelf Go.Proofs.YtlhkdbkjafiikaaGreat.Q Go.Proofs.YtlhkdbkjafiikaaGreatW.PrintWords Go.Proofs.YtlhkdbkjafiikaaGreatW.PrintLast Go.Proofs.YtlhkdbkjafiikaaGreatW.PrintMore
set_option linter.unusedVariables false
set_option linter.unusedSimpArgs false
def stepF (s:Int×Bool) (e:Int):Int×Bool:=if Go.bits .and .i64 e s.1=0 then s else if inB e s.1=true then s else (Go.bits .or .i64 s.1 e,true)
def passF (es:List Int) (s:Int×Bool):Int×Bool:=es.foldl stepF s
def Shut (es:List Int) (c:Int):Prop:=∀ e ∈ es,Go.bits .and .i64 e c=0∨inB e c=true
theorem pass_facts (es:List Int):(∀ x ∈ es,0≤x∧x≤63)→∀ s:Int×Bool,0≤s.1∧s.1≤63 →
  (s.1≤(passF es s).1∧(passF es s).1≤63)∧inB s.1 (passF es s).1=true∧((passF es s).2=false→s.2=false∧(passF es s).1=s.1∧Shut es s.1)∧((passF es s).2=true→s.2=true∨s.1<(passF es s).1) ∧
  (∀ c,0≤c∧c≤63→inB s.1 c=true→Shut es c→inB (passF es s).1 c=true):=by
 induction es with
 |nil=>exact fun _ s hs=>⟨⟨Int.le_refl _,hs.2⟩,inB_refl _ hs,fun h=>⟨h,rfl,fun _ h=>by cases h⟩,fun h=> .inl h,fun c hc h _=>h⟩
 |cons e es ih=>
  intro hes s hs
  have he:=hes e List.mem_cons_self
  have ih:=ih (fun x hx=>hes x (List.mem_cons_of_mem _ hx))
  have hp:passF (e :: es) s=passF es (stepF s e):=rfl
  rw[hp]
  by_cases h0:Go.bits .and .i64 e s.1=0
  ·have hst:stepF s e=s:=by unfold stepF;rw[if_pos h0]
   rw[hst]
   obtain ⟨a1,a2,a3,a4,a5⟩:=ih s hs
   refine⟨a1,a2,fun h=>?_,a4,fun c hc h1 h2=>a5 c hc h1 fun x hx=>h2 x (List.mem_cons_of_mem _ hx)⟩
   obtain ⟨b1,b2,b3⟩:=a3 h
   refine⟨b1,b2,fun x hx=>?_⟩
   rcases List.mem_cons.1 hx with rfl|hx
   ·exact .inl h0
   ·exact b3 x hx
  ·by_cases h1:inB e s.1=true
   ·have hst:stepF s e=s:=by unfold stepF;rw[if_neg h0,if_pos h1]
    rw[hst]
    obtain ⟨a1,a2,a3,a4,a5⟩:=ih s hs
    refine⟨a1,a2,fun h=>?_,a4,fun c hc h1 h2=>a5 c hc h1 fun x hx=>h2 x (List.mem_cons_of_mem _ hx)⟩
    obtain ⟨b1,b2,b3⟩:=a3 h
    refine⟨b1,b2,fun x hx=>?_⟩
    rcases List.mem_cons.1 hx with rfl|hx
    ·exact .inr h1
    ·exact b3 x hx
   ·have hst:stepF s e=(Go.bits .or .i64 s.1 e,true):=by unfold stepF;rw[if_neg h0,if_neg h1]
    rw[hst]
    have h1':inB e s.1=false:=by simpa using h1
    have hlt:=or_lt s.1 e hs he h1'
    obtain ⟨h3,h4,h5⟩:=or_bt s.1 e hs he
    obtain ⟨a1,a2,a3,a4,a5⟩:=ih (Go.bits .or .i64 s.1 e,true) ⟨by show 0≤Go.bits .or .i64 s.1 e;omega,h5⟩
    simp only at a1 a2 a3 a4 a5
    refine⟨⟨by omega,a1.2⟩,inB_trans _ _ _ hs ⟨by omega,h5⟩ ⟨by omega,a1.2⟩ (inB_or _ _ hs he) a2,fun h=>absurd (a3 h).1 (by simp),fun _=> .inr (by omega),fun c hc b1 b2=>a5 c hc ?_ fun x hx=>b2 x (List.mem_cons_of_mem _ hx)⟩
    refine or_inB _ _ _ hs he hc b1 ?_
    rcases b2 e List.mem_cons_self with b3|b3
    ·exact absurd b3 (and_mono e s.1 c he hs hc b1 h0)
    ·exact b3
def growN:Nat→List Int→Int→Int
 |0,_,o=>o
 |m+1,es,o=>if (passF es (o,false)).2=true then growN m es (passF es (o,false)).1 else (passF es (o,false)).1
def growF (es:List Int) (o:Int):Int:=growN 64 es o
theorem grow_enough (es:List Int) (hes:∀ x ∈ es,0≤x∧x≤63):∀(k m:Nat) (o:Int),0≤o∧o≤63→64 - o≤k→64 - o≤m→growN k es o=growN m es o:=by
 intro k
 induction k with
 |zero=>intro m o ho h1;omega
 |succ k ih=>
  intro m o ho h1 h2
  obtain ⟨m,rfl⟩:∃ q,m=q+1:=⟨m - 1,by omega⟩
  simp only [growN]
  obtain ⟨a1,a2,a3,a4,a5⟩:=pass_facts es hes (o,false) ho
  simp only at a1 a4
  by_cases h:(passF es (o,false)).2=true
  ·rw[if_pos h,if_pos h]
   rcases a4 h with h4|h4
   ·cases h4
   ·exact ih m _ ⟨by omega,a1.2⟩ (by omega) (by omega)
  ·rw[if_neg h,if_neg h]
theorem grow_step (es:List Int) (hes:∀ x ∈ es,0≤x∧x≤63) (o:Int) (ho:0≤o∧o≤63):growF es o=if (passF es (o,false)).2=true then growF es (passF es (o,false)).1 else (passF es (o,false)).1:=by
 obtain ⟨a1,a2,a3,a4,a5⟩:=pass_facts es hes (o,false) ho
 simp only at a1 a4
 unfold growF
 rw[show growN 64 es o=if (passF es (o,false)).2=true then growN 63 es (passF es (o,false)).1 else (passF es (o,false)).1 from rfl]
 by_cases h:(passF es (o,false)).2=true
 ·rw[if_pos h,if_pos h]
  rcases a4 h with h4|h4
  ·cases h4
  ·exact grow_enough es hes 63 64 _ ⟨by omega,a1.2⟩ (by omega) (by omega)
 ·rw[if_neg h,if_neg h]
theorem growN_facts (es:List Int) (hes:∀ x ∈ es,0≤x∧x≤63):∀(k:Nat) (o:Int),0≤o∧o≤63→64 - o≤k →
  (0≤growN k es o∧growN k es o≤63)∧inB o (growN k es o)=true∧Shut es (growN k es o)∧(∀ c,0≤c∧c≤63→inB o c=true→Shut es c→inB (growN k es o) c=true):=by
 intro k
 induction k with
 |zero=>intro o ho h1;omega
 |succ k ih=>
  intro o ho h1
  simp only [growN]
  obtain ⟨a1,a2,a3,a4,a5⟩:=pass_facts es hes (o,false) ho
  simp only at a1 a2 a3 a4 a5
  by_cases h:(passF es (o,false)).2=true
  ·rw[if_pos h]
   rcases a4 h with h4|h4
   ·cases h4
   ·obtain ⟨b1,b2,b3,b4⟩:=ih _ ⟨by omega,a1.2⟩ (by omega)
    exact⟨b1,inB_trans _ _ _ ho ⟨by omega,a1.2⟩ b1 a2 b2,b3,fun c hc h1 h2=>b4 c hc (a5 c hc h1 h2) h2⟩
  ·rw[if_neg h]
   obtain ⟨c1,c2,c3⟩:=a3 (by simpa using h)
   rw[c2]
   exact⟨ho,inB_refl o ho,c3,fun c hc h1 h2=>h1⟩
theorem grow_facts (es:List Int) (hes:∀ x ∈ es,0≤x∧x≤63) (o:Int) (ho:0≤o∧o≤63) :
  (0≤growF es o∧growF es o≤63)∧inB o (growF es o)=true∧Shut es (growF es o)∧(∀ c,0≤c∧c≤63→inB o c=true→Shut es c→inB (growF es o) c=true):=growN_facts es hes 64 o ho (by omega)
theorem edge_64:∀ u v:Fin 6,u≠v→dimI (Go.bits .or .i64 ((2:Int) ^ u.val) ((2:Int) ^ v.val))=1:=by decide +kernel
theorem shut_faces {n:Int} {l:List Int} (hi:isC n l=true) (c:Int) (hc:0≤c∧c≤63) (h:Shut (ofL l 1) c):Shut l c:=by
 obtain ⟨hn,hs,hr,h63⟩:=isC_faces hi
 intro f hf
 have hfr:=hr f hf
 by_cases h0:Go.bits .and .i64 f c=0
 ·exact .inl h0
 ·refine .inr ((inB_iff f c (by omega) hc).2 fun u hu h1=>?_)
  obtain ⟨v,hv,h2,h3⟩:=(and_iff f c (by omega) hc).1 h0
  by_cases e:u=v
  ·rw[e];exact h3
  ·have pu:=pow_range u hu
   have pv:=pow_range v hv
   obtain ⟨k1,k2,k3⟩:=or_bt ((2:Int) ^ u) ((2:Int) ^ v) (by omega) (by omega)
   have hE:1≤Go.bits .or .i64 ((2:Int) ^ u) ((2:Int) ^ v)∧Go.bits .or .i64 ((2:Int) ^ u) ((2:Int) ^ v)≤63:=⟨by omega,k3⟩
   have hd:dimI (Go.bits .or .i64 ((2:Int) ^ u) ((2:Int) ^ v))=1:=edge_64 ⟨u,hu⟩ ⟨v,hv⟩ (fun e2=>e (by injection e2))
   have hb:∀ x,x<6→bt (Go.bits .or .i64 ((2:Int) ^ u) ((2:Int) ^ v)) x=(decide (x=u) ||decide (x=v)):=fun x hx=>by rw[k1 x hx,bt_pow x u hx hu,bt_pow x v hx hv]
   generalize Go.bits .or .i64 ((2:Int) ^ u) ((2:Int) ^ v)=E at hE hd hb
   have hEf:inB E f=true:=(inB_iff E f (by omega) (by omega)).2 fun x hx h4=>by
    rw[hb x hx] at h4
    simp only [Bool.or_eq_true,decide_eq_true_eq] at h4
    rcases h4 with rfl|rfl
    ·exact h1
    ·exact h2
   have hEl:E ∈ ofL l 1:=by
    unfold ofL
    rw[List.mem_filter]
    exact⟨sub_in hi E f hE hf hEf,by simp [hd]⟩
   rcases h E hEl with h5|h5
   ·exact absurd h5 ((and_iff E c (by omega) hc).2 ⟨v,hv,by rw[hb v hv];simp,h3⟩)
   ·exact(inB_iff E c (by omega) hc).1 h5 u hu (by rw[hb u hu];simp)
theorem grow_same {n:Int} {l:List Int} (hi:isC n l=true) (o:Int) (ho:0≤o∧o≤63):growF l o=growF (ofL l 1) o:=by
 have hl:=isC_of hi
 have he:∀ x ∈ ofL l 1,0≤x∧x≤63:=fun x hx=>hl x ((List.mem_filter.1 hx).1)
 obtain ⟨a1,a2,a3,a4⟩:=grow_facts l hl o ho
 obtain ⟨b1,b2,b3,b4⟩:=grow_facts (ofL l 1) he o ho
 exact inB_antisymm _ _ a1 b1 (a4 _ b1 b2 (shut_faces hi _ b1 b3)) (b4 _ a1 a2 fun e h=>a3 e (List.mem_filter.1 h).1)
def compsI (es:List Int):List Int→Int→List Int→List Int
 |[],_,out=>out
 |f :: fs,seen,out=>if inB f seen=true then compsI es fs seen out else compsI es fs (Go.bits .or .i64 seen (growF es f)) (out ++ [growF es f])
def componentsL (l:List Int):List Int:=compsI (ofL l 1) (ofL l 0) 0 []
theorem comps_length (es:List Int):∀(fs:List Int) (seen:Int) (out:List Int),(compsI es fs seen out).length≤out.length+fs.length:=by
 intro fs
 induction fs with
 |nil=>intro seen out;simp [compsI]
 |cons f fs ih=>
  intro seen out
  simp only [compsI,List.length_cons]
  split
  ·have:=ih seen out;omega
  ·have:=ih (Go.bits .or .i64 seen (growF es f)) (out ++ [growF es f])
   rw[List.length_append] at this
   simp at this
   omega
end Go.Proofs.YtlhkdbkjafiikaaGreat.K
end

section
namespace Go.Proofs.YtlhkdbkjafiikaaGreat.K
open Go.RowKit Go.Shelf Go.Proofs.YtlhkdbkjafiikaaGreat.Q Go.Proofs.YtlhkdbkjafiikaaGreatW.PrintWords Go.Proofs.YtlhkdbkjafiikaaGreatW.PrintLast Go.Proofs.YtlhkdbkjafiikaaGreatW.PrintMore
set_option linter.unusedVariables false
set_option linter.unusedSimpArgs false
def eulerI (l:List Int):Int:=(l.map fun f=>1 - 2*(Int.tmod (dimI f) 2)).sum
theorem eulerI_cons (x:Int) (l:List Int):eulerI (x :: l)=(1 - 2*Int.tmod (dimI x) 2)+eulerI l:=by
 simp only [eulerI,List.map_cons,List.sum_cons]
theorem euler_step (s t:Int) (i:Nat) (hi:i≤63) (hs: -3*(i:Int)≤s∧s≤3*(i:Int)) (htm: -1≤t∧t≤1) :
  wrap64 (2*t)=2*t∧wrap64 (1 - 2*t)=1 - 2*t∧wrap64 (s+(1 - 2*t))=s+(1 - 2*t)∧wrap64 ((i:Int)+1)=((i+1:Nat):Int)∧(-3*((i+1:Nat):Int)≤s+(1 - 2*t)∧s+(1 - 2*t)≤3*((i+1:Nat):Int)):=by
 unfold wrap64
 omega
theorem euler_loop (l:List Int) (hl:l.length≤63) (hr:∀ x ∈ l,1≤x∧x≤63):∀(d i k:Nat) (s:Int),l.length - i=d→i≤l.length→d<k → -3*(i:Int)≤s∧s≤3*(i:Int) →
  impl_Complex_euler.l0 k s l (l.length:Int) (i:Int)=some (s+eulerI (l.drop i)):=by
 intro d
 induction d with
 |zero=>
  intro i k s hd hi hk hs
  obtain ⟨k,rfl⟩:∃ m,k=m+1:=⟨k - 1,by omega⟩
  obtain rfl:i=l.length:=by omega
  simp only [impl_Complex_euler.l0]
  rw[if_neg (by omega)]
  simp [eulerI]
 |succ d ih=>
  intro i k s hd hi hk hs
  obtain ⟨k,rfl⟩:∃ m,k=m+1:=⟨k - 1,by omega⟩
  simp only [impl_Complex_euler.l0]
  have hil:i<l.length:=by omega
  have hx:=hr _ (List.getElem_mem hil)
  have hrd:rd l (i:Int)=l[i]:=by simp [rd,hil]
  rw[if_pos (by omega),if_pos (by omega),if_pos (by omega),hrd,dim_is l[i] (by omega) hx.2]
  simp only [Option.bind_some]
  have ih2:=fun s' hs'=>ih (i+1) k s' (by omega) (by omega) (by omega) hs'
  have hE:eulerI (l.drop i)=(1 - 2*Int.tmod (dimI l[i]) 2)+eulerI (l.drop (i+1)):=by
   rw[List.drop_eq_getElem_cons hil,eulerI_cons]
  obtain ⟨e1,e2,e3,e4,e5⟩:=euler_step s (Int.tmod (dimI l[i]) 2) i (by omega) hs (tm_range _ (dim_range l[i]))
  rw[hE,e1,e2,e3,e4,ih2 _ e5,Int.add_assoc]
theorem euler_is (n:Int) (l:List Int) (hl:l.length≤63) (hr:∀ x ∈ l,1≤x∧x≤63) (k:Nat) (hk:64≤k):impl_Complex_euler.f k n l=some (eulerI l):=by
 unfold impl_Complex_euler.f
 have:=euler_loop l hl hr l.length 0 k 0 (by omega) (by omega) (by omega) (by omega)
 simpa using this
set_option maxHeartbeats 2000000 in
theorem EulerNumber_calls (n:Int) (A:Option Addr) (c:Nat) (l:List Int) (w:World) (hk:Kx w A c l) :
  Calls Tryz.prog 18 #[.agg #[I n,.slice A l.length c]] w fun e w'=>e = .returned (.tuple #[I (if isC n l=true then eulerI l else 0),I (codeOf n l true)])∧Grew w w':=by
 have hg:Grew w (w.alloc (.cells #[I n,.slice A l.length c] 26)):=below_alloc (Grew.refl w) _
 have hB:CB (w.alloc (.cells #[I n,.slice A l.length c] 26)) w.heap.size n (.slice A l.length c):=blk_new w _
 have H:=Aside0.mk (complexCode_calls true n A c l 73 #[] #[] _ (hk.later hg) (enters_of Tryz.func73 (by kernel_rfl) rfl) (fun _=>always_answers _))
 have HK:=Aside0.mk hk
 have HG:=Aside0.mk hg
 have HB:=Aside0.mk hB
 clear hk hg hB
 cases hi:isC n l with
 |false=>
  have HV:Aside0 (codeOf n l true=1):=⟨by simp [codeOf,hi]⟩
  rw[HV.out] at H ⊢
  clear hi
  go_enter Tryz.func18,Tryz.ntmps18
  go_wp2_with fail
  refine H.out.mono ?_
  rintro e w1 ⟨rfl,hG1⟩
  go_wp2_with fail
  go_ret2
  exact⟨rfl,Grew.trans HG.out hG1⟩
 |true=>
  have HV:Aside0 (codeOf n l true=0):=⟨by simp [codeOf,hi]⟩
  rw[HV.out] at H ⊢
  have HI:=Aside0.mk (isC_faces hi)
  clear hi
  go_enter Tryz.func18,Tryz.ntmps18
  go_wp2_with fail
  refine H.out.mono ?_
  rintro e w1 ⟨rfl,hG1⟩
  have HG1:=Aside0.mk (Grew.trans HG.out hG1)
  have k0:=(CB.later HB.out hG1).c0
  have k1:=(CB.later HB.out hG1).c1
  clear hG1
  go_wp2_with fail
  refine(impl_Complex_euler.calls 64 n A c l (eulerI l) w1 (HK.out.later HG1.out).r HK.out.c (euler_is n l HI.out.2.2.2 (fun x hx=>⟨(HI.out.2.2.1 x hx).1,(HI.out.2.2.1 x hx).2.2⟩) 64 (Nat.le_refl _))).mono ?_
  rintro e w2 ⟨rfl,hG2⟩
  go_wp2_with fail
  go_ret2
  exact⟨rfl,Grew.trans HG1.out hG2⟩
end Go.Proofs.YtlhkdbkjafiikaaGreat.K
end

section
namespace Go.Proofs.YtlhkdbkjafiikaaGreat.K
open Go.RowKit Go.Shelf Go.Proofs.YtlhkdbkjafiikaaGreatW.PrintWords Go.Proofs.YtlhkdbkjafiikaaGreatW.PrintLast Go.Proofs.YtlhkdbkjafiikaaGreatW.PrintMore
set_option linter.unusedVariables false
set_option linter.unusedSimpArgs false
set_option maxHeartbeats 1000000 in
theorem LinkOf1_calls (n f:Int) (hn:1≤n∧n≤6) (Bk Bf:Nat) (A:Option Addr) (c:Nat) (l:List Int) (w:World) (hb:CB w Bk n (.slice A l.length c)) (hf:w.cell? ⟨Bf,0,none⟩=some (I f)) (hk:Kx w A c l) :
  Calls Tryz.prog 53 #[.pointer (some ⟨Bk,0,none⟩),.pointer (some ⟨Bf,0,none⟩)] w fun e w'=>e = .returned (.bool (hasB l f))∧Grew w w':=by
 have k0:=hb.c0
 have k1:=hb.c1
 have H:=Aside0.mk (hk.has n f)
 clear hk hb
 go_enter Tryz.func53,Tryz.ntmps53
 go_wp2_with fail
 refine H.out.mono ?_
 rintro e w1 ⟨rfl,hG1⟩
 go_wp2_with fail
 go_ret
 exact⟨rfl,hG1⟩
set_option maxHeartbeats 1000000 in
theorem LinkOf2_calls (x n f:Int) (Bk Bf:Nat) (A:Option Addr) (c:Nat) (l:List Int) (w:World) (hb:CB w Bk n (.slice A l.length c)) (hf:w.cell? ⟨Bf,0,none⟩=some (I f)) (hk:Kx w A c l) :
  Calls Tryz.prog 56 (#[I x] ++ #[.pointer (some ⟨Bf,0,none⟩),.pointer (some ⟨Bk,0,none⟩)]) w fun e w'=>e = .returned (.bool (Go.bits .and .i64 f x == 0 && hasB l (Go.bits .or .i64 f x)))∧Grew w w':=by
 have k0:=hb.c0
 have k1:=hb.c1
 have H:=Aside0.mk (hk.has n (Go.bits .or .i64 f x))
 clear hk hb
 by_cases hz:Go.bits .and .i64 f x=0
 ·have hz2:(Go.bits .and .i64 f x == 0)=true:=by simp [hz]
  rw[hz2]
  clear hz2
  go_enter Tryz.func56,Tryz.ntmps56
  go_wp2_with fail
  refine H.out.mono ?_
  rintro e w1 ⟨rfl,hG1⟩
  go_wp2_with fail
  go_ret
  exact⟨rfl,hG1⟩
 ·have hz2:(Go.bits .and .i64 f x == 0)=false:=by simp [hz]
  rw[hz2]
  clear hz2
  go_enter Tryz.func56,Tryz.ntmps56
  go_wp2_with fail
  go_ret
  exact⟨rfl,Grew.refl w⟩
def LinkOf_b (n:Int) (l:List Int) (f:Int):Bool:=hasB l f
def LinkOf_p (l:List Int) (f x:Int):Bool:=Go.bits .and .i64 f x == 0 && hasB l (Go.bits .or .i64 f x)
set_option maxHeartbeats 2000000 in
theorem LinkOf_calls (n:Int) (A:Option Addr) (c:Nat) (l:List Int) (f:Int) (w:World) (hk:Kx w A c l) :
  Calls Tryz.prog 7 #[.agg #[I n,.slice A l.length c],I f] w fun e w'=>∃ v,e = .returned (.tuple #[.agg #[I (partOf n l (LinkOf_b n l f) (LinkOf_p l f)).1,v],I (partOf n l (LinkOf_b n l f) (LinkOf_p l f)).2.2])∧Ki.R 2 w' w.heap.size (fun _=>True) v (partOf n l (LinkOf_b n l f) (LinkOf_p l f)).2.1∧Grew w w':=by
 obtain ⟨W3,hW3⟩:∃ W3,W3=((w.alloc (.cells #[I n,.slice A l.length c] 26)).alloc (.cells #[I f] 2)).alloc (.cells #[I 0,.slice none 0 0] 26):=⟨_,rfl⟩
 have hB:CB W3 w.heap.size n (.slice A l.length c):=by rw[hW3];exact blk_alloc (blk_alloc (blk_new w _) _) _
 have hF:W3.heap[w.heap.size+1]?=some (.cells #[I f] 2 (0,0)):=by
  rw[hW3]
  refine blk_alloc ?_ _
  have:=blk_new (w.alloc (.cells #[I n,.slice A l.length c] 26)) (.cells #[I f] 2)
  rwa [World.size_alloc] at this
 have hO:CB W3 (w.heap.size+2) 0 (.slice none 0 0):=by
  rw[hW3]
  have:=blk_new ((w.alloc (.cells #[I n,.slice A l.length c] 26)).alloc (.cells #[I f] 2)) (.cells #[I 0,.slice none 0 0] 26)
  rwa [World.size_alloc,World.size_alloc] at this
 have hg:Grew w W3:=by rw[hW3];exact below_alloc (below_alloc (below_alloc (Grew.refl w) _) _) _
 have H:=Aside0.mk (complexCode_calls (LinkOf_b n l f) n A c l 53 #[] #[.pointer (some ⟨w.heap.size,0,none⟩),.pointer (some ⟨w.heap.size+1,0,none⟩)] W3 (hk.later hg) (enters_of Tryz.func53 (by kernel_rfl) rfl)
  (fun hi W hW=>by
   have:=LinkOf1_calls n f (isC_size hi) w.heap.size (w.heap.size+1) A c l W (blk_below hB hW) (blk_cell (blk_below hF hW) 0) (hk.later (Grew.trans hg hW))
   rw[Array.empty_append]
   exact this))
 obtain ⟨r,hr⟩:∃ r,r=partOf n l (LinkOf_b n l f) (LinkOf_p l f):=⟨_,rfl⟩
 rw[← hr]
 have k0:=hB.c0
 have k1:=hB.c1
 have HK:=Aside0.mk hk
 have HB:=Aside0.mk hB
 have HF:=Aside0.mk hF
 have HO:=Aside0.mk hO
 have HG:=Aside0.mk hg
 clear hk hB hF hO hg
 obtain ⟨cc,hcc⟩:∃ cc,cc=codeOf n l (LinkOf_b n l f):=⟨_,rfl⟩
 rw[← hcc] at H
 by_cases hz:cc=0
 ·subst hz
  obtain ⟨hi,hb⟩:=codeOf_zero hcc.symm
  have HN:=Aside0.mk (isC_size hi)
  have HV:Aside0 (r=(n,thoseL n (fun x=>hasB l x && LinkOf_p l f x),0)):=⟨by rw[hr];unfold partOf;rw[if_pos hcc.symm]⟩
  clear hr hcc hi hb
  subst hW3
  go_enter Tryz.func7,Tryz.ntmps7
  go_wp2_with fail
  refine H.out.mono ?_
  rintro e w1 ⟨rfl,hG1⟩
  have HB1:=Aside0.mk (blk_below HB.out hG1)
  have HF1:=Aside0.mk (blk_below HF.out hG1)
  have HO1:=Aside0.mk (blk_below HO.out hG1)
  have HG1:=Aside0.mk (Grew.trans HG.out hG1)
  have H2:=Aside0.mk (part_calls (LinkOf_p l f) n (by have:=HN.out;omega) A c l 56 #[] #[.pointer (some ⟨w.heap.size+1,0,none⟩),.pointer (some ⟨w.heap.size,0,none⟩)] w1 (HK.out.later HG1.out) (enters_of Tryz.func56 (by kernel_rfl) rfl)
   (fun x _ _ _ W hW=>LinkOf2_calls x n f w.heap.size (w.heap.size+1) A c l W (blk_below HB1.out hW) (blk_cell (blk_below HF1.out hW) 0) (HK.out.later (Grew.trans HG1.out hW))))
  have k0:w1.cell? ⟨w.heap.size,0,none⟩=some (I n):=blk_cell HB1.out 0
  have k1:w1.cell? ⟨w.heap.size,1,none⟩=some (.slice A l.length c):=blk_cell HB1.out 1
  clear hG1
  go_wp2_with fail
  refine H2.out.mono ?_
  rintro e w2 ⟨v,rfl,hR,hG⟩
  clear k0 k1
  have hB2:CB w2 (w.heap.size+2) 0 (.slice none 0 0):=blk_below HO1.out hG
  have HB2:=Aside0.mk hB2
  have HR2:=Aside0.mk hR
  have HG2:=Aside0.mk (Grew.trans HG1.out hG)
  have hsz:=HG1.out.size
  have k0:=hB2.c0
  have k1:=hB2.c1
  have f0:=blk_frozen hB2 0
  have f1:=blk_frozen hB2 1
  obtain ⟨A2,c2,e2⟩:=Kd.R_slice hR
  subst e2
  clear hB2 hR hG
  go_wp2_with fail
  refine bodyPost_ret (results_ct rfl _ _ (w.heap.size+2) 26 #[I n,_] (0,0) _ rfl HB2.out.set Tryz.underlying26 rfl (by kernel_rfl)) rfl ?_
  rw[HV.out]
  exact⟨_,rfl,Kd.R_lower (Ri.setCB2 HR2.out HB2.out) hsz,below_set (below_set HG2.out (by omega)) (by omega)⟩
 ·have HV:Aside0 (r=(0,[],cc)):=⟨by rw[hr,hcc];unfold partOf;rw[if_neg (by rw[← hcc];exact hz)]⟩
  clear hr hcc
  subst hW3
  go_enter Tryz.func7,Tryz.ntmps7
  go_wp2_with fail
  refine H.out.mono ?_
  rintro e w1 ⟨rfl,hG1⟩
  clear k0 k1
  have hB1:CB w1 (w.heap.size+2) 0 (.slice none 0 0):=blk_below HO.out hG1
  have HB1:=Aside0.mk hB1
  have HG1:=Aside0.mk (Grew.trans HG.out hG1)
  have k0:=hB1.c0
  have k1:=hB1.c1
  have f0:=blk_frozen hB1 0
  have f1:=blk_frozen hB1 1
  clear hB1 hG1
  go_wp2_with fail
  refine bodyPost_ret (results_ct rfl _ _ (w.heap.size+2) 26 #[I 0,.slice none 0 0] (0,0) _ rfl HB1.out.set Tryz.underlying26 rfl (by kernel_rfl)) rfl ?_
  rw[HV.out]
  exact⟨_,rfl,Kd.R_nil _ _ _ _ _,below_set (below_set HG1.out (by omega)) (by omega)⟩
end Go.Proofs.YtlhkdbkjafiikaaGreat.K
end

section
namespace Go.Proofs.YtlhkdbkjafiikaaGreat.K
open Go.RowKit Go.Shelf Go.Proofs.YtlhkdbkjafiikaaGreatW.PrintWords Go.Proofs.YtlhkdbkjafiikaaGreatW.PrintLast Go.Proofs.YtlhkdbkjafiikaaGreatW.PrintMore
set_option linter.unusedVariables false
set_option linter.unusedSimpArgs false
set_option maxHeartbeats 1000000 in
theorem StarOf1_calls (n f:Int) (hn:1≤n∧n≤6) (Bk Bf:Nat) (A:Option Addr) (c:Nat) (l:List Int) (w:World) (hb:CB w Bk n (.slice A l.length c)) (hf:w.cell? ⟨Bf,0,none⟩=some (I f)) (hk:Kx w A c l) :
  Calls Tryz.prog 59 #[.pointer (some ⟨Bk,0,none⟩),.pointer (some ⟨Bf,0,none⟩)] w fun e w'=>e = .returned (.bool (hasB l f))∧Grew w w':=by
 have k0:=hb.c0
 have k1:=hb.c1
 have H:=Aside0.mk (hk.has n f)
 clear hk hb
 go_enter Tryz.func59,Tryz.ntmps59
 go_wp2_with fail
 refine H.out.mono ?_
 rintro e w1 ⟨rfl,hG1⟩
 go_wp2_with fail
 go_ret
 exact⟨rfl,hG1⟩
set_option maxHeartbeats 1000000 in
theorem StarOf2_calls (x n f:Int) (Bk Bf:Nat) (A:Option Addr) (c:Nat) (l:List Int) (w:World) (hb:CB w Bk n (.slice A l.length c)) (hf:w.cell? ⟨Bf,0,none⟩=some (I f)) (hk:Kx w A c l) :
  Calls Tryz.prog 60 (#[I x] ++ #[.pointer (some ⟨Bk,0,none⟩),.pointer (some ⟨Bf,0,none⟩)]) w fun e w'=>e = .returned (.bool (hasB l (Go.bits .or .i64 f x)))∧Grew w w':=by
 have k0:=hb.c0
 have k1:=hb.c1
 have H:=Aside0.mk (hk.has n (Go.bits .or .i64 f x))
 clear hk hb
 go_enter Tryz.func60,Tryz.ntmps60
 go_wp2_with fail
 refine H.out.mono ?_
 rintro e w1 ⟨rfl,hG1⟩
 go_wp2_with fail
 go_ret
 exact⟨rfl,hG1⟩
def StarOf_b (n:Int) (l:List Int) (f:Int):Bool:=hasB l f
def StarOf_p (l:List Int) (f x:Int):Bool:=hasB l (Go.bits .or .i64 f x)
set_option maxHeartbeats 2000000 in
theorem StarOf_calls (n:Int) (A:Option Addr) (c:Nat) (l:List Int) (f:Int) (w:World) (hk:Kx w A c l) :
  Calls Tryz.prog 9 #[.agg #[I n,.slice A l.length c],I f] w fun e w'=>∃ v,e = .returned (.tuple #[.agg #[I (partOf n l (StarOf_b n l f) (StarOf_p l f)).1,v],I (partOf n l (StarOf_b n l f) (StarOf_p l f)).2.2])∧Ki.R 2 w' w.heap.size (fun _=>True) v (partOf n l (StarOf_b n l f) (StarOf_p l f)).2.1∧Grew w w':=by
 obtain ⟨W3,hW3⟩:∃ W3,W3=((w.alloc (.cells #[I n,.slice A l.length c] 26)).alloc (.cells #[I f] 2)).alloc (.cells #[I 0,.slice none 0 0] 26):=⟨_,rfl⟩
 have hB:CB W3 w.heap.size n (.slice A l.length c):=by rw[hW3];exact blk_alloc (blk_alloc (blk_new w _) _) _
 have hF:W3.heap[w.heap.size+1]?=some (.cells #[I f] 2 (0,0)):=by
  rw[hW3]
  refine blk_alloc ?_ _
  have:=blk_new (w.alloc (.cells #[I n,.slice A l.length c] 26)) (.cells #[I f] 2)
  rwa [World.size_alloc] at this
 have hO:CB W3 (w.heap.size+2) 0 (.slice none 0 0):=by
  rw[hW3]
  have:=blk_new ((w.alloc (.cells #[I n,.slice A l.length c] 26)).alloc (.cells #[I f] 2)) (.cells #[I 0,.slice none 0 0] 26)
  rwa [World.size_alloc,World.size_alloc] at this
 have hg:Grew w W3:=by rw[hW3];exact below_alloc (below_alloc (below_alloc (Grew.refl w) _) _) _
 have H:=Aside0.mk (complexCode_calls (StarOf_b n l f) n A c l 59 #[] #[.pointer (some ⟨w.heap.size,0,none⟩),.pointer (some ⟨w.heap.size+1,0,none⟩)] W3 (hk.later hg) (enters_of Tryz.func59 (by kernel_rfl) rfl)
  (fun hi W hW=>by
   have:=StarOf1_calls n f (isC_size hi) w.heap.size (w.heap.size+1) A c l W (blk_below hB hW) (blk_cell (blk_below hF hW) 0) (hk.later (Grew.trans hg hW))
   rw[Array.empty_append]
   exact this))
 obtain ⟨r,hr⟩:∃ r,r=partOf n l (StarOf_b n l f) (StarOf_p l f):=⟨_,rfl⟩
 rw[← hr]
 have k0:=hB.c0
 have k1:=hB.c1
 have HK:=Aside0.mk hk
 have HB:=Aside0.mk hB
 have HF:=Aside0.mk hF
 have HO:=Aside0.mk hO
 have HG:=Aside0.mk hg
 clear hk hB hF hO hg
 obtain ⟨cc,hcc⟩:∃ cc,cc=codeOf n l (StarOf_b n l f):=⟨_,rfl⟩
 rw[← hcc] at H
 by_cases hz:cc=0
 ·subst hz
  obtain ⟨hi,hb⟩:=codeOf_zero hcc.symm
  have HN:=Aside0.mk (isC_size hi)
  have HV:Aside0 (r=(n,thoseL n (fun x=>hasB l x && StarOf_p l f x),0)):=⟨by rw[hr];unfold partOf;rw[if_pos hcc.symm]⟩
  clear hr hcc hi hb
  subst hW3
  go_enter Tryz.func9,Tryz.ntmps9
  go_wp2_with fail
  refine H.out.mono ?_
  rintro e w1 ⟨rfl,hG1⟩
  have HB1:=Aside0.mk (blk_below HB.out hG1)
  have HF1:=Aside0.mk (blk_below HF.out hG1)
  have HO1:=Aside0.mk (blk_below HO.out hG1)
  have HG1:=Aside0.mk (Grew.trans HG.out hG1)
  have H2:=Aside0.mk (part_calls (StarOf_p l f) n (by have:=HN.out;omega) A c l 60 #[] #[.pointer (some ⟨w.heap.size,0,none⟩),.pointer (some ⟨w.heap.size+1,0,none⟩)] w1 (HK.out.later HG1.out) (enters_of Tryz.func60 (by kernel_rfl) rfl)
   (fun x _ _ _ W hW=>StarOf2_calls x n f w.heap.size (w.heap.size+1) A c l W (blk_below HB1.out hW) (blk_cell (blk_below HF1.out hW) 0) (HK.out.later (Grew.trans HG1.out hW))))
  have k0:w1.cell? ⟨w.heap.size,0,none⟩=some (I n):=blk_cell HB1.out 0
  have k1:w1.cell? ⟨w.heap.size,1,none⟩=some (.slice A l.length c):=blk_cell HB1.out 1
  clear hG1
  go_wp2_with fail
  refine H2.out.mono ?_
  rintro e w2 ⟨v,rfl,hR,hG⟩
  clear k0 k1
  have hB2:CB w2 (w.heap.size+2) 0 (.slice none 0 0):=blk_below HO1.out hG
  have HB2:=Aside0.mk hB2
  have HR2:=Aside0.mk hR
  have HG2:=Aside0.mk (Grew.trans HG1.out hG)
  have hsz:=HG1.out.size
  have k0:=hB2.c0
  have k1:=hB2.c1
  have f0:=blk_frozen hB2 0
  have f1:=blk_frozen hB2 1
  obtain ⟨A2,c2,e2⟩:=Kd.R_slice hR
  subst e2
  clear hB2 hR hG
  go_wp2_with fail
  refine bodyPost_ret (results_ct rfl _ _ (w.heap.size+2) 26 #[I n,_] (0,0) _ rfl HB2.out.set Tryz.underlying26 rfl (by kernel_rfl)) rfl ?_
  rw[HV.out]
  exact⟨_,rfl,Kd.R_lower (Ri.setCB2 HR2.out HB2.out) hsz,below_set (below_set HG2.out (by omega)) (by omega)⟩
 ·have HV:Aside0 (r=(0,[],cc)):=⟨by rw[hr,hcc];unfold partOf;rw[if_neg (by rw[← hcc];exact hz)]⟩
  clear hr hcc
  subst hW3
  go_enter Tryz.func9,Tryz.ntmps9
  go_wp2_with fail
  refine H.out.mono ?_
  rintro e w1 ⟨rfl,hG1⟩
  clear k0 k1
  have hB1:CB w1 (w.heap.size+2) 0 (.slice none 0 0):=blk_below HO.out hG1
  have HB1:=Aside0.mk hB1
  have HG1:=Aside0.mk (Grew.trans HG.out hG1)
  have k0:=hB1.c0
  have k1:=hB1.c1
  have f0:=blk_frozen hB1 0
  have f1:=blk_frozen hB1 1
  clear hB1 hG1
  go_wp2_with fail
  refine bodyPost_ret (results_ct rfl _ _ (w.heap.size+2) 26 #[I 0,.slice none 0 0] (0,0) _ rfl HB1.out.set Tryz.underlying26 rfl (by kernel_rfl)) rfl ?_
  rw[HV.out]
  exact⟨_,rfl,Kd.R_nil _ _ _ _ _,below_set (below_set HG1.out (by omega)) (by omega)⟩
end Go.Proofs.YtlhkdbkjafiikaaGreat.K
end

section
namespace Go.Proofs.YtlhkdbkjafiikaaGreat.K
open Go.RowKit Go.Shelf Go.Proofs.YtlhkdbkjafiikaaGreatW.PrintWords Go.Proofs.YtlhkdbkjafiikaaGreatW.PrintLast Go.Proofs.YtlhkdbkjafiikaaGreatW.PrintMore
set_option linter.unusedVariables false
set_option linter.unusedSimpArgs false
set_option maxHeartbeats 1000000 in
theorem TakeFace1_calls (n f:Int) (hn:1≤n∧n≤6) (Bk Bf:Nat) (A:Option Addr) (c:Nat) (l:List Int) (w:World) (hb:CB w Bk n (.slice A l.length c)) (hf:w.cell? ⟨Bf,0,none⟩=some (I f)) (hk:Kx w A c l) :
  Calls Tryz.prog 62 #[.pointer (some ⟨Bk,0,none⟩),.pointer (some ⟨Bf,0,none⟩)] w fun e w'=>e = .returned (.bool (hasB l f))∧Grew w w':=by
 have k0:=hb.c0
 have k1:=hb.c1
 have H:=Aside0.mk (hk.has n f)
 clear hk hb
 go_enter Tryz.func62,Tryz.ntmps62
 go_wp2_with fail
 refine H.out.mono ?_
 rintro e w1 ⟨rfl,hG1⟩
 go_wp2_with fail
 go_ret
 exact⟨rfl,hG1⟩
set_option maxHeartbeats 1000000 in
theorem TakeFace2_calls (x n f:Int) (Bk Bf:Nat) (A:Option Addr) (c:Nat) (l:List Int) (w:World) (hb:CB w Bk n (.slice A l.length c)) (hf:w.cell? ⟨Bf,0,none⟩=some (I f)) (hk:Kx w A c l) :
  Calls Tryz.prog 63 (#[I x] ++ #[.pointer (some ⟨Bf,0,none⟩)]) w fun e w'=>e = .returned (.bool (!inB f x))∧Grew w w':=by
 have H:=Aside0.mk (isIn_calls f x w)
 clear hk hb
 go_enter Tryz.func63,Tryz.ntmps63
 go_wp2_with fail
 refine H.out.mono ?_
 rintro e w1 ⟨rfl,hG1⟩
 go_wp2_with fail
 go_ret
 exact⟨rfl,hG1⟩
def TakeFace_b (n:Int) (l:List Int) (f:Int):Bool:=hasB l f
def TakeFace_p (l:List Int) (f x:Int):Bool:=!inB f x
set_option maxHeartbeats 2000000 in
theorem TakeFace_calls (n:Int) (A:Option Addr) (c:Nat) (l:List Int) (f:Int) (w:World) (hk:Kx w A c l) :
  Calls Tryz.prog 11 #[.agg #[I n,.slice A l.length c],I f] w fun e w'=>∃ v,e = .returned (.tuple #[.agg #[I (partOf n l (TakeFace_b n l f) (TakeFace_p l f)).1,v],I (partOf n l (TakeFace_b n l f) (TakeFace_p l f)).2.2])∧Ki.R 2 w' w.heap.size (fun _=>True) v (partOf n l (TakeFace_b n l f) (TakeFace_p l f)).2.1∧Grew w w':=by
 obtain ⟨W3,hW3⟩:∃ W3,W3=((w.alloc (.cells #[I n,.slice A l.length c] 26)).alloc (.cells #[I f] 2)).alloc (.cells #[I 0,.slice none 0 0] 26):=⟨_,rfl⟩
 have hB:CB W3 w.heap.size n (.slice A l.length c):=by rw[hW3];exact blk_alloc (blk_alloc (blk_new w _) _) _
 have hF:W3.heap[w.heap.size+1]?=some (.cells #[I f] 2 (0,0)):=by
  rw[hW3]
  refine blk_alloc ?_ _
  have:=blk_new (w.alloc (.cells #[I n,.slice A l.length c] 26)) (.cells #[I f] 2)
  rwa [World.size_alloc] at this
 have hO:CB W3 (w.heap.size+2) 0 (.slice none 0 0):=by
  rw[hW3]
  have:=blk_new ((w.alloc (.cells #[I n,.slice A l.length c] 26)).alloc (.cells #[I f] 2)) (.cells #[I 0,.slice none 0 0] 26)
  rwa [World.size_alloc,World.size_alloc] at this
 have hg:Grew w W3:=by rw[hW3];exact below_alloc (below_alloc (below_alloc (Grew.refl w) _) _) _
 have H:=Aside0.mk (complexCode_calls (TakeFace_b n l f) n A c l 62 #[] #[.pointer (some ⟨w.heap.size,0,none⟩),.pointer (some ⟨w.heap.size+1,0,none⟩)] W3 (hk.later hg) (enters_of Tryz.func62 (by kernel_rfl) rfl)
  (fun hi W hW=>by
   have:=TakeFace1_calls n f (isC_size hi) w.heap.size (w.heap.size+1) A c l W (blk_below hB hW) (blk_cell (blk_below hF hW) 0) (hk.later (Grew.trans hg hW))
   rw[Array.empty_append]
   exact this))
 obtain ⟨r,hr⟩:∃ r,r=partOf n l (TakeFace_b n l f) (TakeFace_p l f):=⟨_,rfl⟩
 rw[← hr]
 have k0:=hB.c0
 have k1:=hB.c1
 have HK:=Aside0.mk hk
 have HB:=Aside0.mk hB
 have HF:=Aside0.mk hF
 have HO:=Aside0.mk hO
 have HG:=Aside0.mk hg
 clear hk hB hF hO hg
 obtain ⟨cc,hcc⟩:∃ cc,cc=codeOf n l (TakeFace_b n l f):=⟨_,rfl⟩
 rw[← hcc] at H
 by_cases hz:cc=0
 ·subst hz
  obtain ⟨hi,hb⟩:=codeOf_zero hcc.symm
  have HN:=Aside0.mk (isC_size hi)
  have HV:Aside0 (r=(n,thoseL n (fun x=>hasB l x && TakeFace_p l f x),0)):=⟨by rw[hr];unfold partOf;rw[if_pos hcc.symm]⟩
  clear hr hcc hi hb
  subst hW3
  go_enter Tryz.func11,Tryz.ntmps11
  go_wp2_with fail
  refine H.out.mono ?_
  rintro e w1 ⟨rfl,hG1⟩
  have HB1:=Aside0.mk (blk_below HB.out hG1)
  have HF1:=Aside0.mk (blk_below HF.out hG1)
  have HO1:=Aside0.mk (blk_below HO.out hG1)
  have HG1:=Aside0.mk (Grew.trans HG.out hG1)
  have H2:=Aside0.mk (part_calls (TakeFace_p l f) n (by have:=HN.out;omega) A c l 63 #[] #[.pointer (some ⟨w.heap.size+1,0,none⟩)] w1 (HK.out.later HG1.out) (enters_of Tryz.func63 (by kernel_rfl) rfl)
   (fun x _ _ _ W hW=>TakeFace2_calls x n f w.heap.size (w.heap.size+1) A c l W (blk_below HB1.out hW) (blk_cell (blk_below HF1.out hW) 0) (HK.out.later (Grew.trans HG1.out hW))))
  have k0:w1.cell? ⟨w.heap.size,0,none⟩=some (I n):=blk_cell HB1.out 0
  have k1:w1.cell? ⟨w.heap.size,1,none⟩=some (.slice A l.length c):=blk_cell HB1.out 1
  clear hG1
  go_wp2_with fail
  refine H2.out.mono ?_
  rintro e w2 ⟨v,rfl,hR,hG⟩
  clear k0 k1
  have hB2:CB w2 (w.heap.size+2) 0 (.slice none 0 0):=blk_below HO1.out hG
  have HB2:=Aside0.mk hB2
  have HR2:=Aside0.mk hR
  have HG2:=Aside0.mk (Grew.trans HG1.out hG)
  have hsz:=HG1.out.size
  have k0:=hB2.c0
  have k1:=hB2.c1
  have f0:=blk_frozen hB2 0
  have f1:=blk_frozen hB2 1
  obtain ⟨A2,c2,e2⟩:=Kd.R_slice hR
  subst e2
  clear hB2 hR hG
  go_wp2_with fail
  refine bodyPost_ret (results_ct rfl _ _ (w.heap.size+2) 26 #[I n,_] (0,0) _ rfl HB2.out.set Tryz.underlying26 rfl (by kernel_rfl)) rfl ?_
  rw[HV.out]
  exact⟨_,rfl,Kd.R_lower (Ri.setCB2 HR2.out HB2.out) hsz,below_set (below_set HG2.out (by omega)) (by omega)⟩
 ·have HV:Aside0 (r=(0,[],cc)):=⟨by rw[hr,hcc];unfold partOf;rw[if_neg (by rw[← hcc];exact hz)]⟩
  clear hr hcc
  subst hW3
  go_enter Tryz.func11,Tryz.ntmps11
  go_wp2_with fail
  refine H.out.mono ?_
  rintro e w1 ⟨rfl,hG1⟩
  clear k0 k1
  have hB1:CB w1 (w.heap.size+2) 0 (.slice none 0 0):=blk_below HO.out hG1
  have HB1:=Aside0.mk hB1
  have HG1:=Aside0.mk (Grew.trans HG.out hG1)
  have k0:=hB1.c0
  have k1:=hB1.c1
  have f0:=blk_frozen hB1 0
  have f1:=blk_frozen hB1 1
  clear hB1 hG1
  go_wp2_with fail
  refine bodyPost_ret (results_ct rfl _ _ (w.heap.size+2) 26 #[I 0,.slice none 0 0] (0,0) _ rfl HB1.out.set Tryz.underlying26 rfl (by kernel_rfl)) rfl ?_
  rw[HV.out]
  exact⟨_,rfl,Kd.R_nil _ _ _ _ _,below_set (below_set HG1.out (by omega)) (by omega)⟩
end Go.Proofs.YtlhkdbkjafiikaaGreat.K
end

section
namespace Go.Proofs.YtlhkdbkjafiikaaGreat.K
open Go.RowKit Go.Shelf Go.Proofs.YtlhkdbkjafiikaaGreatW.PrintWords Go.Proofs.YtlhkdbkjafiikaaGreatW.PrintLast Go.Proofs.YtlhkdbkjafiikaaGreatW.PrintMore
set_option linter.unusedVariables false
set_option linter.unusedSimpArgs false
theorem part_filter {n:Int} {l:List Int} (h:isC n l=true) (p:Int→Bool):partOf n l true p=(n,l.filter p,0):=by
 have:codeOf n l true=0:=by simp [codeOf,h]
 unfold partOf
 rw[if_pos this,those_filter h]
theorem partOf_length (n:Int) (l:List Int) (b:Bool) (p:Int→Bool):(partOf n l b p).2.1.length≤63:=by
 unfold partOf
 by_cases h:codeOf n l b=0
 ·rw[if_pos h]
  have hn:=isC_size (codeOf_zero h).1
  have h2:=upTo_filter_length (fun x=>hasB l x && p x) (2 ^ n.toNat - 1)
  have h3:2 ^ n.toNat≤2 ^ 6:=Nat.pow_le_pow_right (by omega) (by omega)
  show (thoseL n _).length≤63
  unfold thoseL
  omega
 ·rw[if_neg h]
  exact Nat.zero_le _
end Go.Proofs.YtlhkdbkjafiikaaGreat.K
end

section
namespace Go.Proofs.YtlhkdbkjafiikaaGreat.K
open Go.RowKit Go.Shelf Go.Proofs.YtlhkdbkjafiikaaGreat.Q Go.Proofs.YtlhkdbkjafiikaaGreatW.PrintWords Go.Proofs.YtlhkdbkjafiikaaGreatW.PrintLast Go.Proofs.YtlhkdbkjafiikaaGreatW.PrintMore
set_option linter.unusedVariables false
set_option linter.unusedSimpArgs false
theorem len_ext {a b:List Int} (ha:a.Nodup) (hb:b.Nodup) (h:∀ x,x ∈ a↔x ∈ b):a.length=b.length:=((List.perm_ext_iff_of_nodup ha hb).2 h).length_eq
theorem asc_nodup {l:List Int} (h:l.Pairwise (· < ·)):l.Nodup:=h.imp (fun h e=>by omega)
theorem has_mem {n:Int} {l:List Int} (hi:isC n l=true) (x:Int):hasB l x=decide (x ∈ l):=by
 have h:=isC_faces hi
 exact has_asc l x (by have:=h.2.2.2;omega) h.2.1
theorem or_self_64:∀ a:Fin 64,Go.bits .or .i64 (a.val:Int) (a.val:Int)=(a.val:Int):=by decide +kernel
theorem or_back_64:∀ a b:Fin 64,Go.bits .and .i64 (a.val:Int) (b.val:Int)=0→Go.bits .andNot .i64 (Go.bits .or .i64 (a.val:Int) (b.val:Int)) (a.val:Int)=(b.val:Int):=by decide +kernel
theorem less_64:∀ a b:Fin 64,inB (a.val:Int) (b.val:Int)=true→a≠b→Go.bits .and .i64 (a.val:Int) (Go.bits .andNot .i64 (b.val:Int) (a.val:Int))=0∧Go.bits .or .i64 (a.val:Int) (Go.bits .andNot .i64 (b.val:Int) (a.val:Int))=(b.val:Int)∧1≤Go.bits .andNot .i64 (b.val:Int) (a.val:Int)∧Go.bits .andNot .i64 (b.val:Int) (a.val:Int)≤63∧inB (Go.bits .andNot .i64 (b.val:Int) (a.val:Int)) (b.val:Int)=true:=by decide +kernel
theorem more_64:∀ a b:Fin 64,Go.bits .and .i64 (a.val:Int) (b.val:Int)=0→b.val≠0→inB (a.val:Int) (Go.bits .or .i64 (a.val:Int) (b.val:Int))=true∧Go.bits .or .i64 (a.val:Int) (b.val:Int)≠(a.val:Int):=by decide +kernel
theorem link_facts {n f:Int} {l:List Int} (hc:(partOf n l (LinkOf_b n l f) (LinkOf_p l f)).2.2=0) :
  (∀ x ∈ (partOf n l (LinkOf_b n l f) (LinkOf_p l f)).2.1,Go.bits .or .i64 x f ∈ l∧x ∈ (partOf n l (StarOf_b n l f) (StarOf_p l f)).2.1)∧f ∈ (partOf n l (StarOf_b n l f) (StarOf_p l f)).2.1 ∧
  ¬ f ∈ (partOf n l (TakeFace_b n l f) (TakeFace_p l f)).2.1∧(partOf n l (TakeFace_b n l f) (TakeFace_p l f)).2.1.length+(partOf n l (LinkOf_b n l f) (LinkOf_p l f)).2.1.length+1=l.length:=by
 have h0:codeOf n l (LinkOf_b n l f)=0:=by
  unfold partOf at hc
  by_cases h:codeOf n l (LinkOf_b n l f)=0
  ·exact h
  ·rw[if_neg h] at hc
   exact hc
 have hz:=codeOf_zero h0
 have hi:=hz.1
 have hI:=isC_faces hi
 have hmf:f ∈ l:=by
  have:=hz.2
  unfold LinkOf_b at this
  rw[has_mem hi] at this
  exact of_decide_eq_true this
 have hrf:=hI.2.2.1 f hmf
 have hs:codeOf n l (StarOf_b n l f)=0:=h0
 have ht:codeOf n l (TakeFace_b n l f)=0:=h0
 unfold partOf
 rw[if_pos h0,if_pos hs,if_pos ht,those_filter hi,those_filter hi,those_filter hi]
 dsimp only
 have hL:∀ x,x ∈ l.filter (LinkOf_p l f)↔x ∈ l∧Go.bits .and .i64 f x=0∧Go.bits .or .i64 f x ∈ l:=by
  intro x
  rw[List.mem_filter]
  unfold LinkOf_p
  rw[has_mem hi]
  simp
 have hS:∀ x,x ∈ l.filter (StarOf_p l f)↔x ∈ l∧Go.bits .or .i64 f x ∈ l:=by
  intro x
  rw[List.mem_filter]
  unfold StarOf_p
  rw[has_mem hi]
  simp
 refine⟨fun x hx=>?_,?_,?_,?_⟩
 ·have h:=(hL x).1 hx
  have hr:=hI.2.2.1 x h.1
  exact⟨by rw[or_comm' x f ⟨by omega,hr.2.2⟩ ⟨by omega,hrf.2.2⟩];exact h.2.2,(hS x).2 ⟨h.1,h.2.2⟩⟩
 ·refine(hS f).2 ⟨hmf,?_⟩
  have:=small2 (P:=fun x y=>x=y→Go.bits .or .i64 x y=x) (fun a b e=>by have e':a=b:=Fin.ext (by omega);subst e';exact or_self_64 a) f f ⟨by omega,hrf.2.2⟩ ⟨by omega,hrf.2.2⟩ rfl
  rw[this]
  exact hmf
 ·intro h
  have:=(List.mem_filter.1 h).2
  unfold TakeFace_p at this
  rw[inB_refl f ⟨by omega,hrf.2.2⟩] at this
  cases this
 ·have hlen:∀(p:Int→Bool) (q:List Int),(q.filter fun x=>!p x).length+(q.filter p).length=q.length:=by
   intro p q
   induction q with
   |nil=>rfl
   |cons x q ih=>
    cases hp:p x <;> simp [hp] <;> omega
  have h1:=hlen (fun x=>inB f x) l
  have hnd:=asc_nodup hI.2.1
  have h2:(f :: (l.filter (LinkOf_p l f)).map (Go.bits .or .i64 f)).length=(l.filter fun x=>inB f x).length:=by
   refine len_ext ?_ (hnd.filter _) ?_
   ·rw[List.nodup_cons]
    refine⟨fun h=>?_,?_⟩
    ·obtain ⟨x,hx,e⟩:=List.mem_map.1 h
     have hx:=(hL x).1 hx
     have hr:=hI.2.2.1 x hx.1
     exact(small2 (P:=fun x y=>Go.bits .and .i64 x y=0→1≤y→inB x (Go.bits .or .i64 x y)=true∧Go.bits .or .i64 x y≠x) (fun a b h0 h1=>more_64 a b h0 (by omega)) f x ⟨by omega,hrf.2.2⟩ ⟨by omega,hr.2.2⟩ hx.2.1 hr.1).2 e
    ·rw[List.Nodup,List.pairwise_map]
     refine(hnd.filter _).imp_of_mem ?_
     intro x y hx hy hne e
     have hx:=(hL x).1 hx
     have hy:=(hL y).1 hy
     have hrx:=hI.2.2.1 x hx.1
     have hry:=hI.2.2.1 y hy.1
     have ex:=small2 (P:=fun x y=>Go.bits .and .i64 x y=0→Go.bits .andNot .i64 (Go.bits .or .i64 x y) x=y) or_back_64 f x ⟨by omega,hrf.2.2⟩ ⟨by omega,hrx.2.2⟩ hx.2.1
     have ey:=small2 (P:=fun x y=>Go.bits .and .i64 x y=0→Go.bits .andNot .i64 (Go.bits .or .i64 x y) x=y) or_back_64 f y ⟨by omega,hrf.2.2⟩ ⟨by omega,hry.2.2⟩ hy.2.1
     exact hne (by rw[← ex,← ey,e])
   ·intro g
    rw[List.mem_cons,List.mem_map,List.mem_filter]
    constructor
    ·rintro (rfl|⟨x,hx,rfl⟩)
     ·exact⟨hmf,inB_refl _ ⟨by omega,hrf.2.2⟩⟩
     ·have hx:=(hL x).1 hx
      have hr:=hI.2.2.1 x hx.1
      exact⟨hx.2.2,(small2 (P:=fun x y=>Go.bits .and .i64 x y=0→1≤y→inB x (Go.bits .or .i64 x y)=true∧Go.bits .or .i64 x y≠x) (fun a b h0 h1=>more_64 a b h0 (by omega)) f x ⟨by omega,hrf.2.2⟩ ⟨by omega,hr.2.2⟩ hx.2.1 hr.1).1⟩
    ·rintro ⟨hg,hin⟩
     by_cases e:g=f
     ·exact Or.inl e
     ·right
      have hr:=hI.2.2.1 g hg
      have h:=small2 (P:=fun a b=>inB a b=true→a≠b→Go.bits .and .i64 a (Go.bits .andNot .i64 b a)=0∧Go.bits .or .i64 a (Go.bits .andNot .i64 b a)=b∧1≤Go.bits .andNot .i64 b a∧Go.bits .andNot .i64 b a≤63∧inB (Go.bits .andNot .i64 b a) b=true)
       (fun a b h1 h2=>less_64 a b h1 (fun e=>h2 (by rw[e]))) f g ⟨by omega,hrf.2.2⟩ ⟨by omega,hr.2.2⟩ hin (fun e'=>e e'.symm)
      exact⟨_,(hL _).2 ⟨sub_in hi _ g ⟨h.2.2.1,h.2.2.2.1⟩ hg h.2.2.2.2,h.1,by rw[h.2.1];exact hg⟩,h.2.1⟩
  have h3:(l.filter (TakeFace_p l f)).length=(l.filter fun x=>!inB f x).length:=rfl
  rw[List.length_cons,List.length_map] at h2
  rw[h3]
  omega
end Go.Proofs.YtlhkdbkjafiikaaGreat.K
end

section
namespace Go.Proofs.YtlhkdbkjafiikaaGreat.K
open Go.RowKit Go.Shelf Go.Proofs.YtlhkdbkjafiikaaGreat.Q Go.Proofs.YtlhkdbkjafiikaaGreatW.PrintWords Go.Proofs.YtlhkdbkjafiikaaGreatW.PrintLast Go.Proofs.YtlhkdbkjafiikaaGreatW.PrintMore
set_option linter.unusedVariables false
set_option linter.unusedSimpArgs false
def sgI (f:Int):Int:=1 - 2*(Int.tmod (dimI f) 2)
theorem sg_64:∀(x:Fin 64) (n:Fin 7),x.val / 2 ^ n.val≠0→(x.val % 2 ^ n.val≠0→sgI (x.val:Int) = - (sgI ((x.val / 2 ^ n.val:Nat):Int)*sgI ((x.val % 2 ^ n.val:Nat):Int)))∧(x.val % 2 ^ n.val=0→sgI (x.val:Int)=sgI ((x.val / 2 ^ n.val:Nat):Int)):=by decide +kernel
theorem euler_app (a b:List Int):eulerI (a ++ b)=eulerI a+eulerI b:=by simp [eulerI]
theorem sg_range (f:Int) (h:1≤f∧f≤63): -1≤sgI f∧sgI f≤1:=by
 unfold sgI
 have h0:=dim_pos f h.1 h.2
 have h2:=Int.tmod_lt_of_pos (dimI f) (show (0:Int)<2 by omega)
 have h1:=Int.tmod_nonneg 2 h0
 omega
theorem euler_range:∀(l:List Int),(∀ x ∈ l,1≤x∧x≤63) → -(l.length:Int)≤eulerI l∧eulerI l≤l.length
 |[],_=>by simp [eulerI]
 |x :: l,h=>by
  have h1:=sg_range x (h x List.mem_cons_self)
  have h2:=euler_range l (fun y hy=>h y (List.mem_cons_of_mem _ hy))
  rw[eulerI_cons,List.length_cons]
  unfold sgI at h1
  omega
theorem sg_join (n:Nat) (hn:n≤6) (g a:Int) (hg:1≤g) (ha:0≤a∧a<2 ^ n) (h:g*2 ^ n+a≤63):(a≠0→sgI (g*2 ^ n+a) = - (sgI g*sgI a))∧(a=0→sgI (g*2 ^ n)=sgI g):=by
 obtain ⟨g,rfl⟩:=Int.eq_ofNat_of_zero_le (show 0≤g by omega)
 obtain ⟨a,rfl⟩:=Int.eq_ofNat_of_zero_le ha.1
 have hp:0<2 ^ n:=Nat.two_pow_pos n
 have ha2:a<2 ^ n:=by have:=ha.2;exact_mod_cast this
 have hx:g*2 ^ n+a≤63:=by exact_mod_cast h
 have e1:(g*2 ^ n+a) / 2 ^ n=g:=by rw[Nat.mul_comm,Nat.mul_add_div hp,Nat.div_eq_of_lt ha2,Nat.add_zero]
 have e2:(g*2 ^ n+a) % 2 ^ n=a:=by rw[Nat.mul_comm,Nat.mul_add_mod,Nat.mod_eq_of_lt ha2]
 have:=sg_64 ⟨g*2 ^ n+a,by omega⟩ ⟨n,by omega⟩ (by show (g*2 ^ n+a) / 2 ^ n≠0;rw[e1];omega)
 simp only [e1,e2] at this
 have ec:((g*2 ^ n+a:Nat):Int)=(g:Int)*2 ^ n+(a:Int):=by push_cast;rfl
 rw[ec] at this
 refine⟨fun h=>this.1 (by omega),fun h=>?_⟩
 have ha0:a=0:=by omega
 subst ha0
 simpa using this.2 rfl
theorem euler_blk (n:Nat) (hn:n≤6) (g:Int) (hg:1≤g):∀(k:List Int),(∀ a ∈ k,1≤a∧a<2 ^ n∧g*2 ^ n+a≤63)→eulerI (k.map fun a=>g*2 ^ n+a) = - (sgI g*eulerI k)
 |[],_=>by simp [eulerI]
 |a :: k,h=>by
  have h1:=h a List.mem_cons_self
  rw[List.map_cons,eulerI_cons,eulerI_cons,euler_blk n hn g hg k (fun y hy=>h y (List.mem_cons_of_mem _ hy))]
  have h2:=(sg_join n hn g a hg ⟨by omega,h1.2.1⟩ h1.2.2).1 (by omega)
  unfold sgI at h2 ⊢
  rw[h2,Int.mul_add]
  omega
theorem euler_join (n:Nat) (hn:n≤6) (k:List Int):∀(l:List Int),(∀ g ∈ l,1≤g∧g*2 ^ n≤63∧∀ a ∈ k,1≤a∧a<2 ^ n∧g*2 ^ n+a≤63)→eulerI (l.flatMap (blkL (2 ^ n) k))=eulerI l*(1 - eulerI k)
 |[],_=>by simp [eulerI]
 |g :: l,h=>by
  have h1:=h g List.mem_cons_self
  rw[List.flatMap_cons,euler_app,euler_join n hn k l (fun y hy=>h y (List.mem_cons_of_mem _ hy)),eulerI_cons]
  unfold blkL
  rw[eulerI_cons,euler_blk n hn g h1.1 k h1.2.2]
  have h2:=(sg_join n hn g 0 h1.1 ⟨Int.le_refl _,Int.pow_pos (by omega)⟩ (by omega)).2 rfl
  unfold sgI at h2 ⊢
  rw[h2,Int.add_mul]
  simp only [Int.mul_sub,Int.mul_one]
  omega
theorem join_length (p:Int) (k l:List Int):(joinL p k l).length=k.length+l.length*(k.length+1):=by
 unfold joinL
 rw[List.length_append]
 congr 1
 induction l with
 |nil=>simp
 |cons g l ih=>rw[List.flatMap_cons,List.length_append,ih,blk_length,List.length_cons,Nat.add_mul];omega
theorem cut_64:∀(a b:Fin 64),inB (a.val:Int) (b.val:Int)=true→∀ n:Fin 7,inB ((a.val:Int) % 2 ^ n.val) ((b.val:Int) % 2 ^ n.val)=true∧inB ((a.val:Int) / 2 ^ n.val) ((b.val:Int) / 2 ^ n.val)=true:=by decide +kernel
theorem in_zero_64:∀ a:Fin 64,inB (a.val:Int) 0=true→a.val=0:=by decide +kernel
theorem join_facts {n m:Int} {k l:List Int} (hc:(joinOf n k m l).2.2=0) :
  isC n k=true∧isC m l=true∧isC (joinOf n k m l).1 (joinOf n k m l).2.1=true∧eulerI (joinOf n k m l).2.1=eulerI k+eulerI l - eulerI k*eulerI l∧(joinOf n k m l).2.1.length=k.length+l.length*(k.length+1):=by
 unfold joinOf at hc ⊢
 by_cases hb:isC n k=true∧isC m l=true
 ·rw[if_pos hb] at hc ⊢
  by_cases h6:6<n+m
  ·rw[if_pos h6] at hc
   cases hc
  ·rw[if_neg h6] at hc ⊢
   obtain ⟨hk,hl⟩:=hb
   have hK:=isC_faces hk
   have hL:=isC_faces hl
   refine⟨hk,hl,?_,?_,?_⟩
   ·refine those_isC ⟨by omega,by omega⟩ (fun f b hf1 hf hb hp=>?_)
    have hs:=bords_sub ⟨by omega,hf⟩ hb
    obtain ⟨N,hN⟩:=Int.eq_ofNat_of_zero_le (show 0≤n by omega)
    have hn6:N≤6:=by omega
    have hc:=small2 (P:=fun x y=>inB x y=true→inB (x % 2 ^ N) (y % 2 ^ N)=true∧inB (x / 2 ^ N) (y / 2 ^ N)=true) (fun x y h=>cut_64 x y h ⟨N,by omega⟩) b f ⟨by omega,by omega⟩ ⟨by omega,hf⟩ hs.2.2
    have hN0:n.toNat=N:=by omega
    have hpp:(1:Int)≤2 ^ N:=Int.pow_pos (by omega)
    have hz:∀(q:Int) (t:List Int) (d:Int),isC d t=true→∀ x y:Int,(0≤x∧x≤63)→(0≤y∧y≤63)→inB x y=true→(y == 0 ||hasB t y)=true→(x == 0 ||hasB t x)=true:=by
     intro q t d ht x y hx hy hin h
     rw[has_mem ht] at h ⊢
     by_cases hx0:x=0
     ·simp [hx0]
     ·have hy0:y≠0:=by
       intro e
       subst e
       have:=small2 (P:=fun a b=>inB a 0=true→a=0) (fun a b h=>by have:=in_zero_64 a h;omega) x 0 hx ⟨by omega,by omega⟩ hin
       exact hx0 this
      have hym:y ∈ t:=by simpa [hy0] using h
      have:=sub_in ht x y ⟨by omega,hx.2⟩ hym hin
      simp [this]
    unfold joinP at hp ⊢
    rw[and_full b n ⟨by omega,by omega⟩ ⟨by omega,by omega⟩,hN0]
    rw[and_full f n ⟨by omega,by omega⟩ ⟨by omega,by omega⟩,hN0] at hp
    rw[Bool.and_eq_true] at hp ⊢
    have r1:∀ x:Int,0≤x∧x≤63→(0≤x % 2 ^ N∧x % 2 ^ N≤63)∧(0≤x / 2 ^ N∧x / 2 ^ N≤63):=fun x hx=>by
     have h1:=Int.emod_nonneg x (show (2:Int) ^ N≠0 by omega)
     have h2:=Int.mul_ediv_add_emod x (2 ^ N)
     have h5:=Int.mul_nonneg (show (0:Int)≤2 ^ N by omega) (Int.ediv_nonneg hx.1 (show (0:Int)≤2 ^ N by omega))
     have h3:=Int.ediv_nonneg hx.1 (show (0:Int)≤2 ^ N by omega)
     have h4:=Int.ediv_le_self (2 ^ N) hx.1
     omega
    exact⟨hz 0 k n hk _ _ (r1 b ⟨by omega,by omega⟩).1 (r1 f ⟨by omega,hf⟩).1 hc.1 hp.1,hz 0 l m hl _ _ (r1 b ⟨by omega,by omega⟩).2 (r1 f ⟨by omega,hf⟩).2 hc.2 hp.2⟩
   ·show eulerI (thoseL (n+m) (joinP n k l))=_
    rw[join_eq hk hl (by omega)]
    unfold joinL
    obtain ⟨N,hN⟩:=Int.eq_ofNat_of_zero_le (show 0≤n by omega)
    obtain ⟨M,hM⟩:=Int.eq_ofNat_of_zero_le (show 0≤m by omega)
    have hN0:n.toNat=N:=by omega
    have hM0:m.toNat=M:=by omega
    rw[hN0,euler_app,euler_join N (by omega) k l,Int.mul_sub,Int.mul_one,Int.mul_comm (eulerI l)]
    ·omega
    ·intro g hg
     have h1:=hL.2.2.1 g hg
     have h2:∀ a ∈ k,1≤a∧a<2 ^ N:=fun a ha=>by
      have:=hK.2.2.1 a ha
      unfold fullOf at this
      rw[hN0] at this
      omega
     have hg2:g≤2 ^ M - 1:=by
      have:=h1.2.1
      unfold fullOf at this
      rw[hM0] at this
      exact this
     have hpp:(1:Int)≤2 ^ N:=Int.pow_pos (by omega)
     have hq:(2:Int) ^ M*2 ^ N≤64:=by
      rw[← Int.pow_add]
      have:M+N≤6:=by omega
      have h64:(2:Int) ^ (M+N)≤2 ^ 6:=by
       have:=Nat.pow_le_pow_right (show 0<2 by omega) this
       exact_mod_cast this
      exact h64
     have hgp:g*2 ^ N≤(2 ^ M - 1)*2 ^ N:=Int.mul_le_mul_of_nonneg_right hg2 (by omega)
     rw[Int.sub_mul,Int.one_mul] at hgp
     exact⟨h1.1,by omega,fun a ha=>⟨(h2 a ha).1,(h2 a ha).2,by have:=(h2 a ha).2;omega⟩⟩
   ·show (thoseL (n+m) (joinP n k l)).length=_
    rw[join_eq hk hl (by omega),join_length]
 ·rw[if_neg hb] at hc
  cases hc
theorem one_euler:eulerI [1]=1:=by decide +kernel
end Go.Proofs.YtlhkdbkjafiikaaGreat.K
end

section
namespace Go.Proofs.YtlhkdbkjafiikaaGreat.K
open Go.RowKit Go.Shelf Go.Proofs.YtlhkdbkjafiikaaGreat.Q Go.Proofs.YtlhkdbkjafiikaaGreatW.PrintWords Go.Proofs.YtlhkdbkjafiikaaGreatW.PrintLast Go.Proofs.YtlhkdbkjafiikaaGreatW.PrintMore
set_option linter.unusedVariables false
set_option linter.unusedSimpArgs false
def bitsL (f:Nat):List Int:=((List.range 6).filter fun v=>f.testBit v).map fun v:Nat=>(v:Int)
theorem bits_64:∀ f:Fin 64,onesI (f.val:Int)=((bitsL f.val).length:Int):=by decide +kernel
theorem bits_nodup (f:Nat):(bitsL f).Nodup:=by
 unfold bitsL
 rw[List.Nodup,List.pairwise_map]
 exact(List.nodup_range.filter _).imp (fun h e=>h (by omega))
theorem mem_bits (f:Nat) (hf:f<64) (x:Int):x ∈ bitsL f↔∃ v:Nat,x=v∧f.testBit v=true:=by
 unfold bitsL
 rw[List.mem_map]
 constructor
 ·rintro ⟨v,hv,rfl⟩
  exact⟨v,rfl,(List.mem_filter.1 hv).2⟩
 ·rintro ⟨v,rfl,hv⟩
  refine⟨v,List.mem_filter.2 ⟨List.mem_range.2 ?_,hv⟩,rfl⟩
  apply Classical.byContradiction
  intro h
  have:64≤2 ^ v:=Nat.le_trans (show 64≤2 ^ 6 by decide) (Nat.pow_le_pow_right (by omega) (by omega))
  rw[Nat.testBit_lt_two_pow (by omega)] at hv
  cases hv
theorem img_dim {n:Int} {p:List Int} (hn:1≤n∧n≤6) (ho:ordB n p=true) (f:Nat) (hf:(f:Int)≤fullOf n):dimI (imgN p (f:Int):Int)=dimI (f:Int):=by
 have hF:=full_range n hn
 have hlt:=img_lt hn ho f hf
 have h64:imgN p (f:Int)<64:=Nat.lt_of_lt_of_le hlt (Nat.le_trans (Nat.pow_le_pow_right (by omega) (show n.toNat≤6 by omega)) (by decide))
 have hlen:((bitsL f).map fun v=>rd p v).length=(bitsL (imgN p (f:Int))).length:=by
  refine len_ext ?_ (bits_nodup _) (fun x=>?_)
  ·rw[List.Nodup,List.pairwise_map]
   refine(bits_nodup f).imp_of_mem ?_
   intro a b ha hb hne e
   obtain ⟨u,rfl,hu⟩:=(mem_bits f (by omega) a).1 ha
   obtain ⟨v,rfl,hv⟩:=(mem_bits f (by omega) b).1 hb
   exact hne (by rw[ord_inj ho u v (verts_lt hn f hf u hu) (verts_lt hn f hf v hv) e])
  ·rw[List.mem_map,mem_bits _ h64]
   constructor
   ·rintro ⟨a,ha,rfl⟩
    obtain ⟨u,rfl,hu⟩:=(mem_bits f (by omega) a).1 ha
    obtain ⟨j,hj⟩:=Int.eq_ofNat_of_zero_le (ord_rd ho (u:Int) (by omega) (verts_lt hn f hf u hu)).1
    exact⟨j,hj,(img_bits hn ho f hf j).2 ⟨u,hu,hj⟩⟩
   ·rintro ⟨j,rfl,hj⟩
    obtain ⟨u,hu,e⟩:=(img_bits hn ho f hf j).1 hj
    exact⟨(u:Int),(mem_bits f (by omega) _).2 ⟨u,rfl,hu⟩,e⟩
 rw[List.length_map] at hlen
 have h1:=bits_64 ⟨f,by omega⟩
 have h2:=bits_64 ⟨imgN p (f:Int),h64⟩
 unfold dimI
 simp only at h1 h2
 rw[h1,h2,hlen]
theorem top_bound (M:Int):∀(l:List Int) (s:Int),s≤M→(∀ x ∈ l,dimI x≤M)→l.foldl (fun d f=>mx d (dimI f)) s≤M
 |[],s,hs,_=>hs
 |x :: l,s,hs,h=>by
  rw[List.foldl_cons]
  refine top_bound M l _ ?_ (fun y hy=>h y (List.mem_cons_of_mem _ hy))
  have:=h x List.mem_cons_self
  rw[mx_is]
  by_cases hlt:s<dimI x
  ·rw[if_pos hlt];exact this
  ·rw[if_neg hlt];exact hs
theorem count_same {a b:List Int} (h:(a.map dimI).Perm (b.map dimI)) (ha:∀ x ∈ a,0≤dimI x) (hb:∀ x ∈ b,0≤dimI x):countL (topI a+1).toNat a=countL (topI b+1).toNat b:=by
 have hm:∀(c d:List Int),(c.map dimI).Perm (d.map dimI)→∀ x ∈ c,dimI x≤topI d:=fun c d h x hx=>by
  obtain ⟨y,hy,e⟩:=List.mem_map.1 (h.mem_iff.1 (List.mem_map_of_mem hx))
  have:=top_mem d y hy
  omega
 have ht:topI a=topI b:=by
  have h1:topI a≤topI b:=top_bound _ a (-1) (top_range b).1 (hm a b h)
  have h2:topI b≤topI a:=top_bound _ b (-1) (top_range a).1 (hm b a h.symm)
  omega
 rw[ht]
 apply List.ext_getElem
 ·rw[countL_length,countL_length]
 ·intro i h1 h2
  rw[countL_length] at h1
  rw[countL_get _ a ha i h1,countL_get _ b hb i h1]
  have hc:∀ c:List Int,(c.filter fun x=>dimI x == (i:Int)).length=((c.map dimI).filter fun d=>d == (i:Int)).length:=fun c=>by
   rw[List.filter_map,List.length_map]
   rfl
  rw[hc,hc,(h.filter _).length_eq]
theorem ren_facts {n:Int} {l p:List Int} (hc:(renOf n l p).2.2=0) :
  isC n l=true∧isC (renOf n l p).1 (renOf n l p).2.1=true∧countL (topI (renOf n l p).2.1+1).toNat (renOf n l p).2.1=countL (topI l+1).toNat l:=by
 have h0:codeOf n l (ordB n p)=0:=by
  unfold renOf at hc
  by_cases h:codeOf n l (ordB n p)=0
  ·exact h
  ·rw[if_neg h] at hc
   exact hc
 obtain ⟨hi,ho⟩:=codeOf_zero h0
 obtain ⟨hn,hs,hr,h63⟩:=isC_faces hi
 have hF:=full_range n hn
 have hF2:=full_nat n
 unfold renOf
 rw[if_pos h0]
 have himg:∀ s ∈ imgsL l p,∃ f:Nat,(f:Int) ∈ l∧s=(imgN p (f:Int):Int):=fun s hs=>by
  obtain ⟨f,hf,rfl⟩:=List.mem_map.1 hs
  obtain ⟨g,rfl⟩:=Int.eq_ofNat_of_zero_le (show 0≤f by have:=hr f hf;omega)
  exact⟨g,hf,rfl⟩
 have hrng:∀ s ∈ imgsL l p,0≤s∧s≤63:=fun s hs=>by
  obtain ⟨f,hf,rfl⟩:=himg s hs
  have h1:=img_lt hn ho f (hr _ hf).2.1
  have h2:2 ^ n.toNat≤64:=Nat.le_trans (Nat.pow_le_pow_right (by omega) (show n.toNat≤6 by omega)) (by decide)
  omega
 refine⟨hi,?_,?_⟩
 ·show isC n (renL l p)=true
  rw[← ren_those hi ho]
  have e:thoseL n (fun x=>(imgsL l p).any (fun s=>decide (Go.bits .and .i64 x s=x)))=madeL n (imgsL l p):=by
   unfold madeL
   refine asc_ext _ _ (those_asc _ _) (those_asc _ _) (fun x=>?_)
   rw[mem_those,mem_those]
   refine and_congr_right (fun hx=>?_)
   rw[List.any_eq_true,List.any_eq_true]
   refine exists_congr (fun s=>and_congr_right (fun hs=>?_))
   rw[inB_is x s ⟨by omega,by omega⟩ (hrng s hs)]
  rw[e]
  exact made_isC hn hrng
 ·show countL (topI (renL l p)+1).toNat (renL l p)=_
  have hp:(renL l p).Perm (imgsL l p):=List.mergeSort_perm _ _
  have hd:(imgsL l p).map dimI=l.map dimI:=by
   unfold imgsL
   rw[List.map_map]
   refine List.map_congr_left (fun f hf=>?_)
   obtain ⟨g,rfl⟩:=Int.eq_ofNat_of_zero_le (show 0≤f by have:=hr f hf;omega)
   exact img_dim hn ho g (hr _ hf).2.1
  have hq:∀ x ∈ l,0≤dimI x:=fun x hx=>dim_pos x (hr x hx).1 (hr x hx).2.2
  refine count_same (by rw[← hd];exact hp.map dimI) (fun x hx=>?_) hq
  have hx2:=hp.mem_iff.1 hx
  obtain ⟨y,hy,e⟩:=List.mem_map.1 (show dimI x ∈ l.map dimI by rw[← hd];exact List.mem_map_of_mem hx2)
  rw[← e]
  exact hq y hy
theorem comp_64:∀ a b:Fin 64,(Go.bits .and .i64 (a.val:Int) (b.val:Int)=0→inB (a.val:Int) (63 - (b.val:Int))=true)∧(inB (a.val:Int) (b.val:Int)=true→Go.bits .and .i64 (a.val:Int) (63 - (b.val:Int))=0)∧(inB (a.val:Int) (63 - (b.val:Int))=true→Go.bits .and .i64 (a.val:Int) (b.val:Int)=0)∧(dimI (a.val:Int)=0→a.val≠0→inB (a.val:Int) (b.val:Int)=false→Go.bits .and .i64 (a.val:Int) (b.val:Int)=0):=by decide +kernel
theorem comp_is (a b:Int) (ha:0≤a∧a≤63) (hb:0≤b∧b≤63):(Go.bits .and .i64 a b=0→inB a (63 - b)=true)∧(inB a b=true→Go.bits .and .i64 a (63 - b)=0)∧(inB a (63 - b)=true→Go.bits .and .i64 a b=0)∧(dimI a=0→a≠0→inB a b=false→Go.bits .and .i64 a b=0):=
 small2 (P:=fun a b=>(Go.bits .and .i64 a b=0→inB a (63 - b)=true)∧(inB a b=true→Go.bits .and .i64 a (63 - b)=0)∧(inB a (63 - b)=true→Go.bits .and .i64 a b=0)∧(dimI a=0→a≠0→inB a b=false→Go.bits .and .i64 a b=0)) (fun a b=>⟨(comp_64 a b).1,(comp_64 a b).2.1,(comp_64 a b).2.2.1,fun h1 h2=>(comp_64 a b).2.2.2 h1 (by omega)⟩) a b ha hb
theorem or_shut {es:List Int} (hes:∀ x ∈ es,0≤x∧x≤63) {a b:Int} (ha:0≤a∧a≤63) (hb:0≤b∧b≤63) (h1:Shut es a) (h2:Shut es b):Shut es (Go.bits .or .i64 a b):=by
 intro e he
 have hr:=hes e he
 have ho:=or_bt a b ha hb
 have hor:0≤Go.bits .or .i64 a b∧Go.bits .or .i64 a b≤63:=⟨by omega,ho.2.2⟩
 rcases h1 e he with h|h
 ·rcases h2 e he with h'|h'
  ·left
   apply Classical.byContradiction
   intro hne
   obtain ⟨v,hv,e1,e2⟩:=(and_iff e _ hr hor).1 hne
   rw[ho.1 v hv,Bool.or_eq_true] at e2
   rcases e2 with e2|e2
   ·exact(and_iff e a hr ha).2 ⟨v,hv,e1,e2⟩ h
   ·exact(and_iff e b hr hb).2 ⟨v,hv,e1,e2⟩ h'
  ·right
   rw[or_comm' a b ha hb] at hor ⊢
   exact inB_trans e b _ hr hb hor h' (inB_or b a hb ha)
 ·right
  exact inB_trans e a _ hr ha hor h (inB_or a b ha hb)
theorem comps_apart {es:List Int} (hes:∀ x ∈ es,0≤x∧x≤63):∀(fs:List Int) (seen:Int) (out:List Int),(∀ f ∈ fs,(1≤f∧f≤63)∧dimI f=0)→(0≤seen∧seen≤63)→Shut es seen→(∀ x ∈ out,(0≤x∧x≤63)∧inB x seen=true) →
  out.Pairwise (fun a b=>Go.bits .and .i64 b a=0)→(compsI es fs seen out).Pairwise (fun a b=>Go.bits .and .i64 b a=0)
 |[],seen,out,_,_,_,_,h=>h
 |f :: fs,seen,out,hf,hs,hsh,ho,h=>by
  unfold compsI
  have hff:=hf f List.mem_cons_self
  have hfs:∀ g ∈ fs,(1≤g∧g≤63)∧dimI g=0:=fun g hg=>hf g (List.mem_cons_of_mem _ hg)
  by_cases hin:inB f seen=true
  ·rw[if_pos hin]
   exact comps_apart hes fs seen out hfs hs hsh ho h
  ·rw[if_neg hin]
   have hg:=grow_facts es hes f ⟨by omega,hff.1.2⟩
   have hcf:=comp_is f seen ⟨by omega,hff.1.2⟩ hs
   have hshc:Shut es (63 - seen):=fun e he=>by
    have hce:=comp_is e seen (hes e he) hs
    rcases hsh e he with h1|h1
    ·exact Or.inr (hce.1 h1)
    ·exact Or.inl (hce.2.1 h1)
   have hGc:=hg.2.2.2 (63 - seen) ⟨by omega,by omega⟩ (hcf.1 (hcf.2.2.2 hff.2 (by omega) (by simpa using hin))) hshc
   have hG0:Go.bits .and .i64 (growF es f) seen=0:=(comp_is (growF es f) seen hg.1 hs).2.2.1 hGc
   have hor:=or_bt seen (growF es f) hs hg.1
   have hors:0≤Go.bits .or .i64 seen (growF es f)∧Go.bits .or .i64 seen (growF es f)≤63:=⟨by omega,hor.2.2⟩
   refine comps_apart hes fs _ _ hfs hors (or_shut hes hs hg.1 hsh hg.2.2.1) (fun x hx=>?_) ?_
   ·rcases List.mem_append.1 hx with hx|hx
    ·exact⟨(ho x hx).1,inB_trans x seen _ (ho x hx).1 hs hors (ho x hx).2 (inB_or seen (growF es f) hs hg.1)⟩
    ·rw[List.mem_singleton] at hx
     subst hx
     refine⟨hg.1,?_⟩
     rw[or_comm' seen (growF es f) hs hg.1]
     exact inB_or _ _ hg.1 hs
   ·rw[List.pairwise_append]
    refine⟨h,List.pairwise_singleton _ _,fun x hx y hy=>?_⟩
    rw[List.mem_singleton] at hy
    subst hy
    apply Classical.byContradiction
    intro hne
    obtain ⟨v,hv,e1,e2⟩:=(and_iff (growF es f) x hg.1 (ho x hx).1).1 hne
    exact(and_iff (growF es f) seen hg.1 hs).2 ⟨v,hv,e1,(inB_iff x seen (ho x hx).1 hs).1 (ho x hx).2 v hv e2⟩ hG0
theorem and_zero_64:∀ a:Fin 64,Go.bits .and .i64 (a.val:Int) 0=0:=by decide +kernel
theorem comps_facts (n:Int) (l:List Int):∀ i j:Nat,∀(hi:i<(if codeOf n l true=0 then componentsL l else []).length) (hj:j<i),Go.bits .and .i64 (if codeOf n l true=0 then componentsL l else [])[i] ((if codeOf n l true=0 then componentsL l else [])[j]'(by omega))=0:=by
 have hp:(if codeOf n l true=0 then componentsL l else []).Pairwise (fun a b=>Go.bits .and .i64 b a=0):=by
  by_cases h0:codeOf n l true=0
  ·rw[if_pos h0]
   have hi:=(codeOf_zero h0).1
   have hr:=(isC_faces hi).2.2.1
   refine comps_apart (fun x hx=>?_) _ _ _ (fun f hf=>?_) ⟨by omega,by omega⟩ (fun e he=>Or.inl ?_) (fun x hx=>by cases hx) List.Pairwise.nil
   ·have:=hr x (List.mem_filter.1 hx).1;omega
   ·have h1:=List.mem_filter.1 hf
    have:=hr f h1.1
    exact⟨⟨this.1,this.2.2⟩,by simpa [bne] using h1.2⟩
   ·have:=hr e (List.mem_filter.1 he).1
    exact small2 (P:=fun a b=>b=0→Go.bits .and .i64 a b=0) (fun a b h=>by rw[h];exact and_zero_64 a) e 0 ⟨by omega,this.2.2⟩ ⟨by omega,by omega⟩ rfl
  ·rw[if_neg h0]
   exact List.Pairwise.nil
 intro i j hi hj
 exact(List.pairwise_iff_getElem.1 hp) j i (by omega) hi hj
end Go.Proofs.YtlhkdbkjafiikaaGreat.K
end

section
namespace Go.Proofs.YtlhkdbkjafiikaaGreat.Q
open Go.RowKit Go.Proofs.YtlhkdbkjafiikaaGreatW.PrintWords Go.Proofs.YtlhkdbkjafiikaaGreatW.PrintLast Go.Proofs.YtlhkdbkjafiikaaGreatW.PrintMore
attribute [local go_sem] max2_int min2_int max_two min_two max_three min_three max_four min_four
set_option linter.unusedVariables false
set_option linter.unusedSimpArgs false
def spec_l01Ones.l0:Nat→Int→Int→Option (Int)
 |0,_,_=>none
 |k+1,x0,x3=>if x0>0 then (spec_l01Ones.l0 k (wrap64 (Int.tdiv x0 2)) (wrap64 (x3+(Int.tmod x0 2)))) else (some x3)
def spec_l01Ones.f (k:Nat) (a0:Int):Option (Int):=spec_l01Ones.l0 k a0 0
theorem spec_l01Ones.mono_l:∀ k,(∀ y0 y1,LeO (spec_l01Ones.l0 k y0 y1) (spec_l01Ones.l0 (k+1) y0 y1))
 |0=>fun _ _ r h=>by simp [spec_l01Ones.l0] at h
 |k+1=>by
  have ih0:=spec_l01Ones.mono_l k
  ·intro y0 y1;unfold spec_l01Ones.l0;repeat' first
   |(with_reducible first|exact ih0 _ _|exact LeO.refl _|exact LeO.none _|refine LeO.ite ?_ ?_|refine LeO.bind ?_ (fun _=>?_))
theorem spec_l01Ones.mono:∀ a0 k,LeO (spec_l01Ones.f k a0) (spec_l01Ones.f (k+1) a0):=by
 intro a0 k;have ih0:=spec_l01Ones.mono_l k;unfold spec_l01Ones.f;repeat' first
   |(with_reducible first|exact ih0 _ _|exact LeO.refl _|exact LeO.none _|refine LeO.ite ?_ ?_|refine LeO.bind ?_ (fun _=>?_))
set_option maxHeartbeats 8000000 in
set_option maxRecDepth 100000 in
theorem spec_l01Ones.calls (k:Nat) (a0:Int) (r:Int) (w:World) (h:spec_l01Ones.f k a0=some r) :
  Calls Tryz.prog 100 #[.int .i64 a0] w fun e w'=>e = .returned (.int .i64 r)∧Drawn0 w w':=by
 have H:(spec_l01Ones.l0 k a0 0)=some r:=h;clear h;have H':=Aside0.mk H;clear H;go_enter Tryz.func100,Tryz.ntmps100;go_wp2
 go_loopg [0,3] k (fun kq v0 v3 w'=>∃(x0_1:Int) (x3_1:Int),v0 = .int .i64 x0_1∧v3 = .int .i64 x3_1∧Aside0 (spec_l01Ones.l0 kq x0_1 x3_1=some r)∧Aside0 (kq≤k)∧Drawn0 w w')
 case atStart=>exact⟨(a0),(0),rs,rs,H',⟨Nat.le_refl _⟩,by repeat(first|exact Drawn0.refl _|apply Drawn0.step)⟩
 case round=>
  clear H';try clear c1
  obtain ⟨x0_1,x3_1,rfl,rfl,HA,HK1,⟨m1,rfl⟩⟩:=hrel;cases gk with
  |zero=>exact absurd HA.out (by simp [spec_l01Ones.l0])
  |succ k1=>
   have H:=HA.out;clear HA;simp only [spec_l01Ones.l0] at H;by_cases c2:x0_1>0
   ·rw[if_pos c2] at H;have c2b0:decide (0<x0_1)=true:=decide_eq_true c2;clear c2;have H':=Aside0.mk H;clear H;go_wp2
    go_roundg k1
    case measure=>have:=HK1.out;omega
    case rel=>exact⟨(wrap64 (Int.tdiv x0_1 2)),(wrap64 (x3_1+(Int.tmod x0_1 2))),rs,rs,H',⟨by have:=HK1.out;omega⟩,by repeat(first|exact Drawn0.refl _|apply Drawn0.step)⟩
   ·rw[if_neg c2] at H;have c2b0:decide (0<x0_1)=false:=decide_eq_false c2;clear c2;obtain rfl:=Option.some.inj H;go_wp2
    go_ret;exact⟨rs,by repeat(first|exact Drawn0.refl _|apply Drawn0.step)⟩
end Go.Proofs.YtlhkdbkjafiikaaGreat.Q
end

section
namespace Go.Proofs.YtlhkdbkjafiikaaGreat.K
open Go.RowKit Go.Shelf Go.Proofs.YtlhkdbkjafiikaaGreat.Q Go.Proofs.YtlhkdbkjafiikaaGreatW.PrintWords Go.Proofs.YtlhkdbkjafiikaaGreatW.PrintLast Go.Proofs.YtlhkdbkjafiikaaGreatW.PrintMore
set_option linter.unusedVariables false
set_option linter.unusedSimpArgs false
theorem specOnes_64:∀ m:Fin 64,spec_l01Ones.f 8 (m.val:Int)=some (onesI (m.val:Int)):=by decide +kernel
theorem specOnes_is (f:Int) (h1:0≤f) (h2:f≤63) (k:Nat) (hk:8≤k):spec_l01Ones.f k f=some (onesI f):=by
 obtain ⟨m,rfl⟩:=Int.eq_ofNat_of_zero_le h1
 exact at_rounds (fun k=>spec_l01Ones.mono _ k) hk (specOnes_64 ⟨m,by omega⟩)
end Go.Proofs.YtlhkdbkjafiikaaGreat.K
end

section
namespace Go.Proofs.YtlhkdbkjafiikaaGreat.X
open Go.RowKit Go.Shelf Go.Proofs.YtlhkdbkjafiikaaGreat.K Go.Proofs.YtlhkdbkjafiikaaGreat.Q Go.Proofs.YtlhkdbkjafiikaaGreatW.PrintWords Go.Proofs.YtlhkdbkjafiikaaGreatW.PrintLast Go.Proofs.YtlhkdbkjafiikaaGreatW.PrintMore
set_option linter.unusedVariables false
set_option linter.unusedSimpArgs false
theorem infoL:(Tryz.prog.info? 2).map (fun i=>(i.zero,i.size,i.bytes))=some (some (.int .i64 0),1,8):=by kernel_rfl
section
variable {ops : Array Oper} {o : Oper} {a : Act} {Q : Exit → Act → World → Prop}
theorem app_rows {Kc:Act→World→Prop} {W:World} (base:Nat) (hw:Region.wanted o (yielded ops a.tmps)=true) (s x:Operand)
  (ho:o.op = .call { callee:= .builtin .append,args:=#[s,x],argTypes:=#[24,24] })
  (v:Value) (xs ys:List Int) (A:Option Addr) (kx c:Nat) (hkx:kx=ys.length) (hs:a.eval s=v) (hx:a.eval x = .slice A kx c)
  (HO:Ki.R 2 W base (fun _=>True) v xs) (HR:Ki.C W A ys.length ys) (hbase:base≤W.heap.size) (hl:xs.length+ys.length≤1000000)
  (h:∀ v1 w1,Ki.R 2 w1 base (fun _=>True) v1 (xs ++ ys)→Below base W w1→Kc (a.put o.dst v1) w1) :
  if Region.wanted o (yielded ops a.tmps)=true then Oper.wp Tryz.prog o a W Kc Q else Kc (a.put o.dst undef) W:=by
 subst hkx
 exact Kd.R_append_rows_step Ki (w0:=W) base hw s x 24 2 (.int .i64 0) 8 ho Tryz.underlying24 infoL rfl (by decide) (by decide) v xs ys A ys.length c (fun _=>True) (fun _=>False) hs hx HO HR (fun _ _ hk=>hk) (fun _ hk=>hk.elim) (fun _ _=>trivial) (Below.refl _ _) hbase (by omega) (fun v1 w1 hR hB _ _=>h v1 w1 hR hB)
end
theorem C_one {w:World} {g:Nat} {x:Int} {t:TypeId} (h:w.heap[g]?=some (.cells #[I x] t (0,0))):Ki.C w (some ⟨g,0,none⟩) [x].length [x]:=by
 refine⟨rfl,by simp,fun _=>⟨⟨g,0,none⟩,rfl,fun j p hj=>?_⟩⟩
 have hj0:j=0:=by
  rcases Nat.eq_zero_or_pos j with h0|h0
  ·exact h0
  ·rw[List.getElem?_eq_none (by simp only [List.length_singleton];omega)] at hj
   cases hj
 subst hj0
 cases hj
 refine⟨[I x],rfl,rfl,fun i u hu=>?_⟩
 have hi0:i=0:=by
  rcases Nat.eq_zero_or_pos i with h0|h0
  ·exact h0
  ·rw[List.getElem?_eq_none (by simp only [List.length_singleton];omega)] at hu
   cases hu
 subst hi0
 cases hu
 exact blk_cell h 0
def ordN (s0:List Int):Nat→Int→List Int→Int→Int→Option (List Int×Int×Int)
 |0,_,xs,b,c=>some (xs,b,c)
 |d+1,i,xs,b,c=>(spec_l01Next.f s0 b c (i+1)).bind fun t=>if 0≤t.1∧t.1≤(xs.length:Int) then ordN s0 d (i+1) (xs.take t.1.toNat ++ [i] ++ xs.drop t.1.toNat) t.2.1 t.2.2 else none
def spec_l01DrawOrder.f (s0_0:List Int) (s0_1:Int) (s0_2:Int) (a1:Int):Option (List Int×Int×Int):=if 0≤a1∧a1≤64 then ordN s0_0 a1.toNat 0 [] s0_1 s0_2 else none
set_option maxRecDepth 100000 in
set_option maxHeartbeats 8000000 in
theorem spec_l01DrawOrder.calls (g:Nat) (s0_0:List Int) (s0_1:Int) (s0_2:Int) (a1:Int) (r1:List Int) (r2:Int) (r3:Int) (w0 w:World) (hI:IsS92 w0 w g s0_0 s0_1 s0_2) (hB:Below w0.heap.size w0 w) (h:spec_l01DrawOrder.f s0_0 s0_1 s0_2 a1=some (r1,r2,r3)) :
  Calls Tryz.prog 80 #[.pointer (some ⟨g,0,none⟩),.int .i64 a1] w fun e w'=>∃ v0_:Value,e = .returned v0_∧Kd.R (Kd.int .i64) 2 w' w.heap.size (fun _=>True) v0_ r1∧IsS92 w0 w' g s0_0 r2 r3∧Below w0.heap.size w0 w'∧KeepBut w w' g none:=by
 unfold spec_l01DrawOrder.f at h
 by_cases hr:0≤a1∧a1≤64
 rotate_left
 ·rw[if_neg hr] at h
  cases h
 rw[if_pos hr] at h
 obtain ⟨n,rfl⟩:∃ n:Nat,a1=n:=⟨a1.toNat,by omega⟩
 rw[Int.toNat_natCast] at h
 have hn:n≤64:=by omega
 have HI0:=Aside0.mk hI
 have HB0:=Aside0.mk hB
 have HR0:Aside0 (Ki.R 2 (w.alloc (.cells #[] 2)) w.heap.size (fun _=>True) (.slice (some ⟨w.heap.size,0,none⟩) 0 0) []):=⟨Kd.R_of_own (h1:=fun _=>rfl) (World.ownsRow_lit (base:=w.heap.size) (e:=2) (size:=1) w #[] 0 (Nat.le_refl _) (by decide) rfl) (fun _ _=>trivial)⟩
 have HH:=Aside0.mk h
 clear hI hB h hr
 go_enter Tryz.func80,Tryz.ntmps80
 go_wp2_with fail
 go_loopg [5,6,7] n (fun gg s5 s6 s7 wr=>∃(i d:Nat) (xs:List Int) (b c:Int),i+d=n∧d≤gg∧Aside0 (xs.length=i)∧s6 = .int .i64 i∧Aside0 (ordN s0_0 d i xs b c=some (r1,r2,r3))∧Aside0 (Ki.R 2 wr w.heap.size (fun _=>True) s5 xs)∧Aside0 (IsS92 w0 wr g s0_0 b c)∧Aside0 (KeepBut w wr g none)∧Aside0 (Below w0.heap.size w0 wr))
 case atStart=>
  refine⟨0,n,[],s0_1,s0_2,by omega,Nat.le_refl _,⟨rfl⟩,rfl,HH,?_,⟨IsS92.alloc HI0.out _⟩,⟨KeepBut.of_below (below_alloc (Below.refl _ _) _) g none⟩,⟨below_step HB0.out (below_alloc (Below.refl _ _) _)⟩⟩
  exact HR0
 case round=>
  obtain ⟨i,d,xs,b,c,hid,hdg,HXL,rfl,HA,HO,HI,HK,HB⟩:=hrel
  have hil:(i:Int)≤64:=by omega
  have hxs:xs.length≤64:=by have:=HXL.out;omega
  obtain ⟨A,ca,rfl⟩:=Kd.R_slice HO.out
  cases d with
  |zero=>
   have he:=HA.out
   simp only [ordN,Option.some.injEq,Prod.mk.injEq] at he
   obtain ⟨rfl,rfl,rfl⟩:=he
   have hge:¬ ((i:Int)<(n:Int)):=by omega
   go_wp2_with fail
   go_ret
   exact⟨_,rfl,HO.out,HI.out,HB.out,HK.out⟩
  |succ d=>
   have hlt:(i:Int)<(n:Int):=by omega
   have ha:=HA.out
   simp only [ordN] at ha
   cases hnx:spec_l01Next.f s0_0 b c ((i:Int)+1) with
   |none=>rw[hnx] at ha;cases ha
   |some t=>
    obtain ⟨x,b2,c2⟩:=t
    rw[hnx] at ha
    simp only [Option.bind_some] at ha
    by_cases hx:0≤x∧x≤(xs.length:Int)
    rotate_left
    ·rw[if_neg hx] at ha
     cases ha
    rw[if_pos hx] at ha
    obtain ⟨m,rfl⟩:∃ m:Nat,x=m:=⟨x.toNat,by omega⟩
    rw[Int.toNat_natCast] at ha
    have HA2:=Aside0.mk ha
    have hw1:IntKind.wrap .i64 ((i:Int)+1)=(i:Int)+1:=by rw[IntKind.wrap_i64];omega
    have HN:=Aside0.mk (spec_l01Next.calls g s0_0 b c ((i:Int)+1) m b2 c2 w0 wr HI.out HB.out hnx)
    have hml:m≤xs.length:=by omega
    clear ha hnx
    go_wp2_with fail
    refine HN.out.mono ?_
    rintro e w3 ⟨rfl,hI3,hB3,hk3⟩
    have HO3:Aside0 (Ki.R 2 w3 w.heap.size (fun _=>True) (.slice A xs.length ca) xs):=⟨Kd.R_mono (Kd.R_keep (IsS92.apart HI.out HO.out (by decide)) hk3 (fun _ h=>h.2)) (fun _ h=>h.1)⟩
    have HI3:=Aside0.mk hI3
    have HB3:=Aside0.mk hB3
    have HK3:=Aside0.mk (KeepBut.trans HK.out hk3 (.inl rfl))
    clear hI3 hB3 hk3 HA HN
    obtain ⟨Aq,cq,heq,hqc,hqr⟩:=Kd.R_reads HO3.out
    simp only [Value.slice.injEq,true_and] at heq
    obtain ⟨rfl,rfl⟩:=heq
    have HC3:=Aside0.mk hqr
    have hcm:(m:Int)≤(ca:Int):=by omega
    have htk:(xs.take m).length=m:=by rw[List.length_take];omega
    have hdp:(xs.drop m).length=xs.length - m:=List.length_drop
    have HOWN:Aside0 (∀ W,Grew w3 W→Calls Tryz.prog 123 #[.slice A m ca] W fun e w'=>∃ v,e = .returned v∧Ki.R 2 w' W.heap.size (fun _=>True) v (xs.take m)∧Grew W w'):=⟨fun W hW=>by
     have hC:=Kd.C_take (Kd.C_below HC3.out hW) hml
     have:=spec_l01Own.calls A ca (xs.take m) (xs.take m) W hC (by omega) (by unfold spec_l01Own.f;simp;omega)
     rw[htk] at this
     exact this⟩
    have HC7:Aside0 (Ki.C w3 (if ca=m then A else A.map (fun x=>x.add m)) (xs.drop m).length (xs.drop m)):=⟨by have:=Kd.C_drop HC3.out hml hqc;rw[show m*Ki.sz=m from Nat.mul_one m] at this;exact this⟩
    have hl7:(xs.drop m).length≤64:=by omega
    obtain ⟨ys,hys⟩:∃ ys,ys=xs.drop m:=⟨_,rfl⟩
    obtain ⟨zs,hzs⟩:∃ zs,zs=xs.take m:=⟨_,rfl⟩
    have hzl:zs.length≤64:=by rw[hzs,htk];omega
    have hzz:zs.length=m:=by rw[hzs,htk]
    rw[← hys] at HC7 hl7 HA2 hdp
    rw[← hzs] at HOWN HA2
    have HZ0:=Aside0.mk hzl
    have HZ1:=Aside0.mk hzz
    have HY0:=Aside0.mk hl7
    have HY1:=Aside0.mk hdp
    have HIL:=Aside0.mk hil
    clear hqr hqc hys hzs htk hzl hzz hl7 hdp hil
    go_wp2_with fail
    refine start_ (n:=12) (S:=fun w'=>True) (ds:= []) #[false,false,false,false,false,false,false,false,false,false,false,false] (by kernel_rfl) rfl rfl trivial (fun hHeld=>?_)
    refine pure_ (i:=0) (N:=some 18) (v:=?_) (a':=?_) #[true,false,false,false,false,false,false,false,false,false,false,false] rfl rfl (by kernel_rfl) (fun _ _ _ h=>h) (Or.inl ⟨by rfl,?_⟩) ?_ ?_
    rotate_left;· intro w';go_simp;with_reducible rfl
    rotate_left;· simp only [Act.put,List.setIfInBounds_toArray,List.set_cons_zero,List.set_cons_succ,i64_w,i32_w];rfl
    refine pure_ (i:=1) (N:=some 19) (v:=?_) (a':=?_) #[true,true,false,false,false,false,false,false,false,false,false,false] rfl rfl (by kernel_rfl) (fun _ _ _ h=>h) (Or.inl ⟨by rfl,?_⟩) ?_ ?_
    rotate_left;· intro w';go_simp;with_reducible rfl
    rotate_left;· simp only [Act.put,List.setIfInBounds_toArray,List.set_cons_zero,List.set_cons_succ,i64_w,i32_w];rfl
    refine pure_ (i:=2) (N:=some 20) (v:=?_) (a':=?_) #[true,true,true,false,false,false,false,false,false,false,false,false] rfl rfl (by kernel_rfl) (fun _ _ _ h=>h) (Or.inl ⟨by rfl,?_⟩) ?_ ?_
    rotate_left;· intro w';go_simp;with_reducible rfl
    rotate_left;· simp only [Act.put,List.setIfInBounds_toArray,List.set_cons_zero,List.set_cons_succ,i64_w,i32_w];rfl
    refine pure_ (i:=4) (N:=some 22) (v:=?_) (a':=?_) #[true,true,true,false,true,false,false,false,false,false,false,false] rfl rfl (by kernel_rfl) (fun _ _ _ h=>h) (Or.inl ⟨by rfl,?_⟩) ?_ ?_
    rotate_left;· intro w';go_simp;with_reducible rfl
    rotate_left;· simp only [Act.put,List.setIfInBounds_toArray,List.set_cons_zero,List.set_cons_succ,i64_w,i32_w];rfl
    refine pure_ (i:=7) (N:=some 25) (v:=?_) (a':=?_) #[true,true,true,false,true,false,false,true,false,false,false,false] rfl rfl (by kernel_rfl) (fun _ _ _ h=>h) (Or.inl ⟨by rfl,?_⟩) ?_ ?_
    rotate_left;· intro w';go_simp;with_reducible rfl
    rotate_left;· simp only [Act.put,List.setIfInBounds_toArray,List.set_cons_zero,List.set_cons_succ,i64_w,i32_w];rfl
    refine pure_ (i:=8) (N:=some 26) (v:=?_) (a':=?_) #[true,true,true,false,true,false,false,true,true,false,false,false] rfl rfl (by kernel_rfl) (fun _ _ _ h=>h) (Or.inl ⟨by rfl,?_⟩) ?_ ?_
    rotate_left;· intro w';go_simp;with_reducible rfl
    rotate_left;· simp only [Act.put,List.setIfInBounds_toArray,List.set_cons_zero,List.set_cons_succ,i64_w,i32_w];rfl
    refine pure_ (i:=9) (N:=some 27) (v:=?_) (a':=?_) #[true,true,true,false,true,false,false,true,true,true,false,false] rfl rfl (by kernel_rfl) (fun _ _ _ h=>h) (Or.inl ⟨by rfl,?_⟩) ?_ ?_
    rotate_left;· intro w';go_simp;with_reducible rfl
    rotate_left;· simp only [Act.put,List.setIfInBounds_toArray,List.set_cons_zero,List.set_cons_succ,i64_w,i32_w];rfl
    refine join_ (σ:=Value×Nat) 3 #[true,true,true,true,true,true,false,true,true,true,false,false] (fun s=> [(21,s.1),(23,.slice (some ⟨s.2,0,none⟩) 1 1)]) (fun s w'=>Ki.R 2 w' w3.heap.size (fun k=>k≠s.2) s.1 zs∧w'.heap[s.2]?=some (.cells #[I (i:Int)] 2 (0,0))∧Grew w3 w') ?_ ?_
    rotate_left
    ·intro hCont
     refine two_ (i:=3) (j:=5) (Ni:=some 21) (Nj:=some 23) #[true,true,true,true,true,false,false,true,true,true,false,false] #[true,true,true,false,true,true,false,true,true,true,false,false] rfl rfl rfl rfl (by kernel_rfl) (by decide) (by decide) (fun K hK=>?_) (fun K hK=>?_)
     ·skip
      refine goes_ Tryz.func123 (by kernel_rfl) rfl #[.slice A m ca] (by rfl) rfl rfl (by simp only [List.map_toArray,List.map_cons,List.map_nil];rfl) ?_
      with_reducible refine(HOWN.out _ (below_drew (Grew.refl w3))).mono ?_
      rintro e w4 ⟨v4,rfl,hR4,hG4⟩
      refine⟨_,rfl,?_⟩
      have HR4:Aside0 (Ki.R 2 w4 w3.heap.size (fun k=>k≠w4.heap.size) v4 zs):=⟨Kd.R_mono (Kd.R_bound hR4) (fun k hk=>by have:=hk.2.2.1;omega)⟩
      have HL:=Aside0.mk (Grew.trans (below_drew (Grew.refl w3)) hG4)
      clear hR4 hG4
      refine hK.out _ _ trivial (fun hHeld=>?_)
      clear hK K
      refine norm_ (a':=?_) ?_ ?_
      rotate_left
      ·show Act.put _ (some 21) _=_
       simp only [Act.put,List.setIfInBounds_toArray,List.set_cons_zero,List.set_cons_succ,i64_w,i32_w]
       rfl
      refine one_ (i:=5) (N:=some 23) #[true,true,true,true,true,true,false,true,true,true,false,false] rfl rfl (by kernel_rfl) (by decide) (fun K hK=>?_)
      refine value_ (w1:=?_) (v:=?_) (by rfl) rfl ?_ ?_
      rotate_left 2
      ·go_simp
       constructor
       ·rfl
       ·rfl
      obtain ⟨w5,hw5⟩:∃ w5,w5=w4.alloc (.cells #[I (i:Int)] 2):=⟨_,rfl⟩
      have HBV:Aside0 (w5.heap[w4.heap.size]?=some (.cells #[I (i:Int)] 2 (0,0))):=⟨by rw[hw5];exact blk_new _ _⟩
      have HL0:=HL
      replace HL:Aside0 (Grew w3 w5):=⟨by rw[hw5];exact below_alloc HL0.out _⟩
      replace HR4:Aside0 (Ki.R 2 w5 w3.heap.size (fun k=>k≠w4.heap.size) v4 zs):=⟨by rw[hw5];exact Kd.R_alloc HR4.out _⟩
      rw[← hw5]
      clear hw5
      refine hK.out _ _ trivial (fun hHeld=>?_)
      clear hK K
      refine norm_ (a':=?_) ?_ ?_
      rotate_left
      ·show Act.put _ (some 23) _=_
       simp only [Act.put,List.setIfInBounds_toArray,List.set_cons_zero,List.set_cons_succ,i64_w,i32_w]
       rfl
      exact norm_ (by first|(simp only [putAll,Act.put,List.setIfInBounds_toArray,List.set_cons_zero,List.set_cons_succ];done)|rfl) (hCont (v4,w4.heap.size) _ ⟨HR4.out,HBV.out,HL.out⟩)
     ·skip
      refine value_ (w1:=?_) (v:=?_) (by rfl) rfl ?_ ?_
      rotate_left 2
      ·go_simp
       constructor
       ·rfl
       ·rfl
      obtain ⟨w5,hw5⟩:∃ w5,w5=(w3.alloc (.cells #[I (i:Int)] 2)).drew:=⟨_,rfl⟩
      have HBV:Aside0 (w5.heap[w3.heap.size]?=some (.cells #[I (i:Int)] 2 (0,0))):=⟨by rw[hw5];exact blk_new _ _⟩
      have HL:Aside0 (Grew w3 w5):=⟨by rw[hw5];exact below_drew (below_alloc (Grew.refl w3) _)⟩
      have HZ:Aside0 (w3.heap.size<w5.heap.size):=⟨by rw[hw5];show w3.heap.size<(w3.alloc _).heap.size;rw[World.size_alloc];omega⟩
      rw[← hw5]
      clear hw5
      refine hK.out _ _ trivial (fun hHeld=>?_)
      clear hK K
      refine norm_ (a':=?_) ?_ ?_
      rotate_left
      ·show Act.put _ (some 23) _=_
       simp only [Act.put,List.setIfInBounds_toArray,List.set_cons_zero,List.set_cons_succ,i64_w,i32_w]
       rfl
      refine one_ (i:=3) (N:=some 21) #[true,true,true,true,true,true,false,true,true,true,false,false] rfl rfl (by kernel_rfl) (by decide) (fun K hK=>?_)
      refine goes_ Tryz.func123 (by kernel_rfl) rfl #[.slice A m ca] (by rfl) rfl rfl (by simp only [List.map_toArray,List.map_cons,List.map_nil];rfl) ?_
      with_reducible refine(HOWN.out _ HL.out).mono ?_
      rintro e w4 ⟨v4,rfl,hR4,hG4⟩
      refine⟨_,rfl,?_⟩
      have HBV:=Aside0.mk (blk_below HBV.out hG4)
      have HR4:Aside0 (Ki.R 2 w4 w3.heap.size (fun k=>k≠w3.heap.size) v4 zs):=⟨Kd.R_lower (Kd.R_mono (Kd.R_bound hR4) (fun k hk=>by have:=hk.2.1;have:=HZ.out;omega)) HL.out.size⟩
      replace HL:=Aside0.mk (Grew.trans HL.out hG4)
      clear hR4 hG4
      refine hK.out _ _ trivial (fun hHeld=>?_)
      clear hK K
      refine norm_ (a':=?_) ?_ ?_
      rotate_left
      ·show Act.put _ (some 21) _=_
       simp only [Act.put,List.setIfInBounds_toArray,List.set_cons_zero,List.set_cons_succ,i64_w,i32_w]
       rfl
      exact norm_ (by first|(simp only [putAll,Act.put,List.setIfInBounds_toArray,List.set_cons_zero,List.set_cons_succ];done)|rfl) (hCont (v4,w3.heap.size) _ ⟨HR4.out,HBV.out,HL.out⟩)
    rintro ⟨v6,g6⟩ w6 ⟨hR6,hv6,hG6⟩
    have HL:=Aside0.mk hG6
    have HR6:Aside0 (Ki.R 2 w6 w3.heap.size (fun _=>True) v6 zs):=⟨Kd.R_mono hR6 (fun _ _=>trivial)⟩
    have HV6:=Aside0.mk (C_one hv6)
    clear hR6 hv6 hG6
    have hHeld:True:=trivial
    refine norm_ (a':=?_) ?_ ?_
    rotate_left;· simp only [putAll,Act.put,List.setIfInBounds_toArray,List.set_cons_zero,List.set_cons_succ];rfl
    refine one_ (i:=6) (N:=some 24) #[true,true,true,true,true,true,true,true,true,true,false,false] rfl rfl (by kernel_rfl) (by decide) (fun K hK=>?_)
    refine app_rows w3.heap.size (by rfl) (.tmp 21) (.tmp 23) (by rfl) v6 zs [(i:Int)] (some ⟨g6,0,none⟩) 1 1 rfl (by rfl) (by rfl) HR6.out HV6.out HL.out.size (by have:=HZ0.out;simp;omega) ?_
    intro v8 w8 hR8 hB8
    have HR8:=Aside0.mk hR8
    have HL8:Aside0 (Grew w3 w8):=⟨Below.trans HL.out hB8⟩
    clear hR8 hB8
    refine hK.out _ _ trivial (fun hHeld=>?_)
    clear hK K
    refine norm_ (a':=?_) ?_ ?_
    rotate_left
    ·show Act.put _ (some 24) _=_
     simp only [Act.put,List.setIfInBounds_toArray,List.set_cons_zero,List.set_cons_succ,i64_w,i32_w]
     rfl
    refine one_ (i:=10) (N:=some 28) #[true,true,true,true,true,true,true,true,true,true,true,false] rfl rfl (by kernel_rfl) (by decide) (fun K hK=>?_)
    refine app_rows w3.heap.size (by rfl) (.tmp 24) (.tmp 27) (by rfl) v8 (zs ++ [(i:Int)]) ys _ (xs.length - m) (ca - m) HY1.out.symm (by rfl) (by rfl) HR8.out (Kd.C_below HC7.out HL8.out) HL8.out.size (by have:=HZ0.out;have:=HY0.out;simp;omega) ?_
    intro v9 w9 hR9 hB9
    have HR9:=Aside0.mk hR9
    have HL9:Aside0 (Grew w3 w9):=⟨Below.trans HL8.out hB9⟩
    clear hR9 hB9
    refine hK.out _ _ trivial (fun hHeld=>?_)
    clear hK K
    refine norm_ (a':=?_) ?_ ?_
    rotate_left
    ·show Act.put _ (some 28) _=_
     simp only [Act.put,List.setIfInBounds_toArray,List.set_cons_zero,List.set_cons_succ,i64_w,i32_w]
     rfl
    refine pure_ (i:=11) (N:=some 5) (v:=?_) (a':=?_) #[true,true,true,true,true,true,true,true,true,true,true,true] rfl rfl (by kernel_rfl) (fun _ _ _ h=>h) (Or.inl ⟨by rfl,?_⟩) ?_ ?_
    rotate_left;· intro w';go_simp;with_reducible rfl
    rotate_left;· simp only [Act.put,List.setIfInBounds_toArray,List.set_cons_zero,List.set_cons_succ,i64_w,i32_w];rfl
    refine done_ (by kernel_rfl) ?_
    have hyl:xs.length+1=(zs ++ [(i:Int)] ++ ys).length:=by
     have:=HZ1.out
     have:=HY1.out
     simp only [List.length_append,List.length_cons,List.length_nil]
     omega
    have HE:=Aside0.mk hyl
    clear hyl
    go_wp2_with fail
    all_goals (
     go_roundg d
     case measure=>omega
     case rel=>
      refine⟨i+1,d,zs ++ [(i:Int)] ++ ys,b2,c2,by omega,Nat.le_refl _,⟨by have:=HE.out;have:=HXL.out;omega⟩,by push_cast;rfl,?_,⟨Kd.R_lower HR9.out (by have:=HK3.out.1;omega)⟩,⟨IsS92.below HI3.out HL9.out⟩,⟨KeepBut.trans HK3.out (KeepBut.of_below HL9.out g none) (.inl rfl)⟩,⟨below_step HB3.out HL9.out⟩⟩
      exact HA2)
end Go.Proofs.YtlhkdbkjafiikaaGreat.X
end

section
namespace Go.Proofs.YtlhkdbkjafiikaaGreat.Q
open Go.RowKit Go.Proofs.YtlhkdbkjafiikaaGreatW.PrintWords Go.Proofs.YtlhkdbkjafiikaaGreatW.PrintLast Go.Proofs.YtlhkdbkjafiikaaGreatW.PrintMore
attribute [local go_sem] max2_int min2_int max_two min_two max_three min_three max_four min_four
set_option linter.unusedVariables false
set_option linter.unusedSimpArgs false
def spec_l01Bad.f (s0_0:List Int) (s0_1:Int) (s0_2:Int) (a1_0:Int) (l1_1:List Int):Option (Int×List Int×Int×Int):=(spec_l01Next.f s0_0 s0_1 s0_2 50).bind fun bt310=>(if bt310.1=0 then ((spec_l01Pick.f s0_0 bt310.2.1 bt310.2.2 (([0,7,(-1)]:List Int))).bind fun bt316=>((spec_l01Own.f l1_1).bind fun t319=>(some (bt316.1,t319,bt316.2.1,bt316.2.2)))) else (if bt310.1=1 then (if (l1_1.length:Int)>0 then (if 1≤(l1_1.length:Int) then ((spec_l01Own.f (l1_1.drop 1)).bind fun t326=>(some (a1_0,t326,bt310.2.1,bt310.2.2))) else (none)) else (some (a1_0,l1_1,bt310.2.1,bt310.2.2))) else (if bt310.1=2 then ((spec_l01Own.f l1_1).bind fun t329=>((spec_l01All.f a1_0).bind fun t332=>((spec_l01All.f a1_0).bind fun t333=>((spec_l01Pick.f s0_0 bt310.2.1 bt310.2.2 (([0,wrap64 (t332+1),t333,1]:List Int))).bind fun bt337=>(if t329.length<17592186044416 then (some (a1_0,(t329 ++ [bt337.1]),bt337.2.1,bt337.2.2)) else (none)))))) else (some (a1_0,l1_1,bt310.2.1,bt310.2.2)))))
def spec_l01Bad.T3:Bool×List (List Nat×List Nat):=(true,[([],[]),([],[]),([0,1],[0,1]),([],[]),([3],[3]),([4,2],[4]),([2,5],[2,5]),([6,5,0,1,2,3,4,5,6],[6])])
def spec_l01Bad.B3:List Nat:= [0,0,3,0,8,31,63,127]
theorem spec_l01Bad.tab3:rtab .any (opsOf Tryz.f69 3)=spec_l01Bad.T3:=by kernel_rfl
theorem spec_l01Bad.bits3:waitsOk spec_l01Bad.T3.2 spec_l01Bad.B3=true:=by kernel_rfl
def spec_l01Bad.T6:Bool×List (List Nat×List Nat):=(true,[([],[]),([0],[0]),([],[]),([2],[2]),([3],[3]),([4],[4]),([1,5],[1,5]),([6,5,0,1,2,3,4,5,6],[6])])
def spec_l01Bad.B6:List Nat:= [0,1,0,4,12,28,63,127]
theorem spec_l01Bad.tab6:rtab .any (opsOf Tryz.f69 6)=spec_l01Bad.T6:=by kernel_rfl
theorem spec_l01Bad.bits6:waitsOk spec_l01Bad.T6.2 spec_l01Bad.B6=true:=by kernel_rfl
def spec_l01Bad.T8:Bool×List (List Nat×List Nat):=(true,[([],[]),([0],[0]),([],[]),([2],[2]),([3],[3]),([],[]),([],[]),([6],[6]),([7,4],[7]),([8],[8]),([],[]),([10],[10]),([11,8],[11]),([9,12],[9,12]),([5,13,12],[5,13]),([14],[14]),([4,15,14],[4,15]),([1,16],[1,16]),([17,16,0,1,2,3,4,5,6,7,8,9,10,11,12,13,14,15,16,17],[17])])
def spec_l01Bad.B8:List Nat:= [0,1,0,4,12,0,0,64,220,476,0,1024,3548,8156,16380,32764,65532,131071,262143]
theorem spec_l01Bad.tab8:rtab .any (opsOf Tryz.f69 8)=spec_l01Bad.T8:=by kernel_rfl
theorem spec_l01Bad.bits8:waitsOk spec_l01Bad.T8.2 spec_l01Bad.B8=true:=by kernel_rfl
set_option maxHeartbeats 8000000 in
set_option maxRecDepth 100000 in
theorem spec_l01Bad.calls (g:Nat) (s0_0:List Int) (s0_1:Int) (s0_2:Int) (a1_0:Int) (P1_1_:Nat→Prop) (u9000_:Value) (l1_1:List Int) (r1:Int) (r2:List Int) (r3:Int) (r4:Int) (w0 w:World) (hI:IsS92 w0 w g s0_0 s0_1 s0_2) (hB:Below w0.heap.size w0 w) (ho1_1:Kd.R (Kd.int .i64) 2 w w0.heap.size P1_1_ u9000_ l1_1) (h:spec_l01Bad.f s0_0 s0_1 s0_2 a1_0 l1_1=some (r1,r2,r3,r4)) :
  Calls Tryz.prog 69 #[.pointer (some ⟨g,0,none⟩),.agg #[.int .i64 a1_0,u9000_]] w fun e w'=>∃ v1_:Value,e = .returned (.agg #[.int .i64 r1,v1_])∧Kd.R (Kd.int .i64) 2 w' w0.heap.size (fun k_=>(P1_1_ k_∨w.heap.size≤k_)) v1_ r2∧IsS92 w0 w' g s0_0 r3 r4∧Below w0.heap.size w0 w'∧Kept w w' (fun k_=>(P1_1_ k_)∨k_=g):=by
 have hu26:=Tryz.underlying26;have HO1_1:=Aside0.mk (show Kd.R (Kd.int .i64) 2 w w0.heap.size (fun k_=>(P1_1_ k_∨w.heap.size≤k_)) u9000_ l1_1 from Kd.R_mono ho1_1 (fun k_ hk=>(.inl hk)));have HI0:=Aside0.mk hI;have HL:=Aside0.mk hB.size;clear hI;have HK:=Aside0.mk (Kept.refl w (fun k_=>(P1_1_ k_)∨k_=g));have HW0:=Aside0.mk hB.size;have HB:=Aside0.mk hB;clear hB;have H:((spec_l01Next.f s0_0 s0_1 s0_2 50).bind fun bt310=>(if bt310.1=0 then ((spec_l01Pick.f s0_0 bt310.2.1 bt310.2.2 (([0,7,(-1)]:List Int))).bind fun bt316=>((spec_l01Own.f l1_1).bind fun t319=>(some (bt316.1,t319,bt316.2.1,bt316.2.2)))) else (if bt310.1=1 then (if (l1_1.length:Int)>0 then (if 1≤(l1_1.length:Int) then ((spec_l01Own.f (l1_1.drop 1)).bind fun t326=>(some (a1_0,t326,bt310.2.1,bt310.2.2))) else (none)) else (some (a1_0,l1_1,bt310.2.1,bt310.2.2))) else (if bt310.1=2 then ((spec_l01Own.f l1_1).bind fun t329=>((spec_l01All.f a1_0).bind fun t332=>((spec_l01All.f a1_0).bind fun t333=>((spec_l01Pick.f s0_0 bt310.2.1 bt310.2.2 (([0,wrap64 (t332+1),t333,1]:List Int))).bind fun bt337=>(if t329.length<17592186044416 then (some (a1_0,(t329 ++ [bt337.1]),bt337.2.1,bt337.2.2)) else (none)))))) else (some (a1_0,l1_1,bt310.2.1,bt310.2.2))))))=some (r1,r2,r3,r4):=h;clear h;replace H:=Option.bind_eq_some_iff.mp H;obtain ⟨⟨t310,t311,t312⟩,A30,H⟩:=H;replace H:(if t310=0 then ((spec_l01Pick.f s0_0 t311 t312 (([0,7,(-1)]:List Int))).bind fun bt316=>((spec_l01Own.f l1_1).bind fun t319=>(some (bt316.1,t319,bt316.2.1,bt316.2.2)))) else (if t310=1 then (if (l1_1.length:Int)>0 then (if 1≤(l1_1.length:Int) then ((spec_l01Own.f (l1_1.drop 1)).bind fun t326=>(some (a1_0,t326,t311,t312))) else (none)) else (some (a1_0,l1_1,t311,t312))) else (if t310=2 then ((spec_l01Own.f l1_1).bind fun t329=>((spec_l01All.f a1_0).bind fun t332=>((spec_l01All.f a1_0).bind fun t333=>((spec_l01Pick.f s0_0 t311 t312 (([0,wrap64 (t332+1),t333,1]:List Int))).bind fun bt337=>(if t329.length<17592186044416 then (some (a1_0,(t329 ++ [bt337.1]),bt337.2.1,bt337.2.2)) else (none)))))) else (some (a1_0,l1_1,t311,t312)))))=some (r1,r2,r3,r4):=H;have A3:=Aside0.mk A30;clear A30;by_cases c4:t310=0
 ·rw[if_pos c4] at H;have c4b0:(t310 == 0)=true:=beq_iff_eq.mpr c4;have c4b1:(t310 != 0)=false:=bne_eq_false_iff_eq.mpr c4;clear c4;obtain ⟨y313,hy313⟩:∃ y_:List Int,y_=(([0,7,(-1)]:List Int)):=⟨_,rfl⟩
  replace H:((spec_l01Pick.f s0_0 t311 t312 y313).bind fun bt316=>((spec_l01Own.f l1_1).bind fun t319=>(some (bt316.1,t319,bt316.2.1,bt316.2.2))))=some (r1,r2,r3,r4):=by first|(rw[hy313];with_reducible exact H)|(have H2_:=(Option.bind_some _ _).symm.trans H;rw[hy313];with_reducible exact H2_)|(have H2_:=(Option.bind_some _ _).symm.trans H;with_reducible exact H2_)|with_reducible exact H|(rw[hy313];exact H)|exact H
  have Ny313:=Aside0.mk hy313;clear hy313;replace H:=Option.bind_eq_some_iff.mp H;obtain ⟨⟨t316,t317,t318⟩,A50,H⟩:=H;replace H:((spec_l01Own.f l1_1).bind fun t319=>(some (t316,t319,t317,t318)))=some (r1,r2,r3,r4):=H;have A5:=Aside0.mk A50;clear A50;replace H:=Option.bind_eq_some_iff.mp H;obtain ⟨t319,A60,H⟩:=H;replace H:(some (t316,t319,t317,t318))=some (r1,r2,r3,r4):=H;have A6:=Aside0.mk A60;clear A60;simp only [Option.some.injEq,Prod.mk.injEq] at H;obtain ⟨rfl,rfl,rfl,rfl⟩:=H;obtain ⟨Ao7,co7,eo7⟩:=Kd.R_slice HO1_1.out;subst eo7;go_enter Tryz.func69,Tryz.ntmps69;try go_wp2_with (first|((with_reducible refine gate_dst (N:=3) rfl ?_);refine bx 3 #[.int .i64 a1_0,.slice Ao7 l1_1.length co7] 26 ?_;intro gb308 hg w8 hbox hb;replace HO1_1:=krA HO1_1 hb;have BK308:=Aside0.mk (hbox);have GW308:=Aside0.mk ((by rw[hg];exact(by first|exact HK.out.1|exact(show Kept w _ (fun k_=>(P1_1_ k_)∨k_=g) from kt HK.out).1):w.heap.size≤gb308));replace HK:=Aside0.mk (Kept.below (S:=(fun k_=>(P1_1_ k_)∨k_=g)) (kt HK.out) hb);have GE308:=Aside0.mk ((by rw[hg];exact(below_size (blg HB.out (IsS92.ge HI0.out))):w0.heap.size≤gb308));replace HB:=Aside0.mk (below_step (blg HB.out (IsS92.ge HI0.out)) hb);have NB0_308:=Aside0.mk ((by rw[hg];exact Nat.ne_of_lt (IsS92.lt (show IsS92 w0 _ g s0_0 s0_1 s0_2 from IsS92.ch HI0.out)):g≠gb308));have NB308_0:=Aside0.mk ((by rw[hg];exact Nat.ne_of_gt (IsS92.lt (show IsS92 w0 _ g s0_0 s0_1 s0_2 from IsS92.ch HI0.out)):gb308≠g));replace HI0:=Aside0.mk (IsS92.below (IsS92.ch HI0.out) hb);clear hb hbox hg)|((with_reducible refine gate_dst (N:=4) rfl ?_);refine bx 4 #[.int .i64 0,.slice none 0 0] 26 ?_;intro gb309 hg w9 hbox hb;replace HO1_1:=krA HO1_1 hb;have BK309:=Aside0.mk (hbox);have GW309:=Aside0.mk ((by rw[hg];exact(by first|exact HK.out.1|exact(show Kept w _ (fun k_=>(P1_1_ k_)∨k_=g) from kt HK.out).1):w.heap.size≤gb309));replace HK:=Aside0.mk (Kept.below (S:=(fun k_=>(P1_1_ k_)∨k_=g)) (kt HK.out) hb);have GE309:=Aside0.mk ((by rw[hg];exact(below_size (blg HB.out (IsS92.ge HI0.out))):w0.heap.size≤gb309));replace HB:=Aside0.mk (below_step (blg HB.out (IsS92.ge HI0.out)) hb);have NB308_309:=nlA hg BK308;have NB309_308:=ngA hg BK308;replace BK308:=bkA BK308 hb;have NB0_309:=Aside0.mk ((by rw[hg];exact Nat.ne_of_lt (IsS92.lt (show IsS92 w0 _ g s0_0 s0_1 s0_2 from IsS92.ch HI0.out)):g≠gb309));have NB309_0:=Aside0.mk ((by rw[hg];exact Nat.ne_of_gt (IsS92.lt (show IsS92 w0 _ g s0_0 s0_1 s0_2 from IsS92.ch HI0.out)):gb309≠g));replace HI0:=Aside0.mk (IsS92.below (IsS92.ch HI0.out) hb);clear hb hbox hg)|((with_reducible refine gate_callee (f:=67) rfl ?_);refine gl (some 6) Tryz.func67 #[.pointer (some ⟨g,0,none⟩),.int .i64 50] ?_;(with_reducible refine(spec_l01Next.calls g s0_0 s0_1 s0_2 50 t310 t311 t312 w0 _ (IsS92.ch HI0.out) (blg HB.out (IsS92.ge HI0.out)) A3.out).mono ?_);rintro e w10 ⟨rfl,hi,hb,hk⟩;refine⟨_,rfl,?_⟩;replace HO1_1:=Aside0.mk (Kd.R_mono (Kd.R_keep (IsS92.apart (show IsS92 w0 _ g s0_0 s0_1 s0_2 from IsS92.ch HI0.out) (kr HO1_1.out) (by decide)) hk (fun _ h=>h.2)) (fun _ h=>h.1));replace BK308:=Aside0.mk (kbk hk (bk BK308.out) NB308_0.out);replace BK309:=Aside0.mk (kbk hk (bk BK309.out) NB309_0.out);replace HK:=Aside0.mk (Kept.of_keep (S:=(fun k_=>(P1_1_ k_)∨k_=g)) (kt HK.out) hk (.inl (.inr rfl)));replace HB:=Aside0.mk (hb);replace HI0:=Aside0.mk (hi);(try clear hb);(try clear hb2);(try clear hk);(try clear hi)))
  replace HO1_1:=Aside0.mk (Kd.R_drew HO1_1.out);replace BK308:=Aside0.mk (blk_drew BK308.out);replace BK309:=Aside0.mk (blk_drew BK309.out);replace HI0:=Aside0.mk (IsS92.drew HI0.out);replace HK:=Aside0.mk (Kept.drew HK.out);replace HB:=Aside0.mk (below_drew1 HB.out);refine start_ (n:=8) (S:=fun w'=>w'.cell? ⟨gb308,0,none⟩=some (.int .i64 a1_0)∧w'.cell? ⟨gb308,1,none⟩=some (.slice Ao7 l1_1.length co7)) (ds:= []) (ar 0 8) (by kernel_rfl) rfl rfl ⟨(blk_cell BK308.out 0).trans rfl,(blk_cell BK308.out 1).trans rfl⟩ (fun hHeld=>?_);refine with_tabW spec_l01Bad.tab3 spec_l01Bad.bits3 (fun HT_ HW_=>?_);generalize w10.drew=w11 at HO1_1 BK308 BK309 HI0 HK HB hHeld ⊢;refine pu 0 (some 9) (ar 1 7) HT_ ?_;refine pu 3 (some 12) #[U,O,O,U,O,O,O,O] HT_ ?_;refine tk 4 (some 13) #[U,O,O,U,U,O,O,O] HT_ HW_ hHeld ?_;refine on_ 1 (some 10) #[U,U,O,U,U,O,O,O] HT_ fun K hK=>?_;refine Kd.R_lit_step (Kd.int .i64) _ 2 ?hg (N:=10) ?hd (xs:=([0,7,(-1)]:List Int)) (inner:= [.int .i64 0,.int .i64 7,.int .i64 (-1)]) (ok:=fun _=>True) (okp:=fun _=>True) ?hr ?hp (fun _ hk=>hk) trivial (Below.refl _ _) (Nat.le_refl _) (by simp) ?_;(case hd=>rfl);(case hg=>rfl);(case hr=>first|(go_simp;done)|(go_simp;rfl));(case hp=>exact(Reps.one (show Kd.M (Kd.int .i64) _ _ _ 0 [.int .i64 0] from rfl) (Reps.one (show Kd.M (Kd.int .i64) _ _ _ 7 [.int .i64 7] from rfl) (Reps.one (show Kd.M (Kd.int .i64) _ _ _ (-1) [.int .i64 (-1)] from rfl) (Reps.none _ _)))));intro v314 w12 ho13 hb hg_ hnew_;clear hg_ hnew_;(first|rw[← Ny313.out] at ho13|(simp only [Int.reduceToNat] at ho13;rw[← Ny313.out] at ho13))
  have HO315:=Aside0.mk (Kd.R_lower (Kd.R_new' (Kd.R_newM (M:=fun k_=>(P1_1_ k_∨w.heap.size≤k_)) ho13 (by first|exact HK.out.1|exact(show Kept w _ (fun k_=>(P1_1_ k_)∨k_=g) from kt HK.out).1) (fun k_ h_=> .inr h_)) (Kd.R_lt (kr HO1_1.out))) (below_size (blg HB.out (IsS92.ge HI0.out))));replace HO1_1:=Aside0.mk (Kd.R_elder' (kr HO1_1.out) (Kd.R_base ho13) hb);replace BK308:=bkA BK308 hb;replace BK309:=bkA BK309 hb;replace HK:=Aside0.mk (Kept.below (S:=(fun k_=>(P1_1_ k_)∨k_=g)) (kt HK.out) hb);replace HB:=Aside0.mk (below_step (blg HB.out (IsS92.ge HI0.out)) hb);replace HI0:=Aside0.mk (IsS92.below (IsS92.ch HI0.out) hb);clear hb ho13;obtain ⟨Ao14,co14,eo14⟩:=Kd.R_slice HO315.out;(first|subst eo14|(injection eo14 with f1_ f2_ f3_;have f4_:=f1_.symm;have f5_:=f3_.symm;clear f1_ f2_ f3_;subst f4_;subst f5_))
  refine hK.out _ _ ⟨(blk_cell BK308.out 0).trans rfl,(blk_cell BK308.out 1).trans rfl⟩ (fun hHeld=>?_);clear hK K;refine nr 10 ?_;refine on_ 2 (some 11) (ar 5 3) HT_ fun K hK=>?_;refine gr Tryz.func81 #[.pointer (some ⟨g,0,none⟩),.slice Ao14 y313.length co14] ?_;with_reducible refine(spec_l01Pick.calls g s0_0 t311 t312 _ _ y313 t316 t317 t318 w0 _ (IsS92.ch HI0.out) (blg HB.out (IsS92.ge HI0.out)) (cb (Kd.R_reads' HO315.out).2.2) ((Kd.R_reads' HO315.out).2.1) (far_slice (IsS92.own_ne HI0.out HO315.out (by decide))) A5.out).mono ?_
  rintro e w15 ⟨rfl,hi,hb,hk⟩;refine⟨_,rfl,?_⟩;replace HO1_1:=Aside0.mk (Kd.R_mono (Kd.R_keep (IsS92.apart (show IsS92 w0 _ g s0_0 t311 t312 from IsS92.ch HI0.out) (kr HO1_1.out) (by decide)) hk (fun _ h=>h.2)) (fun _ h=>h.1));replace BK308:=Aside0.mk (kbk hk (bk BK308.out) NB308_0.out);replace BK309:=Aside0.mk (kbk hk (bk BK309.out) NB309_0.out);replace HO315:=Aside0.mk (Kd.R_mono (Kd.R_keep (IsS92.apart (show IsS92 w0 _ g s0_0 t311 t312 from IsS92.ch HI0.out) (kr HO315.out) (by decide)) hk (fun _ h=>h.2)) (fun _ h=>h.1));replace HK:=Aside0.mk (Kept.of_keep (S:=(fun k_=>(P1_1_ k_)∨k_=g)) (kt HK.out) hk (.inl (.inr rfl)));replace HB:=Aside0.mk (hb);replace HI0:=Aside0.mk (hi);(try clear hb)
  (try clear hb2)
  (try clear hk)
  (try clear hi)
  refine hK.out _ _ ⟨(blk_cell BK308.out 0).trans rfl,(blk_cell BK308.out 1).trans rfl⟩ (fun hHeld=>?_);clear hK K;refine nr 11 ?_;refine on_ 5 (some 14) (ar 6 2) HT_ fun K hK=>?_;refine gr Tryz.func123 #[.slice Ao7 l1_1.length co7] ?_;with_reducible refine(spec_l01Own.calls _ _ l1_1 t319 _ (cb (Kd.R_reads' HO1_1.out).2.2) ((Kd.R_reads' HO1_1.out).2.1) A6.out).mono ?_
  rintro e w16 ⟨v320,rfl,ho0,hb⟩;refine⟨_,rfl,?_⟩;have HO321:=Aside0.mk (Kd.R_lower (Kd.R_new' (Kd.R_new' (Kd.R_newM (M:=fun k_=>(P1_1_ k_∨w.heap.size≤k_)) ho0 (by first|exact HK.out.1|exact(show Kept w _ (fun k_=>(P1_1_ k_)∨k_=g) from kt HK.out).1) (fun k_ h_=> .inr h_)) (Kd.R_lt (kr HO1_1.out))) (Kd.R_lt (kr HO315.out))) (below_size (blg HB.out (IsS92.ge HI0.out))));replace HO1_1:=Aside0.mk (Kd.R_elder' (kr HO1_1.out) (Kd.R_base ho0) hb);replace HO315:=Aside0.mk (Kd.R_elder' (kr HO315.out) (Kd.R_base ho0) hb);replace BK308:=bkA BK308 hb;replace BK309:=bkA BK309 hb;replace HK:=Aside0.mk (Kept.below (S:=(fun k_=>(P1_1_ k_)∨k_=g)) (kt HK.out) hb);replace HB:=Aside0.mk (below_step (blg HB.out (IsS92.ge HI0.out)) hb);replace HI0:=Aside0.mk (IsS92.below (IsS92.ch HI0.out) hb);(try clear hb)
  (try clear hb2)
  (try clear hk)
  (try clear hi)
  (try clear ho0)
  obtain ⟨Ao17,co17,eo17⟩:=Kd.R_slice HO321.out;(first|subst eo17|(injection eo17 with f1_ f2_ f3_;have f4_:=f1_.symm;have f5_:=f3_.symm;clear f1_ f2_ f3_;subst f4_;subst f5_))
  refine hK.out _ _ ⟨(blk_cell BK308.out 0).trans rfl,(blk_cell BK308.out 1).trans rfl⟩ (fun hHeld=>?_);clear hK K;refine nr 14 ?_;refine pu 6 (some 15) (ar 7 1) HT_ ?_;refine on_ 7 (none) (ar 8 0) HT_ fun K hK=>?_;have hs18:w16.cell? ⟨gb309,0,none⟩=some (.int .i64 0):=(blk_cell BK309.out 0).trans rfl;have hfs18:=blk_frozen BK309.out 0;have hns18_0:=NB308_309.out;have hms18_0:=NB309_308.out;have hs19:w16.cell? ⟨gb309,1,none⟩=some (.slice none 0 0):=(blk_cell BK309.out 1).trans rfl;have hfs19:=blk_frozen BK309.out 1;have hns19_0:=NB308_309.out;have hms19_0:=NB309_308.out;refine skip_ (w1:=?_) (by rfl) rfl ?_ ?_;rotate_left
  ·go_simp;rfl
  refine hK.out _ _ ⟨((cell_far (p:=⟨gb309,_,none⟩) NB308_309.out _).trans (((cell_far (p:=⟨gb309,_,none⟩) NB308_309.out _).trans (hHeld.1)))),((cell_far (p:=⟨gb309,_,none⟩) NB308_309.out _).trans (((cell_far (p:=⟨gb309,_,none⟩) NB308_309.out _).trans (hHeld.2))))⟩ (fun hHeld=>?_);clear hK K;refine done_ (done_of HT_.out (by kernel_rfl)) ?_;try go_wp2
  refine bodyPost_ret (results_cell_row rfl _ _ gb309 26 #[.int .i64 t316,.slice Ao17 t319.length co17] (0,0) _ rfl (by(with_reducible repeat(first|refine blk_drewN ?_ _|refine blk_drew ?_|refine blk_alloc ?_ _));refine blk_put (cs:=#[.int .i64 t316,.slice none 0 0]) ?_ 1 _ rfl;(with_reducible repeat(first|refine blk_drewN ?_ _|refine blk_drew ?_|refine blk_alloc ?_ _));refine blk_put (cs:=#[.int .i64 0,.slice none 0 0]) ?_ 0 _ rfl;(with_reducible repeat(first|refine blk_drewN ?_ _|refine blk_drew ?_|refine blk_alloc ?_ _));exact BK309.out) Tryz.underlying26 rfl (by kernel_rfl)) rfl ?_;exact⟨_,rr,by(with_reducible repeat(first|apply Kd.R_alloc|apply Kd.R_drewN|apply Kd.R_drew));exact Kd.R_mono (Kd.R_far (p:=⟨gb309,1,none⟩) (Kd.R_far (p:=⟨gb309,0,none⟩) (Kd.R_types HO321.out BK309.out (by decide)) (fun _ hk=>hk.2) (.int .i64 t316)) (fun _ hk=>hk.2) (.slice Ao17 t319.length co17)) (fun _ hk=>hk.1.1.1.1),IsS92.ch HI0.out,blg HB.out (IsS92.ge HI0.out),kt HK.out⟩
 ·rw[if_neg c4] at H;have c4b0:(t310 == 0)=false:=beq_eq_false_iff_ne.mpr c4;have c4b1:(t310 != 0)=true:=bne_iff_ne.mpr c4;by_cases c20:t310=1
  ·rw[if_pos c20] at H;have c20b0:(t310 == 1)=true:=beq_iff_eq.mpr c20;have c20b1:(t310 != 1)=false:=bne_eq_false_iff_eq.mpr c20;clear c20;by_cases c21:(l1_1.length:Int)>0
   ·rw[if_pos c21] at H;have c21b0:decide (0<(l1_1.length:Int))=true:=decide_eq_true c21;have c21b1:decide (0<l1_1.length)=true:=decide_eq_true (by omega);clear c21;by_cases c22:1≤(l1_1.length:Int)
    ·rw[if_pos c22] at H;have c22b0:=eq_true c22;have c22b1:decide (1≤(l1_1.length:Int))=true:=decide_eq_true c22;clear c22;obtain ⟨y322,hy322⟩:∃ y_:List Int,y_=(l1_1.drop 1):=⟨_,rfl⟩
     replace H:((spec_l01Own.f y322).bind fun t326=>(some (a1_0,t326,t311,t312)))=some (r1,r2,r3,r4):=by first|(rw[hy322];with_reducible exact H)|(have H2_:=(Option.bind_some _ _).symm.trans H;rw[hy322];with_reducible exact H2_)|(have H2_:=(Option.bind_some _ _).symm.trans H;with_reducible exact H2_)|with_reducible exact H|(rw[hy322];exact H)|exact H
     have Ny322:=Aside0.mk hy322;clear hy322;replace H:=Option.bind_eq_some_iff.mp H;obtain ⟨t326,A230,H⟩:=H;replace H:(some (a1_0,t326,t311,t312))=some (r1,r2,r3,r4):=H;have A23:=Aside0.mk A230;clear A230;simp only [Option.some.injEq,Prod.mk.injEq] at H;obtain ⟨rfl,rfl,rfl,rfl⟩:=H;obtain ⟨Ao24,co24,eo24⟩:=Kd.R_slice HO1_1.out;subst eo24;go_enter Tryz.func69,Tryz.ntmps69;try go_wp2_with (first|((with_reducible refine gate_dst (N:=3) rfl ?_);refine bx 3 #[.int .i64 a1_0,.slice Ao24 l1_1.length co24] 26 ?_;intro gb308 hg w25 hbox hb;replace HO1_1:=krA HO1_1 hb;have BK308:=Aside0.mk (hbox);have GW308:=Aside0.mk ((by rw[hg];exact(by first|exact HK.out.1|exact(show Kept w _ (fun k_=>(P1_1_ k_)∨k_=g) from kt HK.out).1):w.heap.size≤gb308));replace HK:=Aside0.mk (Kept.below (S:=(fun k_=>(P1_1_ k_)∨k_=g)) (kt HK.out) hb);have GE308:=Aside0.mk ((by rw[hg];exact(below_size (blg HB.out (IsS92.ge HI0.out))):w0.heap.size≤gb308));replace HB:=Aside0.mk (below_step (blg HB.out (IsS92.ge HI0.out)) hb);have NB0_308:=Aside0.mk ((by rw[hg];exact Nat.ne_of_lt (IsS92.lt (show IsS92 w0 _ g s0_0 s0_1 s0_2 from IsS92.ch HI0.out)):g≠gb308));have NB308_0:=Aside0.mk ((by rw[hg];exact Nat.ne_of_gt (IsS92.lt (show IsS92 w0 _ g s0_0 s0_1 s0_2 from IsS92.ch HI0.out)):gb308≠g));replace HI0:=Aside0.mk (IsS92.below (IsS92.ch HI0.out) hb);clear hb hbox hg)|((with_reducible refine gate_dst (N:=4) rfl ?_);refine bx 4 #[.int .i64 0,.slice none 0 0] 26 ?_;intro gb309 hg w26 hbox hb;replace HO1_1:=krA HO1_1 hb;have BK309:=Aside0.mk (hbox);have GW309:=Aside0.mk ((by rw[hg];exact(by first|exact HK.out.1|exact(show Kept w _ (fun k_=>(P1_1_ k_)∨k_=g) from kt HK.out).1):w.heap.size≤gb309));replace HK:=Aside0.mk (Kept.below (S:=(fun k_=>(P1_1_ k_)∨k_=g)) (kt HK.out) hb);have GE309:=Aside0.mk ((by rw[hg];exact(below_size (blg HB.out (IsS92.ge HI0.out))):w0.heap.size≤gb309));replace HB:=Aside0.mk (below_step (blg HB.out (IsS92.ge HI0.out)) hb);have NB308_309:=nlA hg BK308;have NB309_308:=ngA hg BK308;replace BK308:=bkA BK308 hb;have NB0_309:=Aside0.mk ((by rw[hg];exact Nat.ne_of_lt (IsS92.lt (show IsS92 w0 _ g s0_0 s0_1 s0_2 from IsS92.ch HI0.out)):g≠gb309));have NB309_0:=Aside0.mk ((by rw[hg];exact Nat.ne_of_gt (IsS92.lt (show IsS92 w0 _ g s0_0 s0_1 s0_2 from IsS92.ch HI0.out)):gb309≠g));replace HI0:=Aside0.mk (IsS92.below (IsS92.ch HI0.out) hb);clear hb hbox hg)|((with_reducible refine gate_callee (f:=67) rfl ?_);refine gl (some 6) Tryz.func67 #[.pointer (some ⟨g,0,none⟩),.int .i64 50] ?_;(with_reducible refine(spec_l01Next.calls g s0_0 s0_1 s0_2 50 t310 t311 t312 w0 _ (IsS92.ch HI0.out) (blg HB.out (IsS92.ge HI0.out)) A3.out).mono ?_);rintro e w27 ⟨rfl,hi,hb,hk⟩;refine⟨_,rfl,?_⟩;replace HO1_1:=Aside0.mk (Kd.R_mono (Kd.R_keep (IsS92.apart (show IsS92 w0 _ g s0_0 s0_1 s0_2 from IsS92.ch HI0.out) (kr HO1_1.out) (by decide)) hk (fun _ h=>h.2)) (fun _ h=>h.1));replace BK308:=Aside0.mk (kbk hk (bk BK308.out) NB308_0.out);replace BK309:=Aside0.mk (kbk hk (bk BK309.out) NB309_0.out);replace HK:=Aside0.mk (Kept.of_keep (S:=(fun k_=>(P1_1_ k_)∨k_=g)) (kt HK.out) hk (.inl (.inr rfl)));replace HB:=Aside0.mk (hb);replace HI0:=Aside0.mk (hi);(try clear hb);(try clear hb2);(try clear hk);(try clear hi);have hnb28:=NB308_309.out;have hnc28:=NB309_308.out;have hnb29:=NB308_0.out;have hnc29:=NB0_308.out;have hcz30_0:=z0_ BK308;have hcz30_1:=z1_ BK308;have hfz30_0:=hf_ BK308 0;have hfz30_1:=hf_ BK308 1))
     replace HO1_1:=Aside0.mk (Kd.R_drew HO1_1.out);replace BK308:=Aside0.mk (blk_drew BK308.out);replace BK309:=Aside0.mk (blk_drew BK309.out);replace HI0:=Aside0.mk (IsS92.drew HI0.out);replace HK:=Aside0.mk (Kept.drew HK.out);replace HB:=Aside0.mk (below_drew1 HB.out);have q32:(1:Int)≤((l1_1.length:Int):Int):=dd;obtain ⟨i032,hi032,_,hsz32,_⟩:=info_parts info2;have hroom32:l1_1.length≤co24:=(Kd.R_reads' HO1_1.out).2.1;have hC32:Kd.C (Kd.int .i64) _ Ao24 l1_1.length l1_1:=(Kd.R_reads' HO1_1.out).2.2;have hcut32:=cut_from (P:=Tryz.prog) 24 2 .i64 Tryz.underlying24 hi032 1 hsz32 Ao24 l1_1.length co24 1 (by omega) q32;have hr32:=Kd.C_drop (m:=(1:Int).toNat) (c:=co24) hC32 (by omega) hroom32;obtain ⟨A32,hA32⟩:∃ A1_,A1_=(if co24=(1:Int).toNat then Ao24 else (Ao24:Option Addr).map (·.add ((1:Int).toNat*1))):=⟨_,rfl⟩
     obtain ⟨c32,hc32⟩:∃ c1_,c1_=co24 - (1:Int).toNat:=⟨_,rfl⟩
     have hy32:y322.length=l1_1.length - (1:Int).toNat:=(by rw[Ny322.out,List.length_drop] <;> omega)
     rw[show (l1_1).drop (1:Int).toNat=y322 from Ny322.out.symm] at hr32;replace hr32:Kd.C (Kd.int .i64) _ A32 y322.length y322:=(by rw[hA32];exact hr32)
     rw[← hy32,← hA32,← hc32] at hcut32;have HR325:=Aside0.mk hr32;have HC325:=Aside0.mk (show y322.length≤c32 from by rw[hy32,hc32];exact Nat.sub_le_sub_right hroom32 _);clear hr32 hC32 hroom32 hi032 hsz32 hc32;have KY32:=Aside0.mk hy32;have KA32:=Aside0.mk hA32;clear hy32 hA32;have KL32:=Aside0.mk (show 1≤l1_1.length from by omega);replace q32:=eq_true q32;refine start_ (n:=8) (S:=fun w'=>w'.cell? ⟨gb308,0,none⟩=some (.int .i64 a1_0)∧w'.cell? ⟨gb308,1,none⟩=some (.slice Ao24 l1_1.length co24)) (ds:= []) (ar 0 8) (by kernel_rfl) rfl rfl ⟨(blk_cell BK308.out 0).trans rfl,(blk_cell BK308.out 1).trans rfl⟩ (fun hHeld=>?_);refine with_tabW spec_l01Bad.tab6 spec_l01Bad.bits6 (fun HT_ HW_=>?_);generalize w27.drew=w31 at HO1_1 BK308 BK309 HI0 HK HB HR325 hHeld ⊢;refine pu 0 (some 22) (ar 1 7) HT_ ?_;refine pu 2 (some 24) #[U,O,U,O,O,O,O,O] HT_ ?_;refine tk 1 (some 23) (ar 3 5) HT_ HW_ hHeld ?_;refine tk 3 (some 25) (ar 4 4) HT_ HW_ hHeld ?_;refine pu 4 (some 26) (ar 5 3) HT_ ?_;refine on_ 5 (some 27) (ar 6 2) HT_ fun K hK=>?_;refine gr Tryz.func123 #[.slice A32 y322.length c32] ?_;with_reducible refine(spec_l01Own.calls _ _ y322 t326 _ ?side1 ?side2 A23.out).mono ?_
     (case side1=>repeat(first|exact(by repeat(first|(with_reducible exact HR325.out)|(with_reducible refine Kd.C_alloc ?_ _)|(with_reducible refine Kd.C_drewN ?_ _)|(with_reducible refine Kd.C_drew ?_)|exact HR325.out))|(with_reducible refine Kd.C_alloc ?_ _)|(with_reducible refine Kd.C_drewN ?_ _)|(with_reducible refine Kd.C_drew ?_)))
     (case side2=>exact HC325.out)
     rintro e w33 ⟨v327,rfl,ho0,hb⟩;refine⟨_,rfl,?_⟩;have HO328:=Aside0.mk (Kd.R_lower (Kd.R_new' (Kd.R_newM (M:=fun k_=>(P1_1_ k_∨w.heap.size≤k_)) ho0 (by first|exact HK.out.1|exact(show Kept w _ (fun k_=>(P1_1_ k_)∨k_=g) from kt HK.out).1) (fun k_ h_=> .inr h_)) (Kd.R_lt (kr HO1_1.out))) (below_size (blg HB.out (IsS92.ge HI0.out))));replace HO1_1:=Aside0.mk (Kd.R_elder' (kr HO1_1.out) (Kd.R_base ho0) hb);replace BK308:=bkA BK308 hb;replace BK309:=bkA BK309 hb;replace HR325:=Aside0.mk (Kd.C_below (by repeat(first|(with_reducible exact HR325.out)|(with_reducible refine Kd.C_alloc ?_ _)|(with_reducible refine Kd.C_drewN ?_ _)|(with_reducible refine Kd.C_drew ?_)|exact HR325.out)) hb);replace HK:=Aside0.mk (Kept.below (S:=(fun k_=>(P1_1_ k_)∨k_=g)) (kt HK.out) hb);replace HB:=Aside0.mk (below_step (blg HB.out (IsS92.ge HI0.out)) hb);replace HI0:=Aside0.mk (IsS92.below (IsS92.ch HI0.out) hb);(try clear hb)
     (try clear hb2)
     (try clear hk)
     (try clear hi)
     (try clear ho0)
     obtain ⟨Ao34,co34,eo34⟩:=Kd.R_slice HO328.out;(first|subst eo34|(injection eo34 with f1_ f2_ f3_;have f4_:=f1_.symm;have f5_:=f3_.symm;clear f1_ f2_ f3_;subst f4_;subst f5_))
     refine hK.out _ _ ⟨(blk_cell BK308.out 0).trans rfl,(blk_cell BK308.out 1).trans rfl⟩ (fun hHeld=>?_);clear hK K;refine nr 27 ?_;refine pu 6 (some 28) (ar 7 1) HT_ ?_;refine on_ 7 (none) (ar 8 0) HT_ fun K hK=>?_;have hs35:w33.cell? ⟨gb309,0,none⟩=some (.int .i64 0):=(blk_cell BK309.out 0).trans rfl;have hfs35:=blk_frozen BK309.out 0;have hns35_0:=NB308_309.out;have hms35_0:=NB309_308.out;have hs36:w33.cell? ⟨gb309,1,none⟩=some (.slice none 0 0):=(blk_cell BK309.out 1).trans rfl;have hfs36:=blk_frozen BK309.out 1;have hns36_0:=NB308_309.out;have hms36_0:=NB309_308.out;refine skip_ (w1:=?_) (by rfl) rfl ?_ ?_;rotate_left
     ·go_simp;rfl
     refine hK.out _ _ ⟨((cell_far (p:=⟨gb309,_,none⟩) NB308_309.out _).trans (((cell_far (p:=⟨gb309,_,none⟩) NB308_309.out _).trans (hHeld.1)))),((cell_far (p:=⟨gb309,_,none⟩) NB308_309.out _).trans (((cell_far (p:=⟨gb309,_,none⟩) NB308_309.out _).trans (hHeld.2))))⟩ (fun hHeld=>?_);clear hK K;refine done_ (done_of HT_.out (by kernel_rfl)) ?_;try go_wp2
     refine bodyPost_ret (results_cell_row rfl _ _ gb309 26 #[.int .i64 a1_0,.slice Ao34 t326.length co34] (0,0) _ rfl (by(with_reducible repeat(first|refine blk_drewN ?_ _|refine blk_drew ?_|refine blk_alloc ?_ _));refine blk_put (cs:=#[.int .i64 a1_0,.slice none 0 0]) ?_ 1 _ rfl;(with_reducible repeat(first|refine blk_drewN ?_ _|refine blk_drew ?_|refine blk_alloc ?_ _));refine blk_put (cs:=#[.int .i64 0,.slice none 0 0]) ?_ 0 _ rfl;(with_reducible repeat(first|refine blk_drewN ?_ _|refine blk_drew ?_|refine blk_alloc ?_ _));exact BK309.out) Tryz.underlying26 rfl (by kernel_rfl)) rfl ?_;exact⟨_,rr,by(with_reducible repeat(first|apply Kd.R_alloc|apply Kd.R_drewN|apply Kd.R_drew));exact Kd.R_mono (Kd.R_far (p:=⟨gb309,1,none⟩) (Kd.R_far (p:=⟨gb309,0,none⟩) (Kd.R_types HO328.out BK309.out (by decide)) (fun _ hk=>hk.2) (.int .i64 a1_0)) (fun _ hk=>hk.2) (.slice Ao34 t326.length co34)) (fun _ hk=>hk.1.1.1),IsS92.ch HI0.out,blg HB.out (IsS92.ge HI0.out),kt HK.out⟩
    ·rw[if_neg c22] at H;exact absurd H (by simp)
   ·rw[if_neg c21] at H;have c21b0:decide (0<(l1_1.length:Int))=false:=decide_eq_false c21;have c21b1:decide (0<l1_1.length)=false:=decide_eq_false (by omega);clear c21;simp only [Option.some.injEq,Prod.mk.injEq] at H;obtain ⟨rfl,rfl,rfl,rfl⟩:=H;obtain ⟨Ao37,co37,eo37⟩:=Kd.R_slice HO1_1.out;subst eo37;go_enter Tryz.func69,Tryz.ntmps69;go_wp2_with (first|((with_reducible refine gate_dst (N:=3) rfl ?_);refine bx 3 #[.int .i64 a1_0,.slice Ao37 l1_1.length co37] 26 ?_;intro gb308 hg w38 hbox hb;replace HO1_1:=krA HO1_1 hb;have BK308:=Aside0.mk (hbox);have GW308:=Aside0.mk ((by rw[hg];exact(by first|exact HK.out.1|exact(show Kept w _ (fun k_=>(P1_1_ k_)∨k_=g) from kt HK.out).1):w.heap.size≤gb308));replace HK:=Aside0.mk (Kept.below (S:=(fun k_=>(P1_1_ k_)∨k_=g)) (kt HK.out) hb);have GE308:=Aside0.mk ((by rw[hg];exact(below_size (blg HB.out (IsS92.ge HI0.out))):w0.heap.size≤gb308));replace HB:=Aside0.mk (below_step (blg HB.out (IsS92.ge HI0.out)) hb);have NB0_308:=Aside0.mk ((by rw[hg];exact Nat.ne_of_lt (IsS92.lt (show IsS92 w0 _ g s0_0 s0_1 s0_2 from IsS92.ch HI0.out)):g≠gb308));have NB308_0:=Aside0.mk ((by rw[hg];exact Nat.ne_of_gt (IsS92.lt (show IsS92 w0 _ g s0_0 s0_1 s0_2 from IsS92.ch HI0.out)):gb308≠g));replace HI0:=Aside0.mk (IsS92.below (IsS92.ch HI0.out) hb);clear hb hbox hg)|((with_reducible refine gate_dst (N:=4) rfl ?_);refine bx 4 #[.int .i64 0,.slice none 0 0] 26 ?_;intro gb309 hg w39 hbox hb;replace HO1_1:=krA HO1_1 hb;have BK309:=Aside0.mk (hbox);have GW309:=Aside0.mk ((by rw[hg];exact(by first|exact HK.out.1|exact(show Kept w _ (fun k_=>(P1_1_ k_)∨k_=g) from kt HK.out).1):w.heap.size≤gb309));replace HK:=Aside0.mk (Kept.below (S:=(fun k_=>(P1_1_ k_)∨k_=g)) (kt HK.out) hb);have GE309:=Aside0.mk ((by rw[hg];exact(below_size (blg HB.out (IsS92.ge HI0.out))):w0.heap.size≤gb309));replace HB:=Aside0.mk (below_step (blg HB.out (IsS92.ge HI0.out)) hb);have NB308_309:=nlA hg BK308;have NB309_308:=ngA hg BK308;replace BK308:=bkA BK308 hb;have NB0_309:=Aside0.mk ((by rw[hg];exact Nat.ne_of_lt (IsS92.lt (show IsS92 w0 _ g s0_0 s0_1 s0_2 from IsS92.ch HI0.out)):g≠gb309));have NB309_0:=Aside0.mk ((by rw[hg];exact Nat.ne_of_gt (IsS92.lt (show IsS92 w0 _ g s0_0 s0_1 s0_2 from IsS92.ch HI0.out)):gb309≠g));replace HI0:=Aside0.mk (IsS92.below (IsS92.ch HI0.out) hb);clear hb hbox hg)|((with_reducible refine gate_callee (f:=67) rfl ?_);refine gl (some 6) Tryz.func67 #[.pointer (some ⟨g,0,none⟩),.int .i64 50] ?_;(with_reducible refine(spec_l01Next.calls g s0_0 s0_1 s0_2 50 t310 t311 t312 w0 _ (IsS92.ch HI0.out) (blg HB.out (IsS92.ge HI0.out)) A3.out).mono ?_);rintro e w40 ⟨rfl,hi,hb,hk⟩;refine⟨_,rfl,?_⟩;replace HO1_1:=Aside0.mk (Kd.R_mono (Kd.R_keep (IsS92.apart (show IsS92 w0 _ g s0_0 s0_1 s0_2 from IsS92.ch HI0.out) (kr HO1_1.out) (by decide)) hk (fun _ h=>h.2)) (fun _ h=>h.1));replace BK308:=Aside0.mk (kbk hk (bk BK308.out) NB308_0.out);replace BK309:=Aside0.mk (kbk hk (bk BK309.out) NB309_0.out);replace HK:=Aside0.mk (Kept.of_keep (S:=(fun k_=>(P1_1_ k_)∨k_=g)) (kt HK.out) hk (.inl (.inr rfl)));replace HB:=Aside0.mk (hb);replace HI0:=Aside0.mk (hi);(try clear hb);(try clear hb2);(try clear hk);(try clear hi);have hnb41:=NB308_309.out;have hnc41:=NB309_308.out;have hnb42:=NB308_0.out;have hnc42:=NB0_308.out;have hcz43_0:=z0_ BK308;have hcz43_1:=z1_ BK308;have hfz43_0:=hf_ BK308 0;have hfz43_1:=hf_ BK308 1;have hnb44:=NB309_0.out;have hnc44:=NB0_309.out;have hcz45_0:=z0_ BK309;have hcz45_1:=z1_ BK309;have hfz45_0:=hf_ BK309 0;have hfz45_1:=hf_ BK309 1))
    refine bodyPost_ret (results_cell_row rfl _ _ gb309 26 #[.int .i64 a1_0,.slice Ao37 l1_1.length co37] (0,0) _ rfl (by(with_reducible repeat(first|refine blk_drewN ?_ _|refine blk_drew ?_|refine blk_alloc ?_ _));refine blk_put (cs:=#[.int .i64 a1_0,.slice none 0 0]) ?_ 1 _ rfl;(with_reducible repeat(first|refine blk_drewN ?_ _|refine blk_drew ?_|refine blk_alloc ?_ _));refine blk_put (cs:=#[.int .i64 0,.slice none 0 0]) ?_ 0 _ rfl;(with_reducible repeat(first|refine blk_drewN ?_ _|refine blk_drew ?_|refine blk_alloc ?_ _));exact BK309.out) Tryz.underlying26 rfl (by kernel_rfl)) rfl ?_;exact⟨_,rr,by(with_reducible repeat(first|apply Kd.R_alloc|apply Kd.R_drewN|apply Kd.R_drew));exact Kd.R_mono (Kd.R_far (p:=⟨gb309,1,none⟩) (Kd.R_far (p:=⟨gb309,0,none⟩) (Kd.R_types HO1_1.out BK309.out (by decide)) (fun _ hk=>hk.2) (.int .i64 a1_0)) (fun _ hk=>hk.2) (.slice Ao37 l1_1.length co37)) (fun _ hk=>hk.1),IsS92.ch HI0.out,blg HB.out (IsS92.ge HI0.out),kt HK.out⟩
  ·rw[if_neg c20] at H;have c20b0:(t310 == 1)=false:=beq_eq_false_iff_ne.mpr c20;have c20b1:(t310 != 1)=true:=bne_iff_ne.mpr c20;by_cases c46:t310=2
   ·rw[if_pos c46] at H;have c46b0:(t310 == 2)=true:=beq_iff_eq.mpr c46;have c46b1:(t310 != 2)=false:=bne_eq_false_iff_eq.mpr c46;clear c46;replace H:=Option.bind_eq_some_iff.mp H;obtain ⟨t329,A470,H⟩:=H;replace H:((spec_l01All.f a1_0).bind fun t332=>((spec_l01All.f a1_0).bind fun t333=>((spec_l01Pick.f s0_0 t311 t312 (([0,wrap64 (t332+1),t333,1]:List Int))).bind fun bt337=>(if t329.length<17592186044416 then (some (a1_0,(t329 ++ [bt337.1]),bt337.2.1,bt337.2.2)) else (none)))))=some (r1,r2,r3,r4):=H;have A47:=Aside0.mk A470;clear A470;replace H:=Option.bind_eq_some_iff.mp H;obtain ⟨t332,A480,H⟩:=H;replace H:((spec_l01All.f a1_0).bind fun t333=>((spec_l01Pick.f s0_0 t311 t312 (([0,wrap64 (t332+1),t333,1]:List Int))).bind fun bt337=>(if t329.length<17592186044416 then (some (a1_0,(t329 ++ [bt337.1]),bt337.2.1,bt337.2.2)) else (none))))=some (r1,r2,r3,r4):=H;have A48:=Aside0.mk A480;clear A480;replace H:=Option.bind_eq_some_iff.mp H;obtain ⟨t333,A490,H⟩:=H;replace H:((spec_l01Pick.f s0_0 t311 t312 (([0,wrap64 (t332+1),t333,1]:List Int))).bind fun bt337=>(if t329.length<17592186044416 then (some (a1_0,(t329 ++ [bt337.1]),bt337.2.1,bt337.2.2)) else (none)))=some (r1,r2,r3,r4):=H;have A49:=Aside0.mk A490;clear A490;obtain ⟨y334,hy334⟩:∃ y_:List Int,y_=(([0,wrap64 (t332+1),t333,1]:List Int)):=⟨_,rfl⟩
    replace H:((spec_l01Pick.f s0_0 t311 t312 y334).bind fun bt337=>(if t329.length<17592186044416 then (some (a1_0,(t329 ++ [bt337.1]),bt337.2.1,bt337.2.2)) else (none)))=some (r1,r2,r3,r4):=by first|(rw[hy334];with_reducible exact H)|(have H2_:=(Option.bind_some _ _).symm.trans H;rw[hy334];with_reducible exact H2_)|(have H2_:=(Option.bind_some _ _).symm.trans H;with_reducible exact H2_)|with_reducible exact H|(rw[hy334];exact H)|exact H
    have Ny334:=Aside0.mk hy334;clear hy334;replace H:=Option.bind_eq_some_iff.mp H;obtain ⟨⟨t337,t338,t339⟩,A500,H⟩:=H;replace H:(if t329.length<17592186044416 then (some (a1_0,(t329 ++ [t337]),t338,t339)) else (none))=some (r1,r2,r3,r4):=H;have A50:=Aside0.mk A500;clear A500;by_cases c51:t329.length<17592186044416
    ·rw[if_pos c51] at H;have LMc51:=Aside0.mk c51;clear c51;obtain ⟨y340,hy340⟩:∃ y_:List Int,y_=(t329 ++ [t337]):=⟨_,rfl⟩
     replace H:(some (a1_0,y340,t338,t339))=some (r1,r2,r3,r4):=by first|(rw[hy340];with_reducible exact H)|(have H2_:=(Option.bind_some _ _).symm.trans H;rw[hy340];with_reducible exact H2_)|(have H2_:=(Option.bind_some _ _).symm.trans H;with_reducible exact H2_)|with_reducible exact H|(rw[hy340];exact H)|exact H
     have Ny340:=Aside0.mk hy340;clear hy340;simp only [Option.some.injEq,Prod.mk.injEq] at H;obtain ⟨rfl,rfl,rfl,rfl⟩:=H;obtain ⟨Ao52,co52,eo52⟩:=Kd.R_slice HO1_1.out;subst eo52;go_enter Tryz.func69,Tryz.ntmps69;try go_wp2_with (first|((with_reducible refine gate_dst (N:=3) rfl ?_);refine bx 3 #[.int .i64 a1_0,.slice Ao52 l1_1.length co52] 26 ?_;intro gb308 hg w53 hbox hb;replace HO1_1:=krA HO1_1 hb;have BK308:=Aside0.mk (hbox);have GW308:=Aside0.mk ((by rw[hg];exact(by first|exact HK.out.1|exact(show Kept w _ (fun k_=>(P1_1_ k_)∨k_=g) from kt HK.out).1):w.heap.size≤gb308));replace HK:=Aside0.mk (Kept.below (S:=(fun k_=>(P1_1_ k_)∨k_=g)) (kt HK.out) hb);have GE308:=Aside0.mk ((by rw[hg];exact(below_size (blg HB.out (IsS92.ge HI0.out))):w0.heap.size≤gb308));replace HB:=Aside0.mk (below_step (blg HB.out (IsS92.ge HI0.out)) hb);have NB0_308:=Aside0.mk ((by rw[hg];exact Nat.ne_of_lt (IsS92.lt (show IsS92 w0 _ g s0_0 s0_1 s0_2 from IsS92.ch HI0.out)):g≠gb308));have NB308_0:=Aside0.mk ((by rw[hg];exact Nat.ne_of_gt (IsS92.lt (show IsS92 w0 _ g s0_0 s0_1 s0_2 from IsS92.ch HI0.out)):gb308≠g));replace HI0:=Aside0.mk (IsS92.below (IsS92.ch HI0.out) hb);clear hb hbox hg)|((with_reducible refine gate_dst (N:=4) rfl ?_);refine bx 4 #[.int .i64 0,.slice none 0 0] 26 ?_;intro gb309 hg w54 hbox hb;replace HO1_1:=krA HO1_1 hb;have BK309:=Aside0.mk (hbox);have GW309:=Aside0.mk ((by rw[hg];exact(by first|exact HK.out.1|exact(show Kept w _ (fun k_=>(P1_1_ k_)∨k_=g) from kt HK.out).1):w.heap.size≤gb309));replace HK:=Aside0.mk (Kept.below (S:=(fun k_=>(P1_1_ k_)∨k_=g)) (kt HK.out) hb);have GE309:=Aside0.mk ((by rw[hg];exact(below_size (blg HB.out (IsS92.ge HI0.out))):w0.heap.size≤gb309));replace HB:=Aside0.mk (below_step (blg HB.out (IsS92.ge HI0.out)) hb);have NB308_309:=nlA hg BK308;have NB309_308:=ngA hg BK308;replace BK308:=bkA BK308 hb;have NB0_309:=Aside0.mk ((by rw[hg];exact Nat.ne_of_lt (IsS92.lt (show IsS92 w0 _ g s0_0 s0_1 s0_2 from IsS92.ch HI0.out)):g≠gb309));have NB309_0:=Aside0.mk ((by rw[hg];exact Nat.ne_of_gt (IsS92.lt (show IsS92 w0 _ g s0_0 s0_1 s0_2 from IsS92.ch HI0.out)):gb309≠g));replace HI0:=Aside0.mk (IsS92.below (IsS92.ch HI0.out) hb);clear hb hbox hg)|((with_reducible refine gate_callee (f:=67) rfl ?_);refine gl (some 6) Tryz.func67 #[.pointer (some ⟨g,0,none⟩),.int .i64 50] ?_;(with_reducible refine(spec_l01Next.calls g s0_0 s0_1 s0_2 50 t310 t311 t312 w0 _ (IsS92.ch HI0.out) (blg HB.out (IsS92.ge HI0.out)) A3.out).mono ?_);rintro e w55 ⟨rfl,hi,hb,hk⟩;refine⟨_,rfl,?_⟩;replace HO1_1:=Aside0.mk (Kd.R_mono (Kd.R_keep (IsS92.apart (show IsS92 w0 _ g s0_0 s0_1 s0_2 from IsS92.ch HI0.out) (kr HO1_1.out) (by decide)) hk (fun _ h=>h.2)) (fun _ h=>h.1));replace BK308:=Aside0.mk (kbk hk (bk BK308.out) NB308_0.out);replace BK309:=Aside0.mk (kbk hk (bk BK309.out) NB309_0.out);replace HK:=Aside0.mk (Kept.of_keep (S:=(fun k_=>(P1_1_ k_)∨k_=g)) (kt HK.out) hk (.inl (.inr rfl)));replace HB:=Aside0.mk (hb);replace HI0:=Aside0.mk (hi);(try clear hb);(try clear hb2);(try clear hk);(try clear hi)))
     replace HO1_1:=Aside0.mk (Kd.R_drew HO1_1.out);replace BK308:=Aside0.mk (blk_drew BK308.out);replace BK309:=Aside0.mk (blk_drew BK309.out);replace HI0:=Aside0.mk (IsS92.drew HI0.out);replace HK:=Aside0.mk (Kept.drew HK.out);replace HB:=Aside0.mk (below_drew1 HB.out);refine start_ (n:=19) (S:=fun w'=>w'.cell? ⟨gb308,0,none⟩=some (.int .i64 a1_0)∧w'.cell? ⟨gb308,1,none⟩=some (.slice Ao52 l1_1.length co52)) (ds:= []) (ar 0 19) (by kernel_rfl) rfl rfl ⟨(blk_cell BK308.out 0).trans rfl,(blk_cell BK308.out 1).trans rfl⟩ (fun hHeld=>?_);refine with_tabW spec_l01Bad.tab8 spec_l01Bad.bits8 (fun HT_ HW_=>?_);generalize w55.drew=w56 at HO1_1 BK308 BK309 HI0 HK HB hHeld ⊢;refine pu 0 (some 31) (ar 1 18) HT_ ?_;refine pu 2 (some 33) #[U,O,U,O,O,O,O,O,O,O,O,O,O,O,O,O,O,O,O] HT_ ?_;refine pu 5 (some 36) #[U,O,U,O,O,U,O,O,O,O,O,O,O,O,O,O,O,O,O] HT_ ?_;refine pu 6 (some 37) #[U,O,U,O,O,U,U,O,O,O,O,O,O,O,O,O,O,O,O] HT_ ?_;refine pu 10 (some 41) #[U,O,U,O,O,U,U,O,O,O,U,O,O,O,O,O,O,O,O] HT_ ?_;refine tk 1 (some 32) #[U,U,U,O,O,U,U,O,O,O,U,O,O,O,O,O,O,O,O] HT_ HW_ hHeld ?_;refine tk 3 (some 34) #[U,U,U,U,O,U,U,O,O,O,U,O,O,O,O,O,O,O,O] HT_ HW_ hHeld ?_;refine tk 7 (some 38) #[U,U,U,U,O,U,U,U,O,O,U,O,O,O,O,O,O,O,O] HT_ HW_ hHeld ?_;refine tk 11 (some 42) #[U,U,U,U,O,U,U,U,O,O,U,U,O,O,O,O,O,O,O] HT_ HW_ hHeld ?_;refine on_ 4 (some 35) #[U,U,U,U,U,U,U,U,O,O,U,U,O,O,O,O,O,O,O] HT_ fun K hK=>?_;refine gr Tryz.func123 #[.slice Ao52 l1_1.length co52] ?_;with_reducible refine(spec_l01Own.calls _ _ l1_1 t329 _ (cb (Kd.R_reads' HO1_1.out).2.2) ((Kd.R_reads' HO1_1.out).2.1) A47.out).mono ?_
     rintro e w57 ⟨v330,rfl,ho0,hb⟩;refine⟨_,rfl,?_⟩;have HO331:=Aside0.mk (Kd.R_lower (Kd.R_new' (Kd.R_newM (M:=fun k_=>(P1_1_ k_∨w.heap.size≤k_)) ho0 (by first|exact HK.out.1|exact(show Kept w _ (fun k_=>(P1_1_ k_)∨k_=g) from kt HK.out).1) (fun k_ h_=> .inr h_)) (Kd.R_lt (kr HO1_1.out))) (below_size (blg HB.out (IsS92.ge HI0.out))));replace HO1_1:=Aside0.mk (Kd.R_elder' (kr HO1_1.out) (Kd.R_base ho0) hb);replace BK308:=bkA BK308 hb;replace BK309:=bkA BK309 hb;replace HK:=Aside0.mk (Kept.below (S:=(fun k_=>(P1_1_ k_)∨k_=g)) (kt HK.out) hb);replace HB:=Aside0.mk (below_step (blg HB.out (IsS92.ge HI0.out)) hb);replace HI0:=Aside0.mk (IsS92.below (IsS92.ch HI0.out) hb);(try clear hb)
     (try clear hb2)
     (try clear hk)
     (try clear hi)
     (try clear ho0)
     refine hK.out _ _ ⟨(blk_cell BK308.out 0).trans rfl,(blk_cell BK308.out 1).trans rfl⟩ (fun hHeld=>?_);clear hK K;refine nr 35 ?_;refine on_ 8 (some 39) #[U,U,U,U,U,U,U,U,U,O,U,U,O,O,O,O,O,O,O] HT_ fun K hK=>?_;refine gr Tryz.func91 #[.int .i64 a1_0] ?_;with_reducible refine(spec_l01All.calls a1_0 t332 _ A48.out).mono ?_
     rintro e w' ⟨rfl,⟨nd,rfl⟩⟩;refine⟨_,rfl,?_⟩;refine hK.out _ _ ⟨(blk_cell BK308.out 0).trans rfl,(blk_cell BK308.out 1).trans rfl⟩ (fun hHeld=>?_);clear hK K;refine nr 39 ?_;refine pu 9 (some 40) (ar 12 7) HT_ ?_;refine on_ 12 (some 43) (ar 13 6) HT_ fun K hK=>?_;refine gr Tryz.func91 #[.int .i64 a1_0] ?_;with_reducible refine(spec_l01All.calls a1_0 t333 _ A49.out).mono ?_
     rintro e w' ⟨rfl,⟨nd,rfl⟩⟩;refine⟨_,rfl,?_⟩;refine hK.out _ _ ⟨(blk_cell BK308.out 0).trans rfl,(blk_cell BK308.out 1).trans rfl⟩ (fun hHeld=>?_);clear hK K;refine nr 43 ?_;refine on_ 13 (some 44) (ar 14 5) HT_ fun K hK=>?_;refine Kd.R_lit_step (Kd.int .i64) _ 2 ?hg (N:=44) ?hd (xs:=([0,wrap64 (t332+1),t333,1]:List Int)) (inner:= [.int .i64 0,.int .i64 (wrap64 (t332+1)),.int .i64 t333,.int .i64 1]) (ok:=fun _=>True) (okp:=fun _=>True) ?hr ?hp (fun _ hk=>hk) trivial (Below.refl _ _) (Nat.le_refl _) (by simp) ?_;(case hd=>rfl);(case hg=>rfl);(case hr=>first|(go_simp;done)|(go_simp;rfl));(case hp=>exact(Reps.one (show Kd.M (Kd.int .i64) _ _ _ 0 [.int .i64 0] from rfl) (Reps.one (show Kd.M (Kd.int .i64) _ _ _ (wrap64 (t332+1)) [.int .i64 (wrap64 (t332+1))] from rfl) (Reps.one (show Kd.M (Kd.int .i64) _ _ _ t333 [.int .i64 t333] from rfl) (Reps.one (show Kd.M (Kd.int .i64) _ _ _ 1 [.int .i64 1] from rfl) (Reps.none _ _))))));intro v335 w58 ho59 hb hg_ hnew_;clear hg_ hnew_;(first|rw[← Ny334.out] at ho59|(simp only [Int.reduceToNat] at ho59;rw[← Ny334.out] at ho59))
     have HO336:=Aside0.mk (Kd.R_lower (Kd.R_new' (Kd.R_new' (Kd.R_newM (M:=fun k_=>(P1_1_ k_∨w.heap.size≤k_)) ho59 (by first|exact HK.out.1|exact(show Kept w _ (fun k_=>(P1_1_ k_)∨k_=g) from kt HK.out).1) (fun k_ h_=> .inr h_)) (Kd.R_lt (kr HO1_1.out))) (Kd.R_lt (kr HO331.out))) (below_size (blg HB.out (IsS92.ge HI0.out))));replace HO1_1:=Aside0.mk (Kd.R_elder' (kr HO1_1.out) (Kd.R_base ho59) hb);replace HO331:=Aside0.mk (Kd.R_elder' (kr HO331.out) (Kd.R_base ho59) hb);replace BK308:=bkA BK308 hb;replace BK309:=bkA BK309 hb;replace HK:=Aside0.mk (Kept.below (S:=(fun k_=>(P1_1_ k_)∨k_=g)) (kt HK.out) hb);replace HB:=Aside0.mk (below_step (blg HB.out (IsS92.ge HI0.out)) hb);replace HI0:=Aside0.mk (IsS92.below (IsS92.ch HI0.out) hb);clear hb ho59;obtain ⟨Ao60,co60,eo60⟩:=Kd.R_slice HO336.out;(first|subst eo60|(injection eo60 with f1_ f2_ f3_;have f4_:=f1_.symm;have f5_:=f3_.symm;clear f1_ f2_ f3_;subst f4_;subst f5_))
     refine hK.out _ _ ⟨(blk_cell BK308.out 0).trans rfl,(blk_cell BK308.out 1).trans rfl⟩ (fun hHeld=>?_);clear hK K;refine nr 44 ?_;refine on_ 14 (some 45) (ar 15 4) HT_ fun K hK=>?_;refine gr Tryz.func81 #[.pointer (some ⟨g,0,none⟩),.slice Ao60 y334.length co60] ?_;with_reducible refine(spec_l01Pick.calls g s0_0 t311 t312 _ _ y334 t337 t338 t339 w0 _ (IsS92.ch HI0.out) (blg HB.out (IsS92.ge HI0.out)) (cb (Kd.R_reads' HO336.out).2.2) ((Kd.R_reads' HO336.out).2.1) (far_slice (IsS92.own_ne HI0.out HO336.out (by decide))) A50.out).mono ?_
     rintro e w61 ⟨rfl,hi,hb,hk⟩;refine⟨_,rfl,?_⟩;replace HO1_1:=Aside0.mk (Kd.R_mono (Kd.R_keep (IsS92.apart (show IsS92 w0 _ g s0_0 t311 t312 from IsS92.ch HI0.out) (kr HO1_1.out) (by decide)) hk (fun _ h=>h.2)) (fun _ h=>h.1));replace BK308:=Aside0.mk (kbk hk (bk BK308.out) NB308_0.out);replace BK309:=Aside0.mk (kbk hk (bk BK309.out) NB309_0.out);replace HO331:=Aside0.mk (Kd.R_mono (Kd.R_keep (IsS92.apart (show IsS92 w0 _ g s0_0 t311 t312 from IsS92.ch HI0.out) (kr HO331.out) (by decide)) hk (fun _ h=>h.2)) (fun _ h=>h.1));replace HO336:=Aside0.mk (Kd.R_mono (Kd.R_keep (IsS92.apart (show IsS92 w0 _ g s0_0 t311 t312 from IsS92.ch HI0.out) (kr HO336.out) (by decide)) hk (fun _ h=>h.2)) (fun _ h=>h.1));replace HK:=Aside0.mk (Kept.of_keep (S:=(fun k_=>(P1_1_ k_)∨k_=g)) (kt HK.out) hk (.inl (.inr rfl)));replace HB:=Aside0.mk (hb);replace HI0:=Aside0.mk (hi);(try clear hb)
     (try clear hb2)
     (try clear hk)
     (try clear hi)
     refine hK.out _ _ ⟨(blk_cell BK308.out 0).trans rfl,(blk_cell BK308.out 1).trans rfl⟩ (fun hHeld=>?_);clear hK K;refine nr 45 ?_;refine on_ 15 (some 46) (ar 16 3) HT_ fun K hK=>?_;refine value_ (w1:=?_) (v:=?_) (by rfl) rfl ?_ ?_;rotate_left 2
     ·go_simp;constructor
      ·rfl
      ·rfl
     refine hK.out _ _ ⟨(blk_cell (blk_alloc BK308.out _) 0).trans rfl,(blk_cell (blk_alloc BK308.out _) 1).trans rfl⟩ (fun hHeld=>?_);clear hK K;refine nr 46 ?_;refine on_ 16 (some 47) (ar 17 2) HT_ fun K hK=>?_;refine Kd.R_append_step (Kd.int .i64) (w0:=w0) w0.heap.size (by rfl) (.tmp 35) (.tmp 46) 24 2 (.int .i64 0) 8 rfl Tryz.underlying24 info2 rfl (by decide) (by omega) v330 t329 t337 [.int .i64 t337] (fun k_=>(P1_1_ k_∨w.heap.size≤k_)∧some k_≠(.slice Ao52 l1_1.length co52:Value).ownBlock∧some k_≠(.slice Ao60 y334.length co60:Value).ownBlock) (fun _=>False) rfl rfl ?aP (fun _ hk=>hk.elim) ?aF ?aO ?aB ?aS ?aL ?_;(case aP=>exact rfl)
     (case aB=>exact(blg HB.out (IsS92.ge HI0.out)))
     (case aF=>exact(fun k_ hk=>⟨(.inr (Nat.le_trans (by first|exact HK.out.1|exact(show Kept w _ (fun k_=>(P1_1_ k_)∨k_=g) from kt HK.out).1) hk)),Kd.fresh' (Kd.R_lt (kr HO1_1.out)) k_ hk,Kd.fresh' (Kd.R_lt (kr HO336.out)) k_ hk⟩))
     (case aO=>exact(by(with_reducible repeat(first|apply Kd.R_alloc|apply Kd.R_drewN|apply Kd.R_drew));exact Kd.R_mono HO331.out (fun _ hk=>⟨hk.1.1.1,⟨hk.1.2,hk.2⟩⟩)))
     (case aS=>exact(below_size (blg HB.out (IsS92.ge HI0.out))))
     (case aL=>have:=LMc51.out;omega)
     intro v341 w62 ho hb hg hat;rw[← Ny340.out] at ho;have n0_:=Aside0.mk (IsS92.grown (IsS92.ch HI0.out) hg (IsS92.own_ne HI0.out HO331.out (by decide)));have n1_:=Aside0.mk (Kd.R_after (ok:=(fun k_=>(P1_1_ k_∨w.heap.size≤k_)∧some k_≠(.slice Ao60 y334.length co60:Value).ownBlock)) (by(with_reducible repeat(first|apply Kd.R_alloc|apply Kd.R_drewN|apply Kd.R_drew));exact Kd.R_mono HO1_1.out (fun _ hk=>⟨⟨hk.1.1,hk.2⟩,hk.1.2⟩)) hg hat);have n2_:=Aside0.mk (blk_grown (bk BK308.out) hg (Kd.R_ne HO331.out BK308.out (by decide)));have n3_:=Aside0.mk (blk_grown (bk BK309.out) hg (Kd.R_ne HO331.out BK309.out (by decide)));have n4_:=Aside0.mk (Kd.R_after (ok:=(fun k_=>(P1_1_ k_∨w.heap.size≤k_)∧some k_≠(.slice Ao52 l1_1.length co52:Value).ownBlock)) (by(with_reducible repeat(first|apply Kd.R_alloc|apply Kd.R_drewN|apply Kd.R_drew));exact Kd.R_mono HO336.out (fun _ hk=>⟨⟨hk.1.1.1,hk.1.2⟩,hk.2⟩)) hg hat);have n5_:=Aside0.mk (hb);have n6_:=Aside0.mk (Kept.of_grown (S:=(fun k_=>(P1_1_ k_)∨k_=g)) hg (kt HK.out) (fun k_ e_=>Or.imp_left Or.inl ((HO331.out.1 k_ e_).1.1.1)));have n7_:=Aside0.mk (ho);clear HI0;clear HO1_1;clear BK308;clear BK309;clear HO336;clear HB;clear HK;clear HO331;have HI0:=n0_;have HO1_1:=n1_;have BK308:=n2_;have BK309:=n3_;have HO336:=n4_;have HB:=n5_;have HK:=n6_;have HO342:=n7_;clear n0_ n1_ n2_ n3_ n4_ n5_ n6_ n7_;clear ho hb hg hat;obtain ⟨Ao63,co63,eo63⟩:=Kd.R_slice HO342.out;(first|subst eo63|(injection eo63 with f1_ f2_ f3_;have f4_:=f1_.symm;have f5_:=f3_.symm;clear f1_ f2_ f3_;subst f4_;subst f5_))
     refine hK.out _ _ ⟨(blk_cell BK308.out 0).trans rfl,(blk_cell BK308.out 1).trans rfl⟩ (fun hHeld=>?_);clear hK K;refine nr 47 ?_;refine pu 17 (some 48) (ar 18 1) HT_ ?_;refine on_ 18 (none) (ar 19 0) HT_ fun K hK=>?_;have hs64:w62.cell? ⟨gb309,0,none⟩=some (.int .i64 0):=(blk_cell BK309.out 0).trans rfl;have hfs64:=blk_frozen BK309.out 0;have hns64_0:=NB308_309.out;have hms64_0:=NB309_308.out;have hs65:w62.cell? ⟨gb309,1,none⟩=some (.slice none 0 0):=(blk_cell BK309.out 1).trans rfl;have hfs65:=blk_frozen BK309.out 1;have hns65_0:=NB308_309.out;have hms65_0:=NB309_308.out;refine skip_ (w1:=?_) (by rfl) rfl ?_ ?_;rotate_left
     ·go_simp;rfl
     refine hK.out _ _ ⟨((cell_far (p:=⟨gb309,_,none⟩) NB308_309.out _).trans (((cell_far (p:=⟨gb309,_,none⟩) NB308_309.out _).trans (hHeld.1)))),((cell_far (p:=⟨gb309,_,none⟩) NB308_309.out _).trans (((cell_far (p:=⟨gb309,_,none⟩) NB308_309.out _).trans (hHeld.2))))⟩ (fun hHeld=>?_);clear hK K;refine done_ (done_of HT_.out (by kernel_rfl)) ?_;try go_wp2
     refine bodyPost_ret (results_cell_row rfl _ _ gb309 26 #[.int .i64 a1_0,.slice Ao63 y340.length co63] (0,0) _ rfl (by(with_reducible repeat(first|refine blk_drewN ?_ _|refine blk_drew ?_|refine blk_alloc ?_ _));refine blk_put (cs:=#[.int .i64 a1_0,.slice none 0 0]) ?_ 1 _ rfl;(with_reducible repeat(first|refine blk_drewN ?_ _|refine blk_drew ?_|refine blk_alloc ?_ _));refine blk_put (cs:=#[.int .i64 0,.slice none 0 0]) ?_ 0 _ rfl;(with_reducible repeat(first|refine blk_drewN ?_ _|refine blk_drew ?_|refine blk_alloc ?_ _));exact BK309.out) Tryz.underlying26 rfl (by kernel_rfl)) rfl ?_;exact⟨_,rr,by(with_reducible repeat(first|apply Kd.R_alloc|apply Kd.R_drewN|apply Kd.R_drew));exact Kd.R_mono (Kd.R_far (p:=⟨gb309,1,none⟩) (Kd.R_far (p:=⟨gb309,0,none⟩) (Kd.R_types HO342.out BK309.out (by decide)) (fun _ hk=>hk.2) (.int .i64 a1_0)) (fun _ hk=>hk.2) (.slice Ao63 y340.length co63)) (fun _ hk=>hk.1.1),IsS92.ch HI0.out,blg HB.out (IsS92.ge HI0.out),kt HK.out⟩
    ·rw[if_neg c51] at H;exact absurd H (by simp)
   ·rw[if_neg c46] at H;have c46b0:(t310 == 2)=false:=beq_eq_false_iff_ne.mpr c46;have c46b1:(t310 != 2)=true:=bne_iff_ne.mpr c46;simp only [Option.some.injEq,Prod.mk.injEq] at H;obtain ⟨rfl,rfl,rfl,rfl⟩:=H;obtain ⟨Ao66,co66,eo66⟩:=Kd.R_slice HO1_1.out;subst eo66;go_enter Tryz.func69,Tryz.ntmps69;go_wp2_with (first|((with_reducible refine gate_dst (N:=3) rfl ?_);refine bx 3 #[.int .i64 a1_0,.slice Ao66 l1_1.length co66] 26 ?_;intro gb308 hg w67 hbox hb;replace HO1_1:=krA HO1_1 hb;have BK308:=Aside0.mk (hbox);have GW308:=Aside0.mk ((by rw[hg];exact(by first|exact HK.out.1|exact(show Kept w _ (fun k_=>(P1_1_ k_)∨k_=g) from kt HK.out).1):w.heap.size≤gb308));replace HK:=Aside0.mk (Kept.below (S:=(fun k_=>(P1_1_ k_)∨k_=g)) (kt HK.out) hb);have GE308:=Aside0.mk ((by rw[hg];exact(below_size (blg HB.out (IsS92.ge HI0.out))):w0.heap.size≤gb308));replace HB:=Aside0.mk (below_step (blg HB.out (IsS92.ge HI0.out)) hb);have NB0_308:=Aside0.mk ((by rw[hg];exact Nat.ne_of_lt (IsS92.lt (show IsS92 w0 _ g s0_0 s0_1 s0_2 from IsS92.ch HI0.out)):g≠gb308));have NB308_0:=Aside0.mk ((by rw[hg];exact Nat.ne_of_gt (IsS92.lt (show IsS92 w0 _ g s0_0 s0_1 s0_2 from IsS92.ch HI0.out)):gb308≠g));replace HI0:=Aside0.mk (IsS92.below (IsS92.ch HI0.out) hb);clear hb hbox hg)|((with_reducible refine gate_dst (N:=4) rfl ?_);refine bx 4 #[.int .i64 0,.slice none 0 0] 26 ?_;intro gb309 hg w68 hbox hb;replace HO1_1:=krA HO1_1 hb;have BK309:=Aside0.mk (hbox);have GW309:=Aside0.mk ((by rw[hg];exact(by first|exact HK.out.1|exact(show Kept w _ (fun k_=>(P1_1_ k_)∨k_=g) from kt HK.out).1):w.heap.size≤gb309));replace HK:=Aside0.mk (Kept.below (S:=(fun k_=>(P1_1_ k_)∨k_=g)) (kt HK.out) hb);have GE309:=Aside0.mk ((by rw[hg];exact(below_size (blg HB.out (IsS92.ge HI0.out))):w0.heap.size≤gb309));replace HB:=Aside0.mk (below_step (blg HB.out (IsS92.ge HI0.out)) hb);have NB308_309:=nlA hg BK308;have NB309_308:=ngA hg BK308;replace BK308:=bkA BK308 hb;have NB0_309:=Aside0.mk ((by rw[hg];exact Nat.ne_of_lt (IsS92.lt (show IsS92 w0 _ g s0_0 s0_1 s0_2 from IsS92.ch HI0.out)):g≠gb309));have NB309_0:=Aside0.mk ((by rw[hg];exact Nat.ne_of_gt (IsS92.lt (show IsS92 w0 _ g s0_0 s0_1 s0_2 from IsS92.ch HI0.out)):gb309≠g));replace HI0:=Aside0.mk (IsS92.below (IsS92.ch HI0.out) hb);clear hb hbox hg)|((with_reducible refine gate_callee (f:=67) rfl ?_);refine gl (some 6) Tryz.func67 #[.pointer (some ⟨g,0,none⟩),.int .i64 50] ?_;(with_reducible refine(spec_l01Next.calls g s0_0 s0_1 s0_2 50 t310 t311 t312 w0 _ (IsS92.ch HI0.out) (blg HB.out (IsS92.ge HI0.out)) A3.out).mono ?_);rintro e w69 ⟨rfl,hi,hb,hk⟩;refine⟨_,rfl,?_⟩;replace HO1_1:=Aside0.mk (Kd.R_mono (Kd.R_keep (IsS92.apart (show IsS92 w0 _ g s0_0 s0_1 s0_2 from IsS92.ch HI0.out) (kr HO1_1.out) (by decide)) hk (fun _ h=>h.2)) (fun _ h=>h.1));replace BK308:=Aside0.mk (kbk hk (bk BK308.out) NB308_0.out);replace BK309:=Aside0.mk (kbk hk (bk BK309.out) NB309_0.out);replace HK:=Aside0.mk (Kept.of_keep (S:=(fun k_=>(P1_1_ k_)∨k_=g)) (kt HK.out) hk (.inl (.inr rfl)));replace HB:=Aside0.mk (hb);replace HI0:=Aside0.mk (hi);(try clear hb);(try clear hb2);(try clear hk);(try clear hi);have hnb70:=NB308_309.out;have hnc70:=NB309_308.out;have hnb71:=NB308_0.out;have hnc71:=NB0_308.out;have hcz72_0:=z0_ BK308;have hcz72_1:=z1_ BK308;have hfz72_0:=hf_ BK308 0;have hfz72_1:=hf_ BK308 1;have hnb73:=NB309_0.out;have hnc73:=NB0_309.out;have hcz74_0:=z0_ BK309;have hcz74_1:=z1_ BK309;have hfz74_0:=hf_ BK309 0;have hfz74_1:=hf_ BK309 1))
    refine bodyPost_ret (results_cell_row rfl _ _ gb309 26 #[.int .i64 a1_0,.slice Ao66 l1_1.length co66] (0,0) _ rfl (by(with_reducible repeat(first|refine blk_drewN ?_ _|refine blk_drew ?_|refine blk_alloc ?_ _));refine blk_put (cs:=#[.int .i64 a1_0,.slice none 0 0]) ?_ 1 _ rfl;(with_reducible repeat(first|refine blk_drewN ?_ _|refine blk_drew ?_|refine blk_alloc ?_ _));refine blk_put (cs:=#[.int .i64 0,.slice none 0 0]) ?_ 0 _ rfl;(with_reducible repeat(first|refine blk_drewN ?_ _|refine blk_drew ?_|refine blk_alloc ?_ _));exact BK309.out) Tryz.underlying26 rfl (by kernel_rfl)) rfl ?_;exact⟨_,rr,by(with_reducible repeat(first|apply Kd.R_alloc|apply Kd.R_drewN|apply Kd.R_drew));exact Kd.R_mono (Kd.R_far (p:=⟨gb309,1,none⟩) (Kd.R_far (p:=⟨gb309,0,none⟩) (Kd.R_types HO1_1.out BK309.out (by decide)) (fun _ hk=>hk.2) (.int .i64 a1_0)) (fun _ hk=>hk.2) (.slice Ao66 l1_1.length co66)) (fun _ hk=>hk.1),IsS92.ch HI0.out,blg HB.out (IsS92.ge HI0.out),kt HK.out⟩
end Go.Proofs.YtlhkdbkjafiikaaGreat.Q
end

section
namespace Go.Proofs.YtlhkdbkjafiikaaGreat.Q
open Go.RowKit Go.Proofs.YtlhkdbkjafiikaaGreatW.PrintWords Go.Proofs.YtlhkdbkjafiikaaGreatW.PrintLast Go.Proofs.YtlhkdbkjafiikaaGreatW.PrintMore
attribute [local go_sem] max2_int min2_int max_two min_two max_three min_three max_four min_four
set_option linter.unusedVariables false
set_option linter.unusedSimpArgs false
mutual
def spec_l01DrawOf.l0:Nat→Int→List Int→Int→Int→List Int→Int→Int→Option (Int×List Int×Int×Int)
 |0,_,_,_,_,_,_,_=>none
 |k+1,x1,x5,x6,x7,x1000,x1001,x1002=>if x7>0 then ((spec_l01All.f x1).bind fun t366=>((spec_l01Next.f x1000 x1001 x1002 t366).bind fun bt367=>(spec_l01DrawOf.l1 k x1 x5 x6 x7 (wrap64 (1+bt367.1)) x1000 bt367.2.1 bt367.2.2))) else ((spec_l01Made.f k x1 x5).bind fun bt362=>(some (bt362.1,bt362.2,x1001,x1002)))
def spec_l01DrawOf.l1:Nat→Int→List Int→Int→Int→Int→List Int→Int→Int→Option (Int×List Int×Int×Int)
 |0,_,_,_,_,_,_,_,_=>none
 |k+1,x1,x5,x6,x7,x8,x1000,x1001,x1002=>(spec_l01Ones.f k x8).bind fun t370=>(if t370>x6 then (spec_l01DrawOf.l1 k x1 x5 x6 x7 (Go.bits .and .i64 x8 (wrap64 (x8 - 1))) x1000 x1001 x1002) else (if x5.length<17592186044416 then (spec_l01DrawOf.l0 k x1 (x5 ++ [x8]) x6 (wrap64 (x7 - 1)) x1000 x1001 x1002) else (none)))
end
def spec_l01DrawOf.f (k:Nat) (s0_0:List Int) (s0_1:Int) (s0_2:Int) (a1:Int):Option (Int×List Int×Int×Int):=(spec_l01Pick.f s0_0 s0_1 s0_2 (([2,3,3,4]:List Int))).bind fun bt350=>((spec_l01Pick.f s0_0 bt350.2.1 bt350.2.2 (([3,7,12]:List Int))).bind fun bt356=>((spec_l01Next.f s0_0 bt356.2.1 bt356.2.2 bt356.1).bind fun bt359=>(spec_l01DrawOf.l0 k a1 (([]:List Int)) bt350.1 bt359.1 s0_0 bt359.2.1 bt359.2.2)))
theorem spec_l01DrawOf.mono_l:∀ k,(∀ y0 y1 y2 y3 y4 y5 y6,LeO (spec_l01DrawOf.l0 k y0 y1 y2 y3 y4 y5 y6) (spec_l01DrawOf.l0 (k+1) y0 y1 y2 y3 y4 y5 y6))∧(∀ y0 y1 y2 y3 y4 y5 y6 y7,LeO (spec_l01DrawOf.l1 k y0 y1 y2 y3 y4 y5 y6 y7) (spec_l01DrawOf.l1 (k+1) y0 y1 y2 y3 y4 y5 y6 y7))
 |0=>⟨fun _ _ _ _ _ _ _ r h=>by simp [spec_l01DrawOf.l0] at h,fun _ _ _ _ _ _ _ _ r h=>by simp [spec_l01DrawOf.l1] at h⟩
 |k+1=>by
  obtain ⟨ih0,ih1⟩:=spec_l01DrawOf.mono_l k;refine⟨?_,?_⟩
  ·intro y0 y1 y2 y3 y4 y5 y6;unfold spec_l01DrawOf.l0;repeat' first
   |(with_reducible first|exact ih0 _ _ _ _ _ _ _|exact ih1 _ _ _ _ _ _ _ _|exact spec_l01Made.mono _ _ _|exact spec_l01Ones.mono _ _|exact LeO.refl _|exact LeO.none _|refine LeO.ite ?_ ?_|refine LeO.bind ?_ (fun _=>?_))
  ·intro y0 y1 y2 y3 y4 y5 y6 y7;unfold spec_l01DrawOf.l1;repeat' first
   |(with_reducible first|exact ih0 _ _ _ _ _ _ _|exact ih1 _ _ _ _ _ _ _ _|exact spec_l01Made.mono _ _ _|exact spec_l01Ones.mono _ _|exact LeO.refl _|exact LeO.none _|refine LeO.ite ?_ ?_|refine LeO.bind ?_ (fun _=>?_))
theorem spec_l01DrawOf.mono:∀ a0 a1 a2 a3 k,LeO (spec_l01DrawOf.f k a0 a1 a2 a3) (spec_l01DrawOf.f (k+1) a0 a1 a2 a3):=by
 intro a0 a1 a2 a3 k;obtain ⟨ih0,ih1⟩:=spec_l01DrawOf.mono_l k;unfold spec_l01DrawOf.f;repeat' first
   |(with_reducible first|exact ih0 _ _ _ _ _ _ _|exact ih1 _ _ _ _ _ _ _ _|exact spec_l01Made.mono _ _ _|exact spec_l01Ones.mono _ _|exact LeO.refl _|exact LeO.none _|refine LeO.ite ?_ ?_|refine LeO.bind ?_ (fun _=>?_))
set_option maxHeartbeats 8000000 in
set_option maxRecDepth 100000 in
theorem spec_l01DrawOf.calls (k:Nat) (g:Nat) (s0_0:List Int) (s0_1:Int) (s0_2:Int) (a1:Int) (r1:Int) (r2:List Int) (r3:Int) (r4:Int) (w0 w:World) (hI:IsS92 w0 w g s0_0 s0_1 s0_2) (hB:Below w0.heap.size w0 w) (h:spec_l01DrawOf.f k s0_0 s0_1 s0_2 a1=some (r1,r2,r3,r4)) :
  Calls Tryz.prog 70 #[.pointer (some ⟨g,0,none⟩),.int .i64 a1] w fun e w'=>∃ v1_:Value,e = .returned (.agg #[.int .i64 r1,v1_])∧Kd.R (Kd.int .i64) 2 w' w.heap.size (fun _=>True) v1_ r2∧IsS92 w0 w' g s0_0 r3 r4∧Below w0.heap.size w0 w'∧KeepBut w w' g none:=by
 have hu26:=Tryz.underlying26;have HI0:=Aside0.mk hI;have HK:=Aside0.mk (KeepBut.refl w g none);have HL:=Aside0.mk hB.size;clear hI;have HW0:=Aside0.mk hB.size;have HB:=Aside0.mk hB;clear hB;have H:((spec_l01Pick.f s0_0 s0_1 s0_2 (([2,3,3,4]:List Int))).bind fun bt350=>((spec_l01Pick.f s0_0 bt350.2.1 bt350.2.2 (([3,7,12]:List Int))).bind fun bt356=>((spec_l01Next.f s0_0 bt356.2.1 bt356.2.2 bt356.1).bind fun bt359=>(spec_l01DrawOf.l0 k a1 (([]:List Int)) bt350.1 bt359.1 s0_0 bt359.2.1 bt359.2.2))))=some (r1,r2,r3,r4):=h;clear h;obtain ⟨y344,hy344⟩:∃ y_:List Int,y_=(([]:List Int)):=⟨_,rfl⟩
 replace H:((spec_l01Pick.f s0_0 s0_1 s0_2 (([2,3,3,4]:List Int))).bind fun bt350=>((spec_l01Pick.f s0_0 bt350.2.1 bt350.2.2 (([3,7,12]:List Int))).bind fun bt356=>((spec_l01Next.f s0_0 bt356.2.1 bt356.2.2 bt356.1).bind fun bt359=>(spec_l01DrawOf.l0 k a1 y344 bt350.1 bt359.1 s0_0 bt359.2.1 bt359.2.2))))=some (r1,r2,r3,r4):=by first|(rw[hy344];with_reducible exact H)|(have H2_:=(Option.bind_some _ _).symm.trans H;rw[hy344];with_reducible exact H2_)|(have H2_:=(Option.bind_some _ _).symm.trans H;with_reducible exact H2_)|with_reducible exact H|(rw[hy344];exact H)|exact H
 have Ny344:=Aside0.mk hy344;clear hy344;obtain ⟨y347,hy347⟩:∃ y_:List Int,y_=(([2,3,3,4]:List Int)):=⟨_,rfl⟩
 replace H:((spec_l01Pick.f s0_0 s0_1 s0_2 y347).bind fun bt350=>((spec_l01Pick.f s0_0 bt350.2.1 bt350.2.2 (([3,7,12]:List Int))).bind fun bt356=>((spec_l01Next.f s0_0 bt356.2.1 bt356.2.2 bt356.1).bind fun bt359=>(spec_l01DrawOf.l0 k a1 y344 bt350.1 bt359.1 s0_0 bt359.2.1 bt359.2.2))))=some (r1,r2,r3,r4):=by first|(rw[hy347];with_reducible exact H)|(have H2_:=(Option.bind_some _ _).symm.trans H;rw[hy347];with_reducible exact H2_)|(have H2_:=(Option.bind_some _ _).symm.trans H;with_reducible exact H2_)|with_reducible exact H|(rw[hy347];exact H)|exact H
 have Ny347:=Aside0.mk hy347;clear hy347;replace H:=Option.bind_eq_some_iff.mp H;obtain ⟨⟨t350,t351,t352⟩,A30,H⟩:=H;replace H:((spec_l01Pick.f s0_0 t351 t352 (([3,7,12]:List Int))).bind fun bt356=>((spec_l01Next.f s0_0 bt356.2.1 bt356.2.2 bt356.1).bind fun bt359=>(spec_l01DrawOf.l0 k a1 y344 t350 bt359.1 s0_0 bt359.2.1 bt359.2.2)))=some (r1,r2,r3,r4):=H;have A3:=Aside0.mk A30;clear A30;obtain ⟨y353,hy353⟩:∃ y_:List Int,y_=(([3,7,12]:List Int)):=⟨_,rfl⟩
 replace H:((spec_l01Pick.f s0_0 t351 t352 y353).bind fun bt356=>((spec_l01Next.f s0_0 bt356.2.1 bt356.2.2 bt356.1).bind fun bt359=>(spec_l01DrawOf.l0 k a1 y344 t350 bt359.1 s0_0 bt359.2.1 bt359.2.2)))=some (r1,r2,r3,r4):=by first|(rw[hy353];with_reducible exact H)|(have H2_:=(Option.bind_some _ _).symm.trans H;rw[hy353];with_reducible exact H2_)|(have H2_:=(Option.bind_some _ _).symm.trans H;with_reducible exact H2_)|with_reducible exact H|(rw[hy353];exact H)|exact H
 have Ny353:=Aside0.mk hy353;clear hy353;replace H:=Option.bind_eq_some_iff.mp H;obtain ⟨⟨t356,t357,t358⟩,A40,H⟩:=H;replace H:((spec_l01Next.f s0_0 t357 t358 t356).bind fun bt359=>(spec_l01DrawOf.l0 k a1 y344 t350 bt359.1 s0_0 bt359.2.1 bt359.2.2))=some (r1,r2,r3,r4):=H;have A4:=Aside0.mk A40;clear A40;replace H:=Option.bind_eq_some_iff.mp H;obtain ⟨⟨t359,t360,t361⟩,A50,H⟩:=H;replace H:(spec_l01DrawOf.l0 k a1 y344 t350 t359 s0_0 t360 t361)=some (r1,r2,r3,r4):=H;have A5:=Aside0.mk A50;clear A50;have H':=Aside0.mk H;clear H;go_enter Tryz.func70,Tryz.ntmps70;go_wp2_with (first|((with_reducible refine gate_dst (N:=4) rfl ?_);refine bx 4 #[.int .i64 0,.slice none 0 0] 26 ?_;intro gb343 hg w6 hbox hb;replace HB:=Aside0.mk (below_step (blg HB.out (IsS92.ge HI0.out)) hb);have BK343:=Aside0.mk (hbox);have GW343:=Aside0.mk ((by rw[hg];exact(keep_size (w:=w) (g:=g) (row:=none) (kp HK.out)):w.heap.size≤gb343));have GE343:=Aside0.mk ((Nat.le_trans HW0.out (by rw[hg];exact(keep_size (w:=w) (g:=g) (row:=none) (kp HK.out)):w.heap.size≤gb343):w0.heap.size≤gb343));replace HK:=Aside0.mk (KeepBut.trans (kp HK.out) (KeepBut.of_below hb g none) (.inl rfl));have NB0_343:=Aside0.mk ((by rw[hg];exact Nat.ne_of_lt (IsS92.lt (show IsS92 w0 _ g s0_0 s0_1 s0_2 from IsS92.ch HI0.out)):g≠gb343));have NB343_0:=Aside0.mk ((by rw[hg];exact Nat.ne_of_gt (IsS92.lt (show IsS92 w0 _ g s0_0 s0_1 s0_2 from IsS92.ch HI0.out)):gb343≠g));replace HI0:=Aside0.mk (IsS92.below (IsS92.ch HI0.out) hb);clear hb hbox hg)|((with_reducible refine gate_dst (N:=9) rfl ?_);refine Kd.R_lit (Kd.int .i64) _ 2 ?hg (N:=9) ?hd (xs:=([]:List Int)) (inner:= []) (ok:=fun _=>True) (okp:=fun _=>True) ?hr ?hp (fun _ hk=>hk) trivial (Below.refl _ _) (Nat.le_refl _) (by simp) ?_;(case hd=>rfl);(case hg=>rfl);(case hr=>first|(go_simp;done)|(go_simp;rfl));(case hp=>exact(Reps.none _ _));intro v345 w7 ho8 hb hg_ hnew_;clear hg_ hnew_;(first|rw[← Ny344.out] at ho8|(simp only [Int.reduceToNat] at ho8;rw[← Ny344.out] at ho8));have HO346:=Aside0.mk (Kd.R_lower ho8 (keep_size (w:=w) (g:=g) (row:=none) (kp HK.out)));replace BK343:=bkA BK343 hb;replace HK:=Aside0.mk (KeepBut.trans (kp HK.out) (KeepBut.of_below hb g none) (.inl rfl));replace HB:=Aside0.mk (below_step (blg HB.out (IsS92.ge HI0.out)) hb);replace HI0:=Aside0.mk (IsS92.below (IsS92.ch HI0.out) hb);clear hb ho8)|((with_reducible refine gate_dst (N:=11) rfl ?_);refine Kd.R_lit (Kd.int .i64) _ 2 ?hg (N:=11) ?hd (xs:=([2,3,3,4]:List Int)) (inner:= [.int .i64 2,.int .i64 3,.int .i64 3,.int .i64 4]) (ok:=fun _=>True) (okp:=fun _=>True) ?hr ?hp (fun _ hk=>hk) trivial (Below.refl _ _) (Nat.le_refl _) (by simp) ?_;(case hd=>rfl);(case hg=>rfl);(case hr=>first|(go_simp;done)|(go_simp;rfl));(case hp=>exact(Reps.one (show Kd.M (Kd.int .i64) _ _ _ 2 [.int .i64 2] from rfl) (Reps.one (show Kd.M (Kd.int .i64) _ _ _ 3 [.int .i64 3] from rfl) (Reps.one (show Kd.M (Kd.int .i64) _ _ _ 3 [.int .i64 3] from rfl) (Reps.one (show Kd.M (Kd.int .i64) _ _ _ 4 [.int .i64 4] from rfl) (Reps.none _ _))))));intro v348 w9 ho10 hb hg_ hnew_;clear hg_ hnew_;(first|rw[← Ny347.out] at ho10|(simp only [Int.reduceToNat] at ho10;rw[← Ny347.out] at ho10));have HO349:=Aside0.mk (Kd.R_lower (Kd.R_new' ho10 (Kd.R_lt (kr HO346.out))) (keep_size (w:=w) (g:=g) (row:=none) (kp HK.out)));replace HO346:=Aside0.mk (Kd.R_elder' (kr HO346.out) (Kd.R_base ho10) hb);replace BK343:=bkA BK343 hb;replace HK:=Aside0.mk (KeepBut.trans (kp HK.out) (KeepBut.of_below hb g none) (.inl rfl));replace HB:=Aside0.mk (below_step (blg HB.out (IsS92.ge HI0.out)) hb);replace HI0:=Aside0.mk (IsS92.below (IsS92.ch HI0.out) hb);clear hb ho10;obtain ⟨Ao11,co11,eo11⟩:=Kd.R_slice HO349.out;subst eo11)|((with_reducible refine gate_callee (f:=81) rfl ?_);refine gl (some 12) Tryz.func81 #[.pointer (some ⟨g,0,none⟩),.slice Ao11 y347.length co11] ?_;(with_reducible refine(spec_l01Pick.calls g s0_0 s0_1 s0_2 _ _ y347 t350 t351 t352 w0 _ (IsS92.ch HI0.out) (blg HB.out (IsS92.ge HI0.out)) (cb (Kd.R_reads' HO349.out).2.2) ((Kd.R_reads' HO349.out).2.1) (far_slice (IsS92.own_ne HI0.out HO349.out (by decide))) A3.out).mono ?_);rintro e w12 ⟨rfl,hi,hb,hk⟩;refine⟨_,rfl,?_⟩;replace BK343:=Aside0.mk (kbk hk (bk BK343.out) NB343_0.out);replace HO346:=Aside0.mk (Kd.R_mono (Kd.R_keep (IsS92.apart (show IsS92 w0 _ g s0_0 s0_1 s0_2 from IsS92.ch HI0.out) (kr HO346.out) (by decide)) hk (fun _ h=>h.2)) (fun _ h=>h.1));replace HO349:=Aside0.mk (Kd.R_mono (Kd.R_keep (IsS92.apart (show IsS92 w0 _ g s0_0 s0_1 s0_2 from IsS92.ch HI0.out) (kr HO349.out) (by decide)) hk (fun _ h=>h.2)) (fun _ h=>h.1));replace HK:=Aside0.mk (KeepBut.trans (kp HK.out) hk (.inl rfl));replace HB:=Aside0.mk (hb);replace HI0:=Aside0.mk (hi);(try clear hb);(try clear hb2);(try clear hk);(try clear hi))|((with_reducible refine gate_dst (N:=15) rfl ?_);refine Kd.R_lit (Kd.int .i64) _ 2 ?hg (N:=15) ?hd (xs:=([3,7,12]:List Int)) (inner:= [.int .i64 3,.int .i64 7,.int .i64 12]) (ok:=fun _=>True) (okp:=fun _=>True) ?hr ?hp (fun _ hk=>hk) trivial (Below.refl _ _) (Nat.le_refl _) (by simp) ?_;(case hd=>rfl);(case hg=>rfl);(case hr=>first|(go_simp;done)|(go_simp;rfl));(case hp=>exact(Reps.one (show Kd.M (Kd.int .i64) _ _ _ 3 [.int .i64 3] from rfl) (Reps.one (show Kd.M (Kd.int .i64) _ _ _ 7 [.int .i64 7] from rfl) (Reps.one (show Kd.M (Kd.int .i64) _ _ _ 12 [.int .i64 12] from rfl) (Reps.none _ _)))));intro v354 w13 ho14 hb hg_ hnew_;clear hg_ hnew_;(first|rw[← Ny353.out] at ho14|(simp only [Int.reduceToNat] at ho14;rw[← Ny353.out] at ho14));have HO355:=Aside0.mk (Kd.R_lower (Kd.R_new' (Kd.R_new' ho14 (Kd.R_lt (kr HO346.out))) (Kd.R_lt (kr HO349.out))) (keep_size (w:=w) (g:=g) (row:=none) (kp HK.out)));replace HO346:=Aside0.mk (Kd.R_elder' (kr HO346.out) (Kd.R_base ho14) hb);replace HO349:=Aside0.mk (Kd.R_elder' (kr HO349.out) (Kd.R_base ho14) hb);replace BK343:=bkA BK343 hb;replace HK:=Aside0.mk (KeepBut.trans (kp HK.out) (KeepBut.of_below hb g none) (.inl rfl));replace HB:=Aside0.mk (below_step (blg HB.out (IsS92.ge HI0.out)) hb);replace HI0:=Aside0.mk (IsS92.below (IsS92.ch HI0.out) hb);clear hb ho14;obtain ⟨Ao15,co15,eo15⟩:=Kd.R_slice HO355.out;subst eo15)|((with_reducible refine gate_callee (f:=81) rfl ?_);refine gl (some 16) Tryz.func81 #[.pointer (some ⟨g,0,none⟩),.slice Ao15 y353.length co15] ?_;(with_reducible refine(spec_l01Pick.calls g s0_0 t351 t352 _ _ y353 t356 t357 t358 w0 _ (IsS92.ch HI0.out) (blg HB.out (IsS92.ge HI0.out)) (cb (Kd.R_reads' HO355.out).2.2) ((Kd.R_reads' HO355.out).2.1) (far_slice (IsS92.own_ne HI0.out HO355.out (by decide))) A4.out).mono ?_);rintro e w16 ⟨rfl,hi,hb,hk⟩;refine⟨_,rfl,?_⟩;replace BK343:=Aside0.mk (kbk hk (bk BK343.out) NB343_0.out);replace HO346:=Aside0.mk (Kd.R_mono (Kd.R_keep (IsS92.apart (show IsS92 w0 _ g s0_0 t351 t352 from IsS92.ch HI0.out) (kr HO346.out) (by decide)) hk (fun _ h=>h.2)) (fun _ h=>h.1));replace HO349:=Aside0.mk (Kd.R_mono (Kd.R_keep (IsS92.apart (show IsS92 w0 _ g s0_0 t351 t352 from IsS92.ch HI0.out) (kr HO349.out) (by decide)) hk (fun _ h=>h.2)) (fun _ h=>h.1));replace HO355:=Aside0.mk (Kd.R_mono (Kd.R_keep (IsS92.apart (show IsS92 w0 _ g s0_0 t351 t352 from IsS92.ch HI0.out) (kr HO355.out) (by decide)) hk (fun _ h=>h.2)) (fun _ h=>h.1));replace HK:=Aside0.mk (KeepBut.trans (kp HK.out) hk (.inl rfl));replace HB:=Aside0.mk (hb);replace HI0:=Aside0.mk (hi);(try clear hb);(try clear hb2);(try clear hk);(try clear hi))|((with_reducible refine gate_callee (f:=67) rfl ?_);refine gl (some 17) Tryz.func67 #[.pointer (some ⟨g,0,none⟩),.int .i64 t356] ?_;(with_reducible refine(spec_l01Next.calls g s0_0 t357 t358 t356 t359 t360 t361 w0 _ (IsS92.ch HI0.out) (blg HB.out (IsS92.ge HI0.out)) A5.out).mono ?_);rintro e w17 ⟨rfl,hi,hb,hk⟩;refine⟨_,rfl,?_⟩;replace BK343:=Aside0.mk (kbk hk (bk BK343.out) NB343_0.out);replace HO346:=Aside0.mk (Kd.R_mono (Kd.R_keep (IsS92.apart (show IsS92 w0 _ g s0_0 t357 t358 from IsS92.ch HI0.out) (kr HO346.out) (by decide)) hk (fun _ h=>h.2)) (fun _ h=>h.1));replace HO349:=Aside0.mk (Kd.R_mono (Kd.R_keep (IsS92.apart (show IsS92 w0 _ g s0_0 t357 t358 from IsS92.ch HI0.out) (kr HO349.out) (by decide)) hk (fun _ h=>h.2)) (fun _ h=>h.1));replace HO355:=Aside0.mk (Kd.R_mono (Kd.R_keep (IsS92.apart (show IsS92 w0 _ g s0_0 t357 t358 from IsS92.ch HI0.out) (kr HO355.out) (by decide)) hk (fun _ h=>h.2)) (fun _ h=>h.1));replace HK:=Aside0.mk (KeepBut.trans (kp HK.out) hk (.inl rfl));replace HB:=Aside0.mk (hb);replace HI0:=Aside0.mk (hi);(try clear hb);(try clear hb2);(try clear hk);(try clear hi)))
 go_loopg [5,7] k (fun kq v5 v7 w'=>∃(x5_1:List Int) (x7_1:Int) (x1001_1:Int) (x1002_1:Int),v7 = .int .i64 x7_1∧Aside0 (spec_l01DrawOf.l0 kq a1 x5_1 t350 x7_1 s0_0 x1001_1 x1002_1=some (r1,r2,r3,r4))∧Aside0 (kq≤k)∧Aside0 (Kd.R (Kd.int .i64) 2 w' w.heap.size (fun _=>True) v5 x5_1)∧Aside0 (w'.heap[gb343]?=some (.cells #[.int .i64 0,(.slice none 0 0)] 26 (0,0)))∧Aside0 (IsS92 w0 w' g s0_0 x1001_1 x1002_1)∧Aside0 (KeepBut w w' g none)∧Aside0 (Below w0.heap.size w0 w'))
 case atStart=>exact⟨(y344),(t359),(t360),(t361),rs,H',⟨Nat.le_refl _⟩,⟨by(with_reducible repeat(first|apply Kd.R_alloc|apply Kd.R_drewN|apply Kd.R_drew));exact Kd.R_mono HO346.out (fun _ hk=>trivial)⟩,⟨bk BK343.out⟩,⟨IsS92.ch HI0.out⟩,⟨kp HK.out⟩,⟨blg HB.out (IsS92.ge HI0.out)⟩⟩
 case round=>
  clear H';try clear p2
  try clear c6
  try clear c7
  try clear c8
  obtain ⟨x5_1,x7_1,x1001_1,x1002_1,rfl,HA,HK1,HO_5,BK343,HI0,HK,HB⟩:=hrel;cases gk with
  |zero=>exact absurd HA.out (by simp [spec_l01DrawOf.l0])
  |succ k1=>
   have H:=HA.out;clear HA;simp only [spec_l01DrawOf.l0] at H;by_cases c18:x7_1>0
   ·rw[if_pos c18] at H;have c18b0:decide (0<x7_1)=true:=decide_eq_true c18;clear c18;replace H:=Option.bind_eq_some_iff.mp H;obtain ⟨t366,A190,H⟩:=H;replace H:((spec_l01Next.f s0_0 x1001_1 x1002_1 t366).bind fun bt367=>(spec_l01DrawOf.l1 k1 a1 x5_1 t350 x7_1 (wrap64 (1+bt367.1)) s0_0 bt367.2.1 bt367.2.2))=some (r1,r2,r3,r4):=H;have A19:=Aside0.mk A190;clear A190;replace H:=Option.bind_eq_some_iff.mp H;obtain ⟨⟨t367,t368,t369⟩,A200,H⟩:=H;replace H:(spec_l01DrawOf.l1 k1 a1 x5_1 t350 x7_1 (wrap64 (1+t367)) s0_0 t368 t369)=some (r1,r2,r3,r4):=H;have A20:=Aside0.mk A200;clear A200;have H':=Aside0.mk H;clear H;go_wp2_with (first|((with_reducible refine gate_callee (f:=91) rfl ?_);refine gl (some 24) Tryz.func91 #[.int .i64 a1] ?_;(with_reducible refine(spec_l01All.calls a1 t366 _ A19.out).mono ?_);rintro e w' ⟨rfl,⟨nd,rfl⟩⟩;refine⟨_,rfl,?_⟩)|((with_reducible refine gate_callee (f:=67) rfl ?_);refine gl (some 25) Tryz.func67 #[.pointer (some ⟨g,0,none⟩),.int .i64 t366] ?_;(with_reducible refine(spec_l01Next.calls g s0_0 x1001_1 x1002_1 t366 t367 t368 t369 w0 _ (IsS92.ch HI0.out) (blg HB.out (IsS92.ge HI0.out)) A20.out).mono ?_);rintro e w21 ⟨rfl,hi,hb,hk⟩;refine⟨_,rfl,?_⟩;replace HO_5:=Aside0.mk (Kd.R_mono (Kd.R_keep (IsS92.apart (show IsS92 w0 _ g s0_0 x1001_1 x1002_1 from IsS92.ch HI0.out) (kr HO_5.out) (by decide)) hk (fun _ h=>h.2)) (fun _ h=>h.1));replace BK343:=Aside0.mk (kbk hk (bk BK343.out) NB343_0.out);replace HK:=Aside0.mk (KeepBut.trans (kp HK.out) hk (.inl rfl));replace HB:=Aside0.mk (hb);replace HI0:=Aside0.mk (hi);(try clear hb);(try clear hb2);(try clear hk);(try clear hi)))
    go_loopg [8] k1 (fun kq v8 w'=>∃(x8_2:Int),v8 = .int .i64 x8_2∧Aside0 (spec_l01DrawOf.l1 kq a1 x5_1 t350 x7_1 x8_2 s0_0 t368 t369=some (r1,r2,r3,r4))∧Aside0 (kq≤k1)∧Aside0 (Kd.R (Kd.int .i64) 2 w' w.heap.size (fun _=>True) u5 x5_1)∧Aside0 (w'.heap[gb343]?=some (.cells #[.int .i64 0,(.slice none 0 0)] 26 (0,0)))∧Aside0 (IsS92 w0 w' g s0_0 t368 t369)∧Aside0 (KeepBut w w' g none)∧Aside0 (Below w0.heap.size w0 w'))
    case atStart=>exact⟨(wrap64 (1+t367)),rs,H',⟨Nat.le_refl _⟩,⟨kr HO_5.out⟩,⟨bk BK343.out⟩,⟨IsS92.ch HI0.out⟩,⟨kp HK.out⟩,⟨blg HB.out (IsS92.ge HI0.out)⟩⟩
    case round=>
     clear H';try clear c1
     try clear p2
     try clear c6
     try clear p6
     try clear c7
     try clear c8
     try clear c9
     try clear c18
     try clear c18b0
     try clear p2
     obtain ⟨x8_2,rfl,HA,HK2,HO_5,BK343,HI0,HK,HB⟩:=hrel;cases gk with
     |zero=>exact absurd HA.out (by simp [spec_l01DrawOf.l1])
     |succ k2=>
      have H:=HA.out;clear HA;simp only [spec_l01DrawOf.l1] at H;replace H:=Option.bind_eq_some_iff.mp H;obtain ⟨t370,A220,H⟩:=H;replace H:(if t370>t350 then (spec_l01DrawOf.l1 k2 a1 x5_1 t350 x7_1 (Go.bits .and .i64 x8_2 (wrap64 (x8_2 - 1))) s0_0 t368 t369) else (if x5_1.length<17592186044416 then (spec_l01DrawOf.l0 k2 a1 (x5_1 ++ [x8_2]) t350 (wrap64 (x7_1 - 1)) s0_0 t368 t369) else (none)))=some (r1,r2,r3,r4):=H;have A22:=Aside0.mk A220;clear A220;by_cases c23:t370>t350
      ·rw[if_pos c23] at H;have c23b0:decide (t350<t370)=true:=decide_eq_true c23;clear c23;have H':=Aside0.mk H;clear H;go_wp2_with (first|((with_reducible refine gate_callee (f:=100) rfl ?_);refine gl (some 28) Tryz.func100 #[.int .i64 x8_2] ?_;(with_reducible refine(spec_l01Ones.calls k2 x8_2 t370 _ A22.out).mono ?_);rintro e w' ⟨rfl,⟨nd,rfl⟩⟩;refine⟨_,rfl,?_⟩))
       go_roundg k2
       case measure=>have:=HK1.out;have:=HK2.out;omega
       case rel=>exact⟨(Go.bits .and .i64 x8_2 (wrap64 (x8_2 - 1))),rs,H',⟨by have:=HK1.out;have:=HK2.out;omega⟩,⟨kr HO_5.out⟩,⟨bk BK343.out⟩,⟨IsS92.ch HI0.out⟩,⟨kp HK.out⟩,⟨blg HB.out (IsS92.ge HI0.out)⟩⟩
      ·rw[if_neg c23] at H;have c23b0:decide (t350<t370)=false:=decide_eq_false c23;clear c23;by_cases c24:x5_1.length<17592186044416
       ·rw[if_pos c24] at H;have LMc24:=Aside0.mk c24;clear c24;obtain ⟨y371,hy371⟩:∃ y_:List Int,y_=(x5_1 ++ [x8_2]):=⟨_,rfl⟩
        replace H:(spec_l01DrawOf.l0 k2 a1 y371 t350 (wrap64 (x7_1 - 1)) s0_0 t368 t369)=some (r1,r2,r3,r4):=by first|(rw[hy371];with_reducible exact H)|(have H2_:=(Option.bind_some _ _).symm.trans H;rw[hy371];with_reducible exact H2_)|(have H2_:=(Option.bind_some _ _).symm.trans H;with_reducible exact H2_)|with_reducible exact H|(rw[hy371];exact H)|exact H
        have Ny371:=Aside0.mk hy371;clear hy371;have H':=Aside0.mk H;clear H;go_wp2_with (first|((with_reducible refine gate_callee (f:=100) rfl ?_);refine gl (some 28) Tryz.func100 #[.int .i64 x8_2] ?_;(with_reducible refine(spec_l01Ones.calls k2 x8_2 t370 _ A22.out).mono ?_);rintro e w' ⟨rfl,⟨nd,rfl⟩⟩;refine⟨_,rfl,?_⟩)|((with_reducible refine gate_builtin (b:= .append) (xs:=#[.tmp 35,.tmp 37]) rfl ?_);at_builtin;refine Kd.R_append (Kd.int .i64) w.heap.size rfl (.tmp 35) (.tmp 37) 24 2 (.int .i64 0) 8 rfl Tryz.underlying24 info2 rfl (by decide) (by omega) u5 x5_1 x8_2 [.int .i64 x8_2] (fun _=>True) (fun _=>False) rfl rfl ?aP (fun _ hk=>hk.elim) ?aF ?aO (Below.refl _ _) ?aS ?aL ?_;(case aP=>exact rfl);(case aF=>exact(fun _ _=>trivial));(case aO=>exact(kr HO_5.out));(case aS=>exact(keep_size (w:=w) (g:=g) (row:=none) (kp HK.out)));(case aL=>have:=LMc24.out;omega);intro v372 w25 ho hb hg hat;rw[← Ny371.out] at ho;have n0_:=Aside0.mk (blk_grown (bk BK343.out) hg (Kd.R_ne HO_5.out BK343.out (by decide)));have n1_:=Aside0.mk (IsS92.grown (IsS92.ch HI0.out) hg (IsS92.own_ne HI0.out HO_5.out (by decide)));have n2_:=Aside0.mk (below_weaken (blg HB.out (IsS92.ge HI0.out)) HL.out hb);have n3_:=Aside0.mk (KeepBut.trans (kp HK.out) (KeepBut.of_grown hg g) (Kd.R_base2 HO_5.out));have n4_:=Aside0.mk (ho);clear BK343;clear HI0;clear HB;clear HK;clear HO_5;have BK343:=n0_;have HI0:=n1_;have HB:=n2_;have HK:=n3_;have HO373:=n4_;clear n0_ n1_ n2_ n3_ n4_;clear ho hb hg hat))
        go_roundg k2
        case measure=>have:=HK1.out;have:=HK2.out;omega
        case rel=>exact⟨(y371),(wrap64 (x7_1 - 1)),(t368),(t369),rs,H',⟨by have:=HK1.out;have:=HK2.out;omega⟩,⟨kr HO373.out⟩,⟨bk BK343.out⟩,⟨IsS92.ch HI0.out⟩,⟨kp HK.out⟩,⟨blg HB.out (IsS92.ge HI0.out)⟩⟩
       ·rw[if_neg c24] at H;exact absurd H (by simp)
   ·rw[if_neg c18] at H;have c18b0:decide (0<x7_1)=false:=decide_eq_false c18;clear c18;replace H:=Option.bind_eq_some_iff.mp H;obtain ⟨⟨t362,t363⟩,A260,H⟩:=H;replace H:(some (t362,t363,x1001_1,x1002_1))=some (r1,r2,r3,r4):=H;have A26:=Aside0.mk A260;clear A260;simp only [Option.some.injEq,Prod.mk.injEq] at H;obtain ⟨rfl,rfl,rfl,rfl⟩:=H;obtain ⟨Ao27,co27,eo27⟩:=Kd.R_slice HO_5.out;subst eo27;go_wp2_with (first|((with_reducible refine gate_callee (f:=124) rfl ?_);refine gl (some 41) Tryz.func124 #[.int .i64 a1,.slice Ao27 x5_1.length co27] ?_;(with_reducible refine(spec_l01Made.calls k1 a1 _ _ x5_1 t362 t363 _ (cb (Kd.R_reads' HO_5.out).2.2) ((Kd.R_reads' HO_5.out).2.1) A26.out).mono ?_);rintro e w28 ⟨v364,rfl,ho0,hb⟩;refine⟨_,rfl,?_⟩;have HO365:=Aside0.mk (Kd.R_lower (Kd.R_new' ho0 (Kd.R_lt (kr HO_5.out))) (keep_size (w:=w) (g:=g) (row:=none) (kp HK.out)));replace HO_5:=Aside0.mk (Kd.R_elder' (kr HO_5.out) (Kd.R_base ho0) hb);replace BK343:=bkA BK343 hb;replace HK:=Aside0.mk (KeepBut.trans (kp HK.out) (KeepBut.of_below hb g none) (.inl rfl));replace HB:=Aside0.mk (below_step (blg HB.out (IsS92.ge HI0.out)) hb);replace HI0:=Aside0.mk (IsS92.below (IsS92.ch HI0.out) hb);(try clear hb);(try clear hb2);(try clear hk);(try clear hi);(try clear ho0);have hnb29:=NB343_0.out;have hnc29:=NB0_343.out;have hcz30_0:=z0_ BK343;have hcz30_1:=z1_ BK343;have hfz30_0:=hf_ BK343 0;have hfz30_1:=hf_ BK343 1;obtain ⟨Ao31,co31,eo31⟩:=Kd.R_slice HO365.out;subst eo31))
    refine bodyPost_ret (results_cell_row rfl _ _ gb343 26 #[.int .i64 t362,.slice Ao31 t363.length co31] (0,0) _ rfl (bp BK343.out) Tryz.underlying26 rfl (by kernel_rfl)) rfl ?_;exact⟨_,rr,by(with_reducible repeat(first|apply Kd.R_alloc|apply Kd.R_drewN|apply Kd.R_drew));exact Kd.R_mono (Kd.R_far (p:=⟨gb343,1,none⟩) (Kd.R_far (p:=⟨gb343,0,none⟩) (Kd.R_types HO365.out BK343.out (by decide)) (fun _ hk=>hk.2) (.int .i64 t362)) (fun _ hk=>hk.2) (.slice Ao31 t363.length co31)) (fun _ hk=>trivial),IsS92.ch HI0.out,blg HB.out (IsS92.ge HI0.out),kp HK.out⟩
def spec_l01Names.f  : Option (List ByteArray):=some (([(⟨#[112,111,105,110,116]⟩:ByteArray),(⟨#[99,105,114,99,108,101]⟩:ByteArray),(⟨#[115,113,117,97,114,101]⟩:ByteArray),(⟨#[115,112,104,101,114,101]⟩:ByteArray),(⟨#[98,97,108,108]⟩:ByteArray),(⟨#[98,105,112,121,114,97,109,105,100]⟩:ByteArray),(⟨#[111,99,116,97,104,101,100,114,111,110]⟩:ByteArray),(⟨#[109,111,101,98,105,117,115]⟩:ByteArray),(⟨#[112,114,111,106,101,99,116,105,118,101]⟩:ByteArray),(⟨#[119,101,100,103,101]⟩:ByteArray),(⟨#[116,114,101,101]⟩:ByteArray)]:List ByteArray))
set_option maxHeartbeats 8000000 in
set_option maxRecDepth 100000 in
theorem spec_l01Names.calls  (r:List ByteArray) (w:World) (h:spec_l01Names.f  = some r) :
  Calls Tryz.prog 126 #[] w fun e w'=>∃ v0_:Value,e = .returned (v0_)∧Kd.R Kd.string 9 w' w.heap.size (fun _=>True) v0_ r∧Below w.heap.size w w':=by
 have HB:=Aside0.mk (Below.refl w.heap.size w);have H:(some (([(⟨#[112,111,105,110,116]⟩:ByteArray),(⟨#[99,105,114,99,108,101]⟩:ByteArray),(⟨#[115,113,117,97,114,101]⟩:ByteArray),(⟨#[115,112,104,101,114,101]⟩:ByteArray),(⟨#[98,97,108,108]⟩:ByteArray),(⟨#[98,105,112,121,114,97,109,105,100]⟩:ByteArray),(⟨#[111,99,116,97,104,101,100,114,111,110]⟩:ByteArray),(⟨#[109,111,101,98,105,117,115]⟩:ByteArray),(⟨#[112,114,111,106,101,99,116,105,118,101]⟩:ByteArray),(⟨#[119,101,100,103,101]⟩:ByteArray),(⟨#[116,114,101,101]⟩:ByteArray)]:List ByteArray)))=some r:=h;clear h;obtain ⟨y400,hy400⟩:∃ y_:List ByteArray,y_=(([(⟨#[112,111,105,110,116]⟩:ByteArray),(⟨#[99,105,114,99,108,101]⟩:ByteArray),(⟨#[115,113,117,97,114,101]⟩:ByteArray),(⟨#[115,112,104,101,114,101]⟩:ByteArray),(⟨#[98,97,108,108]⟩:ByteArray),(⟨#[98,105,112,121,114,97,109,105,100]⟩:ByteArray),(⟨#[111,99,116,97,104,101,100,114,111,110]⟩:ByteArray),(⟨#[109,111,101,98,105,117,115]⟩:ByteArray),(⟨#[112,114,111,106,101,99,116,105,118,101]⟩:ByteArray),(⟨#[119,101,100,103,101]⟩:ByteArray),(⟨#[116,114,101,101]⟩:ByteArray)]:List ByteArray)):=⟨_,rfl⟩
 replace H:(some y400)=some r:=by first|(rw[hy400];with_reducible exact H)|(have H2_:=(Option.bind_some _ _).symm.trans H;rw[hy400];with_reducible exact H2_)|(have H2_:=(Option.bind_some _ _).symm.trans H;with_reducible exact H2_)|with_reducible exact H|(rw[hy400];exact H)|exact H
 have Ny400:=Aside0.mk hy400;clear hy400;obtain rfl:=Option.some.inj H;go_enter Tryz.func126,Tryz.ntmps126;go_wp2_with (first|((with_reducible refine gate_dst (N:=1) rfl ?_);refine Kd.R_lit Kd.string _ 9 ?hg (N:=1) ?hd (xs:=([(⟨#[112,111,105,110,116]⟩:ByteArray),(⟨#[99,105,114,99,108,101]⟩:ByteArray),(⟨#[115,113,117,97,114,101]⟩:ByteArray),(⟨#[115,112,104,101,114,101]⟩:ByteArray),(⟨#[98,97,108,108]⟩:ByteArray),(⟨#[98,105,112,121,114,97,109,105,100]⟩:ByteArray),(⟨#[111,99,116,97,104,101,100,114,111,110]⟩:ByteArray),(⟨#[109,111,101,98,105,117,115]⟩:ByteArray),(⟨#[112,114,111,106,101,99,116,105,118,101]⟩:ByteArray),(⟨#[119,101,100,103,101]⟩:ByteArray),(⟨#[116,114,101,101]⟩:ByteArray)]:List ByteArray)) (inner:= [.string (⟨#[112,111,105,110,116]⟩:ByteArray),.string (⟨#[99,105,114,99,108,101]⟩:ByteArray),.string (⟨#[115,113,117,97,114,101]⟩:ByteArray),.string (⟨#[115,112,104,101,114,101]⟩:ByteArray),.string (⟨#[98,97,108,108]⟩:ByteArray),.string (⟨#[98,105,112,121,114,97,109,105,100]⟩:ByteArray),.string (⟨#[111,99,116,97,104,101,100,114,111,110]⟩:ByteArray),.string (⟨#[109,111,101,98,105,117,115]⟩:ByteArray),.string (⟨#[112,114,111,106,101,99,116,105,118,101]⟩:ByteArray),.string (⟨#[119,101,100,103,101]⟩:ByteArray),.string (⟨#[116,114,101,101]⟩:ByteArray)]) (ok:=fun _=>True) (okp:=fun _=>True) ?hr ?hp (fun _ hk=>hk) trivial (Below.refl _ _) (Nat.le_refl _) (by simp) ?_;(case hd=>rfl);(case hg=>rfl);(case hr=>first|(go_simp;done)|(go_simp;rfl));(case hp=>exact(Reps.one (show Kd.M Kd.string _ _ _ (⟨#[112,111,105,110,116]⟩:ByteArray) [.string (⟨#[112,111,105,110,116]⟩:ByteArray)] from rfl) (Reps.one (show Kd.M Kd.string _ _ _ (⟨#[99,105,114,99,108,101]⟩:ByteArray) [.string (⟨#[99,105,114,99,108,101]⟩:ByteArray)] from rfl) (Reps.one (show Kd.M Kd.string _ _ _ (⟨#[115,113,117,97,114,101]⟩:ByteArray) [.string (⟨#[115,113,117,97,114,101]⟩:ByteArray)] from rfl) (Reps.one (show Kd.M Kd.string _ _ _ (⟨#[115,112,104,101,114,101]⟩:ByteArray) [.string (⟨#[115,112,104,101,114,101]⟩:ByteArray)] from rfl) (Reps.one (show Kd.M Kd.string _ _ _ (⟨#[98,97,108,108]⟩:ByteArray) [.string (⟨#[98,97,108,108]⟩:ByteArray)] from rfl) (Reps.one (show Kd.M Kd.string _ _ _ (⟨#[98,105,112,121,114,97,109,105,100]⟩:ByteArray) [.string (⟨#[98,105,112,121,114,97,109,105,100]⟩:ByteArray)] from rfl) (Reps.one (show Kd.M Kd.string _ _ _ (⟨#[111,99,116,97,104,101,100,114,111,110]⟩:ByteArray) [.string (⟨#[111,99,116,97,104,101,100,114,111,110]⟩:ByteArray)] from rfl) (Reps.one (show Kd.M Kd.string _ _ _ (⟨#[109,111,101,98,105,117,115]⟩:ByteArray) [.string (⟨#[109,111,101,98,105,117,115]⟩:ByteArray)] from rfl) (Reps.one (show Kd.M Kd.string _ _ _ (⟨#[112,114,111,106,101,99,116,105,118,101]⟩:ByteArray) [.string (⟨#[112,114,111,106,101,99,116,105,118,101]⟩:ByteArray)] from rfl) (Reps.one (show Kd.M Kd.string _ _ _ (⟨#[119,101,100,103,101]⟩:ByteArray) [.string (⟨#[119,101,100,103,101]⟩:ByteArray)] from rfl) (Reps.one (show Kd.M Kd.string _ _ _ (⟨#[116,114,101,101]⟩:ByteArray) [.string (⟨#[116,114,101,101]⟩:ByteArray)] from rfl) (Reps.none _ _)))))))))))));intro v401 w1 ho2 hb hg_ hnew_;clear hg_ hnew_;(first|rw[← Ny400.out] at ho2|(simp only [Int.reduceToNat] at ho2;rw[← Ny400.out] at ho2));have HO402:=klA ho2 HB;replace HB:=bsA HB hb;clear hb ho2))
 go_ret;exact⟨_,rr,by(with_reducible repeat(first|apply Kd.R_alloc|apply Kd.R_drewN|apply Kd.R_drew));exact HO402.out,bl HB.out⟩
def spec_l01Known.f  : Option (List ByteArray):=some (([(⟨#[49,58,48]⟩:ByteArray),(⟨#[51,58,48,49,44,48,50,44,49,50]⟩:ByteArray),(⟨#[52,58,48,49,44,49,50,44,50,51,44,48,51]⟩:ByteArray),(⟨#[52,58,48,49,50,44,48,49,51,44,48,50,51,44,49,50,51]⟩:ByteArray),(⟨#[52,58,48,49,50,51]⟩:ByteArray),(⟨#[53,58,48,49,51,44,48,49,52,44,48,50,51,44,48,50,52,44,49,50,51,44,49,50,52]⟩:ByteArray),(⟨#[54,58,48,50,52,44,48,50,53,44,48,51,52,44,48,51,53,44,49,50,52,44,49,50,53,44,49,51,52,44,49,51,53]⟩:ByteArray),(⟨#[53,58,48,49,50,44,49,50,51,44,50,51,52,44,48,51,52,44,48,49,52]⟩:ByteArray),(⟨#[54,58,48,49,50,44,48,50,51,44,48,51,52,44,48,52,53,44,48,49,53,44,49,50,52,44,50,51,53,44,49,51,52,44,50,52,53,44,49,51,53]⟩:ByteArray),(⟨#[53,58,48,49,44,48,50,44,49,50,44,48,51,44,48,52,44,51,52]⟩:ByteArray),(⟨#[54,58,48,49,44,49,50,44,49,51,44,51,52,44,51,53]⟩:ByteArray)]:List ByteArray))
set_option maxHeartbeats 8000000 in
set_option maxRecDepth 100000 in
theorem spec_l01Known.calls  (r:List ByteArray) (w:World) (h:spec_l01Known.f  = some r) :
  Calls Tryz.prog 149 #[] w fun e w'=>∃ v0_:Value,e = .returned (v0_)∧Kd.R Kd.string 9 w' w.heap.size (fun _=>True) v0_ r∧Below w.heap.size w w':=by
 have HB:=Aside0.mk (Below.refl w.heap.size w);have H:(some (([(⟨#[49,58,48]⟩:ByteArray),(⟨#[51,58,48,49,44,48,50,44,49,50]⟩:ByteArray),(⟨#[52,58,48,49,44,49,50,44,50,51,44,48,51]⟩:ByteArray),(⟨#[52,58,48,49,50,44,48,49,51,44,48,50,51,44,49,50,51]⟩:ByteArray),(⟨#[52,58,48,49,50,51]⟩:ByteArray),(⟨#[53,58,48,49,51,44,48,49,52,44,48,50,51,44,48,50,52,44,49,50,51,44,49,50,52]⟩:ByteArray),(⟨#[54,58,48,50,52,44,48,50,53,44,48,51,52,44,48,51,53,44,49,50,52,44,49,50,53,44,49,51,52,44,49,51,53]⟩:ByteArray),(⟨#[53,58,48,49,50,44,49,50,51,44,50,51,52,44,48,51,52,44,48,49,52]⟩:ByteArray),(⟨#[54,58,48,49,50,44,48,50,51,44,48,51,52,44,48,52,53,44,48,49,53,44,49,50,52,44,50,51,53,44,49,51,52,44,50,52,53,44,49,51,53]⟩:ByteArray),(⟨#[53,58,48,49,44,48,50,44,49,50,44,48,51,44,48,52,44,51,52]⟩:ByteArray),(⟨#[54,58,48,49,44,49,50,44,49,51,44,51,52,44,51,53]⟩:ByteArray)]:List ByteArray)))=some r:=h;clear h;obtain ⟨y403,hy403⟩:∃ y_:List ByteArray,y_=(([(⟨#[49,58,48]⟩:ByteArray),(⟨#[51,58,48,49,44,48,50,44,49,50]⟩:ByteArray),(⟨#[52,58,48,49,44,49,50,44,50,51,44,48,51]⟩:ByteArray),(⟨#[52,58,48,49,50,44,48,49,51,44,48,50,51,44,49,50,51]⟩:ByteArray),(⟨#[52,58,48,49,50,51]⟩:ByteArray),(⟨#[53,58,48,49,51,44,48,49,52,44,48,50,51,44,48,50,52,44,49,50,51,44,49,50,52]⟩:ByteArray),(⟨#[54,58,48,50,52,44,48,50,53,44,48,51,52,44,48,51,53,44,49,50,52,44,49,50,53,44,49,51,52,44,49,51,53]⟩:ByteArray),(⟨#[53,58,48,49,50,44,49,50,51,44,50,51,52,44,48,51,52,44,48,49,52]⟩:ByteArray),(⟨#[54,58,48,49,50,44,48,50,51,44,48,51,52,44,48,52,53,44,48,49,53,44,49,50,52,44,50,51,53,44,49,51,52,44,50,52,53,44,49,51,53]⟩:ByteArray),(⟨#[53,58,48,49,44,48,50,44,49,50,44,48,51,44,48,52,44,51,52]⟩:ByteArray),(⟨#[54,58,48,49,44,49,50,44,49,51,44,51,52,44,51,53]⟩:ByteArray)]:List ByteArray)):=⟨_,rfl⟩
 replace H:(some y403)=some r:=by first|(rw[hy403];with_reducible exact H)|(have H2_:=(Option.bind_some _ _).symm.trans H;rw[hy403];with_reducible exact H2_)|(have H2_:=(Option.bind_some _ _).symm.trans H;with_reducible exact H2_)|with_reducible exact H|(rw[hy403];exact H)|exact H
 have Ny403:=Aside0.mk hy403;clear hy403;obtain rfl:=Option.some.inj H;go_enter Tryz.func149,Tryz.ntmps149;go_wp2_with (first|((with_reducible refine gate_dst (N:=1) rfl ?_);refine Kd.R_lit Kd.string _ 9 ?hg (N:=1) ?hd (xs:=([(⟨#[49,58,48]⟩:ByteArray),(⟨#[51,58,48,49,44,48,50,44,49,50]⟩:ByteArray),(⟨#[52,58,48,49,44,49,50,44,50,51,44,48,51]⟩:ByteArray),(⟨#[52,58,48,49,50,44,48,49,51,44,48,50,51,44,49,50,51]⟩:ByteArray),(⟨#[52,58,48,49,50,51]⟩:ByteArray),(⟨#[53,58,48,49,51,44,48,49,52,44,48,50,51,44,48,50,52,44,49,50,51,44,49,50,52]⟩:ByteArray),(⟨#[54,58,48,50,52,44,48,50,53,44,48,51,52,44,48,51,53,44,49,50,52,44,49,50,53,44,49,51,52,44,49,51,53]⟩:ByteArray),(⟨#[53,58,48,49,50,44,49,50,51,44,50,51,52,44,48,51,52,44,48,49,52]⟩:ByteArray),(⟨#[54,58,48,49,50,44,48,50,51,44,48,51,52,44,48,52,53,44,48,49,53,44,49,50,52,44,50,51,53,44,49,51,52,44,50,52,53,44,49,51,53]⟩:ByteArray),(⟨#[53,58,48,49,44,48,50,44,49,50,44,48,51,44,48,52,44,51,52]⟩:ByteArray),(⟨#[54,58,48,49,44,49,50,44,49,51,44,51,52,44,51,53]⟩:ByteArray)]:List ByteArray)) (inner:= [.string (⟨#[49,58,48]⟩:ByteArray),.string (⟨#[51,58,48,49,44,48,50,44,49,50]⟩:ByteArray),.string (⟨#[52,58,48,49,44,49,50,44,50,51,44,48,51]⟩:ByteArray),.string (⟨#[52,58,48,49,50,44,48,49,51,44,48,50,51,44,49,50,51]⟩:ByteArray),.string (⟨#[52,58,48,49,50,51]⟩:ByteArray),.string (⟨#[53,58,48,49,51,44,48,49,52,44,48,50,51,44,48,50,52,44,49,50,51,44,49,50,52]⟩:ByteArray),.string (⟨#[54,58,48,50,52,44,48,50,53,44,48,51,52,44,48,51,53,44,49,50,52,44,49,50,53,44,49,51,52,44,49,51,53]⟩:ByteArray),.string (⟨#[53,58,48,49,50,44,49,50,51,44,50,51,52,44,48,51,52,44,48,49,52]⟩:ByteArray),.string (⟨#[54,58,48,49,50,44,48,50,51,44,48,51,52,44,48,52,53,44,48,49,53,44,49,50,52,44,50,51,53,44,49,51,52,44,50,52,53,44,49,51,53]⟩:ByteArray),.string (⟨#[53,58,48,49,44,48,50,44,49,50,44,48,51,44,48,52,44,51,52]⟩:ByteArray),.string (⟨#[54,58,48,49,44,49,50,44,49,51,44,51,52,44,51,53]⟩:ByteArray)]) (ok:=fun _=>True) (okp:=fun _=>True) ?hr ?hp (fun _ hk=>hk) trivial (Below.refl _ _) (Nat.le_refl _) (by simp) ?_;(case hd=>rfl);(case hg=>rfl);(case hr=>first|(go_simp;done)|(go_simp;rfl));(case hp=>exact(Reps.one (show Kd.M Kd.string _ _ _ (⟨#[49,58,48]⟩:ByteArray) [.string (⟨#[49,58,48]⟩:ByteArray)] from rfl) (Reps.one (show Kd.M Kd.string _ _ _ (⟨#[51,58,48,49,44,48,50,44,49,50]⟩:ByteArray) [.string (⟨#[51,58,48,49,44,48,50,44,49,50]⟩:ByteArray)] from rfl) (Reps.one (show Kd.M Kd.string _ _ _ (⟨#[52,58,48,49,44,49,50,44,50,51,44,48,51]⟩:ByteArray) [.string (⟨#[52,58,48,49,44,49,50,44,50,51,44,48,51]⟩:ByteArray)] from rfl) (Reps.one (show Kd.M Kd.string _ _ _ (⟨#[52,58,48,49,50,44,48,49,51,44,48,50,51,44,49,50,51]⟩:ByteArray) [.string (⟨#[52,58,48,49,50,44,48,49,51,44,48,50,51,44,49,50,51]⟩:ByteArray)] from rfl) (Reps.one (show Kd.M Kd.string _ _ _ (⟨#[52,58,48,49,50,51]⟩:ByteArray) [.string (⟨#[52,58,48,49,50,51]⟩:ByteArray)] from rfl) (Reps.one (show Kd.M Kd.string _ _ _ (⟨#[53,58,48,49,51,44,48,49,52,44,48,50,51,44,48,50,52,44,49,50,51,44,49,50,52]⟩:ByteArray) [.string (⟨#[53,58,48,49,51,44,48,49,52,44,48,50,51,44,48,50,52,44,49,50,51,44,49,50,52]⟩:ByteArray)] from rfl) (Reps.one (show Kd.M Kd.string _ _ _ (⟨#[54,58,48,50,52,44,48,50,53,44,48,51,52,44,48,51,53,44,49,50,52,44,49,50,53,44,49,51,52,44,49,51,53]⟩:ByteArray) [.string (⟨#[54,58,48,50,52,44,48,50,53,44,48,51,52,44,48,51,53,44,49,50,52,44,49,50,53,44,49,51,52,44,49,51,53]⟩:ByteArray)] from rfl) (Reps.one (show Kd.M Kd.string _ _ _ (⟨#[53,58,48,49,50,44,49,50,51,44,50,51,52,44,48,51,52,44,48,49,52]⟩:ByteArray) [.string (⟨#[53,58,48,49,50,44,49,50,51,44,50,51,52,44,48,51,52,44,48,49,52]⟩:ByteArray)] from rfl) (Reps.one (show Kd.M Kd.string _ _ _ (⟨#[54,58,48,49,50,44,48,50,51,44,48,51,52,44,48,52,53,44,48,49,53,44,49,50,52,44,50,51,53,44,49,51,52,44,50,52,53,44,49,51,53]⟩:ByteArray) [.string (⟨#[54,58,48,49,50,44,48,50,51,44,48,51,52,44,48,52,53,44,48,49,53,44,49,50,52,44,50,51,53,44,49,51,52,44,50,52,53,44,49,51,53]⟩:ByteArray)] from rfl) (Reps.one (show Kd.M Kd.string _ _ _ (⟨#[53,58,48,49,44,48,50,44,49,50,44,48,51,44,48,52,44,51,52]⟩:ByteArray) [.string (⟨#[53,58,48,49,44,48,50,44,49,50,44,48,51,44,48,52,44,51,52]⟩:ByteArray)] from rfl) (Reps.one (show Kd.M Kd.string _ _ _ (⟨#[54,58,48,49,44,49,50,44,49,51,44,51,52,44,51,53]⟩:ByteArray) [.string (⟨#[54,58,48,49,44,49,50,44,49,51,44,51,52,44,51,53]⟩:ByteArray)] from rfl) (Reps.none _ _)))))))))))));intro v404 w1 ho2 hb hg_ hnew_;clear hg_ hnew_;(first|rw[← Ny403.out] at ho2|(simp only [Int.reduceToNat] at ho2;rw[← Ny403.out] at ho2));have HO405:=klA ho2 HB;replace HB:=bsA HB hb;clear hb ho2))
 go_ret;exact⟨_,rr,by(with_reducible repeat(first|apply Kd.R_alloc|apply Kd.R_drewN|apply Kd.R_drew));exact HO405.out,bl HB.out⟩
end Go.Proofs.YtlhkdbkjafiikaaGreat.Q
end

section
namespace Go.Proofs.YtlhkdbkjafiikaaGreat.Q
open Go.RowKit Go.Proofs.YtlhkdbkjafiikaaGreatW.PrintWords Go.Proofs.YtlhkdbkjafiikaaGreatW.PrintLast Go.Proofs.YtlhkdbkjafiikaaGreatW.PrintMore
attribute [local go_sem] max2_int min2_int max_two min_two max_three min_three max_four min_four
set_option linter.unusedVariables false
set_option linter.unusedSimpArgs false
def spec_l01Split.l0:Nat→ByteArray→Int→List ByteArray→Int→Int→Option (List ByteArray)
 |0,_,_,_,_,_=>none
 |k+1,x0,x1,x5,x6,x7=>if x7<(x0.size:Int) then (if 0≤x7 then (if (bt x0 x7)=x1 then (if 0≤x6 then (if x6≤x7 then (if x7≤(x0.size:Int) then (if x5.length<8796093022208 then (spec_l01Split.l0 k x0 x1 (x5 ++ [x0.extract (x6:Int).toNat (x7:Int).toNat]) (wrap64 (x7+1)) (wrap64 (x7+1))) else (none)) else (none)) else (none)) else (none)) else (spec_l01Split.l0 k x0 x1 x5 x6 (wrap64 (x7+1)))) else (none)) else (if 0≤x6 then (if x6≤(x0.size:Int) then (if x5.length<8796093022208 then (some (x5 ++ [x0.extract (x6:Int).toNat x0.size])) else (none)) else (none)) else (none))
def spec_l01Split.f (k:Nat) (a0:ByteArray) (a1:Int):Option (List ByteArray):=spec_l01Split.l0 k a0 a1 (([]:List ByteArray)) 0 0
theorem spec_l01Split.mono_l:∀ k,(∀ y0 y1 y2 y3 y4,LeO (spec_l01Split.l0 k y0 y1 y2 y3 y4) (spec_l01Split.l0 (k+1) y0 y1 y2 y3 y4))
 |0=>fun _ _ _ _ _ r h=>by simp [spec_l01Split.l0] at h
 |k+1=>by
  have ih0:=spec_l01Split.mono_l k
  ·intro y0 y1 y2 y3 y4;unfold spec_l01Split.l0;repeat' first
   |(with_reducible first|exact ih0 _ _ _ _ _|exact LeO.refl _|exact LeO.none _|refine LeO.ite ?_ ?_|refine LeO.bind ?_ (fun _=>?_))
theorem spec_l01Split.mono:∀ a0 a1 k,LeO (spec_l01Split.f k a0 a1) (spec_l01Split.f (k+1) a0 a1):=by
 intro a0 a1 k;have ih0:=spec_l01Split.mono_l k;unfold spec_l01Split.f;repeat' first
   |(with_reducible first|exact ih0 _ _ _ _ _|exact LeO.refl _|exact LeO.none _|refine LeO.ite ?_ ?_|refine LeO.bind ?_ (fun _=>?_))
set_option maxHeartbeats 8000000 in
set_option maxRecDepth 100000 in
theorem spec_l01Split.calls (k:Nat) (a0:ByteArray) (a1:Int) (r:List ByteArray) (w:World) (h:spec_l01Split.f k a0 a1=some r) :
  Calls Tryz.prog 150 #[.string a0,.int .u8 a1] w fun e w'=>∃ v0_:Value,e = .returned (v0_)∧Kd.R Kd.string 9 w' w.heap.size (fun _=>True) v0_ r∧Below w.heap.size w w':=by
 have HB:=Aside0.mk (Below.refl w.heap.size w);have H:(spec_l01Split.l0 k a0 a1 (([]:List ByteArray)) 0 0)=some r:=h;clear h;obtain ⟨y406,hy406⟩:∃ y_:List ByteArray,y_=(([]:List ByteArray)):=⟨_,rfl⟩
 replace H:(spec_l01Split.l0 k a0 a1 y406 0 0)=some r:=by first|(rw[hy406];with_reducible exact H)|(have H2_:=(Option.bind_some _ _).symm.trans H;rw[hy406];with_reducible exact H2_)|(have H2_:=(Option.bind_some _ _).symm.trans H;with_reducible exact H2_)|with_reducible exact H|(rw[hy406];exact H)|exact H
 have Ny406:=Aside0.mk hy406;clear hy406;have H':=Aside0.mk H;clear H;go_enter Tryz.func150,Tryz.ntmps150;go_wp2_with (first|((with_reducible refine gate_dst (N:=8) rfl ?_);refine Kd.R_lit Kd.string _ 9 ?hg (N:=8) ?hd (xs:=([]:List ByteArray)) (inner:= []) (ok:=fun _=>True) (okp:=fun _=>True) ?hr ?hp (fun _ hk=>hk) trivial (Below.refl _ _) (Nat.le_refl _) (by simp) ?_;(case hd=>rfl);(case hg=>rfl);(case hr=>first|(go_simp;done)|(go_simp;rfl));(case hp=>exact(Reps.none _ _));intro v407 w3 ho4 hb hg_ hnew_;clear hg_ hnew_;(first|rw[← Ny406.out] at ho4|(simp only [Int.reduceToNat] at ho4;rw[← Ny406.out] at ho4));have HO408:=klA ho4 HB;replace HB:=bsA HB hb;clear hb ho4))
 go_loopg [5,6,7] k (fun kq v5 v6 v7 w'=>∃(x5_1:List ByteArray) (x6_1:Int) (x7_1:Int),v6 = .int .i64 x6_1∧v7 = .int .i64 x7_1∧Aside0 (spec_l01Split.l0 kq a0 a1 x5_1 x6_1 x7_1=some r)∧Aside0 (kq≤k)∧Aside0 (Kd.R Kd.string 9 w' w.heap.size (fun _=>True) v5 x5_1)∧Aside0 (Below w.heap.size w w'))
 case atStart=>exact⟨(y406),(0),(0),rs,rs,H',⟨Nat.le_refl _⟩,⟨kr HO408.out⟩,⟨bl HB.out⟩⟩
 case round=>
  clear H';try clear c1
  try clear p2
  obtain ⟨x5_1,x6_1,x7_1,rfl,rfl,HA,HK1,HO_5,HB⟩:=hrel;cases gk with
  |zero=>exact absurd HA.out (by simp [spec_l01Split.l0])
  |succ k1=>
   have H:=HA.out;clear HA;simp only [spec_l01Split.l0] at H;by_cases c5:x7_1<(a0.size:Int)
   ·rw[if_pos c5] at H;have c5b0:decide (x7_1<(a0.size:Int))=true:=decide_eq_true c5;clear c5;by_cases c6:0≤x7_1
    ·rw[if_pos c6] at H;have c6b0:decide (0≤x7_1)=true:=decide_eq_true c6;clear c6;by_cases c8:(bt a0 x7_1)=a1
     ·rw[if_pos c8] at H;have c8b0:((bt a0 x7_1) == a1)=true:=beq_iff_eq.mpr c8;have c8b1:((bt a0 x7_1) != a1)=false:=bne_eq_false_iff_eq.mpr c8;clear c8;by_cases c9:0≤x6_1
      ·rw[if_pos c9] at H;have c9b0:=eq_true c9;have c9b1:decide (0≤x6_1)=true:=decide_eq_true c9;clear c9;by_cases c10:x6_1≤x7_1
       ·rw[if_pos c10] at H;have c10b0:=eq_true c10;have c10b1:decide (x6_1≤x7_1)=true:=decide_eq_true c10;clear c10;by_cases c11:x7_1≤(a0.size:Int)
        ·rw[if_pos c11] at H;have c11b0:=eq_true c11;have c11b1:decide (x7_1≤(a0.size:Int))=true:=decide_eq_true c11;clear c11;by_cases c12:x5_1.length<8796093022208
         ·rw[if_pos c12] at H;have LMc12:=Aside0.mk c12;clear c12;obtain ⟨y409,hy409⟩:∃ y_:List ByteArray,y_=(x5_1 ++ [a0.extract (x6_1:Int).toNat (x7_1:Int).toNat]):=⟨_,rfl⟩
          replace H:(spec_l01Split.l0 k1 a0 a1 y409 (wrap64 (x7_1+1)) (wrap64 (x7_1+1)))=some r:=by first|(rw[hy409];with_reducible exact H)|(have H2_:=(Option.bind_some _ _).symm.trans H;rw[hy409];with_reducible exact H2_)|(have H2_:=(Option.bind_some _ _).symm.trans H;with_reducible exact H2_)|with_reducible exact H|(rw[hy409];exact H)|exact H
          have Ny409:=Aside0.mk hy409;clear hy409;have H':=Aside0.mk H;clear H;have p7:0≤(x7_1:Int):=dd;have q7:x7_1<(a0.size:Int):=dd;have hx7:=bt_at a0 x7_1;replace p7:=eq_true p7;replace q7:=eq_true q7;go_wp2_with (first|((with_reducible refine gate_builtin (b:= .append) (xs:=#[.tmp 20,.tmp 25]) rfl ?_);at_builtin;refine Kd.R_append Kd.string (w0:=w) w.heap.size rfl (.tmp 20) (.tmp 25) 95 9 (.string ⟨#[]⟩) 16 rfl Tryz.underlying95 info9 rfl (by decide) (by omega) u5 x5_1 (a0.extract (x6_1:Int).toNat (x7_1:Int).toNat) [.string (a0.extract (x6_1:Int).toNat (x7_1:Int).toNat)] (fun _=>True) (fun _=>False) rfl rfl ?aP (fun _ hk=>hk.elim) ?aF ?aO ?aB ?aS ?aL ?_;(case aP=>exact rfl);(case aB=>exact(bl HB.out));(case aF=>exact(fun _ _=>trivial));(case aO=>exact(kr HO_5.out));(case aS=>exact(below_size (bl HB.out)));(case aL=>have:=LMc12.out;omega);intro v410 w13 ho hb hg hat;rw[← Ny409.out] at ho;have n0_:=Aside0.mk (hb);have n1_:=Aside0.mk (ho);clear HB;clear HO_5;have HB:=n0_;have HO411:=n1_;clear n0_ n1_;clear ho hb hg hat))
          go_roundg k1
          case measure=>have:=HK1.out;omega
          case rel=>exact⟨(y409),(wrap64 (x7_1+1)),(wrap64 (x7_1+1)),rs,rs,H',⟨by have:=HK1.out;omega⟩,⟨kr HO411.out⟩,⟨bl HB.out⟩⟩
         ·rw[if_neg c12] at H;exact absurd H (by simp)
        ·rw[if_neg c11] at H;exact absurd H (by simp)
       ·rw[if_neg c10] at H;exact absurd H (by simp)
      ·rw[if_neg c9] at H;exact absurd H (by simp)
     ·rw[if_neg c8] at H;have c8b0:((bt a0 x7_1) == a1)=false:=beq_eq_false_iff_ne.mpr c8;have c8b1:((bt a0 x7_1) != a1)=true:=bne_iff_ne.mpr c8;have H':=Aside0.mk H;clear H;have p7:0≤(x7_1:Int):=dd;have q7:x7_1<(a0.size:Int):=dd;have hx7:=bt_at a0 x7_1;replace p7:=eq_true p7;replace q7:=eq_true q7;go_wp2
      go_roundg k1
      case measure=>have:=HK1.out;omega
      case rel=>exact⟨(x5_1),(x6_1),(wrap64 (x7_1+1)),rs,rs,H',⟨by have:=HK1.out;omega⟩,⟨kr HO_5.out⟩,⟨bl HB.out⟩⟩
    ·rw[if_neg c6] at H;exact absurd H (by simp)
   ·rw[if_neg c5] at H;have c5b0:decide (x7_1<(a0.size:Int))=false:=decide_eq_false c5;clear c5;by_cases c14:0≤x6_1
    ·rw[if_pos c14] at H;have c14b0:=eq_true c14;have c14b1:decide (0≤x6_1)=true:=decide_eq_true c14;clear c14;by_cases c15:x6_1≤(a0.size:Int)
     ·rw[if_pos c15] at H;have c15b0:=eq_true c15;have c15b1:decide (x6_1≤(a0.size:Int))=true:=decide_eq_true c15;clear c15;by_cases c16:x5_1.length<8796093022208
      ·rw[if_pos c16] at H;have LMc16:=Aside0.mk c16;clear c16;obtain ⟨y412,hy412⟩:∃ y_:List ByteArray,y_=(x5_1 ++ [a0.extract (x6_1:Int).toNat a0.size]):=⟨_,rfl⟩
       replace H:(some y412)=some r:=by first|(rw[hy412];with_reducible exact H)|(have H2_:=(Option.bind_some _ _).symm.trans H;rw[hy412];with_reducible exact H2_)|(have H2_:=(Option.bind_some _ _).symm.trans H;with_reducible exact H2_)|with_reducible exact H|(rw[hy412];exact H)|exact H
       have Ny412:=Aside0.mk hy412;clear hy412;obtain rfl:=Option.some.inj H;go_wp2_with (first|((with_reducible refine gate_builtin (b:= .append) (xs:=#[.tmp 29,.tmp 33]) rfl ?_);at_builtin;refine Kd.R_append Kd.string (w0:=w) w.heap.size rfl (.tmp 29) (.tmp 33) 95 9 (.string ⟨#[]⟩) 16 rfl Tryz.underlying95 info9 rfl (by decide) (by omega) u5 x5_1 (a0.extract (x6_1:Int).toNat a0.size) [.string (a0.extract (x6_1:Int).toNat a0.size)] (fun _=>True) (fun _=>False) rfl rfl ?aP (fun _ hk=>hk.elim) ?aF ?aO ?aB ?aS ?aL ?_;(case aP=>exact rfl);(case aB=>exact(bl HB.out));(case aF=>exact(fun _ _=>trivial));(case aO=>exact(kr HO_5.out));(case aS=>exact(below_size (bl HB.out)));(case aL=>have:=LMc16.out;omega);intro v413 w17 ho hb hg hat;rw[← Ny412.out] at ho;have n0_:=Aside0.mk (hb);have n1_:=Aside0.mk (ho);clear HB;clear HO_5;have HB:=n0_;have HO414:=n1_;clear n0_ n1_;clear ho hb hg hat))
       go_ret;exact⟨_,rr,by(with_reducible repeat(first|apply Kd.R_alloc|apply Kd.R_drewN|apply Kd.R_drew));exact HO414.out,bl HB.out⟩
      ·rw[if_neg c16] at H;exact absurd H (by simp)
     ·rw[if_neg c15] at H;exact absurd H (by simp)
    ·rw[if_neg c14] at H;exact absurd H (by simp)
def spec_l01Set.l0:Nat→ByteArray→Int→Int→Int→Int→Option (Int×Bool)
 |0,_,_,_,_,_=>none
 |k+1,x0,x1,x6,x7,x8=>if x8<(x0.size:Int) then (if 0≤x8 then ((spec_l01In.f (wrap64 ((wrap64 (bt x0 x8)) - 48)) (wrap64 (x7+1)) (wrap64 (x1 - 1))).bind fun t415=>(if t415=true then (if 0≤(IntKind.u64.wrap (wrap64 ((wrap64 (bt x0 x8)) - 48))) then (spec_l01Set.l0 k x0 x1 (Go.bits .or .i64 x6 (shl .i64 1 (IntKind.u64.wrap (wrap64 ((wrap64 (bt x0 x8)) - 48))))) (wrap64 ((wrap64 (bt x0 x8)) - 48)) (wrap64 (x8+1))) else (none)) else (some (0,false)))) else (none)) else (some (x6,decide (x6>0)))
def spec_l01Set.f (k:Nat) (a0:ByteArray) (a1:Int):Option (Int×Bool):=spec_l01Set.l0 k a0 a1 0 (-1) 0
theorem spec_l01Set.mono_l:∀ k,(∀ y0 y1 y2 y3 y4,LeO (spec_l01Set.l0 k y0 y1 y2 y3 y4) (spec_l01Set.l0 (k+1) y0 y1 y2 y3 y4))
 |0=>fun _ _ _ _ _ r h=>by simp [spec_l01Set.l0] at h
 |k+1=>by
  have ih0:=spec_l01Set.mono_l k
  ·intro y0 y1 y2 y3 y4;unfold spec_l01Set.l0;repeat' first
   |(with_reducible first|exact ih0 _ _ _ _ _|exact LeO.refl _|exact LeO.none _|refine LeO.ite ?_ ?_|refine LeO.bind ?_ (fun _=>?_))
theorem spec_l01Set.mono:∀ a0 a1 k,LeO (spec_l01Set.f k a0 a1) (spec_l01Set.f (k+1) a0 a1):=by
 intro a0 a1 k;have ih0:=spec_l01Set.mono_l k;unfold spec_l01Set.f;repeat' first
   |(with_reducible first|exact ih0 _ _ _ _ _|exact LeO.refl _|exact LeO.none _|refine LeO.ite ?_ ?_|refine LeO.bind ?_ (fun _=>?_))
set_option maxHeartbeats 8000000 in
set_option maxRecDepth 100000 in
theorem spec_l01Set.calls (k:Nat) (a0:ByteArray) (a1:Int) (r1:Int) (r2:Bool) (w:World) (h:spec_l01Set.f k a0 a1=some (r1,r2)) :
  Calls Tryz.prog 151 #[.string a0,.int .i64 a1] w fun e w'=>e = .returned (.tuple #[.int .i64 r1,.bool r2])∧Drawn0 w w':=by
 have H:(spec_l01Set.l0 k a0 a1 0 (-1) 0)=some (r1,r2):=h;clear h;have H':=Aside0.mk H;clear H;go_enter Tryz.func151,Tryz.ntmps151;go_wp2
 go_loopg [6,7,8] k (fun kq v6 v7 v8 w'=>∃(x6_1:Int) (x7_1:Int) (x8_1:Int),v6 = .int .i64 x6_1∧v7 = .int .i64 x7_1∧v8 = .int .i64 x8_1∧Aside0 (spec_l01Set.l0 kq a0 a1 x6_1 x7_1 x8_1=some (r1,r2))∧Aside0 (kq≤k)∧Drawn0 w w')
 case atStart=>exact⟨(0),((-1)),(0),rs,rs,rs,H',⟨Nat.le_refl _⟩,by repeat(first|exact Drawn0.refl _|apply Drawn0.step)⟩
 case round=>
  clear H';try clear c1
  try clear p2
  obtain ⟨x6_1,x7_1,x8_1,rfl,rfl,rfl,HA,HK1,⟨m1,rfl⟩⟩:=hrel;cases gk with
  |zero=>exact absurd HA.out (by simp [spec_l01Set.l0])
  |succ k1=>
   have H:=HA.out;clear HA;simp only [spec_l01Set.l0] at H;by_cases c3:x8_1<(a0.size:Int)
   ·rw[if_pos c3] at H;have c3b0:decide (x8_1<(a0.size:Int))=true:=decide_eq_true c3;clear c3;by_cases c4:0≤x8_1
    ·rw[if_pos c4] at H;have c4b0:decide (0≤x8_1)=true:=decide_eq_true c4;clear c4;replace H:=Option.bind_eq_some_iff.mp H;obtain ⟨t415,A60,H⟩:=H;replace H:(if t415=true then (if 0≤(IntKind.u64.wrap (wrap64 ((wrap64 (bt a0 x8_1)) - 48))) then (spec_l01Set.l0 k1 a0 a1 (Go.bits .or .i64 x6_1 (shl .i64 1 (IntKind.u64.wrap (wrap64 ((wrap64 (bt a0 x8_1)) - 48))))) (wrap64 ((wrap64 (bt a0 x8_1)) - 48)) (wrap64 (x8_1+1))) else (none)) else (some (0,false)))=some (r1,r2):=H;have A6:=Aside0.mk A60;clear A60;by_cases c7:t415=true
     ·subst c7;have H1:(if 0≤(IntKind.u64.wrap (wrap64 ((wrap64 (bt a0 x8_1)) - 48))) then (spec_l01Set.l0 k1 a0 a1 (Go.bits .or .i64 x6_1 (shl .i64 1 (IntKind.u64.wrap (wrap64 ((wrap64 (bt a0 x8_1)) - 48))))) (wrap64 ((wrap64 (bt a0 x8_1)) - 48)) (wrap64 (x8_1+1))) else (none))=some (r1,r2):=by rw[if_pos rfl] at H;exact H
      clear H;have H:=H1;clear H1;obtain ⟨ji8,hji8⟩:∃ j_:Int,(IntKind.u64.wrap (wrap64 ((wrap64 (bt a0 x8_1)) - 48)))=j_:=⟨_,rfl⟩
      replace H:(if 0≤(ji8) then (spec_l01Set.l0 k1 a0 a1 (Go.bits .or .i64 x6_1 (shl .i64 1 (ji8))) (wrap64 ((wrap64 (bt a0 x8_1)) - 48)) (wrap64 (x8_1+1))) else (none))=some (r1,r2):=by first|(rw[hji8] at H;exact H)|(simp only [hji8] at H ⊢;exact H)
      (try rw[hji8] at A6)
      by_cases c9:0≤(ji8)
      ·rw[if_pos c9] at H;have c9b0:=eq_true c9;have c9b1:decide (0≤(ji8))=true:=decide_eq_true c9;clear c9;obtain ⟨ji10,hji10⟩:∃ j_:Int,(shl .i64 1 (ji8))=j_:=⟨_,rfl⟩
       replace H:(spec_l01Set.l0 k1 a0 a1 (Go.bits .or .i64 x6_1 (ji10)) (wrap64 ((wrap64 (bt a0 x8_1)) - 48)) (wrap64 (x8_1+1)))=some (r1,r2):=by first|(rw[hji10] at H;exact H)|(simp only [hji10] at H ⊢;exact H)
       (try rw[hji10] at A6)
       have hji10_:(IntKind.i64.wrap (1*2 ^ min (ji8).toNat 64))=ji10:=hji10;have hji10z:(ji8)≤64→(IntKind.i64.wrap (1*2 ^ (ji8).toNat))=ji10:=shl_small hji10;have hji10u:(IntKind.i64.wrap (2 ^ min (ji8).toNat 64))=ji10:=by have h_:=hji10_;rw[Int.one_mul] at h_;exact h_
       have hji10v:(ji8)≤64→(IntKind.i64.wrap (2 ^ (ji8).toNat))=ji10:=fun hle_=>by have h_:=hji10z hle_;rw[Int.one_mul] at h_;exact h_
       have hji10y:(wrap64 (1*2 ^ min (ji8).toNat 64))=ji10:=(i64_w _).symm.trans hji10_;have hji10x:(ji8)≤64→(wrap64 (1*2 ^ (ji8).toNat))=ji10:=fun h_=>(i64_w _).symm.trans (hji10z h_)
       have H':=Aside0.mk H;clear H;have p5:0≤(x8_1:Int):=dd;have q5:x8_1<(a0.size:Int):=dd;have hx5:=bt_at a0 x8_1;replace p5:=eq_true p5;replace q5:=eq_true q5;go_wp2_with (first|((with_reducible refine gate_callee (f:=95) rfl ?_);refine gl (some 26) Tryz.func95 #[.int .i64 (wrap64 ((wrap64 (bt a0 x8_1)) - 48)),.int .i64 (wrap64 (x7_1+1)),.int .i64 (wrap64 (a1 - 1))] ?_;(with_reducible refine(spec_l01In.calls (wrap64 ((wrap64 (bt a0 x8_1)) - 48)) (wrap64 (x7_1+1)) (wrap64 (a1 - 1)) true _ A6.out).mono ?_);rintro e w' ⟨rfl,⟨nd,rfl⟩⟩;refine⟨_,rfl,?_⟩))
       go_roundg k1
       case measure=>have:=HK1.out;omega
       case rel=>exact⟨(Go.bits .or .i64 x6_1 (ji10)),(wrap64 ((wrap64 (bt a0 x8_1)) - 48)),(wrap64 (x8_1+1)),(by first|rfl|(simp;done)|(simp only [← hji10] <;> (first|rfl|simp))|(simp [*];done)),rs,rs,H',⟨by have:=HK1.out;omega⟩,by repeat(first|exact Drawn0.refl _|apply Drawn0.step)⟩
      ·rw[if_neg c9] at H;exact absurd H (by simp)
     ·replace c7:=Bool.eq_false_iff.mpr c7;subst c7;have H1:(some (0,false))=some (r1,r2):=by rw[if_neg (show ¬ (false=true) by decide)] at H;exact H
      clear H;have H:=H1;clear H1;simp only [Option.some.injEq,Prod.mk.injEq] at H;obtain ⟨rfl,rfl⟩:=H;have p5:0≤(x8_1:Int):=dd;have q5:x8_1<(a0.size:Int):=dd;have hx5:=bt_at a0 x8_1;replace p5:=eq_true p5;replace q5:=eq_true q5;go_wp2_with (first|((with_reducible refine gate_callee (f:=95) rfl ?_);refine gl (some 26) Tryz.func95 #[.int .i64 (wrap64 ((wrap64 (bt a0 x8_1)) - 48)),.int .i64 (wrap64 (x7_1+1)),.int .i64 (wrap64 (a1 - 1))] ?_;(with_reducible refine(spec_l01In.calls (wrap64 ((wrap64 (bt a0 x8_1)) - 48)) (wrap64 (x7_1+1)) (wrap64 (a1 - 1)) false _ A6.out).mono ?_);rintro e w' ⟨rfl,⟨nd,rfl⟩⟩;refine⟨_,rfl,?_⟩))
      go_ret2;exact⟨rs,by repeat(first|exact Drawn0.refl _|apply Drawn0.step)⟩
    ·rw[if_neg c4] at H;exact absurd H (by simp)
   ·rw[if_neg c3] at H;have c3b0:decide (x8_1<(a0.size:Int))=false:=decide_eq_false c3;clear c3;simp only [Option.some.injEq,Prod.mk.injEq] at H;obtain ⟨rfl,rfl⟩:=H;go_wp2
    go_ret2;exact⟨rs,by repeat(first|exact Drawn0.refl _|apply Drawn0.step)⟩
end Go.Proofs.YtlhkdbkjafiikaaGreat.Q
end

section
namespace Go.Proofs.YtlhkdbkjafiikaaGreat.Q
open Go.RowKit Go.Proofs.YtlhkdbkjafiikaaGreatW.PrintWords Go.Proofs.YtlhkdbkjafiikaaGreatW.PrintLast Go.Proofs.YtlhkdbkjafiikaaGreatW.PrintMore
attribute [local go_sem] max2_int min2_int max_two min_two max_three min_three max_four min_four
set_option linter.unusedVariables false
set_option linter.unusedSimpArgs false
mutual
def spec_l01Named.l0:Nat→ByteArray→List ByteArray→List ByteArray→Int→Option (Int×List Int×Bool)
 |0,_,_,_,_=>none
 |k+1,x0,x4,x5,x6=>if x6<(x4.length:Int) then (if 0≤x6 then (if (rdOf ByteArray.empty x4 x6).toList=x0.toList then (if x6<(x5.length:Int) then (if 0<((rdOf ByteArray.empty x5 x6).size:Int) then (if 2≤((rdOf ByteArray.empty x5 x6).size:Int) then ((spec_l01Split.f k ((rdOf ByteArray.empty x5 x6).extract 2 (rdOf ByteArray.empty x5 x6).size) 44).bind fun t429=>(spec_l01Named.l1 k (wrap64 ((wrap64 (bt (rdOf ByteArray.empty x5 x6) 0)) - 48)) (([]:List Int)) t429 0)) else (none)) else (none)) else (none)) else (spec_l01Named.l0 k x0 x4 x5 (wrap64 (x6+1)))) else (none)) else (some (0,([]:List Int),false))
def spec_l01Named.l1:Nat→Int→List Int→List ByteArray→Int→Option (Int×List Int×Bool)
 |0,_,_,_,_=>none
 |k+1,x7,x8,x9,x10=>if x10<(x9.length:Int) then (if 0≤x10 then ((spec_l01Set.f k (rdOf ByteArray.empty x9 x10) x7).bind fun bt433=>(if x8.length<17592186044416 then (spec_l01Named.l1 k x7 (x8 ++ [bt433.1]) x9 (wrap64 (x10+1))) else (none))) else (none)) else ((spec_l01Made.f k x7 x8).bind fun bt438=>(some (bt438.1,bt438.2,true)))
end
def spec_l01Named.f (k:Nat) (a0:ByteArray):Option (Int×List Int×Bool):=(spec_l01Names.f).bind fun t417=>((spec_l01Known.f).bind fun t420=>(spec_l01Named.l0 k a0 t417 t420 0))
theorem spec_l01Named.mono_l:∀ k,(∀ y0 y1 y2 y3,LeO (spec_l01Named.l0 k y0 y1 y2 y3) (spec_l01Named.l0 (k+1) y0 y1 y2 y3))∧(∀ y0 y1 y2 y3,LeO (spec_l01Named.l1 k y0 y1 y2 y3) (spec_l01Named.l1 (k+1) y0 y1 y2 y3))
 |0=>⟨fun _ _ _ _ r h=>by simp [spec_l01Named.l0] at h,fun _ _ _ _ r h=>by simp [spec_l01Named.l1] at h⟩
 |k+1=>by
  obtain ⟨ih0,ih1⟩:=spec_l01Named.mono_l k;refine⟨?_,?_⟩
  ·intro y0 y1 y2 y3;unfold spec_l01Named.l0;repeat' first
   |(with_reducible first|exact ih0 _ _ _ _|exact ih1 _ _ _ _|exact spec_l01Made.mono _ _ _|exact spec_l01Set.mono _ _ _|exact spec_l01Split.mono _ _ _|exact LeO.refl _|exact LeO.none _|refine LeO.ite ?_ ?_|refine LeO.bind ?_ (fun _=>?_))
  ·intro y0 y1 y2 y3;unfold spec_l01Named.l1;repeat' first
   |(with_reducible first|exact ih0 _ _ _ _|exact ih1 _ _ _ _|exact spec_l01Made.mono _ _ _|exact spec_l01Set.mono _ _ _|exact spec_l01Split.mono _ _ _|exact LeO.refl _|exact LeO.none _|refine LeO.ite ?_ ?_|refine LeO.bind ?_ (fun _=>?_))
theorem spec_l01Named.mono:∀ a0 k,LeO (spec_l01Named.f k a0) (spec_l01Named.f (k+1) a0):=by
 intro a0 k;obtain ⟨ih0,ih1⟩:=spec_l01Named.mono_l k;unfold spec_l01Named.f;repeat' first
   |(with_reducible first|exact ih0 _ _ _ _|exact ih1 _ _ _ _|exact spec_l01Made.mono _ _ _|exact spec_l01Set.mono _ _ _|exact spec_l01Split.mono _ _ _|exact LeO.refl _|exact LeO.none _|refine LeO.ite ?_ ?_|refine LeO.bind ?_ (fun _=>?_))
set_option maxHeartbeats 8000000 in
set_option maxRecDepth 100000 in
theorem spec_l01Named.calls (k:Nat) (a0:ByteArray) (r1:Int) (r2:List Int) (r3:Bool) (w:World) (h:spec_l01Named.f k a0=some (r1,r2,r3)) :
  Calls Tryz.prog 127 #[.string a0] w fun e w'=>∃ v1_:Value,e = .returned (.tuple #[.agg #[.int .i64 r1,v1_],.bool r3])∧Kd.R (Kd.int .i64) 2 w' w.heap.size (fun _=>True) v1_ r2∧Below w.heap.size w w':=by
 have hu26:=Tryz.underlying26;have HB:=Aside0.mk (Below.refl w.heap.size w);have H:((spec_l01Names.f).bind fun t417=>((spec_l01Known.f).bind fun t420=>(spec_l01Named.l0 k a0 t417 t420 0)))=some (r1,r2,r3):=h;clear h;replace H:=Option.bind_eq_some_iff.mp H;obtain ⟨t417,A20,H⟩:=H;replace H:((spec_l01Known.f).bind fun t420=>(spec_l01Named.l0 k a0 t417 t420 0))=some (r1,r2,r3):=H;have A2:=Aside0.mk A20;clear A20;replace H:=Option.bind_eq_some_iff.mp H;obtain ⟨t420,A30,H⟩:=H;replace H:(spec_l01Named.l0 k a0 t417 t420 0)=some (r1,r2,r3):=H;have A3:=Aside0.mk A30;clear A30;have H':=Aside0.mk H;clear H;go_enter Tryz.func127,Tryz.ntmps127;go_wp2_with (first|((with_reducible refine gate_dst (N:=2) rfl ?_);refine bx 2 #[.int .i64 0,.slice none 0 0] 26 ?_;intro gb416 hg w4 hbox hb;have BK416:=Aside0.mk (hbox);have GE416:=gzA hg HB;replace HB:=bsA HB hb;clear hb hbox hg)|((with_reducible refine gate_callee (f:=126) rfl ?_);refine gl (some 13) Tryz.func126 #[] ?_;(with_reducible refine(spec_l01Names.calls  t417 _ A2.out).mono ?_);rintro e w5 ⟨v418,rfl,ho0,hb⟩;refine⟨_,rfl,?_⟩;have HO419:=klA ho0 HB;replace BK416:=bkA BK416 hb;replace HB:=bsA HB hb;(try clear hb);(try clear hb2);(try clear hk);(try clear hi);(try clear ho0))|((with_reducible refine gate_callee (f:=149) rfl ?_);refine gl (some 14) Tryz.func149 #[] ?_;(with_reducible refine(spec_l01Known.calls  t420 _ A3.out).mono ?_);rintro e w6 ⟨v421,rfl,ho0,hb⟩;refine⟨_,rfl,?_⟩;have HO422:=Aside0.mk (Kd.R_lower (Kd.R_new' ho0 (Kd.R_lt (kr HO419.out))) (below_size (bl HB.out)));replace HO419:=Aside0.mk (Kd.R_elder' (kr HO419.out) (Kd.R_base ho0) hb);replace BK416:=bkA BK416 hb;replace HB:=bsA HB hb;(try clear hb);(try clear hb2);(try clear hk);(try clear hi);(try clear ho0)))
 go_loopg [6] k (fun kq v6 w'=>∃(x6_1:Int) (x417000_1:Int),v6 = .int .i64 x6_1∧Aside0 (spec_l01Named.l0 kq a0 t417 t420 x6_1=some (r1,r2,r3))∧Aside0 (kq≤k)∧Aside0 (Kd.R Kd.string 9 w' w.heap.size (fun k_=>some k_≠(v421:Value).ownBlock) v418 t417)∧Aside0 (Kd.R Kd.string 9 w' w.heap.size (fun k_=>some k_≠(v418:Value).ownBlock) v421 t420)∧Aside0 (w'.heap[gb416]?=some (.cells #[.int .i64 x417000_1,(.slice none 0 0)] 26 (0,0)))∧Aside0 (Below w.heap.size w w'))
 case atStart=>exact⟨(0),(0),rs,H',⟨Nat.le_refl _⟩,⟨by(with_reducible repeat(first|apply Kd.R_alloc|apply Kd.R_drewN|apply Kd.R_drew));exact Kd.R_mono HO419.out (fun _ hk=>hk.2)⟩,⟨by(with_reducible repeat(first|apply Kd.R_alloc|apply Kd.R_drewN|apply Kd.R_drew));exact Kd.R_mono HO422.out (fun _ hk=>hk.2)⟩,⟨bk BK416.out⟩,⟨bl HB.out⟩⟩
 case round=>
  clear H';try clear c1
  try clear p2
  obtain ⟨x6_1,x417000_1,rfl,HA,HK1,HO_4,HO_5,BK416,HB⟩:=hrel;cases gk with
  |zero=>exact absurd HA.out (by simp [spec_l01Named.l0])
  |succ k1=>
   have H:=HA.out;clear HA;simp only [spec_l01Named.l0] at H;by_cases c7:x6_1<(t417.length:Int)
   ·rw[if_pos c7] at H;have c7b0:decide (x6_1<(t417.length:Int))=true:=decide_eq_true c7;clear c7;by_cases c8:0≤x6_1
    ·rw[if_pos c8] at H;have c8b0:decide (0≤x6_1)=true:=decide_eq_true c8;clear c8;by_cases c9:(rdOf ByteArray.empty t417 x6_1).toList=a0.toList
     ·rw[if_pos c9] at H;have c9b0:((rdOf ByteArray.empty t417 x6_1).toList == a0.toList)=true:=beq_iff_eq.mpr c9;have c9b1:((rdOf ByteArray.empty t417 x6_1).toList != a0.toList)=false:=bne_eq_false_iff_eq.mpr c9;clear c9;by_cases c10:x6_1<(t420.length:Int)
      ·rw[if_pos c10] at H;have c10b0:decide (x6_1<(t420.length:Int))=true:=decide_eq_true c10;clear c10;by_cases c11:0<((rdOf ByteArray.empty t420 x6_1).size:Int)
       ·rw[if_pos c11] at H;have c11b0:decide (0<((rdOf ByteArray.empty t420 x6_1).size:Int))=true:=decide_eq_true c11;have c11b1:decide (0<(rdOf ByteArray.empty t420 x6_1).size)=true:=decide_eq_true (by omega);clear c11;obtain ⟨y425,hy425⟩:∃ y_:List Int,y_=(([]:List Int)):=⟨_,rfl⟩
        replace H:(if 2≤((rdOf ByteArray.empty t420 x6_1).size:Int) then ((spec_l01Split.f k1 ((rdOf ByteArray.empty t420 x6_1).extract 2 (rdOf ByteArray.empty t420 x6_1).size) 44).bind fun t429=>(spec_l01Named.l1 k1 (wrap64 ((wrap64 (bt (rdOf ByteArray.empty t420 x6_1) 0)) - 48)) y425 t429 0)) else (none))=some (r1,r2,r3):=by first|(rw[hy425];with_reducible exact H)|(have H2_:=(Option.bind_some _ _).symm.trans H;rw[hy425];with_reducible exact H2_)|(have H2_:=(Option.bind_some _ _).symm.trans H;with_reducible exact H2_)|with_reducible exact H|(rw[hy425];exact H)|exact H
        have Ny425:=Aside0.mk hy425;clear hy425;by_cases c13:2≤((rdOf ByteArray.empty t420 x6_1).size:Int)
        ·rw[if_pos c13] at H;have c13b0:=eq_true c13;have c13b1:decide (2≤((rdOf ByteArray.empty t420 x6_1).size:Int))=true:=decide_eq_true c13;clear c13;replace H:=Option.bind_eq_some_iff.mp H;obtain ⟨t429,A140,H⟩:=H;replace H:(spec_l01Named.l1 k1 (wrap64 ((wrap64 (bt (rdOf ByteArray.empty t420 x6_1) 0)) - 48)) y425 t429 0)=some (r1,r2,r3):=H;have A14:=Aside0.mk A140;clear A140;have H':=Aside0.mk H;clear H;obtain ⟨Ao15,co15,eo15⟩:=Kd.R_slice HO_4.out;subst eo15;have p423:0≤(x6_1:Int):=dd;have q423:x6_1<(t417.length:Int):=dd;obtain ⟨ad423,e423,hx423_0⟩:=Kd.at_string (Kd.R_reads' HO_4.out).2.2 x6_1 p423 q423;cases e423;replace p423:=eq_true p423;replace q423:=eq_true q423;obtain ⟨Ao16,co16,eo16⟩:=Kd.R_slice HO_5.out;subst eo16;have p424:0≤(x6_1:Int):=dd;have q424:x6_1<(t420.length:Int):=dd;obtain ⟨ad424,e424,hx424_0⟩:=Kd.at_string (Kd.R_reads' HO_5.out).2.2 x6_1 p424 q424;cases e424;replace p424:=eq_true p424;replace q424:=eq_true q424;have p12:0≤(0:Int):=(by omega)
         have q12:0<(rdOf ByteArray.empty t420 x6_1).size:=(by have:(0:Int)<((rdOf ByteArray.empty t420 x6_1).size:Int):=dd;omega)
         have hx12:∀ h:0<(rdOf ByteArray.empty t420 x6_1).size,(((rdOf ByteArray.empty t420 x6_1)[0]'h).toNat:Int)=bt (rdOf ByteArray.empty t420 x6_1) 0:=bt_at (rdOf ByteArray.empty t420 x6_1) 0;clear p12;have qi12:(0<((rdOf ByteArray.empty t420 x6_1).size:Int))=True:=eq_true (dd);replace q12:=eq_true q12;go_wp2_with (first|((with_reducible refine gate_dst (N:=34) rfl ?_);refine Kd.R_lit (Kd.int .i64) _ 2 ?hg (N:=34) ?hd (xs:=([]:List Int)) (inner:= []) (ok:=fun _=>True) (okp:=fun _=>True) ?hr ?hp (fun _ hk=>hk) trivial (Below.refl _ _) (Nat.le_refl _) (by simp) ?_;(case hd=>rfl);(case hg=>rfl);(case hr=>first|(go_simp;done)|(go_simp;rfl));(case hp=>exact(Reps.none _ _));intro v426 w17 ho18 hb hg_ hnew_;clear hg_ hnew_;(first|rw[← Ny425.out] at ho18|(simp only [Int.reduceToNat] at ho18;rw[← Ny425.out] at ho18));replace HO_4:=krA HO_4 hb;replace HO_5:=krA HO_5 hb;have HO427:=klA ho18 HB;replace BK416:=bkA BK416 hb;replace HB:=bsA HB hb;clear hb ho18;have p428:0≤(x6_1:Int):=dd;have q428:x6_1<(t420.length:Int):=dd;obtain ⟨ad428,e428,hx428_0⟩:=Kd.at_string (Kd.R_reads' HO_5.out).2.2 x6_1 p428 q428;obtain rfl:ad424=ad428:=(by injection e428);replace p428:=eq_true p428;replace q428:=eq_true q428)|((with_reducible refine gate_callee (f:=150) rfl ?_);refine gl (some 40) Tryz.func150 #[.string ((rdOf ByteArray.empty t420 x6_1).extract 2 (rdOf ByteArray.empty t420 x6_1).size),.int .u8 44] ?_;(with_reducible refine(spec_l01Split.calls k1 ((rdOf ByteArray.empty t420 x6_1).extract 2 (rdOf ByteArray.empty t420 x6_1).size) 44 t429 _ A14.out).mono ?_);rintro e w19 ⟨v430,rfl,ho0,hb⟩;refine⟨_,rfl,?_⟩;replace HO427:=krA HO427 hb;have HO431:=Aside0.mk (Kd.R_lower (Kd.R_new' (Kd.R_new' ho0 (Kd.R_lt (kr HO_4.out))) (Kd.R_lt (kr HO_5.out))) (below_size (bl HB.out)));replace HO_4:=Aside0.mk (Kd.R_elder' (kr HO_4.out) (Kd.R_base ho0) hb);replace HO_5:=Aside0.mk (Kd.R_elder' (kr HO_5.out) (Kd.R_base ho0) hb);replace BK416:=bkA BK416 hb;replace HB:=bsA HB hb;(try clear hb);(try clear hb2);(try clear hk);(try clear hi);(try clear ho0)))
         go_loopg [8,10] k1 (fun kq v8 v10 w'=>∃(x8_2:List Int) (x10_2:Int),v10 = .int .i64 x10_2∧Aside0 (spec_l01Named.l1 kq (wrap64 ((wrap64 (bt (rdOf ByteArray.empty t420 x6_1) 0)) - 48)) x8_2 t429 x10_2=some (r1,r2,r3))∧Aside0 (kq≤k1)∧Aside0 (Kd.R (Kd.int .i64) 2 w' w.heap.size (fun _=>True) v8 x8_2)∧Aside0 (Kd.R Kd.string 9 w' w.heap.size (fun _=>True) v430 t429)∧Aside0 (w'.heap[gb416]?=some (.cells #[.int .i64 x417000_1,(.slice none 0 0)] 26 (0,0)))∧Aside0 (Below w.heap.size w w'))
         case atStart=>exact⟨(y425),(0),rs,H',⟨Nat.le_refl _⟩,⟨kr HO427.out⟩,⟨by(with_reducible repeat(first|apply Kd.R_alloc|apply Kd.R_drewN|apply Kd.R_drew));exact Kd.R_mono HO431.out (fun _ hk=>trivial)⟩,⟨bk BK416.out⟩,⟨bl HB.out⟩⟩
         case round=>
          clear H';try clear c1
          try clear p1
          try clear q1
          try clear hx1
          try clear qi1
          try clear p2
          try clear p4
          try clear q4
          try clear hx4
          try clear p6
          try clear c7
          try clear c7b0
          try clear c8
          try clear c8b0
          try clear c9
          try clear c9b0
          try clear c9b1
          try clear c10
          try clear c10b0
          try clear c11
          try clear c11b0
          try clear c11b1
          try clear c12
          try clear p12
          try clear q12
          try clear hx12
          try clear qi12
          try clear c13
          try clear c13b0
          try clear c13b1
          try clear c14
          try clear c15
          try clear hx423_0
          try clear hx424_0
          try clear hx428_0
          try clear p12
          try clear p2
          try clear p423
          try clear p424
          try clear p428
          try clear q12
          try clear q423
          try clear q424
          try clear q428
          obtain ⟨x8_2,x10_2,rfl,HA,HK2,HO_8,HO_9,BK416,HB⟩:=hrel;cases gk with
          |zero=>exact absurd HA.out (by simp [spec_l01Named.l1])
          |succ k2=>
           have H:=HA.out;clear HA;simp only [spec_l01Named.l1] at H;by_cases c20:x10_2<(t429.length:Int)
           ·rw[if_pos c20] at H;have c20b0:decide (x10_2<(t429.length:Int))=true:=decide_eq_true c20;clear c20;by_cases c21:0≤x10_2
            ·rw[if_pos c21] at H;have c21b0:decide (0≤x10_2)=true:=decide_eq_true c21;clear c21;replace H:=Option.bind_eq_some_iff.mp H;obtain ⟨⟨t433,t434⟩,A220,H⟩:=H;replace H:(if x8_2.length<17592186044416 then (spec_l01Named.l1 k2 (wrap64 ((wrap64 (bt (rdOf ByteArray.empty t420 x6_1) 0)) - 48)) (x8_2 ++ [t433]) t429 (wrap64 (x10_2+1))) else (none))=some (r1,r2,r3):=H;have A22:=Aside0.mk A220;clear A220;by_cases c23:x8_2.length<17592186044416
             ·rw[if_pos c23] at H;have LMc23:=Aside0.mk c23;clear c23;obtain ⟨y435,hy435⟩:∃ y_:List Int,y_=(x8_2 ++ [t433]):=⟨_,rfl⟩
              replace H:(spec_l01Named.l1 k2 (wrap64 ((wrap64 (bt (rdOf ByteArray.empty t420 x6_1) 0)) - 48)) y435 t429 (wrap64 (x10_2+1)))=some (r1,r2,r3):=by first|(rw[hy435];with_reducible exact H)|(have H2_:=(Option.bind_some _ _).symm.trans H;rw[hy435];with_reducible exact H2_)|(have H2_:=(Option.bind_some _ _).symm.trans H;with_reducible exact H2_)|with_reducible exact H|(rw[hy435];exact H)|exact H
              have Ny435:=Aside0.mk hy435;clear hy435;have H':=Aside0.mk H;clear H;obtain ⟨Ao24,co24,eo24⟩:=Kd.R_slice HO_9.out;subst eo24;have p432:0≤(x10_2:Int):=dd;have q432:x10_2<(t429.length:Int):=dd;obtain ⟨ad432,e432,hx432_0⟩:=Kd.at_string (Kd.R_reads' HO_9.out).2.2 x10_2 p432 q432;cases e432;replace p432:=eq_true p432;replace q432:=eq_true q432;go_wp2_with (first|((with_reducible refine gate_callee (f:=151) rfl ?_);refine gl (some 53) Tryz.func151 #[.string (rdOf ByteArray.empty t429 x10_2),.int .i64 (wrap64 ((wrap64 (bt (rdOf ByteArray.empty t420 x6_1) 0)) - 48))] ?_;(with_reducible refine(spec_l01Set.calls k2 (rdOf ByteArray.empty t429 x10_2) (wrap64 ((wrap64 (bt (rdOf ByteArray.empty t420 x6_1) 0)) - 48)) t433 t434 _ A22.out).mono ?_);rintro e w' ⟨rfl,⟨nd,rfl⟩⟩;refine⟨_,rfl,?_⟩)|((with_reducible refine gate_builtin (b:= .append) (xs:=#[.tmp 56,.tmp 58]) rfl ?_);at_builtin;refine Kd.R_append (Kd.int .i64) (w0:=w) w.heap.size rfl (.tmp 56) (.tmp 58) 24 2 (.int .i64 0) 8 rfl Tryz.underlying24 info2 rfl (by decide) (by omega) u8 x8_2 t433 [.int .i64 t433] (fun _=>True) (fun _=>False) rfl rfl ?aP (fun _ hk=>hk.elim) ?aF ?aO ?aB ?aS ?aL ?_;(case aP=>exact rfl);(case aB=>exact(bl HB.out));(case aF=>exact(fun _ _=>trivial));(case aO=>exact(kr HO_8.out));(case aS=>exact(below_size (bl HB.out)));(case aL=>have:=LMc23.out;omega);intro v436 w25 ho hb hg hat;rw[← Ny435.out] at ho;have n0_:=Aside0.mk (Kd.R_over' (kr HO_9.out) (Kd.R_typed (kr HO_8.out)) (by decide) hg);have n1_:=Aside0.mk (blk_grown (bk BK416.out) hg (Kd.R_ne HO_8.out BK416.out (by decide)));have n2_:=Aside0.mk (hb);have n3_:=Aside0.mk (ho);clear HO_9;clear BK416;clear HB;clear HO_8;have HO_9:=n0_;have BK416:=n1_;have HB:=n2_;have HO437:=n3_;clear n0_ n1_ n2_ n3_;clear ho hb hg hat))
              go_roundg k2
              case measure=>have:=HK1.out;have:=HK2.out;omega
              case rel=>exact⟨(y435),(wrap64 (x10_2+1)),rs,H',⟨by have:=HK1.out;have:=HK2.out;omega⟩,⟨kr HO437.out⟩,⟨kr HO_9.out⟩,⟨bk BK416.out⟩,⟨bl HB.out⟩⟩
             ·rw[if_neg c23] at H;exact absurd H (by simp)
            ·rw[if_neg c21] at H;exact absurd H (by simp)
           ·rw[if_neg c20] at H;have c20b0:decide (x10_2<(t429.length:Int))=false:=decide_eq_false c20;clear c20;replace H:=Option.bind_eq_some_iff.mp H;obtain ⟨⟨t438,t439⟩,A260,H⟩:=H;replace H:(some (t438,t439,true))=some (r1,r2,r3):=H;have A26:=Aside0.mk A260;clear A260;simp only [Option.some.injEq,Prod.mk.injEq] at H;obtain ⟨rfl,rfl,rfl⟩:=H;obtain ⟨Ao27,co27,eo27⟩:=Kd.R_slice HO_9.out;subst eo27;obtain ⟨Ao28,co28,eo28⟩:=Kd.R_slice HO_8.out;subst eo28;go_wp2_with (first|((with_reducible refine gate_callee (f:=124) rfl ?_);refine gl (some 62) Tryz.func124 #[.int .i64 (wrap64 ((wrap64 (bt (rdOf ByteArray.empty t420 x6_1) 0)) - 48)),.slice Ao28 x8_2.length co28] ?_;(with_reducible refine(spec_l01Made.calls k2 (wrap64 ((wrap64 (bt (rdOf ByteArray.empty t420 x6_1) 0)) - 48)) _ _ x8_2 t438 t439 _ (cb (Kd.R_reads' HO_8.out).2.2) ((Kd.R_reads' HO_8.out).2.1) A26.out).mono ?_);rintro e w29 ⟨v440,rfl,ho0,hb⟩;refine⟨_,rfl,?_⟩;replace HO_9:=krA HO_9 hb;have HO441:=Aside0.mk (Kd.R_lower (Kd.R_new' ho0 (Kd.R_lt (kr HO_8.out))) (below_size (bl HB.out)));replace HO_8:=Aside0.mk (Kd.R_elder' (kr HO_8.out) (Kd.R_base ho0) hb);replace BK416:=bkA BK416 hb;replace HB:=bsA HB hb;(try clear hb);(try clear hb2);(try clear hk);(try clear hi);(try clear ho0);have hcz30_0:=z0_ BK416;have hcz30_1:=z1_ BK416;have hfz30_0:=hf_ BK416 0;have hfz30_1:=hf_ BK416 1;obtain ⟨Ao31,co31,eo31⟩:=Kd.R_slice HO441.out;subst eo31))
            refine bodyPost_ret (results_ct rfl _ _ gb416 26 #[.int .i64 t438,.slice Ao31 t439.length co31] (0,0) _ rfl (bp BK416.out) Tryz.underlying26 rfl (by kernel_rfl)) rfl ?_;exact⟨_,rr,by(with_reducible repeat(first|apply Kd.R_alloc|apply Kd.R_drewN|apply Kd.R_drew));exact Kd.R_mono (Kd.R_far (p:=⟨gb416,1,none⟩) (Kd.R_far (p:=⟨gb416,0,none⟩) (Kd.R_types HO441.out BK416.out (by decide)) (fun _ hk=>hk.2) (.int .i64 t438)) (fun _ hk=>hk.2) (.slice Ao31 t439.length co31)) (fun _ hk=>trivial),bl HB.out⟩
        ·rw[if_neg c13] at H;exact absurd H (by simp)
       ·rw[if_neg c11] at H;exact absurd H (by simp)
      ·rw[if_neg c10] at H;exact absurd H (by simp)
     ·rw[if_neg c9] at H;have c9b0:((rdOf ByteArray.empty t417 x6_1).toList == a0.toList)=false:=beq_eq_false_iff_ne.mpr c9;have c9b1:((rdOf ByteArray.empty t417 x6_1).toList != a0.toList)=true:=bne_iff_ne.mpr c9;have H':=Aside0.mk H;clear H;obtain ⟨Ao32,co32,eo32⟩:=Kd.R_slice HO_4.out;subst eo32;have p423:0≤(x6_1:Int):=dd;have q423:x6_1<(t417.length:Int):=dd;obtain ⟨ad423,e423,hx423_0⟩:=Kd.at_string (Kd.R_reads' HO_4.out).2.2 x6_1 p423 q423;cases e423;replace p423:=eq_true p423;replace q423:=eq_true q423;go_wp2
      go_roundg k1
      case measure=>have:=HK1.out;omega
      case rel=>exact⟨(wrap64 (x6_1+1)),(x417000_1),rs,H',⟨by have:=HK1.out;omega⟩,⟨kr HO_4.out⟩,⟨kr HO_5.out⟩,⟨bk BK416.out⟩,⟨bl HB.out⟩⟩
    ·rw[if_neg c8] at H;exact absurd H (by simp)
   ·rw[if_neg c7] at H;have c7b0:decide (x6_1<(t417.length:Int))=false:=decide_eq_false c7;clear c7;simp only [Option.some.injEq,Prod.mk.injEq] at H;obtain ⟨rfl,rfl,rfl⟩:=H;obtain ⟨Ao33,co33,eo33⟩:=Kd.R_slice HO_4.out;subst eo33;have hcz34_0:=z0_ BK416;have hcz34_1:=z1_ BK416;have hfz34_0:=hf_ BK416 0;have hfz34_1:=hf_ BK416 1;go_wp2
    refine bodyPost_ret (results_ct rfl _ _ gb416 26 #[.int .i64 0,.slice none 0 0] (0,0) _ rfl (bp BK416.out) Tryz.underlying26 rfl (by kernel_rfl)) rfl ?_;exact⟨_,rr,by first|exact Kd.R_nil _ _ _ _ _|exact Kd.N_nil _ _ _ _ _|exact Kd.V_nil _ _ _ _ _|exact Kd.Q_nil _ _ _ _ _|exact Kd.S_nil _ _ _ _ _,bl HB.out⟩
end Go.Proofs.YtlhkdbkjafiikaaGreat.Q
end
