/- WOw -/
import Derived.RangeFuncNested
import Derived.RangeFuncBound
import Derived.RangeFuncCalls
import Derived.RangeFuncLeaves
import Derived.Shelf.Abstract
import Derived.Shelf.RegionOpen
import Derived.WalkKit
import Derived.OwnWalkIn
import Derived.TacticsInMore
import Derived.LoopNIn
import Derived.LoopIn
import Derived.Maps.AppendAt
import Derived.Test.YtknefkdcokgpbaaGreatWData
import Derived.Test.YtknefkdcokgpbaaGreatAwx
import Derived.Test.YtknefkdcokgpbaaGreatWA4
import Derived.Test.YtknefkdcokgpbaaGreatWG
import Derived.Test.YtknefkdcokgpbaaGreatAvFX
import Derived.Test.YtknefkdcokgpbaaGreatAvDT
import Derived.Test.YtknefkdcokgpbaaGreatAvFO
import Derived.Test.YtknefkdcokgpbaaGreatWA2
set_option maxHeartbeats 8000000
set_option linter.unusedVariables false
set_option linter.unusedSimpArgs false
set_option maxRecDepth 100000
open List (length_map)
namespace Go.Proofs.YtknefkdcokgpbaaGreat
section
open Go.RowKit Go.Shelf
variable {d:Int}{es:List DEntry}{Bb Bd k n₀:Nat}{W W':World}
attribute [local go_sem] Oper.semAt_some
def jp(e:DEntry):Array Value:= #[.int .i64 e.index,.int .i64 e.time,.int .i64 e.client,.int .i64 e.seq,.int .i64 e.op.kind,.int .i64 e.op.a,.int .i64 e.op.b,.int .i64 e.op.c,.int .i64 e.op.d]
def gr(n₀ Bb Bd:Nat)(W W':World):Prop:=W.heap.size<=W'.heap.size/\∀k,(k<n₀\/k=Bb\/k=Bd)->W'.heap[k]? =W.heap[k]?
theorem gr.refl(W:World):gr n₀ Bb Bd W W:=⟨Nat.le_refl _,λ_ _=>rfl⟩
theorem gr.trans{A B C:World}(h:gr n₀ Bb Bd A B)(h':gr n₀ Bb Bd B C):gr n₀ Bb Bd A C:=⟨Nat.le_trans h.1 h'.1,λk hk=>(h'.2 k hk).trans (h.2 k hk)⟩
theorem gr.cell(h:gr n₀ Bb Bd W W'){p:Addr}(hk:p.block<n₀\/p.block=Bb\/p.block=Bd):W'.cell? p=W.cell? p:=by
 unfold World.cell?;rw[h.2 _ hk]
theorem gr.alloc(W:World)(o:Obj)(h0:n₀<=W.heap.size)(hb:Bb<W.heap.size)(hd:Bd<W.heap.size):gr n₀ Bb Bd W (W.alloc o):=
 ⟨by simp,λk hk=>Below.heap_alloc _ _ k ac⟩
def rN(n₀:Nat)(W:World)(A:Option Addr)(es:List DEntry):Prop:=es=[]\/∃b off,A=some ⟨b,off,none⟩/\b<n₀/\∀(k:Nat) (hk:k<es.length) (j:Nat) (u:Value),(jp es[k])[j]? =some u->W.cell? ⟨b,off+k*9+j,none⟩=some u
theorem rN.keep{A:Option Addr}(h:gr n₀ Bb Bd W W'):rN n₀ W A es->rN n₀ W' A es
 | .inl e=> .inl e
 | .inr ⟨b,off,e,hb,hc⟩=> .inr ⟨b,off,e,hb,λk hk j u hu=>(h.cell (p:=⟨b,off+k*9+j,none⟩) (.inl hb)).trans (hc k hk j u hu)⟩
def jf(d:Int)(es:List DEntry):List DEntry:=es.filter λe=>decide (d<=e.index)
theorem IK(hk:k<es.length)(h:d<=es[k].index):jf d (es.take (k+1))=jf d (es.take k)++[es[k]]:=by
 simp only[jf];rw[List.take_succ_eq_append_getElem hk,List.filter_append,List.filter_cons_of_pos (by simpa using h),List.filter_nil]
theorem RW(hk:k<es.length)(h:¬d<=es[k].index):jf d (es.take (k+1))=jf d (es.take k):=by
 simp only[jf];rw[List.take_succ_eq_append_getElem hk,List.filter_append,List.filter_cons_of_neg (by simpa using h),List.filter_nil,List.append_nil]
theorem P4(k:Nat):jf d (es.take k)<+:jf d es:=by
 have:jf d es=jf d (es.take k)++jf d (es.drop k):=by
  simp only[jf];rw[<-List.filter_append,List.take_append_drop]
 rw[this];exact List.prefix_append _ _
theorem Oq(F:Fence)(n:Nat)(hf:F.fn 471)(hro:F.round=none)(hn:1<=n)(l Bb Bd n₀:Nat)(A:Option Addr)(cap:Nat)(es:List DEntry)(d:Int)(hes:es.length<=20)(J Jx:List DEntry->World->Prop)
  (hY:∀pre x W,J pre W->pre.length<es.length->YieldAt F (n-1) Tryz.prog l #[.agg (jp x)] W λe W'=>
   (e= .returned (.bool true)/\J (pre++[x]) W'/\gr n₀ Bb Bd W W')\/(e= .returned (.bool false)/\Jx (pre++[x]) W'))
  (W:World) (hJ:AbidesFrom W.heap.size J) (h0n:n₀<=W.heap.size) (hBbl:Bb<W.heap.size) (hBdl:Bd<W.heap.size) (hBb:W.cell? ⟨Bb,2,none⟩=some (.slice A es.length cap)) (hBd:W.cell? ⟨Bd,0,none⟩=some (.int .i64 d)) (hA:rN n₀ W A es) (h0:J [] W):
  CallsIn F n Tryz.prog 471 #[.func (.yield l) #[] #[],.pointer (some ⟨Bb,0,none⟩),.pointer (some ⟨Bd,0,none⟩)] W λe W'=>(∃v,e= .returned v)/\
   ((∃ys,ys=jf d es/\J ys W')\/(∃pre,pre<+:jf d es/\Jx pre W')):=by
 refine callsIn_of_wp Tryz.func471 rfl hf ?_ hro;simp only[Tryz.ntmps471,List.size_toArray,List.length_cons,List.length_nil,Nat.reduceAdd,Nat.reduceSub,Array.replicate_succ,Array.replicate_zero,List.push_toArray,List.append_toArray,List.nil_append,List.cons_append];gi_wp2
 gi_loopw [9] (λi wr=>∃k:Nat,k<=es.length/\i= .int .i64 k/\J (jf d (es.take k)) wr/\gr n₀ Bb Bd W wr)
  (λi _=>es.length-(intOf i).toNat)
 case atStart=>exact⟨0,Nat.zero_le _,rfl,h0,gr.refl _⟩
 case round=>
  obtain⟨k,hk,rfl,hJs,hnx⟩:=hrel;by_cases hlt:k<es.length
  ·obtain⟨b,off,rfl,hb0,hc⟩:∃b off,A=some ⟨b,off,none⟩/\b<n₀/\∀(k:Nat) (hk:k<es.length) (j:Nat) (u:Value),(jp es[k])[j]? =some u->W.cell? ⟨b,off+k*9+j,none⟩=some u:=by
    rcases hA with rfl|h
    ·simp at hlt
    ·exact h
   have rd:∀(j:Nat) (u:Value),(jp es[k])[j]? =some u->wr.cell? ⟨b,off+k*9+j,none⟩=some u:=λj u hu=>(hnx.cell (p:=⟨b,off+k*9+j,none⟩) (.inl hb0)).trans (hc k hlt j u hu);have c0:wr.cell? ⟨b,off+k*9,none⟩=some (.int .i64 es[k].index):=rd 0 _ rfl;have c1:wr.cell? ⟨b,off+k*9+1,none⟩=some (.int .i64 es[k].time):=rd 1 _ rfl;have c2:wr.cell? ⟨b,off+k*9+2,none⟩=some (.int .i64 es[k].client):=rd 2 _ rfl;have c3:wr.cell? ⟨b,off+k*9+3,none⟩=some (.int .i64 es[k].seq):=rd 3 _ rfl;have c4:wr.cell? ⟨b,off+k*9+4,none⟩=some (.int .i64 es[k].op.kind):=rd 4 _ rfl;have c5:wr.cell? ⟨b,off+k*9+5,none⟩=some (.int .i64 es[k].op.a):=rd 5 _ rfl;have c6:wr.cell? ⟨b,off+k*9+6,none⟩=some (.int .i64 es[k].op.b):=rd 6 _ rfl;have c7:wr.cell? ⟨b,off+k*9+7,none⟩=some (.int .i64 es[k].op.c):=rd 7 _ rfl;have c8:wr.cell? ⟨b,off+k*9+8,none⟩=some (.int .i64 es[k].op.d):=rd 8 _ rfl;have cd:wr.cell? ⟨Bd,0,none⟩=some (.int .i64 d):=(hnx.cell (p:=⟨Bd,0,none⟩) (.inr (.inr rfl))).trans hBd;clear rd;have hsz:=hnx.1;have cd2:=((gr.alloc (n₀:=n₀) (Bb:=Bb) (Bd:=Bd) wr (.cells #[.int .i64 es[k].index,.int .i64 es[k].time,.int .i64 es[k].client,.int .i64 es[k].seq,.int .i64 es[k].op.kind,.int .i64 es[k].op.a,.int .i64 es[k].op.b,.int .i64 es[k].op.c,.int .i64 es[k].op.d] 332) ac ac ac).cell (p:=⟨Bd,0,none⟩) (.inr (.inr rfl))).trans cd;obtain⟨w2,hw2⟩:∃w2,wr.alloc (.cells #[.int .i64 es[k].index,.int .i64 es[k].time,.int .i64 es[k].client,.int .i64 es[k].seq,.int .i64 es[k].op.kind,.int .i64 es[k].op.a,.int .i64 es[k].op.b,.int .i64 es[k].op.c,.int .i64 es[k].op.d] 332)=w2:=⟨_,rfl⟩;have hJ2:J (jf d (es.take k)) w2:=hw2▸hJ _ _ _ none hJs (World.grownBy_alloc wr _ none) (λr e=>by cases e);have hk2:gr n₀ Bb Bd W w2:=hw2▸hnx.trans (gr.alloc wr _ ac ac ac);have hpl:(jf d (es.take k)).length<es.length:=Nat.lt_of_le_of_lt (List.length_filter_le ..) al;by_cases hge:d<=es[k].index
   ·obtain⟨fn,tmps,assign,body,hy,hR⟩:=hY _ es[k] w2 hJ2 hpl;simp only[jp]at hy;subst hw2;gi_wp2
    refine hR.mono ?_;rintro e W3 (⟨rfl,hJ3,hk3⟩|⟨rfl,hJx3⟩)
    ·gi_wp2
     go_roundw
     case rel=>exact⟨k+1,ac,by simp,by rw[IK hlt hge];exact hJ3,hk2.trans hk3⟩
     case measure=>simp[intOf];omega
    ·gi_wp2
     refine bodyPost_ret (results_none rfl _ _ _) rfl ?_;exact⟨⟨_,rfl⟩,.inr ⟨_,by rw[<-IK hlt hge];exact P4 _,hJx3⟩⟩
   ·subst hw2;gi_wp2
    refine⟨λ_ h=>(by cases h),?_⟩;gi_wp2
    go_roundw
    case rel=>exact⟨k+1,ac,by simp,by rw[RW (d:=d) hlt ac];exact hJ2,hk2⟩
    case measure=>simp[intOf];omega
  ·obtain rfl:k=es.length:=ac;gi_wp2
   go_end0
   exact⟨⟨_,rfl⟩,.inl ⟨_,by rw[List.take_length],hJs⟩⟩
end
section
open Go.Proofs.Tryz
open Go.ChangeShapes Go.WideShapes Go.RowKit
variable {a:Int}{n:Nat}{α:Type}
theorem eZ{b:Int}(h:a=b):AP.val (.one (dI a))=rI b:=by rw[h]
theorem aG.sz{E:bB}{S:bV}{f:FuncId}{args:List AV}{st:ASt}{K:AV->ASt->Prop}{p:AP1}{left:Int}(hc:aM E f [p,pI left] (rI (max (left-a) (-1))))(hps:aPs args (· =[p,pI left]))
    (h1:decide (left-a<0)=true->K (vI .i64 (-1)) st) (h2:decide (left-a<0)=false->K (vI .i64 (left-a)) st):aG E S f args st K:=by
  refine XZ hc hps ?_;cases h:decide (left-a<0)with
  |true=>
    have e:max (left-a) (-1)= -1:=by simp only[decide_eq_true_eq]at h;omega
    rw[e];exact h1 h
  |false=>
    have e:max (left-a) (-1)=left-a:=by simp only[decide_eq_false_iff_not]at h;omega
    rw[e];exact h2 h
def jn{α:Type}(f:α->Nat):List α->Nat
  |[]=>0
  |x::r=>1+f x+jn f r
theorem lz(f:α->Nat):∀l:List α,l.length<=jn f l
  |[]=>Nat.le_refl _
  |x::r=>by have:=lz f r;simp only[List.length_cons,jn];omega
theorem wG{f:α->Nat}:∀{l:List α} {y:α},y∈l->f y<=jn f l
  |x::r,y,h=>by
    rcases List.mem_cons.1 h with rfl|h
    · simp only[jn];omega
    · have:=wG (f:=f) h;simp only[jn];omega
theorem kY(f:α->Nat):∀(l:List α) (k:Nat),(l.length:Int)-(l.take k).length+jn f (l.take k)<=jn f l
  |[],k=>by simp[jn]
  |x::r,0=>by have:=lz f (x::r);simp[jn]at*;omega
  |x::r,k+1=>by have:=kY f r k;simp only[List.take_succ_cons,List.length_cons,jn]at*;omega
theorem tV(f:α->Nat):∀(l:List α) (k:Nat) (h:k<l.length),jn f (l.take (k+1))=jn f (l.take k)+1+f l[k]
  |x::r,0,h=>by simp[jn]
  |x::r,k+1,h=>by
    have:=tV f r k (by simpa using h);simp only[List.take_succ_cons,jn,List.getElem_cons_succ]at*
    omega
def DWrite.cnt(x:DWrite):Nat:=x.row.length
theorem ZA{x:DWrite}(h:x.cnt<=n):Yu n x:=by
  unfold DWrite.cnt at h;unfold Yu;exact ac
def DDisk.cnt(x:DDisk):Nat:=jn (λl=>l.length) x.kept+jn DWrite.cnt x.wait
theorem YR{x:DDisk}(h:x.cnt<=n):Yp n x:=by
  unfold DDisk.cnt at h;unfold Yp;exact⟨(by have:=lz (λl=>l.length) x.kept;omega),(λy hy=>(by have:y.length<=_:=wG (f:=(λl=>l.length)) hy;omega)),(by have:=lz DWrite.cnt x.wait;omega),(λy hy=>ZA (by have:=wG (f:=DWrite.cnt) hy;omega))⟩
def DTwo.cnt(x:DTwo):Nat:=DDisk.cnt x.a+DDisk.cnt x.b
theorem ZT{x:DTwo}(h:x.cnt<=n):YA n x:=by
  unfold DTwo.cnt at h;unfold YA;exact⟨(YR ac),(YR ac)⟩
def DHead.cnt(x:DHead):Nat:=x.seen.length
theorem Y8{x:DHead}(h:x.cnt<=n):Yo n x:=by
  unfold DHead.cnt at h;unfold Yo;exact ac
def DBook.cnt(x:DBook):Nat:=x.entries.length
theorem ZJ{x:DBook}(h:x.cnt<=n):Yx n x:=by
  unfold DBook.cnt at h;unfold Yx;exact ac
def DLogNode.cnt(x:DLogNode):Nat:=DTwo.cnt x.two+DHead.cnt x.head+DHead.cnt x.nxt+DBook.cnt x.book+x.seen.length+x.owe.length
theorem Zl{x:DLogNode}(h:x.cnt<=n):Yq n x:=by
  unfold DLogNode.cnt at h;unfold Yq;exact⟨(ZT ac),(Y8 ac),(Y8 ac),(ZJ ac),ac,ac⟩
def DState.cnt(x:DState):Nat:=x.pairs.length+x.jobs.length
theorem Zw{x:DState}(h:x.cnt<=n):Yt n x:=by
  unfold DState.cnt at h;unfold Yt;exact⟨ac,ac⟩
def DStore.cnt(x:DStore):Nat:=DDisk.cnt x.disk+DState.cnt x.state
theorem Zy{x:DStore}(h:x.cnt<=n):Yv n x:=by
  unfold DStore.cnt at h;unfold Yv;exact⟨(YR ac),(Zw ac)⟩
def DJobs.cnt(x:DJobs):Nat:=x.opens.length
theorem ZK{x:DJobs}(h:x.cnt<=n):YE n x:=by
  unfold DJobs.cnt at h;unfold YE;exact ac
def DView.cnt(x:DView):Nat:=DJobs.cnt x.jobs
theorem ZL{x:DView}(h:x.cnt<=n):YC n x:=by
  unfold DView.cnt at h;unfold YC;exact(ZK ac)
def DSched.cnt(x:DSched):Nat:=DView.cnt x.view
theorem Y2{x:DSched}(h:x.cnt<=n):Yr n x:=by
  unfold DSched.cnt at h;unfold Yr;exact(ZL ac)
def DClient.cnt(x:DClient):Nat:=x.todo.length+x.gots.length
theorem YY{x:DClient}(h:x.cnt<=n):Ys n x:=by
  unfold DClient.cnt at h;unfold Ys;exact⟨ac,ac⟩
def DMsg.cnt(x:DMsg):Nat:=x.row.length
theorem ZQ{x:DMsg}(h:x.cnt<=n):Yy n x:=by
  unfold DMsg.cnt at h;unfold Yy;exact ac
def DNet.cnt(x:DNet):Nat:=jn DMsg.cnt x.flight+x.cuts.length
theorem ZR{x:DNet}(h:x.cnt<=n):Yz n x:=by
  unfold DNet.cnt at h;unfold Yz;exact⟨(by have:=lz DMsg.cnt x.flight;omega),(λy hy=>ZQ (by have:=wG (f:=DMsg.cnt) hy;omega)),ac⟩
def DWorld.cnt(x:DWorld):Nat:=DLogNode.cnt x.log+DStore.cnt x.store+DSched.cnt x.left+DSched.cnt x.right+DClient.cnt x.ann+DClient.cnt x.bob+DNet.cnt x.net+x.clocks.length+x.up.length
theorem Zz{x:DWorld}(h:x.cnt<=n):Ym n x:=by
  unfold DWorld.cnt at h;unfold Ym;exact⟨(Zl ac),(Zy ac),(Y2 ac),(Y2 ac),(YY ac),(YY ac),(ZR ac),ac,ac⟩
theorem qI(l:(List Int))(left:Int)(h0:0<=left)(h1:left<=1048576)(hs:l.length<=9223372036854775807):aM av 16 [.one (.sl (l.map eI)),pI left] (rI (max (left-l.length) (-1))):=by
  refine pO func16 call16 ntmps16 results16 λS=>?_;conv=>whnf
  repeat'((first|refine awz ?_|refine X3 (n:=_-_) ak ak ?_|refine tB ?_ ?_|intro h)<;>conv=>whnf)
  all_goals
    refine eZ ?_;simp only[decide_eq_true_eq,decide_eq_false_iff_not,length_map]at*
    omega
theorem Ko(l:(List (List Int)))(left:Int)(h0:0<=left)(h1:left<=1048576)(hs:l.length<=9223372036854775807/\∀y∈l,y.length<=9223372036854775807):aM av 126 [.one (.sl (l.map bM)),pI left] (rI (max (left-jn (λl=>l.length) l) (-1))):=by
  refine pO func126 call126 ntmps126 results126 λS=>?_;conv=>whnf
  have hlen:=hs.1;have hcl:=lz (λl=>l.length) l;repeat'((first|refine awz ?_|refine X3 (n:=_-_) ak ak ?_|refine tB ?_ ?_|intro h)<;>conv=>whnf)
  · refine eZ ?_;simp only[decide_eq_true_eq,decide_eq_false_iff_not,length_map]at*
    omega
  refine X5 (λp:Nat×Int=>p.1<=l.length/\0<=p.2/\p.2=left-l.length+(p.1:Int)-jn (λl=>l.length) (l.take p.1)) (1::4::5::rg 12 14) (λp=>[(1,vI .i64 p.2),(5,vI .i64 (p.1:Int))]) (λ_=>[]) (λp=>l.length-p.1) (0,left-((l.map bM).length:Int)) ⟨by simp,ak,by simp[jn]⟩ ?_ X4 (λp hR=>?_)<;>(conv=>whnf)
  · exact whd
  · obtain⟨k,v⟩:=p;obtain⟨hk,hv,he⟩:=hR;simp only at hk hv he;have htk:=kY (λl=>l.length) l k;have htl:(l.take k).length=k:=al;repeat'((first|refine awz ?_|refine Yc ak (λhlt=>?_)|refine XZ (qI _ _ hv ak (hs.2 _ (List.getElem_mem hlt))) rfl ?_|refine X3 ak ak ?_|refine tB ?_ ?_|intro h)<;>conv=>whnf)
    all_goals first
      | (have hsu := tV (fun l => l.length) l k hlt
         have htk:=kY (λl=>l.length) l (k+1);have htl:(l.take (k+1)).length=k+1:=al;simp only[decide_eq_true_eq,decide_eq_false_iff_not,length_map]at*
         first
           |(refine eZ ?_;omega)
           |(refine bd.mk ⟨(k+1,max (v-((l[k].length:Nat):Int)) (-1)),⟨by simp only;omega,by simp only;omega,by simp only;omega⟩,by simp only;omega,?_,X4⟩;exact hds))
      | (have hkk : k = l.length := ak
         subst hkk;refine eZ ?_;rw[List.take_length]at he;omega)
theorem OX(x:DWrite)(left:Int)(h0:0<=left)(h1:left<=1048576)(hs:Yu 9223372036854775807 x):aM av 211 [.agg x.ds,pI left] (rI (max (left-x.cnt) (-1))):=by
  refine pO func211 call211 ntmps211 results211 λS=>?_;conv=>whnf
  repeat'(first|refine awz ?_|(refine aG.sz (qI x.row _ ak ak hs) rfl (λh=>?_) (λh=>?_)<;>(conv=>whnf))|fail)
  all_goals
    refine eZ ?_;first
      |omega
      |(simp only[decide_eq_true_eq,decide_eq_false_iff_not,DWrite.cnt]at* <;>omega)
theorem Mr(l:(List DWrite))(left:Int)(h0:0<=left)(h1:left<=1048576)(hs:l.length<=9223372036854775807/\∀y∈l,Yu 9223372036854775807 y):aM av 127 [.one (.sl (l.map DWrite.ds)),pI left] (rI (max (left-jn DWrite.cnt l) (-1))):=by
  refine pO func127 call127 ntmps127 results127 λS=>?_;conv=>whnf
  have hlen:=hs.1;have hcl:=lz DWrite.cnt l;repeat'((first|refine awz ?_|refine X3 (n:=_-_) ak ak ?_|refine tB ?_ ?_|intro h)<;>conv=>whnf)
  · refine eZ ?_;simp only[decide_eq_true_eq,decide_eq_false_iff_not,length_map]at*
    omega
  refine X5 (λp:Nat×Int=>p.1<=l.length/\0<=p.2/\p.2=left-l.length+(p.1:Int)-jn DWrite.cnt (l.take p.1)) (1::4::5::rg 12 14) (λp=>[(1,vI .i64 p.2),(5,vI .i64 (p.1:Int))]) (λ_=>[]) (λp=>l.length-p.1) (0,left-((l.map DWrite.ds).length:Int)) ⟨by simp,ak,by simp[jn]⟩ ?_ X4 (λp hR=>?_)<;>(conv=>whnf)
  · exact whd
  · obtain⟨k,v⟩:=p;obtain⟨hk,hv,he⟩:=hR;simp only at hk hv he;have htk:=kY DWrite.cnt l k;have htl:(l.take k).length=k:=al;repeat'((first|refine awz ?_|refine Yc ak (λhlt=>?_)|refine XZ (OX _ _ hv ak (hs.2 _ (List.getElem_mem hlt))) rfl ?_|refine X3 ak ak ?_|refine tB ?_ ?_|intro h)<;>conv=>whnf)
    all_goals first
      | (have hsu := tV DWrite.cnt l k hlt
         have htk:=kY DWrite.cnt l (k+1);have htl:(l.take (k+1)).length=k+1:=al;simp only[decide_eq_true_eq,decide_eq_false_iff_not,length_map]at*
         first
           |(refine eZ ?_;omega)
           |(refine bd.mk ⟨(k+1,max (v-((DWrite.cnt l[k]:Nat):Int)) (-1)),⟨by simp only;omega,by simp only;omega,by simp only;omega⟩,by simp only;omega,?_,X4⟩;exact hds))
      | (have hkk : k = l.length := ak
         subst hkk;refine eZ ?_;rw[List.take_length]at he;omega)
theorem Dq(x:DDisk)(left:Int)(h0:0<=left)(h1:left<=1048576)(hs:Yp 9223372036854775807 x):aM av 55 [.agg x.ds,pI left] (rI (max (left-x.cnt) (-1))):=by
  refine pO func55 call55 ntmps55 results55 λS=>?_;conv=>whnf
  repeat'(first|refine awz ?_|(refine aG.sz (Ko x.kept _ ak ak ⟨hs.1,hs.2.1⟩) rfl (λh=>?_) (λh=>?_)<;>(conv=>whnf))|(refine aG.sz (Mr x.wait _ ak ak ⟨hs.2.2.1,hs.2.2.2⟩) rfl (λh=>?_) (λh=>?_)<;>(conv=>whnf))|fail)
  all_goals
    refine eZ ?_;first
      |omega
      |(simp only[decide_eq_true_eq,decide_eq_false_iff_not,DDisk.cnt]at* <;>omega)
theorem SR(x:DTwo)(left:Int)(h0:0<=left)(h1:left<=1048576)(hs:YA 9223372036854775807 x):aM av 50 [.agg x.ds,pI left] (rI (max (left-x.cnt) (-1))):=by
  refine pO func50 call50 ntmps50 results50 λS=>?_;conv=>whnf
  repeat'(first|refine awz ?_|(refine aG.sz (Dq x.a _ ak ak hs.1) rfl (λh=>?_) (λh=>?_)<;>(conv=>whnf))|(refine aG.sz (Dq x.b _ ak ak hs.2) rfl (λh=>?_) (λh=>?_)<;>(conv=>whnf))|fail)
  all_goals
    refine eZ ?_;first
      |omega
      |(simp only[decide_eq_true_eq,decide_eq_false_iff_not,DTwo.cnt]at* <;>omega)
theorem F0(l:(List DMark))(left:Int)(h0:0<=left)(h1:left<=1048576)(hs:l.length<=9223372036854775807):aM av 53 [.one (.sl (l.map DMark.ds)),pI left] (rI (max (left-l.length) (-1))):=by
  refine pO func53 call53 ntmps53 results53 λS=>?_;conv=>whnf
  repeat'((first|refine awz ?_|refine X3 (n:=_-_) ak ak ?_|refine tB ?_ ?_|intro h)<;>conv=>whnf)
  all_goals
    refine eZ ?_;simp only[decide_eq_true_eq,decide_eq_false_iff_not,length_map]at*
    omega
theorem Kn(x:DHead)(left:Int)(h0:0<=left)(h1:left<=1048576)(hs:Yo 9223372036854775807 x):aM av 51 [.agg x.ds,pI left] (rI (max (left-x.cnt) (-1))):=by
  refine pO func51 call51 ntmps51 results51 λS=>?_;conv=>whnf
  repeat'(first|refine awz ?_|(refine aG.sz (F0 x.seen _ ak ak hs) rfl (λh=>?_) (λh=>?_)<;>(conv=>whnf))|fail)
  all_goals
    refine eZ ?_;first
      |omega
      |(simp only[decide_eq_true_eq,decide_eq_false_iff_not,DHead.cnt]at* <;>omega)
theorem Mq(l:(List DEntry))(left:Int)(h0:0<=left)(h1:left<=1048576)(hs:l.length<=9223372036854775807):aM av 125 [.one (.sl (l.map DEntry.ds)),pI left] (rI (max (left-l.length) (-1))):=by
  refine pO func125 call125 ntmps125 results125 λS=>?_;conv=>whnf
  repeat'((first|refine awz ?_|refine X3 (n:=_-_) ak ak ?_|refine tB ?_ ?_|intro h)<;>conv=>whnf)
  all_goals
    refine eZ ?_;simp only[decide_eq_true_eq,decide_eq_false_iff_not,length_map]at*
    omega
theorem Rf(x:DBook)(left:Int)(h0:0<=left)(h1:left<=1048576)(hs:Yx 9223372036854775807 x):aM av 52 [.agg x.ds,pI left] (rI (max (left-x.cnt) (-1))):=by
  refine pO func52 call52 ntmps52 results52 λS=>?_;conv=>whnf
  repeat'(first|refine awz ?_|(refine aG.sz (Mq x.entries _ ak ak hs) rfl (λh=>?_) (λh=>?_)<;>(conv=>whnf))|fail)
  all_goals
    refine eZ ?_;first
      |omega
      |(simp only[decide_eq_true_eq,decide_eq_false_iff_not,DBook.cnt]at* <;>omega)
theorem Re(l:(List DAck))(left:Int)(h0:0<=left)(h1:left<=1048576)(hs:l.length<=9223372036854775807):aM av 54 [.one (.sl (l.map DAck.ds)),pI left] (rI (max (left-l.length) (-1))):=by
  refine pO func54 call54 ntmps54 results54 λS=>?_;conv=>whnf
  repeat'((first|refine awz ?_|refine X3 (n:=_-_) ak ak ?_|refine tB ?_ ?_|intro h)<;>conv=>whnf)
  all_goals
    refine eZ ?_;simp only[decide_eq_true_eq,decide_eq_false_iff_not,length_map]at*
    omega
theorem Kq(x:DLogNode)(left:Int)(h0:0<=left)(h1:left<=1048576)(hs:Yq 9223372036854775807 x):aM av 11 [.agg x.ds,pI left] (rI (max (left-x.cnt) (-1))):=by
  refine pO func11 call11 ntmps11 results11 λS=>?_;conv=>whnf
  repeat'(first|refine awz ?_|(refine aG.sz (SR x.two _ ak ak hs.1) rfl (λh=>?_) (λh=>?_)<;>(conv=>whnf))|(refine aG.sz (Kn x.head _ ak ak hs.2.1) rfl (λh=>?_) (λh=>?_)<;>(conv=>whnf))|(refine aG.sz (Kn x.nxt _ ak ak hs.2.2.1) rfl (λh=>?_) (λh=>?_)<;>(conv=>whnf))|(refine aG.sz (Rf x.book _ ak ak hs.2.2.2.1) rfl (λh=>?_) (λh=>?_)<;>(conv=>whnf))|(refine aG.sz (F0 x.seen _ ak ak hs.2.2.2.2.1) rfl (λh=>?_) (λh=>?_)<;>(conv=>whnf))|(refine aG.sz (Re x.owe _ ak ak hs.2.2.2.2.2) rfl (λh=>?_) (λh=>?_)<;>(conv=>whnf))|fail)
  all_goals
    refine eZ ?_;first
      |omega
      |(simp only[decide_eq_true_eq,decide_eq_false_iff_not,DLogNode.cnt]at* <;>omega)
theorem OT(l:(List DPair))(left:Int)(h0:0<=left)(h1:left<=1048576)(hs:l.length<=9223372036854775807):aM av 128 [.one (.sl (l.map DPair.ds)),pI left] (rI (max (left-l.length) (-1))):=by
  refine pO func128 call128 ntmps128 results128 λS=>?_;conv=>whnf
  repeat'((first|refine awz ?_|refine X3 (n:=_-_) ak ak ?_|refine tB ?_ ?_|intro h)<;>conv=>whnf)
  all_goals
    refine eZ ?_;simp only[decide_eq_true_eq,decide_eq_false_iff_not,length_map]at*
    omega
theorem Ri(l:(List DJob))(left:Int)(h0:0<=left)(h1:left<=1048576)(hs:l.length<=9223372036854775807):aM av 129 [.one (.sl (l.map DJob.ds)),pI left] (rI (max (left-l.length) (-1))):=by
  refine pO func129 call129 ntmps129 results129 λS=>?_;conv=>whnf
  repeat'((first|refine awz ?_|refine X3 (n:=_-_) ak ak ?_|refine tB ?_ ?_|intro h)<;>conv=>whnf)
  all_goals
    refine eZ ?_;simp only[decide_eq_true_eq,decide_eq_false_iff_not,length_map]at*
    omega
theorem OU(x:DState)(left:Int)(h0:0<=left)(h1:left<=1048576)(hs:Yt 9223372036854775807 x):aM av 56 [.agg x.ds,pI left] (rI (max (left-x.cnt) (-1))):=by
  refine pO func56 call56 ntmps56 results56 λS=>?_;conv=>whnf
  repeat'(first|refine awz ?_|(refine aG.sz (OT x.pairs _ ak ak hs.1) rfl (λh=>?_) (λh=>?_)<;>(conv=>whnf))|(refine aG.sz (Ri x.jobs _ ak ak hs.2) rfl (λh=>?_) (λh=>?_)<;>(conv=>whnf))|fail)
  all_goals
    refine eZ ?_;first
      |omega
      |(simp only[decide_eq_true_eq,decide_eq_false_iff_not,DState.cnt]at* <;>omega)
theorem OV(x:DStore)(left:Int)(h0:0<=left)(h1:left<=1048576)(hs:Yv 9223372036854775807 x):aM av 12 [.agg x.ds,pI left] (rI (max (left-x.cnt) (-1))):=by
  refine pO func12 call12 ntmps12 results12 λS=>?_;conv=>whnf
  repeat'(first|refine awz ?_|(refine aG.sz (Dq x.disk _ ak ak hs.1) rfl (λh=>?_) (λh=>?_)<;>(conv=>whnf))|(refine aG.sz (OU x.state _ ak ak hs.2) rfl (λh=>?_) (λh=>?_)<;>(conv=>whnf))|fail)
  all_goals
    refine eZ ?_;first
      |omega
      |(simp only[decide_eq_true_eq,decide_eq_false_iff_not,DStore.cnt]at* <;>omega)
theorem Rg(l:(List DDue))(left:Int)(h0:0<=left)(h1:left<=1048576)(hs:l.length<=9223372036854775807):aM av 212 [.one (.sl (l.map DDue.ds)),pI left] (rI (max (left-l.length) (-1))):=by
  refine pO func212 call212 ntmps212 results212 λS=>?_;conv=>whnf
  repeat'((first|refine awz ?_|refine X3 (n:=_-_) ak ak ?_|refine tB ?_ ?_|intro h)<;>conv=>whnf)
  all_goals
    refine eZ ?_;simp only[decide_eq_true_eq,decide_eq_false_iff_not,length_map]at*
    omega
theorem Rj(x:DJobs)(left:Int)(h0:0<=left)(h1:left<=1048576)(hs:YE 9223372036854775807 x):aM av 130 [.agg x.ds,pI left] (rI (max (left-x.cnt) (-1))):=by
  refine pO func130 call130 ntmps130 results130 λS=>?_;conv=>whnf
  repeat'(first|refine awz ?_|(refine aG.sz (Rg x.opens _ ak ak hs) rfl (λh=>?_) (λh=>?_)<;>(conv=>whnf))|fail)
  all_goals
    refine eZ ?_;first
      |omega
      |(simp only[decide_eq_true_eq,decide_eq_false_iff_not,DJobs.cnt]at* <;>omega)
theorem Rl(x:DView)(left:Int)(h0:0<=left)(h1:left<=1048576)(hs:YC 9223372036854775807 x):aM av 57 [.agg x.ds,pI left] (rI (max (left-x.cnt) (-1))):=by
  refine pO func57 call57 ntmps57 results57 λS=>?_;conv=>whnf
  repeat'(first|refine awz ?_|(refine aG.sz (Rj x.jobs _ ak ak hs) rfl (λh=>?_) (λh=>?_)<;>(conv=>whnf))|fail)
  all_goals
    refine eZ ?_;first
      |omega
      |(simp only[decide_eq_true_eq,decide_eq_false_iff_not,DView.cnt]at* <;>omega)
theorem Ga(x:DSched)(left:Int)(h0:0<=left)(h1:left<=1048576)(hs:Yr 9223372036854775807 x):aM av 13 [.agg x.ds,pI left] (rI (max (left-x.cnt) (-1))):=by
  refine pO func13 call13 ntmps13 results13 λS=>?_;conv=>whnf
  repeat'(first|refine awz ?_|(refine aG.sz (Rl x.view _ ak ak hs) rfl (λh=>?_) (λh=>?_)<;>(conv=>whnf))|fail)
  all_goals
    refine eZ ?_;first
      |omega
      |(simp only[decide_eq_true_eq,decide_eq_false_iff_not,DSched.cnt]at* <;>omega)
theorem OW(l:(List DWant))(left:Int)(h0:0<=left)(h1:left<=1048576)(hs:l.length<=9223372036854775807):aM av 58 [.one (.sl (l.map DWant.ds)),pI left] (rI (max (left-l.length) (-1))):=by
  refine pO func58 call58 ntmps58 results58 λS=>?_;conv=>whnf
  repeat'((first|refine awz ?_|refine X3 (n:=_-_) ak ak ?_|refine tB ?_ ?_|intro h)<;>conv=>whnf)
  all_goals
    refine eZ ?_;simp only[decide_eq_true_eq,decide_eq_false_iff_not,length_map]at*
    omega
theorem Rh(l:(List DGot))(left:Int)(h0:0<=left)(h1:left<=1048576)(hs:l.length<=9223372036854775807):aM av 59 [.one (.sl (l.map DGot.ds)),pI left] (rI (max (left-l.length) (-1))):=by
  refine pO func59 call59 ntmps59 results59 λS=>?_;conv=>whnf
  repeat'((first|refine awz ?_|refine X3 (n:=_-_) ak ak ?_|refine tB ?_ ?_|intro h)<;>conv=>whnf)
  all_goals
    refine eZ ?_;simp only[decide_eq_true_eq,decide_eq_false_iff_not,length_map]at*
    omega
theorem Dp(x:DClient)(left:Int)(h0:0<=left)(h1:left<=1048576)(hs:Ys 9223372036854775807 x):aM av 14 [.agg x.ds,pI left] (rI (max (left-x.cnt) (-1))):=by
  refine pO func14 call14 ntmps14 results14 λS=>?_;conv=>whnf
  repeat'(first|refine awz ?_|(refine aG.sz (OW x.todo _ ak ak hs.1) rfl (λh=>?_) (λh=>?_)<;>(conv=>whnf))|(refine aG.sz (Rh x.gots _ ak ak hs.2) rfl (λh=>?_) (λh=>?_)<;>(conv=>whnf))|fail)
  all_goals
    refine eZ ?_;first
      |omega
      |(simp only[decide_eq_true_eq,decide_eq_false_iff_not,DClient.cnt]at* <;>omega)
theorem SP(x:DMsg)(left:Int)(h0:0<=left)(h1:left<=1048576)(hs:Yy 9223372036854775807 x):aM av 131 [.agg x.ds,pI left] (rI (max (left-x.cnt) (-1))):=by
  refine pO func131 call131 ntmps131 results131 λS=>?_;conv=>whnf
  repeat'(first|refine awz ?_|(refine aG.sz (qI x.row _ ak ak hs) rfl (λh=>?_) (λh=>?_)<;>(conv=>whnf))|fail)
  all_goals
    refine eZ ?_;first
      |omega
      |(simp only[decide_eq_true_eq,decide_eq_false_iff_not,DMsg.cnt]at* <;>omega)
theorem Rk(l:(List DMsg))(left:Int)(h0:0<=left)(h1:left<=1048576)(hs:l.length<=9223372036854775807/\∀y∈l,Yy 9223372036854775807 y):aM av 60 [.one (.sl (l.map DMsg.ds)),pI left] (rI (max (left-jn DMsg.cnt l) (-1))):=by
  refine pO func60 call60 ntmps60 results60 λS=>?_;conv=>whnf
  have hlen:=hs.1;have hcl:=lz DMsg.cnt l;repeat'((first|refine awz ?_|refine X3 (n:=_-_) ak ak ?_|refine tB ?_ ?_|intro h)<;>conv=>whnf)
  · refine eZ ?_;simp only[decide_eq_true_eq,decide_eq_false_iff_not,length_map]at*
    omega
  refine X5 (λp:Nat×Int=>p.1<=l.length/\0<=p.2/\p.2=left-l.length+(p.1:Int)-jn DMsg.cnt (l.take p.1)) (1::4::5::rg 12 14) (λp=>[(1,vI .i64 p.2),(5,vI .i64 (p.1:Int))]) (λ_=>[]) (λp=>l.length-p.1) (0,left-((l.map DMsg.ds).length:Int)) ⟨by simp,ak,by simp[jn]⟩ ?_ X4 (λp hR=>?_)<;>(conv=>whnf)
  · exact whd
  · obtain⟨k,v⟩:=p;obtain⟨hk,hv,he⟩:=hR;simp only at hk hv he;have htk:=kY DMsg.cnt l k;have htl:(l.take k).length=k:=al;repeat'((first|refine awz ?_|refine Yc ak (λhlt=>?_)|refine XZ (SP _ _ hv ak (hs.2 _ (List.getElem_mem hlt))) rfl ?_|refine X3 ak ak ?_|refine tB ?_ ?_|intro h)<;>conv=>whnf)
    all_goals first
      | (have hsu := tV DMsg.cnt l k hlt
         have htk:=kY DMsg.cnt l (k+1);have htl:(l.take (k+1)).length=k+1:=al;simp only[decide_eq_true_eq,decide_eq_false_iff_not,length_map]at*
         first
           |(refine eZ ?_;omega)
           |(refine bd.mk ⟨(k+1,max (v-((DMsg.cnt l[k]:Nat):Int)) (-1)),⟨by simp only;omega,by simp only;omega,by simp only;omega⟩,by simp only;omega,?_,X4⟩;exact hds))
      | (have hkk : k = l.length := ak
         subst hkk;refine eZ ?_;rw[List.take_length]at he;omega)
theorem OS(l:(List DLink))(left:Int)(h0:0<=left)(h1:left<=1048576)(hs:l.length<=9223372036854775807):aM av 61 [.one (.sl (l.map DLink.ds)),pI left] (rI (max (left-l.length) (-1))):=by
  refine pO func61 call61 ntmps61 results61 λS=>?_;conv=>whnf
  repeat'((first|refine awz ?_|refine X3 (n:=_-_) ak ak ?_|refine tB ?_ ?_|intro h)<;>conv=>whnf)
  all_goals
    refine eZ ?_;simp only[decide_eq_true_eq,decide_eq_false_iff_not,length_map]at*
    omega
theorem SQ(x:DNet)(left:Int)(h0:0<=left)(h1:left<=1048576)(hs:Yz 9223372036854775807 x):aM av 15 [.agg x.ds,pI left] (rI (max (left-x.cnt) (-1))):=by
  refine pO func15 call15 ntmps15 results15 λS=>?_;conv=>whnf
  repeat'(first|refine awz ?_|(refine aG.sz (Rk x.flight _ ak ak ⟨hs.1,hs.2.1⟩) rfl (λh=>?_) (λh=>?_)<;>(conv=>whnf))|(refine aG.sz (OS x.cuts _ ak ak hs.2.2) rfl (λh=>?_) (λh=>?_)<;>(conv=>whnf))|fail)
  all_goals
    refine eZ ?_;first
      |omega
      |(simp only[decide_eq_true_eq,decide_eq_false_iff_not,DNet.cnt]at* <;>omega)
theorem OR(l:(List Bool))(left:Int)(h0:0<=left)(h1:left<=1048576)(hs:l.length<=9223372036854775807):aM av 17 [.one (.sl (l.map eB)),pI left] (rI (max (left-l.length) (-1))):=by
  refine pO func17 call17 ntmps17 results17 λS=>?_;conv=>whnf
  repeat'((first|refine awz ?_|refine X3 (n:=_-_) ak ak ?_|refine tB ?_ ?_|intro h)<;>conv=>whnf)
  all_goals
    refine eZ ?_;simp only[decide_eq_true_eq,decide_eq_false_iff_not,length_map]at*
    omega
theorem Gb(x:DWorld)(left:Int)(h0:0<=left)(h1:left<=1048576)(hs:Ym 9223372036854775807 x):aM av 4 [.agg x.ds,pI left] (rI (max (left-x.cnt) (-1))):=by
  refine pO func4 call4 ntmps4 results4 λS=>?_;conv=>whnf
  repeat'(first|refine awz ?_|(refine aG.sz (Kq x.log _ ak ak hs.1) rfl (λh=>?_) (λh=>?_)<;>(conv=>whnf))|(refine aG.sz (OV x.store _ ak ak hs.2.1) rfl (λh=>?_) (λh=>?_)<;>(conv=>whnf))|(refine aG.sz (Ga x.left _ ak ak hs.2.2.1) rfl (λh=>?_) (λh=>?_)<;>(conv=>whnf))|(refine aG.sz (Ga x.right _ ak ak hs.2.2.2.1) rfl (λh=>?_) (λh=>?_)<;>(conv=>whnf))|(refine aG.sz (Dp x.ann _ ak ak hs.2.2.2.2.1) rfl (λh=>?_) (λh=>?_)<;>(conv=>whnf))|(refine aG.sz (Dp x.bob _ ak ak hs.2.2.2.2.2.1) rfl (λh=>?_) (λh=>?_)<;>(conv=>whnf))|(refine aG.sz (SQ x.net _ ak ak hs.2.2.2.2.2.2.1) rfl (λh=>?_) (λh=>?_)<;>(conv=>whnf))|(refine aG.sz (qI x.clocks _ ak ak hs.2.2.2.2.2.2.2.1) rfl (λh=>?_) (λh=>?_)<;>(conv=>whnf))|(refine aG.sz (OR x.up _ ak ak hs.2.2.2.2.2.2.2.2) rfl (λh=>?_) (λh=>?_)<;>(conv=>whnf))|fail)
  all_goals
    refine eZ ?_;first
      |omega
      |(simp only[decide_eq_true_eq,decide_eq_false_iff_not,DWorld.cnt]at* <;>omega)
end
open Go.Proofs.Tryz
open Go.ChangeShapes Go.WideShapes Go.RowKit
theorem CX(l:List Int)(h:cE l=true):aM av 465 [.one (.sl (l.map eI))] (.val (pI (lT l))):=by
 have hn:(!cE l)=false:=by rw[h];rfl
 obtain⟨hl,hx⟩:=gZ h;refine pO func465 call465 ntmps465 results465 λS=>?_;conv=>whnf
 repeat'(first|refine awz ?_|(refine cP (dJ l) ?_;conv=>whnf)|fail)
 refine X5 (λk:Nat=>k<=l.length) (3::4::rg 8 15) (λk=>[(3,vI .i64 (lT (l.take k))),(4,vI .i64 (k:Int))]) (λk=>[]) (λk=>l.length-k) 0 ac ?_ X4 (λk hR=>?_)<;>(conv=>whnf)
 ·exact whd
 ·by_cases hlt:k<l.length
  ·have hr:=pE hx k hR;have hr2:=pE hx (k+1) hlt;have hxk:=hx _ (List.getElem_mem hlt);have hs:=FZ hlt;have hc:decide ((k:Int)<((l.map eI).length:Int))=true:=al;unfold qH at hs;repeat'((first|refine awz ?_|refine Yg hlt ?_|refine And.intro ah ?_|refine X3 ac ac ?_|fail)<;>conv=>whnf)
   refine bd.mk ⟨k+1,hlt,ac,?_,X4⟩;rw[hs];exact hds
  ·have e:k=l.length:=ac;subst e;have hc:decide ((l.length:Int)<((l.map eI).length:Int))=false:=aj;rw[List.take_length];repeat'(first|refine awz ?_|exact rr|fail)
theorem OF(l:List Int)(hl:l.length<=1048576):d5 av 242 [.one (.d (.sl (l.map eI)))] [] [(3,.row 2 1 (l.map eI))] [] (.val (.one (.own 3))):=by
 refine cR aN func242 rfl call242 ntmps242 (aaK results242) rfl λS pv=>?_;conv=>whnf
 repeat'((first|refine awz ?_|refine aI (by first|(intro y hy;obtain⟨a,_,rfl⟩:=List.mem_map.1 hy;rfl)|(simp;done)) ?_|refine aJ am ?_|exact rr|fail)<;>conv=>whnf)
theorem ez(l:List Int)(hl:l.length<=1048576):aM av 242 [.one (.sl (l.map eI))] (.val (.one (.sl (l.map eI)))):=by
 refine pO func242 call242 ntmps242 results242 λS=>?_;conv=>whnf
 repeat'((first|refine awz ?_|refine aI (by first|(intro y hy;obtain⟨a,_,rfl⟩:=List.mem_map.1 hy;rfl)|(simp;done)) ?_|refine aJ am ?_|fail)<;>conv=>whnf)
 rfl
theorem CY(l:List Int)(h:cE l=true)(h48:l.length<48):aM av 415 [.one (.sl (l.map eI))] (.val (.one (.sl ((l++[lT l]).map eI)))):=by
 have hn:(!cE l)=false:=by rw[h];rfl
 have hc:decide ((48:Int)<=((l.map eI).length:Int))=false:=al;refine pO func415 call415 ntmps415 results415 λS=>?_;conv=>whnf
 repeat'((first|refine awz ?_|refine cP (dJ l) ?_|refine cP (CX l h) ?_|refine Yb (OF l ac) [(3,903)] rfl rfl ?_|refine aJ am ?_|fail)<;>conv=>whnf)
 all_goals(simp;rfl)
def r8:List (List Nat):=bZ [0,1,0,3,0,324,6,7,8,33346,0x289207185103081,0xa2481c61440c204a28b]
def r9:List (List Nat):=bZ [0,1,0,3,0,324,6,7,0,9,0,714,12,13,14,968,16,62530,0x49140f38d30b289207185103081,0x124503ce34c2ca2481c61440c2052493]
def ji:List (List Nat):=bZ [0,1,0,0,4,323,6,20930,35671935824001,0x81c61440c2048209]
def q5:List (List Nat):=bZ [0,1,0,3,0,5,389,138580611463,35671935565890]
def kP:List (List Nat):=fB 7 [2178,2179,2114,2123,80,161,404]
theorem yp(x:DDisk)(hs:Yp 1048576 x):d5 av 330 [.agg (x.ds.map .d)] [] [(23,.row 62 1 (x.kept.map bM)),(49,.row 336 2 (x.wait.map DWrite.ds))] [] (.val (.agg [.own 23,.own 49])):=by
 obtain⟨h1,h2,h3,h4⟩:=(show x.kept.length<=1048576/\(∀y∈x.kept,y.length<=1048576)/\x.wait.length<=1048576/\(∀y∈x.wait,Yu 1048576 y)from hs);refine cR aN func330 rfl call330 ntmps330 (aaK results330) rfl λS pv=>?_;conv=>whnf
 repeat'(first|refine awz ?_|fail)
 refine YG 3 0 23 62 1 ah ?_;conv=>whnf
 repeat'(first|refine awz ?_|fail)
 refine X5 (λk:Nat=>k<=x.kept.length) (4::rg 7 18) (λk=>[(4,vI .i64 (k:Int))]) (λk=>[(9999,.frame (gT []) pv),(1,.cells 69 (x.ds.map .d)),(2,.cells 69 [.nil,.nil]),(3,.cells 69 [.own 23,.nil]),(23,.row 62 1 ((x.kept.take k).map bM))]) (λk=>x.kept.length-k) 0 (Nat.zero_le _) ?_ sbW (λk hk=>?_)<;>(conv=>whnf)
 ·exact whd
 ·repeat'(first|refine awz ?_|refine tW ?_ ?_|(intro h;conv=>whnf))
  ·have hlt:k<x.kept.length:=ari;have hy:=h2 _ (List.getElem_mem hlt);(refine X7 aN 5 (tkc [0,2,3,4,5,6] (.two 1 (onc [7,8,9] (.take 10 (.one 11 .done))) 7 (.two 1 (.one 8 (.one 9 (.take 10 (.one 11 .done)))) 8 (.one 1 (.one 9 (.take 10 (.one 11 .done))))))) [(1,9980)] r8 ae ae ae ae (λRz=>?_);(conv=>whnf);intro bp0 up0;(conv=>whnf))
   repeat'((first|refine awz ?_|refine Yg hlt ?_|refine cP (ez x.kept[k] hy) ?_|refine aJ am ?_|refine X3 ari ari ?_|refine tW ?_ ?_|fail)<;>conv=>whnf)
   all_goals
    refine bd.mk ⟨k+1,hlt,ac,?_,X0 rfl (X0 rfl (X0 rfl (X0 rfl (X0 (congrArg some (congrArg (AO.row 62 1) (dn bM hlt).symm)) X4))))⟩;exact hds
  ·have e:k=x.kept.length:=ari;subst e;rw[List.take_length];refine YG 3 1 49 336 2 ah ?_;conv=>whnf
   repeat'(first|refine awz ?_|fail)
   refine X5 (λk:Nat=>k<=x.wait.length) (5::rg 25 26) (λk=>[(5,vI .i64 (k:Int))]) (λk=>[(9999,.frame (gT []) pv),(1,.cells 69 (x.ds.map .d)),(2,.cells 69 [.nil,.nil]),(3,.cells 69 [.own 23,.own 49]),(23,.row 62 1 (x.kept.map bM)),(49,.row 336 2 ((x.wait.take k).map DWrite.ds))]) (λk=>x.wait.length-k) 0 (Nat.zero_le _) ?_ sbW (λj hj=>?_)<;>(conv=>whnf)
   ·exact whd
   ·repeat'(first|refine awz ?_|refine tW ?_ ?_|(intro h;conv=>whnf))
    ·have hlt:j<x.wait.length:=ari;have hy:x.wait[j].row.length<=1048576:=h4 _ (List.getElem_mem hlt);(refine X7 aN 9 (tkc [0,2,3,4,5,6,7,8,9,10,11,12,13] (.two 1 (onc [14,15,16,17] (.take 18 (.one 19 .done))) 14 (.two 1 (onc [15,16,17] (.take 18 (.one 19 .done))) 15 (.two 1 (.one 16 (.one 17 (.take 18 (.one 19 .done)))) 16 (.one 1 (.one 17 (.take 18 (.one 19 .done)))))))) [(1,9980)] r9 ae ae ae ae (λRz=>?_);(conv=>whnf);intro bp0 up0;(conv=>whnf))
     repeat'((first|refine awz ?_|refine Yg hlt ?_|refine cP (ez x.wait[j].row hy) ?_|refine aJ am ?_|refine X3 ari ari ?_|refine tW ?_ ?_|fail)<;>conv=>whnf)
     all_goals
      refine bd.mk ⟨j+1,hlt,ac,?_,X0 rfl (X0 rfl (X0 rfl (X0 rfl (X0 rfl (X0 (congrArg some (congrArg (AO.row 336 2) (dn DWrite.ds hlt).symm)) X4)))))⟩;exact hds
    ·have e:j=x.wait.length:=ari;subst e;rw[List.take_length];repeat'(first|refine awz ?_|exact rr|fail)
theorem Q6(d:DDisk)(a:Int)(r:List Int)(h:cG d=true)(hw:d.wait.length<60)(ha:aK a 0 ((d.kept.length:Int)-1)=true)(hr:cE r=true):aM av 340 [.agg d.ds,pI a,.one (.sl (r.map eI))] (.tup [.agg (nG d a r).ds,.one (dB true)]):=by
 have hs:=dT h;have h40:=(dc h).2.1;have h48:=dM hr;have n1:(!cG d)=false:=by rw[h];rfl
 have n2:(!aK a 0 ((d.kept.length:Int)-1))=false:=by rw[ha];rfl
 have n3:(!cE r)=false:=by rw[hr];rfl
 have n4:decide ((60:Int)<=((d.wait.map DWrite.ds).length:Int))=false:=al;refine pO func340 call340 ntmps340 results340 λS=>?_;conv=>whnf
 repeat'((first|refine awz ?_|refine cP (em d) ?_|refine cP (lS d a h40) ?_|refine cP (dJ r) ?_|refine Yb (yp d hs) [(23,923),(49,949)] rfl rfl ?_|fail)<;>conv=>whnf)
 (refine X7 aN 6 (tkc [0,2,3] (.two 1 (onc [4,5,6,7] (.take 8 (.one 9 .done))) 4 (.two 1 (onc [5,6,7] (.take 8 (.one 9 .done))) 5 (.two 1 (.one 6 (.one 7 (.take 8 (.one 9 .done)))) 6 (.one 1 (.one 7 (.take 8 (.one 9 .done)))))))) [] ji ae ae ae ae (λRz=>?_);(conv=>whnf))
 repeat'((first|refine awz ?_|refine cP (ez r ac) ?_|refine aJ am ?_|refine tW ?_ ?_|fail)<;>conv=>whnf)
 all_goals(simp[nG,DDisk.ds,DWrite.ds];done)
theorem OH(d:DDisk)(h:cG d=true):d5 av 336 [.agg (d.ds.map .d),.one (.own 1001),.one (.d (dB true))] [(1001,.row 2 1 [])] [(1001,.row 2 1 [])] [] (.val (.agg [.d (.sl ((lE d).kept.map bM)),.nil])):=by
 have hs:=dT h;obtain⟨h1,h2,h3,h4,h5⟩:=dc h;refine cR aN func336 rfl call336 ntmps336 (aaK results336) rfl λS pv=>?_;conv=>whnf
 repeat'(first|refine awz ?_|(refine Yb (yp d hs) [(23,923),(49,949)] rfl rfl ?_;conv=>whnf)|fail)
 refine X5 (λk:Nat=>k<=d.wait.length) (8::9::10::rg 15 51) (λk=>[(8,vI .i64 (k:Int))]) (λk=>[(9999,.frame (gT []) pv),(1001,.row 2 1 []),(3,.cells 69 (d.ds.map .d)),(6,.cells 69 [.nil,.nil]),(7,.cells 69 [.own 923,.nil]),(923,.row 62 1 ((o3 d.kept (d.wait.take k)).map bM))]) (λk=>d.wait.length-k) 0 (Nat.zero_le _) ?_ sbW (λk hk=>?_)<;>(conv=>whnf)
 ·exact whd
 ·by_cases hlt:k<d.wait.length
  ·have hc:decide ((k:Int)<((d.wait.map DWrite.ds).length:Int))=true:=al;have hw:=(gC (h5 _ (List.getElem_mem hlt)));have hlen:=i6 (d.wait.take k) d.kept;have hsx:=BC (k:=d.kept) hlt;have h48:=dM hw.2;have hn:decide ((k:Int)<0)=false:=aj;repeat'(first|refine awz ?_|(refine Yg hlt ?_;conv=>whnf)|fail)
   (refine X9 aN 10 7 q5 kP ae ae ae rfl ?_;conv=>whnf)
   repeat'((first|refine awz ?_|refine AIx.int hw.1.1 ac ?_|refine cP (ez d.wait[k].row ac) ?_|fail)<;>conv=>whnf)
   refine Yg ac ?_;conv=>whnf
   repeat'(first|refine awz ?_|(refine X3 ari ari ?_;conv=>whnf)|fail)
   refine bd.mk ⟨k+1,hlt,ac,?_,X0 rfl (X0 rfl (X0 rfl (X0 rfl (X0 rfl (X0 (by rw[hsx,List.map_set];rfl) X4)))))⟩;exact hds
  ·have e:k=d.wait.length:=ac;subst e;have hc:decide ((d.wait.length:Int)<((d.wait.map DWrite.ds).length:Int))=false:=aj;rw[List.take_length];repeat'(first|refine awz ?_|exact rr|fail)
   all_goals(first|rfl|exact⟨rfl,whd⟩)
end Go.Proofs.YtknefkdcokgpbaaGreat
