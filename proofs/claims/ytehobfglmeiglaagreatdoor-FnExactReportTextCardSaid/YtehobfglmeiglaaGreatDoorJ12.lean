/- J12 -/
import Derived.RangeFuncNested
import Derived.RangeFuncBound
import Derived.RangeFuncCalls
import Derived.RangeFuncLeaves
import Derived.Shelf.Abstract
import Derived.Shelf.RegionOpen
import Derived.WalkKit
import Derived.OwnWalkIn
import Derived.TacticsInMore
import Derived.LoopNIn
import Derived.LoopIn
import Derived.Maps.AppendAt
import Derived.Test.YtehobfglmeiglaaGreatDoorJ04
import Derived.Test.YtehobfglmeiglaaGreatDoorJ11
set_option linter.unusedVariables false
set_option linter.unusedSimpArgs false
set_option maxRecDepth 100000
namespace Go.Proofs.YtehobfglmeiglaaGreatDoor
open Go.Proofs.Tryz
open Go.RowKit Go.Shelf
attribute [local go_sem] Oper.semAt_some
def dZ(e:DEntry):Array Value:= #[.int .i64 e.index,.int .i64 e.time,.int .i64 e.client,.int .i64 e.seq,.int .i64 e.op.kind,.int .i64 e.op.a,.int .i64 e.op.b,.int .i64 e.op.c,.int .i64 e.op.d]
def cw(n₀ Bb Bd:Nat)(W W':World):Prop:=W.heap.size<=W'.heap.size/\∀k,(k<n₀\/k=Bb\/k=Bd)->W'.heap[k]? =W.heap[k]?
theorem cw.refl{n₀ Bb Bd:Nat}(W:World):cw n₀ Bb Bd W W:=⟨Nat.le_refl _,λ_ _=>rfl⟩
theorem cw.trans{n₀ Bb Bd:Nat}{A B C:World}(h:cw n₀ Bb Bd A B)(h':cw n₀ Bb Bd B C):cw n₀ Bb Bd A C:=⟨Nat.le_trans h.1 h'.1,λk hk=>(h'.2 k hk).trans (h.2 k hk)⟩
theorem cw.cell{n₀ Bb Bd:Nat}{W W':World}(h:cw n₀ Bb Bd W W'){p:Addr}(hk:p.block<n₀\/p.block=Bb\/p.block=Bd):W'.cell? p=W.cell? p:=by
 unfold World.cell?
 rw[h.2 _ hk]
theorem cw.alloc{n₀ Bb Bd:Nat}(W:World)(o:Obj)(h0:n₀<=W.heap.size)(hb:Bb<W.heap.size)(hd:Bd<W.heap.size):cw n₀ Bb Bd W (W.alloc o):=
 ⟨by simp,λk hk=>Below.heap_alloc _ _ k Mo⟩
def lC(n₀:Nat)(W:World)(A:Option Addr)(es:List DEntry):Prop:=es=[]\/∃b off,A=some ⟨b,off,none⟩/\b<n₀/\∀(k:Nat) (hk:k<es.length) (j:Nat) (u:Value),(dZ es[k])[j]? =some u->W.cell? ⟨b,off+k*9+j,none⟩=some u
theorem lC.keep{n₀ Bb Bd:Nat}{W W':World}{A:Option Addr}{es:List DEntry}(h:cw n₀ Bb Bd W W'):lC n₀ W A es->lC n₀ W' A es
 | .inl e=> .inl e
 | .inr ⟨b,off,e,hb,hc⟩=> .inr ⟨b,off,e,hb,λk hk j u hu=>(h.cell (p:=⟨b,off+k*9+j,none⟩) (.inl hb)).trans (hc k hk j u hu)⟩
def dQ(d:Int)(es:List DEntry):List DEntry:=es.filter λe=>decide (d<=e.index)
theorem yL{d:Int}{es:List DEntry}{k:Nat}(hk:k<es.length)(h:d<=es[k].index):dQ d (es.take (k+1))=dQ d (es.take k)++[es[k]]:=by
 simp only[dQ]
 rw[List.take_succ_eq_append_getElem hk,List.filter_append,List.filter_cons_of_pos (by simpa using h),List.filter_nil]
theorem FS{d:Int}{es:List DEntry}{k:Nat}(hk:k<es.length)(h:¬d<=es[k].index):dQ d (es.take (k+1))=dQ d (es.take k):=by
 simp only[dQ]
 rw[List.take_succ_eq_append_getElem hk,List.filter_append,List.filter_cons_of_neg (by simpa using h),List.filter_nil,List.append_nil]
theorem Ew{d:Int}{es:List DEntry}(k:Nat):dQ d (es.take k)<+:dQ d es:=by
 have:dQ d es=dQ d (es.take k)++dQ d (es.drop k):=by
  simp only[dQ]
  rw[<-List.filter_append,List.take_append_drop]
 rw[this]
 exact List.prefix_append _ _
set_option maxRecDepth 100000 in
set_option maxHeartbeats 4000000 in
theorem Df(F:Fence)(n:Nat)(hf:F.fn 334)(hro:F.round=none)(hn:1<=n)(l Bb Bd n₀:Nat)(A:Option Addr)(cap:Nat)(es:List DEntry)(d:Int)(hes:es.length<=20)(J Jx:List DEntry->World->Prop)
  (hY:∀pre x W,J pre W->pre.length<es.length->YieldAt F (n-1) Tryz.prog l #[.agg (dZ x)] W λe W'=>
   (e= .returned (.bool true)/\J (pre++[x]) W'/\cw n₀ Bb Bd W W')\/(e= .returned (.bool false)/\Jx (pre++[x]) W'))
  (W:World) (hJ:AbidesFrom W.heap.size J) (h0n:n₀<=W.heap.size) (hBbl:Bb<W.heap.size) (hBdl:Bd<W.heap.size) (hBb:W.cell? ⟨Bb,2,none⟩=some (.slice A es.length cap)) (hBd:W.cell? ⟨Bd,0,none⟩=some (.int .i64 d)) (hA:lC n₀ W A es) (h0:J [] W):
  CallsIn F n Tryz.prog 334 #[.func (.yield l) #[] #[],.pointer (some ⟨Bb,0,none⟩),.pointer (some ⟨Bd,0,none⟩)] W λe W'=>(∃v,e= .returned v)/\
   ((∃ys,ys=dQ d es/\J ys W')\/(∃pre,pre<+:dQ d es/\Jx pre W')):=by
 refine callsIn_of_wp func334 rfl hf ?_ hro
 simp only[ntmps334,List.size_toArray,List.length_cons,List.length_nil,Nat.reduceAdd,Nat.reduceSub,Array.replicate_succ,Array.replicate_zero,List.push_toArray,List.append_toArray,List.nil_append,List.cons_append]
 gi_wp2
 gi_loopw [9] (λi wr=>∃k:Nat,k<=es.length/\i= .int .i64 k/\J (dQ d (es.take k)) wr/\cw n₀ Bb Bd W wr)
  (λi _=>es.length-(intOf i).toNat)
 case atStart=>exact⟨0,Nat.zero_le _,rfl,h0,cw.refl _⟩
 case round=>
  obtain⟨k,hk,rfl,hJs,hnx⟩:=hrel
  by_cases hlt:k<es.length
  ·obtain⟨b,off,rfl,hb0,hc⟩:∃b off,A=some ⟨b,off,none⟩/\b<n₀/\∀(k:Nat) (hk:k<es.length) (j:Nat) (u:Value),(dZ es[k])[j]? =some u->W.cell? ⟨b,off+k*9+j,none⟩=some u:=by
    rcases hA with rfl|h
    ·simp at hlt
    ·exact h
   have rd:∀(j:Nat) (u:Value),(dZ es[k])[j]? =some u->wr.cell? ⟨b,off+k*9+j,none⟩=some u:=λj u hu=>(hnx.cell (p:=⟨b,off+k*9+j,none⟩) (.inl hb0)).trans (hc k hlt j u hu)
   have c0:wr.cell? ⟨b,off+k*9,none⟩=some (.int .i64 es[k].index):=rd 0 _ rfl
   have c1:wr.cell? ⟨b,off+k*9+1,none⟩=some (.int .i64 es[k].time):=rd 1 _ rfl
   have c2:wr.cell? ⟨b,off+k*9+2,none⟩=some (.int .i64 es[k].client):=rd 2 _ rfl
   have c3:wr.cell? ⟨b,off+k*9+3,none⟩=some (.int .i64 es[k].seq):=rd 3 _ rfl
   have c4:wr.cell? ⟨b,off+k*9+4,none⟩=some (.int .i64 es[k].op.kind):=rd 4 _ rfl
   have c5:wr.cell? ⟨b,off+k*9+5,none⟩=some (.int .i64 es[k].op.a):=rd 5 _ rfl
   have c6:wr.cell? ⟨b,off+k*9+6,none⟩=some (.int .i64 es[k].op.b):=rd 6 _ rfl
   have c7:wr.cell? ⟨b,off+k*9+7,none⟩=some (.int .i64 es[k].op.c):=rd 7 _ rfl
   have c8:wr.cell? ⟨b,off+k*9+8,none⟩=some (.int .i64 es[k].op.d):=rd 8 _ rfl
   have cd:wr.cell? ⟨Bd,0,none⟩=some (.int .i64 d):=(hnx.cell (p:=⟨Bd,0,none⟩) (.inr (.inr rfl))).trans hBd
   clear rd
   have hsz:=hnx.1
   have cd2:=((cw.alloc (n₀:=n₀) (Bb:=Bb) (Bd:=Bd) wr (.cells #[.int .i64 es[k].index,.int .i64 es[k].time,.int .i64 es[k].client,.int .i64 es[k].seq,.int .i64 es[k].op.kind,.int .i64 es[k].op.a,.int .i64 es[k].op.b,.int .i64 es[k].op.c,.int .i64 es[k].op.d] 306) Mo Mo Mo).cell (p:=⟨Bd,0,none⟩) (.inr (.inr rfl))).trans cd
   obtain⟨w2,hw2⟩:∃w2,wr.alloc (.cells #[.int .i64 es[k].index,.int .i64 es[k].time,.int .i64 es[k].client,.int .i64 es[k].seq,.int .i64 es[k].op.kind,.int .i64 es[k].op.a,.int .i64 es[k].op.b,.int .i64 es[k].op.c,.int .i64 es[k].op.d] 306)=w2:=⟨_,rfl⟩
   have hJ2:J (dQ d (es.take k)) w2:=hw2▸hJ _ _ _ none hJs (World.grownBy_alloc wr _ none) (λr e=>by cases e)
   have hk2:cw n₀ Bb Bd W w2:=hw2▸hnx.trans (cw.alloc wr _ Mo Mo Mo)
   have hpl:(dQ d (es.take k)).length<es.length:=Nat.lt_of_le_of_lt (List.length_filter_le ..) Mv
   by_cases hge:d<=es[k].index
   ·obtain⟨fn,tmps,assign,body,hy,hR⟩:=hY _ es[k] w2 hJ2 hpl
    simp only[dZ]at hy
    subst hw2
    gi_wp2
    refine hR.mono ?_
    rintro e W3 (⟨rfl,hJ3,hk3⟩|⟨rfl,hJx3⟩)
    ·gi_wp2
     go_roundw
     case rel=>exact⟨k+1,by omega,by simp,by rw[yL hlt hge];exact hJ3,hk2.trans hk3⟩
     case measure=>simp[intOf];omega
    ·gi_wp2
     refine bodyPost_ret (results_none rfl _ _ _) rfl ?_
     exact⟨⟨_,rfl⟩,.inr ⟨_,by rw[<-yL hlt hge];exact Ew _,hJx3⟩⟩
   ·subst hw2
    gi_wp2
    refine⟨λ_ h=>(by cases h),?_⟩
    gi_wp2
    go_roundw
    case rel=>exact⟨k+1,by omega,by simp,by rw[FS (d:=d) hlt Mo];exact hJ2,hk2⟩
    case measure=>simp[intOf];omega
  ·obtain rfl:k=es.length:=by omega
   gi_wp2
   go_end0
   exact⟨⟨_,rfl⟩,.inl ⟨_,by rw[List.take_length],hJs⟩⟩
end Go.Proofs.YtehobfglmeiglaaGreatDoor
namespace Go.Proofs.YtehobfglmeiglaaGreatDoor
open Go.Proofs.Tryz
open Go.RowKit Go.Shelf
attribute [local go_sem] Oper.semAt_some
def gb(a:DAck):Array Value:= #[.int .i64 a.client,.int .i64 a.seq,.int .i64 a.index,.int .i64 a.last]
def BG(w:World):Prop:=∃w1,av.W w1/\Below w1.heap.size w1 w
theorem qn{w W:World}(h:BG w)(hB:Below w.heap.size w W):BG W.drew:=by
 obtain⟨w1,h1,h2⟩:=h
 have h3:=h2.trans (hB.mono h2.size)
 exact⟨w1,h1,⟨h3.os,h3.tape,h3.output,h3.size,λk hk=>h3.block k hk⟩⟩
theorem lM(e:DEntry)(w:World)(hgd:BG w):Calls Tryz.prog 302 #[.agg (dZ e)] w λe' w'=>e'= .returned (.agg (gb (bb e)))/\Below w.heap.size w w':=by
 obtain⟨w1,g1,g2⟩:=hgd
 have h:=(EA e).run (λb=>b<w.heap.size) w [.agg (dZ e)] (λ_ h=>h) ⟨w1,g1,g2,λ_ h=>Nat.lt_of_lt_of_le h g2.size⟩ rfl (λi p u hp hu=>by
  match i,hp,hu with
  |0,hp,hu=>
   simp at hp hu
   subst hp hu
   refine⟨(dZ e).toList,by simp,rfl,λj d u hd hu=>?_⟩
   match j,hd,hu with
   |0,hd,hu=>simp[DEntry.ds,dZ]at hd hu;subst hd hu;exact .pv _ rfl
   |1,hd,hu=>simp[DEntry.ds,dZ]at hd hu;subst hd hu;exact .pv _ rfl
   |2,hd,hu=>simp[DEntry.ds,dZ]at hd hu;subst hd hu;exact .pv _ rfl
   |3,hd,hu=>simp[DEntry.ds,dZ]at hd hu;subst hd hu;exact .pv _ rfl
   |4,hd,hu=>simp[DEntry.ds,dZ]at hd hu;subst hd hu;exact .pv _ rfl
   |5,hd,hu=>simp[DEntry.ds,dZ]at hd hu;subst hd hu;exact .pv _ rfl
   |6,hd,hu=>simp[DEntry.ds,dZ]at hd hu;subst hd hu;exact .pv _ rfl
   |7,hd,hu=>simp[DEntry.ds,dZ]at hd hu;subst hd hu;exact .pv _ rfl
   |8,hd,hu=>simp[DEntry.ds,dZ]at hd hu;subst hd hu;exact .pv _ rfl
   |n+9,hd,hu=>simp[DEntry.ds]at hd
  |n+1,hp,hu=>simp at hp)
 refine Calls.mono h ?_
 rintro e' w' ⟨v,Z',rfl,hb,_,_,hr⟩
 have:=Ch (p:= .agg (bb e).ds) rfl hr
 exact⟨by rw[this];rfl,hb⟩
theorem De(F:Fence)(n:Nat)(hf:F.fn 301)(hro:F.round=none)(c0 c1 c2:Value)(d:Int)(w:World):
  CallsIn F n Tryz.prog 301 #[.agg #[c0,c1,c2],.int .i64 d] w λe w'=>e= .returned (.func (.func 334) #[] #[.pointer (some ⟨w.heap.size,0,none⟩),.pointer (some ⟨w.heap.size+1,0,none⟩)])/\w'=(w.alloc (.cells #[c0,c1,c2] 78)).alloc (.cells #[.int .i64 d] 2):=by
 refine callsIn_of_wp func301 rfl hf ?_ hro
 simp only[ntmps301,List.size_toArray,List.length_cons,List.length_nil,Nat.reduceAdd,Nat.reduceSub,Array.replicate_succ,Array.replicate_zero,List.push_toArray,List.append_toArray,List.nil_append,List.cons_append]
 gi_wp2
 go_ret
 exact⟨rfl,rfl⟩
theorem EV(F:Fence)(n:Nat)(hf:F.fn 334)(hro:F.round=none)(hn:1<=n)(Bb Bd n₀:Nat)(A:Option Addr)(cap:Nat)(es:List DEntry)(d:Int)(hes:es.length<=20)(w:World)(hBb:Bb<w.heap.size)(hBd:Bd<w.heap.size)(hn₀:n₀<=w.heap.size)
  (hcb:w.cell? ⟨Bb,2,none⟩=some (.slice A es.length cap)) (hcd:w.cell? ⟨Bd,0,none⟩=some (.int .i64 d)) (hA:lC n₀ w A es):
  SeqStopsK F n Tryz.prog 334 #[.pointer (some ⟨Bb,0,none⟩),.pointer (some ⟨Bd,0,none⟩)] (λe:DEntry=> #[Value.agg (dZ e)]) (cw n₀ Bb Bd) (λys=>ys=dQ d es) (λpre=>pre<+:dQ d es) es.length w:=λl J Jx W hW hJ _ hY h0=>by
 have hs:=hW.size
 refine Df F n hf hro hn l Bb Bd n₀ A cap es d hes J Jx hY W hJ Mo Mo Mo ((hW.cell (p:=⟨Bb,2,none⟩) hBb).trans hcb) ((hW.cell (p:=⟨Bd,0,none⟩) hBd).trans hcd) ?_ h0
 rcases hA with h|⟨b,off,e,hb,hc⟩
 ·exact .inl h
 ·exact .inr ⟨b,off,e,hb,λk hk j u hu=>(hW.cell (p:=⟨b,off+k*9+j,none⟩) (show b<w.heap.size by omega)).trans (hc k hk j u hu)⟩
def lL(l:List DEntry):List Value:=(l.map λe=>(gb (bb e)).toList).flatten
theorem EN{n₀ Bb Bd:Nat}{w:World}(h0:n₀<=w.heap.size)(h1:Bb<w.heap.size)(h2:Bd<w.heap.size):∀(W:World) (l:Nat) (o o':Obj),w.heap.size<=l->W.heap[l]? =some o->o.isCells=false->o.isWalk=false->cw n₀ Bb Bd W (W.putObj l o'):=
 λW l o o' hl ho _ _=>⟨by simp,λk hk=>World.putObj_heap_other Mo⟩
theorem yQ{β:Type}(B0 B:Nat)(cs:Array Value)(t:TypeId):OwnFrom B0 (fun(_:β) W=>W.heap[B]? =some (.cells cs t (0,0))):=λ_ X Y row hs hg hr=>
 (hg.block B (Array.getElem?_eq_some_iff.1 hs).1 λe=>by
  obtain⟨_,o,ho,hc⟩:=hr B e.symm
  rw[hs]at ho
  cases ho
  cases hc).trans hs
theorem fG{W W':World}{base:Nat}{e:TypeId}{size:Nat}{v:Value}{k:Nat}{xs:List Value}(h:W.ownsRow base e size v k xs)(hb:Below W.heap.size W W'):W'.ownsRow base e size v k xs:=by
 refine⟨h.1,?_⟩
 rcases h.2 with h2|⟨g,cap,cur,h1,h2,h3,h4⟩
 ·exact .inl h2
 ·exact .inr ⟨g,cap,cur,h1,h2,(hb.block g (Array.getElem?_eq_some_iff.1 h3).1).trans h3,h4⟩
theorem Ci{W:World}{base:Nat}{e:TypeId}{size:Nat}{v:Value}{k:Nat}{xs:List Value}(h:W.ownsRow base e size v k xs){j:Nat}{cs:Array Value}{t:TypeId}(hj:W.heap[j]? =some (.cells cs t (0,0)))(hne:t≠e):some j≠v.ownBlock:=by
 rcases h.2 with⟨rfl,_⟩|⟨g,cap,cur,rfl,_,hgb,_⟩
 ·simp[Value.ownBlock]
 ·intro e'
  have:g=j:=by simpa[Value.ownBlock]using e'.symm
  subst this
  rw[hgb]at hj
  injection hj with hj
  injection hj with _ h2 _
  exact hne h2.symm
theorem EL:(Tryz.prog.info? 239).map (λi=>(i.zero,i.size,i.bytes))=some (some (.agg #[.int .i64 0,.int .i64 0,.int .i64 0,.int .i64 0]),4,32):=by kernel_rfl
theorem js(l:List DEntry)(e:DEntry):lL (l++[e])=lL l++(gb (bb e)).toList:=by simp[lL]
theorem qr(w':World)(a:DAck):∀j u,(gb a).toList[j]? =some u->(w'.alloc (.cells #[.int .i64 a.client,.int .i64 a.seq,.int .i64 a.index,.int .i64 a.last] 239)).cell? ((⟨w'.heap.size,0,none⟩:Addr).add j)=some u:=λj u hu=>by
 have h0:=World.alloc_heap_new w' (.cells #[.int .i64 a.client,.int .i64 a.seq,.int .i64 a.index,.int .i64 a.last] 239)
 have e:(⟨w'.heap.size,0,none⟩:Addr).add j=⟨w'.heap.size,j,none⟩:=by unfold Addr.add;split<;>simp_all
 rw[e]
 simp only[World.cell?,h0]
 simpa[gb]using hu
theorem oq{W w':World}(h:Below W.drew.heap.size W.drew w'):Below W.heap.size W w':=
 ⟨h.os,h.tape,h.output,h.size,λk hk=>h.block k hk⟩
theorem hI{F:Fence}{n:Nat}{P:Program}{o:Oper}{a:Act}{w w':World}{K:Act->World->Prop}{Q:Exit->Act->World->Prop}{s x:Operand}{t:TypeId}{v v':Value}{ad:Addr}{m c:Nat}(hop:o.op=Op.call {callee:=Callee.builtin Builtin.append,args:= #[s,x],argTypes:= #[t,t]})
  (hs:a.eval s=v) (hx:a.eval x= .slice (some ad) m c) (hrun:(Builtin.append_ #[t,t] o.type #[v,.slice (some ad) m c]).run P w= .ok v' w') (hK:K (a.put o.dst v') w'):o.wpIn F n P a w K Q:=by
 unfold Oper.wpIn
 refine⟨?_,?_⟩
 ·simp[Oper.about,hop,resolve,Target.leads,Sem.run_pure]
 ·rw[Oper.semAt_plain F _ _ (by rw[hop];intro c hc';cases hc')]
  simp[execOp,hop,resolve,invoke,builtin,hs,hx,hrun,Result.andThen]
  exact hK
theorem nn{F:Fence}{n:Nat}{P:Program}{md:Region.Mode}{ops:Array Oper}{Q:Exit->Act->World->Prop}{fuel:Nat}{listed:Array Bool}{a:Act}{w:World}{i:Nat}{o:Oper}(ho:ops[i]? =some o)(hg:o.guard=none)(h:o.wpIn F n P a w (wpAnyIn F n P md ops Q fuel (listed.setIfInBounds i true)) Q):AllReadyIn F n P md ops Q fuel listed a w [i]:=
 .cons ho (λK hK=>by rw[if_pos (by simp[Region.wanted,hg])];exact Oper.wpIn_mono hK h) .nil
theorem tN{W w' w4:World}{n B Bb Bd:Nat}{v v':Value}{k:Nat}{xs ys:List Value}{tmp:Obj}{c3 c4:Array Value}(hb:Below W.heap.size W w')(bv:Boxed W B 79 v)(hrow:W.ownsRow n 239 4 v k xs)(hn:n<=W.heap.size)(hB:n<=B)
  (hown':w4.ownsRow n 239 4 v' (k+1) ys) (hg:(w'.alloc tmp).grownBy w4 v.ownBlock) (h3:W.heap[Bb]? =some (.cells c3 78 (0,0))) (h4:W.heap[Bd]? =some (.cells c4 2 (0,0))) (hne3:Bb≠B) (hne4:Bd≠B):
  Boxed w4 B 79 v/\Boxed (w4.setCell ⟨B,0,none⟩ v') B 79 v'/\(w4.setCell ⟨B,0,none⟩ v').ownsRow n 239 4 v' (k+1) ys/\KeepsOthers W (w4.setCell ⟨B,0,none⟩ v')/\Below n W (w4.setCell ⟨B,0,none⟩ v')/\cw n Bb Bd W (w4.setCell ⟨B,0,none⟩ v'):=by
 have bv':Boxed w' B 79 v:=(hb.block B bv.lt).trans bv
 have hrow':=fG hrow hb
 have hs:=hb.size
 obtain⟨a1,a2,a3,a4,a5⟩:=bv'.appended Mq hrow' Mo hB hown' hg
 have hbn:Below n W w':=hb.mono hn
 refine⟨a1,a2,a3,(KeepsOthers.mk hs λk o h _=>(hb.block k (Array.getElem?_eq_some_iff.1 h).1).trans h).trans a4,hbn.trans a5,(hbn.trans a5).size,λj hj=>?_⟩
 rcases hj with hj|hj|hj
 ·exact(hbn.trans a5).block j hj
 ·subst hj
  have e1:=(hb.block j (Array.getElem?_eq_some_iff.1 h3).1).trans h3
  have e2:=(Below.heap_alloc w' tmp j (Array.getElem?_eq_some_iff.1 e1).1).trans e1
  have e3:=(hg.block j (Array.getElem?_eq_some_iff.1 e2).1 (Ci hrow' e1 Mq)).trans e2
  rw[Below.heap_setCell _ _ _ j hne3,e3,h3]
 ·subst hj
  have e1:=(hb.block j (Array.getElem?_eq_some_iff.1 h4).1).trans h4
  have e2:=(Below.heap_alloc w' tmp j (Array.getElem?_eq_some_iff.1 e1).1).trans e1
  have e3:=(hg.block j (Array.getElem?_eq_some_iff.1 e2).1 (Ci hrow' e1 Mq)).trans e2
  rw[Below.heap_setCell _ _ _ j hne4,e3,h4]
set_option maxRecDepth 100000 in
set_option maxHeartbeats 4000000 in
theorem Gf(base time d:Int)(A:Option Addr)(cap:Nat)(es:List DEntry)(hes:es.length<=20)(hd:0<=d/\d<=3000)(w:World)(hgd:BG w)(hA:lC w.heap.size w A es):
  CallsIn Fence.wide 10 Tryz.prog 252 #[.agg #[.int .i64 base,.int .i64 time,.slice A es.length cap],.int .i64 d] w λe W'=>∃v,e= .returned v/\Below w.heap.size w W'/\W'.ownsRow w.heap.size 239 4 v (dQ (d+1) es).length (lL (dQ (d+1) es)):=by
 refine callsIn_of_wp_marks func252 rfl trivial ?_ rfl
 simp only[ntmps252,List.size_toArray,List.length_cons,List.length_nil,Nat.reduceAdd,Nat.reduceSub,Array.replicate_succ,Array.replicate_zero,List.push_toArray,List.append_toArray,List.nil_append,List.cons_append]
 have hwr:wrap64 (d+1)=d+1:=by unfold wrap64;omega
 gi_wp2_with (refine⟨trivial,?_⟩;gi_at_call 301;refine(De Fence.wide _ trivial rfl _ _ _ _ _).mono ?_;rintro e w' ⟨rfl,rfl⟩)
 have hW0:∃W0,((((w.alloc (.cells #[.int .i64 base,.int .i64 time,.slice A es.length cap] 78)).alloc (.cells #[] 239)).alloc (.cells #[.slice (some ⟨w.heap.size+1,0,none⟩) 0 0] 79)).alloc (.cells #[.int .i64 base,.int .i64 time,.slice A es.length cap] 78)).alloc (.cells #[.int .i64 (d+1)] 2)=W0:=⟨_,rfl⟩
 obtain⟨W0,hW0⟩:=hW0
 have hsz:W0.heap.size=w.heap.size+5:=by rw[<-hW0];simp
 have hB0:Below w.heap.size w W0:=by
  rw[<-hW0]
  exact(((((Below.refl _ w).alloc (Nat.le_refl _) _).alloc Mx _).alloc Mx _).alloc Mx _).alloc Mx _
 have at_:∀(W:World) (o:Obj) (k:Nat),k=W.heap.size->(W.alloc o).heap[k]? =some o:=λW o k h=>by subst h;exact World.alloc_heap_new W o
 have keep:∀(W:World) (o o2:Obj) (k:Nat),k<W.heap.size->W.heap[k]? =some o2->(W.alloc o).heap[k]? =some o2:=λW o o2 k h h2=>(Below.heap_alloc W _ k h).trans h2
 have bT:Boxed W0 (w.heap.size+1+1) 79 (.slice (some ⟨w.heap.size+1,0,none⟩) 0 0):=by
  rw[<-hW0]
  exact keep _ _ _ _ Mx (keep _ _ _ _ Mx (at_ _ _ _ Mr))
 have hR:W0.heap[w.heap.size+1]? =some (.cells #[] 239 (0,0)):=by
  rw[<-hW0]
  exact keep _ _ _ _ Mx (keep _ _ _ _ Mx (keep _ _ _ _ Mx (at_ _ _ _ Mr)))
 have hBb:W0.heap[w.heap.size+1+1+1]? =some (.cells #[.int .i64 base,.int .i64 time,.slice A es.length cap] 78 (0,0)):=by
  rw[<-hW0]
  exact keep _ _ _ _ Mx (at_ _ _ _ Mr)
 have hBd:W0.heap[w.heap.size+1+1+1+1]? =some (.cells #[.int .i64 (d+1)] 2 (0,0)):=by
  rw[<-hW0]
  exact at_ _ _ _ Mr
 clear at_ keep
 have cB:W0.cell? ⟨w.heap.size+1+1+1,2,none⟩=some (.slice A es.length cap):=by simp[World.cell?,hBb]
 have cD:W0.cell? ⟨w.heap.size+1+1+1+1,0,none⟩=some (.int .i64 (d+1)):=by simp[World.cell?,hBd]
 have hrow0:W0.ownsRow w.heap.size 239 4 (.slice (some ⟨w.heap.size+1,0,none⟩) 0 0) 0 []:=⟨rfl,.inr ⟨w.heap.size+1,0, #[],rfl,by omega,hR,by omega,by decide,rfl,rfl⟩⟩
 have hA0:lC w.heap.size W0 A es:=by
  rcases hA with h|⟨b,off,e,hb,hc⟩
  ·exact .inl h
  ·exact .inr ⟨b,off,e,hb,λk hk j u hu=>(hB0.cell (p:=⟨b,off+k*9+j,none⟩) hb).trans (hc k hk j u hu)⟩
 rw[hW0]
 clear hW0
 refine wpIn_rangeFunc_ownH rfl Mq (gf:=334) (lb:= #[.pointer (some ⟨w.heap.size+1+1+1,0,none⟩),.pointer (some ⟨w.heap.size+1+1+1+1,0,none⟩)]) rfl trivial (enters_of func334 Mp rfl)
  (EV Fence.wide 9 trivial rfl Mo (w.heap.size+1+1+1) (w.heap.size+1+1+1+1) w.heap.size A cap es (d+1) hes W0 Mo Mo Mo cB cD hA0) (λh h'=>h.trans h') (EN Mo Mo Mo) (Below.refl _ _) (λ_=>rfl)
  (λpre W=>(((∃v,Boxed W (w.heap.size+1+1) 79 v/\W.ownsRow w.heap.size 239 4 v pre.length (lL pre)/\True)/\Below w.heap.size w W)/\w.heap.size+5<=W.heap.size)/\(W.heap[w.heap.size+1+1+1]? =some (.cells #[.int .i64 base,.int .i64 time,.slice A es.length cap] 78 (0,0))/\W.heap[w.heap.size+1+1+1+1]? =some (.cells #[.int .i64 (d+1)] 2 (0,0))))
  (λ_ _ _=>False)
  (OwnFrom.and (OwnFrom.and (OwnFrom.and (Own.from (holdsRow_own w.heap.size (w.heap.size+1+1) 79 239 4 (λpre=>pre.length) lL (λ_ _=>True)) _) (ownFrom_below (Nat.le_refl _) Mo)) (λ_ X Y row hs hg _=>Nat.le_trans hs hg.size)) (OwnFrom.and (yQ _ _ _ _) (yQ _ _ _ _)))
  (λ_ _ _ _ _ hs _ _=>hs)
  ⟨⟨⟨⟨_,bT,hrow0,trivial⟩,hB0⟩,by omega⟩,hBb,hBd⟩
  (λx a' W=>∃Bx,w.heap.size+1+1+1+1<Bx/\W.heap[Bx]? =some (.cells (dZ x) 306 (0,0))/\a'={tmps:= #[.agg #[.int .i64 base,.int .i64 time,.slice A es.length cap],.int .i64 d,.pointer (some ⟨w.heap.size,0,none⟩),undef,.slice none 0 0,.pointer (some ⟨w.heap.size+1+1,0,none⟩),.pointer (some ⟨Bx,0,none⟩),.slice (some ⟨w.heap.size+1,0,none⟩) 0 0,.agg #[.int .i64 base,.int .i64 time,.slice A es.length cap],.int .i64 d,.int .i64 (d+1),.func (.func 334) #[] #[.pointer (some ⟨w.heap.size+1+1+1,0,none⟩),.pointer (some ⟨w.heap.size+1+1+1+1,0,none⟩)],.agg (dZ x),undef,undef,undef,undef,undef,undef],defers:=[]})
  (λx a' _ X Y row hs hg hr=>by
   obtain⟨Bx,h1,h2,h3⟩:=hs
   refine⟨Bx,h1,(hg.block Bx (Array.getElem?_eq_some_iff.1 h2).1 λe=>?_).trans h2,h3⟩
   obtain⟨_,o,ho,hc⟩:=hr Bx e.symm
   rw[h2]at ho
   cases ho
   cases hc)
  ?assign ?body ?done ?stop
 case assign=>
  rintro l pre x W K ⟨⟨⟨⟨v,bv,hr,_⟩,hB1⟩,hs5⟩,hb3,hb4⟩ hK
  simp only[dZ]
  gi_wp2
  exact hK _ _ ((KeepsOthers.alloc _ _).from _) (cw.alloc W _ Mo Mo Mo) ⟨⟨⟨⟨v,bv.alloc _,hr.alloc _,trivial⟩,hB1.alloc hB1.size _⟩,Mx⟩,(Below.heap_alloc _ _ _ Mo).trans hb3,(Below.heap_alloc _ _ _ Mo).trans hb4⟩ ⟨W.heap.size,by omega,World.alloc_heap_new W _,rfl⟩
 case body=>
  rintro l pre x a' W hl ⟨r,hr⟩ ⟨⟨⟨⟨v,bv,hrow,_⟩,hB1⟩,hs5⟩,hb3,hb4⟩ ⟨Bx,hBx,hbx,rfl⟩ hlt
  have cv:=bv.cell
  have x0:W.cell? ⟨Bx,0,none⟩=some (.int .i64 x.index):=by simp[World.cell?,hbx,dZ]
  have x1:W.cell? ⟨Bx,1,none⟩=some (.int .i64 x.time):=by simp[World.cell?,hbx,dZ]
  have x2:W.cell? ⟨Bx,2,none⟩=some (.int .i64 x.client):=by simp[World.cell?,hbx,dZ]
  have x3:W.cell? ⟨Bx,3,none⟩=some (.int .i64 x.seq):=by simp[World.cell?,hbx,dZ]
  have x4:W.cell? ⟨Bx,4,none⟩=some (.int .i64 x.op.kind):=by simp[World.cell?,hbx,dZ]
  have x5:W.cell? ⟨Bx,5,none⟩=some (.int .i64 x.op.a):=by simp[World.cell?,hbx,dZ]
  have x6:W.cell? ⟨Bx,6,none⟩=some (.int .i64 x.op.b):=by simp[World.cell?,hbx,dZ]
  have x7:W.cell? ⟨Bx,7,none⟩=some (.int .i64 x.op.c):=by simp[World.cell?,hbx,dZ]
  have x8:W.cell? ⟨Bx,8,none⟩=some (.int .i64 x.op.d):=by simp[World.cell?,hbx,dZ]
  have hmx:Tryz.prog.follows .mixedOrders=true:=by kernel_rfl
  obtain⟨i0,hi,hz0,hz1,hz2⟩:=info_parts EL
  gi_wp2
  refine wpIn_region_any Mt ?_
  change wpAnyIn _ _ _ _ _ _ _ _ _ (World.drew _)
  refine wpAnyIn_ready (rs:=[0,1]) Mp Mr ?_
  refine AllReadyIn.cons rfl (λK hK=>?_) (AllReadyIn.cons rfl (λK hK=>?_) AllReadyIn.nil)
  ·go_simp
   refine hK _ _ ?_
   clear hK K
   refine wpAnyIn_ready (rs:=[1]) Mp Mr ?_
   refine AllReadyIn.cons rfl (λK hK=>?_) AllReadyIn.nil
   go_simp
   refine hK _ _ ?_
   clear hK K
   refine wpAnyIn_ready (rs:=[2]) Mp Mr ?_
   refine AllReadyIn.cons rfl (λK hK=>?_) AllReadyIn.nil
   go_simp
   refine⟨trivial,?_⟩
   gi_at_call 302
   refine(CallsIn.inRound l (callsIn_wide.2 (lM x _ (qn hgd hB1)))).mono ?_
   rintro e w' ⟨rfl,hb⟩
   have hbW:Below W.heap.size W w':=oq hb
   obtain⟨v',w4,hrun,hown',hg,_⟩:=run_append_own (P:=Tryz.prog) (w:=w'.alloc (.cells #[.int .i64 (bb x).client,.int .i64 (bb x).seq,.int .i64 (bb x).index,.int .i64 (bb x).last] 239)) w.heap.size 79 79 239 i0 _ 4 32 underlying79 hi hz0 hz1 hz2 rfl Mq v pre.length (lL pre) ((fG hrow hbW).alloc _) ⟨w'.heap.size,0,none⟩ 1 1 (gb (bb x)).toList rfl (qr _ _) (by simp[gb,Value.oneCell']) (by unfold maxLen;omega) Mo (by have:=hbW.size;have:=hB1.size;simp;omega)
   obtain⟨g',cap',rfl⟩:=ownsRow_succ hown'
   obtain⟨f1,f2,f3,f4,f5,f6⟩:=tN (Bb:=w.heap.size+1+1+1) (Bd:=w.heap.size+1+1+1+1) hbW bv hrow hB1.size Mo hown' hg hb3 hb4 Mo Mo
   have bv2:Boxed w' (w.heap.size+1+1) 79 v:=(hbW.block _ bv.lt).trans bv
   have cv3:=(bv2.alloc (.cells #[.int .i64 (bb x).client,.int .i64 (bb x).seq,.int .i64 (bb x).index,.int .i64 (bb x).last] 239)).cell
   have cv2:=(hbW.cell (p:=⟨w.heap.size+1+1,0,none⟩) bv.lt).trans cv
   have cv4:=f1.cell
   have fv4:=f1.frozen
   dsimp only[gb]
   refine hK _ _ ?_
   clear hK K
   refine wpAnyIn_ready (rs:=[3]) Mp Mr ?_
   refine AllReadyIn.cons rfl (λK hK=>?_) AllReadyIn.nil
   go_simp
   refine hK _ _ ?_
   clear hK K
   refine wpAnyIn_ready (rs:=[4]) Mp Mr ?_
   refine nn rfl rfl (hI rfl rfl rfl hrun ?_)
   refine wpAnyIn_ready (rs:=[5]) Mp Mr ?_
   refine AllReadyIn.cons rfl (λK hK=>?_) AllReadyIn.nil
   go_simp
   refine hK _ _ ?_
   clear hK K
   refine wpAnyIn_done Mp ?_ _
   exact⟨f4.from _,f6,⟨⟨⟨⟨_,f2,by rw[js,List.length_append];exact f3,trivial⟩,hB1.trans f5⟩,Nat.le_trans hs5 f5.size⟩,(f6.2 _ (.inr (.inl rfl))).trans hb3,(f6.2 _ (.inr (.inr rfl))).trans hb4⟩⟩
  ·go_simp
   refine hK _ _ ?_
   clear hK K
   refine wpAnyIn_ready (rs:=[0,2]) Mp Mr ?_
   refine AllReadyIn.cons rfl (λK hK=>?_) (AllReadyIn.cons rfl (λK hK=>?_) AllReadyIn.nil)
   ·go_simp
    refine hK _ _ ?_
    clear hK K
    refine wpAnyIn_ready (rs:=[2]) Mp Mr ?_
    refine AllReadyIn.cons rfl (λK hK=>?_) AllReadyIn.nil
    go_simp
    refine⟨trivial,?_⟩
    gi_at_call 302
    refine(CallsIn.inRound l (callsIn_wide.2 (lM x _ (qn hgd hB1)))).mono ?_
    rintro e w' ⟨rfl,hb⟩
    have hbW:Below W.heap.size W w':=oq hb
    obtain⟨v',w4,hrun,hown',hg,_⟩:=run_append_own (P:=Tryz.prog) (w:=w'.alloc (.cells #[.int .i64 (bb x).client,.int .i64 (bb x).seq,.int .i64 (bb x).index,.int .i64 (bb x).last] 239)) w.heap.size 79 79 239 i0 _ 4 32 underlying79 hi hz0 hz1 hz2 rfl Mq v pre.length (lL pre) ((fG hrow hbW).alloc _) ⟨w'.heap.size,0,none⟩ 1 1 (gb (bb x)).toList rfl (qr _ _) (by simp[gb,Value.oneCell']) (by unfold maxLen;omega) Mo (by have:=hbW.size;have:=hB1.size;simp;omega)
    obtain⟨g',cap',rfl⟩:=ownsRow_succ hown'
    obtain⟨f1,f2,f3,f4,f5,f6⟩:=tN (Bb:=w.heap.size+1+1+1) (Bd:=w.heap.size+1+1+1+1) hbW bv hrow hB1.size Mo hown' hg hb3 hb4 Mo Mo
    have bv2:Boxed w' (w.heap.size+1+1) 79 v:=(hbW.block _ bv.lt).trans bv
    have cv3:=(bv2.alloc (.cells #[.int .i64 (bb x).client,.int .i64 (bb x).seq,.int .i64 (bb x).index,.int .i64 (bb x).last] 239)).cell
    have cv2:=(hbW.cell (p:=⟨w.heap.size+1+1,0,none⟩) bv.lt).trans cv
    have cv4:=f1.cell
    have fv4:=f1.frozen
    dsimp only[gb]
    refine hK _ _ ?_
    clear hK K
    refine wpAnyIn_ready (rs:=[3]) Mp Mr ?_
    refine AllReadyIn.cons rfl (λK hK=>?_) AllReadyIn.nil
    go_simp
    refine hK _ _ ?_
    clear hK K
    refine wpAnyIn_ready (rs:=[4]) Mp Mr ?_
    refine nn rfl rfl (hI rfl rfl rfl hrun ?_)
    refine wpAnyIn_ready (rs:=[5]) Mp Mr ?_
    refine AllReadyIn.cons rfl (λK hK=>?_) AllReadyIn.nil
    go_simp
    refine hK _ _ ?_
    clear hK K
    refine wpAnyIn_done Mp ?_ _
    exact⟨f4.from _,f6,⟨⟨⟨⟨_,f2,by rw[js,List.length_append];exact f3,trivial⟩,hB1.trans f5⟩,Nat.le_trans hs5 f5.size⟩,(f6.2 _ (.inr (.inl rfl))).trans hb3,(f6.2 _ (.inr (.inr rfl))).trans hb4⟩⟩
   ·go_simp
    refine⟨trivial,?_⟩
    gi_at_call 302
    refine(CallsIn.inRound l (callsIn_wide.2 (lM x _ (qn hgd hB1)))).mono ?_
    rintro e w' ⟨rfl,hb⟩
    have hbW:Below W.heap.size W w':=oq hb
    obtain⟨v',w4,hrun,hown',hg,_⟩:=run_append_own (P:=Tryz.prog) (w:=w'.alloc (.cells #[.int .i64 (bb x).client,.int .i64 (bb x).seq,.int .i64 (bb x).index,.int .i64 (bb x).last] 239)) w.heap.size 79 79 239 i0 _ 4 32 underlying79 hi hz0 hz1 hz2 rfl Mq v pre.length (lL pre) ((fG hrow hbW).alloc _) ⟨w'.heap.size,0,none⟩ 1 1 (gb (bb x)).toList rfl (qr _ _) (by simp[gb,Value.oneCell']) (by unfold maxLen;omega) Mo (by have:=hbW.size;have:=hB1.size;simp;omega)
    obtain⟨g',cap',rfl⟩:=ownsRow_succ hown'
    obtain⟨f1,f2,f3,f4,f5,f6⟩:=tN (Bb:=w.heap.size+1+1+1) (Bd:=w.heap.size+1+1+1+1) hbW bv hrow hB1.size Mo hown' hg hb3 hb4 Mo Mo
    have bv2:Boxed w' (w.heap.size+1+1) 79 v:=(hbW.block _ bv.lt).trans bv
    have cv3:=(bv2.alloc (.cells #[.int .i64 (bb x).client,.int .i64 (bb x).seq,.int .i64 (bb x).index,.int .i64 (bb x).last] 239)).cell
    have cv2:=(hbW.cell (p:=⟨w.heap.size+1+1,0,none⟩) bv.lt).trans cv
    have cv4:=f1.cell
    have fv4:=f1.frozen
    dsimp only[gb]
    refine hK _ _ ?_
    clear hK K
    refine wpAnyIn_ready (rs:=[0,3]) Mp Mr ?_
    refine AllReadyIn.cons rfl (λK hK=>?_) (AllReadyIn.cons rfl (λK hK=>?_) AllReadyIn.nil)
    ·go_simp
     refine hK _ _ ?_
     clear hK K
     refine wpAnyIn_ready (rs:=[3]) Mp Mr ?_
     refine AllReadyIn.cons rfl (λK hK=>?_) AllReadyIn.nil
     go_simp
     refine hK _ _ ?_
     clear hK K
     refine wpAnyIn_ready (rs:=[4]) Mp Mr ?_
     refine nn rfl rfl (hI rfl rfl rfl hrun ?_)
     refine wpAnyIn_ready (rs:=[5]) Mp Mr ?_
     refine AllReadyIn.cons rfl (λK hK=>?_) AllReadyIn.nil
     go_simp
     refine hK _ _ ?_
     clear hK K
     refine wpAnyIn_done Mp ?_ _
     exact⟨f4.from _,f6,⟨⟨⟨⟨_,f2,by rw[js,List.length_append];exact f3,trivial⟩,hB1.trans f5⟩,Nat.le_trans hs5 f5.size⟩,(f6.2 _ (.inr (.inl rfl))).trans hb3,(f6.2 _ (.inr (.inr rfl))).trans hb4⟩⟩
    ·go_simp
     refine hK _ _ ?_
     clear hK K
     refine wpAnyIn_ready (rs:=[0]) Mp Mr ?_
     refine AllReadyIn.cons rfl (λK hK=>?_) AllReadyIn.nil
     go_simp
     refine hK _ _ ?_
     clear hK K
     refine wpAnyIn_ready (rs:=[4]) Mp Mr ?_
     refine nn rfl rfl (hI rfl rfl rfl hrun ?_)
     refine wpAnyIn_ready (rs:=[5]) Mp Mr ?_
     refine AllReadyIn.cons rfl (λK hK=>?_) AllReadyIn.nil
     go_simp
     refine hK _ _ ?_
     clear hK K
     refine wpAnyIn_done Mp ?_ _
     exact⟨f4.from _,f6,⟨⟨⟨⟨_,f2,by rw[js,List.length_append];exact f3,trivial⟩,hB1.trans f5⟩,Nat.le_trans hs5 f5.size⟩,(f6.2 _ (.inr (.inl rfl))).trans hb3,(f6.2 _ (.inr (.inr rfl))).trans hb4⟩⟩
 case done=>
  rintro D zs W hD rfl ⟨⟨⟨⟨v,bv,hrow,_⟩,hB1⟩,hs5⟩,_⟩ hK
  have cv:=bv.cell
  gi_wp2
  refine⟨by simp,.inl ⟨_,_,rfl,run_takeDeferred hK,?_⟩⟩
  exact⟨_,results_tmp rfl _ _ _,_,rfl,hB1.trans (belowK_b (w:=w) (Nat.le_refl _) W D _ _ Mo hK rfl rfl),ownsRow_putObj hrow _ hK rfl⟩
 case stop=>
  rintro D c pre W _ _ h _
  exact h.elim
theorem yK(b:DBook)(d:Int):dQ (d+1) b.entries=cY b d:=rfl
theorem D7(l:List DEntry):lL l=((l.map bb).map λa=>(gb a).toList).flatten:=by simp[lL,List.map_map,Function.comp_def]
theorem D8{Z:Nat->Prop}{w:World}{a:DAck}{j:Nat}{x:AD}{u:Value}(h1:a.ds[j]? =some x)(h2:(gb a).toList[j]? =some u):bl Z w x u:=by
 match j,h1,h2 with
 |0,h1,h2=>simp[DAck.ds,gb]at h1 h2;subst h1 h2;exact .pv _ rfl
 |1,h1,h2=>simp[DAck.ds,gb]at h1 h2;subst h1 h2;exact .pv _ rfl
 |2,h1,h2=>simp[DAck.ds,gb]at h1 h2;subst h1 h2;exact .pv _ rfl
 |3,h1,h2=>simp[DAck.ds,gb]at h1 h2;subst h1 h2;exact .pv _ rfl
 |n+4,h1,h2=>simp[DAck.ds]at h1
theorem D9{Z:Nat->Prop}{w:World}{base:Nat}{v:Value}{l:List DAck}(hz:∀b,base<=b->b<w.heap.size->Z b)(h:w.ownsRow base 239 4 v l.length (l.map λa=>(gb a).toList).flatten):bl Z w (.sl (l.map DAck.ds)) v:=by
 have hx:∀x∈l.map DAck.ds,x.length=4:=λx hx=>by obtain⟨a,_,rfl⟩:=List.mem_map.1 hx;rfl
 have hu:∀u∈l.map (λa=>(gb a).toList),u.length=4:=λu hu=>by obtain⟨a,_,rfl⟩:=List.mem_map.1 hu;rfl
 have hr:∀(i j:Nat) x u a b,(l.map DAck.ds)[i]? =some x->(l.map λa=>(gb a).toList)[i]? =some u->x[j]? =some a->u[j]? =some b->bl Z w a b:=λi j x u a b h1 h2 h3 h4=>by
  rw[List.getElem?_map]at h1 h2
  obtain⟨c,hc,rfl⟩:=Option.map_eq_some_iff.1 h1
  obtain⟨c',hc',rfl⟩:=Option.map_eq_some_iff.1 h2
  rw[hc]at hc'
  injection hc' with hc'
  subst hc'
  exact D8 h3 h4
 rcases h.2 with⟨rfl,h0⟩|⟨g,cap,cur,rfl,hb,hgb,hn,hm,hs,ht⟩
 ·have:l=[]:=List.eq_nil_of_length_eq_zero h0
  subst this
  exact bl.sl [] none 0 4 [] (Nat.le_refl _) Mq rfl hx hu (.inl rfl) hr
 ·have:=bl.sl (Z:=Z) (w:=w) (l.map DAck.ds) (some ⟨g,0,none⟩) cap 4 (l.map λa=>(gb a).toList) (by simpa using hn) hm Mr hx hu (.inr ⟨g,0,rfl,hz g hb (Array.getElem?_eq_some_iff.1 hgb).1,λi u hi=>by
   rw[<-ht,List.getElem?_take]at hi
   split at hi
   ·simp only[World.cell?,hgb]
    simpa using hi
   ·cases hi⟩) hr
  simpa using this
theorem FJ(e:DEntry):∀(j:Nat) (d:AD),e.ds[j]? =some d->∃u,d= .pv u/\(dZ e)[j]? =some u:=λj d h=>by
 match j,h with
 |0,h=>simp[DEntry.ds]at h;subst h;exact⟨_,rfl,rfl⟩
 |1,h=>simp[DEntry.ds]at h;subst h;exact⟨_,rfl,rfl⟩
 |2,h=>simp[DEntry.ds]at h;subst h;exact⟨_,rfl,rfl⟩
 |3,h=>simp[DEntry.ds]at h;subst h;exact⟨_,rfl,rfl⟩
 |4,h=>simp[DEntry.ds]at h;subst h;exact⟨_,rfl,rfl⟩
 |5,h=>simp[DEntry.ds]at h;subst h;exact⟨_,rfl,rfl⟩
 |6,h=>simp[DEntry.ds]at h;subst h;exact⟨_,rfl,rfl⟩
 |7,h=>simp[DEntry.ds]at h;subst h;exact⟨_,rfl,rfl⟩
 |8,h=>simp[DEntry.ds]at h;subst h;exact⟨_,rfl,rfl⟩
 |n+9,h=>simp[DEntry.ds]at h
theorem FK{Z:Nat->Prop}{w:World}(hz:∀b,Z b->b<w.heap.size){es:List DEntry}{v:Value}(h:bl Z w (.sl (es.map DEntry.ds)) v):∃A cap,v= .slice A es.length cap/\lC w.heap.size w A es:=by
 generalize hx:es.map DEntry.ds=xs at h
 cases h with
 |sl _ A cap s us hc hm hl hxs hu hr hh=>
  subst hx
  refine⟨A,cap,by simp,?_⟩
  rcases hr with h0|⟨b,off,rfl,hb,hcell⟩
  ·left
   cases es with
   |nil=>rfl
   |cons e r=>
    exfalso
    cases us with
    |nil=>simp at hl
    |cons u us=>
     have h1:=hxs e.ds Mr
     have h2:=hu u Mr
     simp[DEntry.ds]at h1
     simp at h0
     rw[h0.1]at h2
     simp at h2
     omega
  ·refine .inr ⟨b,off,rfl,hz b hb,λk hk j u hj=>?_⟩
   have hs:s=9:=by
    have:=hxs (es[k]).ds (List.mem_map.2 ⟨_,List.getElem_mem hk,rfl⟩)
    simpa[DEntry.ds]using this.symm
   subst hs
   have hku:k<us.length:=by rw[hl];simpa using hk
   have hul:us[k].length=9:=hu _ (List.getElem_mem hku)
   have hj9:j<9:=by
    have:=(Array.getElem?_eq_some_iff.1 hj).1
    simpa[dZ]using this
   have hdj:j<(es[k]).ds.length:=by simpa[DEntry.ds]using hj9
   obtain⟨u',e1,e2⟩:=FJ es[k] j _ (List.getElem?_eq_getElem hdj)
   rw[hj]at e2
   injection e2 with e2
   subst e2
   have hrel:=hh k j (es[k]).ds us[k] _ (us[k]'hku)[j] (by simp[hk]) (List.getElem?_eq_getElem hku) (List.getElem?_eq_getElem hdj) (List.getElem?_eq_getElem Mo)
   rw[e1]at hrel
   have e3:(us[k]'hku)[j]=u:=by cases hrel;rfl
   have hf:=pb hu (List.getElem?_eq_getElem hku) hj9
   have hg:(us[k]'hku)[j]? =some u:=by rw[List.getElem?_eq_getElem Mo,e3]
   rw[hg]at hf
   have:=hcell _ _ hf
   rwa[<-Nat.add_assoc]at this
theorem EW:DM:=λb d hb h1 h2=>by
 have hp:=bJ hb
 have hq:=co hb
 refine⟨call252,λZ w us hz hg hul hr=>?_⟩
 match us,hul with
 |[],hul=>simp at hul
 |[_],hul=>simp at hul
 |_::_::_::_,hul=>simp at hul
 |[u,t],hul=>
  obtain⟨cs,rfl,hcl,hcr⟩:=hr 0 _ u rfl rfl
  have ht:t= .int .i64 d:=hU rfl (show bl Z w (dI d) t from hr 1 _ t rfl rfl)
  subst ht
  match cs,hcl with
  |[],hcl=>simp[DBook.ds]at hcl
  |[_],hcl=>simp[DBook.ds]at hcl
  |[_,_],hcl=>simp[DBook.ds]at hcl
  |_::_::_::_::_,hcl=>simp[DBook.ds]at hcl
  |[c0,c1,c2],hcl=>
   have e0:c0= .int .i64 b.base:=hU rfl (show bl Z w (dI b.base) c0 from hcr 0 _ c0 rfl rfl)
   have e1:c1= .int .i64 b.time:=hU rfl (show bl Z w (dI b.time) c1 from hcr 1 _ c1 rfl rfl)
   subst e0 e1
   obtain⟨A,cap,rfl,hA⟩:=FK hz (show bl Z w (.sl (b.entries.map DEntry.ds)) c2 from hcr 2 _ c2 rfl rfl)
   refine Calls.mono (callsIn_wide.1 (Gf b.base b.time d A cap b.entries hp.2.2.1 ⟨by omega,by omega⟩ w (by obtain⟨w1,g1,g2,_⟩:=hg;exact⟨w1,g1,g2⟩) hA)) ?_
   rintro e w' ⟨v,rfl,hbl,hrow⟩
   refine⟨v,λb=>Z b\/(w.heap.size<=b/\b<w'.heap.size),rfl,hbl,λb h=> .inl h,λb h=>h,?_⟩
   rw[yK,D7]at hrow
   exact D9 (base:=w.heap.size) (λb h1 h2=> .inr ⟨h1,h2⟩) (by simpa using hrow)
end Go.Proofs.YtehobfglmeiglaaGreatDoor
