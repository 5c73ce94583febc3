/- WOx -/
import Derived.Test.YtknefkdcokgpbaaGreatWOw
import Derived.Test.YtknefkdcokgpbaaGreatWB7
set_option maxHeartbeats 8000000
set_option linter.unusedVariables false
set_option linter.unusedSimpArgs false
set_option maxRecDepth 100000
open List (getElem?_eq_getElem length_append mem_map)
namespace Go.Proofs.YtknefkdcokgpbaaGreat
open Go.Proofs.Tryz
open Go.RowKit Go.Shelf
variable {a:Act}{Q:Exit->Act->World->Prop}{F:Fence}{xs:List Value}{Bb Bd base j k n size:Nat}{Z:Nat->Prop}{o:Oper}{P:Program}{e t:TypeId}{v:Value}{W w w':World}
attribute [local go_sem] Oper.semAt_some
def mp(a:DAck):Array Value:= #[.int .i64 a.client,.int .i64 a.seq,.int .i64 a.index,.int .i64 a.last]
def Mz(w:World):Prop:=∃w1,av.W w1/\Below w1.heap.size w1 w
theorem x9(h:Mz w)(hB:Below w.heap.size w W):Mz W.drew:=by
 obtain⟨w1,h1,h2⟩:=h;have h3:=h2.trans (hB.mono h2.size);exact⟨w1,h1,⟨h3.os,h3.tape,h3.output,h3.size,λk hk=>h3.block k hk⟩⟩
theorem r5(e:DEntry)(w:World)(hgd:Mz w):Calls Tryz.prog 431 #[.agg (jp e)] w λe' w'=>e'= .returned (.agg (mp (cN e)))/\Below w.heap.size w w':=by
 obtain⟨w1,g1,g2⟩:=hgd;have h:=(P8 e).run (λb=>b<w.heap.size) w [.agg (jp e)] (λ_ h=>h) ⟨w1,g1,g2,λ_ h=>Nat.lt_of_lt_of_le h g2.size⟩ rfl (λi p u hp hu=>by
  match i,hp,hu with
  |0,hp,hu=>
   simp at hp hu;subst hp hu;refine⟨(jp e).toList,by simp,rfl,λj d u hd hu=>?_⟩;match j,hd,hu with
   |0,hd,hu=>simp[DEntry.ds,jp]at hd hu;subst hd hu;exact .pv _ rfl
   |1,hd,hu=>simp[DEntry.ds,jp]at hd hu;subst hd hu;exact .pv _ rfl
   |2,hd,hu=>simp[DEntry.ds,jp]at hd hu;subst hd hu;exact .pv _ rfl
   |3,hd,hu=>simp[DEntry.ds,jp]at hd hu;subst hd hu;exact .pv _ rfl
   |4,hd,hu=>simp[DEntry.ds,jp]at hd hu;subst hd hu;exact .pv _ rfl
   |5,hd,hu=>simp[DEntry.ds,jp]at hd hu;subst hd hu;exact .pv _ rfl
   |6,hd,hu=>simp[DEntry.ds,jp]at hd hu;subst hd hu;exact .pv _ rfl
   |7,hd,hu=>simp[DEntry.ds,jp]at hd hu;subst hd hu;exact .pv _ rfl
   |8,hd,hu=>simp[DEntry.ds,jp]at hd hu;subst hd hu;exact .pv _ rfl
   |n+9,hd,hu=>simp[DEntry.ds]at hd
  |n+1,hp,hu=>simp at hp)
 refine Calls.mono h ?_;rintro e' w' ⟨v,Z',rfl,hb,_,_,hr⟩;have:=M9 (p:= .agg (cN e).ds) rfl hr;exact⟨by rw[this];rfl,hb⟩
theorem Oo(F:Fence)(n:Nat)(hf:F.fn 430)(hro:F.round=none)(c0 c1 c2:Value)(d:Int)(w:World):
  CallsIn F n Tryz.prog 430 #[.agg #[c0,c1,c2],.int .i64 d] w λe w'=>e= .returned (.func (.func 471) #[] #[.pointer (some ⟨w.heap.size,0,none⟩),.pointer (some ⟨w.heap.size+1,0,none⟩)])/\w'=(w.alloc (.cells #[c0,c1,c2] 77)).alloc (.cells #[.int .i64 d] 2):=by
 refine callsIn_of_wp func430 rfl hf ?_ hro;simp only[ntmps430,List.size_toArray,List.length_cons,List.length_nil,Nat.reduceAdd,Nat.reduceSub,Array.replicate_succ,Array.replicate_zero,List.push_toArray,List.append_toArray,List.nil_append,List.cons_append];gi_wp2
 go_ret
 exact⟨rfl,rfl⟩
theorem QG(F:Fence)(n:Nat)(hf:F.fn 471)(hro:F.round=none)(hn:1<=n)(Bb Bd n₀:Nat)(A:Option Addr)(cap:Nat)(es:List DEntry)(d:Int)(hes:es.length<=20)(w:World)(hBb:Bb<w.heap.size)(hBd:Bd<w.heap.size)(hn₀:n₀<=w.heap.size)
  (hcb:w.cell? ⟨Bb,2,none⟩=some (.slice A es.length cap)) (hcd:w.cell? ⟨Bd,0,none⟩=some (.int .i64 d)) (hA:rN n₀ w A es):
  SeqStopsK F n Tryz.prog 471 #[.pointer (some ⟨Bb,0,none⟩),.pointer (some ⟨Bd,0,none⟩)] (λe:DEntry=> #[Value.agg (jp e)]) (gr n₀ Bb Bd) (λys=>ys=jf d es) (λpre=>pre<+:jf d es) es.length w:=λl J Jx W hW hJ _ hY h0=>by
 have hs:=hW.size;refine Oq F n hf hro hn l Bb Bd n₀ A cap es d hes J Jx hY W hJ ac ac ac ((hW.cell (p:=⟨Bb,2,none⟩) hBb).trans hcb) ((hW.cell (p:=⟨Bd,0,none⟩) hBd).trans hcd) ?_ h0;rcases hA with h|⟨b,off,e,hb,hc⟩
 ·exact .inl h
 ·exact .inr ⟨b,off,e,hb,λk hk j u hu=>(hW.cell (p:=⟨b,off+k*9+j,none⟩) (show b<w.heap.size by omega)).trans (hc k hk j u hu)⟩
def rY(l:List DEntry):List Value:=(l.map λe=>(mp (cN e)).toList).flatten
theorem Qj{n₀:Nat}(h0:n₀<=w.heap.size)(h1:Bb<w.heap.size)(h2:Bd<w.heap.size):∀(W:World) (l:Nat) (o o':Obj),w.heap.size<=l->W.heap[l]? =some o->o.isCells=false->o.isWalk=false->gr n₀ Bb Bd W (W.putObj l o'):=
 λW l o o' hl ho _ _=>⟨by simp,λk hk=>World.putObj_heap_other ac⟩
theorem IN{β:Type}(B0 B:Nat)(cs:Array Value)(t:TypeId):OwnFrom B0 (fun(_:β) W=>W.heap[B]? =some (.cells cs t (0,0))):=λ_ X Y row hs hg hr=>
 (hg.block B (Array.getElem?_eq_some_iff.1 hs).1 λe=>by
  obtain⟨_,o,ho,hc⟩:=hr B e.symm;rw[hs]at ho;cases ho;cases hc).trans hs
theorem lw{W':World}(h:W.ownsRow base e size v k xs)(hb:Below W.heap.size W W'):W'.ownsRow base e size v k xs:=by
 refine⟨h.1,?_⟩;rcases h.2 with h2|⟨g,cap,cur,h1,h2,h3,h4⟩
 ·exact .inl h2
 ·exact .inr ⟨g,cap,cur,h1,h2,(hb.block g (Array.getElem?_eq_some_iff.1 h3).1).trans h3,h4⟩
theorem Na(h:W.ownsRow base e size v k xs){cs:Array Value}(hj:W.heap[j]? =some (.cells cs t (0,0)))(hne:t≠e):some j≠v.ownBlock:=by
 rcases h.2 with⟨rfl,_⟩|⟨g,cap,cur,rfl,_,hgb,_⟩
 ·simp[Value.ownBlock]
 ·intro e';have:g=j:=by simpa[Value.ownBlock]using e'.symm
  subst this;rw[hgb]at hj;injection hj with hj
  injection hj with _ h2 _
  exact hne h2.symm
theorem Qg:(Tryz.prog.info? 240).map (λi=>(i.zero,i.size,i.bytes))=some (some (.agg #[.int .i64 0,.int .i64 0,.int .i64 0,.int .i64 0]),4,32):=by kernel_rfl
theorem pK(l:List DEntry)(e:DEntry):rY (l++[e])=rY l++(mp (cN e)).toList:=by simp[rY]
theorem yf(w':World)(a:DAck):∀j u,(mp a).toList[j]? =some u->(w'.alloc (.cells #[.int .i64 a.client,.int .i64 a.seq,.int .i64 a.index,.int .i64 a.last] 240)).cell? ((⟨w'.heap.size,0,none⟩:Addr).add j)=some u:=λj u hu=>by
 have h0:=World.alloc_heap_new w' (.cells #[.int .i64 a.client,.int .i64 a.seq,.int .i64 a.index,.int .i64 a.last] 240);have e:(⟨w'.heap.size,0,none⟩:Addr).add j=⟨w'.heap.size,j,none⟩:=by unfold Addr.add;split<;>simp_all
 rw[e];simp only[World.cell?,h0];simpa[mp]using hu
theorem vJ(h:Below W.drew.heap.size W.drew w'):Below W.heap.size W w':=
 ⟨h.os,h.tape,h.output,h.size,λk hk=>h.block k hk⟩
theorem nY{F:Fence}{n:Nat}{P:Program}{a:Act}{w w':World}{K:Act->World->Prop}{Q:Exit->Act->World->Prop}{s x:Operand}{v v':Value}{ad:Addr}{m c:Nat}(hop:o.op=Op.call {callee:=Callee.builtin Builtin.append,args:= #[s,x],argTypes:= #[t,t]})
  (hs:a.eval s=v) (hx:a.eval x= .slice (some ad) m c) (hrun:(Builtin.append_ #[t,t] o.type #[v,.slice (some ad) m c]).run P w= .ok v' w') (hK:K (a.put o.dst v') w'):o.wpIn F n P a w K Q:=by
 unfold Oper.wpIn;refine⟨?_,?_⟩
 ·simp[Oper.about,hop,resolve,Target.leads,Sem.run_pure]
 ·rw[Oper.semAt_plain F _ _ (by rw[hop];intro c hc';cases hc')];simp[execOp,hop,resolve,invoke,builtin,hs,hx,hrun,Result.andThen];exact hK
theorem um{md:Region.Mode}{ops:Array Oper}{fuel:Nat}{listed:Array Bool}{i:Nat}(ho:ops[i]? =some o)(hg:o.guard=none)(h:o.wpIn F n P a w (wpAnyIn F n P md ops Q fuel (listed.setIfInBounds i true)) Q):AllReadyIn F n P md ops Q fuel listed a w [i]:=
 .cons ho (λK hK=>by rw[if_pos (by simp[Region.wanted,hg])];exact Oper.wpIn_mono hK h) .nil
theorem CB{w4:World}{B Bb Bd:Nat}{v':Value}{ys:List Value}{tmp:Obj}{c3 c4:Array Value}(hb:Below W.heap.size W w')(bv:Boxed W B 78 v)(hrow:W.ownsRow n 240 4 v k xs)(hn:n<=W.heap.size)(hB:n<=B)
  (hown':w4.ownsRow n 240 4 v' (k+1) ys) (hg:(w'.alloc tmp).grownBy w4 v.ownBlock) (h3:W.heap[Bb]? =some (.cells c3 77 (0,0))) (h4:W.heap[Bd]? =some (.cells c4 2 (0,0))) (hne3:Bb≠B) (hne4:Bd≠B):
  Boxed w4 B 78 v/\Boxed (w4.setCell ⟨B,0,none⟩ v') B 78 v'/\(w4.setCell ⟨B,0,none⟩ v').ownsRow n 240 4 v' (k+1) ys/\KeepsOthers W (w4.setCell ⟨B,0,none⟩ v')/\Below n W (w4.setCell ⟨B,0,none⟩ v')/\gr n Bb Bd W (w4.setCell ⟨B,0,none⟩ v'):=by
 have bv':Boxed w' B 78 v:=(hb.block B bv.lt).trans bv;have hrow':=lw hrow hb;have hs:=hb.size;obtain⟨a1,a2,a3,a4,a5⟩:=bv'.appended ah hrow' ac hB hown' hg;have hbn:Below n W w':=hb.mono hn;refine⟨a1,a2,a3,(KeepsOthers.mk hs λk o h _=>(hb.block k (Array.getElem?_eq_some_iff.1 h).1).trans h).trans a4,hbn.trans a5,(hbn.trans a5).size,λj hj=>?_⟩;rcases hj with hj|hj|hj
 ·exact(hbn.trans a5).block j hj
 ·subst hj;have e1:=(hb.block j (Array.getElem?_eq_some_iff.1 h3).1).trans h3;have e2:=(Below.heap_alloc w' tmp j (Array.getElem?_eq_some_iff.1 e1).1).trans e1;have e3:=(hg.block j (Array.getElem?_eq_some_iff.1 e2).1 (Na hrow' e1 ah)).trans e2;rw[Below.heap_setCell _ _ _ j hne3,e3,h3]
 ·subst hj;have e1:=(hb.block j (Array.getElem?_eq_some_iff.1 h4).1).trans h4;have e2:=(Below.heap_alloc w' tmp j (Array.getElem?_eq_some_iff.1 e1).1).trans e1;have e3:=(hg.block j (Array.getElem?_eq_some_iff.1 e2).1 (Na hrow' e1 ah)).trans e2;rw[Below.heap_setCell _ _ _ j hne4,e3,h4]
theorem Sy(base time d:Int)(A:Option Addr)(cap:Nat)(es:List DEntry)(hes:es.length<=20)(hd:0<=d/\d<=3000)(w:World)(hgd:Mz w)(hA:rN w.heap.size w A es):
  CallsIn Fence.wide 10 Tryz.prog 366 #[.agg #[.int .i64 base,.int .i64 time,.slice A es.length cap],.int .i64 d] w λe W'=>∃v,e= .returned v/\Below w.heap.size w W'/\W'.ownsRow w.heap.size 240 4 v (jf (d+1) es).length (rY (jf (d+1) es)):=by
 refine callsIn_of_wp_marks func366 rfl trivial ?_ rfl;simp only[ntmps366,List.size_toArray,List.length_cons,List.length_nil,Nat.reduceAdd,Nat.reduceSub,Array.replicate_succ,Array.replicate_zero,List.push_toArray,List.append_toArray,List.nil_append,List.cons_append];have hwr:wrap64 (d+1)=d+1:=by unfold wrap64;omega
 gi_wp2_with (refine⟨trivial,?_⟩;gi_at_call 430;refine(Oo Fence.wide _ trivial rfl _ _ _ _ _).mono ?_;rintro e w' ⟨rfl,rfl⟩)
 have hW0:∃W0,((((w.alloc (.cells #[.int .i64 base,.int .i64 time,.slice A es.length cap] 77)).alloc (.cells #[] 240)).alloc (.cells #[.slice (some ⟨w.heap.size+1,0,none⟩) 0 0] 78)).alloc (.cells #[.int .i64 base,.int .i64 time,.slice A es.length cap] 77)).alloc (.cells #[.int .i64 (d+1)] 2)=W0:=⟨_,rfl⟩;obtain⟨W0,hW0⟩:=hW0;have hsz:W0.heap.size=w.heap.size+5:=by rw[<-hW0];simp
 have hB0:Below w.heap.size w W0:=by
  rw[<-hW0];exact(((((Below.refl _ w).alloc (Nat.le_refl _) _).alloc ar _).alloc ar _).alloc ar _).alloc ar _
 have at_:∀(W:World) (o:Obj) (k:Nat),k=W.heap.size->(W.alloc o).heap[k]? =some o:=λW o k h=>by subst h;exact World.alloc_heap_new W o
 have keep:∀(W:World) (o o2:Obj) (k:Nat),k<W.heap.size->W.heap[k]? =some o2->(W.alloc o).heap[k]? =some o2:=λW o o2 k h h2=>(Below.heap_alloc W _ k h).trans h2;have bT:Boxed W0 (w.heap.size+1+1) 78 (.slice (some ⟨w.heap.size+1,0,none⟩) 0 0):=by
  rw[<-hW0];exact keep _ _ _ _ ar (keep _ _ _ _ ar (at_ _ _ _ aj))
 have hR:W0.heap[w.heap.size+1]? =some (.cells #[] 240 (0,0)):=by
  rw[<-hW0];exact keep _ _ _ _ ar (keep _ _ _ _ ar (keep _ _ _ _ ar (at_ _ _ _ aj)))
 have hBb:W0.heap[w.heap.size+1+1+1]? =some (.cells #[.int .i64 base,.int .i64 time,.slice A es.length cap] 77 (0,0)):=by
  rw[<-hW0];exact keep _ _ _ _ ar (at_ _ _ _ aj)
 have hBd:W0.heap[w.heap.size+1+1+1+1]? =some (.cells #[.int .i64 (d+1)] 2 (0,0)):=by
  rw[<-hW0];exact at_ _ _ _ aj
 clear at_ keep;have cB:W0.cell? ⟨w.heap.size+1+1+1,2,none⟩=some (.slice A es.length cap):=by simp[World.cell?,hBb]
 have cD:W0.cell? ⟨w.heap.size+1+1+1+1,0,none⟩=some (.int .i64 (d+1)):=by simp[World.cell?,hBd]
 have hrow0:W0.ownsRow w.heap.size 240 4 (.slice (some ⟨w.heap.size+1,0,none⟩) 0 0) 0 []:=⟨rfl,.inr ⟨w.heap.size+1,0, #[],rfl,ac,hR,ac,by decide,rfl,rfl⟩⟩;have hA0:rN w.heap.size W0 A es:=by
  rcases hA with h|⟨b,off,e,hb,hc⟩
  ·exact .inl h
  ·exact .inr ⟨b,off,e,hb,λk hk j u hu=>(hB0.cell (p:=⟨b,off+k*9+j,none⟩) hb).trans (hc k hk j u hu)⟩
 rw[hW0];clear hW0;refine wpIn_rangeFunc_ownH rfl ah (gf:=471) (lb:= #[.pointer (some ⟨w.heap.size+1+1+1,0,none⟩),.pointer (some ⟨w.heap.size+1+1+1+1,0,none⟩)]) rfl trivial (enters_of func471 ae rfl)
  (QG Fence.wide 9 trivial rfl ac (w.heap.size+1+1+1) (w.heap.size+1+1+1+1) w.heap.size A cap es (d+1) hes W0 ac ac ac cB cD hA0) (λh h'=>h.trans h') (Qj ac ac ac) (Below.refl _ _) (λ_=>rfl)
  (λpre W=>(((∃v,Boxed W (w.heap.size+1+1) 78 v/\W.ownsRow w.heap.size 240 4 v pre.length (rY pre)/\True)/\Below w.heap.size w W)/\w.heap.size+5<=W.heap.size)/\(W.heap[w.heap.size+1+1+1]? =some (.cells #[.int .i64 base,.int .i64 time,.slice A es.length cap] 77 (0,0))/\W.heap[w.heap.size+1+1+1+1]? =some (.cells #[.int .i64 (d+1)] 2 (0,0))))
  (λ_ _ _=>False)
  (OwnFrom.and (OwnFrom.and (OwnFrom.and (Own.from (holdsRow_own w.heap.size (w.heap.size+1+1) 78 240 4 (λpre=>pre.length) rY (λ_ _=>True)) _) (ownFrom_below (Nat.le_refl _) ac)) (λ_ X Y row hs hg _=>Nat.le_trans hs hg.size)) (OwnFrom.and (IN _ _ _ _) (IN _ _ _ _)))
  (λ_ _ _ _ _ hs _ _=>hs)
  ⟨⟨⟨⟨_,bT,hrow0,trivial⟩,hB0⟩,ac⟩,hBb,hBd⟩
  (λx a' W=>∃Bx,w.heap.size+1+1+1+1<Bx/\W.heap[Bx]? =some (.cells (jp x) 332 (0,0))/\a'={tmps:= #[.agg #[.int .i64 base,.int .i64 time,.slice A es.length cap],.int .i64 d,.pointer (some ⟨w.heap.size,0,none⟩),undef,.slice none 0 0,.pointer (some ⟨w.heap.size+1+1,0,none⟩),.pointer (some ⟨Bx,0,none⟩),.slice (some ⟨w.heap.size+1,0,none⟩) 0 0,.agg #[.int .i64 base,.int .i64 time,.slice A es.length cap],.int .i64 d,.int .i64 (d+1),.func (.func 471) #[] #[.pointer (some ⟨w.heap.size+1+1+1,0,none⟩),.pointer (some ⟨w.heap.size+1+1+1+1,0,none⟩)],.agg (jp x),undef,undef,undef,undef,undef,undef],defers:=[]})
  (λx a' _ X Y row hs hg hr=>by
   obtain⟨Bx,h1,h2,h3⟩:=hs;refine⟨Bx,h1,(hg.block Bx (Array.getElem?_eq_some_iff.1 h2).1 λe=>?_).trans h2,h3⟩;obtain⟨_,o,ho,hc⟩:=hr Bx e.symm;rw[h2]at ho;cases ho;cases hc)
  ?assign ?body ?done ?stop
 case assign=>
  rintro l pre x W K ⟨⟨⟨⟨v,bv,hr,_⟩,hB1⟩,hs5⟩,hb3,hb4⟩ hK;simp only[jp];gi_wp2
  exact hK _ _ ((KeepsOthers.alloc _ _).from _) (gr.alloc W _ ac ac ac) ⟨⟨⟨⟨v,bv.alloc _,hr.alloc _,trivial⟩,hB1.alloc hB1.size _⟩,ar⟩,(Below.heap_alloc _ _ _ ac).trans hb3,(Below.heap_alloc _ _ _ ac).trans hb4⟩ ⟨W.heap.size,ac,World.alloc_heap_new W _,rfl⟩
 case body=>
  rintro l pre x a' W hl ⟨r,hr⟩ ⟨⟨⟨⟨v,bv,hrow,_⟩,hB1⟩,hs5⟩,hb3,hb4⟩ ⟨Bx,hBx,hbx,rfl⟩ hlt;have cv:=bv.cell;have x0:W.cell? ⟨Bx,0,none⟩=some (.int .i64 x.index):=by simp[World.cell?,hbx,jp]
  have x1:W.cell? ⟨Bx,1,none⟩=some (.int .i64 x.time):=by simp[World.cell?,hbx,jp]
  have x2:W.cell? ⟨Bx,2,none⟩=some (.int .i64 x.client):=by simp[World.cell?,hbx,jp]
  have x3:W.cell? ⟨Bx,3,none⟩=some (.int .i64 x.seq):=by simp[World.cell?,hbx,jp]
  have x4:W.cell? ⟨Bx,4,none⟩=some (.int .i64 x.op.kind):=by simp[World.cell?,hbx,jp]
  have x5:W.cell? ⟨Bx,5,none⟩=some (.int .i64 x.op.a):=by simp[World.cell?,hbx,jp]
  have x6:W.cell? ⟨Bx,6,none⟩=some (.int .i64 x.op.b):=by simp[World.cell?,hbx,jp]
  have x7:W.cell? ⟨Bx,7,none⟩=some (.int .i64 x.op.c):=by simp[World.cell?,hbx,jp]
  have x8:W.cell? ⟨Bx,8,none⟩=some (.int .i64 x.op.d):=by simp[World.cell?,hbx,jp]
  have hmx:Tryz.prog.follows .mixedOrders=true:=ae;obtain⟨i0,hi,hz0,hz1,hz2⟩:=info_parts Qg;gi_wp2
  refine wpIn_region_any ai ?_;change wpAnyIn _ _ _ _ _ _ _ _ _ (World.drew _);refine wpAnyIn_ready (rs:=[0,1]) ae aj ?_;refine AllReadyIn.cons rfl (λK hK=>?_) (AllReadyIn.cons rfl (λK hK=>?_) AllReadyIn.nil)
  ·go_simp
   refine hK _ _ ?_;clear hK K;refine wpAnyIn_ready (rs:=[1]) ae aj ?_;refine AllReadyIn.cons rfl (λK hK=>?_) AllReadyIn.nil;go_simp
   refine hK _ _ ?_;clear hK K;refine wpAnyIn_ready (rs:=[2]) ae aj ?_;refine AllReadyIn.cons rfl (λK hK=>?_) AllReadyIn.nil;go_simp
   refine⟨trivial,?_⟩;gi_at_call 431
   refine(CallsIn.inRound l (callsIn_wide.2 (r5 x _ (x9 hgd hB1)))).mono ?_;rintro e w' ⟨rfl,hb⟩;have hbW:Below W.heap.size W w':=vJ hb;obtain⟨v',w4,hrun,hown',hg,_⟩:=run_append_own (P:=Tryz.prog) (w:=w'.alloc (.cells #[.int .i64 (cN x).client,.int .i64 (cN x).seq,.int .i64 (cN x).index,.int .i64 (cN x).last] 240)) w.heap.size 78 78 240 i0 _ 4 32 underlying78 hi hz0 hz1 hz2 rfl ah v pre.length (rY pre) ((lw hrow hbW).alloc _) ⟨w'.heap.size,0,none⟩ 1 1 (mp (cN x)).toList rfl (yf _ _) (by simp[mp,Value.oneCell']) (by unfold maxLen;omega) ac (by have:=hbW.size;have:=hB1.size;simp;omega);obtain⟨g',cap',rfl⟩:=ownsRow_succ hown';obtain⟨f1,f2,f3,f4,f5,f6⟩:=CB (Bb:=w.heap.size+1+1+1) (Bd:=w.heap.size+1+1+1+1) hbW bv hrow hB1.size ac hown' hg hb3 hb4 ac ac;have bv2:Boxed w' (w.heap.size+1+1) 78 v:=(hbW.block _ bv.lt).trans bv;have cv3:=(bv2.alloc (.cells #[.int .i64 (cN x).client,.int .i64 (cN x).seq,.int .i64 (cN x).index,.int .i64 (cN x).last] 240)).cell;have cv2:=(hbW.cell (p:=⟨w.heap.size+1+1,0,none⟩) bv.lt).trans cv;have cv4:=f1.cell;have fv4:=f1.frozen;dsimp only[mp];refine hK _ _ ?_;clear hK K;refine wpAnyIn_ready (rs:=[3]) ae aj ?_;refine AllReadyIn.cons rfl (λK hK=>?_) AllReadyIn.nil;go_simp
   refine hK _ _ ?_;clear hK K;refine wpAnyIn_ready (rs:=[4]) ae aj ?_;refine um rfl rfl (nY rfl rfl rfl hrun ?_);refine wpAnyIn_ready (rs:=[5]) ae aj ?_;refine AllReadyIn.cons rfl (λK hK=>?_) AllReadyIn.nil;go_simp
   refine hK _ _ ?_;clear hK K;refine wpAnyIn_done ae ?_ _;exact⟨f4.from _,f6,⟨⟨⟨⟨_,f2,by rw[pK,length_append];exact f3,trivial⟩,hB1.trans f5⟩,Nat.le_trans hs5 f5.size⟩,(f6.2 _ (.inr (.inl rfl))).trans hb3,(f6.2 _ (.inr (.inr rfl))).trans hb4⟩⟩
  ·go_simp
   refine hK _ _ ?_;clear hK K;refine wpAnyIn_ready (rs:=[0,2]) ae aj ?_;refine AllReadyIn.cons rfl (λK hK=>?_) (AllReadyIn.cons rfl (λK hK=>?_) AllReadyIn.nil)
   ·go_simp
    refine hK _ _ ?_;clear hK K;refine wpAnyIn_ready (rs:=[2]) ae aj ?_;refine AllReadyIn.cons rfl (λK hK=>?_) AllReadyIn.nil;go_simp
    refine⟨trivial,?_⟩;gi_at_call 431
    refine(CallsIn.inRound l (callsIn_wide.2 (r5 x _ (x9 hgd hB1)))).mono ?_;rintro e w' ⟨rfl,hb⟩;have hbW:Below W.heap.size W w':=vJ hb;obtain⟨v',w4,hrun,hown',hg,_⟩:=run_append_own (P:=Tryz.prog) (w:=w'.alloc (.cells #[.int .i64 (cN x).client,.int .i64 (cN x).seq,.int .i64 (cN x).index,.int .i64 (cN x).last] 240)) w.heap.size 78 78 240 i0 _ 4 32 underlying78 hi hz0 hz1 hz2 rfl ah v pre.length (rY pre) ((lw hrow hbW).alloc _) ⟨w'.heap.size,0,none⟩ 1 1 (mp (cN x)).toList rfl (yf _ _) (by simp[mp,Value.oneCell']) (by unfold maxLen;omega) ac (by have:=hbW.size;have:=hB1.size;simp;omega);obtain⟨g',cap',rfl⟩:=ownsRow_succ hown';obtain⟨f1,f2,f3,f4,f5,f6⟩:=CB (Bb:=w.heap.size+1+1+1) (Bd:=w.heap.size+1+1+1+1) hbW bv hrow hB1.size ac hown' hg hb3 hb4 ac ac;have bv2:Boxed w' (w.heap.size+1+1) 78 v:=(hbW.block _ bv.lt).trans bv;have cv3:=(bv2.alloc (.cells #[.int .i64 (cN x).client,.int .i64 (cN x).seq,.int .i64 (cN x).index,.int .i64 (cN x).last] 240)).cell;have cv2:=(hbW.cell (p:=⟨w.heap.size+1+1,0,none⟩) bv.lt).trans cv;have cv4:=f1.cell;have fv4:=f1.frozen;dsimp only[mp];refine hK _ _ ?_;clear hK K;refine wpAnyIn_ready (rs:=[3]) ae aj ?_;refine AllReadyIn.cons rfl (λK hK=>?_) AllReadyIn.nil;go_simp
    refine hK _ _ ?_;clear hK K;refine wpAnyIn_ready (rs:=[4]) ae aj ?_;refine um rfl rfl (nY rfl rfl rfl hrun ?_);refine wpAnyIn_ready (rs:=[5]) ae aj ?_;refine AllReadyIn.cons rfl (λK hK=>?_) AllReadyIn.nil;go_simp
    refine hK _ _ ?_;clear hK K;refine wpAnyIn_done ae ?_ _;exact⟨f4.from _,f6,⟨⟨⟨⟨_,f2,by rw[pK,length_append];exact f3,trivial⟩,hB1.trans f5⟩,Nat.le_trans hs5 f5.size⟩,(f6.2 _ (.inr (.inl rfl))).trans hb3,(f6.2 _ (.inr (.inr rfl))).trans hb4⟩⟩
   ·go_simp
    refine⟨trivial,?_⟩;gi_at_call 431
    refine(CallsIn.inRound l (callsIn_wide.2 (r5 x _ (x9 hgd hB1)))).mono ?_;rintro e w' ⟨rfl,hb⟩;have hbW:Below W.heap.size W w':=vJ hb;obtain⟨v',w4,hrun,hown',hg,_⟩:=run_append_own (P:=Tryz.prog) (w:=w'.alloc (.cells #[.int .i64 (cN x).client,.int .i64 (cN x).seq,.int .i64 (cN x).index,.int .i64 (cN x).last] 240)) w.heap.size 78 78 240 i0 _ 4 32 underlying78 hi hz0 hz1 hz2 rfl ah v pre.length (rY pre) ((lw hrow hbW).alloc _) ⟨w'.heap.size,0,none⟩ 1 1 (mp (cN x)).toList rfl (yf _ _) (by simp[mp,Value.oneCell']) (by unfold maxLen;omega) ac (by have:=hbW.size;have:=hB1.size;simp;omega);obtain⟨g',cap',rfl⟩:=ownsRow_succ hown';obtain⟨f1,f2,f3,f4,f5,f6⟩:=CB (Bb:=w.heap.size+1+1+1) (Bd:=w.heap.size+1+1+1+1) hbW bv hrow hB1.size ac hown' hg hb3 hb4 ac ac;have bv2:Boxed w' (w.heap.size+1+1) 78 v:=(hbW.block _ bv.lt).trans bv;have cv3:=(bv2.alloc (.cells #[.int .i64 (cN x).client,.int .i64 (cN x).seq,.int .i64 (cN x).index,.int .i64 (cN x).last] 240)).cell;have cv2:=(hbW.cell (p:=⟨w.heap.size+1+1,0,none⟩) bv.lt).trans cv;have cv4:=f1.cell;have fv4:=f1.frozen;dsimp only[mp];refine hK _ _ ?_;clear hK K;refine wpAnyIn_ready (rs:=[0,3]) ae aj ?_;refine AllReadyIn.cons rfl (λK hK=>?_) (AllReadyIn.cons rfl (λK hK=>?_) AllReadyIn.nil)
    ·go_simp
     refine hK _ _ ?_;clear hK K;refine wpAnyIn_ready (rs:=[3]) ae aj ?_;refine AllReadyIn.cons rfl (λK hK=>?_) AllReadyIn.nil;go_simp
     refine hK _ _ ?_;clear hK K;refine wpAnyIn_ready (rs:=[4]) ae aj ?_;refine um rfl rfl (nY rfl rfl rfl hrun ?_);refine wpAnyIn_ready (rs:=[5]) ae aj ?_;refine AllReadyIn.cons rfl (λK hK=>?_) AllReadyIn.nil;go_simp
     refine hK _ _ ?_;clear hK K;refine wpAnyIn_done ae ?_ _;exact⟨f4.from _,f6,⟨⟨⟨⟨_,f2,by rw[pK,length_append];exact f3,trivial⟩,hB1.trans f5⟩,Nat.le_trans hs5 f5.size⟩,(f6.2 _ (.inr (.inl rfl))).trans hb3,(f6.2 _ (.inr (.inr rfl))).trans hb4⟩⟩
    ·go_simp
     refine hK _ _ ?_;clear hK K;refine wpAnyIn_ready (rs:=[0]) ae aj ?_;refine AllReadyIn.cons rfl (λK hK=>?_) AllReadyIn.nil;go_simp
     refine hK _ _ ?_;clear hK K;refine wpAnyIn_ready (rs:=[4]) ae aj ?_;refine um rfl rfl (nY rfl rfl rfl hrun ?_);refine wpAnyIn_ready (rs:=[5]) ae aj ?_;refine AllReadyIn.cons rfl (λK hK=>?_) AllReadyIn.nil;go_simp
     refine hK _ _ ?_;clear hK K;refine wpAnyIn_done ae ?_ _;exact⟨f4.from _,f6,⟨⟨⟨⟨_,f2,by rw[pK,length_append];exact f3,trivial⟩,hB1.trans f5⟩,Nat.le_trans hs5 f5.size⟩,(f6.2 _ (.inr (.inl rfl))).trans hb3,(f6.2 _ (.inr (.inr rfl))).trans hb4⟩⟩
 case done=>
  rintro D zs W hD rfl ⟨⟨⟨⟨v,bv,hrow,_⟩,hB1⟩,hs5⟩,_⟩ hK;have cv:=bv.cell;gi_wp2
  refine⟨by simp,.inl ⟨_,_,rfl,run_takeDeferred hK,?_⟩⟩;exact⟨_,results_tmp rfl _ _ _,_,rfl,hB1.trans (belowK_b (w:=w) (Nat.le_refl _) W D _ _ ac hK rfl rfl),ownsRow_putObj hrow _ hK rfl⟩
 case stop=>
  rintro D c pre W _ _ h _;exact h.elim
theorem IJ(b:DBook)(d:Int):jf (d+1) b.entries=eV b d:=rfl
theorem PB(l:List DEntry):rY l=((l.map cN).map λa=>(mp a).toList).flatten:=by simp[rY,List.map_map,Function.comp_def]
theorem PC{a:DAck}{x:AD}{u:Value}(h1:a.ds[j]? =some x)(h2:(mp a).toList[j]? =some u):bR Z w x u:=by
 match j,h1,h2 with
 |0,h1,h2=>simp[DAck.ds,mp]at h1 h2;subst h1 h2;exact .pv _ rfl
 |1,h1,h2=>simp[DAck.ds,mp]at h1 h2;subst h1 h2;exact .pv _ rfl
 |2,h1,h2=>simp[DAck.ds,mp]at h1 h2;subst h1 h2;exact .pv _ rfl
 |3,h1,h2=>simp[DAck.ds,mp]at h1 h2;subst h1 h2;exact .pv _ rfl
 |n+4,h1,h2=>simp[DAck.ds]at h1
theorem PD{l:List DAck}(hz:∀b,base<=b->b<w.heap.size->Z b)(h:w.ownsRow base 240 4 v l.length (l.map λa=>(mp a).toList).flatten):bR Z w (.sl (l.map DAck.ds)) v:=by
 have hx:∀x∈l.map DAck.ds,x.length=4:=λx hx=>by obtain⟨a,_,rfl⟩:=mem_map.1 hx;rfl
 have hu:∀u∈l.map (λa=>(mp a).toList),u.length=4:=λu hu=>by obtain⟨a,_,rfl⟩:=mem_map.1 hu;rfl
 have hr:∀(i j:Nat) x u a b,(l.map DAck.ds)[i]? =some x->(l.map λa=>(mp a).toList)[i]? =some u->x[j]? =some a->u[j]? =some b->bR Z w a b:=λi j x u a b h1 h2 h3 h4=>by
  rw[List.getElem?_map]at h1 h2;obtain⟨c,hc,rfl⟩:=Option.map_eq_some_iff.1 h1;obtain⟨c',hc',rfl⟩:=Option.map_eq_some_iff.1 h2;rw[hc]at hc';injection hc' with hc'
  subst hc';exact PC h3 h4
 rcases h.2 with⟨rfl,h0⟩|⟨g,cap,cur,rfl,hb,hgb,hn,hm,hs,ht⟩
 ·have:l=[]:=List.eq_nil_of_length_eq_zero h0;subst this;exact bR.sl [] none 0 4 [] (Nat.le_refl _) ah rfl hx hu (.inl rfl) hr
 ·have:=bR.sl (Z:=Z) (w:=w) (l.map DAck.ds) (some ⟨g,0,none⟩) cap 4 (l.map λa=>(mp a).toList) (by simpa using hn) hm aj hx hu (.inr ⟨g,0,rfl,hz g hb (Array.getElem?_eq_some_iff.1 hgb).1,λi u hi=>by
   rw[<-ht,List.getElem?_take]at hi;split at hi
   ·simp only[World.cell?,hgb];simpa using hi
   ·cases hi⟩) hr
  simpa using this
theorem RQ(e:DEntry):∀(j:Nat) (d:AD),e.ds[j]? =some d->∃u,d= .pv u/\(jp e)[j]? =some u:=λj d h=>by
 match j,h with
 |0,h=>simp[DEntry.ds]at h;subst h;exact⟨_,rfl,rfl⟩
 |1,h=>simp[DEntry.ds]at h;subst h;exact⟨_,rfl,rfl⟩
 |2,h=>simp[DEntry.ds]at h;subst h;exact⟨_,rfl,rfl⟩
 |3,h=>simp[DEntry.ds]at h;subst h;exact⟨_,rfl,rfl⟩
 |4,h=>simp[DEntry.ds]at h;subst h;exact⟨_,rfl,rfl⟩
 |5,h=>simp[DEntry.ds]at h;subst h;exact⟨_,rfl,rfl⟩
 |6,h=>simp[DEntry.ds]at h;subst h;exact⟨_,rfl,rfl⟩
 |7,h=>simp[DEntry.ds]at h;subst h;exact⟨_,rfl,rfl⟩
 |8,h=>simp[DEntry.ds]at h;subst h;exact⟨_,rfl,rfl⟩
 |n+9,h=>simp[DEntry.ds]at h
theorem RR(hz:∀b,Z b->b<w.heap.size){es:List DEntry}(h:bR Z w (.sl (es.map DEntry.ds)) v):∃A cap,v= .slice A es.length cap/\rN w.heap.size w A es:=by
 generalize hx:es.map DEntry.ds=xs at h;cases h with
 |sl _ A cap s us hc hm hl hxs hu hr hh=>
  subst hx;refine⟨A,cap,by simp,?_⟩;rcases hr with h0|⟨b,off,rfl,hb,hcell⟩
  ·left;cases es with
   |nil=>rfl
   |cons e r=>
    exfalso;cases us with
    |nil=>simp at hl
    |cons u us=>
     have h1:=hxs e.ds aj;have h2:=hu u aj;simp[DEntry.ds]at h1;simp at h0;rw[h0.1]at h2;simp at h2;omega
  ·refine .inr ⟨b,off,rfl,hz b hb,λk hk j u hj=>?_⟩;have hs:s=9:=by
    have:=hxs (es[k]).ds (mem_map.2 ⟨_,List.getElem_mem hk,rfl⟩);simpa[DEntry.ds]using this.symm
   subst hs;have hku:k<us.length:=by rw[hl];simpa using hk
   have hul:us[k].length=9:=hu _ (List.getElem_mem hku);have hj9:j<9:=by
    have:=(Array.getElem?_eq_some_iff.1 hj).1;simpa[jp]using this
   have hdj:j<(es[k]).ds.length:=by simpa[DEntry.ds]using hj9
   obtain⟨u',e1,e2⟩:=RQ es[k] j _ (getElem?_eq_getElem hdj);rw[hj]at e2;injection e2 with e2
   subst e2;have hrel:=hh k j (es[k]).ds us[k] _ (us[k]'hku)[j] (by simp[hk]) (getElem?_eq_getElem hku) (getElem?_eq_getElem hdj) (getElem?_eq_getElem ac);rw[e1]at hrel;have e3:(us[k]'hku)[j]=u:=by cases hrel;rfl
   have hf:=wO hu (getElem?_eq_getElem hku) hj9;have hg:(us[k]'hku)[j]? =some u:=by rw[getElem?_eq_getElem ac,e3]
   rw[hg]at hf;have:=hcell _ _ hf;rwa[<-Nat.add_assoc]at this
theorem L0:Pd:=λb d hb h1 h2=>by
 have hp:=eK hb;have hq:=gM hb;refine⟨call366,λZ w us hz hg hul hr=>?_⟩;match us,hul with
 |[],hul=>simp at hul
 |[_],hul=>simp at hul
 |_::_::_::_,hul=>simp at hul
 |[u,t],hul=>
  obtain⟨cs,rfl,hcl,hcr⟩:=hr 0 _ u rfl rfl;have ht:t= .int .i64 d:=uo rfl (show bR Z w (dI d) t from hr 1 _ t rfl rfl);subst ht;match cs,hcl with
  |[],hcl=>simp[DBook.ds]at hcl
  |[_],hcl=>simp[DBook.ds]at hcl
  |[_,_],hcl=>simp[DBook.ds]at hcl
  |_::_::_::_::_,hcl=>simp[DBook.ds]at hcl
  |[c0,c1,c2],hcl=>
   have e0:c0= .int .i64 b.base:=uo rfl (show bR Z w (dI b.base) c0 from hcr 0 _ c0 rfl rfl);have e1:c1= .int .i64 b.time:=uo rfl (show bR Z w (dI b.time) c1 from hcr 1 _ c1 rfl rfl);subst e0 e1;obtain⟨A,cap,rfl,hA⟩:=RR hz (show bR Z w (.sl (b.entries.map DEntry.ds)) c2 from hcr 2 _ c2 rfl rfl);refine Calls.mono (callsIn_wide.1 (Sy b.base b.time d A cap b.entries hp.2.2.1 ⟨ac,ac⟩ w (by obtain⟨w1,g1,g2,_⟩:=hg;exact⟨w1,g1,g2⟩) hA)) ?_;rintro e w' ⟨v,rfl,hbl,hrow⟩;refine⟨v,λb=>Z b\/(w.heap.size<=b/\b<w'.heap.size),rfl,hbl,λb h=> .inl h,λb h=>h,?_⟩;rw[IJ,PB]at hrow;exact PD (base:=w.heap.size) (λb h1 h2=> .inr ⟨h1,h2⟩) (by simpa using hrow)
end Go.Proofs.YtknefkdcokgpbaaGreat
