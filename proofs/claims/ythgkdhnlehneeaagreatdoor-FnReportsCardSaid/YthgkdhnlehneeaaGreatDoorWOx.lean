/- WOx -/
import Derived.Test.YthgkdhnlehneeaaGreatDoorWB3
import Derived.Test.YthgkdhnlehneeaaGreatDoorWB7
set_option maxHeartbeats 8000000
set_option linter.unusedVariables false
set_option linter.unusedSimpArgs false
set_option maxRecDepth 100000
open List (getElem?_eq_getElem length_append mem_map)
namespace Go.Proofs.YthgkdhnlehneeaaGreatDoor
open Go.Proofs.Tryz
open Go.RowKit Go.Shelf
variable {a:Act}{Q:Exit->Act->World->Prop}{F:Fence}{xs:List Value}{Bb Bd base j k n size:Nat}{Z:Nat->Prop}{o:Oper}{P:Program}{e t:TypeId}{v:Value}{W w w':World}
attribute [local go_sem] Oper.semAt_some
def mX(a:fE):Array Value:= #[.int .i64 a.client,.int .i64 a.seq,.int .i64 a.index,.int .i64 a.last]
def PD(w:World):Prop:=∃w1,av.W w1/\Below w1.heap.size w1 w
theorem Bo(h:PD w)(hB:Below w.heap.size w W):PD W.drew:=by
 obtain⟨w1,h1,h2⟩:=h;have h3:=h2.trans (hB.mono h2.size);exact⟨w1,h1,⟨h3.os,h3.tape,h3.output,h3.size,λk hk=>h3.block k hk⟩⟩
theorem uw(e:aO)(w:World)(hgd:PD w):Calls Tryz.prog 301 #[.agg (jL e)] w λe' w'=>e'= .returned (.agg (mX (cU e)))/\Below w.heap.size w w':=by
 obtain⟨w1,g1,g2⟩:=hgd;have h:=(Tv e).run (λb=>b<w.heap.size) w [.agg (jL e)] (λ_ h=>h) ⟨w1,g1,g2,λ_ h=>Nat.lt_of_lt_of_le h g2.size⟩ rfl (λi p u hp hu=>by
  match i,hp,hu with
  |0,hp,hu=>
   simp at hp hu;subst hp hu;refine⟨(jL e).toList,by simp,rfl,λj d u hd hu=>?_⟩;match j,hd,hu with
   |0,hd,hu=>simp[aO.ds,jL]at hd hu;subst hd hu;exact .pv _ rfl
   |1,hd,hu=>simp[aO.ds,jL]at hd hu;subst hd hu;exact .pv _ rfl
   |2,hd,hu=>simp[aO.ds,jL]at hd hu;subst hd hu;exact .pv _ rfl
   |3,hd,hu=>simp[aO.ds,jL]at hd hu;subst hd hu;exact .pv _ rfl
   |4,hd,hu=>simp[aO.ds,jL]at hd hu;subst hd hu;exact .pv _ rfl
   |5,hd,hu=>simp[aO.ds,jL]at hd hu;subst hd hu;exact .pv _ rfl
   |6,hd,hu=>simp[aO.ds,jL]at hd hu;subst hd hu;exact .pv _ rfl
   |7,hd,hu=>simp[aO.ds,jL]at hd hu;subst hd hu;exact .pv _ rfl
   |8,hd,hu=>simp[aO.ds,jL]at hd hu;subst hd hu;exact .pv _ rfl
   |n+9,hd,hu=>simp[aO.ds]at hd
  |n+1,hp,hu=>simp at hp)
 refine Calls.mono h ?_;rintro e' w' ⟨v,Z',rfl,hb,_,_,hr⟩;have:=Kh (p:= .agg (cU e).ds) rfl hr;exact⟨by rw[this];rfl,hb⟩
theorem RJ(F:Fence)(n:Nat)(hf:F.fn 300)(hro:F.round=none)(c0 c1 c2:Value)(d:Int)(w:World):
  CallsIn F n Tryz.prog 300 #[.agg #[c0,c1,c2],.int .i64 d] w λe w'=>e= .returned (.func (.func 397) #[] #[.pointer (some ⟨w.heap.size,0,none⟩),.pointer (some ⟨w.heap.size+1,0,none⟩)])/\w'=(w.alloc (.cells #[c0,c1,c2] 38)).alloc (.cells #[.int .i64 d] 2):=by
 refine callsIn_of_wp func300 rfl hf ?_ hro;simp only[ntmps300,List.size_toArray,List.length_cons,List.length_nil,Nat.reduceAdd,Nat.reduceSub,Array.replicate_succ,Array.replicate_zero,List.push_toArray,List.append_toArray,List.nil_append,List.cons_append];gi_wp2
 go_ret
 exact⟨rfl,rfl⟩
theorem T7(F:Fence)(n:Nat)(hf:F.fn 397)(hro:F.round=none)(hn:1<=n)(Bb Bd n₀:Nat)(A:Option Addr)(cap:Nat)(es:List aO)(d:Int)(hes:es.length<=20)(w:World)(hBb:Bb<w.heap.size)(hBd:Bd<w.heap.size)(hn₀:n₀<=w.heap.size)
  (hcb:w.cell? ⟨Bb,2,none⟩=some (.slice A es.length cap)) (hcd:w.cell? ⟨Bd,0,none⟩=some (.int .i64 d)) (hA:ug n₀ w A es):
  SeqStopsK F n Tryz.prog 397 #[.pointer (some ⟨Bb,0,none⟩),.pointer (some ⟨Bd,0,none⟩)] (λe:aO=> #[Value.agg (jL e)]) (gM n₀ Bb Bd) (λys=>ys=jx d es) (λpre=>pre<+:jx d es) es.length w:=λl J Jx W hW hJ _ hY h0=>by
 have hs:=hW.size;refine RK F n hf hro hn l Bb Bd n₀ A cap es d hes J Jx hY W hJ ac ac ac ((hW.cell (p:=⟨Bb,2,none⟩) hBb).trans hcb) ((hW.cell (p:=⟨Bd,0,none⟩) hBd).trans hcd) ?_ h0;rcases hA with h|⟨b,off,e,hb,hc⟩
 ·exact .inl h
 ·exact .inr ⟨b,off,e,hb,λk hk j u hu=>(hW.cell (p:=⟨b,off+k*9+j,none⟩) (show b<w.heap.size by omega)).trans (hc k hk j u hu)⟩
def uv(l:List aO):List Value:=(l.map λe=>(mX (cU e)).toList).flatten
theorem TN{n₀:Nat}(h0:n₀<=w.heap.size)(h1:Bb<w.heap.size)(h2:Bd<w.heap.size):∀(W:World) (l:Nat) (o o':Obj),w.heap.size<=l->W.heap[l]? =some o->o.isCells=false->o.isWalk=false->gM n₀ Bb Bd W (W.putObj l o'):=
 λW l o o' hl ho _ _=>⟨by simp,λk hk=>World.putObj_heap_other ac⟩
theorem Ly{β:Type}(B0 B:Nat)(cs:Array Value)(t:TypeId):OwnFrom B0 (fun(_:β) W=>W.heap[B]? =some (.cells cs t (0,0))):=λ_ X Y row hs hg hr=>
 (hg.block B (Array.getElem?_eq_some_iff.1 hs).1 λe=>by
  obtain⟨_,o,ho,hc⟩:=hr B e.symm;rw[hs]at ho;cases ho;cases hc).trans hs
theorem ma{W':World}(h:W.ownsRow base e size v k xs)(hb:Below W.heap.size W W'):W'.ownsRow base e size v k xs:=by
 refine⟨h.1,?_⟩;rcases h.2 with h2|⟨g,cap,cur,h1,h2,h3,h4⟩
 ·exact .inl h2
 ·exact .inr ⟨g,cap,cur,h1,h2,(hb.block g (Array.getElem?_eq_some_iff.1 h3).1).trans h3,h4⟩
theorem QE(h:W.ownsRow base e size v k xs){cs:Array Value}(hj:W.heap[j]? =some (.cells cs t (0,0)))(hne:t≠e):some j≠v.ownBlock:=by
 rcases h.2 with⟨rfl,_⟩|⟨g,cap,cur,rfl,_,hgb,_⟩
 ·simp[Value.ownBlock]
 ·intro e';have:g=j:=by simpa[Value.ownBlock]using e'.symm
  subst this;rw[hgb]at hj;injection hj with hj
  injection hj with _ h2 _
  exact hne h2.symm
theorem TG:(Tryz.prog.info? 249).map (λi=>(i.zero,i.size,i.bytes))=some (some (.agg #[.int .i64 0,.int .i64 0,.int .i64 0,.int .i64 0]),4,32):=by kernel_rfl
theorem qM(l:List aO)(e:aO):uv (l++[e])=uv l++(mX (cU e)).toList:=by simp[uv]
theorem Bw(w':World)(a:fE):∀j u,(mX a).toList[j]? =some u->(w'.alloc (.cells #[.int .i64 a.client,.int .i64 a.seq,.int .i64 a.index,.int .i64 a.last] 249)).cell? ((⟨w'.heap.size,0,none⟩:Addr).add j)=some u:=λj u hu=>by
 have h0:=World.alloc_heap_new w' (.cells #[.int .i64 a.client,.int .i64 a.seq,.int .i64 a.index,.int .i64 a.last] 249);have e:(⟨w'.heap.size,0,none⟩:Addr).add j=⟨w'.heap.size,j,none⟩:=by unfold Addr.add;split<;>simp_all
 rw[e];simp only[World.cell?,h0];simpa[mX]using hu
theorem yC(h:Below W.drew.heap.size W.drew w'):Below W.heap.size W w':=
 ⟨h.os,h.tape,h.output,h.size,λk hk=>h.block k hk⟩
theorem oN{F:Fence}{n:Nat}{P:Program}{a:Act}{w w':World}{K:Act->World->Prop}{Q:Exit->Act->World->Prop}{s x:Operand}{v v':Value}{ad:Addr}{m c:Nat}(hop:o.op=Op.call {callee:=Callee.builtin Builtin.append,args:= #[s,x],argTypes:= #[t,t]})
  (hs:a.eval s=v) (hx:a.eval x= .slice (some ad) m c) (hrun:(Builtin.append_ #[t,t] o.type #[v,.slice (some ad) m c]).run P w= .ok v' w') (hK:K (a.put o.dst v') w'):o.wpIn F n P a w K Q:=by
 unfold Oper.wpIn;refine⟨?_,?_⟩
 ·simp[Oper.about,hop,resolve,Target.leads,Sem.run_pure]
 ·rw[Oper.semAt_plain F _ _ (by rw[hop];intro c hc';cases hc')];simp[execOp,hop,resolve,invoke,builtin,hs,hx,hrun,Result.andThen];exact hK
theorem xe{md:Region.Mode}{ops:Array Oper}{fuel:Nat}{listed:Array Bool}{i:Nat}(ho:ops[i]? =some o)(hg:o.guard=none)(h:o.wpIn F n P a w (wpAnyIn F n P md ops Q fuel (listed.setIfInBounds i true)) Q):AllReadyIn F n P md ops Q fuel listed a w [i]:=
 .cons ho (λK hK=>by rw[if_pos (by simp[Region.wanted,hg])];exact Oper.wpIn_mono hK h) .nil
theorem Fu{w4:World}{B Bb Bd:Nat}{v':Value}{ys:List Value}{tmp:Obj}{c3 c4:Array Value}(hb:Below W.heap.size W w')(bv:Boxed W B 39 v)(hrow:W.ownsRow n 249 4 v k xs)(hn:n<=W.heap.size)(hB:n<=B)
  (hown':w4.ownsRow n 249 4 v' (k+1) ys) (hg:(w'.alloc tmp).grownBy w4 v.ownBlock) (h3:W.heap[Bb]? =some (.cells c3 38 (0,0))) (h4:W.heap[Bd]? =some (.cells c4 2 (0,0))) (hne3:Bb≠B) (hne4:Bd≠B):
  Boxed w4 B 39 v/\Boxed (w4.setCell ⟨B,0,none⟩ v') B 39 v'/\(w4.setCell ⟨B,0,none⟩ v').ownsRow n 249 4 v' (k+1) ys/\KeepsOthers W (w4.setCell ⟨B,0,none⟩ v')/\Below n W (w4.setCell ⟨B,0,none⟩ v')/\gM n Bb Bd W (w4.setCell ⟨B,0,none⟩ v'):=by
 have bv':Boxed w' B 39 v:=(hb.block B bv.lt).trans bv;have hrow':=ma hrow hb;have hs:=hb.size;obtain⟨a1,a2,a3,a4,a5⟩:=bv'.appended ai hrow' ac hB hown' hg;have hbn:Below n W w':=hb.mono hn;refine⟨a1,a2,a3,(KeepsOthers.mk hs λk o h _=>(hb.block k (Array.getElem?_eq_some_iff.1 h).1).trans h).trans a4,hbn.trans a5,(hbn.trans a5).size,λj hj=>?_⟩;rcases hj with hj|hj|hj
 ·exact(hbn.trans a5).block j hj
 ·subst hj;have e1:=(hb.block j (Array.getElem?_eq_some_iff.1 h3).1).trans h3;have e2:=(Below.heap_alloc w' tmp j (Array.getElem?_eq_some_iff.1 e1).1).trans e1;have e3:=(hg.block j (Array.getElem?_eq_some_iff.1 e2).1 (QE hrow' e1 ai)).trans e2;rw[Below.heap_setCell _ _ _ j hne3,e3,h3]
 ·subst hj;have e1:=(hb.block j (Array.getElem?_eq_some_iff.1 h4).1).trans h4;have e2:=(Below.heap_alloc w' tmp j (Array.getElem?_eq_some_iff.1 e1).1).trans e1;have e3:=(hg.block j (Array.getElem?_eq_some_iff.1 e2).1 (QE hrow' e1 ai)).trans e2;rw[Below.heap_setCell _ _ _ j hne4,e3,h4]
theorem Vj(base time d:Int)(A:Option Addr)(cap:Nat)(es:List aO)(hes:es.length<=20)(hd:0<=d/\d<=3000)(w:World)(hgd:PD w)(hA:ug w.heap.size w A es):
  CallsIn Fence.wide 10 Tryz.prog 211 #[.agg #[.int .i64 base,.int .i64 time,.slice A es.length cap],.int .i64 d] w λe W'=>∃v,e= .returned v/\Below w.heap.size w W'/\W'.ownsRow w.heap.size 249 4 v (jx (d+1) es).length (uv (jx (d+1) es)):=by
 refine callsIn_of_wp_marks func211 rfl trivial ?_ rfl;simp only[ntmps211,List.size_toArray,List.length_cons,List.length_nil,Nat.reduceAdd,Nat.reduceSub,Array.replicate_succ,Array.replicate_zero,List.push_toArray,List.append_toArray,List.nil_append,List.cons_append];have hwr:wrap64 (d+1)=d+1:=by unfold wrap64;omega
 gi_wp2_with (refine⟨trivial,?_⟩;gi_at_call 300;refine(RJ Fence.wide _ trivial rfl _ _ _ _ _).mono ?_;rintro e w' ⟨rfl,rfl⟩)
 have hW0:∃W0,((((w.alloc (.cells #[.int .i64 base,.int .i64 time,.slice A es.length cap] 38)).alloc (.cells #[] 249)).alloc (.cells #[.slice (some ⟨w.heap.size+1,0,none⟩) 0 0] 39)).alloc (.cells #[.int .i64 base,.int .i64 time,.slice A es.length cap] 38)).alloc (.cells #[.int .i64 (d+1)] 2)=W0:=⟨_,rfl⟩;obtain⟨W0,hW0⟩:=hW0;have hsz:W0.heap.size=w.heap.size+5:=by rw[<-hW0];simp
 have hB0:Below w.heap.size w W0:=by
  rw[<-hW0];exact(((((Below.refl _ w).alloc (Nat.le_refl _) _).alloc au _).alloc au _).alloc au _).alloc au _
 have at_:∀(W:World) (o:Obj) (k:Nat),k=W.heap.size->(W.alloc o).heap[k]? =some o:=λW o k h=>by subst h;exact World.alloc_heap_new W o
 have keep:∀(W:World) (o o2:Obj) (k:Nat),k<W.heap.size->W.heap[k]? =some o2->(W.alloc o).heap[k]? =some o2:=λW o o2 k h h2=>(Below.heap_alloc W _ k h).trans h2;have bT:Boxed W0 (w.heap.size+1+1) 39 (.slice (some ⟨w.heap.size+1,0,none⟩) 0 0):=by
  rw[<-hW0];exact keep _ _ _ _ au (keep _ _ _ _ au (at_ _ _ _ ah))
 have hR:W0.heap[w.heap.size+1]? =some (.cells #[] 249 (0,0)):=by
  rw[<-hW0];exact keep _ _ _ _ au (keep _ _ _ _ au (keep _ _ _ _ au (at_ _ _ _ ah)))
 have hBb:W0.heap[w.heap.size+1+1+1]? =some (.cells #[.int .i64 base,.int .i64 time,.slice A es.length cap] 38 (0,0)):=by
  rw[<-hW0];exact keep _ _ _ _ au (at_ _ _ _ ah)
 have hBd:W0.heap[w.heap.size+1+1+1+1]? =some (.cells #[.int .i64 (d+1)] 2 (0,0)):=by
  rw[<-hW0];exact at_ _ _ _ ah
 clear at_ keep;have cB:W0.cell? ⟨w.heap.size+1+1+1,2,none⟩=some (.slice A es.length cap):=by simp[World.cell?,hBb]
 have cD:W0.cell? ⟨w.heap.size+1+1+1+1,0,none⟩=some (.int .i64 (d+1)):=by simp[World.cell?,hBd]
 have hrow0:W0.ownsRow w.heap.size 249 4 (.slice (some ⟨w.heap.size+1,0,none⟩) 0 0) 0 []:=⟨rfl,.inr ⟨w.heap.size+1,0, #[],rfl,ac,hR,ac,by decide,rfl,rfl⟩⟩;have hA0:ug w.heap.size W0 A es:=by
  rcases hA with h|⟨b,off,e,hb,hc⟩
  ·exact .inl h
  ·exact .inr ⟨b,off,e,hb,λk hk j u hu=>(hB0.cell (p:=⟨b,off+k*9+j,none⟩) hb).trans (hc k hk j u hu)⟩
 rw[hW0];clear hW0;refine wpIn_rangeFunc_ownH rfl ai (gf:=397) (lb:= #[.pointer (some ⟨w.heap.size+1+1+1,0,none⟩),.pointer (some ⟨w.heap.size+1+1+1+1,0,none⟩)]) rfl trivial (enters_of func397 ae rfl)
  (T7 Fence.wide 9 trivial rfl ac (w.heap.size+1+1+1) (w.heap.size+1+1+1+1) w.heap.size A cap es (d+1) hes W0 ac ac ac cB cD hA0) (λh h'=>h.trans h') (TN ac ac ac) (Below.refl _ _) (λ_=>rfl)
  (λpre W=>(((∃v,Boxed W (w.heap.size+1+1) 39 v/\W.ownsRow w.heap.size 249 4 v pre.length (uv pre)/\True)/\Below w.heap.size w W)/\w.heap.size+5<=W.heap.size)/\(W.heap[w.heap.size+1+1+1]? =some (.cells #[.int .i64 base,.int .i64 time,.slice A es.length cap] 38 (0,0))/\W.heap[w.heap.size+1+1+1+1]? =some (.cells #[.int .i64 (d+1)] 2 (0,0))))
  (λ_ _ _=>False)
  (OwnFrom.and (OwnFrom.and (OwnFrom.and (Own.from (holdsRow_own w.heap.size (w.heap.size+1+1) 39 249 4 (λpre=>pre.length) uv (λ_ _=>True)) _) (ownFrom_below (Nat.le_refl _) ac)) (λ_ X Y row hs hg _=>Nat.le_trans hs hg.size)) (OwnFrom.and (Ly _ _ _ _) (Ly _ _ _ _)))
  (λ_ _ _ _ _ hs _ _=>hs)
  ⟨⟨⟨⟨_,bT,hrow0,trivial⟩,hB0⟩,ac⟩,hBb,hBd⟩
  (λx a' W=>∃Bx,w.heap.size+1+1+1+1<Bx/\W.heap[Bx]? =some (.cells (jL x) 275 (0,0))/\a'={tmps:= #[.agg #[.int .i64 base,.int .i64 time,.slice A es.length cap],.int .i64 d,.pointer (some ⟨w.heap.size,0,none⟩),undef,.slice none 0 0,.pointer (some ⟨w.heap.size+1+1,0,none⟩),.pointer (some ⟨Bx,0,none⟩),.slice (some ⟨w.heap.size+1,0,none⟩) 0 0,.agg #[.int .i64 base,.int .i64 time,.slice A es.length cap],.int .i64 d,.int .i64 (d+1),.func (.func 397) #[] #[.pointer (some ⟨w.heap.size+1+1+1,0,none⟩),.pointer (some ⟨w.heap.size+1+1+1+1,0,none⟩)],.agg (jL x),undef,undef,undef,undef,undef,undef],defers:=[]})
  (λx a' _ X Y row hs hg hr=>by
   obtain⟨Bx,h1,h2,h3⟩:=hs;refine⟨Bx,h1,(hg.block Bx (Array.getElem?_eq_some_iff.1 h2).1 λe=>?_).trans h2,h3⟩;obtain⟨_,o,ho,hc⟩:=hr Bx e.symm;rw[h2]at ho;cases ho;cases hc)
  ?assign ?body ?done ?stop
 case assign=>
  rintro l pre x W K ⟨⟨⟨⟨v,bv,hr,_⟩,hB1⟩,hs5⟩,hb3,hb4⟩ hK;simp only[jL];gi_wp2
  exact hK _ _ ((KeepsOthers.alloc _ _).from _) (gM.alloc W _ ac ac ac) ⟨⟨⟨⟨v,bv.alloc _,hr.alloc _,trivial⟩,hB1.alloc hB1.size _⟩,au⟩,(Below.heap_alloc _ _ _ ac).trans hb3,(Below.heap_alloc _ _ _ ac).trans hb4⟩ ⟨W.heap.size,ac,World.alloc_heap_new W _,rfl⟩
 case body=>
  rintro l pre x a' W hl ⟨r,hr⟩ ⟨⟨⟨⟨v,bv,hrow,_⟩,hB1⟩,hs5⟩,hb3,hb4⟩ ⟨Bx,hBx,hbx,rfl⟩ hlt;have cv:=bv.cell;have x0:W.cell? ⟨Bx,0,none⟩=some (.int .i64 x.index):=by simp[World.cell?,hbx,jL]
  have x1:W.cell? ⟨Bx,1,none⟩=some (.int .i64 x.time):=by simp[World.cell?,hbx,jL]
  have x2:W.cell? ⟨Bx,2,none⟩=some (.int .i64 x.client):=by simp[World.cell?,hbx,jL]
  have x3:W.cell? ⟨Bx,3,none⟩=some (.int .i64 x.seq):=by simp[World.cell?,hbx,jL]
  have x4:W.cell? ⟨Bx,4,none⟩=some (.int .i64 x.op.kind):=by simp[World.cell?,hbx,jL]
  have x5:W.cell? ⟨Bx,5,none⟩=some (.int .i64 x.op.a):=by simp[World.cell?,hbx,jL]
  have x6:W.cell? ⟨Bx,6,none⟩=some (.int .i64 x.op.b):=by simp[World.cell?,hbx,jL]
  have x7:W.cell? ⟨Bx,7,none⟩=some (.int .i64 x.op.c):=by simp[World.cell?,hbx,jL]
  have x8:W.cell? ⟨Bx,8,none⟩=some (.int .i64 x.op.d):=by simp[World.cell?,hbx,jL]
  have hmx:Tryz.prog.follows .mixedOrders=true:=ae;obtain⟨i0,hi,hz0,hz1,hz2⟩:=info_parts TG;gi_wp2
  refine wpIn_region_any aj ?_;change wpAnyIn _ _ _ _ _ _ _ _ _ (World.drew _);refine wpAnyIn_ready (rs:=[0,1]) ae ah ?_;refine AllReadyIn.cons rfl (λK hK=>?_) (AllReadyIn.cons rfl (λK hK=>?_) AllReadyIn.nil)
  ·go_simp
   refine hK _ _ ?_;clear hK K;refine wpAnyIn_ready (rs:=[1]) ae ah ?_;refine AllReadyIn.cons rfl (λK hK=>?_) AllReadyIn.nil;go_simp
   refine hK _ _ ?_;clear hK K;refine wpAnyIn_ready (rs:=[2]) ae ah ?_;refine AllReadyIn.cons rfl (λK hK=>?_) AllReadyIn.nil;go_simp
   refine⟨trivial,?_⟩;gi_at_call 301
   refine(CallsIn.inRound l (callsIn_wide.2 (uw x _ (Bo hgd hB1)))).mono ?_;rintro e w' ⟨rfl,hb⟩;have hbW:Below W.heap.size W w':=yC hb;obtain⟨v',w4,hrun,hown',hg,_⟩:=run_append_own (P:=Tryz.prog) (w:=w'.alloc (.cells #[.int .i64 (cU x).client,.int .i64 (cU x).seq,.int .i64 (cU x).index,.int .i64 (cU x).last] 249)) w.heap.size 39 39 249 i0 _ 4 32 underlying39 hi hz0 hz1 hz2 rfl ai v pre.length (uv pre) ((ma hrow hbW).alloc _) ⟨w'.heap.size,0,none⟩ 1 1 (mX (cU x)).toList rfl (Bw _ _) (by simp[mX,Value.oneCell']) (by unfold maxLen;omega) ac (by have:=hbW.size;have:=hB1.size;simp;omega);obtain⟨g',cap',rfl⟩:=ownsRow_succ hown';obtain⟨f1,f2,f3,f4,f5,f6⟩:=Fu (Bb:=w.heap.size+1+1+1) (Bd:=w.heap.size+1+1+1+1) hbW bv hrow hB1.size ac hown' hg hb3 hb4 ac ac;have bv2:Boxed w' (w.heap.size+1+1) 39 v:=(hbW.block _ bv.lt).trans bv;have cv3:=(bv2.alloc (.cells #[.int .i64 (cU x).client,.int .i64 (cU x).seq,.int .i64 (cU x).index,.int .i64 (cU x).last] 249)).cell;have cv2:=(hbW.cell (p:=⟨w.heap.size+1+1,0,none⟩) bv.lt).trans cv;have cv4:=f1.cell;have fv4:=f1.frozen;dsimp only[mX];refine hK _ _ ?_;clear hK K;refine wpAnyIn_ready (rs:=[3]) ae ah ?_;refine AllReadyIn.cons rfl (λK hK=>?_) AllReadyIn.nil;go_simp
   refine hK _ _ ?_;clear hK K;refine wpAnyIn_ready (rs:=[4]) ae ah ?_;refine xe rfl rfl (oN rfl rfl rfl hrun ?_);refine wpAnyIn_ready (rs:=[5]) ae ah ?_;refine AllReadyIn.cons rfl (λK hK=>?_) AllReadyIn.nil;go_simp
   refine hK _ _ ?_;clear hK K;refine wpAnyIn_done ae ?_ _;exact⟨f4.from _,f6,⟨⟨⟨⟨_,f2,by rw[qM,length_append];exact f3,trivial⟩,hB1.trans f5⟩,Nat.le_trans hs5 f5.size⟩,(f6.2 _ (.inr (.inl rfl))).trans hb3,(f6.2 _ (.inr (.inr rfl))).trans hb4⟩⟩
  ·go_simp
   refine hK _ _ ?_;clear hK K;refine wpAnyIn_ready (rs:=[0,2]) ae ah ?_;refine AllReadyIn.cons rfl (λK hK=>?_) (AllReadyIn.cons rfl (λK hK=>?_) AllReadyIn.nil)
   ·go_simp
    refine hK _ _ ?_;clear hK K;refine wpAnyIn_ready (rs:=[2]) ae ah ?_;refine AllReadyIn.cons rfl (λK hK=>?_) AllReadyIn.nil;go_simp
    refine⟨trivial,?_⟩;gi_at_call 301
    refine(CallsIn.inRound l (callsIn_wide.2 (uw x _ (Bo hgd hB1)))).mono ?_;rintro e w' ⟨rfl,hb⟩;have hbW:Below W.heap.size W w':=yC hb;obtain⟨v',w4,hrun,hown',hg,_⟩:=run_append_own (P:=Tryz.prog) (w:=w'.alloc (.cells #[.int .i64 (cU x).client,.int .i64 (cU x).seq,.int .i64 (cU x).index,.int .i64 (cU x).last] 249)) w.heap.size 39 39 249 i0 _ 4 32 underlying39 hi hz0 hz1 hz2 rfl ai v pre.length (uv pre) ((ma hrow hbW).alloc _) ⟨w'.heap.size,0,none⟩ 1 1 (mX (cU x)).toList rfl (Bw _ _) (by simp[mX,Value.oneCell']) (by unfold maxLen;omega) ac (by have:=hbW.size;have:=hB1.size;simp;omega);obtain⟨g',cap',rfl⟩:=ownsRow_succ hown';obtain⟨f1,f2,f3,f4,f5,f6⟩:=Fu (Bb:=w.heap.size+1+1+1) (Bd:=w.heap.size+1+1+1+1) hbW bv hrow hB1.size ac hown' hg hb3 hb4 ac ac;have bv2:Boxed w' (w.heap.size+1+1) 39 v:=(hbW.block _ bv.lt).trans bv;have cv3:=(bv2.alloc (.cells #[.int .i64 (cU x).client,.int .i64 (cU x).seq,.int .i64 (cU x).index,.int .i64 (cU x).last] 249)).cell;have cv2:=(hbW.cell (p:=⟨w.heap.size+1+1,0,none⟩) bv.lt).trans cv;have cv4:=f1.cell;have fv4:=f1.frozen;dsimp only[mX];refine hK _ _ ?_;clear hK K;refine wpAnyIn_ready (rs:=[3]) ae ah ?_;refine AllReadyIn.cons rfl (λK hK=>?_) AllReadyIn.nil;go_simp
    refine hK _ _ ?_;clear hK K;refine wpAnyIn_ready (rs:=[4]) ae ah ?_;refine xe rfl rfl (oN rfl rfl rfl hrun ?_);refine wpAnyIn_ready (rs:=[5]) ae ah ?_;refine AllReadyIn.cons rfl (λK hK=>?_) AllReadyIn.nil;go_simp
    refine hK _ _ ?_;clear hK K;refine wpAnyIn_done ae ?_ _;exact⟨f4.from _,f6,⟨⟨⟨⟨_,f2,by rw[qM,length_append];exact f3,trivial⟩,hB1.trans f5⟩,Nat.le_trans hs5 f5.size⟩,(f6.2 _ (.inr (.inl rfl))).trans hb3,(f6.2 _ (.inr (.inr rfl))).trans hb4⟩⟩
   ·go_simp
    refine⟨trivial,?_⟩;gi_at_call 301
    refine(CallsIn.inRound l (callsIn_wide.2 (uw x _ (Bo hgd hB1)))).mono ?_;rintro e w' ⟨rfl,hb⟩;have hbW:Below W.heap.size W w':=yC hb;obtain⟨v',w4,hrun,hown',hg,_⟩:=run_append_own (P:=Tryz.prog) (w:=w'.alloc (.cells #[.int .i64 (cU x).client,.int .i64 (cU x).seq,.int .i64 (cU x).index,.int .i64 (cU x).last] 249)) w.heap.size 39 39 249 i0 _ 4 32 underlying39 hi hz0 hz1 hz2 rfl ai v pre.length (uv pre) ((ma hrow hbW).alloc _) ⟨w'.heap.size,0,none⟩ 1 1 (mX (cU x)).toList rfl (Bw _ _) (by simp[mX,Value.oneCell']) (by unfold maxLen;omega) ac (by have:=hbW.size;have:=hB1.size;simp;omega);obtain⟨g',cap',rfl⟩:=ownsRow_succ hown';obtain⟨f1,f2,f3,f4,f5,f6⟩:=Fu (Bb:=w.heap.size+1+1+1) (Bd:=w.heap.size+1+1+1+1) hbW bv hrow hB1.size ac hown' hg hb3 hb4 ac ac;have bv2:Boxed w' (w.heap.size+1+1) 39 v:=(hbW.block _ bv.lt).trans bv;have cv3:=(bv2.alloc (.cells #[.int .i64 (cU x).client,.int .i64 (cU x).seq,.int .i64 (cU x).index,.int .i64 (cU x).last] 249)).cell;have cv2:=(hbW.cell (p:=⟨w.heap.size+1+1,0,none⟩) bv.lt).trans cv;have cv4:=f1.cell;have fv4:=f1.frozen;dsimp only[mX];refine hK _ _ ?_;clear hK K;refine wpAnyIn_ready (rs:=[0,3]) ae ah ?_;refine AllReadyIn.cons rfl (λK hK=>?_) (AllReadyIn.cons rfl (λK hK=>?_) AllReadyIn.nil)
    ·go_simp
     refine hK _ _ ?_;clear hK K;refine wpAnyIn_ready (rs:=[3]) ae ah ?_;refine AllReadyIn.cons rfl (λK hK=>?_) AllReadyIn.nil;go_simp
     refine hK _ _ ?_;clear hK K;refine wpAnyIn_ready (rs:=[4]) ae ah ?_;refine xe rfl rfl (oN rfl rfl rfl hrun ?_);refine wpAnyIn_ready (rs:=[5]) ae ah ?_;refine AllReadyIn.cons rfl (λK hK=>?_) AllReadyIn.nil;go_simp
     refine hK _ _ ?_;clear hK K;refine wpAnyIn_done ae ?_ _;exact⟨f4.from _,f6,⟨⟨⟨⟨_,f2,by rw[qM,length_append];exact f3,trivial⟩,hB1.trans f5⟩,Nat.le_trans hs5 f5.size⟩,(f6.2 _ (.inr (.inl rfl))).trans hb3,(f6.2 _ (.inr (.inr rfl))).trans hb4⟩⟩
    ·go_simp
     refine hK _ _ ?_;clear hK K;refine wpAnyIn_ready (rs:=[0]) ae ah ?_;refine AllReadyIn.cons rfl (λK hK=>?_) AllReadyIn.nil;go_simp
     refine hK _ _ ?_;clear hK K;refine wpAnyIn_ready (rs:=[4]) ae ah ?_;refine xe rfl rfl (oN rfl rfl rfl hrun ?_);refine wpAnyIn_ready (rs:=[5]) ae ah ?_;refine AllReadyIn.cons rfl (λK hK=>?_) AllReadyIn.nil;go_simp
     refine hK _ _ ?_;clear hK K;refine wpAnyIn_done ae ?_ _;exact⟨f4.from _,f6,⟨⟨⟨⟨_,f2,by rw[qM,length_append];exact f3,trivial⟩,hB1.trans f5⟩,Nat.le_trans hs5 f5.size⟩,(f6.2 _ (.inr (.inl rfl))).trans hb3,(f6.2 _ (.inr (.inr rfl))).trans hb4⟩⟩
 case done=>
  rintro D zs W hD rfl ⟨⟨⟨⟨v,bv,hrow,_⟩,hB1⟩,hs5⟩,_⟩ hK;have cv:=bv.cell;gi_wp2
  refine⟨by simp,.inl ⟨_,_,rfl,run_takeDeferred hK,?_⟩⟩;exact⟨_,results_tmp rfl _ _ _,_,rfl,hB1.trans (belowK_b (w:=w) (Nat.le_refl _) W D _ _ ac hK rfl rfl),ownsRow_putObj hrow _ hK rfl⟩
 case stop=>
  rintro D c pre W _ _ h _;exact h.elim
theorem Lq(b:bn)(d:Int):jx (d+1) b.entries=dP b d:=rfl
theorem S7(l:List aO):uv l=((l.map cU).map λa=>(mX a).toList).flatten:=by simp[uv,List.map_map,Function.comp_def]
theorem S8{a:fE}{x:AD}{u:Value}(h1:a.ds[j]? =some x)(h2:(mX a).toList[j]? =some u):co Z w x u:=by
 match j,h1,h2 with
 |0,h1,h2=>simp[fE.ds,mX]at h1 h2;subst h1 h2;exact .pv _ rfl
 |1,h1,h2=>simp[fE.ds,mX]at h1 h2;subst h1 h2;exact .pv _ rfl
 |2,h1,h2=>simp[fE.ds,mX]at h1 h2;subst h1 h2;exact .pv _ rfl
 |3,h1,h2=>simp[fE.ds,mX]at h1 h2;subst h1 h2;exact .pv _ rfl
 |n+4,h1,h2=>simp[fE.ds]at h1
theorem S9{l:List fE}(hz:∀b,base<=b->b<w.heap.size->Z b)(h:w.ownsRow base 249 4 v l.length (l.map λa=>(mX a).toList).flatten):co Z w (.sl (l.map fE.ds)) v:=by
 have hx:∀x∈l.map fE.ds,x.length=4:=λx hx=>by obtain⟨a,_,rfl⟩:=mem_map.1 hx;rfl
 have hu:∀u∈l.map (λa=>(mX a).toList),u.length=4:=λu hu=>by obtain⟨a,_,rfl⟩:=mem_map.1 hu;rfl
 have hr:∀(i j:Nat) x u a b,(l.map fE.ds)[i]? =some x->(l.map λa=>(mX a).toList)[i]? =some u->x[j]? =some a->u[j]? =some b->co Z w a b:=λi j x u a b h1 h2 h3 h4=>by
  rw[List.getElem?_map]at h1 h2;obtain⟨c,hc,rfl⟩:=Option.map_eq_some_iff.1 h1;obtain⟨c',hc',rfl⟩:=Option.map_eq_some_iff.1 h2;rw[hc]at hc';injection hc' with hc'
  subst hc';exact S8 h3 h4
 rcases h.2 with⟨rfl,h0⟩|⟨g,cap,cur,rfl,hb,hgb,hn,hm,hs,ht⟩
 ·have:l=[]:=List.eq_nil_of_length_eq_zero h0;subst this;exact co.sl [] none 0 4 [] (Nat.le_refl _) ai rfl hx hu (.inl rfl) hr
 ·have:=co.sl (Z:=Z) (w:=w) (l.map fE.ds) (some ⟨g,0,none⟩) cap 4 (l.map λa=>(mX a).toList) (by simpa using hn) hm ah hx hu (.inr ⟨g,0,rfl,hz g hb (Array.getElem?_eq_some_iff.1 hgb).1,λi u hi=>by
   rw[<-ht,List.getElem?_take]at hi;split at hi
   ·simp only[World.cell?,hgb];simpa using hi
   ·cases hi⟩) hr
  simpa using this
theorem UV(e:aO):∀(j:Nat) (d:AD),e.ds[j]? =some d->∃u,d= .pv u/\(jL e)[j]? =some u:=λj d h=>by
 match j,h with
 |0,h=>simp[aO.ds]at h;subst h;exact⟨_,rfl,rfl⟩
 |1,h=>simp[aO.ds]at h;subst h;exact⟨_,rfl,rfl⟩
 |2,h=>simp[aO.ds]at h;subst h;exact⟨_,rfl,rfl⟩
 |3,h=>simp[aO.ds]at h;subst h;exact⟨_,rfl,rfl⟩
 |4,h=>simp[aO.ds]at h;subst h;exact⟨_,rfl,rfl⟩
 |5,h=>simp[aO.ds]at h;subst h;exact⟨_,rfl,rfl⟩
 |6,h=>simp[aO.ds]at h;subst h;exact⟨_,rfl,rfl⟩
 |7,h=>simp[aO.ds]at h;subst h;exact⟨_,rfl,rfl⟩
 |8,h=>simp[aO.ds]at h;subst h;exact⟨_,rfl,rfl⟩
 |n+9,h=>simp[aO.ds]at h
theorem UW(hz:∀b,Z b->b<w.heap.size){es:List aO}(h:co Z w (.sl (es.map aO.ds)) v):∃A cap,v= .slice A es.length cap/\ug w.heap.size w A es:=by
 generalize hx:es.map aO.ds=xs at h;cases h with
 |sl _ A cap s us hc hm hl hxs hu hr hh=>
  subst hx;refine⟨A,cap,by simp,?_⟩;rcases hr with h0|⟨b,off,rfl,hb,hcell⟩
  ·left;cases es with
   |nil=>rfl
   |cons e r=>
    exfalso;cases us with
    |nil=>simp at hl
    |cons u us=>
     have h1:=hxs e.ds ah;have h2:=hu u ah;simp[aO.ds]at h1;simp at h0;rw[h0.1]at h2;simp at h2;omega
  ·refine .inr ⟨b,off,rfl,hz b hb,λk hk j u hj=>?_⟩;have hs:s=9:=by
    have:=hxs (es[k]).ds (mem_map.2 ⟨_,List.getElem_mem hk,rfl⟩);simpa[aO.ds]using this.symm
   subst hs;have hku:k<us.length:=by rw[hl];simpa using hk
   have hul:us[k].length=9:=hu _ (List.getElem_mem hku);have hj9:j<9:=by
    have:=(Array.getElem?_eq_some_iff.1 hj).1;simpa[jL]using this
   have hdj:j<(es[k]).ds.length:=by simpa[aO.ds]using hj9
   obtain⟨u',e1,e2⟩:=UV es[k] j _ (getElem?_eq_getElem hdj);rw[hj]at e2;injection e2 with e2
   subst e2;have hrel:=hh k j (es[k]).ds us[k] _ (us[k]'hku)[j] (by simp[hk]) (getElem?_eq_getElem hku) (getElem?_eq_getElem hdj) (getElem?_eq_getElem ac);rw[e1]at hrel;have e3:(us[k]'hku)[j]=u:=by cases hrel;rfl
   have hf:=zC hu (getElem?_eq_getElem hku) hj9;have hg:(us[k]'hku)[j]? =some u:=by rw[getElem?_eq_getElem ac,e3]
   rw[hg]at hf;have:=hcell _ _ hf;rwa[<-Nat.add_assoc]at this
theorem T8:SN:=λb d hb h1 h2=>by
 have hp:=fb hb;have hq:=gx hb;refine⟨call211,λZ w us hz hg hul hr=>?_⟩;match us,hul with
 |[],hul=>simp at hul
 |[_],hul=>simp at hul
 |_::_::_::_,hul=>simp at hul
 |[u,t],hul=>
  obtain⟨cs,rfl,hcl,hcr⟩:=hr 0 _ u rfl rfl;have ht:t= .int .i64 d:=mb rfl (show co Z w (dI d) t from hr 1 _ t rfl rfl);subst ht;match cs,hcl with
  |[],hcl=>simp[bn.ds]at hcl
  |[_],hcl=>simp[bn.ds]at hcl
  |[_,_],hcl=>simp[bn.ds]at hcl
  |_::_::_::_::_,hcl=>simp[bn.ds]at hcl
  |[c0,c1,c2],hcl=>
   have e0:c0= .int .i64 b.base:=mb rfl (show co Z w (dI b.base) c0 from hcr 0 _ c0 rfl rfl);have e1:c1= .int .i64 b.time:=mb rfl (show co Z w (dI b.time) c1 from hcr 1 _ c1 rfl rfl);subst e0 e1;obtain⟨A,cap,rfl,hA⟩:=UW hz (show co Z w (.sl (b.entries.map aO.ds)) c2 from hcr 2 _ c2 rfl rfl);refine Calls.mono (callsIn_wide.1 (Vj b.base b.time d A cap b.entries hp.2.2.1 ⟨ac,ac⟩ w (by obtain⟨w1,g1,g2,_⟩:=hg;exact⟨w1,g1,g2⟩) hA)) ?_;rintro e w' ⟨v,rfl,hbl,hrow⟩;refine⟨v,λb=>Z b\/(w.heap.size<=b/\b<w'.heap.size),rfl,hbl,λb h=> .inl h,λb h=>h,?_⟩;rw[Lq,S7]at hrow;exact S9 (base:=w.heap.size) (λb h1 h2=> .inr ⟨h1,h2⟩) (by simpa using hrow)
end Go.Proofs.YthgkdhnlehneeaaGreatDoor
