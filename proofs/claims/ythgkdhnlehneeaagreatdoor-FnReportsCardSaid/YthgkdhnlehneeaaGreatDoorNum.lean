/- Num -/
import Derived.Test.YthgkdhnlehneeaaGreatDoorRows
import Derived.WalkKit
import Derived.WalkLawsBesides
import Derived.WalkSpells
import Derived.Lib.Hide
import Derived.Deep.LoopGhost
import Derived.Outline
import Derived.Maps.AppendAt
import Derived.Deep.AppendLies
import Derived.Laws.MakeOwn
import Derived.RegionTactic
import Derived.OwnWalk
import Derived.Deep.RegionHeld3
set_option maxHeartbeats 8000000
set_option linter.unusedVariables false
set_option linter.unusedSimpArgs false
namespace Go.Proofs.YthgkdhnlehneeaaGreatDoor
open Go.ChangeShapes Go.WideShapes Go.RowKit
def aJ(x lo hi:Int):Bool:=decide (lo<=x)&&decide (x<=hi)
section
variable {xs:List Value}{A:Option Addr}{w:World}
def Row(w:World)(A:Option Addr)(xs:List Value):Prop:=
 ∀j,j<xs.length->∃b off,A=some ⟨b,off,none⟩/\b<w.heap.size/\∀i u,xs[i]? =some u->w.cell? ⟨b,off+i,none⟩=some u
theorem Row.at_(h:Row w A xs){k:Nat}(hk:k<xs.length):
  ∃b off,A=some ⟨b,off,none⟩/\w.cell? ⟨b,off+k,none⟩=some xs[k]:=by
 obtain⟨b,off,e,_,hc⟩:=h k hk;exact⟨b,off,e,hc k _ (List.getElem?_eq_getElem hk)⟩
theorem Row.below{w':World}(h:Row w A xs)(hb:Below w.heap.size w w'):Row w' A xs:=by
 intro j hj;obtain⟨b,off,e,hl,hc⟩:=h j hj;exact⟨b,off,e,Nat.lt_of_lt_of_le hl hb.size,λi u hu=>(hb.cell (p:=⟨b,off+i,none⟩) hl).trans (hc i u hu)⟩
end
section
structure Rep (α:Type) where
 size:Nat
 rd:World->List Value->α->List Nat->Prop
 len:∀{w cs a F},rd w cs a F->cs.length=size
 one:∀{w cs a F},rd w cs a F->∀c∈cs,c.oneCell'=true
 lt:∀{w cs a F},rd w cs a F->∀b∈F,b<w.heap.size
 keep:∀{w w' cs a F},rd w cs a F->(∀b∈F,w'.heap[b]? =w.heap[b]?)->rd w' cs a F
def Rep.int(k:IntKind):Rep Int where
 size:=1
 rd:=λ_ cs a F=>cs=[.int k a]/\(Lit.int k a).wf=true/\F=[]
 len:=by rintro _ _ _ _ ⟨rfl,_,_⟩;rfl
 one:=by rintro _ _ _ _ ⟨rfl,_,_⟩;simp[Value.oneCell']
 lt:=by rintro _ _ _ _ ⟨_,_,rfl⟩;simp
 keep:=λh _=>h
def Rep.bool:Rep Bool where
 size:=1
 rd:=λ_ cs a F=>cs=[.bool a]/\F=[]
 len:=by rintro _ _ _ _ ⟨rfl,_⟩;rfl
 one:=by rintro _ _ _ _ ⟨rfl,_⟩;simp[Value.oneCell']
 lt:=by rintro _ _ _ _ ⟨_,rfl⟩;simp
 keep:=λh _=>h
def Rep.str:Rep ByteArray where
 size:=1
 rd:=λ_ cs a F=>cs=[.string a]/\F=[]
 len:=by rintro _ _ _ _ ⟨rfl,_⟩;rfl
 one:=by rintro _ _ _ _ ⟨rfl,_⟩;simp[Value.oneCell']
 lt:=by rintro _ _ _ _ ⟨_,rfl⟩;simp
 keep:=λh _=>h
def Rep.all{α:Type}(R:Rep α)(w:World):List Value->List α->List Nat->Prop
 |cs,[],F=>cs=[]/\F=[]
 |cs,a::l,F=>∃c1 c2 F1 F2,cs=c1++c2/\F=F1++F2/\R.rd w c1 a F1/\R.all w c2 l F2
section
variable {α:Type} {R:Rep α} {w w':World}
theorem abD:∀{l:List α} {cs:List Value} {F:List Nat},R.all w cs l F->cs.length=l.length*R.size
 |[],_,_,⟨rfl,_⟩=>by simp
 |a::l,_,_,⟨c1,c2,F1,F2,rfl,rfl,h1,h2⟩=>by simp[R.len h1,abD h2,Nat.add_mul,Nat.add_comm]
theorem abG:∀{l:List α} {cs:List Value} {F:List Nat},R.all w cs l F->∀b∈F,b<w.heap.size
 |[],_,_,⟨_,rfl⟩=>by simp
 |a::l,_,_,⟨c1,c2,F1,F2,rfl,rfl,h1,h2⟩=>λc hc=>by
  rcases List.mem_append.1 hc with h|h
  ·exact R.lt h1 c h
  ·exact abG h2 c h
theorem abh:∀{l:List α} {cs:List Value} {F:List Nat},R.all w cs l F->(∀b∈F,w'.heap[b]? =w.heap[b]?)->R.all w' cs l F
 |[],_,_,⟨rfl,rfl⟩,_=>⟨rfl,rfl⟩
 |a::l,_,_,⟨c1,c2,F1,F2,rfl,rfl,h1,h2⟩,hk=>
  ⟨c1,c2,F1,F2,rfl,rfl,R.keep h1 λb hb=>hk b (List.mem_append_left _ hb),abh h2 λb hb=>hk b (List.mem_append_right _ hb)⟩
theorem Rep.all_append:∀{l l':List α} {cs cs':List Value} {F F':List Nat},R.all w cs l F->R.all w cs' l' F'->R.all w (cs++cs') (l++l') (F++F')
 |[],_,_,_,_,_,⟨rfl,rfl⟩,h'=>h'
 |a::l,_,_,_,_,_,⟨c1,c2,F1,F2,rfl,rfl,h1,h2⟩,h'=>
  ⟨c1,c2++_,F1,F2++_,by simp,by simp,h1,Rep.all_append h2 h'⟩
theorem abx{cs:List Value}{a:α}{F:List Nat}(h:R.rd w cs a F):R.all w cs [a] F:=⟨cs,[],F,[],by simp,by simp,h,rfl,rfl⟩
theorem abQ{l:List α}{a:α}{cs cs':List Value}{F F':List Nat}(h:R.all w cs l F)(h':R.rd w cs' a F'):R.all w (cs++cs') (l++[a]) (F++F'):=
 Rep.all_append h (abx h')
end
def lT(A:Option Addr)(cs:List Value):List Nat:=if cs=[]then []else match A with|some a=>[a.block]|none=>[]
def Rep.sl{α:Type}(R:Rep α):Rep (List α) where
 size:=1
 rd:=λw cs l F=>∃A cap xs F1,cs=[.slice A l.length cap]/\l.length<=cap/\cap<=maxLen/\Row w A xs/\R.all w xs l F1/\F=lT A xs++F1
 len:=by rintro _ _ _ _ ⟨A,cap,xs,F1,rfl,_⟩;rfl
 one:=by rintro _ _ _ _ ⟨A,cap,xs,F1,rfl,_⟩;simp[Value.oneCell']
 lt:=by
  rintro w _ l _ ⟨A,cap,xs,F1,rfl,_,_,hr,ha,rfl⟩ b hb;rcases List.mem_append.1 hb with h|h
  ·unfold lT at h;split at h
   ·cases h
   ·rename_i hx;obtain⟨b',off,rfl,hl,_⟩:=hr 0 (List.length_pos_iff.2 hx);simp only[List.mem_singleton]at h;exact h▸hl
  ·exact abG ha b h
 keep:=by
  rintro w w' _ l _ ⟨A,cap,xs,F1,rfl,h1,h2,hr,ha,rfl⟩ hk;refine⟨A,cap,xs,F1,rfl,h1,h2,?_,abh ha λb hb=>hk b (List.mem_append_right _ hb),rfl⟩;intro j hj;obtain⟨b,off,rfl,hl,hc⟩:=hr j hj;have hx:xs≠ []:=by intro h;subst h;cases hj
  have hb:w'.heap[b]? =w.heap[b]? :=hk b (List.mem_append_left _ (by simp[lT,hx]));refine⟨b,off,rfl,?_,λi u hu=>(World.cell?_of_block (a:=⟨b,off+i,none⟩) hb).trans (hc i u hu)⟩;rcases Nat.lt_or_ge b w'.heap.size with h|h
  ·exact h
  ·rw[Array.getElem?_eq_none h]at hb;rw[Array.getElem?_eq_getElem hl]at hb;cases hb
section
variable {α:Type} {R:Rep α} {w w':World} {cs:List Value} {a:α} {F:List Nat}
theorem Rep.below(h:R.rd w cs a F){B:Nat}(hb:Below B w w')(hF:∀b∈F,b<B):R.rd w' cs a F:=R.keep h λb hm=>hb.block b (hF b hm)
theorem Rep.alloc(h:R.rd w cs a F)(o:Obj):R.rd (w.alloc o) cs a F:=R.keep h λb hm=>Below.heap_alloc w o b (R.lt h b hm)
theorem Rep.drew(h:R.rd w cs a F):R.rd w.drew cs a F:=R.keep h λ_ _=>rfl
theorem Rep.drewN(h:R.rd w cs a F)(n:Nat):R.rd (w.drewN n) cs a F:=R.keep h λ_ _=>rfl
theorem Rep.setCell(h:R.rd w cs a F){p:Addr}(hp:p.block∉F)(u:Value):R.rd (w.setCell p u) cs a F:=
 R.keep h λb hm=>Below.heap_setCell w p u b (λe=>hp (e▸hm))
theorem Rep.grown(h:R.rd w cs a F){row:Option Nat}(hg:w.grownBy w' row)(hr:∀g,row=some g->g∉F):R.rd w' cs a F:=
 R.keep h λb hm=>hg.block b (R.lt h b hm) (λe=>hr b e.symm hm)
theorem ab3{base:Nat}{e:TypeId}{v:Value}{n:Nat}{xs:List Value}{l:List α}{F1:List Nat}(ho:w.ownsRow base e R.size v n xs)(hall:R.all w xs l F1)(hn:n=l.length):
  ∃A cap,v= .slice A l.length cap/\R.sl.rd w [v] l (lT A xs++F1)/\(∀b∈lT A xs,v.ownBlock=some b/\base<=b):=by
 subst hn;obtain⟨h1,h2⟩:=ho;rcases h2 with⟨rfl,h0⟩|⟨g,cap,cur,rfl,hb,hg,hnc,hcm,hcs,ht⟩
 ·have hl:l=[]:=List.eq_nil_of_length_eq_zero h0;subst hl;obtain⟨rfl,rfl⟩:=hall;exact⟨none,0,rfl,⟨none,0,[],[],rfl,Nat.le_refl _,Nat.zero_le _,λj hj=>absurd hj (Nat.not_lt_zero _),⟨rfl,rfl⟩,rfl⟩,by simp[lT]⟩
 ·refine⟨some ⟨g,0,none⟩,cap,rfl,⟨some ⟨g,0,none⟩,cap,xs,F1,rfl,hnc,hcm,?_,hall,rfl⟩,?_⟩
  ·intro j hj;refine⟨g,0,rfl,(Array.getElem?_eq_some_iff.1 hg).1,λi u hu=>?_⟩;rw[cell_of_row w g (0+i) cur e (0,0) hg,Nat.zero_add];rw[<-ht,List.getElem?_take]at hu;split at hu
   ·simpa using hu
   ·cases hu
  ·intro b hbm;unfold lT at hbm;split at hbm
   ·cases hbm
   ·simp only[List.mem_singleton]at hbm;subst hbm;exact⟨rfl,hb⟩
end
end
section
section
variable {P:Program} (w:World)
theorem Ao(base:Nat)(t ty e:TypeId)(i:TypeInfo)(size:Nat)(ht:P.underlying t=some (.slice e))(hi:P.info? e=some i)
  (v:Value) (n:Nat) (xs:List Value) (hown:w.ownsRow base e size v n xs) (c:Nat):(Builtin.append_ #[t,t] ty #[v,.slice none 0 c]).run P w= .ok v w:=by
 rcases hown.2 with⟨rfl,rfl⟩|⟨g,cap,cur,rfl,_,_,hnc,_⟩
 ·simp[Builtin.append_,run_underlying ht,sizeOf,typeInfo,hi,Builtin.lenOf,Builtin.firstCells]
 ·simp[Builtin.append_,run_underlying ht,sizeOf,typeInfo,hi,Builtin.lenOf,Builtin.firstCells,hnc,storeCells]
theorem FN(base:Nat)(t ty e:TypeId)(i:TypeInfo)(z:Value)(size bytes:Nat)(ht:P.underlying t=some (.slice e))(hi:P.info? e=some i)(hz:i.zero=some z)
  (hsize:i.size=size) (hby:i.bytes=bytes) (hzs:z.cells.size=size) (hsz:0<size)
  (v:Value) (n:Nat) (xs:List Value) (hown:w.ownsRow base e size v n xs)
  (A:Option Addr) (m c:Nat) (news:List Value) (hl:news.length=m*size) (hr:Row w A news) (h1:∀u∈news,u.oneCell'=true)
  (h63:n+m<=maxLen) (hbytes:(n+m)*bytes<=140737488355328) (hbase:base<=w.heap.size):
  ∃v' w',(Builtin.append_ #[t,t] ty #[v,.slice A m c]).run P w= .ok v' w'/\w'.ownsRow base e size v' (n+m) (xs++news)/\w.grownBy w' v.ownBlock/\
   (v'.ownBlock=v.ownBlock\/v'.ownBlock=some w.heap.size):=by
 rcases A with _|ad
 ·have hn:news=[]:=by
   rcases Nat.eq_zero_or_pos news.length with h0|h0
   ·exact List.eq_nil_of_length_eq_zero h0
   ·obtain⟨b,off,h,_⟩:=hr 0 h0;cases h
  subst hn;have hm:m=0:=by
   have:=hl;simp only[List.length_nil]at this;rcases Nat.mul_eq_zero.1 this.symm with h|h
   ·exact h
   ·omega
  subst hm;exact⟨v,w,Ao w base t ty e i size ht hi v n xs hown c,by simpa using hown,World.grownBy.refl w _,.inl rfl⟩
 ·have hcells:∀j u,news[j]? =some u->w.cell? (ad.add j)=some u:=by
   intro j u hu;obtain⟨b,off,h,_,hc⟩:=hr j (List.getElem?_eq_some_iff.1 hu).1;injection h with h
   subst h;have:=hc j u hu;rwa[show(⟨b,off,none⟩:Addr).add j=⟨b,off+j,none⟩by unfold Addr.add;split<;>simp_all]
  obtain⟨v',w',hrun,h2,h3,_,h5⟩:=run_append_own_at (P:=P) w base t ty e i z size bytes ht hi hz hsize hby hzs hsz v n xs hown ad m c news hl hcells h1 h63 hbytes hbase;exact⟨v',w',hrun,h2,h3,h5⟩
end
def gW(B:Nat)(w:World)(F:List Nat):Prop:=F.Nodup/\∀b∈F,B<=b/\∃cur t,w.heap[b]? =some (.cells cur t (0,0))
def VS{α:Type}(R:Rep α)(l:List α)(w:World)(e:Ending)(w':World):Prop:=
 ∃A cap F,e= .returned (.slice A l.length cap)/\R.sl.rd w' [.slice A l.length cap] l F/\gW w.heap.size w' F/\Below w.heap.size w w'
theorem gW.nil(B:Nat)(w:World):gW B w []:=⟨List.nodup_nil,by simp⟩
theorem gW.keep{B:Nat}{w w':World}{F:List Nat}(h:gW B w F)(hk:∀b∈F,w'.heap[b]? =w.heap[b]?):gW B w' F:=
 ⟨h.1,λb hb=>⟨(h.2 b hb).1,by rw[hk b hb];exact(h.2 b hb).2⟩⟩
theorem gW.lt{B:Nat}{w:World}{F:List Nat}(h:gW B w F):∀b∈F,b<w.heap.size:=λb hb=>by
 obtain⟨_,cur,t,hc⟩:=h.2 b hb;exact(Array.getElem?_eq_some_iff.1 hc).1
theorem gW.below{B:Nat}{w w':World}{F:List Nat}(h:gW B w F)(hb:Below w.heap.size w w'):gW B w' F:=h.keep λb hm=>hb.block b (h.lt b hm)
theorem gW.mono{B B':Nat}{w:World}{F:List Nat}(h:gW B w F)(hB:B'<=B):gW B' w F:=⟨h.1,λb hb=>⟨Nat.le_trans hB (h.2 b hb).1,(h.2 b hb).2⟩⟩
theorem gW.join{B:Nat}{w:World}{F G:List Nat}(h:gW B w F)(k:gW B w G)(hd:∀b∈F,b∉G):gW B w (F++G):=by
 refine⟨List.nodup_append.2 ⟨h.1,k.1,λa ha b hb e=>hd a ha (e▸hb)⟩,λb hb=>?_⟩;rcases List.mem_append.1 hb with h'|h'
 ·exact h.2 b h'
 ·exact k.2 b h'
theorem gW.sub{B:Nat}{w:World}{F G:List Nat}(h:gW B w F)(hs:G.Sublist F):gW B w G:=⟨h.1.sublist hs,λb hb=>h.2 b (hs.mem hb)⟩
theorem gW.own{w:World}{base:Nat}{e:TypeId}{size:Nat}{v:Value}{n:Nat}{xs:List Value}(h:w.ownsRow base e size v n xs){A:Option Addr}{m c:Nat}(hv:v= .slice A m c):gW base w (lT A xs):=by
 subst hv;unfold lT;split
 ·exact gW.nil _ _
 ·rcases h.2 with⟨e1,h0⟩|⟨g,cap,cur,e1,hb,hg,_⟩
  ·have hl:=h.1;rw[h0,Nat.zero_mul]at hl;exact absurd (List.eq_nil_of_length_eq_zero hl) (by assumption)
  ·injection e1 with e1 _ _
   subst e1;exact⟨by simp,λb hm=>by simp only[List.mem_singleton]at hm;subst hm;exact⟨hb,cur,e,hg⟩⟩
theorem LR(w:World)(k:IntKind):∀(xs:List Int),(∀x∈xs,(Lit.int k x).wf=true)->(Rep.int k).all w (xs.map (Value.int k)) xs []
 |[],_=>⟨rfl,rfl⟩
 |x::r,h=>⟨[.int k x],r.map (Value.int k),[],[],rfl,rfl,⟨rfl,h x (by simp),rfl⟩,LR w k r λy hy=>h y (by simp[hy])⟩
theorem E4{w:World}{k:IntKind}:∀{xs:List Int} {cs:List Value} {F:List Nat},(Rep.int k).all w cs xs F->cs=xs.map (Value.int k)/\F=[]/\∀x∈xs,(Lit.int k x).wf=true
 |[],_,_,⟨rfl,rfl⟩=>⟨rfl,rfl,by simp⟩
 |x::r,_,_,⟨c1,c2,F1,F2,rfl,rfl,h1,h2⟩=>by
  obtain⟨rfl,rfl,hr⟩:=E4 h2;obtain⟨rfl,hw,rfl⟩:=h1;exact⟨rfl,rfl,by simpa[hw]using hr⟩
structure Res {α:Type} (R:Rep α) (B:Nat) (w:World) (cs:List Value) (a:α) (F:List Nat):Prop where
 rd:R.rd w cs a F
 fresh:gW B w F
section
variable {α:Type} {R:Rep α} {B B':Nat} {w w':World} {cs:List Value} {a:α} {F:List Nat}
theorem Res.keep(h:Res R B w cs a F)(hk:∀b∈F,w'.heap[b]? =w.heap[b]?):Res R B w' cs a F:=⟨R.keep h.rd hk,h.fresh.keep hk⟩
theorem Res.alloc(h:Res R B w cs a F)(o:Obj):Res R B (w.alloc o) cs a F:=h.keep λb hm=>Below.heap_alloc w o b (R.lt h.rd b hm)
theorem Res.drew(h:Res R B w cs a F):Res R B w.drew cs a F:=h.keep λ_ _=>rfl
theorem Res.drewN(h:Res R B w cs a F)(n:Nat):Res R B (w.drewN n) cs a F:=h.keep λ_ _=>rfl
theorem Res.below(h:Res R B w cs a F)(hb:Below w.heap.size w w'):Res R B w' cs a F:=h.keep λb hm=>hb.block b (R.lt h.rd b hm)
theorem Res.mono(h:Res R B w cs a F)(hB:B'<=B):Res R B' w cs a F:=⟨h.rd,h.fresh.mono hB⟩
end
theorem abZ{α:Type}{R:Rep α}{w:World}{A:Option Addr}{n cap:Nat}{l:List α}{F:List Nat}(h:R.sl.rd w [.slice A n cap] l F):
  n=l.length/\l.length<=cap/\cap<=maxLen/\∃xs F1,Row w A xs/\R.all w xs l F1/\F=lT A xs++F1:=by
 obtain⟨A',cap',xs,F1,e1,h1,h2,hr,ha,hF⟩:=h;injection e1 with e1 _
 injection e1 with e1 e2 e3
 subst e1 e2 e3;exact⟨rfl,h1,h2,xs,F1,hr,ha,hF⟩
theorem px{α:Type}{l:List α}{k:Nat}(h:k<l.length):l.take (k+1)=l.take k++[l[k]]:=by
 rw[List.take_succ_eq_append_getElem h]
end
end Go.Proofs.YthgkdhnlehneeaaGreatDoor
