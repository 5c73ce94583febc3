/- Num -/
import Derived.Test.YtknefkdcokgpbaaGreatRows
import Derived.WalkKit
import Derived.WalkLawsBesides
import Derived.WalkSpells
import Derived.Lib.Hide
import Derived.Deep.LoopGhost
import Derived.Outline
import Derived.Maps.AppendAt
import Derived.Deep.AppendLies
import Derived.Laws.MakeOwn
import Derived.RegionTactic
import Derived.OwnWalk
import Derived.Deep.RegionHeld3
set_option maxHeartbeats 8000000
set_option linter.unusedVariables false
set_option linter.unusedSimpArgs false
namespace Go.Proofs.YtknefkdcokgpbaaGreat
open Go.ChangeShapes Go.WideShapes Go.RowKit
def aK(x lo hi:Int):Bool:=decide (lo<=x)&&decide (x<=hi)
section
variable {xs:List Value}{A:Option Addr}{w:World}
def Row(w:World)(A:Option Addr)(xs:List Value):Prop:=
 ∀j,j<xs.length->∃b off,A=some ⟨b,off,none⟩/\b<w.heap.size/\∀i u,xs[i]? =some u->w.cell? ⟨b,off+i,none⟩=some u
theorem Row.at_(h:Row w A xs){k:Nat}(hk:k<xs.length):
  ∃b off,A=some ⟨b,off,none⟩/\w.cell? ⟨b,off+k,none⟩=some xs[k]:=by
 obtain⟨b,off,e,_,hc⟩:=h k hk;exact⟨b,off,e,hc k _ (List.getElem?_eq_getElem hk)⟩
theorem Row.below{w':World}(h:Row w A xs)(hb:Below w.heap.size w w'):Row w' A xs:=by
 intro j hj;obtain⟨b,off,e,hl,hc⟩:=h j hj;exact⟨b,off,e,Nat.lt_of_lt_of_le hl hb.size,λi u hu=>(hb.cell (p:=⟨b,off+i,none⟩) hl).trans (hc i u hu)⟩
end
section
structure Rep (α:Type) where
 size:Nat
 rd:World->List Value->α->List Nat->Prop
 len:∀{w cs a F},rd w cs a F->cs.length=size
 one:∀{w cs a F},rd w cs a F->∀c∈cs,c.oneCell'=true
 lt:∀{w cs a F},rd w cs a F->∀b∈F,b<w.heap.size
 keep:∀{w w' cs a F},rd w cs a F->(∀b∈F,w'.heap[b]? =w.heap[b]?)->rd w' cs a F
def Rep.int(k:IntKind):Rep Int where
 size:=1
 rd:=λ_ cs a F=>cs=[.int k a]/\(Lit.int k a).wf=true/\F=[]
 len:=by rintro _ _ _ _ ⟨rfl,_,_⟩;rfl
 one:=by rintro _ _ _ _ ⟨rfl,_,_⟩;simp[Value.oneCell']
 lt:=by rintro _ _ _ _ ⟨_,_,rfl⟩;simp
 keep:=λh _=>h
def Rep.bool:Rep Bool where
 size:=1
 rd:=λ_ cs a F=>cs=[.bool a]/\F=[]
 len:=by rintro _ _ _ _ ⟨rfl,_⟩;rfl
 one:=by rintro _ _ _ _ ⟨rfl,_⟩;simp[Value.oneCell']
 lt:=by rintro _ _ _ _ ⟨_,rfl⟩;simp
 keep:=λh _=>h
def Rep.str:Rep ByteArray where
 size:=1
 rd:=λ_ cs a F=>cs=[.string a]/\F=[]
 len:=by rintro _ _ _ _ ⟨rfl,_⟩;rfl
 one:=by rintro _ _ _ _ ⟨rfl,_⟩;simp[Value.oneCell']
 lt:=by rintro _ _ _ _ ⟨_,rfl⟩;simp
 keep:=λh _=>h
def Yd{α β:Type}(R:Rep α)(S:Rep β):Rep (α×β) where
 size:=R.size+S.size
 rd:=λw cs x F=>∃c1 c2 F1 F2,cs=c1++c2/\F=F1++F2/\R.rd w c1 x.1 F1/\S.rd w c2 x.2 F2
 len:=by rintro _ _ _ _ ⟨c1,c2,F1,F2,rfl,rfl,h1,h2⟩;simp[R.len h1,S.len h2]
 one:=by
  rintro _ _ _ _ ⟨c1,c2,F1,F2,rfl,rfl,h1,h2⟩ c hc;rcases List.mem_append.1 hc with h|h
  ·exact R.one h1 c h
  ·exact S.one h2 c h
 lt:=by
  rintro _ _ _ _ ⟨c1,c2,F1,F2,rfl,rfl,h1,h2⟩ c hc;rcases List.mem_append.1 hc with h|h
  ·exact R.lt h1 c h
  ·exact S.lt h2 c h
 keep:=by
  rintro _ _ _ _ _ ⟨c1,c2,F1,F2,rfl,rfl,h1,h2⟩ hk;exact⟨c1,c2,F1,F2,rfl,rfl,R.keep h1 λb hb=>hk b (List.mem_append_left _ hb),S.keep h2 λb hb=>hk b (List.mem_append_right _ hb)⟩
def Rep.all{α:Type}(R:Rep α)(w:World):List Value->List α->List Nat->Prop
 |cs,[],F=>cs=[]/\F=[]
 |cs,a::l,F=>∃c1 c2 F1 F2,cs=c1++c2/\F=F1++F2/\R.rd w c1 a F1/\R.all w c2 l F2
section
variable {α:Type} {R:Rep α} {w w':World}
theorem ZI:∀{l:List α} {cs:List Value} {F:List Nat},R.all w cs l F->cs.length=l.length*R.size
 |[],_,_,⟨rfl,_⟩=>by simp
 |a::l,_,_,⟨c1,c2,F1,F2,rfl,rfl,h1,h2⟩=>by simp[R.len h1,ZI h2,Nat.add_mul,Nat.add_comm]
theorem ZZ:∀{l:List α} {cs:List Value} {F:List Nat},R.all w cs l F->∀b∈F,b<w.heap.size
 |[],_,_,⟨_,rfl⟩=>by simp
 |a::l,_,_,⟨c1,c2,F1,F2,rfl,rfl,h1,h2⟩=>λc hc=>by
  rcases List.mem_append.1 hc with h|h
  ·exact R.lt h1 c h
  ·exact ZZ h2 c h
theorem Zu:∀{l:List α} {cs:List Value} {F:List Nat},R.all w cs l F->(∀b∈F,w'.heap[b]? =w.heap[b]?)->R.all w' cs l F
 |[],_,_,⟨rfl,rfl⟩,_=>⟨rfl,rfl⟩
 |a::l,_,_,⟨c1,c2,F1,F2,rfl,rfl,h1,h2⟩,hk=>
  ⟨c1,c2,F1,F2,rfl,rfl,R.keep h1 λb hb=>hk b (List.mem_append_left _ hb),Zu h2 λb hb=>hk b (List.mem_append_right _ hb)⟩
theorem Rep.all_append:∀{l l':List α} {cs cs':List Value} {F F':List Nat},R.all w cs l F->R.all w cs' l' F'->R.all w (cs++cs') (l++l') (F++F')
 |[],_,_,_,_,_,⟨rfl,rfl⟩,h'=>h'
 |a::l,_,_,_,_,_,⟨c1,c2,F1,F2,rfl,rfl,h1,h2⟩,h'=>
  ⟨c1,c2++_,F1,F2++_,by simp,by simp,h1,Rep.all_append h2 h'⟩
theorem ZE{cs:List Value}{a:α}{F:List Nat}(h:R.rd w cs a F):R.all w cs [a] F:=⟨cs,[],F,[],by simp,by simp,h,rfl,rfl⟩
theorem aaa{l:List α}{a:α}{cs cs':List Value}{F F':List Nat}(h:R.all w cs l F)(h':R.rd w cs' a F'):R.all w (cs++cs') (l++[a]) (F++F'):=
 Rep.all_append h (ZE h')
end
def BI(A:Option Addr)(cs:List Value):List Nat:=if cs=[]then []else match A with|some a=>[a.block]|none=>[]
def Rep.sl{α:Type}(R:Rep α):Rep (List α) where
 size:=1
 rd:=λw cs l F=>∃A cap xs F1,cs=[.slice A l.length cap]/\l.length<=cap/\cap<=maxLen/\Row w A xs/\R.all w xs l F1/\F=BI A xs++F1
 len:=by rintro _ _ _ _ ⟨A,cap,xs,F1,rfl,_⟩;rfl
 one:=by rintro _ _ _ _ ⟨A,cap,xs,F1,rfl,_⟩;simp[Value.oneCell']
 lt:=by
  rintro w _ l _ ⟨A,cap,xs,F1,rfl,_,_,hr,ha,rfl⟩ b hb;rcases List.mem_append.1 hb with h|h
  ·unfold BI at h;split at h
   ·cases h
   ·rename_i hx;obtain⟨b',off,rfl,hl,_⟩:=hr 0 (List.length_pos_iff.2 hx);simp only[List.mem_singleton]at h;exact h▸hl
  ·exact ZZ ha b h
 keep:=by
  rintro w w' _ l _ ⟨A,cap,xs,F1,rfl,h1,h2,hr,ha,rfl⟩ hk;refine⟨A,cap,xs,F1,rfl,h1,h2,?_,Zu ha λb hb=>hk b (List.mem_append_right _ hb),rfl⟩;intro j hj;obtain⟨b,off,rfl,hl,hc⟩:=hr j hj;have hx:xs≠ []:=by intro h;subst h;cases hj
  have hb:w'.heap[b]? =w.heap[b]? :=hk b (List.mem_append_left _ (by simp[BI,hx]));refine⟨b,off,rfl,?_,λi u hu=>(World.cell?_of_block (a:=⟨b,off+i,none⟩) hb).trans (hc i u hu)⟩;rcases Nat.lt_or_ge b w'.heap.size with h|h
  ·exact h
  ·rw[Array.getElem?_eq_none h]at hb;rw[Array.getElem?_eq_getElem hl]at hb;cases hb
section
variable {α:Type} {R:Rep α} {w w':World} {cs:List Value} {a:α} {F:List Nat}
theorem Rep.below(h:R.rd w cs a F){B:Nat}(hb:Below B w w')(hF:∀b∈F,b<B):R.rd w' cs a F:=R.keep h λb hm=>hb.block b (hF b hm)
theorem Rep.alloc(h:R.rd w cs a F)(o:Obj):R.rd (w.alloc o) cs a F:=R.keep h λb hm=>Below.heap_alloc w o b (R.lt h b hm)
theorem Rep.drew(h:R.rd w cs a F):R.rd w.drew cs a F:=R.keep h λ_ _=>rfl
theorem Rep.setCell(h:R.rd w cs a F){p:Addr}(hp:p.block∉F)(u:Value):R.rd (w.setCell p u) cs a F:=
 R.keep h λb hm=>Below.heap_setCell w p u b (λe=>hp (e▸hm))
theorem Rep.grown(h:R.rd w cs a F){row:Option Nat}(hg:w.grownBy w' row)(hr:∀g,row=some g->g∉F):R.rd w' cs a F:=
 R.keep h λb hm=>hg.block b (R.lt h b hm) (λe=>hr b e.symm hm)
end
end
section
section
variable {P:Program} (w:World)
theorem xo(base:Nat)(t ty e:TypeId)(i:TypeInfo)(size:Nat)(ht:P.underlying t=some (.slice e))(hi:P.info? e=some i)
  (v:Value) (n:Nat) (xs:List Value) (hown:w.ownsRow base e size v n xs) (c:Nat):(Builtin.append_ #[t,t] ty #[v,.slice none 0 c]).run P w= .ok v w:=by
 rcases hown.2 with⟨rfl,rfl⟩|⟨g,cap,cur,rfl,_,_,hnc,_⟩
 ·simp[Builtin.append_,run_underlying ht,sizeOf,typeInfo,hi,Builtin.lenOf,Builtin.firstCells]
 ·simp[Builtin.append_,run_underlying ht,sizeOf,typeInfo,hi,Builtin.lenOf,Builtin.firstCells,hnc,storeCells]
theorem CR(base:Nat)(t ty e:TypeId)(i:TypeInfo)(z:Value)(size bytes:Nat)(ht:P.underlying t=some (.slice e))(hi:P.info? e=some i)(hz:i.zero=some z)
  (hsize:i.size=size) (hby:i.bytes=bytes) (hzs:z.cells.size=size) (hsz:0<size)
  (v:Value) (n:Nat) (xs:List Value) (hown:w.ownsRow base e size v n xs)
  (A:Option Addr) (m c:Nat) (news:List Value) (hl:news.length=m*size) (hr:Row w A news) (h1:∀u∈news,u.oneCell'=true)
  (h63:n+m<=maxLen) (hbytes:(n+m)*bytes<=140737488355328) (hbase:base<=w.heap.size):
  ∃v' w',(Builtin.append_ #[t,t] ty #[v,.slice A m c]).run P w= .ok v' w'/\w'.ownsRow base e size v' (n+m) (xs++news)/\w.grownBy w' v.ownBlock/\
   (v'.ownBlock=v.ownBlock\/v'.ownBlock=some w.heap.size):=by
 rcases A with _|ad
 ·have hn:news=[]:=by
   rcases Nat.eq_zero_or_pos news.length with h0|h0
   ·exact List.eq_nil_of_length_eq_zero h0
   ·obtain⟨b,off,h,_⟩:=hr 0 h0;cases h
  subst hn;have hm:m=0:=by
   have:=hl;simp only[List.length_nil]at this;rcases Nat.mul_eq_zero.1 this.symm with h|h
   ·exact h
   ·omega
  subst hm;exact⟨v,w,xo w base t ty e i size ht hi v n xs hown c,by simpa using hown,World.grownBy.refl w _,.inl rfl⟩
 ·have hcells:∀j u,news[j]? =some u->w.cell? (ad.add j)=some u:=by
   intro j u hu;obtain⟨b,off,h,_,hc⟩:=hr j (List.getElem?_eq_some_iff.1 hu).1;injection h with h
   subst h;have:=hc j u hu;rwa[show(⟨b,off,none⟩:Addr).add j=⟨b,off+j,none⟩by unfold Addr.add;split<;>simp_all]
  obtain⟨v',w',hrun,h2,h3,_,h5⟩:=run_append_own_at (P:=P) w base t ty e i z size bytes ht hi hz hsize hby hzs hsz v n xs hown ad m c news hl hcells h1 h63 hbytes hbase;exact⟨v',w',hrun,h2,h3,h5⟩
end
def mK(B:Nat)(w:World)(F:List Nat):Prop:=F.Nodup/\∀b∈F,B<=b/\∃cur t,w.heap[b]? =some (.cells cur t (0,0))
theorem mK.keep{B:Nat}{w w':World}{F:List Nat}(h:mK B w F)(hk:∀b∈F,w'.heap[b]? =w.heap[b]?):mK B w' F:=
 ⟨h.1,λb hb=>⟨(h.2 b hb).1,by rw[hk b hb];exact(h.2 b hb).2⟩⟩
theorem mK.lt{B:Nat}{w:World}{F:List Nat}(h:mK B w F):∀b∈F,b<w.heap.size:=λb hb=>by
 obtain⟨_,cur,t,hc⟩:=h.2 b hb;exact(Array.getElem?_eq_some_iff.1 hc).1
theorem mK.below{B:Nat}{w w':World}{F:List Nat}(h:mK B w F)(hb:Below w.heap.size w w'):mK B w' F:=h.keep λb hm=>hb.block b (h.lt b hm)
theorem mK.mono{B B':Nat}{w:World}{F:List Nat}(h:mK B w F)(hB:B'<=B):mK B' w F:=⟨h.1,λb hb=>⟨Nat.le_trans hB (h.2 b hb).1,(h.2 b hb).2⟩⟩
theorem mK.sub{B:Nat}{w:World}{F G:List Nat}(h:mK B w F)(hs:G.Sublist F):mK B w G:=⟨h.1.sublist hs,λb hb=>h.2 b (hs.mem hb)⟩
structure Res {α:Type} (R:Rep α) (B:Nat) (w:World) (cs:List Value) (a:α) (F:List Nat):Prop where
 rd:R.rd w cs a F
 fresh:mK B w F
section
variable {α:Type} {R:Rep α} {B B':Nat} {w w':World} {cs:List Value} {a:α} {F:List Nat}
theorem Res.keep(h:Res R B w cs a F)(hk:∀b∈F,w'.heap[b]? =w.heap[b]?):Res R B w' cs a F:=⟨R.keep h.rd hk,h.fresh.keep hk⟩
theorem Res.alloc(h:Res R B w cs a F)(o:Obj):Res R B (w.alloc o) cs a F:=h.keep λb hm=>Below.heap_alloc w o b (R.lt h.rd b hm)
theorem Res.drew(h:Res R B w cs a F):Res R B w.drew cs a F:=h.keep λ_ _=>rfl
theorem Res.below(h:Res R B w cs a F)(hb:Below w.heap.size w w'):Res R B w' cs a F:=h.keep λb hm=>hb.block b (R.lt h.rd b hm)
theorem Res.mono(h:Res R B w cs a F)(hB:B'<=B):Res R B' w cs a F:=⟨h.rd,h.fresh.mono hB⟩
end
end
end Go.Proofs.YtknefkdcokgpbaaGreat
