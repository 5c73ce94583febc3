/- J01 -/
import Derived.Test.YtnlhpdbijmnkhaaGreatDoorRows
import Derived.WalkKit
import Derived.WalkLawsBesides
import Derived.WalkSpells
import Derived.Lib.Hide
import Derived.Deep.LoopGhost
import Derived.Outline
import Derived.Maps.AppendAt
import Derived.Deep.AppendLies
import Derived.Laws.MakeOwn
import Derived.RegionTactic
import Derived.OwnWalk
import Derived.Deep.RegionHeld3
set_option linter.unusedVariables false
set_option linter.unusedSimpArgs false
set_option maxRecDepth 100000
namespace Go.Proofs.YtnlhpdbijmnkhaaGreatDoor
open Go.Proofs.Tryz
open Go.ChangeShapes Go.WideShapes Go.RowKit
def ac(x lo hi:Int):Bool:=decide (lo<=x)&&decide (x<=hi)
theorem mi{x lo hi:Int}(h1:lo<=x)(h2:x<=hi):ac x lo hi=true:=by simp[ac,h1,h2]
theorem dg{x lo hi:Int}(h:¬(lo<=x/\x<=hi)):ac x lo hi=false:=by simp only[ac,Bool.and_eq_false_iff,decide_eq_false_iff_not];omega
theorem em{x lo hi:Int}:ac x lo hi=true↔lo<=x/\x<=hi:=by simp[ac]
theorem gQ(x lo hi:Int)(w:World)(b:Bool)(hb:ac x lo hi=b):
  Calls Tryz.prog 36 #[.int .i64 x,.int .i64 lo,.int .i64 hi] w λe w'=>e= .returned (.bool b)/\w=w':=by
 subst hb
 by_cases h1:lo<=x
 ·by_cases h2:x<=hi
  ·rw[mi h1 h2]
   go_enter Tryz.func36,Tryz.ntmps36
   go_wp2
   go_ret
   exact⟨rfl,rfl⟩
  ·rw[dg (x:=x) (lo:=lo) (hi:=hi) (by omega)]
   go_enter Tryz.func36,Tryz.ntmps36
   go_wp2
   go_ret
   exact⟨by simp,rfl⟩
 ·rw[dg (x:=x) (lo:=lo) (hi:=hi) (by omega)]
  go_enter Tryz.func36,Tryz.ntmps36
  go_wp2
  go_ret
  exact⟨by simp,rfl⟩
theorem br(x lo hi:Int)(w:World)(b:Bool)(hb:ac x lo hi=b):
  Calls Tryz.prog 85 #[.int .i64 x,.int .i64 lo,.int .i64 hi] w λe w'=>e= .returned (.bool b)/\w=w':=by
 subst hb
 by_cases h1:lo<=x
 ·by_cases h2:x<=hi
  ·rw[mi h1 h2]
   go_enter Tryz.func85,Tryz.ntmps85
   go_wp2
   go_ret
   exact⟨rfl,rfl⟩
  ·rw[dg (x:=x) (lo:=lo) (hi:=hi) (by omega)]
   go_enter Tryz.func85,Tryz.ntmps85
   go_wp2
   go_ret
   exact⟨by simp,rfl⟩
 ·rw[dg (x:=x) (lo:=lo) (hi:=hi) (by omega)]
  go_enter Tryz.func85,Tryz.ntmps85
  go_wp2
  go_ret
  exact⟨by simp,rfl⟩
theorem jh(x:Int)(w:World)(b:Bool)(hb:ac x 0 5=b):
  Calls Tryz.prog 35 #[.int .i64 x] w λe w'=>e= .returned (.bool b)/\w=w':=by
 have H:=Lib.hid hb
 clear hb
 go_enter Tryz.func35,Tryz.ntmps35
 go_wp2_with (go_at_call 36;refine(gQ _ _ _ _ b H.out).mono ?_;rintro e w' ⟨rfl,rfl⟩)
 go_ret
 exact⟨rfl,rfl⟩
end Go.Proofs.YtnlhpdbijmnkhaaGreatDoor
namespace Go.Proofs.YtnlhpdbijmnkhaaGreatDoor
open Go.Proofs.Tryz
open Go.ChangeShapes Go.WideShapes Go.RowKit
def Row(w:World)(A:Option Addr)(xs:List Value):Prop:=
 ∀j,j<xs.length->∃b off,A=some ⟨b,off,none⟩/\b<w.heap.size/\∀i u,xs[i]? =some u->w.cell? ⟨b,off+i,none⟩=some u
theorem Row.at_{w:World}{A:Option Addr}{xs:List Value}(h:Row w A xs){k:Nat}(hk:k<xs.length):
  ∃b off,A=some ⟨b,off,none⟩/\w.cell? ⟨b,off+k,none⟩=some xs[k]:=by
 obtain⟨b,off,e,_,hc⟩:=h k hk
 exact⟨b,off,e,hc k _ (List.getElem?_eq_getElem hk)⟩
theorem Row.below{w w':World}{A:Option Addr}{xs:List Value}(h:Row w A xs)(hb:Below w.heap.size w w'):Row w' A xs:=by
 intro j hj
 obtain⟨b,off,e,hl,hc⟩:=h j hj
 exact⟨b,off,e,Nat.lt_of_lt_of_le hl hb.size,λi u hu=>(hb.cell (p:=⟨b,off+i,none⟩) hl).trans (hc i u hu)⟩
theorem Row.new(w:World)(cs:Array Value)(t:TypeId):Row (w.alloc (.cells cs t)) (some ⟨w.heap.size,0,none⟩) cs.toList:=by
 intro j hj
 refine⟨w.heap.size,0,rfl,by simp,λi u hu=>?_⟩
 rw[cell_of_row _ w.heap.size (0+i) cs t (0,0) (heap_alloc_new w _)]
 simpa using hu
end Go.Proofs.YtnlhpdbijmnkhaaGreatDoor
namespace Go.Proofs.YtnlhpdbijmnkhaaGreatDoor
open Go.Proofs.Tryz
open Go.ChangeShapes Go.WideShapes Go.RowKit
structure Rep (α:Type) where
 size:Nat
 rd:World->List Value->α->List Nat->Prop
 len:∀{w cs a F},rd w cs a F->cs.length=size
 one:∀{w cs a F},rd w cs a F->∀c∈cs,c.oneCell'=true
 lt:∀{w cs a F},rd w cs a F->∀b∈F,b<w.heap.size
 keep:∀{w w' cs a F},rd w cs a F->(∀b∈F,w'.heap[b]? =w.heap[b]?)->rd w' cs a F
def Rep.int(k:IntKind):Rep Int where
 size:=1
 rd:=λ_ cs a F=>cs=[.int k a]/\(Lit.int k a).wf=true/\F=[]
 len:=by rintro _ _ _ _ ⟨rfl,_,_⟩;rfl
 one:=by rintro _ _ _ _ ⟨rfl,_,_⟩;simp[Value.oneCell']
 lt:=by rintro _ _ _ _ ⟨_,_,rfl⟩;simp
 keep:=λh _=>h
def Rep.bool:Rep Bool where
 size:=1
 rd:=λ_ cs a F=>cs=[.bool a]/\F=[]
 len:=by rintro _ _ _ _ ⟨rfl,_⟩;rfl
 one:=by rintro _ _ _ _ ⟨rfl,_⟩;simp[Value.oneCell']
 lt:=by rintro _ _ _ _ ⟨_,rfl⟩;simp
 keep:=λh _=>h
def Rep.str:Rep ByteArray where
 size:=1
 rd:=λ_ cs a F=>cs=[.string a]/\F=[]
 len:=by rintro _ _ _ _ ⟨rfl,_⟩;rfl
 one:=by rintro _ _ _ _ ⟨rfl,_⟩;simp[Value.oneCell']
 lt:=by rintro _ _ _ _ ⟨_,rfl⟩;simp
 keep:=λh _=>h
def Rep.pair{α β:Type}(R:Rep α)(S:Rep β):Rep (α×β) where
 size:=R.size+S.size
 rd:=λw cs x F=>∃c1 c2 F1 F2,cs=c1++c2/\F=F1++F2/\R.rd w c1 x.1 F1/\S.rd w c2 x.2 F2
 len:=by rintro _ _ _ _ ⟨c1,c2,F1,F2,rfl,rfl,h1,h2⟩;simp[R.len h1,S.len h2]
 one:=by
  rintro _ _ _ _ ⟨c1,c2,F1,F2,rfl,rfl,h1,h2⟩ c hc
  rcases List.mem_append.1 hc with h|h
  ·exact R.one h1 c h
  ·exact S.one h2 c h
 lt:=by
  rintro _ _ _ _ ⟨c1,c2,F1,F2,rfl,rfl,h1,h2⟩ c hc
  rcases List.mem_append.1 hc with h|h
  ·exact R.lt h1 c h
  ·exact S.lt h2 c h
 keep:=by
  rintro _ _ _ _ _ ⟨c1,c2,F1,F2,rfl,rfl,h1,h2⟩ hk
  exact⟨c1,c2,F1,F2,rfl,rfl,R.keep h1 λb hb=>hk b (List.mem_append_left _ hb),S.keep h2 λb hb=>hk b (List.mem_append_right _ hb)⟩
def Rep.all{α:Type}(R:Rep α)(w:World):List Value->List α->List Nat->Prop
 |cs,[],F=>cs=[]/\F=[]
 |cs,a::l,F=>∃c1 c2 F1 F2,cs=c1++c2/\F=F1++F2/\R.rd w c1 a F1/\R.all w c2 l F2
section
variable {α:Type} {R:Rep α} {w w':World}
theorem Rep.all_len:∀{l:List α} {cs:List Value} {F:List Nat},R.all w cs l F->cs.length=l.length*R.size
 |[],_,_,⟨rfl,_⟩=>by simp
 |a::l,_,_,⟨c1,c2,F1,F2,rfl,rfl,h1,h2⟩=>by simp[R.len h1,Rep.all_len h2,Nat.add_mul,Nat.add_comm]
theorem Rep.all_one:∀{l:List α} {cs:List Value} {F:List Nat},R.all w cs l F->∀c∈cs,c.oneCell'=true
 |[],_,_,⟨rfl,_⟩=>by simp
 |a::l,_,_,⟨c1,c2,F1,F2,rfl,rfl,h1,h2⟩=>λc hc=>by
  rcases List.mem_append.1 hc with h|h
  ·exact R.one h1 c h
  ·exact Rep.all_one h2 c h
theorem Rep.all_lt:∀{l:List α} {cs:List Value} {F:List Nat},R.all w cs l F->∀b∈F,b<w.heap.size
 |[],_,_,⟨_,rfl⟩=>by simp
 |a::l,_,_,⟨c1,c2,F1,F2,rfl,rfl,h1,h2⟩=>λc hc=>by
  rcases List.mem_append.1 hc with h|h
  ·exact R.lt h1 c h
  ·exact Rep.all_lt h2 c h
theorem Rep.all_keep:∀{l:List α} {cs:List Value} {F:List Nat},R.all w cs l F->(∀b∈F,w'.heap[b]? =w.heap[b]?)->R.all w' cs l F
 |[],_,_,⟨rfl,rfl⟩,_=>⟨rfl,rfl⟩
 |a::l,_,_,⟨c1,c2,F1,F2,rfl,rfl,h1,h2⟩,hk=>
  ⟨c1,c2,F1,F2,rfl,rfl,R.keep h1 λb hb=>hk b (List.mem_append_left _ hb),Rep.all_keep h2 λb hb=>hk b (List.mem_append_right _ hb)⟩
theorem Rep.all_append:∀{l l':List α} {cs cs':List Value} {F F':List Nat},R.all w cs l F->R.all w cs' l' F'->R.all w (cs++cs') (l++l') (F++F')
 |[],_,_,_,_,_,⟨rfl,rfl⟩,h'=>h'
 |a::l,_,_,_,_,_,⟨c1,c2,F1,F2,rfl,rfl,h1,h2⟩,h'=>
  ⟨c1,c2++_,F1,F2++_,by simp,by simp,h1,Rep.all_append h2 h'⟩
theorem Rep.all_one_elem{cs:List Value}{a:α}{F:List Nat}(h:R.rd w cs a F):R.all w cs [a] F:=⟨cs,[],F,[],by simp,by simp,h,rfl,rfl⟩
theorem Rep.all_snoc{l:List α}{a:α}{cs cs':List Value}{F F':List Nat}(h:R.all w cs l F)(h':R.rd w cs' a F'):R.all w (cs++cs') (l++[a]) (F++F'):=
 Rep.all_append h (Rep.all_one_elem h')
theorem Rep.all_take:∀{l:List α} {cs:List Value} {F:List Nat},R.all w cs l F->∀(k:Nat),k<=l.length->∃F1,R.all w (cs.take (k*R.size)) (l.take k) F1/\∀b∈F1,b∈F
 |l,cs,F,h,0,_=>⟨[],by simp[Rep.all],by simp⟩
 |a::l,_,_,⟨c1,c2,F1,F2,rfl,rfl,h1,h2⟩,k+1,hk=>by
  obtain⟨F3,h3,h4⟩:=Rep.all_take h2 k (by simpa using hk)
  refine⟨F1++F3,⟨c1,c2.take (k*R.size),F1,F3,?_,rfl,h1,h3⟩,λb hb=>?_⟩
  ·rw[List.take_append,List.take_of_length_le (by rw[R.len h1,Nat.add_mul];omega),R.len h1]
   congr 2
   rw[Nat.add_mul];omega
  ·rcases List.mem_append.1 hb with h|h
   ·exact List.mem_append_left _ h
   ·exact List.mem_append_right _ (h4 b h)
end
def dW(A:Option Addr)(cs:List Value):List Nat:=if cs=[]then []else match A with|some a=>[a.block]|none=>[]
def Rep.sl{α:Type}(R:Rep α):Rep (List α) where
 size:=1
 rd:=λw cs l F=>∃A cap xs F1,cs=[.slice A l.length cap]/\l.length<=cap/\cap<=maxLen/\Row w A xs/\R.all w xs l F1/\F=dW A xs++F1
 len:=by rintro _ _ _ _ ⟨A,cap,xs,F1,rfl,_⟩;rfl
 one:=by rintro _ _ _ _ ⟨A,cap,xs,F1,rfl,_⟩;simp[Value.oneCell']
 lt:=by
  rintro w _ l _ ⟨A,cap,xs,F1,rfl,_,_,hr,ha,rfl⟩ b hb
  rcases List.mem_append.1 hb with h|h
  ·unfold dW at h
   split at h
   ·cases h
   ·rename_i hx
    obtain⟨b',off,rfl,hl,_⟩:=hr 0 (List.length_pos_iff.2 hx)
    simp only[List.mem_singleton]at h
    exact h▸hl
  ·exact Rep.all_lt ha b h
 keep:=by
  rintro w w' _ l _ ⟨A,cap,xs,F1,rfl,h1,h2,hr,ha,rfl⟩ hk
  refine⟨A,cap,xs,F1,rfl,h1,h2,?_,Rep.all_keep ha λb hb=>hk b (List.mem_append_right _ hb),rfl⟩
  intro j hj
  obtain⟨b,off,rfl,hl,hc⟩:=hr j hj
  have hx:xs≠ []:=by intro h;subst h;cases hj
  have hb:w'.heap[b]? =w.heap[b]? :=hk b (List.mem_append_left _ (by simp[dW,hx]))
  refine⟨b,off,rfl,?_,λi u hu=>(World.cell?_of_block (a:=⟨b,off+i,none⟩) hb).trans (hc i u hu)⟩
  rcases Nat.lt_or_ge b w'.heap.size with h|h
  ·exact h
  ·rw[Array.getElem?_eq_none h]at hb
   rw[Array.getElem?_eq_getElem hl]at hb
   cases hb
section
variable {α:Type} {R:Rep α} {w w':World} {cs:List Value} {a:α} {F:List Nat}
theorem Rep.below(h:R.rd w cs a F){B:Nat}(hb:Below B w w')(hF:∀b∈F,b<B):R.rd w' cs a F:=R.keep h λb hm=>hb.block b (hF b hm)
theorem Rep.below_all(h:R.rd w cs a F)(hb:Below w.heap.size w w'):R.rd w' cs a F:=R.keep h λb hm=>hb.block b (R.lt h b hm)
theorem Rep.alloc(h:R.rd w cs a F)(o:Obj):R.rd (w.alloc o) cs a F:=R.keep h λb hm=>Below.heap_alloc w o b (R.lt h b hm)
theorem Rep.drew(h:R.rd w cs a F):R.rd w.drew cs a F:=R.keep h λ_ _=>rfl
theorem Rep.drewN(h:R.rd w cs a F)(n:Nat):R.rd (w.drewN n) cs a F:=R.keep h λ_ _=>rfl
theorem Rep.setCell(h:R.rd w cs a F){p:Addr}(hp:p.block∉F)(u:Value):R.rd (w.setCell p u) cs a F:=
 R.keep h λb hm=>Below.heap_setCell w p u b (λe=>hp (e▸hm))
theorem Rep.grown(h:R.rd w cs a F){row:Option Nat}(hg:w.grownBy w' row)(hr:∀g,row=some g->g∉F):R.rd w' cs a F:=
 R.keep h λb hm=>hg.block b (R.lt h b hm) (λe=>hr b e.symm hm)
theorem Rep.sl_own{base:Nat}{e:TypeId}{v:Value}{n:Nat}{xs:List Value}{l:List α}{F1:List Nat}(ho:w.ownsRow base e R.size v n xs)(hall:R.all w xs l F1)(hn:n=l.length):
  ∃A cap,v= .slice A l.length cap/\R.sl.rd w [v] l (dW A xs++F1)/\(∀b∈dW A xs,v.ownBlock=some b/\base<=b):=by
 subst hn
 obtain⟨h1,h2⟩:=ho
 rcases h2 with⟨rfl,h0⟩|⟨g,cap,cur,rfl,hb,hg,hnc,hcm,hcs,ht⟩
 ·have hl:l=[]:=List.eq_nil_of_length_eq_zero h0
  subst hl
  obtain⟨rfl,rfl⟩:=hall
  exact⟨none,0,rfl,⟨none,0,[],[],rfl,Nat.le_refl _,Nat.zero_le _,λj hj=>absurd hj (Nat.not_lt_zero _),⟨rfl,rfl⟩,rfl⟩,by simp[dW]⟩
 ·refine⟨some ⟨g,0,none⟩,cap,rfl,⟨some ⟨g,0,none⟩,cap,xs,F1,rfl,hnc,hcm,?_,hall,rfl⟩,?_⟩
  ·intro j hj
   refine⟨g,0,rfl,(Array.getElem?_eq_some_iff.1 hg).1,λi u hu=>?_⟩
   rw[cell_of_row w g (0+i) cur e (0,0) hg,Nat.zero_add]
   rw[<-ht,List.getElem?_take]at hu
   split at hu
   ·simpa using hu
   ·cases hu
  ·intro b hbm
   unfold dW at hbm
   split at hbm
   ·cases hbm
   ·simp only[List.mem_singleton]at hbm
    subst hbm
    exact⟨rfl,hb⟩
end
end Go.Proofs.YtnlhpdbijmnkhaaGreatDoor
namespace Go.Proofs.YtnlhpdbijmnkhaaGreatDoor
open Go.Proofs.Tryz
open Go.ChangeShapes Go.WideShapes Go.RowKit
section
variable {P:Program} (w:World)
theorem nG(base:Nat)(t ty e:TypeId)(i:TypeInfo)(size:Nat)(ht:P.underlying t=some (.slice e))(hi:P.info? e=some i)
  (v:Value) (n:Nat) (xs:List Value) (hown:w.ownsRow base e size v n xs) (c:Nat):(Builtin.append_ #[t,t] ty #[v,.slice none 0 c]).run P w= .ok v w:=by
 rcases hown.2 with⟨rfl,rfl⟩|⟨g,cap,cur,rfl,_,_,hnc,_⟩
 ·simp[Builtin.append_,run_underlying ht,sizeOf,typeInfo,hi,Builtin.lenOf,Builtin.firstCells]
 ·simp[Builtin.append_,run_underlying ht,sizeOf,typeInfo,hi,Builtin.lenOf,Builtin.firstCells,hnc,storeCells]
theorem lr(base:Nat)(t ty e:TypeId)(i:TypeInfo)(z:Value)(size bytes:Nat)(ht:P.underlying t=some (.slice e))(hi:P.info? e=some i)(hz:i.zero=some z)
  (hsize:i.size=size) (hby:i.bytes=bytes) (hzs:z.cells.size=size) (hsz:0<size)
  (v:Value) (n:Nat) (xs:List Value) (hown:w.ownsRow base e size v n xs)
  (A:Option Addr) (m c:Nat) (news:List Value) (hl:news.length=m*size) (hr:Row w A news) (h1:∀u∈news,u.oneCell'=true)
  (h63:n+m<=maxLen) (hbytes:(n+m)*bytes<=140737488355328) (hbase:base<=w.heap.size):
  ∃v' w',(Builtin.append_ #[t,t] ty #[v,.slice A m c]).run P w= .ok v' w'/\w'.ownsRow base e size v' (n+m) (xs++news)/\w.grownBy w' v.ownBlock/\
   (v'.ownBlock=v.ownBlock\/v'.ownBlock=some w.heap.size):=by
 rcases A with _|ad
 ·have hn:news=[]:=by
   rcases Nat.eq_zero_or_pos news.length with h0|h0
   ·exact List.eq_nil_of_length_eq_zero h0
   ·obtain⟨b,off,h,_⟩:=hr 0 h0
    cases h
  subst hn
  have hm:m=0:=by
   have:=hl
   simp only[List.length_nil]at this
   rcases Nat.mul_eq_zero.1 this.symm with h|h
   ·exact h
   ·omega
  subst hm
  exact⟨v,w,nG w base t ty e i size ht hi v n xs hown c,by simpa using hown,World.grownBy.refl w _,.inl rfl⟩
 ·have hcells:∀j u,news[j]? =some u->w.cell? (ad.add j)=some u:=by
   intro j u hu
   obtain⟨b,off,h,_,hc⟩:=hr j (List.getElem?_eq_some_iff.1 hu).1
   injection h with h
   subst h
   have:=hc j u hu
   rwa[show(⟨b,off,none⟩:Addr).add j=⟨b,off+j,none⟩by unfold Addr.add;split<;>simp_all]
  obtain⟨v',w',hrun,h2,h3,_,h5⟩:=run_append_own_at (P:=P) w base t ty e i z size bytes ht hi hz hsize hby hzs hsz v n xs hown ad m c news hl hcells h1 h63 hbytes hbase
  exact⟨v',w',hrun,h2,h3,h5⟩
end
def bR(B:Nat)(w:World)(F:List Nat):Prop:=F.Nodup/\∀b∈F,B<=b/\∃cur t,w.heap[b]? =some (.cells cur t (0,0))
def D8{α:Type}(R:Rep α)(l:List α)(w:World)(e:Ending)(w':World):Prop:=
 ∃A cap F,e= .returned (.slice A l.length cap)/\R.sl.rd w' [.slice A l.length cap] l F/\bR w.heap.size w' F/\Below w.heap.size w w'
theorem bR.nil(B:Nat)(w:World):bR B w []:=⟨List.nodup_nil,by simp⟩
theorem bR.keep{B:Nat}{w w':World}{F:List Nat}(h:bR B w F)(hk:∀b∈F,w'.heap[b]? =w.heap[b]?):bR B w' F:=
 ⟨h.1,λb hb=>⟨(h.2 b hb).1,by rw[hk b hb];exact(h.2 b hb).2⟩⟩
theorem bR.lt{B:Nat}{w:World}{F:List Nat}(h:bR B w F):∀b∈F,b<w.heap.size:=λb hb=>by
 obtain⟨_,cur,t,hc⟩:=h.2 b hb
 exact(Array.getElem?_eq_some_iff.1 hc).1
theorem bR.below{B:Nat}{w w':World}{F:List Nat}(h:bR B w F)(hb:Below w.heap.size w w'):bR B w' F:=h.keep λb hm=>hb.block b (h.lt b hm)
theorem bR.mono{B B':Nat}{w:World}{F:List Nat}(h:bR B w F)(hB:B'<=B):bR B' w F:=⟨h.1,λb hb=>⟨Nat.le_trans hB (h.2 b hb).1,(h.2 b hb).2⟩⟩
theorem bR.join{B:Nat}{w:World}{F G:List Nat}(h:bR B w F)(k:bR B w G)(hd:∀b∈F,b∉G):bR B w (F++G):=by
 refine⟨List.nodup_append.2 ⟨h.1,k.1,λa ha b hb e=>hd a ha (e▸hb)⟩,λb hb=>?_⟩
 rcases List.mem_append.1 hb with h'|h'
 ·exact h.2 b h'
 ·exact k.2 b h'
theorem bR.sub{B:Nat}{w:World}{F G:List Nat}(h:bR B w F)(hs:G.Sublist F):bR B w G:=⟨h.1.sublist hs,λb hb=>h.2 b (hs.mem hb)⟩
theorem bR.own{w:World}{base:Nat}{e:TypeId}{size:Nat}{v:Value}{n:Nat}{xs:List Value}(h:w.ownsRow base e size v n xs){A:Option Addr}{m c:Nat}(hv:v= .slice A m c):bR base w (dW A xs):=by
 subst hv
 unfold dW
 split
 ·exact bR.nil _ _
 ·rcases h.2 with⟨e1,h0⟩|⟨g,cap,cur,e1,hb,hg,_⟩
  ·have hl:=h.1
   rw[h0,Nat.zero_mul]at hl
   exact absurd (List.eq_nil_of_length_eq_zero hl) (by assumption)
  ·injection e1 with e1 _ _
   subst e1
   exact⟨by simp,λb hm=>by simp only[List.mem_singleton]at hm;subst hm;exact⟨hb,cur,e,hg⟩⟩
theorem q6(w:World)(k:IntKind):∀(xs:List Int),(∀x∈xs,(Lit.int k x).wf=true)->(Rep.int k).all w (xs.map (Value.int k)) xs []
 |[],_=>⟨rfl,rfl⟩
 |x::r,h=>⟨[.int k x],r.map (Value.int k),[],[],rfl,rfl,⟨rfl,h x (by simp),rfl⟩,q6 w k r λy hy=>h y (by simp[hy])⟩
theorem q7{w:World}{k:IntKind}:∀{xs:List Int} {cs:List Value} {F:List Nat},(Rep.int k).all w cs xs F->cs=xs.map (Value.int k)/\F=[]/\∀x∈xs,(Lit.int k x).wf=true
 |[],_,_,⟨rfl,rfl⟩=>⟨rfl,rfl,by simp⟩
 |x::r,_,_,⟨c1,c2,F1,F2,rfl,rfl,h1,h2⟩=>by
  obtain⟨rfl,rfl,hr⟩:=q7 h2
  obtain⟨rfl,hw,rfl⟩:=h1
  exact⟨rfl,rfl,by simpa[hw]using hr⟩
structure Res {α:Type} (R:Rep α) (B:Nat) (w:World) (cs:List Value) (a:α) (F:List Nat):Prop where
 rd:R.rd w cs a F
 fresh:bR B w F
section
variable {α:Type} {R:Rep α} {B B':Nat} {w w':World} {cs:List Value} {a:α} {F:List Nat}
theorem Res.keep(h:Res R B w cs a F)(hk:∀b∈F,w'.heap[b]? =w.heap[b]?):Res R B w' cs a F:=⟨R.keep h.rd hk,h.fresh.keep hk⟩
theorem Res.alloc(h:Res R B w cs a F)(o:Obj):Res R B (w.alloc o) cs a F:=h.keep λb hm=>Below.heap_alloc w o b (R.lt h.rd b hm)
theorem Res.drew(h:Res R B w cs a F):Res R B w.drew cs a F:=h.keep λ_ _=>rfl
theorem Res.drewN(h:Res R B w cs a F)(n:Nat):Res R B (w.drewN n) cs a F:=h.keep λ_ _=>rfl
theorem Res.setCell_lo(h:Res R B w cs a F){p:Addr}(hp:p.block<B)(u:Value):Res R B (w.setCell p u) cs a F:=
 h.keep λb hm=>Below.heap_setCell w p u b (λe=>by have:=(h.fresh.2 b hm).1;omega)
theorem Res.below(h:Res R B w cs a F)(hb:Below w.heap.size w w'):Res R B w' cs a F:=h.keep λb hm=>hb.block b (R.lt h.rd b hm)
theorem Res.mono(h:Res R B w cs a F)(hB:B'<=B):Res R B' w cs a F:=⟨h.rd,h.fresh.mono hB⟩
end
theorem Rep.sl_open{α:Type}{R:Rep α}{w:World}{A:Option Addr}{n cap:Nat}{l:List α}{F:List Nat}(h:R.sl.rd w [.slice A n cap] l F):
  n=l.length/\l.length<=cap/\cap<=maxLen/\∃xs F1,Row w A xs/\R.all w xs l F1/\F=dW A xs++F1:=by
 obtain⟨A',cap',xs,F1,e1,h1,h2,hr,ha,hF⟩:=h
 injection e1 with e1 _
 injection e1 with e1 e2 e3
 subst e1 e2 e3
 exact⟨rfl,h1,h2,xs,F1,hr,ha,hF⟩
theorem sY{α:Type}{l:List α}{k:Nat}(h:k<l.length):l.take (k+1)=l.take k++[l[k]]:=by
 rw[List.take_succ_eq_append_getElem h]
end Go.Proofs.YtnlhpdbijmnkhaaGreatDoor
