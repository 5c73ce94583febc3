/- MkA -/
import Derived.Test.YtknefkdcokgpbaaGreatAvFO
import Derived.Test.YtknefkdcokgpbaaGreatWData
import Derived.Test.YtknefkdcokgpbaaGreatWB3
import Derived.Test.YtknefkdcokgpbaaGreatAvVC
import Derived.Test.YtknefkdcokgpbaaGreatTypes
import Derived.Deep.Slices
import Derived.ChangeArms
set_option maxHeartbeats 8000000
set_option linter.unusedVariables false
set_option linter.unusedSimpArgs false
set_option maxRecDepth 100000
open Bool (and_eq_true)
namespace Go.Proofs.YtknefkdcokgpbaaGreat
section
open Go.ChangeShapes Go.WideShapes Go.RowKit
variable {α:Type}
theorem gN(a:α):0<=(cI a:Int):=by unfold cI;omega
theorem bE{us:List α}{n:Nat}(h:us.length=n+1):∃u r,us=u::r/\r.length=n:=by
 cases us with
 |nil=>simp at h
 |cons u r=>exact⟨u,r,rfl,by simpa using h⟩
theorem iH{us:List α}(h:us.length=0):us=[]:=List.eq_nil_of_length_eq_zero h
def gm(k:Int)(y:(List Int)):(List Int):=mkL mI cI k y
def bj(y:(List Int)):Int:=aT cI y
theorem fu(y:(List Int)):0<=bj y:=aQ gN y
def gQ(k:Int)(x:DWrite):DWrite:=⟨k,mkL mI cI (k+1) x.row⟩
def bp(x:DWrite):Int:=1+aT cI x.row
theorem ft(x:DWrite):0<=bp x:=by
 unfold bp;have:=aQ gN x.row;omega
def ij(k:Int)(x:DMark):DMark:=⟨k,k+1,k+1+1⟩
def bi(x:DMark):Int:=3
theorem eC(x:DMark):0<=bi x:=by
 unfold bi;omega
def gP(k:Int)(x:DEntry):DEntry:=⟨k,k+1,k+1+1,k+1+1+1,⟨k+1+1+1+1,k+1+1+1+1+1,k+1+1+1+1+1+1,k+1+1+1+1+1+1+1,k+1+1+1+1+1+1+1+1⟩⟩
def bu(x:DEntry):Int:=9
theorem fr(x:DEntry):0<=bu x:=by
 unfold bu;omega
def lh(k:Int)(x:DAck):DAck:=⟨k,k+1,k+1+1,k+1+1+1⟩
def cg(x:DAck):Int:=4
theorem hL(x:DAck):0<=cg x:=by
 unfold cg;omega
def iI(k:Int)(x:DPair):DPair:=⟨k,k+1⟩
def bw(x:DPair):Int:=2
theorem gd(x:DPair):0<=bw x:=by
 unfold bw;omega
def ll(k:Int)(x:DJob):DJob:=⟨k,k+1,k+1+1,k+1+1+1,k+1+1+1+1⟩
def cj(x:DJob):Int:=5
theorem ib(x:DJob):0<=cj x:=by
 unfold cj;omega
def li(k:Int)(x:DDue):DDue:=⟨k,k+1⟩
def ch(x:DDue):Int:=2
theorem hX(x:DDue):0<=ch x:=by
 unfold ch;omega
def iJ(k:Int)(x:DWant):DWant:=⟨k,⟨k+1,k+1+1,k+1+1+1,k+1+1+1+1,k+1+1+1+1+1⟩,k+1+1+1+1+1+1⟩
def bx(x:DWant):Int:=7
theorem ge(x:DWant):0<=bx x:=by
 unfold bx;omega
def lk(k:Int)(x:DGot):DGot:=⟨k,k+1,k+1+1,k+1+1+1⟩
def ci(x:DGot):Int:=4
theorem ia(x:DGot):0<=ci x:=by
 unfold ci;omega
def kx(k:Int)(x:DMsg):DMsg:=⟨k,k+1,mkL mI cI (k+1+1) x.row⟩
def bO(x:DMsg):Int:=2+aT cI x.row
theorem ic(x:DMsg):0<=bO x:=by
 unfold bO;have:=aQ gN x.row;omega
def jd(k:Int)(x:DLink):DLink:=⟨k,k+1⟩
def bK(x:DLink):Int:=2
theorem f9(x:DLink):0<=bK x:=by
 unfold bK;omega
end
section
open Go.ChangeShapes Go.WideShapes Go.RowKit
variable {b:DBook}{n:DLogNode}{t:DTwo}
structure xE (n:DLogNode):Prop where
 two:kt n.two=true
 head:gv n.head=true
 book:cp n.book=true
 base:n.book.base=n.head.base
 time:n.book.time=n.head.time
 fold:bY n.head.seen n.book.entries=some n.seen
 dlo:n.book.base<=n.durable
 dhi:n.durable<=ca n.book
 owe:n.owe=(eV n.book n.durable).map cN
 nxt:gp n=true
theorem QE{s c:List DMark}{l:List DEntry}(h:bL s l=(c,true)):bY s l=some c:=by
 unfold bL at h;split at h
 ·cases h
 ·split at h
  ·cases h
  ·split at h
   ·rename_i o ho;rw[ho];injection h with h;rw[h]
   ·cases h
theorem Qq(h:logOk n=true):xE n:=by
 simp only[logOk,Bool.and_eq_true,beq_iff_eq,aK,decide_eq_true_eq]at h;obtain⟨⟨⟨⟨⟨⟨⟨⟨h1,h2⟩,h3⟩,h4⟩,h5⟩,h6⟩,h7⟩,h8⟩,h9⟩:=h;exact⟨h1,h2,h3,h4,h5,QE h6,h7.1,h7.2,h8,h9⟩
theorem xE.ok(h:xE n):logOk n=true:=by
 have h6:=(i9 h.head).2.2.2.2.1;have hl:=(dC h.book).2.2.2.1;have:=mH h6 ac h.fold;simp only[logOk,Bool.and_eq_true,beq_iff_eq,aK,decide_eq_true_eq];exact⟨⟨⟨⟨⟨⟨⟨⟨h.two,h.head⟩,h.book⟩,h.base⟩,h.time⟩,this⟩,h.dlo,h.dhi⟩,h.owe⟩,h.nxt⟩
theorem IH:∀{l:List DEntry} {s c:List DMark},seenOk s=true->bY s l=some c->bP c=match l.getLast? with|some e=>e.index|none=>bP s
 |[],s,c,_,hf=>by simp only[bY,Option.some.injEq]at hf;subst hf;rfl
 |e::r,s,c,h,hf=>by
  simp only[bY]at hf;cases hm:d7 s e with
  |none=>rw[hm]at hf;cases hf
  |some s1=>
   rw[hm]at hf;obtain⟨h1,h2⟩:=tf h hm;rw[IH h1 hf];cases r with
   |nil=>simp[h2]
   |cons x r=>rw[List.getLast?_cons_cons];rw[List.getLast?_eq_some_getLast aj]
theorem xE.seenOk(h:xE n):seenOk n.seen=true:=mA (i9 h.head).2.2.2.2.1 h.fold
theorem xE.last(h:xE n):bP n.seen=ca n.book:=by
 have hh:=i9 h.head;rw[IH hh.2.2.2.2.1 h.fold];split
 ·rename_i e he;exact Bq h.book he
 ·rename_i he;rw[List.getLast?_eq_none_iff]at he;have:=h.base;simp[ca,he];omega
theorem ja(h:kt t=true):j4 t=true/\t.a.kept.length=22/\t.b.kept.length=22:=by
 simp only[kt,Bool.and_eq_true,decide_eq_true_eq]at h;have:=(hE h.1).2.2;exact⟨h.1,h.2,ac⟩
theorem Oh(h:j4 t=true)(hl:t.a.kept.length=22):kt t=true:=by simp[kt,h,hl]
theorem y0(h:kt t=true):kt (yG t)=true:=by
 obtain⟨f1,f2,f3⟩:=ja h;exact Oh (PX f1) (by simp[yG,lE,i6,f2])
def kH(n:DLogNode):DLogNode:=if n.more then⟨yG n.two,n.nxt,kS,false,⟨n.nxt.base,jl n.book n.nxt.base,n.book.entries.drop (n.nxt.base-n.book.base).toNat⟩,n.seen,ca n.book,[]⟩else{n with two:=yG n.two,durable:=ca n.book,owe:=[]}
theorem Bn(h:cp b=true):eV b (ca b)=[]:=by
 unfold eV;rw[List.filter_eq_nil_iff];intro x hx;obtain⟨k,hk,rfl⟩:=List.getElem_of_mem hx;have:=GB h k hk;simp only[decide_eq_true_eq];unfold ca;omega
theorem Il{i:Int}(h:cp b=true)(h1:b.base+1<=i)(h2:i<=ca b):cp ⟨i,jl b i,b.entries.drop (i-b.base).toNat⟩=true:=by
 obtain⟨f1,f2,f3,f4,f5,f6⟩:=dC h;obtain⟨e1,e2,e3⟩:=jx f5;obtain⟨k,hk⟩:∃k:Nat,i-b.base-1=(k:Int):=⟨(i-b.base-1).toNat,ac⟩;have hkl:k<b.entries.length:=by unfold ca at h2;omega
 have hd:(i-b.base).toNat=k+1:=ac;have ht:jl b i=b.entries[k].time:=by
  simp only[jl,show(i-b.base-1).toNat=k by omega,List.getD_eq_getElem?_getD,List.getElem?_eq_getElem hkl,Option.getD_some]
 have he:=yE (e2 _ (List.getElem_mem hkl));rw[ht,hd];have hall:∀(j:Nat) (hj:j<(b.entries.drop (k+1)).length),(b.entries.drop (k+1))[j]=b.entries[k+1+j]'(by rw[List.length_drop]at hj;omega):=λj hj=>by rw[List.getElem_drop]
 refine ED ⟨by show 0<=i/\i<=2000;unfold ca at h2;have:=GB h k hkl;omega,he.2.1,λe=>?_,?_,?_,λx hx=>?_⟩
 ·exfalso;have e:i=0:=e;omega
 ·rw[List.length_drop];omega
 ·simp only[dD,Bool.and_eq_true,decide_eq_true_eq,List.all_eq_true];refine⟨⟨by rw[List.length_drop];omega,λx hx=>e2 x (List.mem_of_mem_drop hx)⟩,Bl λj hj=>?_⟩;have hj':=hj;rw[List.length_drop]at hj';rw[hall j ac,hall (j+1) hj];exact j8 e3 (k:=k+1+j) ac
 ·have hx':b.entries[k+1]? =some x:=by simpa using hx
  obtain⟨hlt,rfl⟩:=List.getElem?_eq_some_iff.1 hx';have:=j8 e3 hlt;simp only[kT,Bool.and_eq_true,beq_iff_eq,decide_eq_true_eq]at this;have:=GB h (k+1) hlt;exact⟨by show _=i+1;omega,by show b.entries[k].time<=_;omega⟩
theorem Do(h:xE n):xE (kH n):=by
 have hb:=h.base;have hlb:n.book.base<=ca n.book:=by unfold ca;omega
 unfold kH;split
 ·rename_i hmo;have hn:=h.nxt;unfold gp at hn;rw[if_pos hmo]at hn;simp only[Bool.and_eq_true,aK,decide_eq_true_eq,beq_iff_eq]at hn;obtain⟨hr,e⟩:=hn;have hd:=h.dhi;have hbk:=Il h.book (i:=n.nxt.base) ac ac;obtain⟨k,hk⟩:∃k:Nat,n.nxt.base-n.book.base-1=(k:Int):=⟨(n.nxt.base-n.book.base-1).toNat,ac⟩;have hkl:k<n.book.entries.length:=by unfold ca at hd;omega
  have hk1:(n.nxt.base-n.book.base).toNat=k+1:=ac;have hh:=i9 h.head;have hso:=mH hh.2.2.2.2.1 (by have:=(dC h.book).2.2.2.1;omega) h.fold;have hho:=y8 h.book h.head h.base (by rw[hso]) hr.1 ac;rw[<-e]at hho;have hsplit:bY n.head.seen (n.book.entries.take (k+1)++n.book.entries.drop (k+1))=some n.seen:=by rw[List.take_append_drop];exact h.fold
  rw[jT]at hsplit;cases hc:bY n.head.seen (n.book.entries.take (k+1))with
  |none=>rw[hc]at hsplit;cases hsplit
  |some c=>
   rw[hc]at hsplit;have hns:n.nxt.seen=c:=by
    rw[e];show(bL n.head.seen (mS n.book n.nxt.base)).1=c;rw[mS,hk1,mH hh.2.2.2.2.1 (by rw[List.length_take];have:=(dC h.book).2.2.2.1;omega) hc]
   have ht:n.nxt.time=jl n.book n.nxt.base:=by rw[e];rfl
   refine⟨y0 h.two,hho,hbk,rfl,ht.symm,?_,?_,?_,?_,rfl⟩
   ·show bY n.nxt.seen (n.book.entries.drop (n.nxt.base-n.book.base).toNat)=some n.seen;rw[hns,hk1];exact hsplit
   ·show n.nxt.base<=ca n.book;omega
   ·show ca n.book<=ca ⟨_,_,_⟩;simp only[ca,List.length_drop];unfold ca at hd;omega
   ·have hl:ca n.book=ca ⟨n.nxt.base,jl n.book n.nxt.base,n.book.entries.drop (n.nxt.base-n.book.base).toNat⟩:=by
     simp only[ca,List.length_drop];unfold ca at hd;omega
    show []=(eV _ (ca n.book)).map cN;rw[hl,Bn hbk];rfl
 ·rename_i hmo;refine⟨y0 h.two,h.head,h.book,h.base,h.time,h.fold,hlb,Int.le_refl _,?_,?_⟩
  ·show []=(eV n.book (ca n.book)).map cN;rw[Bn h.book];rfl
  ·have hn:=h.nxt;unfold gp at hn⊢;rw[if_neg hmo]at hn;show(if n.more then _ else n.nxt==kS)=true;rw[if_neg hmo];exact hn
end
section
open Go.ChangeShapes Go.WideShapes Go.RowKit
section
variable {α:Type} (key:α->Int)
variable {key} {l:List α} {p:α}
end
theorem Qi(x y z:DJob)(h1:m7 x y=true)(h2:m7 y z=true):m7 x z=true:=by
 simp only[m7,decide_eq_true_eq]at*;omega
def Qt(x y:DJob):Prop:=y.fired=0\/x.fired≠y.fired
theorem Qu(x y:DJob):lK x y=false↔Qt x y:=by
 simp only[lK,Qt,Bool.and_eq_false_iff,bne_eq_false_iff_eq,beq_eq_false_iff_ne,ne_eq]
theorem xd{l:List DJob}(h:cW l=true):l.length<=8/\(∀x∈l,m8 x=true)/\(l.Pairwise λx y=>x.id<y.id)/\l.Pairwise Qt:=by
 simp only[cW,Bool.and_eq_true,decide_eq_true_eq,List.all_eq_true]at h;refine⟨h.1.1.1,h.1.1.2,(Fm Qi h.1.2).imp λh=>by simpa[m7]using h,List.pairwise_iff_getElem.2 λi j hi hj hij=>?_⟩;exact(Qu _ _).1 (pT h.2 hij hj)
structure XW (s:DState) (e:DEntry):Prop where
 st:cn s=true
 en:dd e=true
 ix:e.index=s.index+1
 tm:s.time<=e.time
end
section
open Go.ChangeShapes Go.WideShapes Go.RowKit
variable {n:DNet}{s:DSched}{w:DWorld}
structure lU (w:DWorld):Prop where
 clocks:fp w.clocks=true
 ul:w.up.length=6
 net:fd w.net=true
 u4:eS w 4=true
 u5:eS w 5=true
 ann:dp w.ann=true
 annId:w.ann.id=4
 bob:dp w.bob=true
 bobId:w.bob.id=5
 left:db w.left 2 (eS w 2)=true
 right:db w.right 3 (eS w 3)=true
 log:(if eS w 0 then logOk w.log else kv w.log)=true
 store:(if eS w 1 then storeOk w.store else fV w.store)=true
theorem rK(h:dN w=true):lU w:=by
 simp only[dN,and_eq_true,decide_eq_true_eq,beq_iff_eq]at h;obtain⟨⟨⟨⟨⟨⟨⟨⟨⟨⟨⟨⟨h1,h2⟩,h3⟩,h4⟩,h5⟩,h6⟩,h7⟩,h8⟩,h9⟩,ha⟩,hb⟩,hc⟩,hd⟩:=h;exact⟨h1,h2,h3,h4,h5,h6,h7,h8,h9,ha,hb,hc,hd⟩
theorem lU.ok(h:lU w):dN w=true:=by
 simp only[dN,and_eq_true,decide_eq_true_eq,beq_iff_eq];exact⟨⟨⟨⟨⟨⟨⟨⟨⟨⟨⟨⟨h.clocks,h.ul⟩,h.net⟩,h.u4⟩,h.u5⟩,h.ann⟩,h.annId⟩,h.bob⟩,h.bobId⟩,h.left⟩,h.right⟩,h.log⟩,h.store⟩
theorem lU.logOk(h:lU w)(hu:eS w 0=true):logOk w.log=true:=by have:=h.log;rwa[if_pos hu]at this
theorem lU.storeOk(h:lU w)(hu:eS w 1=true):storeOk w.store=true:=by have:=h.store;rwa[if_pos hu]at this
theorem nL{id:Int}{up:Bool}(h:db s id up=true):d9 s=true/\s.id=id:=by
 simp only[db,and_eq_true,beq_iff_eq]at h;exact h.1
theorem MS{id:Int}(h:d9 s=true)(hi:s.id=id):db s id true=true:=by simp[db,h,hi]
theorem lU.withNet(h:lU w)(hn:fd n=true):lU {w with net:=n}:={h with net:=hn}
theorem lU.withLog(h:lU w){l:DLogNode}(hu:eS w 0=true)(hl:Go.Proofs.YtknefkdcokgpbaaGreat.logOk l=true):lU {w with log:=l}:=
 {h with log:=by show(if eS w 0 then _ else _)=true;rw[if_pos hu];exact hl}
theorem lU.withStore(h:lU w){l:DStore}(hu:eS w 1=true)(hl:Go.Proofs.YtknefkdcokgpbaaGreat.storeOk l=true):lU {w with store:=l}:=
 {h with store:=by show(if eS w 1 then _ else _)=true;rw[if_pos hu];exact hl}
theorem lU.withLeft(h:lU w)(hu:eS w 2=true)(hs:d9 s=true)(hi:s.id=2):lU {w with left:=s}:=
 {h with left:=by show db s 2 (eS w 2)=true;rw[hu];exact MS hs hi}
theorem lU.withRight(h:lU w)(hu:eS w 3=true)(hs:d9 s=true)(hi:s.id=3):lU {w with right:=s}:=
 {h with right:=by show db s 3 (eS w 3)=true;rw[hu];exact MS hs hi}
theorem tJ{t:DTwo}(h:j4 t=true):YA 1048576 t:=⟨dT (hE h).1,dT (hE h).2.1⟩
theorem y3{n:DLogNode}(h:logOk n=true):Yq 1048576 n:=by
 have f:=Qq h;have hh:=(i9 f.head).2.2.2.2.1;have h1:=fq hh;have h2:=fq f.seenOk;have h3:=(dC f.book).2.2.2.1;have h4:n.owe.length<=n.book.entries.length:=by rw[f.owe,List.length_map];exact List.length_filter_le _ _
 have h5:n.nxt.seen.length<=4:=by
  have hn:=f.nxt;unfold gp at hn;split at hn
  ·simp only[and_eq_true,beq_iff_eq]at hn;rw[hn.2];exact qu hh
  ·rw[beq_iff_eq]at hn;rw[hn];simp[kS]
 exact⟨tJ (ja f.two).1,by unfold Yo;omega,by unfold Yo;omega,by unfold Yx;omega,ac,ac⟩
theorem DO{n:DLogNode}(h:kv n=true):Yq 1048576 n:=by
 simp only[kv,and_eq_true,beq_iff_eq]at h;rw[h.2];exact⟨tJ h.1,by simp[Yo,kS],by simp[Yo,kS],by simp[Yx],by simp,by simp⟩
theorem D3{s:DState}(h:cn s=true):Yt 1048576 s:=by
 obtain⟨_,_,h3,h4,_⟩:=dm h;have:=jY h3;have:=(xd h4).1;exact⟨ac,ac⟩
theorem gz{s:DStore}(h:storeOk s=true):Yv 1048576 s:=
 ⟨dT (by have:=(zS h).disk;simp only[dg,and_eq_true]at this;exact this.1),D3 (zS h).state⟩
theorem zT{s:DStore}(h:fV s=true):Yv 1048576 s:=by
 simp only[fV,and_eq_true,beq_iff_eq]at h;rw[h.2];exact⟨dT h.1,by simp[Yt,gV]⟩
theorem vn(h:d9 s=true):Yr 1048576 s:=by
 have:=(CZ h).jobs;simp only[eE,and_eq_true,decide_eq_true_eq]at this;have:=this.1.1.1.2;show s.view.jobs.opens.length<=_;omega
theorem sv{c:DClient}(h:dp c=true):Ys 1048576 c:=by
 have f:=PK h;have:=f.len;have:=f.gl;exact⟨ac,ac⟩
theorem nW(h:fd n=true):Yz 1048576 n:=by
 obtain⟨h1,h2,h3,_,_⟩:=lL h;refine⟨ac,λm hm=>?_,ac⟩;have:=h3 m hm;simp only[fM,and_eq_true]at this;have:=dM this.2;show m.row.length<=_;omega
theorem d6(h:dN w=true):Ym 1048576 w:=by
 have f:=rK h;have hc:=f.clocks;simp only[fp,and_eq_true,decide_eq_true_eq]at hc;refine⟨?_,?_,vn (nL f.left).1,vn (nL f.right).1,sv f.ann,sv f.bob,nW f.net,ac,by have:=f.ul;omega⟩
 ·have:=f.log;split at this
  ·exact y3 this
  ·exact DO this
 ·have:=f.store;split at this
  ·exact gz this
  ·exact zT this
end
section
open Go.ChangeShapes Go.WideShapes Go.RowKit Go.Deep
variable {P:Program}{H α:Type}{t:TypeId}
def dP(P:Program)(t:TypeId){α:Type}(R:Rep α):Prop:=
 ∀(H:Type) (enc:TypeId×Value->H) (w:World) (base:Nat) (spare:Nat->Bool) (held:Bool) (fuel:Nat) (cs:List Value) (y:DataW H×List MemPlace),
  DataW.trod enc P w base spare held fuel t cs=some y->∃a F,R.rd w cs a F
theorem ba{k:IntKind}(ht:P.underlying t=some (.int k)):dP P t (Rep.int k):=by
 intro H enc w base spare held fuel cs y h;obtain⟨n,rfl,_,hw⟩:=DataW.trod_int ht h;exact⟨n,[],rfl,hw,rfl⟩
theorem tI(ht:P.underlying t=some .bool):dP P t Rep.bool:=by
 intro H enc w base spare held fuel cs y h;obtain⟨n,rfl,_⟩:=DataW.trod_bool ht h;exact⟨n,[],rfl,rfl⟩
theorem dO{e:TypeId}{R:Rep α}(ht:P.underlying t=some (.slice e))(hc:P.cellsOf e=R.size)(hr:dP P e R):dP P t (Rep.sl R):=by
 intro H enc w base spare held fuel cs y h;rcases open_slice ht h with⟨rfl,_⟩|⟨a,len,cap,m,n,D,Pl,rfl,hb,hl,hm,hmm,_,hi⟩
 ·exact⟨[],[],none,0,[],[],rfl,Nat.le_refl _,Nat.zero_le _,λj hj=>absurd hj (Nat.not_lt_zero _),⟨rfl,rfl⟩,rfl⟩
 ·have hlm:len<=m:=by rw[hmm];split<;>omega
  have key:∀q,q<=len->∃(l:List α) (xs:List Value) (F:List Nat),l.length=q/\R.all w xs l F/\∀(j:Nat) (u:Value),xs[j]? =some u->w.cell? (a.add j)=some u:=by
   intro q;induction q with
   |zero=>intro _;exact⟨[],[],[],rfl,⟨rfl,rfl⟩,by intro j u hu;simp at hu⟩
   |succ q ih=>
    intro hq;obtain⟨l,xs,F,hll,hall,hx⟩:=ih (by omega);obtain⟨cs',h1,h2⟩:=hi q (by omega);obtain⟨_,hcl,hat⟩:=World.cells?_some h1;obtain⟨b,F',hrd⟩:=hr H enc w base spare held n cs' _ h2;have hxl:=ZI hall;refine⟨l++[b],xs++cs',F++F',by simp[hll],aaa hall hrd,λj u hu=>?_⟩;by_cases hj:j<xs.length
    ·rw[List.getElem?_append_left hj]at hu;exact hx j u hu
    ·rw[List.getElem?_append_right (by omega)]at hu;have hjl:j-xs.length<cs'.length:=(List.getElem?_eq_some_iff.1 hu).1;have:=hat (j-xs.length) (by omega);rw[hu,Go.Deep.add_add,hc,<-hll,<-hxl,show xs.length+(j-xs.length)=j by omega]at this;exact this
  obtain⟨l,xs,F,hll,hall,hx⟩:=key len (Nat.le_refl _);refine⟨l,BI (some a) xs++F,some a,cap,xs,F,by rw[hll],by omega,hm,?_,hall,rfl⟩;intro j0 hj0;have h0:=hx 0 xs[0] (List.getElem?_eq_getElem (by omega));have ea:a.add 0=a:=by simp[Addr.add]
  rw[ea]at h0;have hlt:=World.block_lt_of_cell? w a h0;have hsp:a.spot=none:=by
   unfold World.cell? at h0;split at h0
   ·split at h0
    ·cases h0
    ·rename_i hs;simpa using hs
   ·cases h0
  obtain⟨b,off,sp⟩:=a;simp only at hsp;subst hsp;refine⟨b,off,rfl,hlt,λi u hu=>?_⟩;have:=hx i u hu;rwa[show(⟨b,off,none⟩:Addr).add i=⟨b,off+i,none⟩by unfold Addr.add;split<;>simp_all]at this
theorem cC{P:Program}{enc:TypeId×Value->H}{w:World}{base:Nat}{spare:Nat->Bool}{held:Bool}{fuel:Nat}{cs:List Value}{f:Field}{o s:Nat}{R:Rep α}
  (h:dP P f.type R) {y:Option (DataW H×List MemPlace)} (hf:DataW.trod enc P w base spare held fuel f.type ((cs.drop f.offset).take (P.cellsOf f.type))=y) (hy:y.isSome=true) (ho:f.offset=o) (hs:P.cellsOf f.type=s) (hl:cs.length=o+s):
  ∃a F,R.rd w (cs.drop o) a F:=by
 obtain⟨y',rfl⟩:=Option.isSome_iff_exists.1 hy;rw[ho,hs,List.take_of_length_le (by simp;omega)]at hf;exact h H enc w base spare held fuel _ _ hf
theorem aX{P:Program}{enc:TypeId×Value->H}{w:World}{base:Nat}{spare:Nat->Bool}{held:Bool}{fuel:Nat}{cs:List Value}{f:Field}{o s:Nat}{β:Type}{R:Rep α}{S:Rep β}
  (h:dP P f.type R) {y:Option (DataW H×List MemPlace)} (hf:DataW.trod enc P w base spare held fuel f.type ((cs.drop f.offset).take (P.cellsOf f.type))=y) (hy:y.isSome=true) (ho:f.offset=o) (hs:P.cellsOf f.type=s)
  (hrest:∃b G,S.rd w (cs.drop (o+s)) b G):∃a F,(Yd R S).rd w (cs.drop o) a F:=by
 obtain⟨y',rfl⟩:=Option.isSome_iff_exists.1 hy;rw[ho,hs]at hf;obtain⟨a,F,ha⟩:=h H enc w base spare held fuel _ _ hf;obtain⟨b,G,hb⟩:=hrest;exact⟨(a,b),F++G,_,_,F,G,by rw[<-List.drop_drop,List.take_append_drop],rfl,ha,hb⟩
theorem bc{l:List α}{n j:Nat}(h:l.length=n)(hj:j<n):(l[j]?).isSome=true:=by simp;omega
end
open Go.Proofs.Tryz
open Go.ChangeShapes Go.WideShapes Go.RowKit
theorem PJ:Tryz.prog.cellsOf 51=5:=by kernel_rfl
theorem wg:dP Tryz.prog 51 Zs:=by
 intro H enc w base spare held fuel cs y h;obtain⟨ys,n,_,_,hl,hyl,hf⟩:=DataW.trod_struct underlying51 h;rw[PJ]at hl;have hk:=aX (o:=0) (s:=1) (ba underlying2) (hf 0 _ rfl) (bc hyl (by decide)) rfl (by kernel_rfl)
  (aX (o := 1) (s := 1) (ba underlying2) (hf 1 _ rfl) (bc hyl (by decide)) rfl (by kernel_rfl)
  (aX (o := 2) (s := 1) (ba underlying2) (hf 2 _ rfl) (bc hyl (by decide)) rfl (by kernel_rfl)
  (aX (o := 3) (s := 1) (ba underlying2) (hf 3 _ rfl) (bc hyl (by decide)) rfl (by kernel_rfl)
  (cC (o:=4) (s:=1) (ba underlying2) (hf 4 _ rfl) (bc hyl (by decide)) rfl (by kernel_rfl) hl))))
 obtain⟨⟨a0,a1,a2,a3,a4⟩,F,hk⟩:=hk;exact⟨⟨a0,a1,a2,a3,a4⟩,F,hk⟩
theorem Im:Tryz.prog.cellsOf 335=9:=by kernel_rfl
theorem D4:dP Tryz.prog 335 Zm:=by
 intro H enc w base spare held fuel cs y h;obtain⟨ys,n,_,_,hl,hyl,hf⟩:=DataW.trod_struct underlying335 h;rw[Im]at hl;have hk:=aX (o:=0) (s:=1) (ba underlying2) (hf 0 _ rfl) (bc hyl (by decide)) rfl (by kernel_rfl)
  (aX (o := 1) (s := 1) (ba underlying2) (hf 1 _ rfl) (bc hyl (by decide)) rfl (by kernel_rfl)
  (aX (o := 2) (s := 1) (ba underlying2) (hf 2 _ rfl) (bc hyl (by decide)) rfl (by kernel_rfl)
  (aX (o := 3) (s := 1) (ba underlying2) (hf 3 _ rfl) (bc hyl (by decide)) rfl (by kernel_rfl)
  (cC (o:=4) (s:=5) wg (hf 4 _ rfl) (bc hyl (by decide)) rfl (by kernel_rfl) hl))))
 obtain⟨⟨a0,a1,a2,a3,a4⟩,F,hk⟩:=hk;exact⟨⟨a0,a1,a2,a3,a4⟩,F,hk⟩
theorem Lf:Tryz.prog.cellsOf 251=7:=by kernel_rfl
theorem HX:dP Tryz.prog 251 ZD:=by
 intro H enc w base spare held fuel cs y h;obtain⟨ys,n,_,_,hl,hyl,hf⟩:=DataW.trod_struct underlying251 h;rw[Lf]at hl;have hk:=aX (o:=0) (s:=1) (ba underlying2) (hf 0 _ rfl) (bc hyl (by decide)) rfl (by kernel_rfl)
  (aX (o := 1) (s := 5) wg (hf 1 _ rfl) (bc hyl (by decide)) rfl (by kernel_rfl)
  (cC (o:=6) (s:=1) (ba underlying2) (hf 2 _ rfl) (bc hyl (by decide)) rfl (by kernel_rfl) hl))
 obtain⟨⟨a0,a1,a2⟩,F,hk⟩:=hk;exact⟨⟨a0,a1,a2⟩,F,hk⟩
end Go.Proofs.YtknefkdcokgpbaaGreat
