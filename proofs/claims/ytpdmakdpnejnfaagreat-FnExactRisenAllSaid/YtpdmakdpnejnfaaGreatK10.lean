/- K10 -/
import Derived.Test.YtpdmakdpnejnfaaGreatK21
import Derived.Test.YtpdmakdpnejnfaaGreatK07
import Derived.RangeFuncNested
import Derived.RangeFuncBound
import Derived.RangeFuncCalls
import Derived.RangeFuncLeaves
import Derived.Shelf.Abstract
import Derived.Shelf.RegionOpen
import Derived.WalkKit
import Derived.OwnWalkIn
import Derived.TacticsInMore
import Derived.LoopNIn
import Derived.LoopIn
import Derived.Maps.AppendAt
set_option maxHeartbeats 8000000
set_option linter.unusedVariables false
set_option linter.unusedSimpArgs false
set_option maxRecDepth 100000
open Bool (and_eq_true not_eq_true)
open List (all_eq_true filter_cons filter_sublist find?_cons find?_eq_none foldl_cons getElem_of_mem mem_cons mem_filter mem_map pairwise_cons)
namespace Go.Proofs.YtpdmakdpnejnfaaGreat
section
section
open Go.Proofs.Tryz
open Go.ChangeShapes Go.WideShapes Go.RowKit
section
variable {α:Type}
def TV(n:Nat)(ok:Nat->Bool):Bool:=(List.range n).all ok
theorem RT{n k:Nat}{ok:Nat->Bool}(hk:k<n)(h:ok k=false):TV n ok=false:=by
  rw[<-not_eq_true];intro hall;have:=List.all_eq_true.1 hall k (List.mem_range.2 hk);rw[h]at this;cases this
theorem Qd{n:Nat}{ok:Nat->Bool}(h:∀k,k<n->ok k=true):TV n ok=true:=
  List.all_eq_true.2 λk hk=>h k (List.mem_range.1 hk)
theorem qR{l:List α}{p:α->Bool}{k:Nat}(hk:k<l.length)(h:p l[k]=false):l.all p=false:=by
  rw[<-not_eq_true];intro hall;have:=List.all_eq_true.1 hall _ (List.getElem_mem hk);rw[h]at this;cases this
theorem Hy{l:List α}{p:α->Bool}(h:∀(k:Nat) (hk:k<l.length),p l[k]=true):l.all p=true:=by
  refine List.all_eq_true.2 λx hx=>?_;obtain⟨k,hk,rfl⟩:=List.getElem_of_mem hx;exact h k hk
theorem vm{l:List α}{p:α->Bool}(h:l.all p=true){k:Nat}(hk:k<l.length):p l[k]=true:=List.all_eq_true.1 h _ (List.getElem_mem hk)
def kE(Q:α->α->Bool):List α->Bool
  |x::y::r=>Q x y&&kE Q (y::r)
  |_=>true
theorem nW{Q:α->α->Bool}:∀{l:List α},kE Q l=true->∀{k:Nat} (hk:k+1<l.length),Q (l[k]'(aa)) l[k+1]=true
  |x::y::r,h,k,hk=>by
    simp only[kE,and_eq_true]at h;cases k with
    |zero=>exact h.1
    |succ k=>exact nW (l:=y::r) h.2 (k:=k) (by simpa using hk)
  |[],_,k,hk=>by simp at hk
  |[x],_,k,hk=>by simp at hk
theorem I8{Q:α->α->Bool}:∀{l:List α},(∀(k:Nat) (hk:k+1<l.length),Q (l[k]'(aa)) l[k+1]=true)->kE Q l=true
  |x::y::r,h=>by
    simp only[kE,and_eq_true];refine⟨h 0 ah,I8 (l:=y::r) λk hk=>?_⟩;have:=h (k+1) (by simpa using hk);simpa using this
  |[],_=>rfl
  |[x],_=>rfl
theorem RS{Q:α->α->Bool}{l:List α}{k:Nat}(hk:k+1<l.length)(h:Q (l[k]'(aa)) l[k+1]=false):kE Q l=false:=by
  rw[<-not_eq_true];intro hall;rw[nW hall hk]at h;cases h
def fA(R:α->α->Bool):List α->Bool
  |[]=>true
  |x::r=>r.all (λy=> !R x y)&&fA R r
theorem xH{R:α->α->Bool}:∀{l:List α},fA R l=true->∀{j k:Nat} (hj:j<k) (hk:k<l.length),R (l[j]'(aa)) l[k]=false
  |x::r,h,j,k,hj,hk=>by
    simp only[fA,and_eq_true]at h;match j,k,hj with
    |0,k+1,_=>
      have:=vm h.1 (k:=k) (by simpa using hk);simpa using this
    |j+1,k+1,hj=>exact xH (l:=r) h.2 (j:=j) (k:=k) aa (by simpa using hk)
  |[],_,j,k,_,hk=>by simp at hk
theorem qS{R:α->α->Bool}:∀{l:List α},(∀(j k:Nat) (hj:j<k) (hk:k<l.length),R (l[j]'(aa)) l[k]=false)->fA R l=true
  |[],_=>rfl
  |x::r,h=>by
    simp only[fA,and_eq_true];refine⟨Hy λk hk=>?_,qS λj k hj hk=>?_⟩
    · have:=h 0 (k+1) aa (by simpa using hk);simpa using this
    · have:=h (j+1) (k+1) aa (by simpa using hk);simpa using this
theorem tQ{R:α->α->Bool}{l:List α}{j k:Nat}(hj:j<k)(hk:k<l.length)(h:R (l[j]'(aa)) l[k]=true):fA R l=false:=by
  rw[<-not_eq_true];intro hall;rw[xH hall hj hk]at h;cases h
end
def tOk(t:Int):Bool:=aJ t 0 1000000
def ck(l:List Int):Bool:=decide (l.length<=48)&&l.all λx=>aJ x 0 1000000000
def fV(n:Nat)(x:DWrite):Bool:=aJ x.at_ 0 ((n:Int)-1)&&ck x.row
def db(d:DDisk):Bool:=decide (1<=d.kept.length)&&decide (d.kept.length<=40)&&decide (d.wait.length<=60)&&d.kept.all ck&&d.wait.all (fV d.kept.length)
def eO(t:DTwo):Bool:=db t.a&&db t.b&&decide (t.a.kept.length=t.b.kept.length)
def ji(a b:Int):Bool:=aJ a 0 5&&aJ b 0 5&&a !=b
def qc(m:DMsg):Bool:=ji m.frm m.to_&&decide (0<m.row.length)&&ck m.row
def mL(x y:DLink):Bool:=decide (x.a<y.a)||(x.a==y.a&&decide (x.b<y.b))
def fS(x:DLink):Bool:=ji x.a x.b&&decide (x.a<=x.b)
def qd(n:DNet):Bool:=decide (n.flight.length<=60)&&decide (n.cuts.length<=15)&&n.flight.all qc&&n.cuts.all fS&&kE mL n.cuts
def hI(l:List Int):Bool:=decide (l.length=6)&&l.all tOk
def mN(x y:DEntry):Bool:=y.index==x.index+1&&decide (x.time<=y.time)
def dT(l:List DEntry):Bool:=decide (l.length<=2000)&&l.all cj&&kE mN l
def cF(b:DBook):Bool:=aJ b.base 0 2000&&tOk b.time&& !(b.base==0&&b.time !=0)&&decide (b.entries.length<=20)&&dT b.entries&&(match b.entries with|[]=>true|e::_=>e.index==b.base+1&&decide (b.time<=e.time))
def fj(m:DMark):Bool:=aJ m.client 2 5&&aJ m.seq 1 2000&&aJ m.index 1 2000
def j7(x y:DMark):Bool:=decide (x.client<y.client)
def rx(x y:DMark):Bool:=x.index==y.index
def cA(s:List DMark):Bool:=s.all fj&&kE j7 s&&fA rx s
def bU(s:List DMark)(c:Int):DMark:=(s.find? λm=>m.client==c).getD ⟨0,0,0⟩
def bY:List DMark->Int:=List.foldl (λx m=>if m.index>x then m.index else x) 0
def oe(s:List DMark)(e:DEntry):Bool:=decide ((bU s e.client).seq<e.seq)
def DEntry.mark(e:DEntry):DMark:=⟨e.client,e.seq,e.index⟩
def putMark(s:List DMark)(m:DMark):List DMark:=s.filter (λx=>decide (x.client<m.client))++m::s.filter (λx=>decide (m.client<x.client))
def dC(s:List DMark)(e:DEntry):Option (List DMark):=if cj e&&oe s e&&decide (bY s<e.index)then some (putMark s e.mark)else none
def cN:List DMark->List DEntry->Option (List DMark)
  |s,[]=>some s
  |s,e::r=>match dC s e with
    |some s'=>cN s' r
    |none=>none
def bV(s:List DMark)(l:List DEntry):List DMark×Bool:=
  if !cA s then([],false)else if 2000<l.length then(s,false)else match cN s l with|some o=>(o,true)|none=>(s,false)
def di(h:DHead):Bool:=aJ h.base 0 2000&&aJ h.num 0 h.base&&tOk h.time&&(decide (0<h.base)||h.time==0)&&cA h.seen&&bY h.seen==h.base
def ee(t:DTwo):Bool:=eO t&&decide (t.a.kept.length=22)
def bp(b:DBook):Int:=b.base+b.entries.length
def g9:DHead:=⟨0,0,0,[]⟩
def dm(e:DEntry):DAck:=if cj e then⟨e.client,e.seq,e.index,e.seq⟩else⟨0,0,0,0⟩
def gM(b:DBook)(d:Int):List DEntry:=b.entries.filter λe=>decide (d+1<=e.index)
def pV(b:DBook)(i:Int):List DEntry:=b.entries.take (i-b.base).toNat
def mO(n:DLogNode):DHead:=⟨n.head.num+1,n.nxt.base,(n.book.entries.getD (n.nxt.base-n.book.base-1).toNat ⟨0,0,0,0,⟨0,0,0,0,0⟩⟩).time,(bV n.head.seen (pV n.book n.nxt.base)).1⟩
def la(n:DLogNode):Bool:=if n.more then aJ n.nxt.base (n.head.base+1) n.durable&&n.nxt==mO n else n.nxt==g9
def mM(n:DLogNode):Bool:=ee n.two&&di n.head&&cF n.book&&n.book.base==n.head.base&&n.book.time==n.head.time&&bV n.head.seen n.book.entries==(n.seen,true)&&aJ n.durable n.book.base (bp n.book)&&n.owe==(gM n.book n.durable).map dm&&la n
def rv(n:DLogNode):Bool:=eO n.two&&n==⟨n.two,g9,g9,false,⟨0,0,[]⟩,[],0,[]⟩
def fU(p:DPair):Bool:=aJ p.key 0 9&&aJ p.value 0 999
def j9(x y:DPair):Bool:=decide (x.key<y.key)
def da(l:List DPair):Bool:=l.all fU&&kE j9 l
def oP(j:DJob):Bool:=aJ j.id 1 20&&tOk j.due&&aJ j.key 0 9&&aJ j.value 0 999&&aJ j.fired 0 2000
def wC(x y:DJob):Bool:=decide (x.id<y.id)
def oq(x y:DJob):Bool:=y.fired !=0&&x.fired==y.fired
def dA(l:List DJob):Bool:=decide (l.length<=8)&&l.all oP&&kE wC l&&fA oq l
def jG(x:Int):Bool:=x==2||x==3
def iD(l:DLease):Bool:=l==⟨0,0,0⟩||(jG l.holder&&aJ l.epoch 1 1000&&aJ l.til 1 1001000)
def cH(s:DState):Bool:=aJ s.index 0 2000&&tOk s.time&&da s.pairs&&dA s.jobs&&iD s.lease&&s.jobs.all λj=>decide (j.fired<=s.index)
def eZ(d:DDisk):Bool:=db d&&decide (d.kept.length=8)
def jJ(s:DStore):Bool:=eZ s.disk&&cH s.state&&aJ s.num 0 1000000000&&aJ s.last 0 s.state.index&&((s.num==0)==(s.last==0))&&(s.busy==0||(decide (s.num<1000000000)&&decide (s.last<s.busy)&&decide (s.busy<=s.state.index)))
def gZ:DState:=⟨0,0,[],[],⟨0,0,0⟩⟩
def kD(s:DStore):Bool:=db s.disk&&s==⟨s.disk,gZ,0,0,0⟩
def kP(d:DDue):Bool:=aJ d.id 1 20&&tOk d.due
def pU(x y:DDue):Bool:=decide (x.due<y.due)||(x.due==y.due&&decide (x.id<y.id))
def ue(x y:DDue):Bool:=x.id==y.id
def rn(j:DJobs):Bool:=aJ j.index 0 2000&&tOk j.time&&(j.holder==0||jG j.holder)&&aJ j.epoch 0 1000&&aJ j.til 0 1001000&&decide (j.opens.length<=8)&&j.opens.all kP&&kE pU j.opens&&fA ue j.opens
def op0:DOp:=⟨0,0,0,0,0⟩
def jV(s:DSched):Bool:=jG s.id&&aJ s.seq 0 2000&&rn s.view.jobs&&aJ s.index 0 2000&&(if s.busy then s.seq !=0&&xm s.op&&(s.op.kind==4||s.op.kind==5)else s.op==op0)
def xq(id:Int):DSched:=⟨id,0,⟨⟨0,0,0,0,0,[]⟩⟩,false,op0,0⟩
def fd(s:DSched)(id:Int)(up:Bool):Bool:=jV s&&s.id==id&&(up||s==xq id)
def x9(w:DWant)(g:DGot)(seq last:Int):Bool:=g.seq==seq&&aJ g.index last 2000&&(if w.kind==4 then(g.has==0&&g.value==0)||(g.has==1&&aJ g.value 0 999)else decide (last<g.index)&&g.has==0&&g.value==0)
def rq(gs:List DGot)(k:Nat):Int:=match k with|0=>0|j+1=>(gs.getD j ⟨0,0,0,0⟩).index
def fB(c:DClient):Bool:=(c.id==4||c.id==5)&&c.todo.all jw&&decide (c.todo.length<=12)&&decide (c.gots.length<=c.todo.length)&&TV c.gots.length (λk=>x9 (c.todo.getD k ⟨0,op0,0⟩) (c.gots.getD k ⟨0,0,0,0⟩) ((k:Int)+1) (rq c.gots k))&&c.last==rq c.gots c.gots.length
def ju(w:DWorld)(k:Nat):Bool:=w.up.getD k false
def hE(w:DWorld):Bool:=hI w.clocks&&decide (w.up.length=6)&&qd w.net&&ju w 4&&ju w 5&&fB w.ann&&w.ann.id==4&&fB w.bob&&w.bob.id==5&&fd w.left 2 (ju w 2)&&fd w.right 3 (ju w 3)&&(if ju w 0 then mM w.log else rv w.log)&&(if ju w 1 then jJ w.store else kD w.store)
end
section
open Go.Proofs.Tryz
open Go.ChangeShapes Go.WideShapes Go.RowKit
def sO:List (List Nat):=cz [0,0,2,0,12420,1327235,101458181,76320612550,35599944798657,0x9047144083188,0x288183084147049,0xb2411c51020c620a,0x288183084147049,0xc2881830841470492cd,0x38d2c904714408318828c,0xf30a2060c21051c124b34e,0x40e34b2411c51020c620a30f,0x113cc2881830841470492cd390,0x28818308414704949038d2cc3d1]
def tf:List (List Nat):=eK 13 [2184,56,59,26,41,122,365,1093,3280,9841,1092406,1151455,501916]
theorem bM{a b:Bool}(h:a=b):AP.val (.one (dB a))=rB b:=by rw[h]
theorem gS{α:Type}{l:List α}{p:α->Bool}{k:Nat}(hall:∀(j:Nat) (hj:j<k) (hl:j<l.length),p l[j]=true)(hlt:k<l.length)(h:p l[k]=true):∀(j:Nat) (hj:j<k+1) (hl:j<l.length),p l[j]=true:=by
  intro j hj hl;by_cases hjk:j=k
  · subst hjk;exact h
  · exact hall j aa hl
theorem i6{α:Type}{l:List α}{p:α->Bool}{k:Nat}(hall:∀(j:Nat) (hj:j<k) (hl:j<l.length),p l[j]=true)(hk:k=l.length):l.all p=true:=Hy λj hj=>hall j aa hj
theorem GK{l:List Int}(h:¬l.length<=48):ck l=false:=by simp[ck,h]
theorem KR{l:List Int}{k:Nat}(hk:k<l.length)(h:aJ l[k] 0 1000000000=false):ck l=false:=by
  have:=qR (p:=λx=>aJ x 0 1000000000) hk h;simp only[ck,this,Bool.and_false]
theorem kT(l:List Int):aL av 316 [.one (dIs l)] (rB (ck l)):=by
  refine pO func316 call316 ntmps316 results316 λS=>?_;conv=>whnf
  repeat'(first|refine awz ?_|refine tB ?_ ?_|(intro h;conv=>whnf))
  · rw[GK ari]
  · have h48:l.length<=48:=ari;clear h;refine XA (λk:Nat=>k<=l.length/\∀(j:Nat) (hj:j<k) (hl:j<l.length),aJ l[j] 0 1000000000=true) (2::4::rg 10 8) (λk=>[(10,vI .i64 (k:Int))]) (λ_=>[]) (λk=>l.length-k) 0 ⟨aa,aa⟩ ?_ Xv (λk hR=>?_)<;>(conv=>whnf)
    · exact whd
    · obtain⟨hk,hall⟩:=hR;repeat'((first|refine awz ?_|refine XI ari (λhlt=>?_)|refine Xz ari ari ?_|refine cP (bf _ _ _) ?_|refine tB ?_ ?_|intro h)<;>conv=>whnf)
      · rw[KR hlt (by simpa using h)]
      · refine aT.mk ⟨k+1,⟨hlt,gS (p:=λx=>aJ x 0 1000000000) hall hlt (by simpa using h)⟩,aa,?_,Xv⟩;exact hds
      · refine bM ?_;simp only[ck,i6 (p:=λx=>aJ x 0 1000000000) hall ari,h48,decide_true,Bool.and_self]
theorem eG(l:List Int):aL av 233 [.one (dIs l)] (rB (ck l)):=by
  refine pO func233 call233 ntmps233 results233 λS=>?_;conv=>whnf
  repeat'(first|refine awz ?_|refine tB ?_ ?_|(intro h;conv=>whnf))
  · rw[GK ari]
  · have h48:l.length<=48:=ari;clear h;refine XA (λk:Nat=>k<=l.length/\∀(j:Nat) (hj:j<k) (hl:j<l.length),aJ l[j] 0 1000000000=true) (2::3::rg 7 12) (λk=>[(3,vI .i64 (k:Int))]) (λ_=>[]) (λk=>l.length-k) 0 ⟨aa,aa⟩ ?_ Xv (λk hR=>?_)<;>(conv=>whnf)
    · exact whd
    · obtain⟨hk,hall⟩:=hR;repeat'((first|refine awz ?_|refine XI ari (λhlt=>?_)|refine Xz ari ari ?_|refine cP (bh _ _ _) ?_|refine tB ?_ ?_|intro h)<;>conv=>whnf)
      · rw[KR hlt (by simpa using h)]
      · refine aT.mk ⟨k+1,⟨hlt,gS (p:=λx=>aJ x 0 1000000000) hall hlt (by simpa using h)⟩,aa,?_,Xv⟩;exact hds
      · refine bM ?_;simp only[ck,i6 (p:=λx=>aJ x 0 1000000000) hall ari,h48,decide_true,Bool.and_self]
theorem mJ(d:DDisk)(at_:Int)(hs:d.kept.length<=40):aL av 334 [.agg d.ds,pI at_] (rB (aJ at_ 0 ((d.kept.length:Int)-1))):=by
  have e:((d.kept.map bD).length:Int)=d.kept.length:=ah;refine pO func334 call334 ntmps334 results334 λS=>?_;conv=>whnf
  repeat'((first|refine awz ?_|refine Xz (n:=_-_) ari ari ?_|refine cP (bf _ _ _) ?_|fail)<;>conv=>whnf)
  rw[e]
theorem fr(d:DDisk)(at_:Int)(hs:d.kept.length<=40):aL av 294 [.agg d.ds,pI at_] (rB (aJ at_ 0 ((d.kept.length:Int)-1))):=by
  have e:((d.kept.map bD).length:Int)=d.kept.length:=ah;refine pO func294 call294 ntmps294 results294 λS=>?_;conv=>whnf
  repeat'((first|refine awz ?_|refine Xz (n:=_-_) ari ari ?_|refine cP (bh _ _ _) ?_|fail)<;>conv=>whnf)
  rw[e]
theorem lN{d:DDisk}(h:¬(1<=d.kept.length/\d.kept.length<=40/\d.wait.length<=60)):db d=false:=by
  have:(decide (1<=d.kept.length)&&decide (d.kept.length<=40)&&decide (d.wait.length<=60))=false:=by
    simp only[Bool.and_eq_false_iff,decide_eq_false_iff_not];omega
  simp only[db,this,Bool.false_and]
theorem CA{d:DDisk}{k:Nat}(hk:k<d.kept.length)(h:ck d.kept[k]=false):db d=false:=by
  have:=qR (p:=ck) hk h;simp only[db,this,Bool.and_false,Bool.false_and]
theorem zR{d:DDisk}{k:Nat}(hk:k<d.wait.length)(h:fV d.kept.length d.wait[k]=false):db d=false:=by
  have:=qR (p:=fV d.kept.length) hk h;simp only[db,this,Bool.and_false]
theorem ia(d:DDisk):aL av 262 [.agg d.ds] (rB (db d)):=by
  refine pO func262 call262 ntmps262 results262 λS=>?_;conv=>whnf
  repeat'(first|refine awz ?_|refine tB ?_ ?_|(intro h;conv=>whnf))
  · rw[lN ari]
  · rw[lN ari]
  · rw[lN ari]
  · have h1:1<=d.kept.length:=ari;have h2:d.kept.length<=40:=ari;have h3:d.wait.length<=60:=ari;clear h;refine XA (λk:Nat=>k<=d.kept.length/\∀(j:Nat) (hj:j<k) (hl:j<d.kept.length),ck d.kept[j]=true) (2::4::rg 26 8) (λk=>[(26,vI .i64 (k:Int))]) (λ_=>[(1,.cells 69 (d.ds.map .d))]) (λk=>d.kept.length-k) 0 ⟨aa,aa⟩ ?_ sbW (λk hR=>?_)<;>(conv=>whnf)
    · exact whd
    · obtain⟨hk,hall⟩:=hR;repeat'((first|refine awz ?_|refine XI ari (λhlt=>?_)|refine Xz ari ari ?_|refine cP (kT _) ?_|refine tB ?_ ?_|intro h)<;>conv=>whnf)
      · rw[CA hlt (by simpa using h)]
      · refine aT.mk ⟨k+1,⟨hlt,gS (p:=ck) hall hlt (by simpa using h)⟩,aa,?_,sbW⟩;exact hds
      · have hrows:=i6 (p:=ck) hall ari;clear hall hk h;refine XA (λk:Nat=>k<=d.wait.length/\∀(j:Nat) (hj:j<k) (hl:j<d.wait.length),fV d.kept.length d.wait[j]=true) (2::6::rg 37 16) (λk=>[(37,vI .i64 (k:Int))]) (λ_=>[(1,.cells 69 (d.ds.map .d))]) (λk=>d.wait.length-k) 0 ⟨aa,aa⟩ ?_ sbW (λk hR=>?_)<;>(conv=>whnf)
        · exact whd
        · obtain⟨hk,hall⟩:=hR;repeat'((first|refine awz ?_|refine XI ari (λhlt=>?_)|refine Xz ari ari ?_|refine cP (mJ d _ h2) ?_|refine cP (kT _) ?_|refine tB ?_ ?_|intro h)<;>conv=>whnf)
          all_goals first
            |(rw[zR hlt (by simp_all[fV])];done)
            | (refine aT.mk ⟨k + 1, ⟨hlt, gS (p := fV d.kept.length) hall hlt (by simp_all [fV])⟩,aa, ?_, sbW⟩
               exact hds)
            | (refine bM ?_
               simp only[db,hrows,i6 (p:=fV d.kept.length) hall ari,h1,h2,h3,decide_true,Bool.and_self])
theorem d7(d:DDisk):aL av 224 [.agg d.ds] (rB (db d)):=by
  refine pO func224 call224 ntmps224 results224 λS=>?_;conv=>whnf
  repeat'(first|refine awz ?_|refine tB ?_ ?_|(intro h;conv=>whnf))
  · rw[lN ari]
  · rw[lN ari]
  · rw[lN ari]
  · have h1:1<=d.kept.length:=ari;have h2:d.kept.length<=40:=ari;have h3:d.wait.length<=60:=ari;clear h;refine XA (λk:Nat=>k<=d.kept.length/\∀(j:Nat) (hj:j<k) (hl:j<d.kept.length),ck d.kept[j]=true) (2::3::rg 21 14) (λk=>[(3,vI .i64 (k:Int))]) (λ_=>[(1,.cells 69 (d.ds.map .d))]) (λk=>d.kept.length-k) 0 ⟨aa,aa⟩ ?_ sbW (λk hR=>?_)<;>(conv=>whnf)
    · exact whd
    · obtain⟨hk,hall⟩:=hR;repeat'((first|refine awz ?_|refine XI ari (λhlt=>?_)|refine Xz ari ari ?_|refine cP (eG _) ?_|refine tB ?_ ?_|intro h)<;>conv=>whnf)
      · rw[CA hlt (by simpa using h)]
      · refine aT.mk ⟨k+1,⟨hlt,gS (p:=ck) hall hlt (by simpa using h)⟩,aa,?_,sbW⟩;exact hds
      · have hrows:=i6 (p:=ck) hall ari;clear hall hk h;refine XA (λk:Nat=>k<=d.wait.length/\∀(j:Nat) (hj:j<k) (hl:j<d.wait.length),fV d.kept.length d.wait[j]=true) (2::4::rg 35 26) (λk=>[(4,vI .i64 (k:Int))]) (λ_=>[(1,.cells 69 (d.ds.map .d))]) (λk=>d.wait.length-k) 0 ⟨aa,aa⟩ ?_ sbW (λk hR=>?_)<;>(conv=>whnf)
        · exact whd
        · obtain⟨hk,hall⟩:=hR;repeat'((first|refine awz ?_|refine XB aM 11 13 sO tf ac ac ac rfl ?_|refine XI ari (λhlt=>?_)|refine Xz ari ari ?_|refine cP (fr d _ h2) ?_|refine cP (eG _) ?_|refine tB ?_ ?_|intro h)<;>conv=>whnf)
          all_goals first
            |(rw[zR hlt (by simp_all[fV])];done)
            | (refine aT.mk ⟨k + 1, ⟨hlt, gS (p := fV d.kept.length) hall hlt (by simp_all [fV])⟩,aa, ?_, sbW⟩
               exact hds)
            | (refine bM ?_
               simp only[db,hrows,i6 (p:=fV d.kept.length) hall ari,h1,h2,h3,decide_true,Bool.and_self])
end
section
open Go.Proofs.Tryz
open Go.ChangeShapes Go.WideShapes Go.RowKit
def t7:List (List Nat):=cz [0,1,0,3,528643,84688962,6476284101,486456430726,35598854271303,486456430726,44394947293511,0x91c50c40421882ca,0x1c50c404218c28b209,0xd2482ca306081103147,0x38714310108630a2c824d,0xf34920b28c1820440c51ce,0x40e1c50c404218c28b20934f,0x113cd2482ca306081103147390,0x49038714310108630a2c824d3d1,0x113cd2482ca306081103147390,0x51038714310108630a2c824d3d1,0x1344f34920b28c1820440c51ce412554,0x59455240e1c50c404218c28b20934f453,0x113cd2482ca306081103147390,0x5d344f34920b28c1820440c51ce412554598,0x1961651549038714310108630a2c824d3d14d7,0x44f34920b28c1820440c51ce41a5d3495516619,0xe1c50c404218c28b20935b6585945524d76903d1]
def uf:List (List Nat):=eK 24 [72,73,8,17,40,121,364,158557,160744,18589,38272,88573,265720,797161,2391484,7174453,21523360,197649019471,197778159634,189384049039,190546310506,193516534255,203976887458,94078608745]
def t8:List (List Nat):=cz [0,1,129,12354,1056835,84676740,6510088389,486455648518,35601017745735,0x50c1084247188,0x2881872440810c5,0xb1430421091c620a,0x30a2061c910204314b,0xb1430421091c620a,0x38a2061c910204314b,0xd2c50c108424718828c3ce,0x2c50c108424718829038f30d,0x1134c3ce40a2061c910204314b,0x48b1430421091c620a40e3cc351,0x1344d30f3902881872440810c52d2,0x5122c50c108424718829038f30d453,0x154d134c3ce40a2061c910204314b494,0x59448b1430421091c620a40e3cc3514d5,0x154d134c3ce40a2061c910204314b494,0x61448b1430421091c620a40e3cc3514d5,0x1755344d30f3902881872440810c52d2516658,0x6986565122c50c108424718829038f30d453557,0x154d134c3ce40a2061c910204314b494,0x6d755344d30f3902881872440810c52d251665869c,0x1d71a61959448b1430421091c620a40e3cc3514d55db,0x55344d30f3902881872440810c52d251e6d759961a71d,0x122c50c108424718829038f30d45f75c6986565db7944d5]
def ug:List (List Nat):=eK 28 [0,1,4,13,40,121,364,1093,3280,9841,29524,12843157,13020304,1505749,3100072,7174453,21523360,64570081,193710244,581130733,1743392200,0xe8f84c46b27,0xe91f440bdda,0xdf3a5afbe67,0xe09910ea6b2,0xe41953a14c7,0xf06db903f6a,7620367308385]
theorem Yj{α:Type}{enc:α->List AD}{l:List α}{k:Nat}{K:Nat->List AD->Prop}(h0:0<k)(hk:k<=l.length)(h:∀_:k-1<l.length,K (k-1) (enc l[k-1])):AIx (l.map enc) ((k:Int)-1) K:=by
  have e:((k:Int)-1)=((k-1:Nat):Int):=aa;rw[e];exact XK aa (h aa)
def cK{α:Type}(P:α->Bool)(Q:α->α->Bool)(l:List α)(k:Nat)(hk:k<l.length):Bool:=P l[k]&&(if h:0<k then Q (l[k-1]'(aa)) l[k]else true)
theorem pM{α:Type}{P:α->Bool}{Q:α->α->Bool}{l:List α}{k:Nat}(hk:k<l.length)(h:cK P Q l k hk=false):(l.all P&&kE Q l)=false:=by
  unfold cK at h;cases hp:P l[k]with
  |false=>rw[qR hk hp];rfl
  |true=>
    rw[hp]at h;simp only[Bool.true_and]at h;split at h
    · rename_i h0;obtain⟨j,rfl⟩:∃j,k=j+1:=⟨k-1,aa⟩;rw[RS (Q:=Q) hk (by simpa using h),Bool.and_false]
    · cases h
theorem FJ{α:Type}{P:α->Bool}{Q:α->α->Bool}{l:List α}(h:∀(j:Nat) (hl:j<l.length),cK P Q l j hl=true):(l.all P&&kE Q l)=true:=by
  rw[and_eq_true];refine⟨Hy λk hk=>?_,I8 λk hk=>?_⟩
  · have:=h k hk;unfold cK at this;exact(Bool.and_eq_true_iff.1 this).1
  · have:=h (k+1) hk;unfold cK at this;have:=(Bool.and_eq_true_iff.1 this).2;simpa using this
theorem fL{α:Type}{P:α->Bool}{Q:α->α->Bool}{l:List α}{k:Nat}(hall:∀(j:Nat) (hj:j<k) (hl:j<l.length),cK P Q l j hl=true)(hlt:k<l.length)(h:cK P Q l k hlt=true):∀(j:Nat) (hj:j<k+1) (hl:j<l.length),cK P Q l j hl=true:=by
  intro j hj hl;by_cases hjk:j=k
  · subst hjk;exact h
  · exact hall j aa hl
theorem iQ{α:Type}{P:α->Bool}{Q:α->α->Bool}{l:List α}{k:Nat}(hall:∀(j:Nat) (hj:j<k) (hl:j<l.length),cK P Q l j hl=true)(hk:k=l.length):(l.all P&&kE Q l)=true:=FJ λj hj=>hall j aa hj
theorem br{α:Type}{P:α->Bool}{Q:α->α->Bool}{l:List α}{k:Nat}(hk:k<l.length)(h:0<k):cK P Q l k hk=(P l[k]&&Q (l[k-1]'(aa)) l[k]):=by simp[cK,h]
theorem bw{α:Type}{P:α->Bool}{Q:α->α->Bool}{l:List α}{k:Nat}(hk:k<l.length)(h:¬0<k):cK P Q l k hk=P l[k]:=by simp[cK,h]
theorem ch{α:Type}{P:α->Bool}{Q:α->α->Bool}{l:List α}{k:Nat}(hk:k<l.length)(h:P l[k]=false):cK P Q l k hk=false:=by simp[cK,h]
theorem om(t:DTwo):aL av 259 [.agg t.ds] (rB (eO t)):=by
  refine pO func259 call259 ntmps259 results259 λS=>?_;conv=>whnf
  repeat'((first|refine awz ?_|refine cP (ia t.a) ?_|refine cP (ia t.b) ?_|refine tB ?_ ?_|intro h)<;>conv=>whnf)
  all_goals
    refine bM ?_;simp_all[eO]
  all_goals first|omega|(rw[Bool.eq_iff_iff];simp only[beq_iff_eq,decide_eq_true_eq];omega)
theorem eJ(t:DTwo):aL av 221 [.agg t.ds] (rB (eO t)):=by
  refine pO func221 call221 ntmps221 results221 λS=>?_;conv=>whnf
  repeat'((first|refine awz ?_|refine cP (d7 t.a) ?_|refine cP (d7 t.b) ?_|refine tB ?_ ?_|intro h)<;>conv=>whnf)
  all_goals
    refine bM ?_;simp_all[eO]
  all_goals first|omega|(rw[Bool.eq_iff_iff];simp only[beq_iff_eq,decide_eq_true_eq];omega)
theorem nL(t:DTwo):aL av 323 [.agg t.ds] (rB (ee t)):=by
  refine pO func323 call323 ntmps323 results323 λS=>?_;conv=>whnf
  repeat'((first|refine awz ?_|refine cP (om t) ?_|refine tB ?_ ?_|intro h)<;>conv=>whnf)
  all_goals
    refine bM ?_;simp_all[ee]
  all_goals first|omega|(rw[Bool.eq_iff_iff];simp only[beq_iff_eq,decide_eq_true_eq];omega)
theorem kB(t:DTwo):aL av 214 [.agg t.ds] (rB (ee t)):=by
  refine pO func214 call214 ntmps214 results214 λS=>?_;conv=>whnf
  repeat'((first|refine awz ?_|refine cP (eJ t) ?_|refine tB ?_ ?_|intro h)<;>conv=>whnf)
  all_goals
    refine bM ?_;simp_all[ee]
  all_goals first|omega|(rw[Bool.eq_iff_iff];simp only[beq_iff_eq,decide_eq_true_eq];omega)
theorem ol(d:DDisk):aL av 275 [.agg d.ds] (rB (eZ d)):=by
  refine pO func275 call275 ntmps275 results275 λS=>?_;conv=>whnf
  repeat'((first|refine awz ?_|refine cP (ia d) ?_|refine tB ?_ ?_|intro h)<;>conv=>whnf)
  all_goals
    refine bM ?_;simp_all[eZ]
  all_goals first|omega|(rw[Bool.eq_iff_iff];simp only[beq_iff_eq,decide_eq_true_eq];omega)
theorem ka(d:DDisk):aL av 156 [.agg d.ds] (rB (eZ d)):=by
  refine pO func156 call156 ntmps156 results156 λS=>?_;conv=>whnf
  repeat'((first|refine awz ?_|refine cP (d7 d) ?_|refine tB ?_ ?_|intro h)<;>conv=>whnf)
  all_goals
    refine bM ?_;simp_all[eZ]
  all_goals first|omega|(rw[Bool.eq_iff_iff];simp only[beq_iff_eq,decide_eq_true_eq];omega)
theorem yf(a b:Int):aL av 254 [pI a,pI b] (rB (ji a b)):=by
  refine pO func254 call254 ntmps254 results254 λS=>?_;conv=>whnf
  repeat'((first|refine awz ?_|refine cP (Gg _) ?_|refine tB ?_ ?_|intro h)<;>conv=>whnf)
  all_goals
    refine bM ?_;simp_all[ji]
theorem JK(m:DMsg):aL av 253 [.agg m.ds] (rB (qc m)):=by
  refine pO func253 call253 ntmps253 results253 λS=>?_;conv=>whnf
  repeat'((first|refine awz ?_|refine cP (yf _ _) ?_|refine cP (kT _) ?_|refine tB ?_ ?_|intro h)<;>conv=>whnf)
  all_goals
    refine bM ?_;simp_all[qc]
theorem KX(m:DMsg):aL av 147 [.agg m.ds] (rB (qc m)):=by
  refine pO func147 call147 ntmps147 results147 λS=>?_;conv=>whnf
  repeat'((first|refine awz ?_|refine cP (vY _) ?_|refine cP (eG _) ?_|refine tB ?_ ?_|intro h)<;>conv=>whnf)
  all_goals
    refine bM ?_;simp_all[qc,ji]
theorem Ae(x y:DLink):aL av 255 [.agg x.ds,.agg y.ds] (rB (mL x y)):=by
  refine pO func255 call255 ntmps255 results255 λS=>?_;conv=>whnf
  repeat'(first|refine awz ?_|refine tB ?_ ?_|(intro h;conv=>whnf))
  all_goals
    refine bM ?_;simp_all[mL]
  all_goals first|omega|(rw[Bool.eq_iff_iff];simp only[beq_iff_eq,decide_eq_true_eq];omega)
theorem wM(x y:DLink):aL av 149 [.agg x.ds,.agg y.ds] (rB (mL x y)):=by
  refine pO func149 call149 ntmps149 results149 λS=>?_;conv=>whnf
  repeat'(first|refine awz ?_|refine tB ?_ ?_|(intro h;conv=>whnf))
  all_goals
    refine bM ?_;simp_all[mL]
  all_goals first|omega|(rw[Bool.eq_iff_iff];simp only[beq_iff_eq,decide_eq_true_eq];omega)
theorem vJ{n:DNet}(h:¬(n.flight.length<=60/\n.cuts.length<=15)):qd n=false:=by
  have:(decide (n.flight.length<=60)&&decide (n.cuts.length<=15))=false:=by
    simp only[Bool.and_eq_false_iff,decide_eq_false_iff_not];omega
  simp only[qd,this,Bool.false_and]
theorem Gx{n:DNet}{k:Nat}(hk:k<n.flight.length)(h:qc n.flight[k]=false):qd n=false:=by
  have:=qR (p:=qc) hk h;simp only[qd,this,Bool.and_false,Bool.false_and]
theorem Gw{n:DNet}{k:Nat}(hk:k<n.cuts.length)(h:cK fS mL n.cuts k hk=false):qd n=false:=by
  have:=pM hk h;simp only[qd,Bool.and_assoc]at*
  simp only[this,Bool.and_false]
theorem JL(n:DNet):aL av 174 [.agg n.ds] (rB (qd n)):=by
  refine pO func174 call174 ntmps174 results174 λS=>?_;conv=>whnf
  repeat'(first|refine awz ?_|refine tB ?_ ?_|(intro h;conv=>whnf))
  · rw[vJ ari]
  · rw[vJ ari]
  · have h1:n.flight.length<=60:=ari;have h2:n.cuts.length<=15:=ari;clear h;refine XA (λk:Nat=>k<=n.flight.length/\∀(j:Nat) (hj:j<k) (hl:j<n.flight.length),qc n.flight[j]=true) (2::4::rg 20 8) (λk=>[(20,vI .i64 (k:Int))]) (λ_=>[(1,.cells 103 (n.ds.map .d))]) (λk=>n.flight.length-k) 0 ⟨aa,aa⟩ ?_ sbW (λk hR=>?_)<;>(conv=>whnf)
    · exact whd
    · obtain⟨hk,hall⟩:=hR;repeat'((first|refine awz ?_|refine XI ari (λhlt=>?_)|refine Xz ari ari ?_|refine cP (JK _) ?_|refine tB ?_ ?_|intro h)<;>conv=>whnf)
      · rw[Gx hlt (by simpa using h)]
      · refine aT.mk ⟨k+1,⟨hlt,gS (p:=qc) hall hlt (by simpa using h)⟩,aa,?_,sbW⟩;exact hds
      · have hrows:=i6 (p:=qc) hall ari;clear hall hk h;refine XA (λk:Nat=>k<=n.cuts.length/\∀(j:Nat) (hj:j<k) (hl:j<n.cuts.length),cK fS mL n.cuts j hl=true) (2::5::6::rg 31 34) (λk=>[(31,vI .i64 (k:Int))]) (λ_=>[(1,.cells 103 (n.ds.map .d))]) (λk=>n.cuts.length-k) 0 ⟨aa,aa⟩ ?_ sbW (λk hR=>?_)<;>(conv=>whnf)
        · exact whd
        · obtain⟨hk,hall⟩:=hR;repeat'((first|refine awz ?_|refine XB aM 12 24 t7 uf ac ac ac rfl ?_|refine XI ari (λhlt=>?_)|refine Yj ari ari (λhpv=>?_)|refine Xz (n:=_-_) ari ari ?_|refine Xz ari ari ?_|refine cP (yf _ _) ?_|refine cP (Ae _ _) ?_|refine tB ?_ ?_|intro h)<;>conv=>whnf)
          all_goals first
            |(rw[Gw hlt (by first|(refine ch _ ?_;simp_all[fS];done)|(refine ch _ ?_;simp_all[fS];omega)|(rw[br _ ari];simp_all[fS];done)|(rw[bw _ ari];simp_all[fS];done))];done)
            | (refine aT.mk ⟨k + 1, ⟨hlt, fL hall hlt (by first | (refine ch _ ?_; simp_all [fS]; done) | (refine ch _ ?_; simp_all [fS]; omega) | (rw [br _ ari]; simp_all [fS]; done) | (rw [bw _ ari]; simp_all [fS]; done))⟩,aa, ?_, sbW⟩
               exact hds)
            | (refine bM ?_
               have he:=iQ hall ari;simp only[qd,hrows,h1,h2,decide_true,Bool.and_self,Bool.true_and,he])
theorem KY(n:DNet):aL av 68 [.agg n.ds] (rB (qd n)):=by
  refine pO func68 call68 ntmps68 results68 λS=>?_;conv=>whnf
  repeat'(first|refine awz ?_|refine tB ?_ ?_|(intro h;conv=>whnf))
  · rw[vJ ari]
  · rw[vJ ari]
  · have h1:n.flight.length<=60:=ari;have h2:n.cuts.length<=15:=ari;clear h;refine XA (λk:Nat=>k<=n.flight.length/\∀(j:Nat) (hj:j<k) (hl:j<n.flight.length),qc n.flight[j]=true) (2::3::rg 16 14) (λk=>[(3,vI .i64 (k:Int))]) (λ_=>[(1,.cells 103 (n.ds.map .d))]) (λk=>n.flight.length-k) 0 ⟨aa,aa⟩ ?_ sbW (λk hR=>?_)<;>(conv=>whnf)
    · exact whd
    · obtain⟨hk,hall⟩:=hR;repeat'((first|refine awz ?_|refine XI ari (λhlt=>?_)|refine Xz ari ari ?_|refine cP (KX _) ?_|refine tB ?_ ?_|intro h)<;>conv=>whnf)
      · rw[Gx hlt (by simpa using h)]
      · refine aT.mk ⟨k+1,⟨hlt,gS (p:=qc) hall hlt (by simpa using h)⟩,aa,?_,sbW⟩;exact hds
      · have hrows:=i6 (p:=qc) hall ari;clear hall hk h;refine XA (λk:Nat=>k<=n.cuts.length/\∀(j:Nat) (hj:j<k) (hl:j<n.cuts.length),cK fS mL n.cuts j hl=true) (2::4::5::rg 30 44) (λk=>[(4,vI .i64 (k:Int))]) (λ_=>[(1,.cells 103 (n.ds.map .d))]) (λk=>n.cuts.length-k) 0 ⟨aa,aa⟩ ?_ sbW (λk hR=>?_)<;>(conv=>whnf)
        · exact whd
        · obtain⟨hk,hall⟩:=hR;repeat'((first|refine awz ?_|refine XB aM 12 28 t8 ug ac ac ac rfl ?_|refine XI ari (λhlt=>?_)|refine Yj ari ari (λhpv=>?_)|refine Xz (n:=_-_) ari ari ?_|refine Xz ari ari ?_|refine cP (vY _) ?_|refine cP (wM _ _) ?_|refine tB ?_ ?_|intro h)<;>conv=>whnf)
          all_goals first
            |(rw[Gw hlt (by first|(refine ch _ ?_;simp_all[fS,ji];done)|(refine ch _ ?_;simp_all[fS,ji];intros;omega)|(rw[br _ ari];simp_all[fS,ji];done)|(rw[bw _ ari];simp_all[fS,ji];done)|(rw[br _ ari];simp_all[fS,ji];omega)|(rw[bw _ ari];simp_all[fS,ji];omega))];done)
            | (refine aT.mk ⟨k + 1, ⟨hlt, fL hall hlt (by first | (refine ch _ ?_; simp_all [fS, ji]; done) | (refine ch _ ?_; simp_all [fS, ji]; intros; omega) | (rw [br _ ari]; simp_all [fS, ji]; done) | (rw [bw _ ari]; simp_all [fS, ji]; done) | (rw [br _ ari]; simp_all [fS, ji]; omega) | (rw [bw _ ari]; simp_all [fS, ji]; omega))⟩,aa, ?_, sbW⟩
               exact hds)
            | (refine bM ?_
               have he:=iQ hall ari;simp only[qd,hrows,h1,h2,decide_true,Bool.and_self,Bool.true_and,he])
theorem HD{l:List Int}(h:l.length≠6):hI l=false:=by simp[hI,h]
theorem zN{l:List Int}{k:Nat}(hk:k<l.length)(h:tOk l[k]=false):hI l=false:=by
  have:=qR (p:=tOk) hk h;simp only[hI,this,Bool.and_false]
theorem z5(l:List Int):aL av 173 [.one (dIs l)] (rB (hI l)):=by
  refine pO func173 call173 ntmps173 results173 λS=>?_;conv=>whnf
  repeat'(first|refine awz ?_|refine tB ?_ ?_|(intro h;conv=>whnf))
  · rw[HD (by simp only[bne_iff_ne,ne_eq,decide_eq_true_eq,decide_eq_false_iff_not,beq_iff_eq,beq_eq_false_iff_ne,List.length_map,Bool.not_eq_true',Bool.not_eq_false',bne_eq_false_iff_eq]at*;omega)]
  · have h1:l.length=6:=(by simp only[bne_iff_ne,ne_eq,decide_eq_true_eq,decide_eq_false_iff_not,beq_iff_eq,beq_eq_false_iff_ne,List.length_map,Bool.not_eq_true',Bool.not_eq_false',bne_eq_false_iff_eq]at*;omega);clear h;refine XA (λk:Nat=>k<=l.length/\∀(j:Nat) (hj:j<k) (hl:j<l.length),tOk l[j]=true) (2::4::rg 10 8) (λk=>[(10,vI .i64 (k:Int))]) (λ_=>[]) (λk=>l.length-k) 0 ⟨aa,aa⟩ ?_ Xv (λk hR=>?_)<;>(conv=>whnf)
    · exact whd
    · obtain⟨hk,hall⟩:=hR;repeat'((first|refine awz ?_|refine XI ari (λhlt=>?_)|refine Xz ari ari ?_|refine cP (dM _) ?_|refine tB ?_ ?_|intro h)<;>conv=>whnf)
      · rw[zN hlt (by simpa[tOk]using h)]
      · refine aT.mk ⟨k+1,⟨hlt,gS (p:=tOk) hall hlt (by simpa[tOk]using h)⟩,aa,?_,Xv⟩;exact hds
      · refine bM ?_;simp only[hI,i6 (p:=tOk) hall ari,h1,decide_true,Bool.and_self]
theorem yO(l:List Int)(h6:l.length=6):aL av 63 [.one (dIs l)] (rB (hI l)):=by
  refine pO func63 call63 ntmps63 results63 λS=>?_;conv=>whnf
  repeat'(first|refine awz ?_|fail)
  refine XA (λk:Nat=>k<=l.length/\∀(j:Nat) (hj:j<k) (hl:j<l.length),tOk l[j]=true) (rg 2 14) (λk=>[(3,vI .i64 (k:Int))]) (λ_=>[]) (λk=>l.length-k) 0 ⟨aa,aa⟩ ?_ Xv (λk hR=>?_)<;>(conv=>whnf)
  · exact whd
  · obtain⟨hk,hall⟩:=hR;repeat'((first|refine awz ?_|refine XI ari (λhlt=>?_)|refine Xz ari ari ?_|refine cP (fc _) ?_|refine tB ?_ ?_|intro h)<;>conv=>whnf)
    all_goals first
      |(rw[zN hlt (by simpa[tOk]using h)];done)
      | (refine aT.mk ⟨k + 1, ⟨hlt, gS (p := tOk) hall hlt (by simpa [tOk] using h)⟩,aa, ?_, Xv⟩
         exact hds)
      | (refine bM ?_
         simp only[hI,i6 (p:=tOk) hall ari,Bool.and_true];simp only[List.length_map];first|omega|(rw[Bool.eq_iff_iff];simp only[beq_iff_eq,decide_eq_true_eq];omega))
end
section
open Go.Proofs.Tryz
open Go.RowKit Go.Shelf
attribute [local go_sem] Oper.semAt_some
def jP(e:DEntry):Array Value:= #[.int .i64 e.index,.int .i64 e.time,.int .i64 e.client,.int .i64 e.seq,.int .i64 e.op.kind,.int .i64 e.op.a,.int .i64 e.op.b,.int .i64 e.op.c,.int .i64 e.op.d]
def gT(n₀ Bb Bd:Nat)(W W':World):Prop:=W.heap.size<=W'.heap.size/\∀k,(k<n₀\/k=Bb\/k=Bd)->W'.heap[k]? =W.heap[k]?
theorem gT.refl{n₀ Bb Bd:Nat}(W:World):gT n₀ Bb Bd W W:=⟨Nat.le_refl _,λ_ _=>rfl⟩
theorem gT.trans{n₀ Bb Bd:Nat}{A B C:World}(h:gT n₀ Bb Bd A B)(h':gT n₀ Bb Bd B C):gT n₀ Bb Bd A C:=⟨Nat.le_trans h.1 h'.1,λk hk=>(h'.2 k hk).trans (h.2 k hk)⟩
theorem gT.cell{n₀ Bb Bd:Nat}{W W':World}(h:gT n₀ Bb Bd W W'){p:Addr}(hk:p.block<n₀\/p.block=Bb\/p.block=Bd):W'.cell? p=W.cell? p:=by
  unfold World.cell?;rw[h.2 _ hk]
theorem gT.alloc{n₀ Bb Bd:Nat}(W:World)(o:Obj)(h0:n₀<=W.heap.size)(hb:Bb<W.heap.size)(hd:Bd<W.heap.size):gT n₀ Bb Bd W (W.alloc o):=
  ⟨by simp,λk hk=>Below.heap_alloc _ _ k aa⟩
def tD(n₀:Nat)(W:World)(A:Option Addr)(es:List DEntry):Prop:=es=[]\/∃b off,A=some ⟨b,off,none⟩/\b<n₀/\∀(k:Nat) (hk:k<es.length) (j:Nat) (u:Value),(jP es[k])[j]? =some u->W.cell? ⟨b,off+k*9+j,none⟩=some u
theorem tD.keep{n₀ Bb Bd:Nat}{W W':World}{A:Option Addr}{es:List DEntry}(h:gT n₀ Bb Bd W W'):tD n₀ W A es->tD n₀ W' A es
  | .inl e=> .inl e
  | .inr ⟨b,off,e,hb,hc⟩=> .inr ⟨b,off,e,hb,λk hk j u hu=>(h.cell (p:=⟨b,off+k*9+j,none⟩) (.inl hb)).trans (hc k hk j u hu)⟩
def jK(d:Int)(es:List DEntry):List DEntry:=es.filter λe=>decide (d<=e.index)
theorem JB{d:Int}{es:List DEntry}{k:Nat}(hk:k<es.length)(h:d<=es[k].index):jK d (es.take (k+1))=jK d (es.take k)++[es[k]]:=by
  simp only[jK];rw[List.take_succ_eq_append_getElem hk,List.filter_append,List.filter_cons_of_pos (by simpa using h),List.filter_nil]
theorem Sf{d:Int}{es:List DEntry}{k:Nat}(hk:k<es.length)(h:¬d<=es[k].index):jK d (es.take (k+1))=jK d (es.take k):=by
  simp only[jK];rw[List.take_succ_eq_append_getElem hk,List.filter_append,List.filter_cons_of_neg (by simpa using h),List.filter_nil,List.append_nil]
theorem Qz{d:Int}{es:List DEntry}(k:Nat):jK d (es.take k)<+:jK d es:=by
  have:jK d es=jK d (es.take k)++jK d (es.drop k):=by
    simp only[jK];rw[<-List.filter_append,List.take_append_drop]
  rw[this];exact List.prefix_append _ _
theorem O0(F:Fence)(n:Nat)(hf:F.fn 424)(hro:F.round=none)(hn:1<=n)(l Bb Bd n₀:Nat)(A:Option Addr)(cap:Nat)(es:List DEntry)(d:Int)(hes:es.length<=20)(J Jx:List DEntry->World->Prop)
    (hY:∀pre x W,J pre W->pre.length<es.length->YieldAt F (n-1) Tryz.prog l #[.agg (jP x)] W λe W'=>
      (e= .returned (.bool true)/\J (pre++[x]) W'/\gT n₀ Bb Bd W W')\/(e= .returned (.bool false)/\Jx (pre++[x]) W'))
    (W:World) (hJ:AbidesFrom W.heap.size J) (h0n:n₀<=W.heap.size) (hBbl:Bb<W.heap.size) (hBdl:Bd<W.heap.size) (hBb:W.cell? ⟨Bb,2,none⟩=some (.slice A es.length cap)) (hBd:W.cell? ⟨Bd,0,none⟩=some (.int .i64 d)) (hA:tD n₀ W A es) (h0:J [] W):
    CallsIn F n Tryz.prog 424 #[.func (.yield l) #[] #[],.pointer (some ⟨Bb,0,none⟩),.pointer (some ⟨Bd,0,none⟩)] W λe W'=>(∃v,e= .returned v)/\
      ((∃ys,ys=jK d es/\J ys W')\/(∃pre,pre<+:jK d es/\Jx pre W')):=by
  refine callsIn_of_wp func424 rfl hf ?_ hro;simp only[ntmps424,List.size_toArray,List.length_cons,List.length_nil,Nat.reduceAdd,Nat.reduceSub,Array.replicate_succ,Array.replicate_zero,List.push_toArray,List.append_toArray,List.nil_append,List.cons_append];gi_wp2
  gi_loopw [9] (λi wr=>∃k:Nat,k<=es.length/\i= .int .i64 k/\J (jK d (es.take k)) wr/\gT n₀ Bb Bd W wr)
    (λi _=>es.length-(intOf i).toNat)
  case atStart=>exact⟨0,Nat.zero_le _,rfl,h0,gT.refl _⟩
  case round=>
    obtain⟨k,hk,rfl,hJs,hnx⟩:=hrel;by_cases hlt:k<es.length
    · obtain⟨b,off,rfl,hb0,hc⟩:∃b off,A=some ⟨b,off,none⟩/\b<n₀/\∀(k:Nat) (hk:k<es.length) (j:Nat) (u:Value),(jP es[k])[j]? =some u->W.cell? ⟨b,off+k*9+j,none⟩=some u:=by
        rcases hA with rfl|h
        · simp at hlt
        · exact h
      have rd:∀(j:Nat) (u:Value),(jP es[k])[j]? =some u->wr.cell? ⟨b,off+k*9+j,none⟩=some u:=λj u hu=>(hnx.cell (p:=⟨b,off+k*9+j,none⟩) (.inl hb0)).trans (hc k hlt j u hu);have c0:wr.cell? ⟨b,off+k*9,none⟩=some (.int .i64 es[k].index):=rd 0 _ rfl;have c1:wr.cell? ⟨b,off+k*9+1,none⟩=some (.int .i64 es[k].time):=rd 1 _ rfl;have c2:wr.cell? ⟨b,off+k*9+2,none⟩=some (.int .i64 es[k].client):=rd 2 _ rfl;have c3:wr.cell? ⟨b,off+k*9+3,none⟩=some (.int .i64 es[k].seq):=rd 3 _ rfl;have c4:wr.cell? ⟨b,off+k*9+4,none⟩=some (.int .i64 es[k].op.kind):=rd 4 _ rfl;have c5:wr.cell? ⟨b,off+k*9+5,none⟩=some (.int .i64 es[k].op.a):=rd 5 _ rfl;have c6:wr.cell? ⟨b,off+k*9+6,none⟩=some (.int .i64 es[k].op.b):=rd 6 _ rfl;have c7:wr.cell? ⟨b,off+k*9+7,none⟩=some (.int .i64 es[k].op.c):=rd 7 _ rfl;have c8:wr.cell? ⟨b,off+k*9+8,none⟩=some (.int .i64 es[k].op.d):=rd 8 _ rfl;have cd:wr.cell? ⟨Bd,0,none⟩=some (.int .i64 d):=(hnx.cell (p:=⟨Bd,0,none⟩) (.inr (.inr rfl))).trans hBd;clear rd;have hsz:=hnx.1;have cd2:=((gT.alloc (n₀:=n₀) (Bb:=Bb) (Bd:=Bd) wr (.cells #[.int .i64 es[k].index,.int .i64 es[k].time,.int .i64 es[k].client,.int .i64 es[k].seq,.int .i64 es[k].op.kind,.int .i64 es[k].op.a,.int .i64 es[k].op.b,.int .i64 es[k].op.c,.int .i64 es[k].op.d] 308) aa aa aa).cell (p:=⟨Bd,0,none⟩) (.inr (.inr rfl))).trans cd;obtain⟨w2,hw2⟩:∃w2,wr.alloc (.cells #[.int .i64 es[k].index,.int .i64 es[k].time,.int .i64 es[k].client,.int .i64 es[k].seq,.int .i64 es[k].op.kind,.int .i64 es[k].op.a,.int .i64 es[k].op.b,.int .i64 es[k].op.c,.int .i64 es[k].op.d] 308)=w2:=⟨_,rfl⟩;have hJ2:J (jK d (es.take k)) w2:=hw2▸hJ _ _ _ none hJs (World.grownBy_alloc wr _ none) (λr e=>by cases e);have hk2:gT n₀ Bb Bd W w2:=hw2▸hnx.trans (gT.alloc wr _ aa aa aa);have hpl:(jK d (es.take k)).length<es.length:=Nat.lt_of_le_of_lt (List.length_filter_le ..) al;by_cases hge:d<=es[k].index
      · obtain⟨fn,tmps,assign,body,hy,hR⟩:=hY _ es[k] w2 hJ2 hpl;simp only[jP]at hy;subst hw2;gi_wp2
        refine hR.mono ?_;rintro e W3 (⟨rfl,hJ3,hk3⟩|⟨rfl,hJx3⟩)
        · gi_wp2
          go_roundw
          case rel=>exact⟨k+1,aa,by simp,by rw[JB hlt hge];exact hJ3,hk2.trans hk3⟩
          case measure=>simp[intOf];omega
        · gi_wp2
          refine bodyPost_ret (results_none rfl _ _ _) rfl ?_;exact⟨⟨_,rfl⟩,.inr ⟨_,by rw[<-JB hlt hge];exact Qz _,hJx3⟩⟩
      · subst hw2;gi_wp2
        refine⟨λ_ h=>(by cases h),?_⟩;gi_wp2
        go_roundw
        case rel=>exact⟨k+1,aa,by simp,by rw[Sf (d:=d) hlt aa];exact hJ2,hk2⟩
        case measure=>simp[intOf];omega
    · obtain rfl:k=es.length:=aa;gi_wp2
      go_end0
      exact⟨⟨_,rfl⟩,.inl ⟨_,by rw[List.take_length],hJs⟩⟩
end
end
section
open Go.Proofs.Tryz
open Go.ChangeShapes Go.WideShapes Go.RowKit
variable {st:ASt}{op:BinOp}{r:Bool}{ds es:List AD}{k:Nat}{o:Oper}{x y:Operand}{α:Type}{t t2:TypeId}{S:bR}
structure A9 (op:BinOp) (t:TypeId) (ds es:List AD) (r:Bool):Prop where
  guard:∀(x y:Operand) w,(eqGuard op t x y (.agg (ds.map Bh).toArray) (.agg (es.map Bh).toArray)).run Tryz.prog w= .ok () w
  run:∀w,(binOp op t (.agg (ds.map Bh).toArray) (.agg (es.map Bh).toArray)).run Tryz.prog w= .ok (.bool r) w
theorem A9.reads{t2:TypeId}(he:A9 op t ds es r)(hd:ds.all AD.isPv=true)(hd2:es.all AD.isPv=true){S:bR}{Z:Nat->Prop}{ρ:Nat->Value}{st:ASt}{a:Act}{w:World}{o:Oper}{x y:Operand}
    (ho:o.op= .binOp op t x y t2) (hx:aEv st x λv=>v= .agg (ds.map .d)) (hy:aEv st y λv=>v= .agg (es.map .d)) (hs:Sim av.W S Z ρ st a w):∃u,cn Z w ρ (vB r) u/\(execOp a.eval o).run av.P w= .ok (.value u) w:=by
  obtain⟨v,hv,rfl⟩:=bq hs hx;obtain⟨u,hu,rfl⟩:=bq hs hy;have e1:=yD hd hv;have e2:=yD hd2 hu;have h1:=he.guard x y w;have h2:=he.run w;exact⟨.bool r,cU rfl,by simp[execOp,ho,e1,e2,av,h1,h2]⟩
theorem Yb(he:A9 op t ds es r){K:ASt->Prop}(ho:o.op= .binOp op t x y t2)(hx:aEv st x λv=>v= .agg (ds.map .d))(hy:aEv st y λv=>v= .agg (es.map .d))(hd:ds.all AD.isPv=true)(hd2:es.all AD.isPv=true)(hk:eA st o.dst (vB r) K):AOp av S o st K:=
  .reads λZ ρ a w hs=>by
    obtain⟨u,hu,hr⟩:=he.reads hd hd2 ho hx hy hs;exact⟨_,u,hu,hr,hk⟩
theorem Yn(he:A9 op t ds es r){K:AV->Prop}(ho:o.op= .binOp op t x y t2)(hx:aEv st x λv=>v= .agg (ds.map .d))(hy:aEv st y λv=>v= .agg (es.map .d))(hd:ds.all AD.isPv=true)(hd2:es.all AD.isPv=true)(hk:K (vB r)):o7 av o st K:=
  ⟨_,hk,λS Z ρ a w hs=>he.reads hd hd2 ho hx hy hs⟩
theorem wI(w:World)(d:Nat)(a b:Int):(Op.equalIn (d+1) 2 (.int .i64 a) (.int .i64 b)).run Tryz.prog w= .ok (a==b) w:=Qo w d a b
abbrev bn(x:Int):Value:= .int .i64 x
theorem Kt(p q:DMark)(w:World):(binOp .neq 247 (.agg #[bn p.client,bn p.seq,bn p.index]) (.agg #[bn q.client,bn q.seq,bn q.index])).run Tryz.prog w= .ok (.bool (!(p==q))) w:=by
  obtain⟨a0,a1,a2⟩:=p;obtain⟨b0,b1,b2⟩:=q;have h:=run_underlying (w:=w) underlying247;have hs:Tryz.prog.stoodInHeld 247=false:=ac;show(do let x<-Op.equalIn (9999+1) _ _ _;pure (Value.bool !x):Sem Value).run _ _=_;rw[Op.equalIn];have key:∀x y:Int,(Op.equalIn 9999 2 (.int .i64 x) (.int .i64 y)).run Tryz.prog w= .ok (x==y) w:=wI w 9998;simp[h,hs,lg,key];repeat' split
  all_goals simp_all
theorem rD(p q:DMark):A9 .neq 247 p.ds q.ds (!(p==q)):=by
  refine⟨λx y w=>?_,λw=>Kt p q w⟩;have h:Tryz.prog.eqGuardType Tryz.prog.depth 247=false:=ac;simp[eqGuard,h]
theorem MI(p q:DAck)(w:World):(binOp .neq 251 (.agg #[bn p.client,bn p.seq,bn p.index,bn p.last]) (.agg #[bn q.client,bn q.seq,bn q.index,bn q.last])).run Tryz.prog w= .ok (.bool (!(p==q))) w:=by
  obtain⟨a0,a1,a2,a3⟩:=p;obtain⟨b0,b1,b2,b3⟩:=q;have h:=run_underlying (w:=w) underlying251;have hs:Tryz.prog.stoodInHeld 251=false:=ac;show(do let x<-Op.equalIn (9999+1) _ _ _;pure (Value.bool !x):Sem Value).run _ _=_;rw[Op.equalIn];have key:∀x y:Int,(Op.equalIn 9999 2 (.int .i64 x) (.int .i64 y)).run Tryz.prog w= .ok (x==y) w:=wI w 9998;simp[h,hs,lg,key];repeat' split
  all_goals simp_all
theorem zj(p q:DAck):A9 .neq 251 p.ds q.ds (!(p==q)):=by
  refine⟨λx y w=>?_,λw=>MI p q w⟩;have h:Tryz.prog.eqGuardType Tryz.prog.depth 251=false:=ac;simp[eqGuard,h]
theorem Ku(p q:DPair)(w:World):(binOp .neq 320 (.agg #[bn p.key,bn p.value]) (.agg #[bn q.key,bn q.value])).run Tryz.prog w= .ok (.bool (!(p==q))) w:=by
  obtain⟨a0,a1⟩:=p;obtain⟨b0,b1⟩:=q;have h:=run_underlying (w:=w) underlying320;have hs:Tryz.prog.stoodInHeld 320=false:=ac;show(do let x<-Op.equalIn (9999+1) _ _ _;pure (Value.bool !x):Sem Value).run _ _=_;rw[Op.equalIn];have key:∀x y:Int,(Op.equalIn 9999 2 (.int .i64 x) (.int .i64 y)).run Tryz.prog w= .ok (x==y) w:=wI w 9998;simp[h,hs,lg,key];repeat' split
  all_goals simp_all
theorem rE(p q:DPair):A9 .neq 320 p.ds q.ds (!(p==q)):=by
  refine⟨λx y w=>?_,λw=>Ku p q w⟩;have h:Tryz.prog.eqGuardType Tryz.prog.depth 320=false:=ac;simp[eqGuard,h]
theorem MK(p q:DJob)(w:World):(binOp .neq 324 (.agg #[bn p.id,bn p.due,bn p.key,bn p.value,bn p.fired]) (.agg #[bn q.id,bn q.due,bn q.key,bn q.value,bn q.fired])).run Tryz.prog w= .ok (.bool (!(p==q))) w:=by
  obtain⟨a0,a1,a2,a3,a4⟩:=p;obtain⟨b0,b1,b2,b3,b4⟩:=q;have h:=run_underlying (w:=w) underlying324;have hs:Tryz.prog.stoodInHeld 324=false:=ac;show(do let x<-Op.equalIn (9999+1) _ _ _;pure (Value.bool !x):Sem Value).run _ _=_;rw[Op.equalIn];have key:∀x y:Int,(Op.equalIn 9999 2 (.int .i64 x) (.int .i64 y)).run Tryz.prog w= .ok (x==y) w:=wI w 9998;simp[h,hs,lg,key];repeat' split
  all_goals simp_all
theorem vH(p q:DJob):A9 .neq 324 p.ds q.ds (!(p==q)):=by
  refine⟨λx y w=>?_,λw=>MK p q w⟩;have h:Tryz.prog.eqGuardType Tryz.prog.depth 324=false:=ac;simp[eqGuard,h]
theorem MJ(p q:DDue)(w:World):(binOp .neq 365 (.agg #[bn p.id,bn p.due]) (.agg #[bn q.id,bn q.due])).run Tryz.prog w= .ok (.bool (!(p==q))) w:=by
  obtain⟨a0,a1⟩:=p;obtain⟨b0,b1⟩:=q;have h:=run_underlying (w:=w) underlying365;have hs:Tryz.prog.stoodInHeld 365=false:=ac;show(do let x<-Op.equalIn (9999+1) _ _ _;pure (Value.bool !x):Sem Value).run _ _=_;rw[Op.equalIn];have key:∀x y:Int,(Op.equalIn 9999 2 (.int .i64 x) (.int .i64 y)).run Tryz.prog w= .ok (x==y) w:=wI w 9998;simp[h,hs,lg,key];repeat' split
  all_goals simp_all
theorem Gv(p q:DDue):A9 .neq 365 p.ds q.ds (!(p==q)):=by
  refine⟨λx y w=>?_,λw=>MJ p q w⟩;have h:Tryz.prog.eqGuardType Tryz.prog.depth 365=false:=ac;simp[eqGuard,h]
theorem HP(p q:DLease)(w:World):(binOp .eql 83 (.agg #[bn p.holder,bn p.epoch,bn p.til]) (.agg #[bn q.holder,bn q.epoch,bn q.til])).run Tryz.prog w= .ok (.bool (p==q)) w:=by
  obtain⟨a0,a1,a2⟩:=p;obtain⟨b0,b1,b2⟩:=q;have h:=run_underlying (w:=w) underlying83;have hs:Tryz.prog.stoodInHeld 83=false:=ac;show(do let x<-Op.equalIn (9999+1) _ _ _;pure (Value.bool x):Sem Value).run _ _=_;rw[Op.equalIn];have key:∀x y:Int,(Op.equalIn 9999 2 (.int .i64 x) (.int .i64 y)).run Tryz.prog w= .ok (x==y) w:=wI w 9998;simp[h,hs,lg,key];repeat' split
  all_goals simp_all
theorem oH(p q:DLease):A9 .eql 83 p.ds q.ds (p==q):=by
  refine⟨λx y w=>?_,λw=>HP p q w⟩;have h:Tryz.prog.eqGuardType Tryz.prog.depth 83=false:=ac;simp[eqGuard,h]
theorem VY(d:Nat)(p q:DOp)(w:World):(Op.equalIn (d+2) 93 (.agg #[bn p.kind,bn p.a,bn p.b,bn p.c,bn p.d]) (.agg #[bn q.kind,bn q.a,bn q.b,bn q.c,bn q.d])).run Tryz.prog w= .ok (p==q) w:=by
  obtain⟨a0,a1,a2,a3,a4⟩:=p;obtain⟨b0,b1,b2,b3,b4⟩:=q;have h:=run_underlying (w:=w) underlying93;have hs:Tryz.prog.stoodInHeld 93=false:=ac;rw[Op.equalIn];have key:∀x y:Int,(Op.equalIn (d+1) 2 (.int .i64 x) (.int .i64 y)).run Tryz.prog w= .ok (x==y) w:=wI w d;simp[h,hs,lg,key];repeat' split
  all_goals simp_all
theorem OK(p q:DOp)(w:World):(binOp .eql 93 (.agg #[bn p.kind,bn p.a,bn p.b,bn p.c,bn p.d]) (.agg #[bn q.kind,bn q.a,bn q.b,bn q.c,bn q.d])).run Tryz.prog w= .ok (.bool (p==q)) w:=by
  obtain⟨a0,a1,a2,a3,a4⟩:=p;obtain⟨b0,b1,b2,b3,b4⟩:=q;have h:=run_underlying (w:=w) underlying93;have hs:Tryz.prog.stoodInHeld 93=false:=ac;show(do let x<-Op.equalIn (9999+1) _ _ _;pure (Value.bool x):Sem Value).run _ _=_;rw[Op.equalIn];have key:∀x y:Int,(Op.equalIn 9999 2 (.int .i64 x) (.int .i64 y)).run Tryz.prog w= .ok (x==y) w:=wI w 9998;simp[h,hs,lg,key];repeat' split
  all_goals simp_all
theorem pX(p q:DOp):A9 .eql 93 p.ds q.ds (p==q):=by
  refine⟨λx y w=>?_,λw=>OK p q w⟩;have h:Tryz.prog.eqGuardType Tryz.prog.depth 93=false:=ac;simp[eqGuard,h]
theorem Il(p q:DEntry)(w:World):(binOp .neq 308 (.agg #[bn p.index,bn p.time,bn p.client,bn p.seq,bn p.op.kind,bn p.op.a,bn p.op.b,bn p.op.c,bn p.op.d]) (.agg #[bn q.index,bn q.time,bn q.client,bn q.seq,bn q.op.kind,bn q.op.a,bn q.op.b,bn q.op.c,bn q.op.d])).run Tryz.prog w= .ok (.bool (!(p==q))) w:=by
  obtain⟨a0,a1,a2,a3,a4⟩:=p;obtain⟨b0,b1,b2,b3,b4⟩:=q;have h:=run_underlying (w:=w) underlying308;have hs:Tryz.prog.stoodInHeld 308=false:=ac;have kop:∀o o':DOp,(Op.equalIn 9999 93 (.agg #[bn o.kind,bn o.a,bn o.b,bn o.c,bn o.d]) (.agg #[bn o'.kind,bn o'.a,bn o'.b,bn o'.c,bn o'.d])).run Tryz.prog w= .ok (o==o') w:=λo o'=>VY 9997 o o' w;have po:∀(xs:Array Value) (o:DOp),xs.extract 4 9= #[bn o.kind,bn o.a,bn o.b,bn o.c,bn o.d]->(part 93 xs 4).run Tryz.prog w= .ok (.agg #[bn o.kind,bn o.a,bn o.b,bn o.c,bn o.d]) w:=λxs o h=>by
    simp[part,isAgg93,sizeOf93,h]
  show(do let x<-Op.equalIn (9999+1) _ _ _;pure (Value.bool !x):Sem Value).run _ _=_;rw[Op.equalIn];have key:∀x y:Int,(Op.equalIn 9999 2 (.int .i64 x) (.int .i64 y)).run Tryz.prog w= .ok (x==y) w:=wI w 9998;have p1:=po #[bn a0,bn a1,bn a2,bn a3,bn a4.kind,bn a4.a,bn a4.b,bn a4.c,bn a4.d] a4 rfl;have p2:=po #[bn b0,bn b1,bn b2,bn b3,bn b4.kind,bn b4.a,bn b4.b,bn b4.c,bn b4.d] b4 rfl;simp[h,hs,lg,key,kop,p1,p2];repeat' split
  all_goals simp_all
theorem An(p q:DEntry):A9 .neq 308 p.ds q.ds (!(p==q)):=by
  refine⟨λx y w=>?_,λw=>Il p q w⟩;have h:Tryz.prog.eqGuardType Tryz.prog.depth 308=false:=ac;simp[eqGuard,h]
def aU:List (List Nat):=cz [0,0,66,12417,0,0,326,29061,17663105454471]
def aR:List (List Nat):=eK 8 [6486,6482,6484,6493,566,242,404,1133]
theorem m0[DecidableEq α]{a b:List α}(h:¬a.length=b.length):decide (a=b)=false:=decide_eq_false λe=>h (by rw[e])
theorem sv[DecidableEq α]{a b:List α}(h1:k<a.length)(h2:k<b.length)(h:a[k]≠b[k]):decide (a=b)=false:=decide_eq_false λe=>h (by subst e;rfl)
theorem mY[DecidableEq α]{a b:List α}(hl:a.length=b.length)(h:∀(j:Nat) (h1:j<a.length) (h2:j<b.length),a[j]=b[j]):decide (a=b)=true:=decide_eq_true (List.ext_getElem hl h)
theorem j3{a b:List α}(h:∀(j:Nat) (hj:j<k) (h1:j<a.length) (h2:j<b.length),a[j]=b[j])(hk:∀(h1:k<a.length) (h2:k<b.length),a[k]=b[k]):∀(j:Nat) (hj:j<k+1) (h1:j<a.length) (h2:j<b.length),a[j]=b[j]:=by
  intro j hj h1 h2;by_cases hjk:j=k
  · subst hjk;exact hk h1 h2
  · exact h j aa h1 h2
theorem Ei(a b:List DMark)(ha:a.length<=9223372036854775806):aL av 377 [.one (.sl (a.map DMark.ds)),.one (.sl (b.map DMark.ds))] (rB (decide (a=b))):=by
  refine pO func377 call377 ntmps377 results377 λS=>?_;conv=>whnf
  repeat'(first|refine awz ?_|refine tB ?_ ?_|(intro h;conv=>whnf))
  · rw[m0 an]
  · have hlen:a.length=b.length:=an;clear h;refine XA (λk:Nat=>k<=a.length/\∀(j:Nat) (hj:j<k) (h1:j<a.length) (h2:j<b.length),a[j]=b[j]) (4::5::rg 13 13) (λk=>[(13,vI .i64 (k:Int))]) (λ_=>[]) (λk=>a.length-k) 0 ⟨aa,aa⟩ ?_ Xv (λk hR=>?_)<;>(conv=>whnf)
    · exact whd
    · obtain⟨hk,hall⟩:=hR;repeat'((first|refine awz ?_|refine XB aM 6 8 aU aR ac ac ac rfl ?_|refine XI ari (λhlt=>?_)|refine Xz ari ari ?_|refine Yb (rD _ _) rfl rfl rfl rfl rfl ?_|refine tB ?_ ?_|intro h)<;>conv=>whnf)
      all_goals first
        |(rw[sv (k:=k) ari ari ao];done)
        | (refine aT.mk ⟨k + 1, ⟨ari, j3 hall fun h1 h2 => by simpa using h⟩, ari, ?_, Xv⟩
           exact hds)
        | (have hkk : k = a.length := ari
           rw[mY hlen λj h1 h2=>hall j aa h1 h2])
theorem vZ(a b:List DAck)(ha:a.length<=9223372036854775806):aL av 328 [.one (.sl (a.map DAck.ds)),.one (.sl (b.map DAck.ds))] (rB (decide (a=b))):=by
  refine pO func328 call328 ntmps328 results328 λS=>?_;conv=>whnf
  repeat'(first|refine awz ?_|refine tB ?_ ?_|(intro h;conv=>whnf))
  · rw[m0 an]
  · have hlen:a.length=b.length:=an;clear h;refine XA (λk:Nat=>k<=a.length/\∀(j:Nat) (hj:j<k) (h1:j<a.length) (h2:j<b.length),a[j]=b[j]) (4::5::rg 13 13) (λk=>[(13,vI .i64 (k:Int))]) (λ_=>[]) (λk=>a.length-k) 0 ⟨aa,aa⟩ ?_ Xv (λk hR=>?_)<;>(conv=>whnf)
    · exact whd
    · obtain⟨hk,hall⟩:=hR;repeat'((first|refine awz ?_|refine XB aM 6 8 aU aR ac ac ac rfl ?_|refine XI ari (λhlt=>?_)|refine Xz ari ari ?_|refine Yb (zj _ _) rfl rfl rfl rfl rfl ?_|refine tB ?_ ?_|intro h)<;>conv=>whnf)
      all_goals first
        |(rw[sv (k:=k) ari ari ao];done)
        | (refine aT.mk ⟨k + 1, ⟨ari, j3 hall fun h1 h2 => by simpa using h⟩, ari, ?_, Xv⟩
           exact hds)
        | (have hkk : k = a.length := ari
           rw[mY hlen λj h1 h2=>hall j aa h1 h2])
theorem A6(a b:List DEntry)(ha:a.length<=9223372036854775806):aL av 386 [.one (.sl (a.map DEntry.ds)),.one (.sl (b.map DEntry.ds))] (rB (decide (a=b))):=by
  refine pO func386 call386 ntmps386 results386 λS=>?_;conv=>whnf
  repeat'(first|refine awz ?_|refine tB ?_ ?_|(intro h;conv=>whnf))
  · rw[m0 an]
  · have hlen:a.length=b.length:=an;clear h;refine XA (λk:Nat=>k<=a.length/\∀(j:Nat) (hj:j<k) (h1:j<a.length) (h2:j<b.length),a[j]=b[j]) (4::5::rg 13 13) (λk=>[(13,vI .i64 (k:Int))]) (λ_=>[]) (λk=>a.length-k) 0 ⟨aa,aa⟩ ?_ Xv (λk hR=>?_)<;>(conv=>whnf)
    · exact whd
    · obtain⟨hk,hall⟩:=hR;repeat'((first|refine awz ?_|refine XB aM 6 8 aU aR ac ac ac rfl ?_|refine XI ari (λhlt=>?_)|refine Xz ari ari ?_|refine Yb (An _ _) rfl rfl rfl rfl rfl ?_|refine tB ?_ ?_|intro h)<;>conv=>whnf)
      all_goals first
        |(rw[sv (k:=k) ari ari ao];done)
        | (refine aT.mk ⟨k + 1, ⟨ari, j3 hall fun h1 h2 => by simpa using h⟩, ari, ?_, Xv⟩
           exact hds)
        | (have hkk : k = a.length := ari
           rw[mY hlen λj h1 h2=>hall j aa h1 h2])
theorem Ej(a b:List DPair)(ha:a.length<=9223372036854775806):aL av 390 [.one (.sl (a.map DPair.ds)),.one (.sl (b.map DPair.ds))] (rB (decide (a=b))):=by
  refine pO func390 call390 ntmps390 results390 λS=>?_;conv=>whnf
  repeat'(first|refine awz ?_|refine tB ?_ ?_|(intro h;conv=>whnf))
  · rw[m0 an]
  · have hlen:a.length=b.length:=an;clear h;refine XA (λk:Nat=>k<=a.length/\∀(j:Nat) (hj:j<k) (h1:j<a.length) (h2:j<b.length),a[j]=b[j]) (4::5::rg 13 13) (λk=>[(13,vI .i64 (k:Int))]) (λ_=>[]) (λk=>a.length-k) 0 ⟨aa,aa⟩ ?_ Xv (λk hR=>?_)<;>(conv=>whnf)
    · exact whd
    · obtain⟨hk,hall⟩:=hR;repeat'((first|refine awz ?_|refine XB aM 6 8 aU aR ac ac ac rfl ?_|refine XI ari (λhlt=>?_)|refine Xz ari ari ?_|refine Yb (rE _ _) rfl rfl rfl rfl rfl ?_|refine tB ?_ ?_|intro h)<;>conv=>whnf)
      all_goals first
        |(rw[sv (k:=k) ari ari ao];done)
        | (refine aT.mk ⟨k + 1, ⟨ari, j3 hall fun h1 h2 => by simpa using h⟩, ari, ?_, Xv⟩
           exact hds)
        | (have hkk : k = a.length := ari
           rw[mY hlen λj h1 h2=>hall j aa h1 h2])
theorem GU(a b:List DJob)(ha:a.length<=9223372036854775806):aL av 391 [.one (.sl (a.map DJob.ds)),.one (.sl (b.map DJob.ds))] (rB (decide (a=b))):=by
  refine pO func391 call391 ntmps391 results391 λS=>?_;conv=>whnf
  repeat'(first|refine awz ?_|refine tB ?_ ?_|(intro h;conv=>whnf))
  · rw[m0 an]
  · have hlen:a.length=b.length:=an;clear h;refine XA (λk:Nat=>k<=a.length/\∀(j:Nat) (hj:j<k) (h1:j<a.length) (h2:j<b.length),a[j]=b[j]) (4::5::rg 13 13) (λk=>[(13,vI .i64 (k:Int))]) (λ_=>[]) (λk=>a.length-k) 0 ⟨aa,aa⟩ ?_ Xv (λk hR=>?_)<;>(conv=>whnf)
    · exact whd
    · obtain⟨hk,hall⟩:=hR;repeat'((first|refine awz ?_|refine XB aM 6 8 aU aR ac ac ac rfl ?_|refine XI ari (λhlt=>?_)|refine Xz ari ari ?_|refine Yb (vH _ _) rfl rfl rfl rfl rfl ?_|refine tB ?_ ?_|intro h)<;>conv=>whnf)
      all_goals first
        |(rw[sv (k:=k) ari ari ao];done)
        | (refine aT.mk ⟨k + 1, ⟨ari, j3 hall fun h1 h2 => by simpa using h⟩, ari, ?_, Xv⟩
           exact hds)
        | (have hkk : k = a.length := ari
           rw[mY hlen λj h1 h2=>hall j aa h1 h2])
theorem GS(a b:List DDue)(ha:a.length<=9223372036854775806):aL av 423 [.one (.sl (a.map DDue.ds)),.one (.sl (b.map DDue.ds))] (rB (decide (a=b))):=by
  refine pO func423 call423 ntmps423 results423 λS=>?_;conv=>whnf
  repeat'(first|refine awz ?_|refine tB ?_ ?_|(intro h;conv=>whnf))
  · rw[m0 an]
  · have hlen:a.length=b.length:=an;clear h;refine XA (λk:Nat=>k<=a.length/\∀(j:Nat) (hj:j<k) (h1:j<a.length) (h2:j<b.length),a[j]=b[j]) (4::5::rg 13 13) (λk=>[(13,vI .i64 (k:Int))]) (λ_=>[]) (λk=>a.length-k) 0 ⟨aa,aa⟩ ?_ Xv (λk hR=>?_)<;>(conv=>whnf)
    · exact whd
    · obtain⟨hk,hall⟩:=hR;repeat'((first|refine awz ?_|refine XB aM 6 8 aU aR ac ac ac rfl ?_|refine XI ari (λhlt=>?_)|refine Xz ari ari ?_|refine Yb (Gv _ _) rfl rfl rfl rfl rfl ?_|refine tB ?_ ?_|intro h)<;>conv=>whnf)
      all_goals first
        |(rw[sv (k:=k) ari ari ao];done)
        | (refine aT.mk ⟨k + 1, ⟨ari, j3 hall fun h1 h2 => by simpa using h⟩, ari, ?_, Xv⟩
           exact hds)
        | (have hkk : k = a.length := ari
           rw[mY hlen λj h1 h2=>hall j aa h1 h2])
theorem GT(a b:List Int)(ha:a.length<=9223372036854775806):aL av 425 [.one (.sl (a.map eI)),.one (.sl (b.map eI))] (rB (decide (a=b))):=by
  refine pO func425 call425 ntmps425 results425 λS=>?_;conv=>whnf
  repeat'(first|refine awz ?_|refine tB ?_ ?_|(intro h;conv=>whnf))
  · rw[m0 an]
  · have hlen:a.length=b.length:=an;clear h;refine XA (λk:Nat=>k<=a.length/\∀(j:Nat) (hj:j<k) (h1:j<a.length) (h2:j<b.length),a[j]=b[j]) (4::5::rg 13 13) (λk=>[(13,vI .i64 (k:Int))]) (λ_=>[]) (λk=>a.length-k) 0 ⟨aa,aa⟩ ?_ Xv (λk hR=>?_)<;>(conv=>whnf)
    · exact whd
    · obtain⟨hk,hall⟩:=hR;repeat'((first|refine awz ?_|refine XB aM 6 8 aU aR ac ac ac rfl ?_|refine XI ari (λhlt=>?_)|refine Xz ari ari ?_|refine tB ?_ ?_|intro h)<;>conv=>whnf)
      all_goals first
        |(rw[sv (k:=k) ari ari ao];done)
        | (refine aT.mk ⟨k + 1, ⟨ari, j3 hall fun h1 h2 => by simpa using h⟩, ari, ?_, Xv⟩
           exact hds)
        | (have hkk : k = a.length := ari
           rw[mY hlen λj h1 h2=>hall j aa h1 h2])
theorem oZ(a b:List DMark)(ha:a.length<=9223372036854775806):aL av 217 [.one (.sl (a.map DMark.ds)),.one (.sl (b.map DMark.ds))] (rB (decide (a=b))):=by
  refine pO func217 call217 ntmps217 results217 λS=>?_;conv=>whnf
  repeat'(first|refine awz ?_|refine tB ?_ ?_|(intro h;conv=>whnf))
  · rw[m0 an]
  · have hlen:a.length=b.length:=an;clear h;refine XA (λk:Nat=>k<=a.length/\∀(j:Nat) (hj:j<k) (h1:j<a.length) (h2:j<b.length),a[j]=b[j]) (4::5::rg 11 15) (λk=>[(5,vI .i64 (k:Int))]) (λ_=>[]) (λk=>a.length-k) 0 ⟨aa,aa⟩ ?_ Xv (λk hR=>?_)<;>(conv=>whnf)
    · exact whd
    · obtain⟨hk,hall⟩:=hR;repeat'((first|refine awz ?_|refine XB aM 6 8 aU aR ac ac ac rfl ?_|refine XI ari (λhlt=>?_)|refine Xz ari ari ?_|refine Yb (rD _ _) rfl rfl rfl rfl rfl ?_|refine tB ?_ ?_|intro h)<;>conv=>whnf)
      all_goals first
        |(rw[sv (k:=k) ari ari ao];done)
        | (refine aT.mk ⟨k + 1, ⟨ari, j3 hall fun h1 h2 => by simpa using h⟩, ari, ?_, Xv⟩
           exact hds)
        | (have hkk : k = a.length := ari
           rw[mY hlen λj h1 h2=>hall j aa h1 h2])
theorem io(a b:List DMark)(ha:a.length<=9223372036854775806):aL av 326 [.one (.sl (a.map DMark.ds)),.one (.sl (b.map DMark.ds))] (rB (decide (a=b))):=by
  refine pO func326 call326 ntmps326 results326 λS=>?_;conv=>whnf
  repeat'(first|refine awz ?_|(refine cP (Ei a b ha) ?_;conv=>whnf)|exact rr|fail)
theorem lU(a b:List Int)(ha:a.length<=9223372036854775806):aL av 383 [.one (dIs a),.one (dIs b)] (rB (decide (a=b))):=by
  refine pO func383 call383 ntmps383 results383 λS=>?_;conv=>whnf
  repeat'(first|refine awz ?_|(refine cP (GT a b ha) ?_;conv=>whnf)|exact rr|fail)
theorem yj(x y:DWrite)(hx:x.row.length<=9223372036854775806):aL av 385 [.agg x.ds,.agg y.ds] (rB (decide (x=y))):=by
  obtain⟨a,r⟩:=x;obtain⟨b,q⟩:=y;refine pO func385 call385 ntmps385 results385 λS=>?_;conv=>whnf
  repeat'((first|refine awz ?_|refine cP (lU r q hx) ?_|refine tB ?_ ?_|intro h)<;>conv=>whnf)
  all_goals
    refine congrArg (λb=>AP.val (AP1.one (dB b))) ?_;simp_all[DWrite.mk.injEq]
theorem Ek(a b:List (List Int))(ha:a.length<=9223372036854775806)(hr:∀y∈a,y.length<=9223372036854775806):aL av 382 [.one (.sl (a.map bD)),.one (.sl (b.map bD)),.one (.pv (.func (.func 383) #[] #[]))] (rB (decide (a=b))):=by
  refine pO func382 call382 ntmps382 results382 λS=>?_;conv=>whnf
  repeat'(first|refine awz ?_|refine tB ?_ ?_|(intro h;conv=>whnf))
  · rw[m0 an]
  · have hlen:a.length=b.length:=an;clear h;refine XA (λk:Nat=>k<=a.length/\∀(j:Nat) (hj:j<k) (h1:j<a.length) (h2:j<b.length),a[j]=b[j]) (6::7::8::9::rg 17 15) (λk=>[(17,vI .i64 (k:Int))]) (λ_=>[]) (λk=>a.length-k) 0 ⟨aa,aa⟩ ?_ Xv (λk hR=>?_)<;>(conv=>whnf)
    · exact whd
    · obtain⟨hk,hall⟩:=hR;repeat'((first|refine awz ?_|refine XI ari (λhlt=>?_)|refine Xz ari ari ?_|refine cP (lU _ _ (hr _ (List.getElem_mem ari))) ?_|refine tB ?_ ?_|intro h)<;>conv=>whnf)
      all_goals first
        |(rw[sv (k:=k) ari ari ao];done)
        | (refine aT.mk ⟨k + 1, ⟨ari, j3 hall fun h1 h2 => by simpa using h⟩, ari, ?_, Xv⟩
           exact hds)
        | (have hkk : k = a.length := ari
           rw[mY hlen λj h1 h2=>hall j aa h1 h2])
theorem yQ(a b:List (DWrite))(ha:a.length<=9223372036854775806)(hr:∀y∈a,y.row.length<=9223372036854775806):aL av 384 [.one (.sl (a.map DWrite.ds)),.one (.sl (b.map DWrite.ds)),.one (.pv (.func (.func 385) #[] #[]))] (rB (decide (a=b))):=by
  refine pO func384 call384 ntmps384 results384 λS=>?_;conv=>whnf
  repeat'(first|refine awz ?_|refine tB ?_ ?_|(intro h;conv=>whnf))
  · rw[m0 an]
  · have hlen:a.length=b.length:=an;clear h;refine XA (λk:Nat=>k<=a.length/\∀(j:Nat) (hj:j<k) (h1:j<a.length) (h2:j<b.length),a[j]=b[j]) (6::7::8::9::rg 17 15) (λk=>[(17,vI .i64 (k:Int))]) (λ_=>[]) (λk=>a.length-k) 0 ⟨aa,aa⟩ ?_ Xv (λk hR=>?_)<;>(conv=>whnf)
    · exact whd
    · obtain⟨hk,hall⟩:=hR;repeat'((first|refine awz ?_|refine XI ari (λhlt=>?_)|refine Xz ari ari ?_|refine cP (yj _ _ (hr _ (List.getElem_mem ari))) ?_|refine tB ?_ ?_|intro h)<;>conv=>whnf)
      all_goals first
        |(rw[sv (k:=k) ari ari ao];done)
        | (refine aT.mk ⟨k + 1, ⟨ari, j3 hall fun h1 h2 => by simpa using h⟩, ari, ?_, Xv⟩
           exact hds)
        | (have hkk : k = a.length := ari
           rw[mY hlen λj h1 h2=>hall j aa h1 h2])
end
section
section
open Go.Proofs.Tryz
open Go.ChangeShapes Go.WideShapes Go.RowKit
def t9:List (List Nat):=cz [0,1,129,12354,12354,1318979,4328796549,486506500228,35461415067975,12354,2629699,0x91c51830421082ca,0xc108c28b2041851c9]
def uh:List (List Nat):=eK 11 [0,1,4,158125,157531,157612,157828,158557,160744,19669,39352]
theorem oL{n:Int}(h1: -9223372036854775808<=n)(h2:n<=9223372036854775807):(Lit.int .i64 n).wf=true:=by
  simp[Lit.wf,IntKind.min,IntKind.max,IntKind.signed,IntKind.bits];omega
theorem Ez{n lo hi:Int}(h:(!aJ n lo hi)=false)(h1: -9223372036854775808<=lo)(h2:hi<=9223372036854775807):(Lit.int .i64 n).wf=true:=by
  have:aJ n lo hi=true:=by simpa using h
  simp only[aJ,and_eq_true,decide_eq_true_eq]at this;exact oL aa aa
theorem LE(w:World):(zeroValue 4).run Tryz.prog w= .ok (.bool false) w:=by kernel_rfl
def lJ(l:List Int)(x:Int):Option Value:=if x∈l then some (.bool true)else none
theorem PG:lJ []=λ_=>none:=by funext x;simp[lJ]
theorem Nf(l:List Int)(n:Int):tC (lJ l) n (some (.bool true))=lJ (l++[n]):=by
  funext x;unfold tC lJ;by_cases h:x=n
  · simp[h]
  · simp[h]
theorem He(l:List Int)(n:Int):(lJ l n).getD (.bool false)= .bool (decide (n∈l)):=by
  unfold lJ;by_cases h:n∈l<;>simp[h]
section
variable {S:bR} {o:Oper} {st:ASt} {K:ASt->Prop}
theorem YN{t:TypeId}{d:Tmp}(ho:o.op= .makeMap t none)(hd:o.dst=some d)(hk:v8 st d (iV Tryz.prog 2 0 (lJ [])) λst=>eA st (some d) (.one (.own d)) K):AOp av S o st K:=
  AOp.makeMap 2 ho hd (by rw[PG]at hk;exact hk)
theorem YM{x i:Operand}{id:Nat}{n:Int}{N:Nat}{l:List Int}(ho:o.op= .lookup 403 x i false)(hx:aEv st x λv=>v= .one (.own id))(hi:aEv st i λv=>v=vI .i64 n)(hob:aOb st.ob id λo=>o=iV Tryz.prog 2 N (lJ l))(hn:(Lit.int .i64 n).wf=true)
    (hK:eA st o.dst (vB (decide (n∈l))) K):AOp av S o st K:=
  Zr (E:=av) ho underlying403 underlying2 LE hx hi hob hn (vB (decide (n∈l))) (λZ w ρ=>by rw[He];exact cU rfl) hK
theorem Y2{K:AV->Prop}{x i:Operand}{id:Nat}{n:Int}{N:Nat}{l:List Int}(ho:o.op= .lookup 403 x i false)(hx:aEv st x λv=>v= .one (.own id))(hi:aEv st i λv=>v=vI .i64 n)(hob:aOb st.ob id λo=>o=iV Tryz.prog 2 N (lJ l))(hn:(Lit.int .i64 n).wf=true)
    (hK:K (vB (decide (n∈l)))):o7 av o st K:=
  aak (E:=av) ho underlying403 underlying2 LE hx hi hob hn (vB (decide (n∈l))) (λZ w ρ=>by rw[He];exact cU rfl) hK
theorem YY{x i:Operand}{id:Nat}{n:Int}{N:Nat}{l:List Int}(ho:o.op= .mapUpdate 403 x i (.const (.bool true)))(hN:N<9223372036854775807)(hx:aEv st x λv=>v= .one (.own id))(hi:aEv st i λv=>v=vI .i64 n)(hob:aOb st.ob id λo=>o=iV Tryz.prog 2 N (lJ l))(hn:(Lit.int .i64 n).wf=true)
    (hK:fW id (iV Tryz.prog 2 (N+1) (lJ (l++[n]))) st.ob λob=>eA ⟨st.tm,ob⟩ o.dst (.one .und) K):AOp av S o st K:=by
  refine Zt (E:=av) (u:= .bool true) ho underlying403 underlying2 hN hx hi hob hn (show∀Z w ρ y,cn Z w ρ (vB true) y->y= .bool true from λZ w ρ y h=>cM h) ?_;rw[Nf];exact hK
end
theorem Rv{s:List DMark}{k:Nat}(hlt:k<s.length):((s.take k).map (·.index))++[s[k].index]=(s.take (k+1)).map (·.index):=(eE (λm:DMark=>m.index) hlt).symm
theorem yL{s:List DMark}{k:Nat}(hk:k<s.length)(h:cK fj j7 s k hk=false):cA s=false:=by
  have:=pM hk h;simp only[cA,this,Bool.false_and]
theorem D8{s:List DMark}{j k:Nat}(hj:j<k)(hk:k<s.length)(h:(s[j]'(aa)).index=s[k].index):cA s=false:=by
  have:=tQ (R:=rx) hj hk (by simp[rx,h]);simp only[cA,this,Bool.and_false]
theorem K8{s:List DMark}{k:Nat}(hk:k<s.length)(h:decide (s[k].index∈(s.take k).map (·.index))=true):cA s=false:=by
  obtain⟨m,hm,e⟩:=mem_map.1 (of_decide_eq_true h);obtain⟨j,hj,rfl⟩:=getElem_of_mem hm;simp at hj e;exact D8 (j:=j) aa hk e
theorem D9{s:List DMark}(h:∀(j:Nat) (hl:j<s.length),cK fj j7 s j hl=true)(hd:∀(i j:Nat) (hi:i<j) (hl:j<s.length),(s[i]'(aa)).index≠s[j].index):cA s=true:=by
  have h1:=FJ h;have h2:=qS (R:=rx) (l:=s) λi j hi hl=>by simpa[rx]using hd i j hi hl
  simp only[cA,h1,h2,Bool.and_self]
theorem Tn{s:List DMark}{k:Nat}(hk:k<s.length)(h:decide (s[k].index∈(s.take k).map (·.index))=false){i:Nat}(hi:i<k):(s[i]'(aa)).index≠s[k].index:=by
  have:=of_decide_eq_false h;intro e;refine this (mem_map.2 ⟨s[i],?_,e⟩);rw[List.mem_take_iff_getElem];exact⟨i,aa,rfl⟩
theorem Lh{s:List DMark}{k:Nat}(hlt:k<s.length)(hd:∀(i j:Nat) (hi:i<j) (hj:j<k) (hl:j<s.length),(s[i]'(aa)).index≠s[j].index)(h:∀(i:Nat) (hi:i<k),(s[i]'(aa)).index≠s[k].index):∀(i j:Nat) (hi:i<j) (hj:j<k+1) (hl:j<s.length),(s[i]'(aa)).index≠s[j].index:=by
  intro i j hi hj hl;by_cases hjk:j=k
  · subst hjk;exact h i hi
  · exact hd i j hi aa hl
theorem em{s:List DMark}(h:cA s=true):s.length<=4:=by
  simp only[cA,and_eq_true]at h;obtain⟨⟨h1,h2⟩,_⟩:=h;have key:∀(j:Nat) (hj:j<s.length),(2:Int)+j<=s[j].client:=by
    intro j;induction j with
    |zero=>
      intro hj;have:=vm h1 hj;simp only[fj,aJ,and_eq_true,decide_eq_true_eq]at this;omega
    |succ j ih=>
      intro hj;have:=nW h2 hj;simp only[j7,decide_eq_true_eq]at this;have:=ih aa;omega
  rcases Nat.lt_or_ge 4 s.length with hl|hl
  · have h5:=key 4 hl;have:=vm h1 hl;simp only[fj,aJ,and_eq_true,decide_eq_true_eq]at this;omega
  · exact hl
theorem lV(s:List DMark)(hs:s.length<=9223372036854775806):aL av 347 [.one (.sl (s.map DMark.ds))] (rB (cA s)):=by
  refine pO func347 call347 ntmps347 results347 λS=>?_;conv=>whnf
  repeat'(first|refine awz ?_|(refine YN rfl rfl ?_;conv=>whnf)|fail)
  refine XA (λk:Nat=>k<=s.length/\(∀(j:Nat) (hj:j<k) (hl:j<s.length),cK fj j7 s j hl=true)/\∀(i j:Nat) (hi:i<j) (hj:j<k) (hl:j<s.length),(s[i]'(aa)).index≠s[j].index) (2::4::5::rg 9 44) (λk=>[(9,vI .i64 (k:Int))]) (λk=>[(6,iV Tryz.prog 2 k (lJ ((s.take k).map (·.index))))]) (λk=>s.length-k) 0 ⟨aa,aa,aa⟩ ?_ sbW (λk hR=>?_)<;>(conv=>whnf)
  · exact whd
  · obtain⟨hk,hall,hdup⟩:=hR;repeat'((first|refine awz ?_|refine XB aM 7 11 t9 uh ac ac ac rfl ?_|refine XI ari (λhlt=>?_)|refine Yj ari ari (λhpv=>?_)|refine Xz (n:=_-_) ari ari ?_|refine Xz ari ari ?_|refine cP (rb _) ?_|refine cP (yl _) ?_|refine cP (ri _) ?_|refine YM (id:=6) (N:=k) rfl rfl rfl rfl (Ez aj ae ae) ?_|refine YY (id:=6) (N:=k) rfl aa rfl rfl rfl (Ez aj ae ae) ?_|refine tB ?_ ?_|intro h)<;>conv=>whnf)
    all_goals first
      |(rw[yL hlt (by first|(refine ch _ ?_;simp_all[fj];done)|(rw[br _ ari];simp_all[fj,j7];done)|(rw[bw _ ari];simp_all[fj];done))];done)
      |(rw[K8 hlt aj];done)
      | (refine aT.mk ⟨k + 1, ⟨hlt, fL hall hlt (by first | (refine ch _ ?_; simp_all [fj]; done) | (rw [br _ ari]; simp_all [fj, j7]; done) | (rw [bw _ ari]; simp_all [fj]; done)), Lh hlt hdup fun i hi => Tn hlt aj hi⟩,aa, ?_, Xu (congrArg some (congrArg (fun l => iV Tryz.prog 2 (k + 1) (lJ l)) (Rv hlt))) Xv⟩
         exact hds)
      | (refine bM ?_
         have hkk:k=s.length:=ari;rw[D9 (λj hl=>hall j aa hl) (λi j hi hl=>hdup i j hi aa hl)])
end
section
open Go.Proofs.Tryz
open Go.ChangeShapes Go.WideShapes Go.RowKit
def nn(s:List DMark):Prop:=s.Pairwise λx y=>x.client<y.client
theorem Cs:∀{s:List DMark},kE j7 s=true->nn s
  |[],_=>List.Pairwise.nil
  |[x],_=>List.pairwise_singleton _ _
  |x::y::r,h=>by
    simp only[kE,and_eq_true]at h;have ih:=Cs (s:=y::r) h.2;have hxy:x.client<y.client:=by simpa[j7]using h.1
    refine pairwise_cons.2 ⟨λz hz=>?_,ih⟩;rcases mem_cons.1 hz with rfl|hz
    · exact hxy
    · have:=(pairwise_cons.1 ih).1 z hz;omega
theorem Eo:∀{s:List DMark},nn s->kE j7 s=true
  |[],_=>rfl
  |[x],_=>rfl
  |x::y::r,h=>by
    have h1:=pairwise_cons.1 h;simp only[kE,and_eq_true];exact⟨by simpa[j7]using h1.1 y ah,Eo h1.2⟩
theorem kC{s:List DMark}(h:cA s=true):nn s:=by
  simp only[cA,and_eq_true]at h;exact Cs h.1.2
theorem vU{s:List DMark}(h:cA s=true){m:DMark}(hm:m∈s):fj m=true:=by
  simp only[cA,and_eq_true]at h;exact all_eq_true.1 h.1.1 m hm
theorem xV{s:List DMark}{c:Int}(h:∀m∈s,c<=m.client):s.filter (λx=>decide (x.client<c))=[]:=by
  rw[List.filter_eq_nil_iff];intro m hm;have:=h m hm;simp;omega
theorem y9{c:Int}:∀{s:List DMark},nn s->s.filter (λx=>decide (x.client<c+1))=s.filter (λx=>decide (x.client<c))++(s.find? λx=>x.client==c).toList
  |[],_=>rfl
  |x::r,h=>by
    obtain⟨h1,h2⟩:=pairwise_cons.1 h;have ih:=y9 (c:=c) h2;rcases Int.lt_trichotomy x.client c with hx|hx|hx
    · have e1:decide (x.client<c+1)=true:=al;have e2:decide (x.client<c)=true:=al;have e3:(x.client==c)=false:=al;simp only[filter_cons,e1,e2,if_true,find?_cons,e3,ih,List.cons_append]
    · have e1:decide (x.client<c+1)=true:=al;have e2:decide (x.client<c)=false:=al;have e3:(x.client==c)=true:=al;simp only[filter_cons,e1,e2,if_true,find?_cons,e3];rw[xV (λm hm=>by have:=h1 m hm;omega),xV (λm hm=>by have:=h1 m hm;omega)];rfl
    · have e1:decide (x.client<c+1)=false:=al;have e2:decide (x.client<c)=false:=al;have e3:(x.client==c)=false:=al;simp only[filter_cons,e1,e2,find?_cons,e3,ih];rfl
theorem xU{s:List DMark}(h:cA s=true):s.filter (λx=>decide (x.client<6))=s:=by
  rw[List.filter_eq_self];intro m hm;have:=vU h hm;simp only[fj,aJ,and_eq_true,decide_eq_true_eq]at this;simp;omega
theorem FU{s:List DMark}(h:cA s=true):s.filter (λx=>decide (x.client<2))=[]:=xV λm hm=>by
  have:=vU h hm;simp only[fj,aJ,and_eq_true,decide_eq_true_eq]at this;omega
theorem MP{s:List DMark}(h:nn s)(m:DMark):nn (putMark s m):=by
  unfold putMark nn;rw[List.pairwise_append];refine⟨h.sublist filter_sublist,pairwise_cons.2 ⟨λz hz=>?_,h.sublist filter_sublist⟩,λa ha b hb=>?_⟩
  · have:=(mem_filter.1 hz).2;simpa using this
  · have h1:=(mem_filter.1 ha).2;simp only[decide_eq_true_eq]at h1;rcases mem_cons.1 hb with rfl|hb
    · exact h1
    · have:=(mem_filter.1 hb).2;simp only[decide_eq_true_eq]at this;omega
theorem NO{s:List DMark}{m x:DMark}(h:x∈putMark s m):x=m\/x∈s:=by
  unfold putMark at h;rcases List.mem_append.1 h with h|h
  · exact .inr (mem_filter.1 h).1
  · rcases mem_cons.1 h with h|h
    · exact .inl h
    · exact .inr (mem_filter.1 h).1
theorem vq{α:Type}(p q:α->Bool):∀l:List α,(l.filter p).find? q=l.find? λa=>p a&&q a
  |[]=>rfl
  |x::r=>by
    rw[filter_cons,find?_cons];cases hp:p x with
    |true=>
      simp only[if_true,find?_cons,Bool.true_and];cases q x with
      |true=>rfl
      |false=>exact vq p q r
    |false=>
      simp only[Bool.false_and];exact vq p q r
theorem Q3(s:List DMark)(m:DMark)(d:Int):(putMark s m).find? (λx=>x.client==d)=if d=m.client then some m else s.find? (λx=>x.client==d):=by
  unfold putMark;rw[List.find?_append,find?_cons,vq,vq];by_cases hd:d=m.client
  · subst hd;have e:s.find? (λa=>decide (a.client<m.client)&&a.client==m.client)=none:=by
      rw[find?_eq_none];intro x _;simp;omega
    rw[e];simp
  · have e0:(m.client==d)=false:=al;rw[if_neg hd,e0];rcases Int.lt_or_gt_of_ne hd with h|h
    · have e1:(λa:DMark=>decide (a.client<m.client)&&a.client==d)=λa=>a.client==d:=by
        funext a;by_cases ha:a.client=d
        · simp[ha,h]
        · simp[ha]
      have e2:s.find? (λa=>decide (m.client<a.client)&&a.client==d)=none:=by
        rw[find?_eq_none];intro x _;simp;omega
      rw[e1];simp only[e2];simp
    · have e1:(λa:DMark=>decide (m.client<a.client)&&a.client==d)=λa=>a.client==d:=by
        funext a;by_cases ha:a.client=d
        · simp[ha];omega
        · simp[ha]
      have e2:s.find? (λa=>decide (a.client<m.client)&&a.client==d)=none:=by
        rw[find?_eq_none];intro x _;simp;omega
      rw[e1,e2];simp
theorem rt(x0:Int):∀s:List DMark,(∀m∈s,m.index<=s.foldl (λx m=>if m.index>x then m.index else x) x0)/\x0<=s.foldl (λx m=>if m.index>x then m.index else x) x0/\(s.foldl (λx m=>if m.index>x then m.index else x) x0=x0\/∃m∈s,m.index=s.foldl (λx m=>if m.index>x then m.index else x) x0)
  |[]=>⟨by simp,by simp,.inl rfl⟩
  |y::r=>by
    obtain⟨h1,h2,h3⟩:=rt (if y.index>x0 then y.index else x0) r;simp only[foldl_cons];have hy:y.index<=(if y.index>x0 then y.index else x0)/\x0<=(if y.index>x0 then y.index else x0):=by split<;>omega
    refine⟨λm hm=>?_,aa,?_⟩
    · rcases mem_cons.1 hm with rfl|hm
      · omega
      · exact h1 m hm
    · rcases h3 with h3|⟨m,hm,h3⟩
      · by_cases hc:y.index>x0
        · rw[if_pos hc]at h3⊢;exact .inr ⟨y,by simp,h3.symm⟩
        · rw[if_neg hc]at h3⊢;exact .inl h3
      · exact .inr ⟨m,by simp[hm],h3⟩
theorem H5{s:List DMark}{m:DMark}(h:m∈s):m.index<=bY s:=(rt 0 s).1 m h
theorem J6(s:List DMark):0<=bY s:=(rt 0 s).2.1
theorem Sk{s:List DMark}{x:Int}(h1:∀m∈s,m.index<=x)(h2:∃m∈s,m.index=x)(h0:0<=x):bY s=x:=by
  obtain⟨m,hm,e⟩:=h2;have h3:=H5 hm;rcases(rt 0 s).2.2 with h|⟨y,hy,h⟩
  · have h:bY s=0:=h;omega
  · have h:y.index=bY s:=h;have:=h1 y hy;omega
theorem J7{s:List DMark}{m:DMark}(h:bY s<m.index):bY (putMark s m)=m.index:=by
  have h0:=J6 s;refine Sk (λx hx=>?_) ⟨m,by simp[putMark],rfl⟩ aa;rcases NO hx with rfl|hx
  · exact Int.le_refl _
  · have:=H5 hx;omega
theorem Mh{e:DEntry}(h:cj e=true):fj e.mark=true:=by
  simp only[cj,and_eq_true]at h;simp only[fj,DEntry.mark,and_eq_true];exact⟨⟨h.1.1.2,h.1.2⟩,h.1.1.1.1⟩
theorem Is{s:List DMark}{R:DMark->DMark->Prop}(h:s.Pairwise R){i j:Nat}(hi:i<j)(hj:j<s.length):R (s[i]'(aa)) s[j]:=List.pairwise_iff_getElem.1 h i j aa hj hi
theorem Ct:∀{s:List DMark},fA rx s=true->s.Pairwise λx y=>x.index≠y.index
  |[],_=>List.Pairwise.nil
  |x::r,h=>by
    simp only[fA,and_eq_true]at h;refine pairwise_cons.2 ⟨λy hy=>?_,Ct h.2⟩;have:=all_eq_true.1 h.1 y hy;simpa[rx]using this
theorem DJ:∀{s:List DMark},(s.Pairwise λx y=>x.index≠y.index)->fA rx s=true
  |[],_=>rfl
  |x::r,h=>by
    obtain⟨h1,h2⟩:=pairwise_cons.1 h;simp only[fA,and_eq_true];refine⟨all_eq_true.2 λy hy=>?_,DJ h2⟩;have:=h1 y hy;simpa[rx]using this
theorem Q4{s:List DMark}{m:DMark}(h:cA s=true)(hm:fj m=true)(hl:bY s<m.index):cA (putMark s m)=true:=by
  have hs:=kC h;have hx:∀x∈s,x.index≠m.index:=λx hx=>by have:=H5 hx;omega
  have hp:s.Pairwise λx y=>x.index≠y.index:=by
    simp only[cA,and_eq_true]at h;exact Ct h.2
  simp only[cA,and_eq_true];refine⟨⟨all_eq_true.2 λx hx=>?_,Eo (MP hs m)⟩,DJ ?_⟩
  · rcases NO hx with rfl|hx
    · exact hm
    · exact vU h hx
  · unfold putMark;rw[List.pairwise_append];refine⟨hp.sublist filter_sublist,pairwise_cons.2 ⟨λz hz=>(hx z (mem_filter.1 hz).1).symm,hp.sublist filter_sublist⟩,λa ha b hb=>?_⟩;have h1:=mem_filter.1 ha;simp only[decide_eq_true_eq]at h1;rcases mem_cons.1 hb with rfl|hb
    · exact hx a h1.1
    · have h2:=mem_filter.1 hb;simp only[decide_eq_true_eq]at h2;obtain⟨i,hi,rfl⟩:=getElem_of_mem h1.1;obtain⟨j,hj,rfl⟩:=getElem_of_mem h2.1;rcases Nat.lt_trichotomy i j with hij|hij|hij
      · exact Is hp hij hj
      · subst hij;omega
      · exact(Is hp hij hi).symm
theorem Ak{s s':List DMark}{e:DEntry}(h:cA s=true)(hm:dC s e=some s'):cA s'=true/\bY s'=e.index:=by
  unfold dC at hm;split at hm
  · rename_i hc;simp only[and_eq_true,decide_eq_true_eq]at hc;injection hm with hm
    subst hm;exact⟨Q4 h (Mh hc.1.1) hc.2,J7 hc.2⟩
  · cases hm
theorem mE(s:List DMark):∀(a b:List DEntry),cN s (a++b)=(cN s a).bind λs'=>cN s' b
  |[],b=>rfl
  |e::a,b=>by
    simp only[List.cons_append,cN];cases dC s e with
    |none=>rfl
    |some s'=>exact mE s' a b
theorem nJ:∀{l:List DEntry} {s s':List DMark},cA s=true->cN s l=some s'->cA s'=true
  |[],s,s',h,hf=>by simp only[cN,Option.some.injEq]at hf;subst hf;exact h
  |e::r,s,s',h,hf=>by
    simp only[cN]at hf;cases hm:dC s e with
    |none=>rw[hm]at hf;cases hf
    |some s1=>rw[hm]at hf;exact nJ (Ak h hm).1 hf
theorem p7{s c:List DMark}{l:List DEntry}{k:Nat}(hk:k<l.length)(h:cN s (l.take k)=some c):cN s (l.take (k+1))=dC c l[k]:=by
  rw[List.take_succ_eq_append_getElem hk,mE,h];simp only[Option.bind_some,cN];cases dC c l[k]<;>rfl
theorem lP{s c:List DMark}{l:List DEntry}{k:Nat}(hk:k<l.length)(h:cN s (l.take k)=some c)(hn:dC c l[k]=none):cN s l=none:=by
  have e:l=l.take (k+1)++l.drop (k+1):=(List.take_append_drop _ _).symm;rw[e,mE,p7 hk h,hn];rfl
def DMark.v(m:DMark):Value:= .agg #[.int .i64 m.client,.int .i64 m.seq,.int .i64 m.index]
def gy(s:List DMark)(c:Int):Option Value:=(s.find? λm=>m.client==c).map DMark.v
theorem MH(s:List DMark)(m:DMark):tC (tC (gy s) m.client none) m.client (some m.v)=gy (putMark s m):=by
  funext d;unfold tC gy;rw[Q3];by_cases h:d=m.client
  · simp[h]
  · simp[h]
theorem Am{s:List DMark}(h:nn s){k:Nat}(hk:k<s.length):tC (gy (s.take k)) s[k].client (some s[k].v)=gy (s.take (k+1)):=by
  funext d;unfold tC gy;rw[List.take_succ_eq_append_getElem hk,List.find?_append];by_cases hd:d=s[k].client
  · have:(s.take k).find? (λm=>m.client==d)=none:=by
      rw[find?_eq_none];intro m hm;obtain⟨i,hi,rfl⟩:=getElem_of_mem hm;simp at hi;have:=Is h (i:=i) (j:=k) aa hk;simp only[List.getElem_take];simp;omega
    rw[this];simp[hd]
  · have e:(s[k].client==d)=false:=al;simp[hd,e]
theorem Dr(s:List DMark)(c:Int):(gy s c).getD (DMark.v ⟨0,0,0⟩)=(bU s c).v:=by
  unfold gy bU;cases s.find? λm=>m.client==c<;>rfl
def gv(x:DMark)(p:List DMark×Bool)(m:DMark):List DMark×Bool:=
  let q:=if(!p.2&&decide (m.client>=x.client))=true then(p.1++[x],true)else p
  if(m.client !=x.client)=true then(q.1++[m],q.2)else q
theorem uY(x:DMark):∀(r:List DMark) (out:List DMark),(∀m∈r,x.client<m.client)->r.foldl (gv x) (out,true)=(out++r,true)
  |[],out,_=>by simp
  |m::r,out,h=>by
    have hm:=h m ah;have e:(m.client !=x.client)=true:=al;rw[foldl_cons];have:gv x (out,true) m=(out++[m],true):=by simp[gv,e]
    rw[this,uY x r _ λy hy=>h y (by simp[hy])];simp
theorem G1(x:DMark):∀(s:List DMark) (out:List DMark),nn s->(let p:=s.foldl (gv x) (out,false);if p.2 then p.1 else p.1++[x])=out++putMark s x
  |[],out,_=>by simp[putMark]
  |m::r,out,h=>by
    obtain⟨h1,h2⟩:=pairwise_cons.1 h;rw[foldl_cons];rcases Int.lt_trichotomy m.client x.client with hx|hx|hx
    · have e:gv x (out,false) m=(out++[m],false):=by
        have e1:(m.client !=x.client)=true:=al;have e2:decide (m.client>=x.client)=false:=al;simp[gv,e1,e2]
      rw[e];have:=G1 x r (out++[m]) h2;simp only at this⊢;rw[this];have e1:decide (m.client<x.client)=true:=al;have e2:decide (x.client<m.client)=false:=al;simp[putMark,filter_cons,e1,e2]
    · have e:gv x (out,false) m=(out++[x],true):=by
        have e1:(m.client !=x.client)=false:=al;have e2:decide (m.client>=x.client)=true:=al;simp[gv,e1,e2]
      rw[e,uY x r _ λy hy=>by have:=h1 y hy;omega];have e1:decide (m.client<x.client)=false:=al;have e2:decide (x.client<m.client)=false:=al;have e3:=xV (s:=r) (c:=x.client) λy hy=>by have:=h1 y hy;omega
      have e4:r.filter (λy=>decide (x.client<y.client))=r:=List.filter_eq_self.2 λy hy=>by have:=h1 y hy;simp;omega
      simp[putMark,filter_cons,e1,e2,e3,e4]
    · have e:gv x (out,false) m=(out++[x]++[m],true):=by
        have e1:(m.client !=x.client)=true:=al;have e2:decide (m.client>=x.client)=true:=al;simp[gv,e1,e2]
      rw[e,uY x r _ λy hy=>by have:=h1 y hy;omega];have e1:decide (m.client<x.client)=false:=al;have e2:decide (x.client<m.client)=true:=al;have e3:=xV (s:=r) (c:=x.client) λy hy=>by have:=h1 y hy;omega
      have e4:r.filter (λy=>decide (x.client<y.client))=r:=List.filter_eq_self.2 λy hy=>by have:=h1 y hy;simp;omega
      simp[putMark,filter_cons,e1,e2,e3,e4]
end
section
open Go.Proofs.Tryz
open Go.ChangeShapes Go.WideShapes Go.RowKit
def ua:List (List Nat):=cz [0,0,66,12417,1052803,84680772,6509830341,486455906566,35601001230663,35601001230663,0x24714308110620a,0xb2881840420c51c9,0x3091c50c204418828b,0xd2ca20610108314724c,0x38c24714308110620a2cd,0x81840420c51cf34b28930e,0x40e30928b34f1c50c2044188,0x112061010831473cd2ca24c390,0x112061010831473cd2ca24c390,0x1240e30928b34f1c50c2044188453,0x5134481840420c51cf34b28930e412,0x1549038c24a2cd3c71430811062114d4,0x5944d12061010831473cd2ca24c390495,0x1755240e30928b34f1c50c2044188453516,0x4481840420c51cf34b28930e4185944d2557,0x195d549351661038c24a2cd3c7143081106211,0x6912061010831473cd2ca24c3906165134955d9,0x1b6575524d459840e30928b34f1c50c204418845a,0x71a4481840420c51cf34b28930e4185944d255765b,0x1d6d95d549351661038c24a2cd3c714308110621169c,0x1d6d95d549351661038c24a2cd3c714308110621169c,0x7dc6912061010831473cd2ca24c3906165134955d96dd,0x79c6912061010831473cd2ca24c3906165134955d96dd81f,0x217e075b6575524d459840e30928b34f1c50c204418845a71e,0x89e71a4481840420c51cf34b28930e4185944d255765b7607e1,0x1d6d95d549351661038c24a2cd3c714308110621169c,0x1d6d95d549351661038c24a2cd3c714308110621169c,0x2471a4481840420c51cf34b28930e4185944d255765b765,0x9a575b6575524d459840e30928b34f1c50c204418845a724,0x2791c6912061010831473cd2ca24c3906165134955d96dd966,0x8e17e075b6575524d459840e30928b34f1c50c204418845a71e8a89a5927,0x1d6d95d549351661038c24a2cd3c714308110621169ca679259a889e81f863,0x6912061010831473cd2ca24c3906165134955d9aa385f81e8a89a5927a5c6dd]
def ui:List (List Nat):=eK 40 [6,2,4,13,40,121,364,1093,42646,16402,29524,88573,265720,797161,2391484,7174453,21523360,839411059,322850407,581130733,1743392200,5230176601,15690529804,47071589413,141214768240,423644304721,1270932914164,3812798742493,0xa67358b3f98,0xa80cee290ee4d517,0xa80790f173180a75,0xa8084c3336e2832e,0xa80a3f8d40fe6fc6,0xa810d4dd231cae47,0xa82494ccc97769ca,0x4dc1cc44fb26673,0x2151f10eaf00807,0x3789dea9d51373d,0x9b858be40068bb0,0x1c77893928268909]
def lA:List (List Nat):=cz [0,0,66,12417,1052803,0,0,391,33222,2384328,90925286754906505]
def lG:List (List Nat):=eK 10 [58812,58808,58810,58819,58846,1700,728,1214,3401,9962]
theorem bc{a b c:Nat}{Q:Prop}(h:(a+b)*c<=140737488355328)(q:Q):(a+b)*c<=140737488355328/\Q:=⟨h,q⟩
theorem aY{xs:List (List AD)}{s:Nat}{Q:Prop}(h:∀x∈xs,x.length=s)(q:Q):(∀x∈xs,x.length=s)/\Q:=⟨h,q⟩
theorem Ld(a b:Int):aL av 354 [pI a,pI b] (rI (if b>a then b else a)):=by
  refine pO func354 call354 ntmps354 results354 λS=>?_;conv=>whnf
  repeat'(first|refine awz ?_|refine tB ?_ ?_|(intro h;conv=>whnf))
  all_goals
    simp only[decide_eq_true_eq,decide_eq_false_iff_not]at*
    first
      |(rw[if_neg aa];done)
      | (by_cases h2 : b > a
         · rw[if_pos h2]
         · rw[if_neg h2];have:a=b:=aa;rw[this])
theorem iT(s:List DMark)(h:s.length<=1000000):aL av 242 [.one (.sl (s.map DMark.ds))] (.val (.one (.sl (s.map DMark.ds)))):=by
  refine pO func242 call242 ntmps242 results242 λS=>?_;conv=>whnf
  repeat'((first|refine awz ?_|refine aY (λx hx=>by obtain⟨y,_,rfl⟩:=mem_map.1 hx;rfl) ?_|refine bc au ?_|fail)<;>conv=>whnf)
  all_goals rfl
theorem ip(s:List DMark)(h:s.length<=1000000):aL av 267 [.one (.sl (s.map DMark.ds))] (.val (.one (.sl (s.map DMark.ds)))):=by
  refine pO func267 call267 ntmps267 results267 λS=>?_;conv=>whnf
  repeat'((first|refine awz ?_|refine aY (λx hx=>by obtain⟨y,_,rfl⟩:=mem_map.1 hx;rfl) ?_|refine bc au ?_|fail)<;>conv=>whnf)
  all_goals rfl
theorem MZ{s:List DMark}(h:¬s.length<=4):cA s=false:=by
  cases hs:cA s with
  |false=>rfl
  |true=>exact absurd (em hs) h
theorem fI(s:List DMark):aL av 241 [.one (.sl (s.map DMark.ds))] (rB (cA s)):=by
  refine pO func241 call241 ntmps241 results241 λS=>?_;conv=>whnf
  repeat'(first|refine awz ?_|refine tB ?_ ?_|(intro h;conv=>whnf))
  · rw[MZ ari]
  · have h4:s.length<=4:=ari;clear h;refine XA (λk:Nat=>k<=s.length/\(∀(j:Nat) (hj:j<k) (hl:j<s.length),cK fj j7 s j hl=true)/\∀(i j:Nat) (hi:i<j) (hj:j<k) (hl:j<s.length),(s[i]'(aa)).index≠s[j].index) (2::3::4::rg 8 65) (λk=>[(3,vI .i64 (k:Int))]) (λk=>[]) (λk=>s.length-k) 0 ⟨aa,aa,aa⟩ ?_ Xv (λk hR=>?_)<;>(conv=>whnf)
    · exact whd
    · obtain⟨hk,hall,hdup⟩:=hR;repeat'((first|refine awz ?_|refine XB aM 6 40 ua ui ac ac ac rfl ?_|refine XI ari (λhlt=>?_)|refine Yj ari ari (λhpv=>?_)|refine Xz (n:=_-_) ari ari ?_|refine cP (mf _) ?_|refine cP (qt _) ?_|refine cP (jt _) ?_|refine tB ?_ ?_|intro h)<;>conv=>whnf)
      all_goals first
        |(rw[yL hlt (by first|(refine ch _ ?_;simp_all[fj];done)|(rw[br _ ari];simp_all[fj,j7];done)|(rw[bw _ ari];simp_all[fj];done))];done)
        | (refine bM ?_
           have hkk:k=s.length:=ari;rw[D9 (λj hl=>hall j aa hl) (λi j hi hl=>hdup i j hi aa hl)];done)
        |skip
      all_goals
        have hch:cK fj j7 s k hlt=true:=(by first|(refine ch _ ?_;simp_all[fj];done)|(rw[br _ ari];simp_all[fj,j7];done)|(rw[bw _ ari];simp_all[fj];done));refine XA (λq:Nat=>q<=k/\∀(i:Nat) (hi:i<q) (hik:i<k),(s[i]'(aa)).index≠s[k].index) (2::4::rg 57 16) (λq=>[(4,vI .i64 (q:Int))]) (λ_=>[]) (λq=>k-q) 0 ⟨aa,aa⟩ ?_ Xv (λq hQ=>?_)<;>(conv=>whnf)
        · exact whd
        · obtain⟨hq,hno⟩:=hQ;repeat'((first|refine awz ?_|refine XB aM 11 10 lA lG ac ac ac rfl ?_|refine XI (k:=q) ari (λhqt=>?_)|refine XI (k:=k) ari (λhlt=>?_)|refine Xz ari ari ?_|refine tB ?_ ?_|intro h)<;>conv=>whnf)
          all_goals first
            |(rw[D8 (j:=q) (k:=k) ari ari ao];done)
            | (refine aT.mk ⟨q + 1, ⟨ari, fun i hi hik => ?_⟩, ari, ?_, Xv⟩
               · by_cases hiq:i=q
                 · subst hiq;intro e;simp[e]at h
                 · exact hno i aa hik
               · exact hds)
            | (refine aT.mk ⟨k + 1, ⟨ari, fL hall ari hch, Lh ari hdup fun i hi => hno i ari hi⟩, ari, ?_, Xv⟩
               exact hds)
theorem Gn{s:List DMark}{k:Nat}(hk:k<s.length):bY (s.take (k+1))=(if s[k].index>bY (s.take k)then s[k].index else bY (s.take k)):=by
  unfold bY;rw[List.take_succ_eq_append_getElem hk,List.foldl_append];rfl
theorem ku(s:List DMark)(hs:s.length<=1000000):aL av 348 [.one (.sl (s.map DMark.ds))] (rI (bY s)):=by
  refine pO func348 call348 ntmps348 results348 λS=>?_;conv=>whnf
  repeat'(first|refine awz ?_|fail)
  refine XA (λp:Nat×Int=>p.1<=s.length/\p.2=bY (s.take p.1)) (3::5::rg 8 9) (λp=>[(3,vI .i64 p.2),(8,vI .i64 (p.1:Int))]) (λ_=>[]) (λp=>s.length-p.1) (0,0) ⟨by simp,rfl⟩ ?_ Xv (λp hR=>?_)<;>(conv=>whnf)
  · exact whd
  · obtain⟨k,v⟩:=p;obtain⟨hk,hv⟩:=hR;simp only at hk hv;repeat'((first|refine awz ?_|refine XI ari (λhlt=>?_)|refine Xz ari ari ?_|refine tB ?_ ?_|intro h)<;>conv=>whnf)
    all_goals first
      | (refine aT.mk ⟨(k + 1, if s[k].index > v then s[k].index else v), ⟨ari, by simp only [Gn (s := s) (k := k) ari, hv]⟩, by simp only; omega, ?_, Xv⟩
         exact hds)
      | (have hkk : k = s.length := ari
         subst hkk;rw[List.take_length]at hv;rw[hv])
theorem oY(s:List DMark)(h:cA s=true):aL av 285 [.one (.sl (s.map DMark.ds))] (rI (bY s)):=by
  have h':(!cA s)=false:=by simp[h]
  have hl:=em h;refine pO func285 call285 ntmps285 results285 λS=>?_;conv=>whnf
  repeat'(first|refine awz ?_|(refine cP (fI s) ?_;conv=>whnf)|fail)
  refine XA (λp:Nat×Int=>p.1<=s.length/\p.2=bY (s.take p.1)) (3::4::rg 9 13) (λp=>[(3,vI .i64 p.2),(4,vI .i64 (p.1:Int))]) (λ_=>[]) (λp=>s.length-p.1) (0,0) ⟨by simp,rfl⟩ ?_ Xv (λp hR=>?_)<;>(conv=>whnf)
  · exact whd
  · obtain⟨k,v⟩:=p;obtain⟨hk,hv⟩:=hR;simp only at hk hv;repeat'((first|refine awz ?_|refine XI ari (λhlt=>?_)|refine Xz ari ari ?_|refine cP (Ld _ _) ?_|refine tB ?_ ?_|intro h)<;>conv=>whnf)
    all_goals first
      | (refine aT.mk ⟨(k + 1, if s[k].index > v then s[k].index else v), ⟨ari, by simp only [Gn (s := s) (k := k) ari, hv]⟩, by simp only; omega, ?_, Xv⟩
         exact hds)
      | (have hkk : k = s.length := ari
         subst hkk;rw[List.take_length]at hv;rw[hv])
theorem Gr{s:List DMark}{c:Int}{k:Nat}(hk:k<s.length)(hno:∀(j:Nat) (hj:j<k) (hl:j<s.length),s[j].client≠c)(h:s[k].client=c):bU s c=s[k]:=by
  unfold bU;have e:s=s.take k++s[k]::s.drop (k+1):=ah;have h0:(s.take k).find? (λm=>m.client==c)=none:=by
    rw[find?_eq_none];intro m hm;obtain⟨i,hi,rfl⟩:=getElem_of_mem hm;simp at hi;have:=hno i aa aa;simpa using this
  have:s.find? (λm=>m.client==c)=some s[k]:=by
    conv=>lhs;rw[e]
    rw[List.find?_append,h0,find?_cons];simp[h]
  rw[this];rfl
theorem Gs{s:List DMark}{c:Int}(hno:∀(j:Nat) (hl:j<s.length),s[j].client≠c):bU s c=⟨0,0,0⟩:=by
  unfold bU;have:s.find? (λm=>m.client==c)=none:=by
    rw[find?_eq_none];intro m hm;obtain⟨i,hi,rfl⟩:=getElem_of_mem hm;simpa using hno i hi
  rw[this];rfl
theorem vQ(s:List DMark)(c:Int)(h:cA s=true):aL av 303 [.one (.sl (s.map DMark.ds)),pI c] (.val (.agg (bU s c).ds)):=by
  have h':(!cA s)=false:=by simp[h]
  have hl:=em h;refine pO func303 call303 ntmps303 results303 λS=>?_;conv=>whnf
  repeat'(first|refine awz ?_|(refine cP (fI s) ?_;conv=>whnf)|fail)
  refine XA (λk:Nat=>k<=s.length/\∀(j:Nat) (hj:j<k) (hl:j<s.length),s[j].client≠c) (5::rg 10 17) (λk=>[(5,vI .i64 (k:Int))]) (λ_=>[(4,.cells 247 [.d (dI 0),.d (dI 0),.d (dI 0)])]) (λk=>s.length-k) 0 ⟨aa,aa⟩ ?_ sbW (λk hR=>?_)<;>(conv=>whnf)
  · exact whd
  · obtain⟨hk,hno⟩:=hR;repeat'((first|refine awz ?_|refine XI ari (λhlt=>?_)|refine Xz ari ari ?_|refine tB ?_ ?_|intro h)<;>conv=>whnf)
    all_goals first
      | (refine aT.mk ⟨k + 1, ⟨ari, fun j hj hl => ?_⟩,aa, ?_, sbW⟩
         · by_cases hjk:j=k
           · subst hjk;simp_all
           · exact hno j aa hl
         · exact hds)
      |(rw[Gr (k:=k) hlt hno ao];rfl)
      | (have hkk : k = s.length := ari
         rw[Gs λj hl=>hno j aa hl];rfl)
theorem DZ(s:List DMark)(c q:Int)(h:cA s=true)(hc:aJ c 2 5=true)(hq:aJ q 1 2000=true):aL av 310 [.one (.sl (s.map DMark.ds)),pI c,pI q] (rB (decide ((bU s c).seq<q))):=by
  refine pO func310 call310 ntmps310 results310 λS=>?_;conv=>whnf
  repeat'((first|refine awz ?_|refine cP (fI s) ?_|refine cP (vQ s c h) ?_|refine cP (mf _) ?_|refine cP (qt _) ?_|exact rr|fail)<;>conv=>whnf)
  all_goals first
    |rfl
    |simp_all
end
end
end Go.Proofs.YtpdmakdpnejnfaaGreat
