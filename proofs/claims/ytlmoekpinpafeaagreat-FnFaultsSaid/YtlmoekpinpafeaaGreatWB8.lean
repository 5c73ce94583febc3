/- WB8 -/
import Derived.Test.YtlmoekpinpafeaaGreatAvJ3
import Derived.Test.YtlmoekpinpafeaaGreatWData
import Derived.OrdersHeld
set_option maxHeartbeats 8000000
set_option linter.unusedVariables false
set_option linter.unusedSimpArgs false
set_option maxRecDepth 100000
open Bool (and_eq_true not_eq_true' or_eq_true)
open List (all_eq_true filter_cons_of_neg filter_cons_of_pos find?_eq_none getElem?_drop getElem?_map getElem_mem length_append length_cons length_nil mem_append mem_filter mem_map mem_range mem_singleton pairwise_iff_getElem)
open Nat (eq_of_beq_eq_true)
open Array (getD_eq_getD_getElem? getElem?_eq_getElem toArray_toList)
namespace Go.Proofs.YtlmoekpinpafeaaGreat
section
open Go.Proofs.Tryz
open Go.ChangeShapes Go.WideShapes Go.RowKit
variable {n:DLogNode}{α:Type}
def qw:List (List Nat):=a8 [0,1,129,12354,0,0,6,0,29064,0x40810c5248187,0,0xb2871882450c1084]
def qJ:List (List Nat):=dN 11 [137700,137701,137704,137713,137618,122714,122957,120284,121499,127939,59048]
def qx:List (List Nat):=a8 [0,1,129,0,4,0,6,454,33159,0,348045206026,0x30422ca2061c9105,0x3051091c620a2c2043,0xd0c108b28818724414c,0xd0c108b28818724414c,0x420c41461c824a2cc34e,0x1038d30b289207185103081]
def qK:List (List Nat):=dN 16 [177120,177121,177124,58832,58859,39608,39851,40580,42767,19682,29537,88573,265720,10363099,32683621,11957422]
def tO:List (List Nat):=a8 [0,1,129,12354,12354,1318979,4328796549,486506500228,0xc1088106147,0x91c5184202043,0x2830422041851c9,0xb2471461080810ca,0x2830422041851c9,0xd2471461080810ca,0x38a0c108810614724d,0x2830422041851c9,0x102471461080810ca,0x44a0c1088106147250,0x30a0c108810614724b3cd392411,0x1345048e34f2c91c518420204328c,0x2830422041851c950c2cf34e490453,0x154d141238d3cb3142471461080810ca,0x58a0c108810614725430b3cd3924114d5,0x1755345048e34f2cc5091c5184202043296,0x6162830422041851c950c2cf34e490453557,0x162830422041851c950c2cf34e4904535595d8]
def tS:List (List Nat):=dN 18 [0,1,4,661,67,148,364,1093,3280,9841,386918572,386977621,373573498,374104939,375699262,14319382,28668289,71715010]
def tP:List (List Nat):=a8 [0,1,129,0,4,324,24837,0,8,848968016749128,0x2882461051c2043,0xb0c108714418920a,0x30a2091841470810cb,0xb0c108714418920a,0xb0c108714418920a,0x3ca2091841470810cb,0x102c30421c510624828f,0xe2882461051c20432d13d0,0x34b0c108714418920a31240f44e,0xb0c108714418920a4ce44f41230d,0x50d31240f44e4ca2091841470810cb]
def tT:List (List Nat):=dN 18 [19656,19657,19660,17522,17549,17630,17873,2186,4373,9841,29524,385914739,386091886,125862943,4694395,9477364,23826271,65278669]
def iJ(n:DLogNode)(i:Int):DHead:=⟨n.head.num+1,i,im n.book i,(bC n.head.seen (jE n.book (n.book.base+1) i)).1⟩
theorem u6(n:DLogNode)(i:Int)(hb:bB n.book=true)(hn:0<=n.head.num/\n.head.num<=2000)(h1:n.book.base+1<=i)(h2:i<=aY n.book):aM av 151 [.agg n.ds,.one (dI i)] (.val (.agg (iJ n i).ds)):=by
  have hp:=gO hb;have hq:=lu hb;have h20:=hp.2.2.1;refine pO func151 call151 ntmps151 results151 λS=>?_;conv=>whnf
  repeat'((first|refine awz ?_|refine TB aL 1 11 qw qJ ae ae ae rfl ?_|refine Tz ac ac ?_|refine cP (mE n.book i hb h1 h2) ?_|fail)<;>conv=>whnf)
  refine Vw aL 2 16 qx qK 15 13 ae ae ae rfl ⟨_,rfl,rfl,rfl,rfl⟩ rfl rfl rfl rfl ?_;conv=>whnf
  repeat'((first|refine Tz ac ac ?_|refine cP (l9 n.book _ _ h20) ?_|refine cP (kP n.head.seen (jE n.book (n.book.base+1) i)) ?_|fail)<;>conv=>whnf)
  refine⟨_,_,_,_,_,?o1,rfl,rfl,rfl,rfl,?hst,?hk⟩
  case hst=>
    conv=>whnf
  conv=>whnf
  refine⟨rfl,?_,?_⟩
  · repeat'(first|exact trivial|exact⟨rfl,rfl⟩|(refine⟨?_,?_⟩)|fail)
  conv=>whnf
  repeat'(first|refine awz ?_|fail)
  all_goals rfl
theorem O0[BEq α][LawfulBEq α][DecidableEq α](x:α×Bool)(s:α):(x==(s,true))=(x.2&&decide (x.1=s)):=by
  obtain⟨a,b⟩:=x;cases b<;>(rw[Bool.eq_iff_iff];simp[Prod.mk.injEq])
def uc(n:DLogNode):Bool:=dw n.two&&cT n.head&&bB n.book&&n.book.base==n.head.base&&n.book.time==n.head.time
def nT(n:DLogNode):Bool:=(bC n.head.seen n.book.entries).2&&decide ((bC n.head.seen n.book.entries).1=n.seen)&&aI n.durable n.book.base (aY n.book)
theorem yG[BEq α][LawfulBEq α][DecidableEq α](a b:α):(a==b)=decide (a=b):=by
  rw[Bool.eq_iff_iff];simp
theorem vV(n:DLogNode):logOk n=(uc n&&nT n&&decide (n.owe=(dA n.book n.durable).map gJ)&&fy n):=by
  simp only[logOk,uc,nT,O0,Bool.and_assoc,yG n.owe]
theorem PT(h:uc n=true):dw n.two=true/\cT n.head=true/\bB n.book=true/\n.book.base=n.head.base/\n.book.time=n.head.time:=by
  simp only[uc,Bool.and_eq_true,beq_iff_eq]at h;exact⟨h.1.1.1.1,h.1.1.1.2,h.1.1.2,h.1.2,h.2⟩
theorem xM{h:DHead}(hh:cT h=true):(0<=h.num/\h.num<=2000)/\(0<=h.base/\h.base<=2000)/\seenOk h.seen=true:=by
  simp only[cT,Bool.and_eq_true,aI,decide_eq_true_eq]at hh;exact⟨ac,ac,hh.1.2⟩
theorem OP(h:uc n=false):logOk n=false:=by simp only[vV,h,Bool.false_and]
theorem Eq(h:nT n=false):logOk n=false:=by simp only[vV,h,Bool.false_and,Bool.and_false]
theorem OQ(h:decide (n.owe=(dA n.book n.durable).map gJ)=false):logOk n=false:=by simp only[vV,h,Bool.false_and,Bool.and_false]
theorem OR{b:Bool}(h1:uc n=true)(h2:nT n=true)(h3:decide (n.owe=(dA n.book n.durable).map gJ)=true)(h:b=fy n):b=logOk n:=by simp only[vV,h1,h2,h3,h,Bool.true_and]
theorem Ib(h:(!aI n.durable n.book.base (aY n.book))=false):n.book.base<=n.durable/\n.durable<=aY n.book:=by
  simpa[aI]using h
theorem Sk(h:(!(bC n.head.seen n.book.entries).snd)=true):nT n=false:=by
  rw[Bool.not_eq_true']at h;simp only[nT,h,Bool.false_and]
theorem Sl(h:(!decide ((bC n.head.seen n.book.entries).fst=n.seen))=true):nT n=false:=by
  rw[Bool.not_eq_true']at h;simp only[nT,h,Bool.false_and,Bool.and_false]
theorem Sm(h:(!aI n.durable n.book.base (aY n.book))=true):nT n=false:=by
  rw[Bool.not_eq_true']at h;simp only[nT,h,Bool.and_false]
theorem Sn(h1:(!(bC n.head.seen n.book.entries).snd)=false)(h2:(!decide ((bC n.head.seen n.book.entries).fst=n.seen))=false)(h3:(!aI n.durable n.book.base (aY n.book))=false):nT n=true:=by
  rw[Bool.not_eq_false']at h1 h2 h3;simp only[nT,h1,h2,h3,Bool.and_self]
theorem uP{s:List DMark}{l:List DEntry}(h:seenOk s=true):(bC s l).1.length<=4:=by
  unfold bC;simp only[h,Bool.not_true,Bool.false_eq_true,if_false];split
  · exact d9 h
  · cases hf:bf s l with
    |none=>exact d9 h
    |some c=>exact d9 (nN h hf)
theorem Gg(h:(!n.more)=true):decide (n.nxt=d8)=fy n:=by
  rw[Bool.not_eq_true']at h;simp only[fy,h,Bool.false_eq_true,if_false,yG n.nxt]
theorem xS(hb:bB n.book=true):iJ n n.nxt.base=eX n:=by
  simp only[iJ,eX,KI hb,im,Ic]
theorem CU(hm:(!n.more)=false):fy n=(aI n.nxt.base (n.head.base+1) n.durable&&decide (n.nxt=eX n)):=by
  rw[Bool.not_eq_false']at hm;simp only[fy,hm,if_true,yG n.nxt]
theorem KD(hbb:n.book.base=n.head.base)(h:aI n.nxt.base (n.head.base+1) n.durable=true):n.book.base+1<=n.nxt.base:=by
  simp only[aI,Bool.and_eq_true,decide_eq_true_eq]at h;omega
theorem KC(h3:(!aI n.durable n.book.base (aY n.book))=false)(h:aI n.nxt.base (n.head.base+1) n.durable=true):n.nxt.base<=aY n.book:=by
  have:=Ib h3;simp only[aI,Bool.and_eq_true,decide_eq_true_eq]at h;omega
theorem l4(n:DLogNode)(hhs:n.head.seen.length<=9223372036854775806)(ho:n.owe.length<=9223372036854775806)(hs:n.seen.length<=9223372036854775806)(hx:n.nxt.seen.length<=9223372036854775806):aM av 100 [.agg n.ds] (rB (logOk n)):=by
  refine pO func100 call100 ntmps100 results100 λS=>?_;conv=>whnf
  repeat'((first|refine awz ?_|refine cP (gi n.two) ?_|refine cP (fF n.head hhs) ?_|refine cP (eN n.book) ?_|refine cP (kP n.head.seen n.book.entries) ?_|refine tB ?_ ?_|intro h)<;>conv=>whnf)
  all_goals first
    | (have hno : uc n = false := by simp_all [uc]
       rw[OP hno];done)
    |skip
  have h1:uc n=true:=by simp_all[uc]
  obtain⟨hk,hh,hb,hbb,htt⟩:=PT h1;have hq:=xM hh;have hp:=gO hb;have hl:=lu hb;have hsv:(bC n.head.seen n.book.entries).1.length<=9223372036854775806:=Nat.le_trans (uP hq.2.2) ah;repeat'((first|refine awz ?_|refine TB aL 4 18 tO tS ae ae ae rfl ?_|refine cP (mC (bC n.head.seen n.book.entries).1 n.seen hsv) ?_|refine cP (dp n.book hb) ?_|refine cP (aN _ _ _) ?_|refine cP (Bm n hb (Ib am) ho) ?_|refine tB ?_ ?_|intro h)<;>conv=>whnf)
  all_goals first
    |(rw[Eq (Sk h)];done)
    |(rw[Eq (Sl h)];done)
    |(rw[Eq (Sm h)];done)
    |(rw[OQ (by rwa[Bool.not_eq_true']at h)];done)
    |skip
  all_goals
    have h2:nT n=true:=Sn am am am;have h3:decide (n.owe=(dA n.book n.durable).map gJ)=true:=by
      have:(!decide (n.owe=List.map gJ (dA n.book n.durable)))=false:=am;rwa[Bool.not_eq_false']at this
    repeat'((first|refine awz ?_|refine TB aL 8 18 tP tT ae ae ae rfl ?_|refine Tz ac ac ?_|refine cP (aN _ _ _) ?_|refine cP (jI n.nxt d8 hx) ?_|refine cP (u6 n n.nxt.base hb hq.1 (KD hbb am) (KC am am)) ?_|refine cP (jI n.nxt (iJ n n.nxt.base) hx) ?_|refine tB ?_ ?_|intro h)<;>conv=>whnf)
    all_goals
      refine dh (OR h1 h2 h3 ?_);first
        |exact Gg am
        |(rw[CU am,xS hb];simp_all;done)
        |(rw[CU am,<-xS hb];simp_all;done)
end
section
open Go.ChangeShapes Go.WideShapes Go.RowKit
variable {l:List DEntry}{c s:List DMark}
theorem xL(h:bf s l=some c)(k:Nat):∃c',bf s (l.take k)=some c':=by
 rw[<-List.take_append_drop k l,gP]at h;cases hk:bf s (l.take k)with
 |none=>rw[hk]at h;cases h
 |some c'=>exact⟨c',rfl⟩
theorem Lx{k:Nat}(hk:k<l.length)(h:bf s (l.take (k+1))=some c):bG c=l[k].index:=by
 obtain⟨c0,h0⟩:=xL h k;rw[List.take_take,Nat.min_eq_left ac]at h0;rw[w5 hk h0]at h;unfold cQ at h;split at h
 ·rename_i hc;injection h with h
  subst h;simp only[Bool.and_eq_true,decide_eq_true_eq]at hc;exact LH ac
 ·cases h
theorem NL(hs:seenOk s=true)(h:(bC s l).2=true):l.length<=2000/\∃c,bf s l=some c:=by
 unfold bC at h;simp only[hs,Bool.not_true,Bool.false_eq_true,if_false]at h;split at h
 ·cases h
 ·rename_i hl;refine⟨ac,?_⟩;cases hf:bf s l with
  |none=>rw[hf]at h;cases h
  |some c=>exact⟨c,rfl⟩
theorem xT{n:DLogNode}(hb:bB n.book=true)(hh:cT n.head=true)(hbb:n.book.base=n.head.base)(hso:(bC n.head.seen n.book.entries).2=true)(h1:n.head.base+1<=n.nxt.base)(h2:n.nxt.base<=aY n.book):cT (eX n)=true:=by
 have hq:=xM hh;have hl:=lu hb;obtain⟨hlen,c,hc⟩:=NL hq.2.2 hso;obtain⟨k,hk⟩:∃k:Nat,n.nxt.base=n.book.base+1+k:=⟨(n.nxt.base-n.book.base-1).toNat,ac⟩;have hkl:k<n.book.entries.length:=by unfold aY at h2;omega
 obtain⟨c',hc'⟩:=xL hc (k+1);have e1:(n.nxt.base-n.book.base).toNat=k+1:=ac;have e2:(n.nxt.base-n.book.base-1).toNat=k:=ac;have hov:bC n.head.seen (vH n.book n.nxt.base)=(c',true):=by
  unfold vH;rw[e1];exact ja hq.2.2 al hc'
 have hlast:=Lx hkl hc';have hidx:=o3 hb k hkl;have hent:=uD hb hkl;have ht:tOk n.book.entries[k].time=true:=by
  simp only[bn,Bool.and_eq_true]at hent;simpa[tOk]using hent.1.1.1.2
 have hnum:n.head.num<=n.head.base:=by
  simp only[cT,Bool.and_eq_true,aI,decide_eq_true_eq]at hh;omega
 have eH:eX n=⟨n.head.num+1,n.nxt.base,n.book.entries[k].time,c'⟩:=by
  simp only[eX,hov,e2,List.getD_eq_getElem?_getD,List.getElem?_eq_getElem hkl,Option.getD_some]
 have hcs:=nN hq.2.2 hc';rw[eH];simp only[cT,Bool.and_eq_true,aI,decide_eq_true_eq,Bool.or_eq_true,beq_iff_eq];exact⟨⟨⟨⟨⟨⟨ac,ac⟩,ac,ac⟩,ht⟩,.inl ac⟩,hcs⟩,ac⟩
theorem P9{a b:DTwo}:a=b↔(a.a=b.a/\a.b=b.b):=by
 cases a;cases b;simp[DTwo.mk.injEq]
theorem PS{a b:DLogNode}:a=b↔(a.two.a=b.two.a/\a.two.b=b.two.b/\a.head=b.head/\a.nxt=b.nxt/\a.more=b.more/\a.book=b.book/\a.seen=b.seen/\a.durable=b.durable/\a.owe=b.owe):=by
 cases a;cases b;simp[DLogNode.mk.injEq,P9,and_assoc]
structure Fb (n:DLogNode):Prop where
 a1:n.two.a.kept.length<=9223372036854775806
 a2:∀y∈n.two.a.kept,y.length<=9223372036854775806
 a3:n.two.a.wait.length<=9223372036854775806
 a4:∀y∈n.two.a.wait,y.row.length<=9223372036854775806
 b1:n.two.b.kept.length<=9223372036854775806
 b2:∀y∈n.two.b.kept,y.length<=9223372036854775806
 b3:n.two.b.wait.length<=9223372036854775806
 b4:∀y∈n.two.b.wait,y.row.length<=9223372036854775806
 head:n.head.seen.length<=9223372036854775806
 nxt:n.nxt.seen.length<=9223372036854775806
 book:n.book.entries.length<=9223372036854775806
 seen:n.seen.length<=9223372036854775806
 owe:n.owe.length<=9223372036854775806
end
section
open Go.ChangeShapes Go.WideShapes Go.RowKit
variable {b:DBook}{e:DEntry}{h:DHead}{t:DTwo}{a:Int}{k0:List (List Int)}{s:List DMark}{r:List Int}
def opL(o:DOp):List Int:=[o.kind,o.a,o.b,o.c,o.d]
def uG(e:DEntry):List Int:=[e.index,e.time,e.client,e.seq]++opL e.op
def eA(e:DEntry):List Int:=if bn e then uG e++[e.index,e.index]else []
def f9(r:List Int):Option DEntry:=match r with
 |[i,t,c,s,k,a,b,x,d]=>if bn ⟨i,t,c,s,⟨k,a,b,x,d⟩⟩then some ⟨i,t,c,s,⟨k,a,b,x,d⟩⟩else none
 |_=>none
def hN(r:List Int):Option DEntry:=match r with
 |[i,t,c,s,k,a,b,x,d,y,z]=>if bn ⟨i,t,c,s,⟨k,a,b,x,d⟩⟩&&y==i&&z==i then some ⟨i,t,c,s,⟨k,a,b,x,d⟩⟩else none
 |_=>none
theorem AM(h:hN r=some e):bn e=true:=by
 unfold hN at h;split at h
 ·split at h
  ·rename_i hc;injection h with h
   subst h;simp only[and_eq_true]at hc;exact hc.1.1
  ·cases h
 ·cases h
theorem d6(h:bn e=true):(1<=e.index/\e.index<=2000)/\(0<=e.time/\e.time<=1000000)/\(2<=e.client/\e.client<=5)/\(1<=e.seq/\e.seq<=2000)/\lT e.op=true:=by
 simp only[bn,aI,and_eq_true,decide_eq_true_eq]at h;exact⟨h.1.1.1.1,h.1.1.1.2,h.1.1.2,h.1.2,h.2⟩
theorem NH{o:DOp}(h:lT o=true):∀x∈opL o,0<=x/\x<=1000000000:=by
 have hk:o.kind=1\/o.kind=2\/o.kind=3\/o.kind=4\/o.kind=5:=by
  by_cases h1:o.kind=1; · exact .inl h1
  by_cases h2:o.kind=2; · exact .inr (.inl h2)
  by_cases h3:o.kind=3; · exact .inr (.inr (.inl h3))
  by_cases h4:o.kind=4; · exact .inr (.inr (.inr (.inl h4)))
  by_cases h5:o.kind=5; · exact .inr (.inr (.inr (.inr h5)))
  simp[lT,h1,h2,h3,h4,h5]at h
 intro x hx;simp only[opL,List.mem_cons,List.not_mem_nil,or_false]at hx;rcases hk with hk|hk|hk|hk|hk<;>simp[lT,hk,aI]at h<;>omega
theorem Ht(h:bn e=true):(eA e).length=11:=by simp[eA,h,uG,opL]
theorem nc(e:DEntry):bm (eA e)=true/\(eA e).length<48:=by
 cases h:bn e with
 |false=>simp[eA,h,bm]
 |true=>
  have hl:=Ht h;refine⟨oc ⟨ac,λx hx=>?_⟩,ac⟩;obtain⟨h1,h2,h3,h4,h5⟩:=d6 h;have ho:=NH h5;simp only[eA,h,if_true,uG,List.mem_append,List.mem_cons,List.not_mem_nil,or_false]at hx;rcases hx with(hx|hx)|hx
  ·omega
  ·exact ho x hx
  ·omega
def fX(i:Int):Int:=2+i % 20
theorem pJ(i:Int):2<=fX i/\fX i<=21:=by unfold fX;omega
def eD(h:DHead):List Int:=if cT h then [h.num,h.base,h.time,(bx h.seen 2).seq,(bx h.seen 2).index,(bx h.seen 3).seq,(bx h.seen 3).index,(bx h.seen 4).seq,(bx h.seen 4).index,(bx h.seen 5).seq,(bx h.seen 5).index,h.num,h.num]else []
def fE(c s i:Int):List DMark:=if s !=0||i !=0 then [⟨c,s,i⟩]else []
def iD(r:List Int):Option DHead:=match r with
 |[n,b,t,s2,i2,s3,i3,s4,i4,s5,i5,x,y]=>
  let h:DHead:=⟨n,b,t,fE 2 s2 i2++fE 3 s3 i3++fE 4 s4 i4++fE 5 s5 i5⟩
  if cT h&&x==n&&y==n then some h else none
 |_=>none
theorem AL(e:iD r=some h):cT h=true:=by
 unfold iD at e;split at e
 ·simp only at e;split at e
  ·rename_i hc;injection e with e
   subst e;simp only[and_eq_true]at hc;exact hc.1.1
  ·cases e
 ·cases e
theorem bD(e:cT h=true):(0<=h.base/\h.base<=2000)/\(0<=h.num/\h.num<=h.base)/\(0<=h.time/\h.time<=1000000)/\(0<h.base\/h.time=0)/\seenOk h.seen=true/\bG h.seen=h.base:=by
 simp only[cT,tOk,aI,and_eq_true,Bool.or_eq_true,decide_eq_true_eq,beq_iff_eq]at e;exact⟨e.1.1.1.1.1,e.1.1.1.1.2,e.1.1.1.2,e.1.1.2,e.1.2,e.2⟩
theorem ph(h:seenOk s=true)(c:Int):(0<=(bx s c).seq/\(bx s c).seq<=2000)/\0<=(bx s c).index/\(bx s c).index<=2000:=by
 unfold bx;cases e:s.find? (λm=>m.client==c)with
 |none=>simp
 |some m=>
  have hm:=List.mem_of_find?_eq_some e;simp only[seenOk,and_eq_true,List.all_eq_true]at h;have:=h.1.1 m hm;simp only[gv,aI,and_eq_true,decide_eq_true_eq]at this;simp only[Option.getD_some];omega
theorem mZ(h:DHead):bm (eD h)=true/\(eD h).length<48:=by
 cases e:cT h with
 |false=>simp[eD,e,bm]
 |true=>
  obtain⟨h1,h2,h3,h4,h5,h6⟩:=bD e;have m2:=ph h5 2;have m3:=ph h5 3;have m4:=ph h5 4;have m5:=ph h5 5;refine⟨oc ⟨by simp[eD,e],λx hx=>?_⟩,by simp[eD,e]⟩;simp only[eD,e,if_true,List.mem_cons,List.not_mem_nil,or_false]at hx;omega
def Af(b:Option DHead)(h:DHead):Bool:=match b with
 |some x=>decide (x.num<h.num)
 |none=>true
def cM(a:Int)(b:Option DHead)(r:List Int):Option DHead:=match iD r with
 |some h=>if h.num % 2==a&&Af b h then some h else b
 |none=>b
def pc(t:DTwo):Option DHead:=(gD t 1).foldl (cM 1) ((gD t 0).foldl (cM 0) none)
theorem FR{b:Option DHead}(h:∀x,b=some x->cT x=true):∀x,cM a b r=some x->cT x=true:=by
 intro x hx;unfold cM at hx;split at hx
 ·rename_i y hy;have hy':=AL hy;by_cases hc:(y.num % 2==a&&Af b y)=true
  ·rw[if_pos hc]at hx;injection hx with hx;subst hx;exact hy'
  ·rw[if_neg hc]at hx;exact h x hx
 ·exact h x hx
theorem rV:∀{l:List (List Int)} {b:Option DHead},(∀x,b=some x->cT x=true)->∀x,l.foldl (cM a) b=some x->cT x=true
 |[],_,h=>h
 |r::l,b,h=>rV (l:=l) (b:=cM a b r) (FR h)
theorem w7(e:pc t=some h):cT h=true:=
 rV (rV (λx hx=>by cases hx)) h e
def gF(b:DBook):Int:=match b.entries.getLast? with|some e=>e.time|none=>b.time
def lK(b:DBook)(e:DEntry):Bool:=bn e&&e.index==aY b+1&&decide (gF b<=e.time)&&decide (b.entries.length<20)
def mI(b:DBook)(e:DEntry):DBook:=⟨b.base,b.time,b.entries++[e]⟩
theorem bh(h:bB b=true):(0<=b.base/\b.base<=2000)/\(0<=b.time/\b.time<=1000000)/\(b.base=0->b.time=0)/\b.entries.length<=20/\cX b.entries=true/\(∀e,b.entries[0]? =some e->e.index=b.base+1/\b.time<=e.time):=by
 simp only[bB,tOk,aI,and_eq_true,decide_eq_true_eq,Bool.not_eq_true',Bool.and_eq_false_iff,beq_eq_false_iff_ne,bne_eq_false_iff_eq]at h;refine⟨h.1.1.1.1.1,h.1.1.1.1.2,λe=>?_,h.1.1.2,h.1.2,λe he=>?_⟩
 ·rcases h.1.1.1.2 with h|h
  ·exact absurd e h
  ·exact h
 ·have h2:=h.2;cases hb:b.entries with
  |nil=>rw[hb]at he;cases he
  |cons x r=>
   rw[hb]at he h2;injection he with he
   subst he;simpa using h2
theorem wY(h:(0<=b.base/\b.base<=2000)/\(0<=b.time/\b.time<=1000000)/\(b.base=0->b.time=0)/\b.entries.length<=20/\cX b.entries=true/\(∀e,b.entries[0]? =some e->e.index=b.base+1/\b.time<=e.time)):bB b=true:=by
 simp only[bB,tOk,aI,and_eq_true,decide_eq_true_eq,Bool.not_eq_true',Bool.and_eq_false_iff,beq_eq_false_iff_ne,bne_eq_false_iff_eq];refine⟨⟨⟨⟨⟨h.1,h.2.1⟩,?_⟩,h.2.2.2.1⟩,h.2.2.2.2.1⟩,?_⟩
 ·by_cases e:b.base=0
  ·exact .inr (h.2.2.1 e)
  ·exact .inl e
 ·cases hb:b.entries with
  |nil=>rfl
  |cons x r=>
   have:=h.2.2.2.2.2 x (by rw[hb];rfl);simpa using this
theorem fj{l:List DEntry}(h:cX l=true):l.length<=2000/\(∀e∈l,bn e=true)/\fI nV l=true:=by
 simp only[cX,and_eq_true,decide_eq_true_eq,List.all_eq_true]at h;exact⟨h.1.1,h.1.2,h.2⟩
theorem CC{α:Type}{Q:α->α->Bool}:∀{l:List α} {x:α},fI Q l=true->(∀y,l.getLast? =some y->Q y x=true)->fI Q (l++[x])=true
 |[],_,_,_=>rfl
 |[y],x,_,h=>by simp[fI,h y rfl]
 |y::z::r,x,h,hl=>by
  simp only[fI,and_eq_true,List.cons_append]at h⊢;refine⟨h.1,CC (l:=z::r) h.2 λw hw=>hl w ?_⟩;rw[List.getLast?_cons_cons];exact hw
theorem zU(h:bB b=true):∀(k:Nat) (hk:k<b.entries.length),b.entries[k].index=b.base+1+k:=by
 obtain⟨h1,h2,h3,h4,h5,h6⟩:=bh h;obtain⟨e1,e2,e3⟩:=fj h5;intro k;induction k with
 |zero=>intro hk;have:=(h6 b.entries[0] (List.getElem?_eq_getElem hk)).1;omega
 |succ k ih=>
  intro hk;have:=iq e3 hk;simp only[nV,and_eq_true,beq_iff_eq,decide_eq_true_eq]at this;have:=ih ac;omega
theorem zV(h:bB b=true)(he:b.entries.getLast? =some e):e.index=aY b:=by
 rw[List.getLast?_eq_getElem?]at he;obtain⟨hlt,hg⟩:=List.getElem?_eq_some_iff.1 he;have:=zU h _ hlt;rw[hg]at this;unfold aY;omega
theorem zW(h:bB b=true)(hf:lK b e=true):bB (mI b e)=true:=by
 obtain⟨h1,h2,h3,h4,h5,h6⟩:=bh h;obtain⟨e1,e2,e3⟩:=fj h5;simp only[lK,and_eq_true,decide_eq_true_eq,beq_iff_eq]at hf;obtain⟨⟨⟨f1,f2⟩,f3⟩,f4⟩:=hf;refine wY ⟨h1,h2,h3,by simp[mI];omega,?_,λx hx=>?_⟩
 ·simp only[cX,mI,and_eq_true,decide_eq_true_eq,List.all_eq_true];refine⟨⟨by simp;omega,λx hx=>?_⟩,CC e3 λy hy=>?_⟩
  ·rcases List.mem_append.1 hx with hx|hx
   ·exact e2 x hx
   ·rw[List.mem_singleton.1 hx];exact f1
  ·have:=zV h hy;simp only[nV,and_eq_true,beq_iff_eq,decide_eq_true_eq];unfold gF at f3;rw[hy]at f3;exact⟨ac,f3⟩
 ·simp only[mI]at hx⊢;cases hb:b.entries with
  |nil=>
   rw[hb]at hx;injection hx with hx
   subst hx;simp only[gF,aY,hb,List.getLast?_nil,List.length_nil]at f3 f2;exact⟨ac,f3⟩
  |cons y r=>
   rw[hb]at hx;exact h6 x (by rw[hb];simpa using hx)
theorem LF(b:DBook)(e:DEntry):aY (mI b e)=aY b+1:=by simp[aY,mI];omega
def iK(t:DTwo)(b:DBook)(s:List DMark)(r:List Int):Option DEntry:=match hN r with
 |some e=>if e.index==aY b+1&&lK b e&&(cQ s e).isSome then some e else none
 |none=>none
def ss(t:DTwo)(b:DBook)(s:List DMark):Option DEntry:=(gD t (fX (aY b+1))).findSome? (iK t b s)
theorem pm(h:ss t b s=some e):bn e=true/\e.index=aY b+1/\lK b e=true/\cQ s e=some (cF s e.mark):=by
 obtain⟨r,_,hr⟩:=List.exists_of_findSome?_eq_some h;unfold iK at hr;split at hr
 ·rename_i y hy;split at hr
  ·rename_i hc;injection hr with hr
   subst hr;simp only[and_eq_true,beq_iff_eq]at hc;refine⟨AM hy,hc.1.1,hc.1.2,?_⟩;have:=hc.2;unfold cQ at this⊢;split
   ·rfl
   ·rename_i hn;rw[if_neg hn]at this;cases this
  ·cases hr
 ·cases hr
def mP(t:DTwo):Nat->DBook->List DMark->DBook×List DMark
 |0,b,s=>(b,s)
 |n+1,b,s=>match ss t b s with
  |some e=>mP t n (mI b e) (cF s e.mark)
  |none=>(b,s)
def xH(h:DHead):DBook:=⟨h.base,h.time,[]⟩
def gq(t:DTwo)(h:DHead):DBook×List DMark:=mP t 21 (xH h) h.seen
structure mj (h:DHead) (b:DBook) (s:List DMark):Prop where
 ok:bB b=true
 base:b.base=h.base
 time:b.time=h.time
 fold:bf h.seen b.entries=some s
 seen:seenOk s=true
theorem UN(e:cT h=true):mj h (xH h) h.seen:=by
 obtain⟨h1,h2,h3,h4,h5,h6⟩:=bD e;exact⟨wY ⟨h1,h3,λhb=>by simp only[xH]at hb⊢;omega,by simp[xH],by simp[cX,fI,xH],λx hx=>by simp[xH]at hx⟩,rfl,rfl,rfl,h5⟩
theorem mj.add(g:mj h b s)(hf:lK b e=true)(hm:cQ s e=some (cF s e.mark)):mj h (mI b e) (cF s e.mark):=by
 refine⟨zW g.ok hf,g.base,g.time,?_,(sk g.seen hm).1⟩;show bf h.seen (b.entries++[e])=_;rw[gP,g.fold];show bf s [e]=_;simp[bf,hm]
theorem Vt:∀(n:Nat) {b:DBook} {s:List DMark},mj h b s->mj h (mP t n b s).1 (mP t n b s).2
 |0,_,_,g=>g
 |n+1,b,s,g=>by
  unfold mP;split
  ·rename_i e he;obtain⟨_,_,f,m⟩:=pm he;exact Vt n (g.add f m)
  ·exact g
def jF(h:DHead)(b:DBook):List (List Int):=b.entries.foldl (λl e=>l.set (fX e.index).toNat (eA e)) ((List.replicate 22 []).set (h.num % 2).toNat (eD h))
theorem Hl{l:List (List Int)}{k:Nat}(h:∀y∈l,bm y=true/\y.length<48)(hr:bm r=true/\r.length<48):∀y∈l.set k r,bm y=true/\y.length<48:=λy hy=>by
 rcases List.mem_or_eq_of_mem_set hy with hy|rfl
 ·exact h y hy
 ·exact hr
theorem vJ:∀{es:List DEntry} {l:List (List Int)},(∀y∈l,bm y=true/\y.length<48)->∀y∈es.foldl (λl e=>l.set (fX e.index).toNat (eA e)) l,bm y=true/\y.length<48
 |[],_,h=>h
 |e::es,l,h=>vJ (es:=es) (Hl h (nc e))
theorem rS:∀(es:List DEntry) (l:List (List Int)),(es.foldl (λl e=>l.set (fX e.index).toNat (eA e)) l).length=l.length
 |[],_=>rfl
 |e::es,l=>by rw[List.foldl_cons,rS];simp
theorem gV(h:DHead)(b:DBook):(jF h b).length=22:=by rw[jF,rS];simp
theorem xi(h:DHead)(b:DBook):∀y∈jF h b,bm y=true/\y.length<48:=
 vJ (Hl (λy hy=>by rw[List.eq_of_mem_replicate hy];exact⟨rfl,by simp⟩) (mZ h))
def mz(h:DHead)(b:DBook):DDisk:=⟨(jF h b).map eG,[]⟩
def uR(h:DHead)(b:DBook):DTwo:=⟨mz h b,mz h b⟩
theorem AJ(h:DHead)(b:DBook):bN (mz h b)=true:=by
 have hl:=gV h b;refine iX ⟨by simp[mz,hl],by simp[mz,hl],by simp[mz],λy hy=>?_,by simp[mz]⟩;obtain⟨r,hr,rfl⟩:=List.mem_map.1 hy;obtain⟨h1,h2⟩:=xi h b r hr;exact fx h1 h2
theorem L0(h:DHead)(b:DBook):dw (uR h b)=true:=by
 simp only[dw,fc,and_eq_true,decide_eq_true_eq];exact⟨⟨⟨AJ h b,AJ h b⟩,rfl⟩,by simp[uR,mz,gV]⟩
theorem LO{k:List (List Int)}{a:Nat}:fD (jN ⟨k,[]⟩ (a:Int) r)=⟨k.set a r,[]⟩:=by simp[fD,jN,rH,N3]
def pX(h:DHead)(b:DBook)(k0:List (List Int))(j:Nat):List (List Int):=((jF h b).map eG).take j++k0.drop j
theorem An(hk:k0.length=22){j:Nat}(hj:j<22):(pX h b k0 j).set j (eG ((jF h b)[j]'(by rw[gV];exact hj)))=pX h b k0 (j+1):=by
 have hl:=gV h b;apply List.ext_getElem?;intro i;have hlen:(((jF h b).map eG).take j).length=j:=by simp[hl];omega
 have hlen2:(((jF h b).map eG).take (j+1)).length=j+1:=by simp[hl];omega
 unfold pX;rcases Nat.lt_trichotomy i j with hi|hi|hi
 ·rw[List.getElem?_set_ne ac,List.getElem?_append_left ac,List.getElem?_append_left ac,List.getElem?_take_of_lt hi,List.getElem?_take_of_lt ac]
 ·subst hi;rw[List.getElem?_set_self (by simp[hl];omega),List.getElem?_append_left ac,List.getElem?_take_of_lt ac];simp[hl,hj]
 ·rw[List.getElem?_set_ne ac,List.getElem?_append_right ac,List.getElem?_append_right ac,hlen,hlen2,List.getElem?_drop,List.getElem?_drop];congr 1;omega
theorem IK(h:DHead)(b:DBook)(k0:List (List Int)):pX h b k0 0=k0:=by simp[pX]
theorem CR(hk:k0.length=22):pX h b k0 22=(jF h b).map eG:=by
 have hl:=gV h b;unfold pX;rw[List.take_of_length_le (by simp[hl]),List.drop_of_length_le ac,List.append_nil]
def f8 (n : DLogNode) : Option DLogNode := if dw n.two then (match pc n.two with
 |some h=>some ⟨uR h (gq n.two h).1,h,d8,false,(gq n.two h).1,(gq n.two h).2,aY (gq n.two h).1,[]⟩
 |none=>none)else none
theorem oZ(e:cT h=true):mj h (gq t h).1 (gq t h).2:=Vt 21 (UN e)
theorem GJ{n m:DLogNode}(h:f8 n=some m):logOk m=true:=by
 unfold f8 at h;split at h
 ·split at h
  ·rename_i hd hh;injection h with h
   subst h;have ho:=w7 hh;have g:=oZ (t:=n.two) ho;generalize gq n.two hd=p at g;obtain⟨b,s⟩:=p;simp only at g;obtain⟨h1,h2,h3,h4,h5,h6⟩:=bD ho;obtain⟨b1,b2,b3,b4,b5,b6⟩:=bh g.ok;have hov:=ja h5 ac g.fold;have hown:dA b (aY b)=[]:=by
    unfold dA;rw[List.filter_eq_nil_iff];intro x hx;obtain⟨k,hk,rfl⟩:=List.getElem_of_mem hx;have:=zU g.ok k hk;simp only[decide_eq_true_eq];unfold aY;omega
   simp only[logOk,and_eq_true,beq_iff_eq];refine⟨⟨⟨⟨⟨⟨⟨⟨L0 hd b,ho⟩,g.ok⟩,g.base⟩,g.time⟩,hov⟩,?_⟩,?_⟩,?_⟩
   ·simp only[aI,and_eq_true,decide_eq_true_eq];unfold aY;omega
   ·rw[hown];rfl
   ·simp[fy]
  ·cases h
 ·cases h
end
section
open Go.ChangeShapes Go.WideShapes Go.RowKit
section
variable {α:Type} {Q:α->α->Bool}
theorem nX(tr:∀x y z,Q x y=true->Q y z=true->Q x z=true):∀{l:List α},fI Q l=true->l.Pairwise λx y=>Q x y=true
 |[],_=> .nil
 |[x],_=>by simp
 |x::y::r,h=>by
  simp only[fI,and_eq_true]at h;have ih:=nX tr (l:=y::r) h.2;refine List.pairwise_cons.2 ⟨λz hz=>?_,ih⟩;rcases List.mem_cons.1 hz with rfl|hz
  ·exact h.1
  ·exact tr x y z h.1 ((List.pairwise_cons.1 ih).1 z hz)
theorem nt:∀{l:List α},(l.Pairwise λx y=>Q x y=true)->fI Q l=true
 |[],_=>rfl
 |[x],_=>rfl
 |x::y::r,h=>by
  have h':=List.pairwise_cons.1 h;simp only[fI,and_eq_true];exact⟨h'.1 y (List.mem_cons_self ..),nt h'.2⟩
theorem Ov(tr:∀x y z,Q x y=true->Q y z=true->Q x z=true){l m:List α}(h:fI Q l=true)(hs:m.Sublist l):fI Q m=true:=
 nt ((nX tr h).sublist hs)
theorem Kn(l:List α)(k:Nat):(l.take k++l.drop (k+1)).Sublist l:=by
 have:(l.take k++l.drop (k+1)).Sublist (l.take k++l.drop k):=by
  refine List.Sublist.append (List.Sublist.refl _) ?_;rw[<-List.drop_drop];exact List.drop_sublist 1 _
 rwa[List.take_append_drop]at this
end
theorem mv(x y z:DLink)(h1:cO x y=true)(h2:cO y z=true):cO x z=true:=by
 simp only[cO,or_eq_true,and_eq_true,decide_eq_true_eq,beq_iff_eq]at*
 omega
theorem cI{n:DNet}(h:dg n=true):n.flight.length<=60/\n.cuts.length<=15/\(∀m∈n.flight,jC m=true)/\(∀x∈n.cuts,dT x=true)/\fI cO n.cuts=true:=by
 simp only[dg,and_eq_true,decide_eq_true_eq,List.all_eq_true]at h;exact⟨h.1.1.1.1,h.1.1.1.2,h.1.1.2,h.1.2,h.2⟩
theorem vW{n:DNet}(h:n.flight.length<=60/\n.cuts.length<=15/\(∀m∈n.flight,jC m=true)/\(∀x∈n.cuts,dT x=true)/\fI cO n.cuts=true):dg n=true:=by
 simp only[dg,and_eq_true,decide_eq_true_eq,List.all_eq_true];exact⟨⟨⟨⟨h.1,h.2.1⟩,h.2.2.1⟩,h.2.2.2.1⟩,h.2.2.2.2⟩
theorem IR{n:DNet}{m:DMsg}(h:dg n=true)(hm:jC m=true)(hl:n.flight.length≠60):dg ⟨n.flight++[m],n.cuts⟩=true:=by
 obtain⟨h1,h2,h3,h4,h5⟩:=cI h;refine vW ⟨by simp;omega,h2,λx hx=>?_,h4,h5⟩;rcases mem_append.1 hx with hx|hx
 ·exact h3 x hx
 ·rw[mem_singleton.1 hx];exact hm
theorem ND{n:DNet}(h:dg n=true)(k:Nat):dg ⟨n.flight.take k++n.flight.drop (k+1),n.cuts⟩=true:=by
 obtain⟨h1,h2,h3,h4,h5⟩:=cI h;have hs:=Kn n.flight k;exact vW ⟨Nat.le_trans hs.length_le h1,h2,λx hx=>h3 x (hs.subset hx),h4,h5⟩
theorem PU{n:DNet}(h:dg n=true)(k:Nat):dg ⟨n.flight,n.cuts.take k++n.cuts.drop (k+1)⟩=true:=by
 obtain⟨h1,h2,h3,h4,h5⟩:=cI h;have hs:=Kn n.cuts k;exact vW ⟨h1,Nat.le_trans hs.length_le h2,h3,λx hx=>h4 x (hs.subset hx),Ov mv h5 hs⟩
def lQ(x:DLink):Int:=if x.a=0 then x.b-1 else if x.a=1 then x.b+3 else if x.a=2 then x.b+6 else if x.a=3 then x.b+8 else x.b+9
theorem vU{x:DLink}(h:dT x=true):0<=lQ x/\lQ x<=14:=by
 simp only[dT,eV,aI,and_eq_true,decide_eq_true_eq,bne_iff_ne,ne_eq]at h;unfold lQ;repeat' split
 all_goals omega
theorem F8{x y:DLink}(hx:dT x=true)(hy:dT y=true)(h:cO x y=true):lQ x<lQ y:=by
 simp only[dT,eV,aI,and_eq_true,decide_eq_true_eq,bne_iff_ne,ne_eq]at hx hy;simp only[cO,or_eq_true,and_eq_true,decide_eq_true_eq,beq_iff_eq]at h;unfold lQ;repeat' split
 all_goals omega
theorem Nj{l:List DLink}(h1:∀x∈l,dT x=true)(h2:fI cO l=true):l.length<=15:=by
 have key:∀(k:Nat) (hk:k<l.length),(k:Int)<=lQ l[k]:=by
  intro k;induction k with
  |zero=>intro hk;exact(vU (h1 _ (getElem_mem hk))).1
  |succ k ih=>
   intro hk;have:=F8 (h1 _ (getElem_mem _)) (h1 _ (getElem_mem _)) (iq h2 hk);have:=ih ac;omega
 by_cases hl:l.length<=15
 ·exact hl
 ·have:=key 15 ac;have:=(vU (h1 _ (getElem_mem (by omega:15<l.length)))).2;omega
theorem QK{n:DNet}{x:DLink}{k:Nat}(h:dg n=true)(hx:dT x=true)(h1:∀(j:Nat) (hj:j<n.cuts.length),j<k->cO n.cuts[j] x=true)(h2:∀hk:k<n.cuts.length,cO n.cuts[k] x=false)(h3:∀y∈n.cuts,y≠x):dg ⟨n.flight,n.cuts.take k++[x]++n.cuts.drop k⟩=true:=by
 obtain⟨g1,g2,g3,g4,g5⟩:=cI h;have pw:=nX mv g5;have lo:∀y∈n.cuts.take k,cO y x=true:=by
  intro y hy;obtain⟨j,hj,rfl⟩:=List.getElem_of_mem hy;rw[List.getElem_take];exact h1 j _ (by rw[List.length_take]at hj;omega)
 have hi:∀y∈n.cuts.drop k,cO x y=true:=by
  intro y hy;obtain⟨j,hj,rfl⟩:=List.getElem_of_mem hy;rw[List.length_drop]at hj;have hk:k<n.cuts.length:=ac;have f1:=h2 hk;have f2:=h3 _ (getElem_mem hk);have f3:cO x n.cuts[k]=true:=by
   simp only[cO,Bool.or_eq_false_iff,Bool.and_eq_false_iff,decide_eq_false_iff_not,beq_eq_false_iff_ne,or_eq_true,and_eq_true,decide_eq_true_eq,beq_iff_eq]at f1⊢;by_cases e1:n.cuts[k].a=x.a
   ·by_cases e2:n.cuts[k].b=x.b
    ·exfalso;apply f2;cases hc:n.cuts[k];rw[hc]at e1 e2;cases x;simp only at e1 e2;rw[e1,e2]
    ·omega
   ·omega
  rw[List.getElem_drop];cases j with
  |zero=>exact f3
  |succ j=>exact mv _ _ _ f3 (List.pairwise_iff_getElem.1 pw k (k+(j+1)) hk ac ac)
 have hall:∀y∈n.cuts.take k++[x]++n.cuts.drop k,dT y=true:=by
  intro y hy;simp only[mem_append,mem_singleton]at hy;rcases hy with(hy|rfl)|hy
  ·exact g4 y (List.mem_of_mem_take hy)
  ·exact hx
  ·exact g4 y (List.mem_of_mem_drop hy)
 have hadj:fI cO (n.cuts.take k++[x]++n.cuts.drop k)=true:=by
  refine nt (List.pairwise_append.2 ⟨List.pairwise_append.2 ⟨pw.sublist (List.take_sublist _ _),by simp,λa ha b hb=>by rw[mem_singleton.1 hb];exact lo a ha⟩,pw.sublist (List.drop_sublist _ _),λa ha b hb=>?_⟩);rcases mem_append.1 ha with ha|ha
  ·exact mv _ _ _ (lo a ha) (hi b hb)
  ·rw[mem_singleton.1 ha];exact hi b hb
 exact vW ⟨g1,Nj hall hadj,g3,hall,hadj⟩
theorem vC{l:List Int}{k:Nat}{t:Int}(h:cK l=true)(ht:tOk t=true):cK (l.set k t)=true:=by
 simp only[cK,and_eq_true,decide_eq_true_eq,List.all_eq_true]at h⊢;refine⟨by simp[h.1],λx hx=>?_⟩;rcases List.mem_or_eq_of_mem_set hx with hx|rfl
 ·exact h.2 x hx
 ·exact ht
theorem FB{d:DDisk}{k:List (List Int)}(h:bN d=true)(hl:k.length=d.kept.length)(hr:∀y∈k,bm y=true):bN ⟨k,[]⟩=true:=by
 obtain⟨h1,h2,_,_,_⟩:=cz h;exact iX ⟨by simp only[hl];exact h1,by simp only[hl];exact h2,by simp,hr,by simp⟩
def tC(r old:List Int):List Int:=r.take (r.length/2)++old.drop (r.length/2)
theorem JY{r old:List Int}(h:bm r=true)(ho:bm old=true):bm (tC r old)=true:=by
 obtain⟨h1,h2⟩:=fK h;obtain⟨h3,h4⟩:=fK ho;refine oc ⟨by simp only[tC,List.length_append,List.length_take,List.length_drop];omega,λx hx=>?_⟩;rcases mem_append.1 hx with hx|hx
 ·exact h2 x (List.mem_of_mem_take hx)
 ·exact h4 x (List.mem_of_mem_drop hx)
end
section
open Go.ChangeShapes Go.WideShapes Go.RowKit
variable {b:DBook}{e:DEntry}{n:DLogNode}{t:DTwo}{i:Int}
structure kx (n:DLogNode):Prop where
 two:dw n.two=true
 head:cT n.head=true
 book:bB n.book=true
 base:n.book.base=n.head.base
 time:n.book.time=n.head.time
 fold:bf n.head.seen n.book.entries=some n.seen
 dlo:n.book.base<=n.durable
 dhi:n.durable<=aY n.book
 owe:n.owe=(dA n.book n.durable).map gJ
 nxt:fy n=true
theorem NJ{s c:List DMark}{l:List DEntry}(h:bC s l=(c,true)):bf s l=some c:=by
 unfold bC at h;split at h
 ·cases h
 ·split at h
  ·cases h
  ·split at h
   ·rename_i o ho;rw[ho];injection h with h;rw[h]
   ·cases h
theorem OO(h:logOk n=true):kx n:=by
 simp only[logOk,and_eq_true,beq_iff_eq,aI,decide_eq_true_eq]at h;obtain⟨⟨⟨⟨⟨⟨⟨⟨h1,h2⟩,h3⟩,h4⟩,h5⟩,h6⟩,h7⟩,h8⟩,h9⟩:=h;exact⟨h1,h2,h3,h4,h5,NJ h6,h7.1,h7.2,h8,h9⟩
theorem kx.ok(h:kx n):logOk n=true:=by
 have h6:=(bD h.head).2.2.2.2.1;have hl:=(bh h.book).2.2.2.1;have:=ja h6 ac h.fold;simp only[logOk,and_eq_true,beq_iff_eq,aI,decide_eq_true_eq];exact⟨⟨⟨⟨⟨⟨⟨⟨h.two,h.head⟩,h.book⟩,h.base⟩,h.time⟩,this⟩,h.dlo,h.dhi⟩,h.owe⟩,h.nxt⟩
theorem FJ:∀{l:List DEntry} {s c:List DMark},seenOk s=true->bf s l=some c->bG c=match l.getLast? with|some e=>e.index|none=>bG s
 |[],s,c,_,hf=>by simp only[bf,Option.some.injEq]at hf;subst hf;rfl
 |e::r,s,c,h,hf=>by
  simp only[bf]at hf;cases hm:cQ s e with
  |none=>rw[hm]at hf;cases hf
  |some s1=>
   rw[hm]at hf;obtain⟨h1,h2⟩:=sk h hm;rw[FJ h1 hf];cases r with
   |nil=>simp[h2]
   |cons x r=>rw[List.getLast?_cons_cons];rw[List.getLast?_eq_some_getLast ai]
theorem kx.seenOk(h:kx n):seenOk n.seen=true:=nN (bD h.head).2.2.2.2.1 h.fold
theorem kx.last(h:kx n):bG n.seen=aY n.book:=by
 have hh:=bD h.head;rw[FJ hh.2.2.2.2.1 h.fold];split
 ·rename_i e he;exact zV h.book he
 ·rename_i he;rw[List.getLast?_eq_none_iff]at he;have:=h.base;simp[aY,he];omega
theorem fT(h:dw t=true):fc t=true/\t.a.kept.length=22/\t.b.kept.length=22:=by
 simp only[dw,and_eq_true,decide_eq_true_eq]at h;have:=(dr h.1).2.2;exact⟨h.1,h.2,ac⟩
theorem w8(h:fc t=true)(hl:t.a.kept.length=22):dw t=true:=by simp[dw,h,hl]
theorem vQ{a:Int}{r:List Int}(h:dw t=true)(h1:t.a.wait.length<60)(h2:t.b.wait.length<60)(ha:0<=a/\a<=21)(hr:bm r=true)(hl:r.length<48):dw (pR t a r)=true:=by
 obtain⟨f1,f2,f3⟩:=fT h;exact w8 (DA f1 h1 h2 (by simp[aI];omega) hr hl) f2
theorem xO(h:dw t=true):dw (jr t)=true:=by
 obtain⟨f1,f2,f3⟩:=fT h;exact w8 (FG f1) (by simp[jr,fD,gd,f2])
def kM(n:DLogNode)(e:DEntry):DLogNode:={n with two:=pR n.two (fX e.index) (eA e),book:=mI n.book e,seen:=cF n.seen e.mark,owe:=n.owe++[gJ e]}
theorem BD{d:Int}(h:d<e.index):dA (mI b e) d=dA b d++[e]:=by
 simp only[dA,mI,List.filter_append];congr 1;simp;omega
theorem FM(h:kx n)(hf:lK n.book e=true)(hs:mY n.seen e=true)(h1:n.two.a.wait.length<60)(h2:n.two.b.wait.length<60):kx (kM n e):=by
 have hf':=hf;simp only[lK,and_eq_true,decide_eq_true_eq,beq_iff_eq]at hf';obtain⟨⟨⟨f1,f2⟩,f3⟩,f4⟩:=hf';have hm:cQ n.seen e=some (cF n.seen e.mark):=by
  unfold cQ;rw[if_pos];simp only[and_eq_true,decide_eq_true_eq];exact⟨⟨f1,hs⟩,by rw[h.last];omega⟩
 have hsl:=pJ e.index;have hrow:=nc e;refine⟨vQ h.two h1 h2 ac hrow.1 hrow.2,h.head,zW h.book hf,h.base,h.time,?_,h.dlo,?_,?_,?_⟩
 ·show bf n.head.seen (n.book.entries++[e])=_;rw[gP,h.fold];simp[bf,hm,kM]
 ·show n.durable<=aY (mI n.book e);have:=h.dhi;rw[LF];omega
 ·have:=h.dhi;show n.owe++[gJ e]=_;rw[h.owe];show _=(dA (mI n.book e) n.durable).map gJ;rw[BD ac,List.map_append];rfl
 ·have hn:=h.nxt;unfold fy at hn⊢;show(if n.more then aI n.nxt.base (n.head.base+1) n.durable&&n.nxt==eX (kM n e)else n.nxt==d8)=true;split
  ·rename_i hmo;rw[if_pos hmo]at hn;simp only[and_eq_true,aI,decide_eq_true_eq]at hn;have hd:=h.dhi;have hb:=h.base;have hk:(n.nxt.base-n.book.base).toNat<=n.book.entries.length:=by unfold aY at hd;omega
   have:eX (kM n e)=eX n:=by
    simp only[eX,kM,mI,vH];rw[List.take_append_of_le_length hk,List.getD_eq_getElem?_getD,List.getElem?_append_left ac,<-List.getD_eq_getElem?_getD]
   rw[this];simp only[and_eq_true,aI,decide_eq_true_eq];exact hn
  ·rename_i hmo;rw[if_neg hmo]at hn;exact hn
def pP(n:DLogNode)(i:Int):DLogNode:={n with two:=pR n.two ((n.head.num+1) % 2) (eD (iJ n i)),nxt:=iJ n i,more:=true}
theorem sq(h:bB n.book=true)(i:Int):iJ n i=⟨n.head.num+1,i,(n.book.entries.getD (i-n.book.base-1).toNat ⟨0,0,0,0,⟨0,0,0,0,0⟩⟩).time,(bC n.head.seen (vH n.book i)).1⟩:=by
 simp only[iJ,im,KI h,Ic]
theorem J2(h:kx n)(hi:n.head.base+1<=i/\i<=n.durable)(h1:n.two.a.wait.length<60)(h2:n.two.b.wait.length<60):kx (pP n i):=by
 have hr:=mZ (iJ n i);refine⟨vQ h.two h1 h2 ac hr.1 hr.2,h.head,h.book,h.base,h.time,h.fold,h.dlo,h.dhi,h.owe,?_⟩;have e:(pP n i).nxt=eX (pP n i):=by
  show iJ n i=_;rw[sq h.book];simp only[eX,pP,sq h.book]
 unfold fy;show(if true=true then aI (iJ n i).base (n.head.base+1) n.durable&&(pP n i).nxt==eX (pP n i)else _)=true;rw[<-e];simp[aI,iJ,hi]
def wD(n:DLogNode):DLogNode:=if n.more then⟨jr n.two,n.nxt,d8,false,⟨n.nxt.base,im n.book n.nxt.base,n.book.entries.drop (n.nxt.base-n.book.base).toNat⟩,n.seen,aY n.book,[]⟩else{n with two:=jr n.two,durable:=aY n.book,owe:=[]}
theorem zQ(h:bB b=true):dA b (aY b)=[]:=by
 unfold dA;rw[List.filter_eq_nil_iff];intro x hx;obtain⟨k,hk,rfl⟩:=List.getElem_of_mem hx;have:=zU h k hk;simp only[decide_eq_true_eq];unfold aY;omega
theorem Fy(h:bB b=true)(h1:b.base+1<=i)(h2:i<=aY b):bB ⟨i,im b i,b.entries.drop (i-b.base).toNat⟩=true:=by
 obtain⟨f1,f2,f3,f4,f5,f6⟩:=bh h;obtain⟨e1,e2,e3⟩:=fj f5;obtain⟨k,hk⟩:∃k:Nat,i-b.base-1=(k:Int):=⟨(i-b.base-1).toNat,ac⟩;have hkl:k<b.entries.length:=by unfold aY at h2;omega
 have hd:(i-b.base).toNat=k+1:=ac;have ht:im b i=b.entries[k].time:=by
  simp only[im,show(i-b.base-1).toNat=k by omega,List.getD_eq_getElem?_getD,List.getElem?_eq_getElem hkl,Option.getD_some]
 have he:=d6 (e2 _ (List.getElem_mem hkl));rw[ht,hd];have hall:∀(j:Nat) (hj:j<(b.entries.drop (k+1)).length),(b.entries.drop (k+1))[j]=b.entries[k+1+j]'(by rw[List.length_drop]at hj;omega):=λj hj=>by rw[List.getElem_drop]
 refine wY ⟨by show 0<=i/\i<=2000;unfold aY at h2;have:=zU h k hkl;omega,he.2.1,λe=>?_,?_,?_,λx hx=>?_⟩
 ·exfalso;have e:i=0:=e;omega
 ·rw[List.length_drop];omega
 ·simp only[cX,and_eq_true,decide_eq_true_eq,List.all_eq_true];refine⟨⟨by rw[List.length_drop];omega,λx hx=>e2 x (List.mem_of_mem_drop hx)⟩,zN λj hj=>?_⟩;have hj':=hj;rw[List.length_drop]at hj';rw[hall j ac,hall (j+1) hj];exact iq e3 (k:=k+1+j) ac
 ·have hx':b.entries[k+1]? =some x:=by simpa using hx
  obtain⟨hlt,rfl⟩:=List.getElem?_eq_some_iff.1 hx';have:=iq e3 hlt;simp only[nV,and_eq_true,beq_iff_eq,decide_eq_true_eq]at this;have:=zU h (k+1) hlt;exact⟨by show _=i+1;omega,by show b.entries[k].time<=_;omega⟩
theorem JV(h:kx n):kx (wD n):=by
 have hb:=h.base;have hlb:n.book.base<=aY n.book:=by unfold aY;omega
 unfold wD;split
 ·rename_i hmo;have hn:=h.nxt;unfold fy at hn;rw[if_pos hmo]at hn;simp only[and_eq_true,aI,decide_eq_true_eq,beq_iff_eq]at hn;obtain⟨hr,e⟩:=hn;have hd:=h.dhi;have hbk:=Fy h.book (i:=n.nxt.base) ac ac;obtain⟨k,hk⟩:∃k:Nat,n.nxt.base-n.book.base-1=(k:Int):=⟨(n.nxt.base-n.book.base-1).toNat,ac⟩;have hkl:k<n.book.entries.length:=by unfold aY at hd;omega
  have hk1:(n.nxt.base-n.book.base).toNat=k+1:=ac;have hh:=bD h.head;have hso:=ja hh.2.2.2.2.1 (by have:=(bh h.book).2.2.2.1;omega) h.fold;have hho:=xT h.book h.head h.base (by rw[hso]) hr.1 ac;rw[<-e]at hho;have hsplit:bf n.head.seen (n.book.entries.take (k+1)++n.book.entries.drop (k+1))=some n.seen:=by rw[List.take_append_drop];exact h.fold
  rw[gP]at hsplit;cases hc:bf n.head.seen (n.book.entries.take (k+1))with
  |none=>rw[hc]at hsplit;cases hsplit
  |some c=>
   rw[hc]at hsplit;have hns:n.nxt.seen=c:=by
    rw[e];show(bC n.head.seen (vH n.book n.nxt.base)).1=c;rw[vH,hk1,ja hh.2.2.2.2.1 (by rw[List.length_take];have:=(bh h.book).2.2.2.1;omega) hc]
   have ht:n.nxt.time=im n.book n.nxt.base:=by rw[e];rfl
   refine⟨xO h.two,hho,hbk,rfl,ht.symm,?_,?_,?_,?_,rfl⟩
   ·show bf n.nxt.seen (n.book.entries.drop (n.nxt.base-n.book.base).toNat)=some n.seen;rw[hns,hk1];exact hsplit
   ·show n.nxt.base<=aY n.book;omega
   ·show aY n.book<=aY ⟨_,_,_⟩;simp only[aY,List.length_drop];unfold aY at hd;omega
   ·have hl:aY n.book=aY ⟨n.nxt.base,im n.book n.nxt.base,n.book.entries.drop (n.nxt.base-n.book.base).toNat⟩:=by
     simp only[aY,List.length_drop];unfold aY at hd;omega
    show []=(dA _ (aY n.book)).map gJ;rw[hl,zQ hbk];rfl
 ·rename_i hmo;refine⟨xO h.two,h.head,h.book,h.base,h.time,h.fold,hlb,Int.le_refl _,?_,?_⟩
  ·show []=(dA n.book (aY n.book)).map gJ;rw[zQ h.book];rfl
  ·have hn:=h.nxt;unfold fy at hn⊢;rw[if_neg hmo]at hn;show(if n.more then _ else n.nxt==d8)=true;rw[if_neg hmo];exact hn
end
section
open Go.ChangeShapes Go.WideShapes Go.RowKit
variable {d:DDisk}{slot:Int}{s:Int×DState}{l:List (List Int)}{r:List Int}{p:Nat}
def sC(l:List DPair):List Int:=(l.length:Int)::l.flatMap λp=>[p.key,p.value]
def xN(l:List DJob):List Int:=(l.length:Int)::l.flatMap λj=>[j.id,j.due,j.key,j.value,j.fired]
def bI(s:DState):List Int:=[s.index,s.time]++(sC s.pairs++(xN s.jobs++[s.lease.holder,s.lease.epoch,s.lease.til]))
def dt(l:List Int):List DPair:=(List.range (l.length/2)).map λk=>⟨l.getD (2*k) 0,l.getD (2*k+1) 0⟩
def eF(l:List Int):List DJob:=(List.range (l.length/5)).map λk=>⟨l.getD (5*k) 0,l.getD (5*k+1) 0,l.getD (5*k+2) 0,l.getD (5*k+3) 0,l.getD (5*k+4) 0⟩
theorem Ah(l:List Int):(dt l).length=l.length/2:=by simp[dt]
theorem LJ(l:List Int):(eF l).length=l.length/5:=by simp[eF]
theorem sD(l:List DPair):(l.flatMap λp=>[p.key,p.value]).length=2*l.length:=by
 induction l with
 |nil=>rfl
 |cons p r ih=>simp only[List.flatMap_cons,length_append,ih,length_cons,length_nil];omega
theorem ua(l:List DJob):(l.flatMap λj=>[j.id,j.due,j.key,j.value,j.fired]).length=5*l.length:=by
 induction l with
 |nil=>rfl
 |cons p r ih=>simp only[List.flatMap_cons,length_append,ih,length_cons,length_nil];omega
theorem Bv(s:DState):(bI s).length=7+2*s.pairs.length+5*s.jobs.length:=by
 simp only[bI,sC,xN,length_append,length_cons,length_nil,sD,ua];omega
def sv(l:List Int):Bool:=decide (7<=l.length)&&aI (l.getD 2 0) 0 10&&decide (3+2*l.getD 2 0<l.length)&&aI (l.getD (3+2*l.getD 2 0).toNat 0) 0 8&&decide (3+2*l.getD 2 0+1+5*l.getD (3+2*l.getD 2 0).toNat 0+3=l.length)
def sw(l:List Int):DState:=⟨l.getD 0 0,l.getD 1 0,dt ((l.drop 3).take (2*l.getD 2 0).toNat),eF ((l.drop (3+2*l.getD 2 0).toNat).tail.take (5*l.getD (3+2*l.getD 2 0).toNat 0).toNat),⟨l.getD (l.length-3) 0,l.getD (l.length-2) 0,l.getD (l.length-1) 0⟩⟩
def gS(l:List Int):Option DState:=if sv l&&a9 (sw l)then some (sw l)else none
theorem Gi{l:List Int}{s:DState}(h:gS l=some s):a9 s=true:=by
 unfold gS at h;split at h
 ·rename_i hc;injection h with h
  subst h;simp only[and_eq_true]at hc;exact hc.2
 ·cases h
def e9(s:Int×DState):Bool:=aI s.1 1 1000000000&&a9 s.2&&s.2.index !=0
def dE(n:Nat):Nat:=(n+19)/20
def da(s:Int×DState)(p:Nat):List Int:=[s.1,s.2.index,(p:Int),((bI s.2).length:Int)]++(((bI s.2).drop (20*p)).take 20++[s.2.index,s.1])
def bc(s:Int×DState):List (List Int):=if e9 s then(List.range (dE (bI s.2).length)).map λp=>eG (da s p)else []
theorem hI{l:List DPair}(h:bo l=true):l.length<=10:=by
 simp only[bo,and_eq_true,List.all_eq_true]at h;obtain⟨h1,h2⟩:=h;have key:∀(k:Nat) (hk:k<l.length),(k:Int)<=l[k].key:=by
  intro k;induction k with
  |zero=>intro hk;have:=h1 _ (List.getElem_mem hk);simp only[dV,aI,and_eq_true,decide_eq_true_eq]at this;omega
  |succ k ih=>
   intro hk;have:=iq h2 hk;simp only[il,decide_eq_true_eq]at this;have:=ih ac;omega
 by_cases hl:l.length<=10
 ·exact hl
 ·have h10:10<l.length:=ac;have:=key 10 h10;have:=h1 _ (List.getElem_mem h10);simp only[dV,aI,and_eq_true,decide_eq_true_eq]at this;omega
theorem bJ{s:DState}(h:a9 s=true):(0<=s.index/\s.index<=2000)/\(0<=s.time/\s.time<=1000000)/\bo s.pairs=true/\bu s.jobs=true/\dD s.lease=true:=by
 simp only[a9,tOk,and_eq_true]at h;refine⟨?_,?_,h.1.1.1.2,h.1.1.2,h.1.2⟩
 ·have:=h.1.1.1.1.1;simp only[aI,and_eq_true,decide_eq_true_eq]at this;exact this
 ·have:=h.1.1.1.1.2;simp only[aI,and_eq_true,decide_eq_true_eq]at this;exact this
theorem kn{s:DState}(h:a9 s=true):7<=(bI s).length/\(bI s).length<=67:=by
 obtain⟨_,_,h3,h4,_⟩:=bJ h;have h5:=hI h3;have h6:s.jobs.length<=8:=by simp only[bu,and_eq_true,decide_eq_true_eq]at h4;exact h4.1.1.1
 rw[Bv];omega
theorem JT{s:DState}(h:a9 s=true):∀x∈bI s,0<=x/\x<=1000000000:=by
 have hm:=kn h;rw[Bv]at hm;obtain⟨h1,h2,h3,h4,h5⟩:=bJ h;intro x hx;simp only[bI,sC,xN,List.mem_append,List.mem_cons,List.not_mem_nil,or_false,List.mem_flatMap]at hx;rcases hx with hx|(hx|⟨p,hp,hx⟩)|(hx|⟨j,hj,hx⟩)|hx
 ·omega
 ·omega
 ·simp only[bo,and_eq_true,List.all_eq_true]at h3;have:=h3.1 p hp;simp only[dV,aI,and_eq_true,decide_eq_true_eq]at this;omega
 ·omega
 ·simp only[bu,and_eq_true,List.all_eq_true]at h4;have:=h4.1.1.2 j hj;simp only[jV,tOk,aI,and_eq_true,decide_eq_true_eq]at this;omega
 ·simp only[dD,fz,aI,Bool.or_eq_true,and_eq_true,decide_eq_true_eq,beq_iff_eq]at h5;rcases h5 with h5|h5
  ·rw[h5]at hx;simp at hx;omega
  ·omega
theorem jH(h:e9 s=true):(1<=s.1/\s.1<=1000000000)/\a9 s.2=true/\s.2.index≠0:=by
 simp only[e9,aI,and_eq_true,decide_eq_true_eq,bne_iff_ne]at h;exact⟨h.1.1,h.1.2,h.2⟩
theorem sP(hp:p<dE (bI s.2).length):7<=(da s p).length/\(da s p).length<=26:=by
 have h1:20*p<(bI s.2).length:=by unfold dE at hp;omega
 simp only[da,length_append,length_cons,length_nil,List.length_take,List.length_drop];omega
theorem uY(h:e9 s=true)(hp:p<dE (bI s.2).length):bm (da s p)=true/\(da s p).length<48:=by
 obtain⟨h1,h2,h3⟩:=jH h;obtain⟨l1,l2⟩:=sP hp;obtain⟨m1,m2⟩:=kn h2;have hr:=JT h2;obtain⟨i1,_⟩:=bJ h2;refine⟨oc ⟨ac,λx hx=>?_⟩,ac⟩;have hp':p<67:=by unfold dE at hp;omega
 simp only[da,List.mem_append,List.mem_cons,List.not_mem_nil,or_false]at hx;rcases hx with hx|hx|hx
 ·omega
 ·exact hr x (List.mem_of_mem_drop (List.mem_of_mem_take hx))
 ·omega
theorem ib(h:e9 s=true):(bc s).length=dE (bI s.2).length/\1<=dE (bI s.2).length/\dE (bI s.2).length<=4:=by
 obtain⟨h1,h2,h3⟩:=jH h;obtain⟨m1,m2⟩:=kn h2;refine⟨by simp[bc,h],?_,?_⟩<;>(unfold dE;omega)
theorem pE(h:e9 s=true)(hp:p<(bc s).length):(bc s)[p]=eG (da s p):=by
 simp[bc,h]
def Kt:List (List Int)->Option (List Int)
 |[]=>some []
 |r::l=>match jW r with
  |some x=>if 6<=x.length then(Kt l).map λy=>(x.drop 4).take (x.length-6)++y else none
  |none=>none
def dm(rows:List (List Int)):Option (Int×DState):=match Kt rows with
 |some l=>match gS l with
  |some s=>if bc ((rows.getD 0 []).getD 0 0,s)==rows&& !rows.isEmpty then some ((rows.getD 0 []).getD 0 0,s)else none
  |none=>none
 |none=>none
theorem kt{rows:List (List Int)}(h:dm rows=some s):e9 s=true/\bc s=rows:=by
 unfold dm at h;split at h
 ·split at h
  ·split at h
   ·rename_i hc;injection h with h
    subst h;simp only[and_eq_true,beq_iff_eq,Bool.not_eq_true']at hc;refine⟨?_,hc.1⟩;cases ho:e9 ((rows.getD 0 []).getD 0 0,_)with
    |true=>rfl
    |false=>
     have e:=hc.1;simp only[bc,ho]at e;rw[<-e]at hc;simp at hc
   ·cases h
  ·cases h
 ·cases h
theorem Bi(h:e9 s=true)(e:bc s=r::l):4<=r.length/\r.getD 3 0=((bI s.2).length:Int)/\r.getD 0 0=s.1:=by
 obtain⟨hl,h1,h2⟩:=ib h;have h0:0<(bc s).length:=ac;have:=pE h h0;simp only[e,List.getElem_cons_zero]at this;rw[this];simp[eG,da]
theorem BN(h:dm (r::l)=some s):4<=r.length/\(7<=r.getD 3 0/\r.getD 3 0<=67)/\l.length+1=dE (r.getD 3 0).toNat:=by
 obtain⟨ho,hr⟩:=kt h;obtain⟨f1,f2,_⟩:=Bi ho hr;obtain⟨h1,h2,h3⟩:=jH ho;obtain⟨m1,m2⟩:=kn h2;have:=(ib ho).1;rw[hr]at this;refine⟨f1,ac,?_⟩;rw[f2];simpa using this
def dq(d:DDisk)(slot:Int)(n:Nat):List (List Int):=(List.range n).map λi:Nat=>my d (slot*4+(i:Int))
def ot(d:DDisk)(slot:Int):List Int:=my d (slot*4)
def wu(d:DDisk)(slot:Int):Nat:=dE ((ot d slot).getD 3 0).toNat
def Bh(d:DDisk)(slot:Int):Bool:=decide (4<=(ot d slot).length)&&aI ((ot d slot).getD 3 0) 1 80
def l7(d:DDisk)(slot:Int):Option (Int×DState):=if Bh d slot then dm (dq d slot (wu d slot))else none
theorem B6(d:DDisk)(slot:Int)(n:Nat):∃l,dq d slot (n+1)=ot d slot::l/\l.length=n:=by
 refine⟨(List.range n).map λi=>my d (slot*4+((i+1:Nat):Int)),?_,by simp⟩;simp only[dq,ot,List.range_succ_eq_map,List.map_cons,List.map_map];congr 1;simp
theorem B7{n:Nat}(h:dm (dq d slot n)=some s):Bh d slot=true/\n=wu d slot:=by
 cases n with
 |zero=>
  obtain⟨ho,hr⟩:=kt h;have:=(ib ho);rw[hr]at this;simp only[dq,List.range_zero,List.map_nil,length_nil]at this;omega
 |succ n=>
  obtain⟨l,e,hl⟩:=B6 d slot n;rw[e]at h;obtain⟨f1,f2,f3⟩:=BN h;refine⟨?_,by unfold wu;omega⟩;simp only[Bh,aI,and_eq_true,decide_eq_true_eq];omega
def m8(d:DDisk):Option (Int×DState)×Int:=match l7 d 0,l7 d 1 with
 |some a,some b=>if a.1<b.1 then(some b,1)else(some a,0)
 |some a,none=>(some a,0)
 |none,some b=>(some b,1)
 |none,none=>(none,0)
theorem tx(h:l7 d slot=some s):e9 s=true:=by
 unfold l7 at h;split at h
 ·exact(kt h).1
 ·cases h
theorem LS{k:Int}(h:m8 d=(some s,k)):e9 s=true/\(k=0\/k=1):=by
 unfold m8 at h;split at h
 ·rename_i a b ha hb;split at h<;>(injection h with h1 h2;injection h1 with h1;subst h1 h2)
  ·exact⟨tx hb,.inr rfl⟩
  ·exact⟨tx ha,.inl rfl⟩
 ·rename_i a ha hb;injection h with h1 h2;injection h1 with h1;subst h1 h2;exact⟨tx ha,.inl rfl⟩
 ·rename_i b ha hb;injection h with h1 h2;injection h1 with h1;subst h1 h2;exact⟨tx hb,.inr rfl⟩
 ·injection h with h1;cases h1
def wE(k:List (List Int))(slot:Int):Nat->List (List Int)
 |0=>k
 |n+1=>(wE k slot n).set (slot*4+n).toNat []
def wF(d:DDisk)(slot:Int):DDisk:=⟨wE (rH d.kept d.wait) slot 4,[]⟩
theorem xt(k:List (List Int))(slot:Int):∀n,(wE k slot n).length=k.length
 |0=>rfl
 |n+1=>by simp[wE,xt k slot n]
theorem HC{k:List (List Int)}(h:∀y∈k,bm y=true):∀n,∀y∈wE k slot n,bm y=true
 |0,y,hy=>h y hy
 |n+1,y,hy=>by
  rcases List.mem_or_eq_of_mem_set hy with hy|rfl
  ·exact HC h n y hy
  ·rfl
theorem wG(h:cS d=true)(slot:Int):cS (wF d slot)=true:=by
 simp only[cS,and_eq_true,decide_eq_true_eq]at h⊢;obtain⟨f1,f2,f3,f4,f5⟩:=cz (iW h.1);refine⟨iX ⟨?_,?_,by simp[wF],HC f4 4,by simp[wF]⟩,?_⟩<;>simp only[wF,xt,gd]<;>omega
def eY (s : DStore) : Option DStore := if cS s.disk && s.disk.wait.isEmpty then some (match m8 s.disk with
 |(some h,k)=>⟨wF s.disk (1-k),h.2,h.1,h.2.index,0⟩
 |(none,_)=>⟨wF (wF s.disk 0) 1,fb,0,0,0⟩)else none
theorem BM{s m:DStore}(h:eY s=some m):storeOk m=true:=by
 unfold eY at h;split at h
 ·rename_i hc;simp only[and_eq_true]at hc;injection h with h
  subst h;split
  ·rename_i x k hn;obtain⟨h1,h2⟩:=LS hn;obtain⟨g1,g2,g3⟩:=jH h1;obtain⟨i1,_⟩:=bJ g2;simp only[storeOk,wG hc.1,g2,aI,and_eq_true,Bool.or_eq_true,decide_eq_true_eq,beq_iff_eq,true_and];refine⟨⟨⟨ac,ac⟩,?_⟩,.inl trivial⟩;have e1:(x.1==0)=false:=al;have e2:(x.2.index==0)=false:=by simpa using g3
   rw[e1,e2]
  ·simp only[storeOk,wG (wG hc.1 0) 1,Bool.true_and];rfl
 ·cases h
end
section
open Go.ChangeShapes Go.WideShapes Go.RowKit
variable {c:DClient}{d:DDisk}{g:DGot}{s:DStore}
structure wK (c:DClient):Prop where
 id:c.id=4\/c.id=5
 todo:∀x∈c.todo,eC x=true
 len:c.todo.length<=12
 gl:c.gots.length<=c.todo.length
 got:∀k,k<c.gots.length->pS (c.todo.getD k ⟨0,op0,0⟩) (c.gots.getD k ⟨0,0,0,0⟩) ((k:Int)+1) (jB c.gots k)=true
 last:c.last=jB c.gots c.gots.length
theorem Nh(h:cr c=true):wK c:=by
 simp only[cr,and_eq_true,decide_eq_true_eq,or_eq_true,beq_iff_eq,List.all_eq_true]at h;exact⟨h.1.1.1.1.1,h.1.1.1.1.2,h.1.1.1.2,h.1.1.2,λk hk=>Nc h.1.2 hk,h.2⟩
theorem wK.ok(h:wK c):cr c=true:=by
 simp only[cr,and_eq_true,decide_eq_true_eq,or_eq_true,beq_iff_eq,List.all_eq_true];exact⟨⟨⟨⟨⟨h.id,h.todo⟩,h.len⟩,h.gl⟩,Ft h.got⟩,h.last⟩
def pd(c:DClient)(g:DGot):DClient:=⟨c.id,c.todo,c.gots++[g],g.index⟩
theorem IE{l:List DGot}{k:Nat}(h:k<=l.length):jB (l++[g]) k=jB l k:=by
 cases k with
 |zero=>rfl
 |succ j=>simp only[jB,List.getD_eq_getElem?_getD,List.getElem?_append_left (by omega:j<l.length)]
theorem CO(h:wK c)(hl:c.gots.length<c.todo.length)(hg:pS (c.todo.getD c.gots.length ⟨0,op0,0⟩) g ((c.gots.length:Int)+1) c.last=true):wK (pd c g):=by
 refine⟨h.id,h.todo,h.len,by simp[pd];omega,λk hk=>?_,?_⟩
 ·have hk':k<c.gots.length+1:=by simpa[pd]using hk
  unfold pd;simp only;rw[IE ac];by_cases e:k<c.gots.length
  ·rw[List.getD_eq_getElem?_getD (l:=c.gots++[g]),List.getElem?_append_left e,<-List.getD_eq_getElem?_getD];exact h.got k e
  ·have e:k=c.gots.length:=ac;subst e;rw[List.getD_eq_getElem?_getD (l:=c.gots++[g]),List.getElem?_append_right (Nat.le_refl _)];simp only[Nat.sub_self,List.getElem?_cons_zero,Option.getD_some];rw[<-h.last];exact hg
 ·show g.index=jB (c.gots++[g]) (c.gots++[g]).length;rw[List.length_append];show g.index=((c.gots++[g]).getD c.gots.length _).index;simp
structure DE (s:DSched):Prop where
 id:s.id=2\/s.id=3
 seq:0<=s.seq/\s.seq<=2000
 jobs:gz s.view.jobs=true
 index:0<=s.index/\s.index<=2000
 idle:s.busy=false->s.op=op0
 busy:s.busy=true->s.seq≠0/\lT s.op=true/\(s.op.kind=4\/s.op.kind=5)
theorem Hk{s:DSched}(h:eZ s=true):DE s:=by
 simp only[eZ,fz,aI,and_eq_true,decide_eq_true_eq,or_eq_true,beq_iff_eq]at h;refine⟨h.1.1.1.1,h.1.1.1.2,h.1.1.2,h.1.2,λhb=>?_,λhb=>?_⟩
 ·have:=h.2;rw[hb]at this;simpa using this
 ·have:=h.2;rw[hb]at this;simp at this;exact⟨this.1.1,this.1.2,this.2⟩
theorem DE.ok{s:DSched}(h:DE s):eZ s=true:=by
 simp only[eZ,fz,aI,and_eq_true,decide_eq_true_eq,or_eq_true,beq_iff_eq];refine⟨⟨⟨⟨h.id,h.seq⟩,h.jobs⟩,h.index⟩,?_⟩;cases hb:s.busy with
 |false=>simpa using h.idle hb
 |true=>
  have:=h.busy hb;simpa using⟨⟨this.1,this.2.1⟩,this.2.2⟩
structure DF (s:DStore):Prop where
 disk:cS s.disk=true
 state:a9 s.state=true
 num:0<=s.num/\s.num<=1000000000
 last:0<=s.last/\s.last<=s.state.index
 zero:s.num=0↔s.last=0
 busy:s.busy=0\/(s.num<1000000000/\s.last<s.busy/\s.busy<=s.state.index)
theorem E8(h:storeOk s=true):DF s:=by
 simp only[storeOk,aI,and_eq_true,decide_eq_true_eq,or_eq_true,beq_iff_eq]at h;refine⟨h.1.1.1.1.1,h.1.1.1.1.2,h.1.1.1.2,h.1.1.2,?_,?_⟩
 ·have:=h.1.2;rw[Bool.eq_iff_iff]at this;simpa using this
 ·have:=h.2;omega
theorem DF.ok(h:DF s):storeOk s=true:=by
 simp only[storeOk,aI,and_eq_true,decide_eq_true_eq,or_eq_true,beq_iff_eq];refine⟨⟨⟨⟨⟨h.disk,h.state⟩,h.num⟩,h.last⟩,?_⟩,?_⟩
 ·rw[Bool.eq_iff_iff];simpa using h.zero
 ·have:=h.busy;omega
theorem zS(h:DF s)(hd:cS d=true)(hb:s.busy=0)(hg:s.last+4<=s.state.index)(hn:s.num<1000000000):DF {s with disk:=d,busy:=s.state.index}:=
 ⟨hd,h.state,h.num,h.last,h.zero,.inr ⟨hn,by show s.last<s.state.index;omega,Int.le_refl _⟩⟩
theorem EZ(h:cS d=true):cS (fD d)=true:=by
 simp only[cS,and_eq_true,decide_eq_true_eq]at h⊢;exact⟨iW h.1,by rw[fD,gd];exact h.2⟩
theorem ML(h:DF s)(hb:s.busy≠0):DF {s with disk:=fD s.disk,num:=s.num+1,last:=s.busy,busy:=0}:=by
 have h1:=h.num;have h2:=h.last;have h3:=h.busy.resolve_left hb;exact⟨EZ h.disk,h.state,by show 0<=s.num+1/\s.num+1<=1000000000;omega,by show 0<=s.busy/\s.busy<=s.state.index;omega,by show s.num+1=0↔s.busy=0;omega,.inl rfl⟩
theorem N8{t:DState}(h:DF s)(ht:a9 t=true)(hi:s.state.index<=t.index):DF {s with state:=t}:=by
 have h2:=h.last;have h3:=h.busy;exact⟨h.disk,ht,h.num,by show 0<=s.last/\s.last<=t.index;omega,h.zero,by show s.busy=0\/(s.num<_/\s.last<s.busy/\s.busy<=t.index);omega⟩
theorem BW{a:Int}{r:List Int}(h:cS d=true)(hw:d.wait.length<60)(ha:0<=a/\a<=7)(hr:bm r=true):cS (jN d a r)=true:=by
 simp only[cS,and_eq_true,decide_eq_true_eq]at h⊢;exact⟨jn h.1 hw (by simp[aI];omega) hr,h.2⟩
end
section
open Go.ChangeShapes Go.WideShapes Go.RowKit
section
variable {α:Type} (key:α->Int)
def yw(l:List α)(p:α):List α:=l.filter (λx=>decide (key x<key p))++p::l.filter (λx=>decide (key p<key x))
variable {key} {l:List α} {p:α}
theorem AE{x:α}(hx:x∈yw key l p):x∈l\/x=p:=by
 simp only[yw,List.mem_append,List.mem_cons,mem_filter]at hx;rcases hx with hx|rfl|hx
 ·exact .inl hx.1
 ·exact .inr rfl
 ·exact .inl hx.1
theorem GA{R:α->α->Prop}(pw:l.Pairwise R)(hl:∀x∈l,key x<key p->R x p)(hr:∀x∈l,key p<key x->R p x)(hm:∀x∈l,∀y∈l,key x<key y->R x y):(yw key l p).Pairwise R:=by
 refine List.pairwise_append.2 ⟨pw.sublist List.filter_sublist,List.pairwise_cons.2 ⟨λy hy=>?_,pw.sublist List.filter_sublist⟩,λa ha b hb=>?_⟩
 ·have:=mem_filter.1 hy;exact hr y this.1 (by simpa using this.2)
 ·have h1:=mem_filter.1 ha;have h2:key a<key p:=by simpa using h1.2
  rcases List.mem_cons.1 hb with rfl|hb
  ·exact hl a h1.1 h2
  ·have h3:=mem_filter.1 hb;have h4:key p<key b:=by simpa using h3.2
   exact hm a h1.1 b h3.1 ac
theorem sE(pw:l.Pairwise λx y=>key x<key y):(yw key l p).Pairwise λx y=>key x<key y:=
 GA pw (λ_ _ h=>h) (λ_ _ h=>h) λ_ _ _ _ h=>h
theorem NQ(h:∀x∈l,key x≠key p):(yw key l p).length=l.length+1:=by
 simp only[yw,List.length_append,List.length_cons];have:∀m:List α,(∀x∈m,key x≠key p)->(m.filter (λx=>decide (key x<key p))).length+(m.filter (λx=>decide (key p<key x))).length=m.length:=by
  intro m;induction m with
  |nil=>intro _;rfl
  |cons x r ih=>
   intro hm;have h0:=hm x (List.mem_cons_self ..);have hr:=ih λy hy=>hm y (List.mem_cons_of_mem _ hy);rcases Int.lt_or_gt_of_ne h0 with hlt|hlt
   ·rw[filter_cons_of_pos (by simpa using hlt),filter_cons_of_neg al];simp only[List.length_cons];omega
   ·rw[filter_cons_of_neg al,filter_cons_of_pos (by simpa using hlt)];simp only[List.length_cons];omega
 have:=this l h;omega
theorem Dz(k:Int):∀{m:List α},(m.Pairwise λx y=>key x<key y)->m.filter (λx=>decide (key x<=k))=m.filter (λx=>decide (key x<=k-1))++(match m.find? (λx=>key x==k)with|some x=>[x]|none=>[])
 |[],_=>rfl
 |y::r,hm=>by
  obtain⟨h1,h2⟩:=List.pairwise_cons.1 hm;have big:k<=key y->r.filter (λx=>decide (key x<=k))=[]/\r.filter (λx=>decide (key x<=k-1))=[]/\r.find? (λx=>key x==k)=none:=λhy=>
   ⟨List.filter_eq_nil_iff.2 λx hx=>by have:=h1 x hx;simp;omega,List.filter_eq_nil_iff.2 λx hx=>by have:=h1 x hx;simp;omega,find?_eq_none.2 λx hx=>by have:=h1 x hx;simp;omega⟩
  rcases Int.lt_trichotomy (key y) k with hy|hy|hy
  ·rw[filter_cons_of_pos al,filter_cons_of_pos al,List.find?_cons_of_neg al,Dz k h2];rfl
  ·obtain⟨e1,e2,e3⟩:=big ac;rw[filter_cons_of_pos al,filter_cons_of_neg al,List.find?_cons_of_pos (by simp[hy]),e1,e2];rfl
  ·obtain⟨e1,e2,e3⟩:=big ac;rw[filter_cons_of_neg al,filter_cons_of_neg al,List.find?_cons_of_neg al,e1,e2,e3];rfl
theorem LX(k:Int):(yw key l p).find? (λx=>key x==k)=if k=key p then some p else l.find? (λx=>key x==k):=by
 unfold yw;split
 ·rename_i e;rw[List.find?_append,find?_eq_none.2 (λx hx=>by have:=(mem_filter.1 hx).2;simp at this⊢;omega),List.find?_cons_of_pos (by simp[e])];rfl
 ·rename_i e;rw[List.find?_append,List.find?_cons_of_neg al,List.find?_filter,List.find?_filter];rcases Int.lt_or_gt_of_ne e with hlt|hlt
  ·have e1:(λa:α=>decide (decide (key a<key p)=true/\(key a==k)=true))=λx=>key x==k:=by
    funext x;rw[Bool.eq_iff_iff];simp;omega
   have e2:l.find? (λa=>decide (decide (key p<key a)=true/\(key a==k)=true))=none:=find?_eq_none.2 λx _=>by simp;omega
   rw[e1,e2,Option.or_none]
  ·have e1:(λa:α=>decide (decide (key p<key a)=true/\(key a==k)=true))=λx=>key x==k:=by
    funext x;rw[Bool.eq_iff_iff];simp;omega
   have e2:l.find? (λa=>decide (decide (key a<key p)=true/\(key a==k)=true))=none:=find?_eq_none.2 λx _=>by simp;omega
   rw[e1,e2,Option.none_or]
def jX(key:α->Int)(l:List α)(k:Int):List α:=l.filter λx=>decide (key x<=k)
theorem C0(pw:l.Pairwise λx y=>key x<key y)(k:Int):jX key (yw key l p) k=jX key (yw key l p) (k-1)++(match(if k=key p then some p else l.find? (λx=>key x==k))with|some x=>[x]|none=>[]):=by
 rw[<-LX];exact Dz k (sE pw)
theorem Dy{k:Int}(h:∀x∈l,key x<=k):jX key l k=l:=List.filter_eq_self.2 λx hx=>by simpa using h x hx
theorem BA{k:Int}(h:∀x∈l,k<key x):jX key l k=[]:=List.filter_eq_nil_iff.2 λx hx=>by have:=h x hx;simp;omega
end
theorem LW(x y z:DPair)(h1:il x y=true)(h2:il y z=true):il x z=true:=by
 simp only[il,decide_eq_true_eq]at*;omega
theorem Nv(x y z:DJob)(h1:nQ x y=true)(h2:nQ y z=true):nQ x z=true:=by
 simp only[nQ,decide_eq_true_eq]at*;omega
theorem iy{l:List DPair}(h:bo l=true):(∀x∈l,dV x=true)/\l.Pairwise λx y=>x.key<y.key:=by
 simp only[bo,and_eq_true,all_eq_true]at h;exact⟨h.1,(nX LW h.2).imp λh=>by simpa[il]using h⟩
theorem Ay{l:List DPair}(h1:∀x∈l,dV x=true)(h2:l.Pairwise λx y=>x.key<y.key):bo l=true:=by
 simp only[bo,and_eq_true,all_eq_true];exact⟨h1,nt (h2.imp λh=>by simpa[il]using h)⟩
def qO(l:List DPair)(p:DPair):List DPair:=yw DPair.key l p
theorem yM{l:List DPair}{p:DPair}(h:bo l=true)(hp:dV p=true):bo (qO l p)=true:=by
 obtain⟨f1,f2⟩:=iy h;refine Ay (λx hx=>?_) (sE f2);rcases AE hx with hx|rfl
 ·exact f1 x hx
 ·exact hp
def Lr(l:List DPair)(k:Int):List DPair:=l.filter λx=>x.key !=k
theorem OC{l:List DPair}(h:bo l=true)(k:Int):bo (Lr l k)=true:=
 Ay (λx hx=>(iy h).1 x (mem_filter.1 hx).1) ((iy h).2.sublist List.filter_sublist)
def Aj(x y:DJob):Prop:=y.fired=0\/x.fired≠y.fired
theorem Gb(x y:DJob):pV x y=false↔Aj x y:=by
 simp only[pV,Aj,Bool.and_eq_false_iff,bne_eq_false_iff_eq,beq_eq_false_iff_ne,ne_eq]
theorem cN{l:List DJob}(h:bu l=true):l.length<=8/\(∀x∈l,jV x=true)/\(l.Pairwise λx y=>x.id<y.id)/\l.Pairwise Aj:=by
 simp only[bu,and_eq_true,decide_eq_true_eq,all_eq_true]at h;refine⟨h.1.1.1,h.1.1.2,(nX Nv h.1.2).imp λh=>by simpa[nQ]using h,pairwise_iff_getElem.2 λi j hi hj hij=>?_⟩;exact(Gb _ _).1 (oX h.2 hij hj)
theorem CP{l:List DJob}(h0:l.length<=8)(h1:∀x∈l,jV x=true)(h2:l.Pairwise λx y=>x.id<y.id)(h3:l.Pairwise Aj):bu l=true:=by
 simp only[bu,and_eq_true,decide_eq_true_eq,all_eq_true];exact⟨⟨⟨h0,h1⟩,nt (h2.imp λh=>by simpa[nQ]using h)⟩,ll λj k hj hk=>(Gb _ _).2 (pairwise_iff_getElem.1 h3 j k ac hk hj)⟩
def t9(l:List DJob)(id:Int):Option DJob:=l.find? λx=>x.id==id
def oJ(l:List DJob)(j:DJob):List DJob:=yw DJob.id l j
theorem Nx{l:List DJob}(h:bu l=true):∀x∈l,∀y∈l,x.id<y.id->Aj x y:=by
 obtain⟨_,_,f3,f4⟩:=cN h;intro x hx y hy hlt;obtain⟨i,hi,rfl⟩:=List.getElem_of_mem hx;obtain⟨j,hj,rfl⟩:=List.getElem_of_mem hy;rcases Nat.lt_trichotomy i j with hij|rfl|hij
 ·exact pairwise_iff_getElem.1 f4 i j hi hj hij
 ·omega
 ·have:=pairwise_iff_getElem.1 f3 j i hj hi hij;omega
theorem Kh{l:List DJob}{j:DJob}(h:bu l=true)(hj:jV j=true)(hf:j.fired=0)(hn:t9 l j.id=none)(hl:l.length<8):bu (oJ l j)=true:=by
 obtain⟨f1,f2,f3,f4⟩:=cN h;have hne:∀x∈l,x.id≠j.id:=λx hx=>by simpa using find?_eq_none.1 hn x hx
 refine CP (by unfold oJ;rw[NQ hne];omega) (λx hx=>?_) (sE f3) (GA f4 (λx _ _=> .inl hf) (λx _ _=>?_) (Nx h))
 ·rcases AE hx with hx|rfl
  ·exact f2 x hx
  ·exact hj
 ·unfold Aj;omega
def kJ(l:List DJob)(k:Nat)(i:Int):List DJob:=l.modify k λx=>⟨x.id,x.due,x.key,x.value,i⟩
theorem j8{l:List DJob}{k:Nat}{i:Int}{n:Nat}(hn:n<(kJ l k i).length):(kJ l k i)[n]=if k=n then⟨(l[n]'(by simpa[kJ]using hn)).id,(l[n]'(by simpa[kJ]using hn)).due,(l[n]'(by simpa[kJ]using hn)).key,(l[n]'(by simpa[kJ]using hn)).value,i⟩else l[n]'(by simpa[kJ]using hn):=by
 simp only[kJ,List.getElem_modify]
theorem Np{l:List DJob}{k:Nat}{i:Int}(h:bu l=true)(hi:1<=i/\i<=2000)(hn:∀x∈l,x.fired≠i):bu (kJ l k i)=true:=by
 obtain⟨f1,f2,f3,f4⟩:=cN h;have hlen:(kJ l k i).length=l.length:=by simp[kJ]
 refine CP ac (λx hx=>?_) (pairwise_iff_getElem.2 λa b ha hb hab=>?_) (pairwise_iff_getElem.2 λa b ha hb hab=>?_)
 ·obtain⟨n,hn,rfl⟩:=List.getElem_of_mem hx;have:=f2 _ (List.getElem_mem (by omega:n<l.length));rw[j8];split
  ·simp only[jV,aI,and_eq_true,decide_eq_true_eq]at this⊢;exact⟨this.1,ac,hi.2⟩
  ·exact this
 ·have:=pairwise_iff_getElem.1 f3 a b ac ac hab;rw[j8,j8];split<;>split<;>exact this
 ·have:=pairwise_iff_getElem.1 f4 a b ac ac hab;have h1:=hn _ (List.getElem_mem (by omega:a<l.length));have h2:=hn _ (List.getElem_mem (by omega:b<l.length));rw[j8,j8];unfold Aj at*
  by_cases e1:k=a
  ·have e2:¬k=b:=ac;rw[if_pos e1,if_neg e2];exact .inr λe=>h2 e.symm
  ·rw[if_neg e1];by_cases e2:k=b
   ·rw[if_pos e2];exact .inr h1
   ·rw[if_neg e2];exact this
theorem ub{l:DLease}(h:dD l=true):l=⟨0,0,0⟩\/((l.holder=2\/l.holder=3)/\(1<=l.epoch/\l.epoch<=1000)/\1<=l.til/\l.til<=1001000):=by
 simp only[dD,fz,aI,or_eq_true,and_eq_true,decide_eq_true_eq,beq_iff_eq]at h;rcases h with h|h
 ·exact .inl h
 ·exact .inr ⟨h.1.1,h.1.2,h.2⟩
theorem Ag{l:DLease}(h:(l.holder=2\/l.holder=3)/\(1<=l.epoch/\l.epoch<=1000)/\1<=l.til/\l.til<=1001000):dD l=true:=by
 simp only[dD,fz,aI,or_eq_true,and_eq_true,decide_eq_true_eq,beq_iff_eq];exact .inr ⟨⟨h.1,h.2.1⟩,h.2.2⟩
def Ec(l:DLease)(t:Int):Bool:=dD l&&tOk t&&(l.holder==0||decide (l.til<=t))
def fS(l:DLease)(who t long:Int):Bool:=fz who&&tOk t&&aI long 1 1000&&(l.holder==who||(Ec l t&&decide (l.epoch<1000)))
def uJ(l:DLease)(who t long:Int):DLease:=if l.holder=who then⟨l.holder,l.epoch,if l.til>t+long then l.til else t+long⟩else⟨who,l.epoch+1,t+long⟩
theorem Nt{l:DLease}{who t long:Int}(h:dD l=true)(hg:fS l who t long=true):dD (uJ l who t long)=true:=by
 simp only[fS,fz,tOk,aI,and_eq_true,or_eq_true,decide_eq_true_eq,beq_iff_eq]at hg;obtain⟨⟨⟨h1,h2⟩,h3⟩,h4⟩:=hg;have hf:=ub h;unfold uJ;split
 ·rename_i e;rcases hf with hf|hf
  ·rw[hf]at e;simp only at e;omega
  ·refine Ag ⟨hf.1,hf.2.1,?_⟩;simp only;split<;>omega
 ·rename_i e;have h4:=h4.resolve_left e;refine Ag ⟨h1,?_,?_⟩
  ·rcases hf with hf|hf
   ·rw[hf];simp
   ·simp only;omega
  ·simp only;omega
def Ef(l:DLease)(who epoch t:Int):Bool:=dD l&&tOk t&&l.holder !=0&&l.holder==who&&l.epoch==epoch&&decide (t<l.til)
def mw(s:DState)(e:DEntry):Bool:=a9 s&&bn e&&e.index==s.index+1&&decide (s.time<=e.time)
def nR(o:DOp):DJob:=⟨o.a,o.b,o.c,o.d,0⟩
def t5(l:List DJob)(j:DJob):Bool:=jV j&&j.fired==0&&(t9 l j.id).isNone&&decide (l.length<8)
def jt(s:DState)(e:DEntry):Bool:=mw s e&&e.op.kind==4&&(match t9 s.jobs e.op.a with|some j=>j.fired==0&&decide (j.due<=e.time)&&Ef s.lease e.client e.op.b e.time|none=>false)
def kq(s:DState)(e:DEntry):Int:=
 if !mw s e then-1 else if e.op.kind=1 then 1 else if e.op.kind=2 then(if(s.pairs.find? λx=>x.key==e.op.a).isSome then 2 else 0)else if e.op.kind=3 then(if t5 s.jobs (nR e.op)then 3 else 0)else if e.op.kind=4 then(if jt s e then 4 else 0)else if e.op.kind=5 then(if fS s.lease e.client e.time e.op.a then 5 else 0)else 0
theorem sW{s:DState}(h:a9 s=true):∀j∈s.jobs,j.fired<=s.index:=by
 simp only[a9,and_eq_true,all_eq_true,decide_eq_true_eq]at h;exact h.2
theorem JU{s:DState}(h1:0<=s.index/\s.index<=2000)(h2:0<=s.time/\s.time<=1000000)(h3:bo s.pairs=true)(h4:bu s.jobs=true)(h5:dD s.lease=true)(h6:∀j∈s.jobs,j.fired<=s.index):a9 s=true:=by
 simp only[a9,tOk,aI,and_eq_true,all_eq_true,decide_eq_true_eq];exact⟨⟨⟨⟨⟨h1,h2⟩,h3⟩,h4⟩,h5⟩,h6⟩
structure MS (s:DState) (e:DEntry):Prop where
 st:a9 s=true
 en:bn e=true
 ix:e.index=s.index+1
 tm:s.time<=e.time
theorem Pu{s:DState}{e:DEntry}(h:mw s e=true):MS s e:=by
 simp only[mw,and_eq_true,decide_eq_true_eq,beq_iff_eq]at h;exact⟨h.1.1.1,h.1.1.2,h.1.2,h.2⟩
theorem nU{s:DState}{e:DEntry}{ps:List DPair}{js:List DJob}{l:DLease}(h:MS s e)(hp:bo ps=true)(hj:bu js=true)(hl:dD l=true)(hf:∀j∈js,j.fired<=e.index):a9 ⟨e.index,e.time,ps,js,l⟩=true:=by
 have he:=d6 h.en;exact JU (by show 0<=e.index/\e.index<=2000;omega) he.2.1 hp hj hl hf
theorem Lw{s:DState}{e:DEntry}(h:MS s e):∀j∈s.jobs,j.fired<=e.index:=λj hj=>by
 have:=sW h.st j hj;have:=h.ix;omega
end
section
open Go.ChangeShapes Go.WideShapes Go.RowKit
variable {c:DClient}{n:DNet}{s:DSched}{w:DWorld}
structure gG (w:DWorld):Prop where
 clocks:cK w.clocks=true
 ul:w.up.length=6
 net:dg w.net=true
 u4:dy w 4=true
 u5:dy w 5=true
 ann:cr w.ann=true
 annId:w.ann.id=4
 bob:cr w.bob=true
 bobId:w.bob.id=5
 left:cY w.left 2 (dy w 2)=true
 right:cY w.right 3 (dy w 3)=true
 log:(if dy w 0 then logOk w.log else iC w.log)=true
 store:(if dy w 1 then storeOk w.store else fk w.store)=true
theorem qQ(h:bz w=true):gG w:=by
 simp only[bz,and_eq_true,decide_eq_true_eq,beq_iff_eq]at h;obtain⟨⟨⟨⟨⟨⟨⟨⟨⟨⟨⟨⟨h1,h2⟩,h3⟩,h4⟩,h5⟩,h6⟩,h7⟩,h8⟩,h9⟩,ha⟩,hb⟩,hc⟩,hd⟩:=h;exact⟨h1,h2,h3,h4,h5,h6,h7,h8,h9,ha,hb,hc,hd⟩
theorem gG.ok(h:gG w):bz w=true:=by
 simp only[bz,and_eq_true,decide_eq_true_eq,beq_iff_eq];exact⟨⟨⟨⟨⟨⟨⟨⟨⟨⟨⟨⟨h.clocks,h.ul⟩,h.net⟩,h.u4⟩,h.u5⟩,h.ann⟩,h.annId⟩,h.bob⟩,h.bobId⟩,h.left⟩,h.right⟩,h.log⟩,h.store⟩
theorem gG.logOk(h:gG w)(hu:dy w 0=true):logOk w.log=true:=by have:=h.log;rwa[if_pos hu]at this
theorem gG.storeOk(h:gG w)(hu:dy w 1=true):storeOk w.store=true:=by have:=h.store;rwa[if_pos hu]at this
theorem mr{id:Int}{up:Bool}(h:cY s id up=true):eZ s=true/\s.id=id:=by
 simp only[cY,and_eq_true,beq_iff_eq]at h;exact h.1
theorem Kq{id:Int}(h:eZ s=true)(hi:s.id=id):cY s id true=true:=by simp[cY,h,hi]
theorem gG.withNet(h:gG w)(hn:dg n=true):gG {w with net:=n}:={h with net:=hn}
theorem gG.withClocks(h:gG w){l:List Int}(hl:cK l=true):gG {w with clocks:=l}:={h with clocks:=hl}
theorem gG.withLog(h:gG w){l:DLogNode}(hu:dy w 0=true)(hl:Go.Proofs.YtlmoekpinpafeaaGreat.logOk l=true):gG {w with log:=l}:=
 {h with log:=by show(if dy w 0 then _ else _)=true;rw[if_pos hu];exact hl}
theorem gG.withStore(h:gG w){l:DStore}(hu:dy w 1=true)(hl:Go.Proofs.YtlmoekpinpafeaaGreat.storeOk l=true):gG {w with store:=l}:=
 {h with store:=by show(if dy w 1 then _ else _)=true;rw[if_pos hu];exact hl}
theorem gG.withLeft(h:gG w)(hu:dy w 2=true)(hs:eZ s=true)(hi:s.id=2):gG {w with left:=s}:=
 {h with left:=by show cY s 2 (dy w 2)=true;rw[hu];exact Kq hs hi}
theorem gG.withRight(h:gG w)(hu:dy w 3=true)(hs:eZ s=true)(hi:s.id=3):gG {w with right:=s}:=
 {h with right:=by show cY s 3 (dy w 3)=true;rw[hu];exact Kq hs hi}
theorem gG.withAnn(h:gG w)(hc:cr c=true)(hi:c.id=4):gG {w with ann:=c}:={h with ann:=hc,annId:=hi}
theorem gG.withBob(h:gG w)(hc:cr c=true)(hi:c.id=5):gG {w with bob:=c}:={h with bob:=hc,bobId:=hi}
theorem Qb{l:List Bool}{n k:Nat}(hl:l.length=6)(hn:n<=3):(l.set n false).getD k false=if n=k then false else l.getD k false:=by
 rw[List.getD_eq_getElem?_getD,List.getElem?_set];split
 ·rename_i h;subst h;rw[if_pos ac];rfl
 ·rw[List.getD_eq_getElem?_getD]
theorem gG.fell{v:DWorld}{n:Nat}(h:gG w)(hn:n<=3)(hup:v.up=w.up.set n false)(hc:v.clocks=w.clocks)(hnet:v.net=w.net)(ha:v.ann=w.ann)(hb:v.bob=w.bob)
  (h0:if n=0 then iC v.log=true else v.log=w.log) (h1:if n=1 then fk v.store=true else v.store=w.store)
  (h2:if n=2 then v.left=fW 2 else v.left=w.left) (h3:if n=3 then v.right=fW 3 else v.right=w.right):gG v:=by
 have hu:∀k,dy v k=if n=k then false else dy w k:=λk=>by
  unfold dy;rw[hup];exact Qb h.ul hn
 refine⟨by rw[hc];exact h.clocks,by rw[hup];simpa using h.ul,by rw[hnet];exact h.net,by rw[hu,if_neg ac];exact h.u4,by rw[hu,if_neg ac];exact h.u5,by rw[ha];exact h.ann,by rw[ha];exact h.annId,by rw[hb];exact h.bob,by rw[hb];exact h.bobId,?_,?_,?_,?_⟩
 ·rw[hu];by_cases e:n=2
  ·rw[if_pos e]at h2;rw[h2,if_pos e];rfl
  ·rw[if_neg e]at h2;rw[h2,if_neg e];exact h.left
 ·rw[hu];by_cases e:n=3
  ·rw[if_pos e]at h3;rw[h3,if_pos e];rfl
  ·rw[if_neg e]at h3;rw[h3,if_neg e];exact h.right
 ·rw[hu];by_cases e:n=0
  ·rw[if_pos e]at h0;rw[if_pos e];exact h0
  ·rw[if_neg e]at h0;rw[h0,if_neg e];exact h.log
 ·rw[hu];by_cases e:n=1
  ·rw[if_pos e]at h1;rw[if_pos e];exact h1
  ·rw[if_neg e]at h1;rw[h1,if_neg e];exact h.store
theorem mG{t:DTwo}(h:fc t=true):DTwo.small 1048576 t:=⟨dd (dr h).1,dd (dr h).2.1⟩
theorem Ga{n:DLogNode}(h:logOk n=true):DLogNode.small 1048576 n:=by
 have f:=OO h;have hh:=(bD f.head).2.2.2.2.1;have h1:=d9 hh;have h2:=d9 f.seenOk;have h3:=(bh f.book).2.2.2.1;have h4:n.owe.length<=n.book.entries.length:=by rw[f.owe,List.length_map];exact List.length_filter_le _ _
 have h5:n.nxt.seen.length<=4:=by
  have hn:=f.nxt;unfold fy at hn;split at hn
  ·simp only[and_eq_true,beq_iff_eq]at hn;rw[hn.2];exact uP hh
  ·rw[beq_iff_eq]at hn;rw[hn];simp[d8]
 exact⟨mG (fT f.two).1,by unfold DHead.small;omega,by unfold DHead.small;omega,by unfold DBook.small;omega,ac,ac⟩
theorem BI{n:DLogNode}(h:iC n=true):DLogNode.small 1048576 n:=by
 simp only[iC,and_eq_true,beq_iff_eq]at h;rw[h.2];exact⟨mG h.1,by simp[DHead.small,d8],by simp[DHead.small,d8],by simp[DBook.small],by simp,by simp⟩
theorem B9{s:DState}(h:a9 s=true):DState.small 1048576 s:=by
 obtain⟨_,_,h3,h4,_⟩:=bJ h;have:=hI h3;have:=(cN h4).1;exact⟨ac,ac⟩
theorem eK{s:DStore}(h:storeOk s=true):DStore.small 1048576 s:=
 ⟨dd (by have:=(E8 h).disk;simp only[cS,and_eq_true]at this;exact this.1),B9 (E8 h).state⟩
theorem yC{s:DStore}(h:fk s=true):DStore.small 1048576 s:=by
 simp only[fk,and_eq_true,beq_iff_eq]at h;rw[h.2];exact⟨dd h.1,by simp[DState.small,fb]⟩
theorem uk(h:eZ s=true):DSched.small 1048576 s:=by
 have:=(Hk h).jobs;simp only[gz,and_eq_true,decide_eq_true_eq]at this;have:=this.1.1.1.2;show s.view.jobs.opens.length<=_;omega
theorem jm(h:cr c=true):DClient.small 1048576 c:=by
 have f:=Nh h;have:=f.len;have:=f.gl;exact⟨ac,ac⟩
theorem dL(h:dg n=true):DNet.small 1048576 n:=by
 obtain⟨h1,h2,h3,_,_⟩:=cI h;refine⟨ac,λm hm=>?_,ac⟩;have:=h3 m hm;simp only[jC,and_eq_true]at this;have:=dl this.2;show m.row.length<=_;omega
theorem bp(h:bz w=true):DWorld.small 1048576 w:=by
 have f:=qQ h;have hc:=f.clocks;simp only[cK,and_eq_true,decide_eq_true_eq]at hc;refine⟨?_,?_,uk (mr f.left).1,uk (mr f.right).1,jm f.ann,jm f.bob,dL f.net,ac,by have:=f.ul;omega⟩
 ·have:=f.log;split at this
  ·exact Ga this
  ·exact BI this
 ·have:=f.store;split at this
  ·exact eK this
  ·exact yC this
end
section
open Go.RowKit
section
variable {E:a6} {S:bj} {Z:Nat->Prop} {ρ:Nat->Value} {st:ASt} {a:Act} {w:World} {K:ASt->Prop} {o:Oper}
structure ng where
 id:Nat
 fid:Nat
 b:Nat
 us:List Value
 t:TypeId
def Gy(b:Nat)(us:List Value)(t:TypeId):World->Value->Prop:=λw v=>v= .pointer (some ⟨b,0,none⟩)/\w.heap[b]? =some (.cells us.toArray t (0,0))
def zO(R:(Nat->Prop)->World->Value->Prop):AO:= .frame [.one (.d (.x R))] [.bool true]
def DC(ps:List ng)(w:World):Prop:=∀p∈ps,w.heap[p.b]? =some (.cells p.us.toArray p.t (0,0))
def Ql(E:a6)(Z:Nat->Prop)(ρ:Nat->Value)(o:Oper)(a:Act)(w:World)(C:World->Prop)(K:AV->Prop):Prop:=∃x v,bv Z w ρ x v/\(∀w',C w'->(execOp a.eval o).run E.P w'= .ok (.value v) w')/\K x
theorem lX{t:TypeId}{i:TI}(hi:aR E.P t i){b off:Nat}{us:List Value}{cs:List AC}(hl:us.length=cs.length)(hr:∀(j:Nat) c u,cs[j]? =some c->us[j]? =some u->dZ Z w ρ c u){K:AV->Prop}(hk:qZ i cs K):
  ∃x v,(∀w':World,(∀j u,us[j]? =some u->w'.cell? ⟨b,off+j,none⟩=some u)->(loadVar t ⟨b,off,none⟩).run E.P w'= .ok v w')/\bv Z w ρ x v/\K x:=by
 unfold qZ at hk;unfold loadVar;split at hk
 ·rename_i hg;obtain⟨hle,hk⟩:=nr hk;refine⟨_,.agg (us.take i.size).toArray,λw' hc=>?_,.agg _ (us.take i.size) (by simp[hl]) λj c u h1 h2=>?_,hk⟩
  ·have hlen:(us.take i.size).length=i.size:=al;have:=run_loadCells_list (P:=E.P) w' ⟨b,off,none⟩ (us.take i.size) (λj u hu=>by
    have hadd:(⟨b,off,none⟩:Addr).add j=⟨b,off+j,none⟩:=by unfold Addr.add;split<;>simp_all
    rw[hadd];rw[List.getElem?_take]at hu;split at hu
    ·exact hc j u hu
    ·cases hu)
   rw[hlen]at this;simp only[Sem.run_bind,hi.ag,hg,Result.andThen_ok,if_true,hi.sz,this,Sem.run_pure]
  ·rw[List.getElem?_take]at h1 h2;split at h1
   ·rename_i hlt;rw[if_pos hlt]at h2;exact hr j c u h1 h2
   ·cases h1
 ·rename_i hg;split at hk
  ·rename_i c r;cases us with
   |nil=>simp at hl
   |cons u us=>
    refine⟨_,u,λw' hc=>?_,.one _ _ (hr 0 c u rfl rfl),hk⟩;have:=hc 0 u rfl;simp only[Nat.add_zero]at this;simp[hi.ag,hg,this]
  ·exact hk.elim
theorem HV(he:E.Ok){t:TypeId}{i:TI}(hi:aR E.P t i){us:List Value}{cs:List AC}(hl:us.length=cs.length)(hr:∀(j:Nat) c u,cs[j]? =some c->us[j]? =some u->dZ Z w ρ c u){off:Nat}(hoff:off<=cs.length){K:AV->Prop}(hk:qZ i (cs.drop off) K):
  ∃x v,(∀w',(part t us.toArray off).run E.P w'= .ok v w')/\bv Z w ρ x v/\K x:=by
 unfold qZ at hk;unfold part;split at hk
 ·rename_i hg;obtain⟨hle,hk⟩:=nr hk;refine⟨_,.agg ((us.drop off).take i.size).toArray,λw'=>?_,.agg _ ((us.drop off).take i.size) (by simp[hl]) λj c u h1 h2=>?_,hk⟩
  ·simp only[Sem.run_bind,hi.ag,hg,Result.andThen_ok,if_true,hi.sz,Sem.run_pure];congr 2;simp[List.extract]
  ·rw[List.getElem?_take]at h1 h2;split at h1
   ·rename_i hlt;rw[if_pos hlt]at h2;rw[getElem?_drop]at h1 h2;exact hr _ c u h1 h2
   ·cases h1
 ·rename_i hg;split at hk
  ·rename_i c r hcs;have h1:cs[off]? =some c:=by
    have:=congrArg (·[0]?) hcs;simpa using this
   have hlt:off<us.length:=by rw[hl];exact(List.getElem?_eq_some_iff.1 h1).1
   refine⟨_,us[off],λw'=>?_,.one _ _ (hr off c us[off] h1 (List.getElem?_eq_getElem hlt)),hk⟩;simp[hi.ag,hg,hlt]
  ·exact hk.elim
def DQ:List ng->Nat->(ng->Prop)->Prop
 |[],_,_=>False
 |p::r,i,K=>match Nat.beq p.id i with
  |true=>K p
  |false=>DQ r i K
theorem zz{K:ng->Prop}{i:Nat}:∀{ps:List ng},DQ ps i K->∃p∈ps,p.id=i/\K p
 |[],h=>h.elim
 |p::r,h=>by
  unfold DQ at h;split at h
  ·rename_i e;exact⟨p,by simp,eq_of_beq_eq_true e,h⟩
  ·obtain⟨q,h1,h2⟩:=zz h;exact⟨q,by simp[h1],h2⟩
def J8:List AV->(List AC->Prop)->Prop
 |[],K=>K []
 | .one c::r,K=>J8 r λcs=>K (c::cs)
 |_::_,_=>False
theorem wV:∀{vs:List AV} {K:List AC->Prop},J8 vs K->∃cs,vs=cs.map .one/\K cs
 |[],_,h=>⟨[],rfl,h⟩
 | .one c::r,K,h=>by obtain⟨cs,e,hk⟩:=wV (vs:=r) h;exact⟨c::cs,by rw[e];rfl,hk⟩
 | .agg _::_,_,h=>h.elim
 | .tup _::_,_,h=>h.elim
def Qu(op:BinOp)(x y:AV)(K:AV->Prop):Prop:=
 match x,y with
 | .one (.d (.pv (.int k a))),.one (.d (.pv (.int k' b)))=>match zJ k k' with
  |true=>xA op k a b K
  |false=>False
 |_,_=>False
theorem HK{E:a6}{op:BinOp}{k:IntKind}{x y:Int}{K:AV->Prop}(h:xA op k x y K):∃v,v.oneCell'=true/\(∀(w:World) t,(binOp op t (.int k x) (.int k y)).run E.P w= .ok v w)/\K (.one (.d (.pv v))):=by
 cases op<;>simp only[xA]at h<;>try exact h.elim
 case add=>obtain⟨c,rfl,hk⟩:=h.h;exact⟨_,rfl,λw t=>by simp[binOp,Op.intArith],hk⟩
 case sub=>obtain⟨c,rfl,hk⟩:=h.h;exact⟨_,rfl,λw t=>by simp[binOp,Op.intArith],hk⟩
 case mul=>obtain⟨c,rfl,hk⟩:=h.h;exact⟨_,rfl,λw t=>by simp[binOp,Op.intArith],hk⟩
 case quo=>obtain⟨c,rfl,hk⟩:=h.2.h;exact⟨_,rfl,λw t=>by simp[binOp,Op.intDiv,h.1],hk⟩
 case rem=>exact⟨_,rfl,λw t=>by simp[binOp,Op.intDiv,h.1],h.2⟩
 case and=>exact⟨_,rfl,λw t=>by simp[binOp,Op.intBits,Fu],h⟩
 case xor=>exact⟨_,rfl,λw t=>by simp[binOp,Op.intBits,Oj],h⟩
 case shr=>
  split at h
  ·rename_i hb;have hb:¬y<0:=by rw[decide_eq_true_eq]at hb;omega
   exact⟨_,rfl,λw t=>by simp[binOp,Op.shift,Mx,hb],h⟩
  ·exact h.elim
 all_goals exact⟨_,rfl,λw t=>by simp[binOp,Op.intCmp],h⟩
def M2(E:a6)(ps:List ng)(pre:Bool)(o:Oper)(st:ASt)(K:AV->Prop):Prop:=
 match o.op with
 | .move x| .assign x=>aEv st x K
 | .binOp op _ x y _=>aEv st x λx=>aEv st y λy=>Qu op x y K
 | .field t x f=>aEv st x λx=>uu E t x f K
 | .fieldAddr t x f=>aEv st x λx=>jY E t x f K
 | .extract x i=>aEv st x λx=>match x with
  | .tup vs=>nq vs i K
  |_=>False
 | .load t x=>aEv st x λx=>match x with
  | .one (.ref id k s off) => DQ ps id fun p => aOb st.ob p.id fun o1 => And (o1 = .any (Gy p.b p.us p.t)) (aOb st.ob p.fid fun o2 => match o2 with
   | .frame vs us=>And (k=0) (And (us=p.us) (J8 vs λcs=>vn cs off λcs=>aTI E.T t λi=>qZ i cs K))
   |_=>False)
  | .one (.ptr ds)=>match pre with
   |true=>xB ds λcs=>aTI E.T t λi=>qZ i cs K
   |false=>False
  |_=>False
 | .indexAddr t x i=>aEv st x λx=>aEv st i λi=>match x with
  | .one (.d (.sl xs))=>match i with
   | .one (.d (.pv (.int _ n)))=>aTI E.T t λti=>match ti.kind with
    | .sl e=>aTI E.T e λj=>match j.size with
     |0=>False
     |s+1=>AIx xs n λ_ x=>match Fg x (s+1)with
      |true=>K (.one (.ptr x))
      |false=>False
    |_=>False
   |_=>False
  |_=>False
 |_=>False
theorem Gz(he:E.Ok){ps:List ng}{pre:Bool}{C:World->Prop}{K:AV->Prop}(h:Sim E.W S Z ρ st a w)(hC1:∀w',C w'->DC ps w')(hC2:pre=true->∀w',C w'->∀b,Z b->w'.heap[b]? =w.heap[b]?)(hk:M2 E ps pre o st K):Ql E Z ρ o a w C K:=by
 unfold M2 at hk;split at hk
 ·rename_i x ho;obtain⟨v,hv,hk⟩:=a7 h hk;exact⟨_,_,hv,λw' _=>by simp[execOp,ho],hk⟩
 ·rename_i x ho;obtain⟨v,hv,hk⟩:=a7 h hk;exact⟨_,_,hv,λw' _=>by simp[execOp,ho],hk⟩
 ·rename_i op t x y t2 ho;obtain⟨vx,hx,hk⟩:=a7 h hk;obtain⟨vy,hy,hk⟩:=a7 h hk;unfold Qu at hk;split at hk
  ·rename_i k m k' n;split at hk
   ·rename_i e;have e:=Cv e;subst e;have e1:=bE hx;have e2:=bE hy;obtain⟨v,h1,h2,hk⟩:=HK (E:=E) hk;refine⟨_,_,(cC h1),λw' _=>?_,hk⟩;simp only[execOp,ho,e1,e2];rw[fJ (by rfl)];simp[h2]
   ·exact hk.elim
  ·exact hk.elim
 ·rename_i t x f ho;obtain⟨vx,hx,hk⟩:=a7 h hk;unfold uu at hk;split at hk
  ·rename_i cs;obtain⟨i,hi,hk⟩:=be he hk;split at hk
   ·rename_i fs hfs;obtain⟨fields,hu,hf⟩:=hi.stf hfs;obtain⟨p,hp,hk⟩:=d4 hk;obtain⟨j,hj,hk⟩:=be he hk;obtain⟨hle,hk⟩:=iQ hk;rw[<-hf,getElem?_map]at hp;obtain⟨fl,hfl,rfl⟩:=Option.map_eq_some_iff.1 hp;have hfl':fields[f]? =some fl:=by simpa using hfl
    generalize hev:a.eval x=ve at hx;cases hx with
    |agg _ us hl hr=>
     obtain⟨y,v,hrun,hy,hk⟩:=HV (w:=w) (ρ:=ρ) he hj hl hr hle hk;refine⟨_,_,hy,λw' _=>?_,hk⟩;simp[execOp,ho,hev,Instr.field,run_underlying hu,hfl',asAgg,hrun]
   ·exact hk.elim
  ·exact hk.elim
 ·rename_i t x f ho;obtain⟨vx,hx,hk⟩:=a7 h hk;obtain⟨i,hi,hk⟩:=be he hk;split at hk
  ·rename_i fs hfs;obtain⟨fields,hu,hf⟩:=hi.stf hfs;obtain⟨p,hp,hk⟩:=d4 hk;obtain⟨j,hj,hk⟩:=be he hk;rw[<-hf,getElem?_map]at hp;obtain⟨fl,hfl,rfl⟩:=Option.map_eq_some_iff.1 hp;have hfl':fields[f]? =some fl:=by simpa using hfl
   split at hk
   ·exact hk.elim
   ·rename_i n hn;have run:∀b off,a.eval x= .pointer (some ⟨b,off,none⟩)->∀w',(execOp a.eval o).run E.P w'= .ok (.value (.pointer (some ⟨b,off+fl.offset,none⟩))) w':=by
     intro b off e w';have:=sI (P:=E.P) (b:=b) (off:=off) (fl:=fl) w' hj.sz ac;simp[execOp,ho,e,Instr.fieldAt,run_underlying hu,hfl',Instr.sureAddr,this]
    split at hk
    ·cases hx with
     |one _ _ hx=>
      obtain⟨b,hb,e⟩:=hx;refine⟨_,_,(oa hb ?_),(λw' _=>run _ _ e w'),hk⟩;rw[Nat.add_assoc]
    ·cases hx with
     |one _ _ hx=>
      obtain⟨b,off,us,e,hZ,hl,hc,hd⟩:=hx;obtain⟨hle,hk⟩:=iQ hk;refine⟨_,_,(v4 ⟨b,off+fl.offset,us.drop fl.offset,rfl,hZ,by simp[hl],λi u hu=>?_,λi x u h1 h2=>?_⟩),(λw' _=>run _ _ e w'),hk⟩
      ·rw[getElem?_drop]at hu;rw[Nat.add_assoc];exact hc _ u hu
      ·rw[getElem?_drop]at h1 h2;exact hd _ x u h1 h2
    ·exact hk.elim
  ·exact hk.elim
 ·rename_i x i ho;obtain⟨vx,hx,hk⟩:=a7 h hk;split at hk
  ·rename_i vs;obtain⟨y,hy,hk⟩:=d4 hk;generalize hev:a.eval x=ve at hx;cases hx with
   |tup _ us hl hr=>
    have hlt:i<us.length:=by rw[hl];exact(List.getElem?_eq_some_iff.1 hy).1
    refine⟨_,_,(hr i y us[i] hy (List.getElem?_eq_getElem hlt)),λw' _=>?_,hk⟩;simp[execOp,ho,hev,Instr.extract,hlt]
  ·exact hk.elim
 ·rename_i t x ho;obtain⟨vx,hx,hk⟩:=a7 h hk;split at hk
  ·rename_i id k s off;obtain⟨p,hp,hid,hk⟩:=zz hk;obtain⟨o1,ho1,rfl,hk⟩:=bY hk;obtain⟨o2,ho2,hk⟩:=bY hk;cases o2 with
   |frame vs us=>
    simp only at hk;obtain⟨ek,eu,hk1⟩:=hk;subst ek eu;obtain⟨cs,e0,hk⟩:=wV hk1;subst e0;obtain⟨hle,hk⟩:=iQ hk;obtain⟨i,hi,hk⟩:=be he hk;cases hx with
    |one _ _ hx=>
     obtain⟨b,hb,e⟩:=hx;obtain⟨b',hb',hlt,hq⟩:=(show cu Z w ρ p.id (.any (Gy p.b p.us p.t))from h.ws.obj p.id _ ho1);have hq0:=hq w rfl;rw[<-hid,hq0.1]at hb;simp only[br]at hb;injection hb with hb
     subst hb;rw[Nat.zero_mul,Nat.zero_add]at e;obtain⟨_,hfl,hfr⟩:=(show cu Z w ρ p.fid (.frame (cs.map .one) p.us)from h.ws.obj p.fid _ ho2);have hl:p.us.length=cs.length:=by simpa using hfl
     obtain⟨y,v,hrun,hy,hk⟩:=lX (E:=E) (Z:=Z) (w:=w) (ρ:=ρ) hi (b:=p.b) (off:=off) (us:=p.us.drop off) (cs:=cs.drop off) (by simp[hl]) (λj c u h1 h2=>by
      rw[getElem?_drop]at h1 h2;have:=hfr (off+j) (.one c) u (by rw[getElem?_map,h1];rfl) h2;cases this with|one _ _ h=>exact h) hk
     refine⟨_,_,hy,λw' hS=>?_,hk⟩;have hcell:=hC1 w' hS p hp;have:=hrun w' λj u hu=>by
      rw[getElem?_drop]at hu;rw[cell_of_row w' p.b _ _ _ _ hcell];simpa using hu
     simp[execOp,ho,e,Instr.loadAt,Instr.sureAddr,this]
   |_=>exact hk.elim
  ·rename_i ds;split at hk
   ·have hk:=lr hk;obtain⟨i,hi,hk⟩:=be he hk;cases hx with
    |one _ _ hx=>
     obtain⟨b,off,us,e,hZ,hl,hc,hd⟩:=hx;obtain⟨y,v,hrun,hy,hk⟩:=lX (E:=E) (Z:=Z) (w:=w) (ρ:=ρ) hi (b:=b) (off:=off) (us:=us) (cs:=ds.map .d) (by simp[hl]) (λj c u h1 h2=>by
      rw[getElem?_map]at h1;obtain⟨d,h3,rfl⟩:=Option.map_eq_some_iff.1 h1;exact hd j d u h3 h2) hk
     refine⟨_,_,hy,λw' hS=>?_,hk⟩;have:=hrun w' λj u hu=>(World.cell?_of_block (a:=⟨b,off+j,none⟩) (hC2 rfl w' hS b hZ)).trans (hc j u hu);simp[execOp,ho,e,Instr.loadAt,Instr.sureAddr,this]
   ·exact hk.elim
  ·exact hk.elim
 ·rename_i t x ix ho;obtain⟨vx,hx,hk⟩:=a7 h hk;obtain⟨vi,hi,hk⟩:=a7 h hk;split at hk
  ·rename_i xs;split at hk
   ·rename_i ki n;have ei:=bE hi;obtain⟨ti,hti,hk⟩:=be he hk;split at hk
    ·rename_i e hs;have hu:=hti.sl hs;obtain⟨j,hj,hk⟩:=be he hk;split at hk
     ·exact hk.elim
     ·rename_i s hjs;have run:∀(b off k len cap:Nat),n=(k:Int)->k<len->a.eval x= .slice (some ⟨b,off,none⟩) len cap->∀w',(execOp a.eval o).run E.P w'= .ok (.value (.pointer (some ⟨b,off+k*(s+1),none⟩))) w':=by
       intro b off k len cap hn hkl ev w';subst hn;have hadd:(⟨b,off,none⟩:Addr).add (k*(s+1))=⟨b,off+k*(s+1),none⟩:=by unfold Addr.add;split<;>simp_all
       have hnk:¬len<=k:=ac;simp[execOp,ho,ei,ev,Instr.indexAt,asIntOf,run_underlying hu,hkl,hnk,hj.sz,hjs,hadd]
      generalize hev:a.eval x=ve at hx;cases hx with
      |one _ _ hx=>
       cases hx with
       |sl xs A cap s' us hc hm hl hxs hus hr hd=>
        obtain⟨k,ex,hn,hex,hk⟩:=hk.h;split at hk
        ·rename_i hlen;have hlen:=zo hlen;have hkx:=(List.getElem?_eq_some_iff.1 hex).1;have hku:k<us.length:=by rw[hl];exact hkx
         have hu1:us[k]? =some us[k]:=List.getElem?_eq_getElem hku;have hul:=hus us[k] (List.getElem_mem hku);have hs':s'=s+1:=by rw[<-hxs ex (List.mem_of_getElem? hex)];exact hlen
         subst hs';have hne:us.flatten≠ []:=by
          intro h0;have:=nM hus hu1 (List.getElem?_eq_getElem (show 0<us[k].length by omega));rw[h0]at this;simp at this
         obtain⟨b,off,hA,hZ,hcell⟩:=hr.resolve_left hne;subst hA;refine⟨_,_,(v4 ⟨b,off+k*(s+1),us[k],rfl,hZ,by rw[hul,hlen],λi u hu=>?_,λi d u h1 h2=>hd k i ex us[k] d u hex hu1 h1 h2⟩),(λw' _=>run b off k _ cap hn hkx hev w'),hk⟩;rw[Nat.add_assoc];exact hcell _ u (nM hus hu1 hu)
        ·exact hk.elim
    ·exact hk.elim
   ·exact hk.elim
  ·exact hk.elim
 ·exact hk.elim
end
inductive Sch where
 |done
 |take (i:Nat) (s:Sch)
 |one (i:Nat) (s:Sch)
 |two (i:Nat) (s:Sch) (j:Nat) (t:Sch)
 |three (i:Nat) (s:Sch) (j:Nat) (t:Sch) (k:Nat) (u:Sch)
def tkc:List Nat->Sch->Sch
 |[],x=>x
 |n::r,x=> .take n (tkc r x)
def onc:List Nat->Sch->Sch
 |[],x=>x
 |n::r,x=> .one n (onc r x)
structure aJ (X Y:Prop):Prop where
 l:X
 r:Y
def zI(E:a6)(S:bj)(ops:List Oper)(i:Nat)(st:ASt)(K:ASt->Prop):Prop:=
 nq ops i λo=>wS ops o st (λst=>aop E S o st K) (λst=>eT st o.dst (.one .und) K)
def li(R:(Nat->Prop)->World->Value->Prop):List ng->ASt->Prop->Prop
 |[],st,X=>aOb st.ob 9970 λo=>And (o=zO R) X
 |p::r,st,X=>aOb st.ob p.id λo=>And (o= .any (Gy p.b p.us p.t)) (li R r st X)
def Na(E:a6)(ps:List ng)(pre:Bool)(ops:List Oper)(i:Nat)(st:ASt)(K:ASt->Prop):Prop:=
 nq ops i λo=>wS ops o st (λst=>M2 E ps pre o st λv=>eT st o.dst v K) (λst=>eT st o.dst (.one .und) K)
def zK(E:a6)(S:bj)(ps:List ng)(R:(Nat->Prop)->World->Value->Prop)(ops:List Oper):Sch->ASt->(ASt->Prop)->Prop
 | .done,st,K=>K st
 | .take i s,st,K=>Na E ps false ops i st λst=>zK E S ps R ops s st K
 | .one i s,st,K=>zI E S ops i st λst=>li R ps st (zK E S ps R ops s st K)
 | .two i s j t,st,K=>aJ (zI E S ops i st λst=>li R ps st (zK E S ps R ops s st K)) (zI E S ops j st λst=>li R ps st (zK E S ps R ops t st K))
 | .three i s j t k u,st,K=>aJ (zI E S ops i st λst=>li R ps st (zK E S ps R ops s st K)) (aJ (zI E S ops j st λst=>li R ps st (zK E S ps R ops t st K)) (zI E S ops k st λst=>li R ps st (zK E S ps R ops u st K)))
def Kc(E:a6)(S:bj)(ps:List ng)(R:(Nat->Prop)->World->Value->Prop)(ops:List Oper):Sch->ASt->(ASt->Prop)->Prop
 | .take i s,st,K=>Na E ps true ops i st λst=>Kc E S ps R ops s st K
 |s,st,K=>zK E S ps R ops s st K
def inL(L:List Nat)(i:Nat):Bool:=L.contains i
def AF(A:List (List Nat))(L:List Nat)(i:Nat):Bool:=Nat.blt i A.length&& !inL L i&&(A.getD i []).all (inL L)
def kQ(ops:List Oper)(A:List (List Nat)):Sch->List Nat->Bool
 | .done,L=>(List.range A.length).all (inL L)
 | .take i s, L => AF A L i && (match ops[i]? with
   | some o => (List.range A.length).all fun j => Nat.beq j i || inL L j || inL (A.getD j []) i || (match ops[j]? with
    |some oj=>o.apart ops.toArray oj
    |none=>true)
   |none=>false)&&kQ ops A s (i::L)
 | .one i s,L=>AF A L i&&((List.range A.length).all λj=>Nat.beq j i|| !AF A L j)&&kQ ops A s (i::L)
 | .two i s k t,L=>AF A L i&&AF A L k&&((List.range A.length).all λj=>Nat.beq j i||Nat.beq j k|| !AF A L j)&&kQ ops A s (i::L)&&kQ ops A t (k::L)
 | .three i s k t m u,L=>AF A L i&&AF A L k&&AF A L m&&((List.range A.length).all λj=>Nat.beq j i||Nat.beq j k||Nat.beq j m|| !AF A L j)&&kQ ops A s (i::L)&&kQ ops A t (k::L)&&kQ ops A u (m::L)
def NE(ops:List Oper):Bool:=ops.all λo=>match o.op with| .select _ _=>false|_=>true
section
variable {E:a6} {S:bj} {ops:Array Oper}
theorem jc{listed:Array Bool}(hs:listed.size=ops.size){i:Nat}:
  i∈Region.ready .any ops listed↔i<ops.size/\bS listed i=false/\∀e∈dO ops.toList i,bS listed e=true:=by
 rw[mem_ready];constructor
 ·rintro⟨h1,o,ho,h2⟩;have hlt:=(Array.getElem?_eq_some_iff.1 ho).1;refine⟨hlt,?_,λe he=>?_⟩
  ·simp only[bS,getD_eq_getD_getElem?]at h1⊢;rw[getElem?_eq_getElem ac]at h1⊢;simpa using h1
  ·rw[bw (by simpa using ho)]at he;obtain⟨e',he',rfl⟩:=mem_map.1 he;obtain⟨hm,hb⟩:=mem_filter.1 he';exact h2 e' (by simpa using hm) hb
 ·rintro⟨hlt,h1,h2⟩;refine⟨?_,ops[i],getElem?_eq_getElem hlt,λe he hb=>?_⟩
  ·simp only[bS,getD_eq_getD_getElem?]at h1⊢;rw[getElem?_eq_getElem ac]at h1⊢;simpa using h1
  ·refine h2 _ ?_;rw[bw (o:=ops[i]) (by simp[hlt])];exact mem_map.2 ⟨e,mem_filter.2 ⟨by simpa using he,hb⟩,rfl⟩
theorem iz{A:List (List Nat)}(hA:ops.toList.map oK=A){listed:Array Bool}{L:List Nat}(hs:listed.size=ops.size)(hl:∀j,j<ops.size->bS listed j=inL L j)(hlt:∀i o,ops.toList[i]? =some o->∀e∈oK o,e<i){i:Nat}:i∈Region.ready .any ops listed↔AF A L i=true:=by
 have hlen:A.length=ops.size:=by rw[<-hA];simp
 rw[jc hs];unfold AF;simp only[and_eq_true,not_eq_true',all_eq_true,hlen];constructor
 ·rintro⟨h1,h2,h3⟩;have hget:ops.toList[i]? =some ops[i]:=by simp[h1]
  refine⟨⟨Nat.ble_eq_true_of_le h1,by rw[<-hl i h1];exact h2⟩,λe he=>?_⟩;have he':e∈oK ops[i]:=by
   rw[<-hA,List.getD_eq_getElem?_getD,getElem?_map,hget]at he;exact he
  have hei:=hlt i _ hget e he';rw[<-hl e ac];exact h3 e (by rw[bw hget];exact he')
 ·rintro⟨⟨h1,h2⟩,h3⟩;have h1:i<ops.size:=Nat.le_of_ble_eq_true h1;have hget:ops.toList[i]? =some ops[i]:=by simp[h1]
  refine⟨h1,by rw[hl i h1];exact h2,λe he=>?_⟩;rw[bw hget]at he;have hei:=hlt i _ hget e he;rw[hl e ac];refine h3 e ?_;rw[<-hA,List.getD_eq_getElem?_getD,getElem?_map,hget];exact he
theorem Mv(he:E.Ok){K:ASt->Prop}{Q:Exit->Act->World->Prop}{A:List (List Nat)}(ps:List ng)(R:(Nat->Prop)->World->Value->Prop)(C:World->Prop)(hC1:∀w',C w'->DC ps w')(hCz:∀Z w',DC ps w'->R Z w' (.bool true)->C w')(hA:ops.toList.map oK=A)(hlt:∀i o,ops.toList[i]? =some o->∀e∈oK o,e<i)(hsel:NE ops.toList=true)
  (hQ:∀a w,(∃st',dS E.W S st' a w/\K st')->Q .normal a w) (hP:∀c a w,¬Q (.panic c) a w):
  ∀(s:Sch) (L:List Nat) (fuel:Nat) (listed:Array Bool) (st:ASt) (a:Act) (w:World),listed.size=ops.size->(∀j,j<ops.size->bS listed j=inL L j)->kQ ops.toList A s L=true->lI (bS listed) ops.size<=fuel->dS E.W S st a w->C w->
   zK E S ps R ops.toList s st K->wpAnyH E.P .any ops Q C fuel listed a w:=by
 have hlen:A.length=ops.size:=by rw[<-hA];simp
 have hse:∀(j:Nat) (o:Oper) cs b,ops[j]? =some o->o.op≠ .select cs b:=by
  intro j o cs b ho e;have:=all_eq_true.1 hsel o (by have:=Array.mem_of_getElem? ho;simpa using this);rw[e]at this;cases this
 intro s;have step:∀(i:Nat) (s:Sch) (L:List Nat) (fuel:Nat) (listed:Array Bool) (st:ASt) (a:Act) (w:World),listed.size=ops.size->(∀j,j<ops.size->bS listed j=inL L j)->AF A L i=true->lI (bS listed) ops.size<=fuel+1->
   (∀(L:List Nat) (fuel:Nat) (listed:Array Bool) (st:ASt) (a:Act) (w:World),listed.size=ops.size->(∀j,j<ops.size->bS listed j=inL L j)->kQ ops.toList A s L=true->lI (bS listed) ops.size<=fuel->dS E.W S st a w->C w->zK E S ps R ops.toList s st K->wpAnyH E.P .any ops Q C fuel listed a w)->
   kQ ops.toList A s (i::L)=true->i<ops.size/\bS listed i=false/\∀(st:ASt) (a:Act) (w:World),dS E.W S st a w->C w->zK E S ps R ops.toList s st K->wpAnyH E.P .any ops Q C fuel (listed.setIfInBounds i true) a w:=by
  intro i s L fuel listed st a w hs hl hr hf ih hok;have hm:=(iz hA hs hl hlt).2 hr;obtain⟨h1,h2,_⟩:=(jc hs).1 hm;refine⟨h1,h2,λst a w h hS hk=>ih (i::L) fuel _ st a w (by simpa using hs) (λj hj=>?_) hok ?_ h hS hk⟩
  ·rw[kO ac];simp only[hl j hj,inL,List.contains_cons];cases hb:Nat.beq j i with
   |true=>have:=eq_of_beq_eq_true hb;subst this;simp
   |false=>
    have:¬j=i:=Nat.ne_of_beq_eq_false hb;simp[this]
  ·rw[kO ac];have:=(tk h2 (n:=ops.size)).2 h1;omega
 have pos:∀{L:List Nat} {fuel:Nat} {listed:Array Bool} {i:Nat},listed.size=ops.size->(∀j,j<ops.size->bS listed j=inL L j)->AF A L i=true->lI (bS listed) ops.size<=fuel->∃f,fuel=f+1:=by
  intro L fuel listed i hs hl hr hf;obtain⟨h1,h2,_⟩:=(jc hs).1 ((iz hA hs hl hlt).2 hr);have:=(tk h2 (n:=ops.size)).2 h1;exact⟨fuel-1,ac⟩
 have pins:∀{st:ASt} {a:Act} {w:World} {X:Prop},dS E.W S st a w->li R ps st X->C w/\X:=by
  intro st a w X h hk;obtain⟨Z,ρ,h⟩:=h;have key:∀qs:List ng,li R qs st X->(DC qs w/\R Z w (.bool true))/\X:=by
   intro qs hk;induction qs with
   |nil=>
    obtain⟨o,ho,rfl,hk⟩:=bY (show aOb st.ob 9970 _ from hk);refine⟨⟨λp hp=>(by cases hp),?_⟩,hk⟩;have:=(show cu Z w ρ 9970 (zO R)from h.ws.obj 9970 _ ho).2.2 0 _ _ rfl rfl;cases this with
    |one _ _ hx=>
     cases(show bK Z w (.x R) (.bool true)from hx)with
     |x _ _ _ hR=>exact hR Z w (λ_ h=>h) λ_ _=>rfl
   |cons p r ih=>
    obtain⟨o,ho,rfl,hk⟩:=bY (show aOb st.ob p.id _ from hk);obtain⟨⟨h1,h1'⟩,h2⟩:=ih hk;refine⟨⟨λq hq=>?_,h1'⟩,h2⟩;rcases List.mem_cons.1 hq with rfl|hq
    ·obtain⟨b',hb',hlt,hq⟩:=(show cu Z w ρ q.id (.any (Gy q.b q.us q.t))from h.ws.obj q.id _ ho);exact(hq w rfl).2
    ·exact h1 q hq
  obtain⟨⟨h1,h2⟩,h3⟩:=key ps hk;exact⟨hCz Z w h1 h2,h3⟩
 have run1:∀{i:Nat} {st:ASt} {a:Act} {w:World} {X:ASt->Prop} {Y:Act->World->Prop},i<ops.size->dS E.W S st a w->zI E S ops.toList i st X->(∀st a w,dS E.W S st a w->X st->Y a w)->wpOp E.P ops Q i Y a w:=by
  intro i st a w X Y hi h hk hY;obtain⟨o,ho,hk⟩:=d4 hk;have ho':ops[i]? =some o:=by simpa using ho
  unfold wpOp;rw[ho'];obtain⟨Z,ρ,h⟩:=h;simp only;rcases iE h hk with⟨hw,st',hs',hk⟩|⟨hw,st',hs',hk⟩
  ·simp only[toArray_toList]at hw;simp only[hw,if_true];refine .inl (Oper.wp_mono (λa' w' h'=>?_) (nC he hs' hk Q));obtain⟨st2,h2,hk2⟩:=h';exact hY st2 a' w' h2 hk2
  ·simp only[toArray_toList]at hw;simp only[hw,Bool.false_eq_true,if_false];have:=hs'.put o.dst (x:= .one .und) (v:=undef) (.one _ _ (show dZ Z w ρ .und undef from rfl));exact hY _ _ w ⟨Z,ρ,this⟩ (fB hk)
 induction s with
 |done=>
  intro L fuel listed st a w hs hl hok hf h hS hk;refine wpAnyH_done ?_ (hQ a w ⟨st,h,hk⟩) fuel;rw[List.eq_nil_iff_forall_not_mem];intro i hi;obtain⟨h1,h2,_⟩:=(jc hs).1 hi;have:=all_eq_true.1 hok i (mem_range.2 ac);rw[hl i h1,this]at h2;cases h2
 |take i s ih=>
  intro L fuel listed st a w hs hl hok hf h hS hk;simp only[kQ,and_eq_true]at hok;obtain⟨⟨hr,hm⟩,hok⟩:=hok;obtain⟨fuel,rfl⟩:=pos hs hl hr hf;obtain⟨h1,h2,next⟩:=step i s L fuel listed st a w hs hl hr hf ih hok;have hio:ops[i]? =some ops[i]:=getElem?_eq_getElem h1;rw[show ops.toList[i]? =some ops[i]by simp[h1]]at hm;simp only[all_eq_true]at hm;have hap:=hm;obtain⟨o,ho,hk⟩:=d4 (show nq ops.toList i _ from hk);have:o=ops[i]:=by
   rw[show ops.toList[i]? =some ops[i]by simp[h1]]at ho;injection ho with ho
   exact ho.symm
  subst this;have first:∀(v:Value),YieldsIf E.P ops C ops[i] v a->wpAnyH E.P .any ops Q C fuel (listed.setIfInBounds i true) (a.put ops[i].dst v) w->wpAnyH E.P .any ops Q C (fuel+1) listed a w:=by
   intro v hy hw;refine wpAnyH_first hio hse (λc a w hq=>(hP _ _ _ hq).elim) fuel listed a w (λj oj hj hji hun hno=>?_) ((iz hA hs hl hlt).2 hr) hy hS hw;have hjs:j<ops.size:=(Array.getElem?_eq_some_iff.1 hj).1;have hjl:ops.toList[j]? =some oj:=by simpa using hj
   have:=hap j (mem_range.2 ac);rw[hjl]at this;simp only[or_eq_true]at this;rcases this with((h3|h3)|h3)|h3
   ·exact absurd (eq_of_beq_eq_true h3) hji
   ·rw[<-hl j hjs]at h3;simp only[bS,getD_eq_getD_getElem?]at h3 hun;rw[getElem?_eq_getElem ac]at h3 hun;simp only[Option.getD_some]at h3 hun;rw[h3]at hun;cases hun
   ·exfalso;have h4:i∈oK oj:=by
     rw[<-hA,List.getD_eq_getElem?_getD,getElem?_map,hjl]at h3;simpa[inL]using h3
    obtain⟨e',he',e2⟩:=mem_map.1 h4;obtain⟨hm,hb⟩:=mem_filter.1 he';exact hno e' (by simpa using hm) hb e2
   ·simpa using h3
  obtain⟨Z,ρ,h⟩:=h;rcases iE h hk with⟨hw,st',hs',hk⟩|⟨hw,st',hs',hk⟩
  ·simp only[toArray_toList]at hw;obtain⟨x,v,hx,hrun,hk⟩:=Gz he hs' hC1 ai hk;exact first v (.inl ⟨hw,hrun⟩) (next _ _ w ⟨Z,ρ,hs'.put ops[i].dst hx⟩ hS (fB hk))
  ·simp only[toArray_toList]at hw;have:=hs'.put ops[i].dst (x:= .one .und) (v:=undef) (.one _ _ (show dZ Z w ρ .und undef from rfl));exact first undef (.inr ⟨hw,rfl⟩) (next _ _ w ⟨Z,ρ,this⟩ hS (fB hk))
 |one i s ih=>
  intro L fuel listed st a w hs hl hok hf h hS hk;simp only[kQ,and_eq_true,all_eq_true]at hok;obtain⟨⟨hr,hm⟩,hok⟩:=hok;obtain⟨fuel,rfl⟩:=pos hs hl hr hf;obtain⟨h1,h2,next⟩:=step i s L fuel listed st a w hs hl hr hf ih hok;refine⟨λh0=>(by have:=(iz hA hs hl hlt).2 hr;rw[h0]at this;cases this),λj hj=>?_⟩;have hj':=(iz hA hs hl hlt).1 hj;have hjs:=((jc hs).1 hj).1;have hji:j=i:=by
   have:=hm j (mem_range.2 ac);simp only[or_eq_true,not_eq_true']at this;rcases this with h3|h3
   ·exact eq_of_beq_eq_true h3
   ·rw[h3]at hj';cases hj'
  subst hji;exact run1 h1 h hk λst a w h hk=>by obtain⟨h5,h6⟩:=pins h hk;exact⟨h5,next st a w h h5 h6⟩
 |two i s k t ihs iht=>
  intro L fuel listed st a w hs hl hok hf h hS hk;simp only[kQ,and_eq_true,all_eq_true]at hok;obtain⟨⟨⟨⟨hr,hr2⟩,hm⟩,hok⟩,hok2⟩:=hok;obtain⟨fuel,rfl⟩:=pos hs hl hr hf;obtain⟨h1,h2,next⟩:=step i s L fuel listed st a w hs hl hr hf ihs hok;obtain⟨h3,h4,next2⟩:=step k t L fuel listed st a w hs hl hr2 hf iht hok2;refine⟨λh0=>(by have:=(iz hA hs hl hlt).2 hr;rw[h0]at this;cases this),λj hj=>?_⟩;have hj':=(iz hA hs hl hlt).1 hj;have hjs:=((jc hs).1 hj).1;have hji:j=i\/j=k:=by
   have:=hm j (mem_range.2 ac);simp only[or_eq_true,not_eq_true']at this;rcases this with(h3|h3)|h3
   ·exact .inl (eq_of_beq_eq_true h3)
   ·exact .inr (eq_of_beq_eq_true h3)
   ·rw[h3]at hj';cases hj'
  rcases hji with rfl|rfl
  ·exact run1 h1 h hk.l λst a w h hk=>by obtain⟨h5,h6⟩:=pins h hk;exact⟨h5,next st a w h h5 h6⟩
  ·exact run1 h3 h hk.r λst a w h hk=>by obtain⟨h5,h6⟩:=pins h hk;exact⟨h5,next2 st a w h h5 h6⟩
 |three i s k t m u ihs iht ihu=>
  intro L fuel listed st a w hs hl hok hf h hS hk;simp only[kQ,and_eq_true,all_eq_true]at hok;obtain⟨⟨⟨⟨⟨⟨hr,hr2⟩,hr3⟩,hm⟩,hok⟩,hok2⟩,hok3⟩:=hok;obtain⟨fuel,rfl⟩:=pos hs hl hr hf;obtain⟨h1,h2,next⟩:=step i s L fuel listed st a w hs hl hr hf ihs hok;obtain⟨h3,h4,next2⟩:=step k t L fuel listed st a w hs hl hr2 hf iht hok2;obtain⟨h5,h6,next3⟩:=step m u L fuel listed st a w hs hl hr3 hf ihu hok3;refine⟨λh0=>(by have:=(iz hA hs hl hlt).2 hr;rw[h0]at this;cases this),λj hj=>?_⟩;have hj':=(iz hA hs hl hlt).1 hj;have hjs:=((jc hs).1 hj).1;have hji:j=i\/j=k\/j=m:=by
   have:=hm j (mem_range.2 ac);simp only[or_eq_true,not_eq_true']at this;rcases this with((h3|h3)|h3)|h3
   ·exact .inl (eq_of_beq_eq_true h3)
   ·exact .inr (.inl (eq_of_beq_eq_true h3))
   ·exact .inr (.inr (eq_of_beq_eq_true h3))
   ·rw[h3]at hj';cases hj'
  rcases hji with rfl|rfl|rfl
  ·exact run1 h1 h hk.l λst a w h hk=>by obtain⟨h5,h6⟩:=pins h hk;exact⟨h5,next st a w h h5 h6⟩
  ·exact run1 h3 h hk.r.l λst a w h hk=>by obtain⟨h5,h6⟩:=pins h hk;exact⟨h5,next2 st a w h h5 h6⟩
  ·exact run1 h5 h hk.r.r λst a w h hk=>by obtain⟨h5,h6⟩:=pins h hk;exact⟨h5,next3 st a w h h5 h6⟩
theorem O4(he:E.Ok){K:ASt->Prop}{Q:Exit->Act->World->Prop}{A:List (List Nat)}(ps:List ng)(R:(Nat->Prop)->World->Value->Prop)(C:World->Prop)(hC1:∀w',C w'->DC ps w')(hCz:∀Z w',DC ps w'->R Z w' (.bool true)->C w')(hA:ops.toList.map oK=A)(hlt:∀i o,ops.toList[i]? =some o->∀e∈oK o,e<i)(hsel:NE ops.toList=true)
  (hQ:∀a w,(∃st',dS E.W S st' a w/\K st')->Q .normal a w) (hP:∀c a w,¬Q (.panic c) a w) {Z:Nat->Prop} {ρ:Nat->Value} {w:World} (hC2:∀w',C w'->∀b,Z b->w'.heap[b]? =w.heap[b]?) (hS:C w):
  ∀(s:Sch) (L:List Nat) (fuel:Nat) (listed:Array Bool) (st:ASt) (a:Act),listed.size=ops.size->(∀j,j<ops.size->bS listed j=inL L j)->kQ ops.toList A s L=true->lI (bS listed) ops.size<=fuel->Sim E.W S Z ρ st a w->
   Kc E S ps R ops.toList s st K->wpAnyH E.P .any ops Q C fuel listed a w:=by
 have hlen:A.length=ops.size:=by rw[<-hA];simp
 have main:=λs L fuel listed st a w=>Mv (S:=S) he ps R C hC1 hCz hA hlt hsel hQ hP s L fuel listed st a w;have hse:∀(j:Nat) (o:Oper) cs b,ops[j]? =some o->o.op≠ .select cs b:=by
  intro j o cs b ho e;have:=all_eq_true.1 hsel o (by have:=Array.mem_of_getElem? ho;simpa using this);rw[e]at this;cases this
 intro s;induction s with
 |take i s ih=>
  intro L fuel listed st a hs hl hok hf h hk;simp only[kQ,and_eq_true]at hok;obtain⟨⟨hr,hm⟩,hok⟩:=hok;have hrd:=(iz hA hs hl hlt).2 hr;obtain⟨h1,h2,_⟩:=(jc hs).1 hrd;have hcu:=(tk h2 (n:=ops.size)).2 h1;obtain⟨fuel,rfl⟩:∃f,fuel=f+1:=⟨fuel-1,ac⟩;have hio:ops[i]? =some ops[i]:=getElem?_eq_getElem h1;rw[show ops.toList[i]? =some ops[i]by simp[h1]]at hm;simp only[all_eq_true]at hm;obtain⟨o,ho,hk⟩:=d4 (show nq ops.toList i _ from hk);have:o=ops[i]:=by
   rw[show ops.toList[i]? =some ops[i]by simp[h1]]at ho;injection ho with ho
   exact ho.symm
  subst this;have next:∀(st:ASt) (a:Act),Sim E.W S Z ρ st a w->Kc E S ps R ops.toList s st K->wpAnyH E.P .any ops Q C fuel (listed.setIfInBounds i true) a w:=λst a h hk=>ih (i::L) fuel _ st a (by simpa using hs) (λj hj=>by
   rw[kO ac];simp only[hl j hj,inL,List.contains_cons];cases hb:Nat.beq j i with
   |true=>have:=eq_of_beq_eq_true hb;subst this;simp
   |false=>
    have:¬j=i:=Nat.ne_of_beq_eq_false hb;simp[this]) hok (by rw[kO ac];omega) h hk
  have first:∀(v:Value),YieldsIf E.P ops C ops[i] v a->wpAnyH E.P .any ops Q C fuel (listed.setIfInBounds i true) (a.put ops[i].dst v) w->wpAnyH E.P .any ops Q C (fuel+1) listed a w:=by
   intro v hy hw;refine wpAnyH_first hio hse (λc a w hq=>(hP _ _ _ hq).elim) fuel listed a w (λj oj hj hji hun hno=>?_) hrd hy hS hw;have hjs:j<ops.size:=(Array.getElem?_eq_some_iff.1 hj).1;have hjl:ops.toList[j]? =some oj:=by simpa using hj
   have:=hm j (mem_range.2 ac);rw[hjl]at this;simp only[or_eq_true]at this;rcases this with((h3|h3)|h3)|h3
   ·exact absurd (eq_of_beq_eq_true h3) hji
   ·rw[<-hl j hjs]at h3;simp only[bS,getD_eq_getD_getElem?]at h3 hun;rw[getElem?_eq_getElem ac]at h3 hun;simp only[Option.getD_some]at h3 hun;rw[h3]at hun;cases hun
   ·exfalso;have h4:i∈oK oj:=by
     rw[<-hA,List.getD_eq_getElem?_getD,getElem?_map,hjl]at h3;simpa[inL]using h3
    obtain⟨e',he',e2⟩:=mem_map.1 h4;obtain⟨hm,hb⟩:=mem_filter.1 he';exact hno e' (by simpa using hm) hb e2
   ·simpa using h3
  rcases iE h hk with⟨hw,st',hs',hk⟩|⟨hw,st',hs',hk⟩
  ·simp only[toArray_toList]at hw;obtain⟨x,v,hx,hrun,hk⟩:=Gz he hs' hC1 (λ_=>hC2) hk;exact first v (.inl ⟨hw,hrun⟩) (next _ _ (hs'.put ops[i].dst hx) (fB hk))
  ·simp only[toArray_toList]at hw;have:=hs'.put ops[i].dst (x:= .one .und) (v:=undef) (.one _ _ (show dZ Z w ρ .und undef from rfl));exact first undef (.inr ⟨hw,rfl⟩) (next _ _ this (fB hk))
 |done=>exact λL fuel listed st a hs hl hok hf h hk=>main _ L fuel listed st a w hs hl hok hf ⟨Z,ρ,h⟩ hS hk
 |one i s _=>exact λL fuel listed st a hs hl hok hf h hk=>main _ L fuel listed st a w hs hl hok hf ⟨Z,ρ,h⟩ hS hk
 |two i s j t _ _=>exact λL fuel listed st a hs hl hok hf h hk=>main _ L fuel listed st a w hs hl hok hf ⟨Z,ρ,h⟩ hS hk
 |three i s j t k u _ _ _=>exact λL fuel listed st a hs hl hok hf h hk=>main _ L fuel listed st a w hs hl hok hf ⟨Z,ρ,h⟩ hS hk
def Qx(A:List (List Nat)):Bool:=(List.range A.length).all λi=>(A.getD i []).all λe=>Nat.blt e i
def PF(E:a6)(S:bj):List (Nat×Nat)->List ng->ASt->(List ng->ASt->Prop)->Prop
 |[],ps,st,K=>K ps st
 |(id,fid)::r,ps,st,K=>aOb st.ob id λo=>match o with
  | .cells t cs=>match cs.all (pY fid)with
   |true=>∀(b:Nat) (us:List Value),match st with
    |⟨tm,ob⟩=>gI id (.any (Gy b us t)) ob λob=>DN ⟨tm,ob⟩ fid (.frame (cs.map .one) us) λst=>PF E S r (⟨id,fid,b,us,t⟩::ps) st K
   |false=>False
  |_=>False
def DU:List ng->ASt->(ASt->Prop)->Prop
 |[],st,K=>K st
 |p::r,st,K=>match st with
  | ⟨tm, ob⟩ => aOb ob p.id fun o => And (o = .any (Gy p.b p.us p.t)) (aOb ob p.fid fun o2 => match o2 with
   | .frame vs us=>And (us=p.us) (J8 vs λcs=>gI p.id (.cells p.t cs) ob λob=>DU r ⟨tm,ob⟩ K)
   |_=>False)
theorem Fh{K:List ng->ASt->Prop}{Z:Nat->Prop}{a:Act}{w:World}:∀{l:List (Nat×Nat)} {ps:List ng} {st:ASt} {ρ:Nat->Value},Sim E.W S Z ρ st a w->DC ps w->PF E S l ps st K->∃ps' st' ρ',Sim E.W S Z ρ' st' a w/\DC ps' w/\K ps' st'
 |[],ps,st,ρ,h,hS,hk=>⟨ps,st,ρ,h,hS,hk⟩
 |(id,fid)::r,ps,⟨tm,ob⟩,ρ,h,hS,hk=>by
  obtain⟨o,ho,hk⟩:=bY (show aOb ob id _ from hk);split at hk
  case h_2=>exact hk.elim
  rename_i t cs;split at hk
  case h_2=>exact hk.elim
  rename_i hno;obtain⟨b,us,hp,hg,hl,hc⟩:=(show cu Z w ρ id (.cells t cs)from h.ws.obj id _ ho);have hk:=ky (ed (hk b us));have hlt:b<w.heap.size:=(Array.getElem?_eq_some_iff.1 hg).1;have h1:=h.upd id (.cells t cs) (.any (Gy b us t)) (g:=b) ho (by rw[hp];rfl) (World.grownBy.refl w _) ⟨b,by rw[hp];rfl,hlt,λw' hw=>⟨hp,by rw[hw];exact hg⟩⟩;have h2:=h1.renew fid undef (.frame (cs.map .one) us) (row:=none) (World.grownBy.refl w _) ai (λb hb=>by cases hb) ⟨by simp,by simp[hl],λi x u hx hu=>by
   rw[getElem?_map]at hx;obtain⟨c,hcx,rfl⟩:=Option.map_eq_some_iff.1 hx;have hkc:iu fid c=c:=pn (all_eq_true.1 hno c (List.mem_of_getElem? hcx));have:=lw (id:=fid) (y:=undef) (hc i c u hcx hu);rw[hkc]at this;exact .one _ _ this⟩
  exact Fh h2 (λp hp=>by
   rcases List.mem_cons.1 hp with rfl|hp
   ·exact hg
   ·exact hS p hp) hk
theorem zM{K:ASt->Prop}{a:Act}{w:World}:∀{ps:List ng} {st:ASt},dS E.W S st a w->DU ps st K->∃st',dS E.W S st' a w/\K st'
 |[],st,h,hk=>⟨st,h,hk⟩
 |p::r,⟨tm,ob⟩,⟨Z,ρ,h⟩,hk=>by
  obtain⟨o,ho,rfl,hk⟩:=bY (show aOb ob p.id _ from hk);obtain⟨o2,ho2,hk⟩:=bY hk;cases o2 with
  |frame vs us=>?_
  |_=>exact hk.elim
  simp only at hk;obtain⟨e1,hk1⟩:=hk;subst e1;obtain⟨cs,e0,hk⟩:=wV hk1;subst e0;obtain⟨b',hb',hlt,hq⟩:=(show cu Z w ρ p.id (.any (Gy p.b p.us p.t))from h.ws.obj p.id _ ho);obtain⟨hp,hg⟩:=hq w rfl;obtain⟨_,hfl,hfr⟩:=(show cu Z w ρ p.fid (.frame (cs.map .one) p.us)from h.ws.obj p.fid _ ho2);have h1:=h.upd p.id _ (.cells p.t cs) (g:=p.b) ho (by rw[hp];rfl) (World.grownBy.refl w _) ⟨p.b,p.us,hp,hg,by simpa using hfl,λi c u h1 h2=>by
   have:=hfr i (.one c) u (by rw[getElem?_map,h1];rfl) h2;cases this with|one _ _ h=>exact h⟩
  exact zM ⟨Z,ρ,h1⟩ (ed hk)
theorem TD(he:E.Ok){K:Exit->ASt->Prop}(id:Nat){st:ASt}(s:Sch)(l:List (Nat×Nat))(A:List (List Nat))(hA:ops.toList.map oK=A)(hlt:Qx A=true)(hsel:NE ops.toList=true)(hok:kQ ops.toList A s []=true)
  (h:∀R,DN st 9970 (zO R) (λst=>PF E S l [] st λps st=>Kc E S ps R ops.toList s st λst=>DU ps st (K .normal))):AWP E S (.region id ops true) K st:=by
 refine⟨λa w hs=>wp_mono (Q:=λe a' w'=>e= .normal/\∃st',dS E.W S st' a' w'/\K .normal st') (wp_region_any he.mixed ?_) λe a' w' h'=>?_⟩
 ·have hg:w.grownBy {w with drawn:=w.drawn+1} none:=⟨rfl,rfl,rfl,Nat.le_refl _,λb hb _=>rfl⟩;obtain⟨Z,ρ,hs⟩:=hs;let R:(Nat->Prop)->World->Value->Prop:=λ_ wx _=>∀b,Z b->wx.heap[b]? =w.heap[b]?
  have h0:=hs.grow hg (λ_ h=>h) λ_ h=> .inl h;have h1:=h0.renew 9970 undef (zO R) (row:=none) (World.grownBy.refl _ _) ai (λb hb=>by cases hb) ⟨by simp,rfl,λi x u hx hu=>by
   cases i with
   |zero=>
    simp at hx hu;subst hx hu;exact .one _ _ (show bK Z _ (.x R) (.bool true)from .x _ _ rfl λZ' w' hz hb b hZ=>hb b hZ)
   |succ i=>simp at hx⟩
  obtain⟨ps,st1,ρ1,hs1,hS,hk⟩:=Fh h1 (λp hp=>(by cases hp)) (ky (h R));refine wpAny_of_held (S:=λw'=>DC ps w'/\∀b,Z b->w'.heap[b]? =w.heap[b]?) _ _ _ _ (O4 (K:=λst=>DU ps st (K .normal)) he ps R _ (λw' h=>h.1) (λZx w' h1 h2=>⟨h1,h2⟩) hA (λi o ho e hea=>?_) hsel (λa w hz=>⟨rfl,(by obtain⟨st',h1,h2⟩:=hz;exact zM h1 h2)⟩) (λc a w hq=>by cases hq.1) (λw' h=>h.2) ⟨hS,λb hb=>rfl⟩ s [] ops.size _ st1 a ai (λj _=>?_) hok ?_ hs1 hk)
  ·have hi:i<A.length:=by rw[<-hA,List.length_map];exact(List.getElem?_eq_some_iff.1 ho).1
   have h1:=all_eq_true.1 hlt i (mem_range.2 hi);rw[<-hA,List.getD_eq_getElem?_getD,getElem?_map,ho]at h1;have:=all_eq_true.1 h1 e hea;exact Nat.le_of_ble_eq_true this
  ·simp[bS,inL,getD_eq_getD_getElem?,Array.getElem?_replicate];split<;>rfl
  ·have:∀(lf:Nat->Bool) n,lI lf n<=n:=λlf n=>by
    induction n with
    |zero=>exact Nat.le_refl _
    |succ n ih=>simp only[lI];split<;>omega
   exact this _ _
 ·obtain⟨rfl,h'⟩:=h';exact h'
end
end
section
open Go.RowKit
def yu(id:Nat)(xs:List (List AD)):AC->AC
 | .own i=>match Nat.beq i id with
  |true=> .d (.sl xs)
  |false=> .own i
 | .ref i k s off=>match Nat.beq i id with
  |true=> .dead
  |false=> .ref i k s off
 |c=>c
def Lz(id:Nat)(xs:List (List AD)):AV->AV
 | .one c=> .one (yu id xs c)
 | .agg cs=> .agg (cs.map (yu id xs))
 | .tup _=> .one .dead
def OG(id:Nat)(xs:List (List AD)):AO->AO
 | .cells t cs=> .cells t (cs.map (yu id xs))
 | .frame vs us=> .frame (vs.map (Lz id xs)) us
 |o=>o
def rT(id:Nat)(xs:List (List AD)):List (Nat×AO)->List (Nat×AO)
 |[]=>[]
 |(i,o)::r=>match Nat.beq i id with
  |true=>rT id xs r
  |false=>(i,OG id xs o)::rT id xs r
def Fe(id:Nat)(xs:List (List AD))(c:AC)(K:AC->Prop):Prop:=
 match c with
 | .own i=>match Nat.beq i id with
  |true=>K (.d (.sl xs))
  |false=>K (.own i)
 | .ref i k s off=>match Nat.beq i id with
  |true=>K .dead
  |false=>K (.ref i k s off)
 |c=>K c
theorem Ch{id:Nat}{xs:List (List AD)}{c:AC}{K:AC->Prop}(h:Fe id xs c K):K (yu id xs c):=by
 cases c with
 |own i=>simp only[Fe]at h;simp only[yu];split at h<;>simp_all
 |ref i k s off=>simp only[Fe]at h;simp only[yu];split at h<;>simp_all
 |_=>exact h
def DL(id:Nat)(xs:List (List AD)):List AC->(List AC->Prop)->Prop
 |[],K=>K []
 |c::r,K=>Fe id xs c λc=>DL id xs r λr=>K (c::r)
theorem uv{id:Nat}{xs:List (List AD)}:∀{l:List AC} {K:List AC->Prop},DL id xs l K->K (l.map (yu id xs))
 |[],_,h=>h
 |c::r,K,h=>uv (l:=r) (K:=λr'=>K (yu id xs c::r')) (Ch h)
def Pr(id:Nat)(xs:List (List AD))(x:AV)(K:AV->Prop):Prop:=
 match x with
 | .one c=>Fe id xs c λc=>K (.one c)
 | .agg cs=>DL id xs cs λcs=>K (.agg cs)
 | .tup _=>K (.one .dead)
theorem Lg{id:Nat}{xs:List (List AD)}{x:AV}{K:AV->Prop}(h:Pr id xs x K):K (Lz id xs x):=by
 cases x with
 |one c=>exact Ch (K:=λc=>K (.one c)) h
 |agg cs=>exact uv (K:=λcs=>K (.agg cs)) h
 |tup vs=>exact h
def xy(id:Nat)(xs:List (List AD)):List AV->(List AV->Prop)->Prop
 |[],K=>K []
 |x::r,K=>Pr id xs x λx=>xy id xs r λr=>K (x::r)
theorem lq{id:Nat}{xs:List (List AD)}:∀{l:List AV} {K:List AV->Prop},xy id xs l K->K (l.map (Lz id xs))
 |[],_,h=>h
 |x::r,K,h=>lq (l:=r) (K:=λr'=>K (Lz id xs x::r')) (Lg h)
def fY(id:Nat)(xs:List (List AD)):List (Nat×AO)->(List (Nat×AO)->Prop)->Prop
 |[],K=>K []
 |(i,.cells t cs)::r,K=>match Nat.beq i id with
  |true=>fY id xs r K
  |false=>DL id xs cs λcs=>fY id xs r λr=>K ((i,.cells t cs)::r)
 |(i,.row e s ys)::r,K=>match Nat.beq i id with
  |true=>fY id xs r K
  |false=>fY id xs r λr=>K ((i,.row e s ys)::r)
 |(i,.frame vs us)::r,K=>match Nat.beq i id with
  |true=>fY id xs r K
  |false=>xy id xs vs λvs=>fY id xs r λr=>K ((i,.frame vs us)::r)
 |(i,.any Q)::r,K=>match Nat.beq i id with
  |true=>fY id xs r K
  |false=>fY id xs r λr=>K ((i,.any Q)::r)
 |(i,.many P Q)::r,K=>match Nat.beq i id with
  |true=>fY id xs r K
  |false=>fY id xs r λr=>K ((i,.many P Q)::r)
theorem eL{id:Nat}{xs:List (List AD)}:∀{l:List (Nat×AO)} {K:List (Nat×AO)->Prop},fY id xs l K->K (rT id xs l)
 |[],_,h=>h
 |(i,.cells t cs)::r,K,h=>by
  simp only[fY]at h;simp only[rT];split at h
  ·exact eL h
  ·exact eL (l:=r) (K:=λr'=>K ((i,.cells t (cs.map (yu id xs)))::r')) (uv (K:=λcs=>fY id xs r λr=>K ((i,.cells t cs)::r)) h)
 |(i,.row e s ys)::r,K,h=>by
  simp only[fY]at h;simp only[rT];split at h
  ·exact eL h
  ·exact eL (l:=r) (K:=λr'=>K ((i,.row e s ys)::r')) h
 |(i,.frame vs us)::r,K,h=>by
  simp only[fY]at h;simp only[rT];split at h
  ·exact eL h
  ·exact eL (l:=r) (K:=λr'=>K ((i,.frame (vs.map (Lz id xs)) us)::r')) (lq (K:=λvs=>fY id xs r λr=>K ((i,.frame vs us)::r)) h)
 |(i,.any Q)::r,K,h=>by
  simp only[fY]at h;simp only[rT];split at h
  ·exact eL h
  ·exact eL (l:=r) (K:=λr'=>K ((i,.any Q)::r')) h
 |(i,.many P Q)::r,K,h=>by
  simp only[fY]at h;simp only[rT];split at h
  ·exact eL h
  ·exact eL (l:=r) (K:=λr'=>K ((i,.many P Q)::r')) h
theorem ge{id:Nat}{xs:List (List AD)}:∀{ob:List (Nat×AO)} {j:Nat} {o:AO},a5 (rT id xs ob) j=some o->j≠id/\∃o0,a5 ob j=some o0/\o=OG id xs o0
 |[],_,_,h=>by cases h
 |(i,o1)::r,j,o,h=>by
  simp only[rT]at h;cases hb:Nat.beq i id with
  |true=>
   rw[hb]at h;obtain⟨h1,o0,h2,h3⟩:=ge h;refine⟨h1,o0,?_,h3⟩;have:i≠j:=λe=>h1 (e▸Nat.eq_of_beq_eq_true hb);simp only[a5];rw[if_neg this];exact h2
  |false=>
   rw[hb]at h;simp only[a5]at h⊢;split at h
   ·rename_i e;injection h with h
    subst e;exact⟨Nat.ne_of_beq_eq_false hb,o1,by rw[if_pos rfl],h.symm⟩
   ·rename_i e;obtain⟨h1,o0,h2,h3⟩:=ge h;exact⟨h1,o0,by rw[if_neg e];exact h2,h3⟩
section
variable {T:World->Prop} {S:bj} {Z:Nat->Prop} {w:World} {ρ:Nat->Value} {ob:List (Nat×AO)}
def y3(Z:Nat->Prop)(ρ:Nat->Value)(id:Nat)(b:Nat):Prop:=Z b\/br (ρ id)=some b
theorem NX{e:TypeId}{s id:Nat}{xs:List (List AD)}(h:cu Z w ρ id (.row e s xs)):bK (y3 Z ρ id) w (.sl xs) (ρ id):=by
 obtain⟨us,h0,hl,hxs,hus,hown,hd⟩:=h;have up:∀{d:AD} {v:Value},bK Z w d v->bK (y3 Z ρ id) w d v:=λhd=>hd.mono (λb hb=> .inl hb) λ_ _=>rfl;rcases hown.2 with⟨hv,hn⟩|⟨g,cap,cur,hv,_,hg,h1,h2,h3,h4⟩
 ·have:xs=[]:=List.eq_nil_of_length_eq_zero hn;subst this;rw[hv];exact .sl [] none 0 0 [] (Nat.le_refl _) (Nat.zero_le _) rfl ai ai (.inl rfl) ai
 ·rw[hv];refine .sl xs _ cap s us h1 h2 hl hxs hus (.inr ⟨g,0,rfl,.inr (by rw[hv];rfl),λi u hu=>?_⟩) λi j x u a b e1 e2 e3 e4=>up (hd i j x u a b e1 e2 e3 e4);rw[Nat.zero_add];exact lV hown (by rw[hv];rfl) hu
theorem z8{e:TypeId}{s id:Nat}{xs:List (List AD)}(hr:cu Z w ρ id (.row e s xs)){c:AC}{v:Value}(h:dZ Z w ρ c v):dZ (y3 Z ρ id) w ρ (yu id xs c) v:=by
 have up:∀b,Z b->y3 Z ρ id b:=λb hb=> .inl hb;cases c with
 |own i=>
  simp only[yu];split
  ·rename_i hb;have hi:=Nat.eq_of_beq_eq_true hb;subst hi;have hv:v=ρ i:=h.1;subst hv;exact NX hr
  ·exact h
 |ref i k s off=>
  simp only[yu];split
  ·trivial
  ·exact h
 |d x=>exact dZ.mono up (λ_ _=>rfl) (c:= .d x) h
 |ptr cs=>exact dZ.mono up (λ_ _=>rfl) (c:= .ptr cs) h
 |dead=>trivial
 |und=>exact h
 |nil=>exact h
theorem rU{e:TypeId}{s id:Nat}{xs:List (List AD)}(hr:cu Z w ρ id (.row e s xs)){x:AV}{v:Value}(h:bv Z w ρ x v):bv (y3 Z ρ id) w ρ (Lz id xs x) v:=by
 cases h with
 |one c v h=>exact .one _ _ (z8 hr h)
 |agg cs us hl h=>
  refine .agg _ us (by simp[hl]) λi c u hc hu=>?_;rw[List.getElem?_map]at hc;obtain⟨c0,h0,rfl⟩:=Option.map_eq_some_iff.1 hc;exact z8 hr (h i c0 u h0 hu)
 |tup vs us hl h=>exact .one _ _ trivial
theorem Nr{e:TypeId}{s id j:Nat}{xs:List (List AD)}(hr:cu Z w ρ id (.row e s xs)){o:AO}(h:iO Z w ρ j o):iO (y3 Z ρ id) w ρ j (OG id xs o):=by
 have up:∀b,Z b->y3 Z ρ id b:=λb hb=> .inl hb;cases o with
 |cells t cs=>
  obtain⟨b,us,hp,hg,hl,hc⟩:=(show cu Z w ρ j (.cells t cs)from h);show cu _ w ρ j (.cells t _);refine⟨b,us,hp,hg,by simp[hl],λi c u h1 h2=>?_⟩;rw[List.getElem?_map]at h1;obtain⟨c0,h0,rfl⟩:=Option.map_eq_some_iff.1 h1;exact z8 hr (hc i c0 u h0 h2)
 |frame vs us=>
  obtain⟨h1,hl,h⟩:=(show cu Z w ρ j (.frame vs us)from h);show cu _ w ρ j (.frame _ us);refine⟨h1,by simp[hl],λi x u hx hu=>?_⟩;rw[List.getElem?_map]at hx;obtain⟨x0,h0,rfl⟩:=Option.map_eq_some_iff.1 hx;exact rU hr (h i x0 u h0 hu)
 |row e2 s2 ys=>exact iO.mono up (λ_ _=>rfl) (λ_ _=>rfl) (o:= .row e2 s2 ys) h
 |any Q=>exact iO.mono up (λ_ _=>rfl) (λ_ _=>rfl) (o:= .any Q) h
 |many P Q=>exact h
theorem w6{id:Nat}{xs:List (List AD)}{o:AO}{P:Nat->Prop}{Q:World->Prop}(h:AO.many P Q=OG id xs o):o= .many P Q:=by
 cases o<;>first|exact h.symm|cases h
theorem WS.freeze(h:WS T S Z w ρ ob){id s:Nat}{e:TypeId}{xs:List (List AD)}(ho:a5 ob id=some (.row e s xs)):WS T S (y3 Z ρ id) w ρ (rT id xs ob):=by
 have hr:cu Z w ρ id (.row e s xs):=h.obj id _ ho;refine⟨h.os,h.tape,h.output,h.size,h.old,?_,λj o b hj hb=>?_,λi j oi oj b hi hj hij hbi hbj=>?_,λj o hj=>?_,⟨λj P Q hj=>?_,λi j P Q P' Q' hi hj hij=>?_⟩,?_,λb hb=> .inl (h.z0 b hb),?_⟩
 ·rintro b (hb|hb)
  ·exact h.zlt b hb
  ·exact h.lt ho hb
 ·obtain⟨hne,o0,h0,_⟩:=ge hj;obtain⟨h1,h2⟩:=h.mine j o0 b h0 hb;refine⟨?_,h2⟩;rintro(hz|hz)
  ·exact h1 hz
  ·exact h.sep j id o0 _ b h0 ho hne hb hz
 ·obtain⟨_,o0,h0,_⟩:=ge hi;obtain⟨_,o1,h1,_⟩:=ge hj;exact h.sep i j o0 o1 b h0 h1 hij hbi hbj
 ·obtain⟨_,o0,h0,rfl⟩:=ge hj;exact Nr hr (h.obj j o0 h0)
 ·obtain⟨_,o0,h0,e0⟩:=ge hj;have:=w6 e0;subst this;obtain⟨h1,h2⟩:=h.many.ok j P Q h0;refine⟨λb hb=>⟨(h1 b hb).1,?_,(h1 b hb).2.2.1,λi o hi=>?_⟩,h2⟩
  ·rintro(hz|hz)
   ·exact(h1 b hb).2.1 hz
   ·exact(h1 b hb).2.2.2 id _ ho hz
  ·obtain⟨_,o1,h3,_⟩:=ge hi;exact(h1 b hb).2.2.2 i o1 h3
 ·obtain⟨_,o0,h0,e0⟩:=ge hi;obtain⟨_,o1,h1,e1⟩:=ge hj;have:=w6 e0;subst this;have:=w6 e1;subst this;exact h.many.sep i j P Q P' Q' h0 h1 hij
 ·obtain⟨w1,g1,g2,g3⟩:=h.g;exact⟨w1,g1,g2,λb hb=> .inl (g3 b hb)⟩
 ·rintro b (hb|hb)
  ·exact h.znew b hb
  ·exact .inr (h.mine id _ b ho hb).2
end
theorem AWP.freeze{E:a6}{S:bj}{c:Code}{K:Exit->ASt->Prop}{tm:List AV}{ob:List (Nat×AO)}(id:Nat)(e:TypeId)(s:Nat)(xs:List (List AD))(ho:aOb ob id λo=>o= .row e s xs)
  (h:xy id xs tm λtm=>fY id xs ob λob=>AWP E S c K ⟨tm,ob⟩):AWP E S c K ⟨tm,ob⟩:=by
 obtain⟨o,hob,rfl⟩:=bY ho;have h:=eL (K:=λob=>AWP E S c K ⟨_,ob⟩) (lq (K:=λtm=>fY id xs ob λob=>AWP E S c K ⟨tm,ob⟩) h);refine⟨λa w hs=>h.run a w ?_⟩;obtain⟨Z,ρ,hs⟩:=hs;have hr:cu Z w ρ id (.row e s xs):=hs.ws.obj id _ hob;refine⟨y3 Z ρ id,ρ,hs.ws.freeze hob,by simp[hs.len],λi x v hx hv=>?_,hs.df⟩;simp only[List.getElem?_map]at hx;obtain⟨x0,h0,rfl⟩:=Option.map_eq_some_iff.1 hx;exact rU hr (hs.tm i x0 v h0 hv)
end
open Go.RowKit
theorem aG.freeze{E:a6}{S:bj}{f:FuncId}{args:List AV}{tm:List AV}{ob:List (Nat×AO)}{K:AV->ASt->Prop}(id:Nat)(e:TypeId)(s:Nat)(xs:List (List AD))(ho:aOb ob id λo=>o= .row e s xs)
  (h:xy id xs tm λtm=>xy id xs args λargs=>fY id xs ob λob=>aG E S f args ⟨tm,ob⟩ K):aG E S f args ⟨tm,ob⟩ K:=by
 obtain⟨o,hob,rfl⟩:=bY ho;have h1:=lq (K:=λtm=>xy id xs args λargs=>fY id xs ob λob=>aG E S f args ⟨tm,ob⟩ K) h;have h2:=lq (K:=λargs=>fY id xs ob λob=>aG E S f args ⟨_,ob⟩ K) h1;have h3:=eL (K:=λob=>aG E S f _ ⟨_,ob⟩ K) h2;refine⟨h3.enter,λZ ρ a w us hs hl hr=>?_⟩;have hrel:cu Z w ρ id (.row e s xs):=hs.ws.obj id _ hob;refine h3.run (y3 Z ρ id) ρ a w us ⟨hs.ws.freeze hob,by simp[hs.len],λi x v hx hv=>?_,hs.df⟩ (by simp[hl]) λi x u hx hu=>?_
 ·simp only[List.getElem?_map]at hx;obtain⟨x0,h0,rfl⟩:=Option.map_eq_some_iff.1 hx;exact rU hrel (hs.tm i x0 v h0 hv)
 ·simp only[List.getElem?_map]at hx;obtain⟨x0,h0,rfl⟩:=Option.map_eq_some_iff.1 hx;exact rU hrel (hr i x0 u h0 hu)
section
variable {Z Z':Nat->Prop}{v:Value}{w w':World}
def AD.flat:AD->Bool
 | .pv _=>true
 | .sl []=>true
 |_=>false
def AP1.flat:AP1->Bool
 | .one d=>d.flat
 | .agg ds=>ds.all AD.flat
def AP.flat:AP->Bool
 | .val p=>p.flat
 | .tup ps=>ps.all AP1.flat
theorem bK.flat{d:AD}(hs:d.flat=true)(h:bK Z w d v):bK Z' w' d v:=by
 cases d with
 |pv u=>cases h with|pv _ h1=>exact .pv _ h1
 |x R=>cases hs
 |sl xs=>
  cases xs with
  |cons a b=>cases hs
  |nil=>
   cases h with
   |sl _ A cap s us hc hm hl hx hu hr h=>
    have e:us=[]:=List.length_eq_zero_iff.1 hl;subst e;exact .sl [] A cap s [] hc hm rfl hx hu (.inl rfl) λi j x u a b h1=>by simp at h1
theorem dJ.flat{p:AP1}(hs:p.flat=true)(h:dJ Z w p v):dJ Z' w' p v:=by
 cases p with
 |one d=>exact bK.flat hs h
 |agg ds=>
  obtain⟨us,e,hl,hr⟩:=h;exact⟨us,e,hl,λi d u h1 h2=>bK.flat (List.all_eq_true.1 hs d (List.mem_of_getElem? h1)) (hr i d u h1 h2)⟩
theorem qR.flat{p:AP}(hs:p.flat=true)(h:qR Z w p v):qR Z' w' p v:=by
 cases p with
 |val p=>exact dJ.flat hs h
 |tup ps=>
  obtain⟨us,rfl,hl,hr⟩:=h;refine⟨us,rfl,hl,λi p u h1 h2=>?_⟩;exact dJ.flat (List.all_eq_true.1 hs p (List.mem_of_getElem? h1)) (hr i p u h1 h2)
theorem Vv{E:a6}{S:bj}{st:ASt}{f:FuncId}{args:List AV}{K:AV->ASt->Prop}{ps:List AP1}{res:AP}(hc:aM E f ps res)(hps:aRs st.ob args (· =ps))(hsc:res.flat=true)(hk:K res.v st):aG E S f args st K:=by
 refine⟨hc.enter,λZ ρ a w us hs hl hr=>?_⟩;obtain⟨ps',h1,h2,rfl⟩:=g8 hs.ws hl hr hps;refine(hc.run (g6 Z ρ st.ob) w us (g6.lt hs.ws) ?_ h1 h2).mono ?_
 ·obtain⟨w1,g1,g2,g3⟩:=hs.ws.g;exact⟨w1,g1,g2,λb hb=> .inl (g3 b hb)⟩
 ·rintro e w' ⟨v,Z',rfl,hb,hz,hz2,hv⟩;exact⟨v,res.v,st,Z,ρ,rfl,hs.grow (eJ hb) (λ_ h=>h) (λ_ h=> .inl h),(hv.flat hsc).v,hk⟩
end
section
variable {st:ASt}{K:ASt->Prop}{xs:List (List AD)}{s:Nat}{e:TypeId}{E:a6}{S:bj}
def QE(id:Nat)(e:TypeId)(s:Nat)(xs:List (List AD))(st:ASt)(K:ASt->Prop):Prop:=
 (aOb st.ob id λo=>o= .row e s xs)/\xy id xs st.tm λtm=>fY id xs st.ob λob=>K ⟨tm,ob⟩
theorem Nq{id:Nat}{a:Act}{w:World}(hs:dS E.W S st a w)(hk:QE id e s xs st K):∃st',dS E.W S st' a w/\K st':=by
 obtain⟨tm,ob⟩:=st;obtain⟨ho,h⟩:=hk;obtain⟨o,hob,rfl⟩:=bY ho;have h:=eL (K:=λob=>K ⟨_,ob⟩) (lq (K:=λtm=>fY id xs ob λob=>K ⟨tm,ob⟩) h);refine⟨_,?_,h⟩;obtain⟨Z,ρ,hs⟩:=hs;have hr:cu Z w ρ id (.row e s xs):=hs.ws.obj id _ hob;refine⟨y3 Z ρ id,ρ,hs.ws.freeze hob,by simp[hs.len],λi x v hx hv=>?_,hs.df⟩;simp only[List.getElem?_map]at hx;obtain⟨x0,h0,rfl⟩:=Option.map_eq_some_iff.1 hx;exact rU hr (hs.tm i x0 v h0 hv)
def Ki(E:a6)(S:bj)(all:List Oper)(id:Nat)(e:TypeId)(s:Nat)(xs:List (List AD)):Nat->List Oper->ASt->(ASt->Prop)->Prop
 |0,ops,st,K=>QE id e s xs st λst=>tL E S all ops st K
 |_+1,[],st,K=>K st
 |n+1,o::r,st,K=>wS all o st (λst=>aop E S o st λst=>Ki E S all id e s xs n r st K) (λst=>eT st o.dst (.one .und) λst=>Ki E S all id e s xs n r st K)
theorem rx(he:E.Ok){all:List Oper}{id:Nat}{e:TypeId}{s:Nat}{xs:List (List AD)}{Q:Exit->Act->World->Prop}(hQ:∀a w,(∃st',dS E.W S st' a w/\K st')->Q .normal a w):
  ∀(n:Nat) (ops:List Oper) (st:ASt) (a:Act) (w:World),dS E.W S st a w->Ki E S all id e s xs n ops st K->wpList E.P all.toArray Q ops a w
 |0,ops,st,a,w,h,hk=>by
  obtain⟨st',h1,h2⟩:=Nq h hk;exact oY he hQ ops st' a w h1 h2
 |n+1,[],st,a,w,h,hk=>hQ a w ⟨st,h,hk⟩
 |n+1,o::r,st,a,w,⟨Z,ρ,h⟩,hk=>by
  unfold wpList;rcases iE h hk with⟨hw,st',hs,hk⟩|⟨hw,st',hs,hk⟩
  ·rw[if_pos hw];refine .inl (Oper.wp_mono (λa' w' h'=>?_) (nC he hs hk Q));obtain⟨st2,h2,hk2⟩:=h';exact rx he hQ n r st2 a' w' h2 hk2
  ·rw[if_neg (by simp[hw])];have:=hs.put o.dst (x:= .one .und) (v:=undef) (.one _ _ (show dZ Z w ρ .und undef from rfl));exact rx he hQ n r _ _ w ⟨Z,ρ,this⟩ (fB hk)
theorem Ug{K:Exit->ASt->Prop}(he:E.Ok)(n id:Nat)(e:TypeId)(s:Nat)(xs:List (List AD)){rid:Nat}{ops:Array Oper}(h:Ki E S ops.toList id e s xs n ops.toList st (K .normal)):AWP E S (.region rid ops false) K st:=by
 refine⟨λa w hs=>wp_region_list ?_⟩;have:=rx he (all:=ops.toList) (Q:=λe a' w'=>∃st',dS E.W S st' a' w'/\K e st') (λa w h=>h) n ops.toList st a w hs h;simpa using this
end
end Go.Proofs.YtlmoekpinpafeaaGreat
