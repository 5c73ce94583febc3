/- QJ -/
import Derived.Test.YtlmoekpinpafeaaGreatRA9
import Derived.Test.YtlmoekpinpafeaaGreatQC
import Derived.Test.YtlmoekpinpafeaaGreatAvMD
import Derived.Test.YtlmoekpinpafeaaGreatWB8
import Derived.Test.YtlmoekpinpafeaaGreatWData
set_option maxHeartbeats 8000000
set_option linter.unusedVariables false
set_option linter.unusedSimpArgs false
set_option maxRecDepth 100000
open List (length_map mem_map)
namespace Go.Proofs.YtlmoekpinpafeaaGreat
open Go.Proofs.Tryz
open Go.ChangeShapes Go.WideShapes Go.RowKit
def iT:List (List Nat):=a8 [0,0,2,0,259,0,0,454,8,37185,10,11,11,0,0x38c2ca2481c61440c204a30e,0xf38d30b2892071851030813cd]
def fC:List (List Nat):=a8 [0,1,0,0,4,5,0,7,8,582,2400450,11,12,12,0,0xf34c2ca2481c61440c204b34f,0x40f38d30b28920718510308140e]
theorem wn(d:DDisk)(a:Int)(r:List Int)(h:bN d=true)(hw:60<=d.wait.length):aM av 196 [.agg d.ds,pI a,.one (.sl (r.map eI))] (.tup [.agg d.ds,.one (dB false)]):=by
 have hs:=dd h;have h40:=(cz h).2.1;have n1:(!bN d)=false:=by rw[h];rfl
 have n4:decide ((60:Int)<=((d.wait.map DWrite.ds).length:Int))=true:=al;have n5:decide (((d.wait.map DWrite.ds).length:Int)>=60)=true:=n4;refine pO func196 call196 ntmps196 results196 λS=>?_;conv=>whnf
 repeat'((first|refine awz ?_|refine cP (cG d) ?_|refine cP (dn d a h40) ?_|refine cP (bM r) ?_|refine cP (tz d hs) ?_|exact rZ|refine tW ?_ ?_|intro h)<;>conv=>whnf)
def J5(y:DDisk×Bool):Prop:=y.2=true->cS y.1=true
theorem ES(d:DDisk)(slot:Int)(m:Int×DState)(h:cS d=true)(hs:slot=0\/slot=1)(hp:m.2.pairs.length<=9223372036854775806):bq av 239 [.agg d.ds,pI slot,.agg (jd m)] J5 (λy=> .tup [.agg y.1.ds,.one (dB y.2)]):=by
 obtain⟨hd,h8⟩:=kR h;have hsm:=dd hd;have c1:=gX d;rw[h]at c1;have c2:=sN m hp;have c3:=ma hs;have c4:=tz d hsm;cases hso:e9 m with
 |false=>
  have er:bc m=[]:=by simp[bc,hso]
  rw[er]at c2;refine aO aL func239 rfl call239 ntmps239 (WA results239) λS=>?_;conv=>whnf
  repeat'((first|refine awz ?_|refine cP (c1) ?_|refine cP (c2) ?_|refine cP (c3) ?_|refine cP (c4) ?_|fail)<;>conv=>whnf)
  all_goals exact⟨(d,false),by simp[J5],rfl⟩
 |true=>
  obtain⟨l1,l2,l3⟩:=ib hso;have q0:((((bc m).map cW).length:Int)==0)=false:=by simp;intro e;rw[e]at l1;simp at l1;omega
  refine aO aL func239 rfl call239 ntmps239 (WA results239) λS=>?_;conv=>whnf
  repeat'((first|refine awz ?_|refine cP (c1) ?_|refine cP (c2) ?_|refine cP (c3) ?_|refine cP (c4) ?_|fail)<;>conv=>whnf)
  refine TE (λg:Nat×DDisk=>g.1<=(bc m).length/\cS g.2=true) (7::10::11::12::rg 31 24) (λg=>[(10,vI .i64 (g.1:Int))]) (λg=>[(3,.cells 39 (d.ds.map .d)),(6,.cells 39 [.nil,.nil]),(9,.cells 39 (g.2.ds.map .d))]) (λg=>(bc m).length-g.1) (0,d) ⟨Nat.zero_le _,h⟩ ?_ sbW (λg hg=>?_)<;>(conv=>whnf)
  ·exact whd
  ·obtain⟨k,t⟩:=g;obtain⟨hk,ht⟩:=hg;simp only at hk ht;obtain⟨ht1,ht8⟩:=kR ht;by_cases hlt:k<(bc m).length
   ·have hc:decide ((k:Int)<(((bc m).map cW).length:Int))=true:=al;have hp2:k<dE (bI m.2).length:=ac;have hro:=uY hso hp2;have hr:bm (bc m)[k]=true:=by rw[pE hso hlt];exact fx hro.1 hro.2
    have ha:0<=slot*4+(k:Int)/\slot*4+(k:Int)<=7:=ac;by_cases hw:t.wait.length<60
    ·have cw:=wq t (slot*4+(k:Int)) (bc m)[k] ht1 hw (by rw[ht8];exact kW ac) hr;repeat'(first|refine awz ?_|fail)
     (refine TD aL 10 (tkc [0,1,3,5,6,7,8] (.two 2 (.two 4 (.two 9 (tkc [10,11,12] (.one 13 (.one 14 (.take 15 .done)))) 13 (.one 9 (tkc [10,11,12] (.one 14 (.take 15 .done))))) 13 (.one 4 (.one 9 (tkc [10,11,12] (.one 14 (.take 15 .done)))))) 13 (onc [2,4,9] (tkc [10,11,12] (.one 14 (.take 15 .done)))))) [(9,9980)] iT ae ae ae ae (λRz=>?_);(conv=>whnf);intro bp0 up0;(conv=>whnf))
     repeat'((first|refine awz ?_|refine TJ hlt ?_|refine cP (cw) ?_|refine Tz ac ac ?_|refine tW ?_ ?_|fail)<;>conv=>whnf)
     all_goals
      refine aW.mk ⟨(k+1,jN t (slot*4+(k:Int)) (bc m)[k]),⟨hlt,BW ht hw ha hr⟩,by show(bc m).length-(k+1)<(bc m).length-k;omega,?_,sbW⟩;exact hds
    ·have cw:=wn t (slot*4+(k:Int)) (bc m)[k] ht1 ac;repeat'(first|refine awz ?_|fail)
     (refine TD aL 10 (tkc [0,1,3,5,6,7,8] (.two 2 (.two 4 (.two 9 (tkc [10,11,12] (.one 13 (.one 14 (.take 15 .done)))) 13 (.one 9 (tkc [10,11,12] (.one 14 (.take 15 .done))))) 13 (.one 4 (.one 9 (tkc [10,11,12] (.one 14 (.take 15 .done)))))) 13 (onc [2,4,9] (tkc [10,11,12] (.one 14 (.take 15 .done)))))) [(9,9980)] iT ae ae ae ae (λRz=>?_);(conv=>whnf);intro bp0 up0;(conv=>whnf))
     repeat'((first|refine awz ?_|refine TJ hlt ?_|refine cP (cw) ?_|refine cP (c4) ?_|refine Tz ac ac ?_|refine tW ?_ ?_|fail)<;>conv=>whnf)
     all_goals exact⟨(d,false),by simp[J5],rfl⟩
   ·have e:k=(bc m).length:=ac;subst e;have hc:decide (((bc m).length:Int)<(((bc m).map cW).length:Int))=false:=ai;repeat'(first|refine awz ?_|fail)
    all_goals exact⟨(t,true),λ_=>ht,rfl⟩
theorem ER(s:DStore)(hok0:storeOk s=true):bq av 178 [.agg s.ds] (λy:DStore×Bool=>storeOk y.1=true) (λy=> .tup [.agg y.1.ds,.one (dB y.2)]):=by
 have sf:=E8 hok0;have hs:=eK hok0;have c1:=fV s (by have:=hs.2.1;omega);rw[hok0]at c1;have c2:=va s hs;have c3:=ui s.disk sf.disk;have c4:=u9 s.state hs.2;have hn:=Aq s.disk;obtain⟨i1,i2,i3,i4⟩:=jf sf.state;have hlast:=sf.last;have hnum:=sf.num;have nogo:∀b,∃y:DStore×Bool,storeOk y.1=true/\AP.tup [.agg s.ds,.one (dB b)]= .tup [.agg y.1.ds,.one (dB y.2)]:=λb=>⟨(s,b),hok0,rfl⟩;by_cases hb:s.busy=0
 ·have q1:(s.busy !=0)=false:=by simpa using hb
  by_cases hg:s.last+4<=s.state.index
  ·have q2:decide (s.state.index<s.last+4)=false:=al;by_cases hx:s.num<1000000000
   ·have q3:decide (s.num>=1000000000)=false:=al;have key:∀slot:Int,slot=0\/slot=1->bq av 239 [.agg s.disk.ds,pI slot,.agg (jd (s.num+1,s.state))] J5 (λy=> .tup [.agg y.1.ds,.one (dB y.2)]):=λslot hsl=>ES s.disk slot (s.num+1,s.state) sf.disk hsl (by show s.state.pairs.length<=_;omega);have k0:=key 0 (.inl rfl);have k1:=key 1 (.inr rfl);cases hne:m8 s.disk with
    |mk o i=>
     rw[hne]at c3 hn;simp only at hn;cases o with
     |none=>
      refine aO aL func178 rfl call178 ntmps178 (WA results178) λS=>?_;conv=>whnf
      repeat'((first|refine awz ?_|refine cP (c1) ?_|refine cP (c2) ?_|refine cP (c3) ?_|refine Tz ac ac ?_|fail)<;>conv=>whnf)
      (refine TD aL 10 (tkc [0,1,2,3,4,6,7] (.three 5 (.two 8 (.two 9 (.two 10 (tkc [11,12,13] (.one 14 (.one 15 (.take 16 .done)))) 14 (.one 10 (tkc [11,12,13] (.one 15 (.take 16 .done))))) 14 (.one 9 (.one 10 (tkc [11,12,13] (.one 15 (.take 16 .done)))))) 14 (onc [8,9,10] (tkc [11,12,13] (.one 15 (.take 16 .done))))) 8 (.two 5 (.two 9 (.two 10 (tkc [11,12,13] (.one 14 (.one 15 (.take 16 .done)))) 14 (.one 10 (tkc [11,12,13] (.one 15 (.take 16 .done))))) 14 (.one 9 (.one 10 (tkc [11,12,13] (.one 15 (.take 16 .done)))))) 14 (onc [5,9,10] (tkc [11,12,13] (.one 15 (.take 16 .done))))) 14 (.two 5 (onc [8,9,10] (tkc [11,12,13] (.one 15 (.take 16 .done)))) 8 (onc [5,9,10] (tkc [11,12,13] (.one 15 (.take 16 .done))))))) [(1,9980)] fC ae ae ae ae (λRz=>?_);(conv=>whnf);intro bp0 up0;(conv=>whnf))
      repeat'((first|refine awz ?_|refine cP (c4) ?_|(refine aG.q k0 rfl λy hy=>?_;obtain⟨u,b⟩:=y)|refine Tz ac ac ?_|refine tW ?_ ?_|intro h)<;>conv=>whnf)
      all_goals(first|exact⟨(s,_),hok0,rfl⟩|(have hb2:(u,b).2=true:=(by simpa using h);exact⟨({s with disk:=u,busy:=s.state.index},true),(zS sf (hy hb2) hb hg hx).ok,rfl⟩))
     |some z=>
      rcases hn with hn|hn
      ·subst hn;refine aO aL func178 rfl call178 ntmps178 (WA results178) λS=>?_;conv=>whnf
       repeat'((first|refine awz ?_|refine cP (c1) ?_|refine cP (c2) ?_|refine cP (c3) ?_|refine Tz ac ac ?_|fail)<;>conv=>whnf)
       (refine TD aL 10 (tkc [0,1,2,3,4,6,7] (.three 5 (.two 8 (.two 9 (.two 10 (tkc [11,12,13] (.one 14 (.one 15 (.take 16 .done)))) 14 (.one 10 (tkc [11,12,13] (.one 15 (.take 16 .done))))) 14 (.one 9 (.one 10 (tkc [11,12,13] (.one 15 (.take 16 .done)))))) 14 (onc [8,9,10] (tkc [11,12,13] (.one 15 (.take 16 .done))))) 8 (.two 5 (.two 9 (.two 10 (tkc [11,12,13] (.one 14 (.one 15 (.take 16 .done)))) 14 (.one 10 (tkc [11,12,13] (.one 15 (.take 16 .done))))) 14 (.one 9 (.one 10 (tkc [11,12,13] (.one 15 (.take 16 .done)))))) 14 (onc [5,9,10] (tkc [11,12,13] (.one 15 (.take 16 .done))))) 14 (.two 5 (onc [8,9,10] (tkc [11,12,13] (.one 15 (.take 16 .done)))) 8 (onc [5,9,10] (tkc [11,12,13] (.one 15 (.take 16 .done))))))) [(1,9980)] fC ae ae ae ae (λRz=>?_);(conv=>whnf);intro bp0 up0;(conv=>whnf))
       repeat'((first|refine awz ?_|refine cP (c4) ?_|(refine aG.q k1 rfl λy hy=>?_;obtain⟨u,b⟩:=y)|refine Tz ac ac ?_|refine tW ?_ ?_|intro h)<;>conv=>whnf)
       all_goals(first|exact⟨(s,_),hok0,rfl⟩|(have hb2:(u,b).2=true:=(by simpa using h);exact⟨({s with disk:=u,busy:=s.state.index},true),(zS sf (hy hb2) hb hg hx).ok,rfl⟩))
      ·subst hn;refine aO aL func178 rfl call178 ntmps178 (WA results178) λS=>?_;conv=>whnf
       repeat'((first|refine awz ?_|refine cP (c1) ?_|refine cP (c2) ?_|refine cP (c3) ?_|refine Tz ac ac ?_|fail)<;>conv=>whnf)
       (refine TD aL 10 (tkc [0,1,2,3,4,6,7] (.three 5 (.two 8 (.two 9 (.two 10 (tkc [11,12,13] (.one 14 (.one 15 (.take 16 .done)))) 14 (.one 10 (tkc [11,12,13] (.one 15 (.take 16 .done))))) 14 (.one 9 (.one 10 (tkc [11,12,13] (.one 15 (.take 16 .done)))))) 14 (onc [8,9,10] (tkc [11,12,13] (.one 15 (.take 16 .done))))) 8 (.two 5 (.two 9 (.two 10 (tkc [11,12,13] (.one 14 (.one 15 (.take 16 .done)))) 14 (.one 10 (tkc [11,12,13] (.one 15 (.take 16 .done))))) 14 (.one 9 (.one 10 (tkc [11,12,13] (.one 15 (.take 16 .done)))))) 14 (onc [5,9,10] (tkc [11,12,13] (.one 15 (.take 16 .done))))) 14 (.two 5 (onc [8,9,10] (tkc [11,12,13] (.one 15 (.take 16 .done)))) 8 (onc [5,9,10] (tkc [11,12,13] (.one 15 (.take 16 .done))))))) [(1,9980)] fC ae ae ae ae (λRz=>?_);(conv=>whnf);intro bp0 up0;(conv=>whnf))
       repeat'((first|refine awz ?_|refine cP (c4) ?_|(refine aG.q k0 rfl λy hy=>?_;obtain⟨u,b⟩:=y)|refine Tz ac ac ?_|refine tW ?_ ?_|intro h)<;>conv=>whnf)
       all_goals(first|exact⟨(s,_),hok0,rfl⟩|(have hb2:(u,b).2=true:=(by simpa using h);exact⟨({s with disk:=u,busy:=s.state.index},true),(zS sf (hy hb2) hb hg hx).ok,rfl⟩))
   ·have q3:decide (s.num>=1000000000)=true:=al;refine aO aL func178 rfl call178 ntmps178 (WA results178) λS=>?_;conv=>whnf
    repeat'((first|refine awz ?_|refine cP (c1) ?_|refine cP (c2) ?_|refine Tz ac ac ?_|fail)<;>conv=>whnf)
    all_goals exact nogo _
  ·have q2:decide (s.state.index<s.last+4)=true:=al;refine aO aL func178 rfl call178 ntmps178 (WA results178) λS=>?_;conv=>whnf
   repeat'((first|refine awz ?_|refine cP (c1) ?_|refine cP (c2) ?_|refine Tz ac ac ?_|fail)<;>conv=>whnf)
   all_goals exact nogo _
 ·have q1:(s.busy !=0)=true:=by simpa using hb
  refine aO aL func178 rfl call178 ntmps178 (WA results178) λS=>?_;conv=>whnf
  repeat'((first|refine awz ?_|refine cP (c1) ?_|refine cP (c2) ?_|fail)<;>conv=>whnf)
  all_goals exact nogo _
def ry:List (List Nat):=a8 [0,1,0,3,0,5,0,7,519,567626201076168,0x2881c91460c4042]
def rJ:List (List Nat):=dN 9 [19674,19675,19610,19619,19034,19115,728,1457,3644]
def q9:List (List Nat):=a8 [0,1,2,0,4,197,0,7,392,0,10,0,12,589,0,15,912,0,18,0,20,1109,98081184715139,0x1759551349140f38d30b289207185103081597]
theorem xr(t:DTwo)(hs:DTwo.small 1048576 t):aM av 109 [.agg t.ds] (.val (.agg t.ds)):=(Dp t hs).pcall
theorem Dr(b:DBook)(hl:b.entries.length<=1048576):aM av 291 [.agg b.ds] (.val (.agg b.ds)):=cV.data (lB b hl) rfl rfl
theorem l8(h:DHead)(hs:h.seen.length<=4):aM av 233 [.agg h.ds] (.val (.agg h.ds)):=by
 refine pO func233 call233 ntmps233 results233 λS=>?_;conv=>whnf
 repeat'((first|refine awz ?_|refine TB aL 1 9 ry rJ ae ae ae rfl ?_|refine cP (ez h.seen ac) ?_|exact rZ|fail)<;>conv=>whnf)
theorem Bk(l:List DAck)(hl:l.length<=1048576):cV av 235 [.one (.d (.sl (l.map DAck.ds)))] [] [(3,.row 249 4 (l.map DAck.ds))] [] (.val (.one (.own 3))):=by
 refine bL aL func235 rfl call235 ntmps235 (WA results235) rfl λS pv=>?_;conv=>whnf
 repeat'((first|refine awz ?_|refine aP (by first|(intro y hy;obtain⟨a,_,rfl⟩:=List.mem_map.1 hy;rfl)|(simp;done)) ?_|refine aQ ak ?_|exact rZ|fail)<;>conv=>whnf)
structure PC (n:DLogNode):Prop where
 two:DTwo.small 1048576 n.two
 h1:n.head.seen.length<=4
 h2:n.nxt.seen.length<=4
 bk:n.book.entries.length<=1048576
 sn:n.seen.length<=4
 ow:n.owe.length<=1048576
theorem kx.short{n:DLogNode}(f:kx n):PC n:=by
 have hh:=(bD f.head).2.2.2.2.1;have h3:=(bh f.book).2.2.2.1;have h4:n.owe.length<=n.book.entries.length:=by rw[f.owe,List.length_map];exact List.length_filter_le _ _
 have h5:n.nxt.seen.length<=4:=by
  have hn:=f.nxt;unfold fy at hn;split at hn
  ·simp only[Bool.and_eq_true,beq_iff_eq]at hn;rw[hn.2];exact uP hh
  ·rw[beq_iff_eq]at hn;rw[hn];simp[d8]
 exact⟨mG (fT f.two).1,d9 hh,h5,ac,d9 f.seenOk,ac⟩
theorem Bl(n:DLogNode)(hs:PC n):cV av 232 [.agg (n.ds.map .d)] [] [(47,.row 249 4 (n.owe.map DAck.ds))] [] (.val (.agg ((n.ds.take 18).map .d++[.own 47]))):=by
 refine bL aL func232 rfl call232 ntmps232 (WA results232) rfl λS pv=>?_;conv=>whnf
 repeat'(first|refine awz ?_|fail)
 (refine TD aL 1 (tkc [0,1,3,4,6,7,9,10,11,12,14,15,17,18,19,20] (onc [2,5,8,13,16,21,22,23] .done)) [(1,9980)] q9 ae ae ae ae (λRz=>?_);(conv=>whnf);intro bp0 up0;(conv=>whnf))
 repeat'((first|refine awz ?_|refine cP (xr n.two hs.two) ?_|refine cP (l8 n.head hs.h1) ?_|refine cP (l8 n.nxt hs.h2) ?_|refine cP (Dr n.book hs.bk) ?_|refine cP (ez n.seen (by have:=hs.sn;omega)) ?_|refine TA (Bk n.owe hs.ow) [(3,47)] rfl rfl ?_|exact rZ|fail)<;>conv=>whnf)
theorem uZ(n:DLogNode)(hs:PC n):aM av 232 [.agg n.ds] (.val (.agg n.ds)):=cV.data (Bl n hs) rfl rfl
theorem EG(t:DTwo)(a:Int)(r:List Int)(h:fc t=true)(hw:60<=t.a.wait.length\/60<=t.b.wait.length)(ha:aI a 0 ((t.a.kept.length:Int)-1)=true)(hr:bm r=true)(hl:r.length<48):aM av 140 [.agg t.ds,pI a,.one (.sl (r.map eI))] (.tup [.agg t.ds,.one (dB false)]):=by
 obtain⟨f1,f2,f3⟩:=dr h;have c1:=cZ t;rw[h]at c1;have c2:=l6 r hr hl;have hsu:=fx hr hl;have cc:=xr t (mG h);have q0:((((r++[jg r]).map eI).length:Int)==0)=false:=al;have wa:∀{d:DDisk},bN d=true->t.a.kept.length=d.kept.length->d.wait.length<60->aM av 196 [.agg d.ds,pI a,.one (.sl ((r++[jg r]).map eI))] (.tup [.agg (jN d a (r++[jg r])).ds,.one (dB true)]):=λhd hk hw=>wq _ a _ hd hw (by rw[<-hk];exact ha) hsu;by_cases h1:t.a.wait.length<60
 ·have w1:=wa f1 rfl h1;have w2:=wn t.b a (r++[jg r]) f2 ac;refine pO func140 call140 ntmps140 results140 λS=>?_;conv=>whnf
  repeat'((first|refine awz ?_|refine cP (c1) ?_|refine cP (c2) ?_|refine cP (w1) ?_|refine cP (w2) ?_|refine cP (cc) ?_|exact rZ|fail)<;>conv=>whnf)
 ·have w1:=wn t.a a (r++[jg r]) f1 ac;by_cases h2:t.b.wait.length<60
  ·have w2:=wa f2 f3 h2;refine pO func140 call140 ntmps140 results140 λS=>?_;conv=>whnf
   repeat'((first|refine awz ?_|refine cP (c1) ?_|refine cP (c2) ?_|refine cP (w1) ?_|refine cP (w2) ?_|refine cP (cc) ?_|exact rZ|fail)<;>conv=>whnf)
  ·have w2:=wn t.b a (r++[jg r]) f2 ac;refine pO func140 call140 ntmps140 results140 λS=>?_;conv=>whnf
   repeat'((first|refine awz ?_|refine cP (c1) ?_|refine cP (c2) ?_|refine cP (w1) ?_|refine cP (w2) ?_|refine cP (cc) ?_|exact rZ|fail)<;>conv=>whnf)
def oN:List (List Nat):=a8 [0,0,2,3,0,261,1597697,7,7,0x92071851030811c8,0x289207185103081289]
def jP:List (List Nat):=a8 [0,1,0,0,4,0,389,29123,0,9,0,11,0,13,238068226,0,0x103ce34c2ca2481c61440c20483d0]
def ne(t:DTwo)(a:Int)(r:List Int):DTwo×Bool:=if t.a.wait.length<60/\t.b.wait.length<60 then(pR t a r,true)else(t,false)
def vY(p:DTwo×Bool):AP:= .tup [.agg p.1.ds,.one (dB p.2)]
theorem we(t:DTwo)(a:Int)(r:List Int)(h:dw t=true)(ha:0<=a/\a<=21)(hr:bm r=true)(hl:r.length<48):aM av 140 [.agg t.ds,pI a,.one (.sl (r.map eI))] (vY (ne t a r)):=by
 obtain⟨f1,f2,f3⟩:=fT h;have hb:aI a 0 ((t.a.kept.length:Int)-1)=true:=by rw[f2];simp[aI];omega
 unfold ne;split
 ·rename_i hw;exact pA t a r f1 hw.1 hw.2 hb hr hl
 ·rename_i hw;exact EG t a r f1 ac hb hr hl
theorem EL(t:DTwo)(e:DEntry)(h:dw t=true)(he:bn e=true):aM av 309 [.agg t.ds,.agg e.ds] (vY (ne t (fX e.index) (eA e))):=by
 have hi:=(d6 he).1;have c1:=gi t;rw[h]at c1;have c2:=ba e;rw[he]at c2;have hs:=pJ e.index;have hr:=nc e;have c3:=tw e.index hi;have c4:=uV e;have c5:=we t (fX e.index) (eA e) h ac hr.1 hr.2;unfold vY at c5⊢;generalize ne t (fX e.index) (eA e)=q at c5⊢;obtain⟨q1,q2⟩:=q;simp only at c5⊢;refine pO func309 call309 ntmps309 results309 λS=>?_;conv=>whnf
 repeat'((first|refine awz ?_|refine cP (c1) ?_|refine cP (c2) ?_|fail)<;>conv=>whnf)
 (refine TD aL 5 (tkc [0,1,2,4] (onc [3,5,6] (.take 7 (.take 8 (.one 9 (.take 10 .done)))))) [(2,9980),(3,9981)] oN ae ae ae ae (λRz=>?_);(conv=>whnf);intro bp0 up0;(conv=>whnf);intro bp1 up1;(conv=>whnf))
 repeat'((first|refine awz ?_|refine cP (c3) ?_|refine cP (c4) ?_|refine cP (c5) ?_|exact rZ|fail)<;>conv=>whnf)
def NA(a b:Int):Int:=if b>a then b else a
def fm(n:DLogNode)(a:yU)(now:Int):DEntry:=⟨aY n.book+1,NA now (gF n.book),a.client,a.seq,a.op⟩
theorem MM{b:DBook}(h:bB b=true):0<=gF b/\gF b<=1000000:=by
 unfold gF;obtain⟨f1,f2,f3,f4,f5,f6⟩:=bh h;split
 ·rename_i e he;obtain⟨e1,e2,e3⟩:=fj f5;exact(d6 (e2 _ (List.mem_of_getLast? he))).2.1
 ·exact f2
theorem yJ{b:DBook}(h:bB b=true):aY b<=2000:=by
 obtain⟨f1,f2,f3,f4,f5,f6⟩:=bh h;cases he:b.entries.getLast? with
 |none=>
  rw[List.getLast?_eq_none_iff]at he;simp[aY,he];omega
 |some e=>
  obtain⟨e1,e2,e3⟩:=fj f5;have:=(d6 (e2 _ (List.mem_of_getLast? he))).1;have:=zV h he;omega
theorem IP{n:DLogNode}{a:yU}{now:Int}(f:kx n)(ha:xG a=true)(hn:0<=now/\now<=1000000)(h20:n.book.entries.length≠20)(hl:aY n.book≠2000):bn (fm n a now)=true/\lK n.book (fm n a now)=true:=by
 have ht:=MM f.book;have hb:=bh f.book;simp only[xG,Bool.and_eq_true,aI,decide_eq_true_eq]at ha;have hlb:n.book.base<=aY n.book/\0<=aY n.book:=by unfold aY;omega
 have hle:=yJ f.book;have hm:now<=NA now (gF n.book)/\gF n.book<=NA now (gF n.book)/\NA now (gF n.book)<=1000000:=by unfold NA;split<;>omega
 have e1:bn (fm n a now)=true:=by
  simp only[bn,fm,Bool.and_eq_true];exact⟨⟨⟨⟨kW ac,kW ac⟩,kW ha.1.1⟩,kW ha.1.2⟩,ha.2⟩
 refine⟨e1,?_⟩;simp only[lK,Bool.and_eq_true,e1,decide_eq_true_eq,beq_iff_eq,true_and];refine⟨⟨rfl,hm.2.1⟩,ac⟩
def Qj(y:DLogNode):Prop:=kx y
theorem Ho(n:DLogNode)(a:yU)(now:Int)(f:kx n)(ha:xG a=true)(hn:0<=now/\now<=1000000)(hf:(bx n.seen a.client).seq<a.seq):bq av 272 [.agg n.ds,.agg a.ds,pI now] Qj (λy=> .val (.agg y.ds)):=by
 have c1:=Bl n f.short;have how:=f.short.ow;have c2:=dp n.book f.book;have hb:=bh f.book;have hlb:n.book.base<=aY n.book:=by unfold aY;omega
 have hle:=yJ f.book;by_cases h20:n.book.entries.length=20
 ·have q:((((n.book.entries.map DEntry.ds).length:Nat):Int)==20)=true:=by simp[h20]
  refine aO aL func272 rfl call272 ntmps272 (WA results272) λS=>?_;conv=>whnf
  repeat'((first|refine awz ?_|refine TA c1 [(47,47)] rfl rfl ?_|refine cP (c2) ?_|fail)<;>conv=>whnf)
  all_goals exact⟨n,f,rfl⟩
 ·have q:((((n.book.entries.map DEntry.ds).length:Nat):Int)==20)=false:=al;by_cases h2k:aY n.book=2000
  ·have q2:(aY n.book==2000)=true:=by simp[h2k]
   refine aO aL func272 rfl call272 ntmps272 (WA results272) λS=>?_;conv=>whnf
   repeat'((first|refine awz ?_|refine TA c1 [(47,47)] rfl rfl ?_|refine cP (c2) ?_|fail)<;>conv=>whnf)
   all_goals exact⟨n,f,rfl⟩
  ·have q2:(aY n.book==2000)=false:=by simp[h2k]
   obtain⟨e1,e2⟩:=IP f ha hn h20 h2k;have c3:=iN n.book f.book;have c4:=EL n.two (fm n a now) f.two e1;have c5:=na n.book (fm n a now) f.book e2;have hs:mY n.seen (fm n a now)=true:=by simp[mY,fm,hf]
   have c6:=oh n.seen (fm n a now) f.seenOk;have c7:=AQ (fm n a now);have hm:cQ n.seen (fm n a now)=some (cF n.seen (fm n a now).mark):=xQ (by
    simp only[Bool.and_eq_true,decide_eq_true_eq];exact⟨⟨e1,hs⟩,by rw[f.last];simp only[fm];omega⟩)
   rw[show hH n.seen (fm n a now)=(cF n.seen (fm n a now).mark,true)by simp only[hH,hm]]at c6;unfold KG at c6;simp only at c6;by_cases hw:n.two.a.wait.length<60/\n.two.b.wait.length<60
   ·have hok:=FM f e2 hs hw.1 hw.2;rw[ne,if_pos hw]at c4;unfold vY at c4;unfold Gq at c5;simp only at c4 c5;refine aO aL func272 rfl call272 ntmps272 (WA results272) λS=>?_;conv=>whnf
    repeat'((first|refine awz ?_|refine TA c1 [(47,47)] rfl rfl ?_|refine cP (c2) ?_|fail)<;>conv=>whnf)
    (refine TD aL 5 (tkc [0,2,3,4,5,8,9,10,11,12,13] (.three 1 (.two 6 (.two 7 (.two 14 (.one 15 (.one 16 .done)) 15 (.one 14 (.one 16 .done))) 15 (onc [7,14,16] .done)) 15 (onc [6,7,14,16] .done)) 6 (.three 1 (.two 7 (.two 14 (.one 15 (.one 16 .done)) 15 (.one 14 (.one 16 .done))) 15 (onc [7,14,16] .done)) 7 (.two 1 (.two 14 (.one 15 (.one 16 .done)) 15 (.one 14 (.one 16 .done))) 15 (onc [1,14,16] .done)) 15 (.two 1 (onc [7,14,16] .done) 7 (onc [1,14,16] .done))) 15 (.two 1 (onc [6,7,14,16] .done) 6 (.two 1 (onc [7,14,16] .done) 7 (onc [1,14,16] .done))))) [(3,9980),(4,9981)] jP ae ae ae ae (λRz=>?_);(conv=>whnf);intro bp0 up0;(conv=>whnf);intro bp1 up1;(conv=>whnf))
    repeat'((first|refine awz ?_|refine cP (c3) ?_|refine cP (iB now (gF n.book)) ?_|refine cP (c4) ?_|refine cP (c5) ?_|refine cP (c6) ?_|refine Tz ac ac ?_|refine tW ?_ ?_|fail)<;>conv=>whnf)
    all_goals(refine TD aL 12 (.take 0 (.take 2 (.two 1 (onc [3,4,5] (.take 6 (.one 7 .done))) 3 (.two 1 (.one 4 (.one 5 (.take 6 (.one 7 .done)))) 4 (.one 1 (.one 5 (.take 6 (.one 7 .done)))))))) [(9,9980)] mq ae ae ae ae (λRz=>?_);(conv=>whnf);intro bp0 up0;(conv=>whnf))
    repeat'((first|refine awz ?_|refine cP (c7) ?_|refine aQ ak ?_|refine tW ?_ ?_|fail)<;>conv=>whnf)
    all_goals exact⟨kM n (fm n a now),hok,by
     show _=AP.val (AP1.agg (DLogNode.ds (kM n (fm n a now))));simp[DLogNode.ds,kM,DTwo.ds,DDisk.ds,DHead.ds,DBook.ds,DAck.ds]⟩
   ·rw[ne,if_neg hw]at c4;unfold vY at c4;simp only at c4;refine aO aL func272 rfl call272 ntmps272 (WA results272) λS=>?_;conv=>whnf
    repeat'((first|refine awz ?_|refine TA c1 [(47,47)] rfl rfl ?_|refine cP (c2) ?_|fail)<;>conv=>whnf)
    (refine TD aL 5 (tkc [0,2,3,4,5,8,9,10,11,12,13] (.three 1 (.two 6 (.two 7 (.two 14 (.one 15 (.one 16 .done)) 15 (.one 14 (.one 16 .done))) 15 (onc [7,14,16] .done)) 15 (onc [6,7,14,16] .done)) 6 (.three 1 (.two 7 (.two 14 (.one 15 (.one 16 .done)) 15 (.one 14 (.one 16 .done))) 15 (onc [7,14,16] .done)) 7 (.two 1 (.two 14 (.one 15 (.one 16 .done)) 15 (.one 14 (.one 16 .done))) 15 (onc [1,14,16] .done)) 15 (.two 1 (onc [7,14,16] .done) 7 (onc [1,14,16] .done))) 15 (.two 1 (onc [6,7,14,16] .done) 6 (.two 1 (onc [7,14,16] .done) 7 (onc [1,14,16] .done))))) [(3,9980),(4,9981)] jP ae ae ae ae (λRz=>?_);(conv=>whnf);intro bp0 up0;(conv=>whnf);intro bp1 up1;(conv=>whnf))
    repeat'((first|refine awz ?_|refine cP (c3) ?_|refine cP (iB now (gF n.book)) ?_|refine cP (c4) ?_|refine Tz ac ac ?_|refine tW ?_ ?_|fail)<;>conv=>whnf)
    all_goals exact⟨n,f,rfl⟩
def o4:List (List Nat):=a8 [0,0,2,0,4,17572164,6510878913]
def o9:List (List Nat):=dN 5 [240,218,221,26,53]
def oO:List (List Nat):=a8 [0,0,0,194,0,5,0,0,8,583,646,267,49409,0xd30b28920718510308130d,0xe34c2ca2481c61440c204e]
def iU:List (List Nat):=a8 [0,0,2,3,4353,347943211332]
def Of(b:DBook)(i:Int):DBook:=⟨i,im b i,b.entries.drop (i-b.base).toNat⟩
theorem EW(b:DBook)(i:Int)(h:bB b=true)(h1:b.base+1<=i)(h2:i<=aY b):aM av 234 [.agg b.ds,pI i] (.tup [.agg (Of b i).ds,.one (dB true)]):=by
 have hb:=bh h;have hl:=yJ h;have c1:=eN b;rw[h]at c1;have c2:=dp b h;have c3:=aN i b.base (aY b);rw[show aI i b.base (aY b)=true from kW ac]at c3;have c4:=mE b i h h1 h2;have c5:aM av 292 [.one (.sl (((b.entries.map DEntry.ds).take b.entries.length).drop (i-b.base).toNat))] (.val (.one (.sl ((b.entries.drop (i-b.base).toNat).map DEntry.ds)))):=by
  rw[show(b.entries.map DEntry.ds).take b.entries.length=b.entries.map DEntry.ds from List.take_of_length_le ai,<-List.map_drop];exact cV.data (wA _ (by rw[List.length_drop];omega)) rfl rfl
 unfold Of;generalize im b i=t at c4⊢;have hk:i-b.base=((i-b.base).toNat:Int):=ac;have hkl:(i-b.base).toNat<=b.entries.length:=by unfold aY at h2;omega
 refine pO func234 call234 ntmps234 results234 λS=>?_;conv=>whnf
 repeat'(first|refine awz ?_|(refine cP (c1) ?_;conv=>whnf)|fail)
 (refine TB aL 3 5 o4 o9 ae ae ae rfl ?_;conv=>whnf)
 repeat'((first|refine awz ?_|refine cP (c2) ?_|refine cP (c3) ?_|fail)<;>conv=>whnf)
 (refine TD aL 5 (tkc [0,1,2,4,5,6,7,8] (.two 3 (onc [9,10,11,12,13] (.take 14 .done)) 9 (.two 3 (onc [10,11,12,13] (.take 14 .done)) 10 (onc [3,11,12,13] (.take 14 .done))))) [(2,9980)] oO ae ae ae ae (λRz=>?_);(conv=>whnf);intro bp0 up0;(conv=>whnf))
 repeat'((first|refine awz ?_|refine cP (c4) ?_|refine cP (c5) ?_|refine Tz ac ac ?_|refine⟨(i-b.base).toNat,b.entries.length,hk,by simp[rW],hkl,by simp,?_⟩|refine And.intro (λx hx=>by obtain⟨a,_,rfl⟩:=List.mem_map.1 hx;rfl) ?_|exact rZ|refine tW ?_ ?_|fail)<;>conv=>whnf)
theorem JK(l:List DAck)(hl:l.length<=1048576):aM av 235 [.one (.sl (l.map DAck.ds))] (.val (.one (.sl (l.map DAck.ds)))):=cV.data (Bk l hl) rfl rfl
def NM(n m:DLogNode):AP:= .tup [.agg m.ds,.one (.sl (n.owe.map DAck.ds))]
theorem ET(n:DLogNode)(f:kx n):aM av 170 [.agg n.ds] (NM n (wD n)):=by
 have hsh:=f.short;have c1:=l4 n (by have:=hsh.h1;omega) (by have:=hsh.ow;omega) (by have:=hsh.sn;omega) (by have:=hsh.h2;omega);rw[f.ok]at c1;have c2:=uZ n hsh;have c3:=ku n.two (fT f.two).1;have c4:=dp n.book f.book;have c5:=l8 n.nxt hsh.h2;have c7:=JK n.owe hsh.ow;unfold NM wD;cases hm:n.more with
 |true=>
  have hn:=f.nxt;unfold fy at hn;rw[if_pos hm]at hn;simp only[Bool.and_eq_true,aI,decide_eq_true_eq]at hn;have hr:=hn.1;have hbs:=f.base;have hd:=f.dhi;have c6:=EW n.book n.nxt.base f.book ac ac;unfold Of at c6;generalize hq:im n.book n.nxt.base=q at c6⊢;rw[if_pos rfl];have qm:n.more=true:=hm;refine pO func170 call170 ntmps170 results170 λS=>?_;conv=>whnf
  repeat'((first|refine awz ?_|refine cP (c1) ?_|refine cP (c2) ?_|refine cP (c3) ?_|refine cP (c4) ?_|refine cP (c5) ?_|refine cP (c6) ?_|fail)<;>conv=>whnf)
  all_goals(refine TD aL 12 (tkc [0,1,2] (.one 3 (.one 4 (.take 5 .done)))) [(1,9980),(4,9981)] iU ae ae ae ae (λRz=>?_);(conv=>whnf);intro bp0 up0;(conv=>whnf);intro bp1 up1;(conv=>whnf))
  repeat'(first|refine awz ?_|(refine cP (c7) ?_;conv=>whnf)|exact rZ|fail)
 |false=>
  rw[if_neg ai];have qm:n.more=false:=hm;refine pO func170 call170 ntmps170 results170 λS=>?_;conv=>whnf
  repeat'((first|refine awz ?_|refine cP (c1) ?_|refine cP (c2) ?_|refine cP (c3) ?_|refine cP (c4) ?_|fail)<;>conv=>whnf)
  all_goals(refine TD aL 12 (tkc [0,1,2] (.one 3 (.one 4 (.take 5 .done)))) [(1,9980),(4,9981)] iU ae ae ae ae (λRz=>?_);(conv=>whnf);intro bp0 up0;(conv=>whnf);intro bp1 up1;(conv=>whnf))
  repeat'(first|refine awz ?_|(refine cP (c7) ?_;conv=>whnf)|fail)
  all_goals(rw[hm];rfl)
def rz:List (List Nat):=a8 [0,1,0,3,0,5,0,7,0,9,2126473,186950088,26744897446475,0x20440c518720928b30d,0x38d30b2892071850c4042]
def rK:List (List Nat):=dN 13 [1594314,1594315,1594250,1594259,530792,530873,53216,53945,6560,13121,29888,88937,265760]
def nv:List (List Nat):=a8 [0,1,0,3,16642,0,6,0,328,37447,645,0xb28920718510308128b]
theorem Dn(l:List Int)(hl:l.length<=1048576):cV av 50 [.one (.d (.sl (l.map eI)))] [] [(3,.row 2 1 (l.map eI))] [] (.val (.one (.own 3))):=by
  refine bL aL func50 rfl call50 ntmps50 (WA results50) rfl λS pv=>?_;conv=>whnf
  repeat'((first|refine awz ?_|refine aP (by first|(intro y hy;obtain⟨a,_,rfl⟩:=mem_map.1 hy;rfl)|(simp;done)) ?_|refine aQ ak ?_|exact rZ|fail)<;>conv=>whnf)
theorem MD(r o:List Int)(hr:r.length<=48)(ho:o.length<=48):aM av 301 [.one (.sl (r.map eI)),.one (.sl (o.map eI))] (.val (.one (.sl ((tC r o).map eI)))):=by
  have h2:(((r.map eI).length:Nat):Int).tdiv 2=((r.length/2:Nat):Int):=by
    rw[length_map,Int.tdiv_eq_ediv_of_nonneg ac];omega
  have e1:List.drop 0 (List.take (r.length/2) (r.map eI))=(r.take (r.length/2)).map eI:=by simp[List.map_take]
  have e2:List.drop (r.length/2) (List.take o.length (o.map eI))=(o.drop (r.length/2)).map eI:=by rw[List.take_of_length_le ai,List.map_drop]
  have c1:=Dn (r.take (r.length/2)) (by rw[List.length_take];omega);have e3:(tC r o).map eI=(r.take (r.length/2)).map eI++(o.drop (r.length/2)).map eI:=by simp[tC]
  rw[e3];by_cases hlt:r.length/2<o.length
  · have q:decide ((((r.map eI).length:Nat):Int).tdiv 2<((o.map eI).length:Int))=true:=by rw[h2];simp only[length_map,decide_eq_true_eq];omega
    refine pO func301 call301 ntmps301 results301 λS=>?_;conv=>whnf
    repeat'(first|((first|refine awz ?_|refine TA c1 [(3,43)] rfl rfl ?_|refine And.intro ah ?_|refine Tz (by rw[h2];omega) (by rw[h2];omega) ?_|fail)<;>conv=>whnf)|(refine⟨0,r.length/2,rfl,h2,Nat.zero_le _,ar,(λx hx=>by obtain⟨a,_,rfl⟩:=mem_map.1 hx;rfl),?_⟩;conv=>whnf;rw[e1])|(refine⟨r.length/2,o.length,h2,(by simp[rW]),ac,ai,(λx hx=>by obtain⟨a,_,rfl⟩:=mem_map.1 hx;rfl),?_⟩;conv=>whnf;rw[e2])|((first|refine aP (by first|(intro y hy;obtain⟨a,_,rfl⟩:=mem_map.1 hy;rfl)|(simp;done)) ?_|refine aQ ak ?_|exact rZ|fail)<;>conv=>whnf))
  · have q:decide ((((r.map eI).length:Nat):Int).tdiv 2<((o.map eI).length:Int))=false:=by rw[h2];simp only[length_map,decide_eq_false_iff_not];omega
    rw[List.drop_of_length_le (Nat.le_of_not_lt hlt),List.map_nil,List.append_nil];refine pO func301 call301 ntmps301 results301 λS=>?_;conv=>whnf
    repeat'(first|refine awz ?_|((first|refine TA c1 [(3,43)] rfl rfl ?_|refine And.intro ah ?_|refine Tz (by rw[h2];omega) (by rw[h2];omega) ?_|fail)<;>conv=>whnf)|(refine⟨0,r.length/2,rfl,h2,Nat.zero_le _,ar,(λx hx=>by obtain⟨a,_,rfl⟩:=mem_map.1 hx;rfl),?_⟩;conv=>whnf;rw[e1])|exact rZ|fail)
structure Po (d y:DDisk):Prop where
  ok:bN y=true
  len:y.kept.length=d.kept.length
theorem MC(d:DDisk)(fs:List Int)(h:bN d=true):bq av 252 [.agg d.ds,.one (.sl (fs.map eI)),.one (dB false)] (Po d) (λy=> .val (.agg y.ds)):=by
  have hs:=dd h;obtain⟨h1,h2,h3,h4,h5⟩:=cz h;refine aO aL func252 rfl call252 ntmps252 (WA results252) λS=>?_;conv=>whnf
  repeat'(first|refine awz ?_|(refine TA (oy d hs) [(23,923),(49,949)] rfl rfl ?_;conv=>whnf)|fail)
  refine TE (λg:Nat×List (List Int)=>g.1<=d.wait.length/\g.2.length=d.kept.length/\∀y∈g.2,bm y=true) (8::9::10::rg 15 51) (λg=>[(8,vI .i64 (g.1:Int))]) (λg=>[(3,.cells 39 (d.ds.map .d)),(6,.cells 39 [.nil,.nil]),(7,.cells 39 [.own 923,.nil]),(923,.row 30 1 (g.2.map cW))]) (λg=>d.wait.length-g.1) (0,d.kept) ⟨Nat.zero_le _,rfl,h4⟩ ?_ sbW (λg hg=>?_)<;>(conv=>whnf)
  · exact whd
  · obtain⟨k,t⟩:=g;obtain⟨hk,hl,ht⟩:=hg;simp only at hk hl ht;by_cases hlt:k<d.wait.length
    · have hc:decide ((k:Int)<((d.wait.map DWrite.ds).length:Int))=true:=al;have hw:=(gn (h5 _ (List.getElem_mem hlt)));have h48:=dl hw.2;have hat:d.wait[k].at_.toNat<t.length:=ac;have hold:=ht _ (List.getElem_mem hat);have set_ok:∀r,bm r=true->∀y∈t.set d.wait[k].at_.toNat r,bm y=true:=λr hr y hy=>by
        rcases List.mem_or_eq_of_mem_set hy with hy|rfl
        · exact ht y hy
        · exact hr
      have c1:=cH d.wait[k].row ac;have c2:=MD d.wait[k].row t[d.wait[k].at_.toNat] h48 (dl hold);have key:∀(x:AD) (r:List Int),x= .sl (r.map eI)->(t.map cW).set d.wait[k].at_.toNat [x]=(t.set d.wait[k].at_.toNat r).map cW:=by
        rintro x r rfl;rw[List.map_set]
      by_cases hfk:k<fs.length
      · have hc2:decide ((k:Int)<((fs.map eI).length:Int))=true:=al;repeat'((first|refine awz ?_|refine TJ hlt ?_|refine TJ hfk ?_|refine TB aL 10 7 jQ gt ae ae ae rfl ?_|refine TB aL 12 13 rz rK ae ae ae rfl ?_|refine AIx.int hw.1.1 aj ?_|refine TJ hat ?_|refine cP (c1) ?_|refine cP (c2) ?_|refine Tz ari ari ?_|refine tW ?_ ?_|intro h)<;>conv=>whnf)
        all_goals first
          | (refine aW.mk ⟨(k + 1, t.set d.wait[k].at_.toNat d.wait[k].row), ⟨hlt, by simpa using hl, set_ok _ hw.2⟩, by show d.wait.length - (k + 1) < d.wait.length - k; omega, ?_, Tu rfl (Tu rfl (Tu rfl (Tu (congrArg some (congrArg (AO.row 30 1) (key _ _ rfl))) Tx)))⟩
             exact hds)
          | (refine aW.mk ⟨(k + 1, t.set d.wait[k].at_.toNat (tC d.wait[k].row t[d.wait[k].at_.toNat])), ⟨hlt, by simpa using hl, set_ok _ (JY hw.2 hold)⟩, by show d.wait.length - (k + 1) < d.wait.length - k; omega, ?_, Tu rfl (Tu rfl (Tu rfl (Tu (congrArg some (congrArg (AO.row 30 1) (key _ _ rfl))) Tx)))⟩
             exact hds)
          | (refine aW.mk ⟨(k + 1, t), ⟨hlt, hl, ht⟩, by show d.wait.length - (k + 1) < d.wait.length - k; omega, ?_, sbW⟩
             exact hds)
      · have hc2:decide ((k:Int)<((fs.map eI).length:Int))=false:=al;repeat'((first|refine awz ?_|refine TJ hlt ?_|refine Tz ari ari ?_|fail)<;>conv=>whnf)
        all_goals
          refine aW.mk ⟨(k+1,t),⟨hlt,hl,ht⟩,by show d.wait.length-(k+1)<d.wait.length-k;omega,?_,sbW⟩;exact hds
    · have e:k=d.wait.length:=ac;subst e;have hc:decide ((d.wait.length:Int)<((d.wait.map DWrite.ds).length:Int))=false:=ai;repeat'(first|refine awz ?_|fail)
      all_goals exact⟨⟨t,[]⟩,⟨FB h hl ht,hl⟩,rfl⟩
theorem xk(d:DDisk)(fs:List Int)(h:bN d=true):bq av 183 [.agg d.ds,.one (.sl (fs.map eI))] (Po d) (λy=> .val (.agg y.ds)):=by
  have c1:=cG d;rw[h]at c1;refine aO aL func183 rfl call183 ntmps183 (WA results183) λS=>?_;conv=>whnf
  repeat'((first|refine awz ?_|refine cP (c1) ?_|refine aG.q (MC d fs h) rfl λy hy=>?_|fail)<;>conv=>whnf)
  all_goals exact⟨_,hy,rfl⟩
theorem Bs(fs:List Int)(b:Nat)(hb:b<=1)(hf:fs.length<=1000000):bq av 251 [.one (.sl (fs.map eI)),pI (b:Int)] (λ_:List Int=>True) (λy=> .val (.one (.sl (y.map eI)))):=by
  refine aO aL func251 rfl call251 ntmps251 (WA results251) λS=>?_;conv=>whnf
  repeat'(first|refine awz ?_|fail)
  refine TE (λg:Nat×List Int=>g.1<=fs.length+2/\g.2.length<=g.1) (7::[5,6,9,10,11,12,13,14,15,16,17,18,19,20,21,22,23,24,25,26]) (λg=>[(5,.one (.own 7)),(6,vI .i64 (g.1:Int))]) (λg=>[(7,.row 2 1 (g.2.map eI))]) (λg=>fs.length+2-g.1) (b,[]) ⟨by simp only;omega,by simp⟩ ?_ sbW (λg hg=>?_)<;>(conv=>whnf)
  · exact whd
  · obtain⟨k,l⟩:=g;obtain⟨hk,hl⟩:=hg;simp only at hk hl;by_cases hlt:k<fs.length
    · have hc:decide ((k:Int)<((fs.map eI).length:Int))=true:=al;repeat'((first|refine awz ?_|refine TJ hlt ?_|refine aQ ak ?_|refine Tz ac ac ?_|refine tW ?_ ?_|intro h)<;>conv=>whnf)
      all_goals first
        |exact⟨l,trivial,rfl⟩
        | (refine aW.mk ⟨(k + 2, l ++ [fs[k]]), ⟨by simp only; omega, by simp; omega⟩, by show fs.length + 2 - (k + 2) < fs.length + 2 - k; omega, ?_, Tu (by rw [List.map_append]; rfl) Tx⟩
           exact hds)
    · have hc:decide ((k:Int)<((fs.map eI).length:Int))=false:=al;repeat'(first|refine awz ?_|fail)
      all_goals exact⟨l,trivial,rfl⟩
theorem BP(t:DTwo)(fs:List Int)(h:fc t=true)(hf:fs.length<=1000000):bq av 182 [.agg t.ds,.one (.sl (fs.map eI))] (λy:DTwo=>fc y=true) (λy=> .val (.agg y.ds)):=by
  obtain⟨f1,f2,f3⟩:=dr h;have c1:=cZ t;rw[h]at c1;refine aO aL func182 rfl call182 ntmps182 (WA results182) λS=>?_;conv=>whnf
  repeat'(first|refine awz ?_|(refine cP (c1) ?_;conv=>whnf)|fail)
  (refine TD aL 3 (tkc [0,1,2,5,6,7] (onc [3,4,8,9,10,11] .done)) [(2,9980)] nv ae ae ae ae (λRz=>?_);(conv=>whnf);intro bp0 up0;(conv=>whnf))
  repeat'((first|refine awz ?_|refine aG.q (Bs fs 0 ac hf) rfl λx0 _=>?_|refine aG.q (Bs fs 1 ac hf) rfl λx1 _=>?_|refine aG.q (xk t.a _ f1) rfl λy hy=>?_|refine aG.q (xk t.b _ f2) rfl λz hz=>?_|fail)<;>conv=>whnf)
  all_goals exact⟨⟨y,z⟩,oC ⟨hy.ok,hz.ok,by rw[hy.len,hz.len];exact f3⟩,rfl⟩
theorem EH(n:DLogNode)(fs:List Int)(f:kx n)(hf:fs.length<=1000000):bq av 122 [.agg n.ds,.one (.sl (fs.map eI))] (λy:DLogNode=>iC y=true) (λy=> .val (.agg y.ds)):=by
  have hsh:=f.short;have c1:=l4 n (by have:=hsh.h1;omega) (by have:=hsh.ow;omega) (by have:=hsh.sn;omega) (by have:=hsh.h2;omega);rw[f.ok]at c1;refine aO aL func122 rfl call122 ntmps122 (WA results122) λS=>?_;conv=>whnf
  repeat'((first|refine awz ?_|refine cP (c1) ?_|refine aG.q (BP n.two fs (fT f.two).1 hf) rfl λy hy=>?_|fail)<;>conv=>whnf)
  all_goals exact⟨⟨y,d8,d8,false,⟨0,0,[]⟩,[],0,[]⟩,by simp[iC,hy],rfl⟩
theorem AU(s:DStore)(fs:List Int)(h:storeOk s=true)(hf:fs.length<=1000000):bq av 123 [.agg s.ds,.one (.sl (fs.map eI))] (λy:DStore=>fk y=true) (λy=> .val (.agg y.ds)):=by
  have hs:=eK h;have c1:=fV s (by have:=hs.2.1;omega);rw[h]at c1;have hd:bN s.disk=true:=by have:=(E8 h).disk;simp only[cS,Bool.and_eq_true]at this;exact this.1
  refine aO aL func123 rfl call123 ntmps123 (WA results123) λS=>?_;conv=>whnf
  repeat'((first|refine awz ?_|refine cP (c1) ?_|refine aG.q (xk s.disk fs hd) rfl λy hy=>?_|fail)<;>conv=>whnf)
  all_goals exact⟨⟨y,fb,0,0,0⟩,by simp[fk,hy.ok],rfl⟩
theorem sJ(s:DSched)(h:eZ s=true)(hs:s.view.jobs.opens.length<=9223372036854775806):aM av 124 [.agg s.ds] (.val (.agg (fW s.id).ds)):=by
  have hi:=(Hk h).id;have c1:=iM s;rw[h]at c1;rcases hi with hi|hi
  all_goals
    have c2:aM av 55 [pI s.id] (.val (.agg (fW s.id).ds)):=by rw[hi];first|exact sL|exact sM
    refine pO func124 call124 ntmps124 results124 λS=>?_;conv=>whnf
    repeat'((first|refine awz ?_|refine cP (c1) ?_|refine cP (c2) ?_|exact rZ|fail)<;>conv=>whnf)
def qh:List (List Nat):=a8 [0,1,2,0,4,5,0,7,8,0,10,11,0,13,14,254841219,0,0x1140f38d30b289207185103081411]
theorem ON{l:List Int}(h0:l.length=6):∃a b c d e f,l=[a,b,c,d,e,f]:=by
  match l,h0 with
  |[a,b,c,d,e,f],_=>exact⟨a,b,c,d,e,f,rfl⟩
theorem He(l:List Int):bq av 289 [.one (.sl (l.map eI))] (λ_:DB×Bool=>True) (λy=> .tup [.agg y.1.ds,.one (dB y.2)]):=by
  by_cases h:l.length=6
  · obtain⟨a,b,c,d,e,f,rfl⟩:=ON h;have hi:=sQ a [b,c,d,e,f] 7 6 rfl;refine aO aL func289 rfl call289 ntmps289 (WA results289) λS=>?_;conv=>whnf
    repeat'((first|refine awz ?_|refine cP (hi) ?_|refine tW ?_ ?_|intro h)<;>conv=>whnf)
    all_goals first
      |exact⟨(⟨_,_,_,_,_⟩,_),trivial,rfl⟩
      | ((refine TD aL 3 (tkc [0, 1, 2, 3, 4, 5, 6, 7, 8, 9, 10, 11, 12, 13, 14] (.two 15 (.one 16 (.one 17 .done)) 16 (.one 15 (.one 17 .done)))) [] qh ae ae ae ae (fun Rz => ?_); (conv => whnf))
         repeat'((first|refine awz ?_|refine cP (ke ⟨_,_,_,_,_⟩) ?_|refine Ty 1 _ rfl rfl ?_|refine Ty 2 _ rfl rfl ?_|refine Ty 3 _ rfl rfl ?_|refine Ty 4 _ rfl rfl ?_|refine Ty 5 _ rfl rfl ?_|refine tW ?_ ?_|intro h)<;>conv=>whnf)
         all_goals exact⟨(⟨_,_,_,_,_⟩,_),trivial,rfl⟩)
  · have hi:=sR l 7 6 ac;refine aO aL func289 rfl call289 ntmps289 (WA results289) λS=>?_;conv=>whnf
    repeat'(first|refine awz ?_|(refine cP (hi) ?_;conv=>whnf)|fail)
    all_goals exact⟨(⟨_,_,_,_,_⟩,_),trivial,rfl⟩
def tG:List (List Nat):=a8 [0,1,2,0,4,5,0,29059,0,0x9207185103081209]
theorem LK{l:List Int}(h0:l.length=8):∃a b c d e f g h,l=[a,b,c,d,e,f,g,h]:=by
  match l,h0 with
  |[a,b,c,d,e,f,g,h],_=>exact⟨a,b,c,d,e,f,g,h,rfl⟩
theorem Mk(l:List Int):bq av 215 [.one (.sl (l.map eI))] (λ_:yU×Bool=>True) (λy=> .tup [.agg y.1.ds,.one (dB y.2)]):=by
  by_cases h:l.length=8
  · obtain⟨a,b,c,d,e,f,g,k,rfl⟩:=LK h;have hi:=sQ a [b,c,d,e,f,g,k] 1 8 rfl;have hr:=Hc [d,e,f,g,k];unfold pOp at hr;generalize (od [d,e,f,g,k]).isSome=ok at hr;generalize (od [d,e,f,g,k]).getD ⟨0,0,0,0,0⟩=o at hr;refine aO aL func215 rfl call215 ntmps215 (WA results215) λS=>?_;conv=>whnf
    repeat'((first|refine awz ?_|refine cP (hi) ?_|refine cP (hr) ?_|refine⟨3,8,by simp[F9],by simp[rW],ac,by simp,?_⟩|refine And.intro (λx hx=>by obtain⟨a,_,rfl⟩:=List.mem_map.1 hx;rfl) ?_|refine tW ?_ ?_|intro h)<;>conv=>whnf)
    all_goals first
      |exact⟨(⟨_,_,⟨_,_,_,_,_⟩⟩,_),trivial,rfl⟩
      | ((refine TD aL 4 (tkc [0, 1, 2, 3, 4, 5, 6] (.two 7 (.one 8 (.one 9 .done)) 8 (.one 7 (.one 9 .done)))) [(4, 9980)] tG ae ae ae ae (fun Rz => ?_); (conv => whnf); intro bp0 up0; (conv => whnf))
         repeat'((first|refine awz ?_|refine cP (wd ⟨_,_,o⟩) ?_|refine Ty 1 _ rfl rfl ?_|refine Ty 2 _ rfl rfl ?_|refine tW ?_ ?_|intro h)<;>conv=>whnf)
         all_goals first
           |exact⟨(⟨_,_,⟨_,_,_,_,_⟩⟩,_),trivial,rfl⟩
           |exact⟨(⟨_,_,o⟩,_),trivial,rfl⟩)
  · have hi:=sR l 1 8 ac;refine aO aL func215 rfl call215 ntmps215 (WA results215) λS=>?_;conv=>whnf
    repeat'(first|refine awz ?_|(refine cP (hi) ?_;conv=>whnf)|fail)
    all_goals exact⟨(⟨_,_,⟨_,_,_,_,_⟩⟩,_),trivial,rfl⟩
section
variable {w:DWant}{last s:Int}
def tH:List (List Nat):=a8 [0,1,0,3,0,0,6,0,8,2388292,10,706,12,0xd30b2892071851030812cd]
def tI:List (List Nat):=a8 [0,1,0,3,0,0,6,28996,8,578,10,0xb28920718510308124b]
def vj(l:List DMsg):Prop:=l.length<=60/\∀m∈l,m.row.length<=1000
theorem vj.one{a b:Int}{r:List Int}(h:r.length<=1000):vj [⟨a,b,r⟩]:=⟨by simp,λm hm=>by rw[List.mem_singleton.1 hm];exact h⟩
theorem OH{a:DAck}(h1:q6 a=true)(h4:w.kind≠4)(h5:last<a.index):pS w ⟨s,a.index,0,0⟩ s last=true:=by
 simp only[q6,Bool.and_eq_true,aI,decide_eq_true_eq]at h1;have h6:a.index<=2000:=by
  have h:=h1.2;split at h
  ·simp only[beq_iff_eq]at h;omega
  ·simp only[Bool.and_eq_true,decide_eq_true_eq]at h;omega
 simp[pS,aI,h4];omega
theorem OI{v:DB}(h1:BB v=true)(h4:w.kind=4)(h5:last<=v.index):pS w ⟨s,v.index,v.has,v.value⟩ s last=true:=by
 simp only[BB,Bool.and_eq_true,Bool.or_eq_true,aI,decide_eq_true_eq,beq_iff_eq]at h1;simp[pS,aI,h4];omega
theorem uT(c:DClient)(h:wK c)(e:c.gots.length=c.todo.length):aM av 249 [.agg c.ds] (.val (pI 0)):=by
 have h12:=h.len;have hg:=h.gl;have c1:=dM c ac ac;rw[h.ok]at c1;have q:(((c.gots.map DGot.ds).length:Int)==((c.todo.map DWant.ds).length:Int))=true:=by simp[e]
 refine pO func249 call249 ntmps249 results249 λS=>?_;conv=>whnf
 repeat'(first|refine awz ?_|(refine cP (c1) ?_;conv=>whnf)|exact rZ|fail)
theorem uU(c:DClient)(h:wK c)(e:c.gots.length<c.todo.length):aM av 249 [.agg c.ds] (.val (pI ((c.gots.length:Int)+1))):=by
 have h12:=h.len;have hg:=h.gl;have c1:=dM c ac ac;rw[h.ok]at c1;have q:(((c.gots.map DGot.ds).length:Int)==((c.todo.map DWant.ds).length:Int))=false:=al;rw[show(c.gots.length:Int)+1=((c.gots.map DGot.ds).length:Int)+1 by rw[List.length_map]];refine pO func249 call249 ntmps249 results249 λS=>?_;conv=>whnf
 repeat'((first|refine awz ?_|refine cP (c1) ?_|refine Tz aj aj ?_|exact rZ|fail)<;>conv=>whnf)
theorem Dh(c:DClient)(h:wK c):bq av 181 [.agg c.ds] vj (λy=> .val (.one (.sl (y.map DMsg.ds)))):=by
 have hg:=h.gl;have h12:=h.len;by_cases e:c.gots.length=c.todo.length
 ·have c1:=uT c h e;refine aO aL func181 rfl call181 ntmps181 (WA results181) λS=>?_;conv=>whnf
  repeat'(first|refine awz ?_|(refine cP (c1) ?_;conv=>whnf)|fail)
  all_goals exact⟨[],⟨by simp,by simp⟩,rfl⟩
 ·have hlt:c.gots.length<c.todo.length:=ac;have c1:=uU c h hlt;have q0:((c.gots.length:Int)+1==0)=false:=al;have gu:(c.todo.map DWant.ds)[c.gots.length]? =some (DWant.ds c.todo[c.gots.length]):=by rw[List.getElem?_map,List.getElem?_eq_getElem hlt];rfl
  generalize c.todo[c.gots.length]=w at gu;have c2:=Jq ⟨c.id,(c.gots.length:Int)+1,w.key,c.last⟩;have c3:=Da ⟨c.id,(c.gots.length:Int)+1,w.op⟩;by_cases hk:w.kind=4
  ·have q:(w.kind==4)=true:=by simpa using hk
   refine aO aL func181 rfl call181 ntmps181 (WA results181) λS=>?_;conv=>whnf
   repeat'((first|refine awz ?_|refine cP (c1) ?_|refine Tz ac ac ?_|refine Ty c.gots.length _ ac gu ?_|fail)<;>conv=>whnf)
   (refine TD aL 6 (tkc [0,1,2,3,4,5,6,7,8] (onc [9,10,11,12] (.take 13 .done))) [(1,9980),(4,9981)] tH ae ae ae ae (λRz=>?_);(conv=>whnf);intro bp0 up0;(conv=>whnf);intro bp1 up1;(conv=>whnf))
   repeat'(first|refine awz ?_|(refine aG.q c2 rfl λy hy=>?_;conv=>whnf)|fail)
   all_goals exact⟨[⟨c.id,1,y⟩],.one (Nat.le_trans hy ah),rfl⟩
  ·have q:(w.kind==4)=false:=by simpa using hk
   refine aO aL func181 rfl call181 ntmps181 (WA results181) λS=>?_;conv=>whnf
   repeat'((first|refine awz ?_|refine cP (c1) ?_|refine Tz ac ac ?_|refine Ty c.gots.length _ ac gu ?_|fail)<;>conv=>whnf)
   (refine TD aL 7 (tkc [0,1,2,3,4,5,6] (onc [7,8,9,10] (.take 11 .done))) [(1,9980),(4,9981)] tI ae ae ae ae (λRz=>?_);(conv=>whnf);intro bp0 up0;(conv=>whnf);intro bp1 up1;(conv=>whnf))
   repeat'(first|refine awz ?_|(refine aG.q c3 rfl λy hy=>?_;conv=>whnf)|fail)
   all_goals exact⟨[⟨c.id,0,y⟩],.one (Nat.le_trans hy ah),rfl⟩
theorem JL(x:DClient)(hs:DClient.small 1048576 x):cV av 67 [.agg (x.ds.map .d)] [] [(9,.row 151 4 (x.gots.map DGot.ds))] [] (.val (.agg [.d (dI x.id),.d (.sl (x.todo.map DWant.ds)),.own 9,.d (dI x.last)])):=by
 obtain⟨h1,h2⟩:=(show x.todo.length<=1048576/\x.gots.length<=1048576 from hs);refine bL aL func67 rfl call67 ntmps67 (WA results67) rfl λS pv=>?_;conv=>whnf
 repeat'(first|refine awz ?_|fail)
 (refine TD aL 1 (tkc [0,1,3,4,7,8,10,11] (.two 2 (.two 5 (onc [6,9,12,13] .done) 6 (onc [5,9,12,13] .done)) 6 (onc [2,5,9,12,13] .done))) [(1,9980)] jO ae ae ae ae (λRz=>?_);(conv=>whnf);intro bp0 up0;(conv=>whnf))
 repeat'((first|refine awz ?_|refine aP (by first|(intro y hy;obtain⟨a,_,rfl⟩:=List.mem_map.1 hy;rfl)|(simp;done)) ?_|refine aQ ak ?_|exact rZ|refine tW ?_ ?_|fail)<;>conv=>whnf)
theorem yn(c:DClient)(g:DGot)(hs:DClient.small 1048576 c):aM av 319 [.agg c.ds,.agg g.ds] (.val (.agg (pd c g).ds)):=by
 obtain⟨h1,h2⟩:=(show c.todo.length<=1048576/\c.gots.length<=1048576 from id hs);have e:(pd c g).ds=[dI c.id,.sl (c.todo.map DWant.ds),.sl (c.gots.map DGot.ds++[g.ds]),dI g.index]:=by simp[pd,DClient.ds]
 rw[e];refine pO func319 call319 ntmps319 results319 λS=>?_;conv=>whnf
 repeat'((first|refine awz ?_|refine TA (JL c hs) [(9,49)] rfl rfl ?_|refine aQ ak ?_|exact rZ|fail)<;>conv=>whnf)
def MQ(c y:DClient):Prop:=wK y/\y.id=c.id
theorem GX(c:DClient)(a:DAck)(hC:wK c):bq av 288 [.agg c.ds,.agg a.ds] (MQ c) (λy=> .val (.agg y.ds)):=by
 have hg:=hC.gl;have h12:=hC.len;have hs:=jm hC.ok;have c0:=dM c ac ac;rw[hC.ok]at c0;have c4:=pG c hs;by_cases e:c.gots.length=c.todo.length
 ·have c1:=uT c hC e;refine aO aL func288 rfl call288 ntmps288 (WA results288) λS=>?_;conv=>whnf
  repeat'((first|refine awz ?_|refine cP (c0) ?_|refine cP (c1) ?_|refine cP (c4) ?_|fail)<;>conv=>whnf)
  all_goals exact⟨c,⟨hC,rfl⟩,rfl⟩
 ·have hlt:c.gots.length<c.todo.length:=ac;have c1:=uU c hC hlt;have q0:((c.gots.length:Int)+1==0)=false:=al;have gu:(c.todo.map DWant.ds)[c.gots.length]? =some (DWant.ds c.todo[c.gots.length]):=by rw[List.getElem?_map,List.getElem?_eq_getElem hlt];rfl
  have gw:c.todo.getD c.gots.length ⟨0,op0,0⟩=c.todo[c.gots.length]:=by rw[List.getD_eq_getElem?_getD,List.getElem?_eq_getElem hlt];rfl
  generalize c.todo[c.gots.length]=w at gu gw;have c5:=yn c ⟨(c.gots.length:Int)+1,a.index,0,0⟩ hs;have key:q6 a=true->w.kind≠4->c.last<a.index->MQ c (pd c ⟨(c.gots.length:Int)+1,a.index,0,0⟩):=λk1 k2 k3=>⟨CO hC hlt (by rw[gw];exact OH k1 k2 k3),rfl⟩;refine aO aL func288 rfl call288 ntmps288 (WA results288) λS=>?_;conv=>whnf
  repeat'((first|refine awz ?_|refine cP (c0) ?_|refine cP (c1) ?_|refine cP (c4) ?_|refine cP (c5) ?_|refine cP (lZ a) ?_|refine Tz ac ac ?_|refine Ty c.gots.length _ ac gu ?_|refine tW ?_ ?_|intro h)<;>conv=>whnf)
  all_goals first
   |exact⟨c,⟨hC,rfl⟩,rfl⟩
   |(rename_i k1 k2 k3 k4;refine⟨_,key ?_ ?_ ?_,rfl⟩<;>(simp only[Bool.not_eq_false',beq_eq_false_iff_ne,ne_eq,decide_eq_false_iff_not]at k1 k4 h<;>first|assumption|omega))
theorem BQ(c:DClient)(a:DB)(hC:wK c):bq av 290 [.agg c.ds,.agg a.ds] (MQ c) (λy=> .val (.agg y.ds)):=by
 have hg:=hC.gl;have h12:=hC.len;have hs:=jm hC.ok;have c0:=dM c ac ac;rw[hC.ok]at c0;have c4:=pG c hs;by_cases e:c.gots.length=c.todo.length
 ·have c1:=uT c hC e;refine aO aL func290 rfl call290 ntmps290 (WA results290) λS=>?_;conv=>whnf
  repeat'((first|refine awz ?_|refine cP (c0) ?_|refine cP (c1) ?_|refine cP (c4) ?_|fail)<;>conv=>whnf)
  all_goals exact⟨c,⟨hC,rfl⟩,rfl⟩
 ·have hlt:c.gots.length<c.todo.length:=ac;have c1:=uU c hC hlt;have q0:((c.gots.length:Int)+1==0)=false:=al;have gu:(c.todo.map DWant.ds)[c.gots.length]? =some (DWant.ds c.todo[c.gots.length]):=by rw[List.getElem?_map,List.getElem?_eq_getElem hlt];rfl
  have gw:c.todo.getD c.gots.length ⟨0,op0,0⟩=c.todo[c.gots.length]:=by rw[List.getD_eq_getElem?_getD,List.getElem?_eq_getElem hlt];rfl
  generalize c.todo[c.gots.length]=w at gu gw;have c5:=yn c ⟨(c.gots.length:Int)+1,a.index,a.has,a.value⟩ hs;have key:BB a=true->w.kind=4->c.last<=a.index->MQ c (pd c ⟨(c.gots.length:Int)+1,a.index,a.has,a.value⟩):=λk1 k2 k3=>⟨CO hC hlt (by rw[gw];exact OI k1 k2 k3),rfl⟩;refine aO aL func290 rfl call290 ntmps290 (WA results290) λS=>?_;conv=>whnf
  repeat'((first|refine awz ?_|refine cP (c0) ?_|refine cP (c1) ?_|refine cP (c4) ?_|refine cP (c5) ?_|refine cP (ke a) ?_|refine Tz ac ac ?_|refine Ty c.gots.length _ ac gu ?_|refine tW ?_ ?_|intro h)<;>conv=>whnf)
  all_goals first
   |exact⟨c,⟨hC,rfl⟩,rfl⟩
   |(rename_i k1 k2 k3 k4;refine⟨_,key ?_ ?_ ?_,rfl⟩<;>(simp only[Bool.not_eq_false',bne_eq_false_iff_eq,decide_eq_false_iff_not]at k1 k4 h<;>first|assumption|omega))
end
def rf:List (List Nat):=a8 [0,1,0,3,4,322,6,0x7185103081147]
def ri:List (List Nat):=a8 [0,0,2,0,4,323,6,20929,0x207185103081208]
theorem gQ{j:DJobs}(h:gz j=true):j.opens.length<=8/\(∀d∈j.opens,1<=d.id/\d.id<=20)/\0<=j.epoch/\j.epoch<=1000:=by
  simp only[gz,Bool.and_eq_true,decide_eq_true_eq,List.all_eq_true,aI]at h;refine⟨h.1.1.1.2,λd hd=>?_,h.1.1.1.1.1.2⟩;have:=h.1.1.2 d hd;simp only[nH,aI,Bool.and_eq_true,decide_eq_true_eq]at this;exact this.1
theorem uS(v:DView)(now:Int):bq av 299 [.agg v.ds,pI now] (λ_:Int=>True) (λy=> .val (pI y)):=by
  refine aO aL func299 rfl call299 ntmps299 (WA results299) λS=>?_;conv=>whnf
  repeat'((first|refine awz ?_|refine cP (kf v) ?_|refine cP (cU _) ?_|refine cP (iB _ _) ?_|refine tW ?_ ?_|intro h)<;>conv=>whnf)
  all_goals exact⟨(_:Int),trivial,rfl⟩
theorem Jn(v:DView)(who now:Int):bq av 244 [.agg v.ds,pI who,pI now] (λ_:Bool=>True) (λy=>rB y):=by
  refine aO aL func244 rfl call244 ntmps244 (WA results244) λS=>?_;conv=>whnf
  repeat'((first|refine awz ?_|refine aG.q (uS v now) rfl λy _=>?_|refine cP (eO _) ?_|refine tW ?_ ?_|intro h)<;>conv=>whnf)
  all_goals exact⟨(_:Bool),trivial,rfl⟩
theorem Mc(v:DView)(now:Int):bq av 245 [.agg v.ds,pI now] (λ_:Bool=>True) (λy=>rB y):=by
  refine aO aL func245 rfl call245 ntmps245 (WA results245) λS=>?_;conv=>whnf
  repeat'((first|refine awz ?_|refine aG.q (uS v now) rfl λy _=>?_|refine tW ?_ ?_|intro h)<;>conv=>whnf)
  all_goals exact⟨(_:Bool),trivial,rfl⟩
theorem Jz(v:DView)(i:Int):bq av 242 [.agg v.ds,pI i] (λ_:Bool=>True) (λy=>rB y):=by
  refine aO aL func242 rfl call242 ntmps242 (WA results242) λS=>?_;conv=>whnf
  repeat'((first|refine awz ?_|refine cP (kf v) ?_|refine tW ?_ ?_|intro h)<;>conv=>whnf)
  all_goals exact⟨(_:Bool),trivial,rfl⟩
def Qi(l:List Int):Prop:=∀x∈l,1<=x/\x<=20
theorem MA(v:DView)(now:Int)(h:gz v.jobs=true):bq av 298 [.agg v.ds,pI now] Qi (λy=> .val (.one (.sl (y.map eI)))):=by
  obtain⟨h8,hid,_⟩:=gQ h;refine aO aL func298 rfl call298 ntmps298 (WA results298) λS=>?_;conv=>whnf
  repeat'(first|refine awz ?_|(refine aG.q (uS v now) rfl λgs _=>?_;conv=>whnf)|fail)
  refine TE (λg:Nat×List Int=>g.1<=v.jobs.opens.length/\g.2.length<=g.1/\Qi g.2) (8::[5,7,12,13,14,15,16,17,18,19,20,21,22,23,24,25,26,27,28,29,30,31,32,33,34,35,36,37,38,39,40,41,42]) (λg=>[(5,.one (.own 8)),(6,vI .i64 gs),(7,vI .i64 (g.1:Int))]) (λg=>[(2,.cells 63 (v.ds.map .d)),(8,.row 2 1 (g.2.map eI))]) (λg=>v.jobs.opens.length-g.1) (0,[]) ⟨Nat.zero_le _,by simp,by intro x hx;cases hx⟩ ?_ sbW (λg hg=>?_)<;>(conv=>whnf)
  · exact whd
  · obtain⟨k,l⟩:=g;obtain⟨hk,hl,hi⟩:=hg;simp only at hk hl hi;by_cases hlt:k<v.jobs.opens.length
    · have hc:decide ((k:Int)<((v.jobs.opens.map DDue.ds).length:Int))=true:=al;have hd:=hid _ (List.getElem_mem hlt);repeat'((first|refine awz ?_|refine TJ hlt ?_|refine aQ ak ?_|refine Tz ac ac ?_|refine tW ?_ ?_|intro h)<;>conv=>whnf)
      all_goals first
        |exact⟨l,hi,rfl⟩
        | (refine aW.mk ⟨(k + 1, l ++ [v.jobs.opens[k].id]), ⟨hlt, by simp; omega, fun x hx => ?_⟩, by show v.jobs.opens.length - (k + 1) < v.jobs.opens.length - k; omega, ?_, Tu rfl (Tu (by rw [List.map_append]; rfl) Tx)⟩
           · rcases List.mem_append.1 hx with hx|hx
             · exact hi x hx
             · rw[List.mem_singleton.1 hx];exact hd
           · exact hds)
        | (refine aW.mk ⟨(k + 1, l), ⟨hlt, by simp only; omega, hi⟩, by show v.jobs.opens.length - (k + 1) < v.jobs.opens.length - k; omega, ?_, sbW⟩
           exact hds)
    · have e:k=v.jobs.opens.length:=ac;subst e;have hc:decide ((v.jobs.opens.length:Int)<((v.jobs.opens.map DDue.ds).length:Int))=false:=ai;repeat'(first|refine awz ?_|fail)
      all_goals exact⟨l,hi,rfl⟩
theorem G7(v:DView)(now:Int)(h:gz v.jobs=true):bq av 243 [.agg v.ds,pI now] (λy:Int×Bool=>y.2=true->1<=y.1/\y.1<=20) (λy=> .tup [.one (dI y.1),.one (dB y.2)]):=by
  refine aO aL func243 rfl call243 ntmps243 (WA results243) λS=>?_;conv=>whnf
  repeat'(first|refine awz ?_|fail)
  refine aG.q (MA v now h) rfl λl hl=>?_;rcases l with _|⟨a,r⟩
  · (conv=>whnf)
    repeat'(first|refine awz ?_|fail)
    all_goals exact⟨(_,false),by simp,rfl⟩
  · have q:((((a::r).map eI).length:Int)==0)=false:=al;(conv=>whnf)
    repeat'(first|refine awz ?_|(refine Ty 0 (eI a) rfl rfl ?_;conv=>whnf)|fail)
    all_goals exact⟨(a,true),λ_=>hl a (List.mem_cons_self ..),rfl⟩
theorem mb(j:DJobs)(h:j.opens.length<=1048576):aM av 318 [.agg j.ds] (.val (.agg j.ds)):=by
  refine pO func318 call318 ntmps318 results318 λS=>?_;conv=>whnf
  repeat'((first|refine awz ?_|refine aP (by first|(intro y hy;obtain⟨a,_,rfl⟩:=List.mem_map.1 hy;rfl)|(simp;done)) ?_|refine aQ ak ?_|exact rZ|fail)<;>conv=>whnf)
theorem vd(v:DView)(h:v.jobs.opens.length<=1048576):aM av 297 [.agg v.ds] (.val (.agg v.ds)):=by
  refine pO func297 call297 ntmps297 results297 λS=>?_;conv=>whnf
  repeat'(first|refine awz ?_|(refine cP (mb v.jobs h) ?_;conv=>whnf)|exact rZ|fail)
theorem Bo(s:DSched)(h:s.view.jobs.opens.length<=1048576):aM av 241 [.agg s.ds] (.val (.agg s.ds)):=by
  refine pO func241 call241 ntmps241 results241 λS=>?_;conv=>whnf
  repeat'(first|refine awz ?_|(refine cP (vd s.view h) ?_;conv=>whnf)|exact rZ|fail)
theorem EK(v:DView)(j:DJobs)(hV:gz v.jobs=true):bq av 287 [.agg v.ds,.agg j.ds] (λy:DView=>gz y.jobs=true) (λy=> .val (.agg y.ds)):=by
  have c0:=kf v;rw[hV]at c0;have c1:=kb j;have c2:=vd v (by have:=(gQ hV).1;omega);cases hj:gz j with
  |false=>
    rw[hj]at c1;refine aO aL func287 rfl call287 ntmps287 (WA results287) λS=>?_;conv=>whnf
    repeat'((first|refine awz ?_|refine cP (c0) ?_|refine cP (c1) ?_|refine cP (c2) ?_|fail)<;>conv=>whnf)
    all_goals exact⟨v,hV,rfl⟩
  |true=>
    rw[hj]at c1;have c3:=mb j (by have:=(gQ hj).1;omega);refine aO aL func287 rfl call287 ntmps287 (WA results287) λS=>?_;conv=>whnf
    repeat'((first|refine awz ?_|refine cP (c0) ?_|refine cP (c1) ?_|refine cP (c2) ?_|refine cP (c3) ?_|refine tW ?_ ?_|intro h)<;>conv=>whnf)
    all_goals first|exact⟨v,hV,rfl⟩|exact⟨⟨j⟩,hj,rfl⟩
def La(s y:DSched):Prop:=DE y/\y.id=s.id
theorem AT(s:DSched)(now:Int)(f:DE s):bq av 179 [.agg s.ds,pI now] (La s) (λy=> .val (.agg y.ds)):=by
  have c0:=iM s;rw[f.ok]at c0;obtain⟨h8,hid,he⟩:=gQ f.jobs;have c1:=Bo s ac;have hq:=f.seq;cases hb:s.busy with
  |true=>
    have qb:s.busy=true:=hb;refine aO aL func179 rfl call179 ntmps179 (WA results179) λS=>?_;conv=>whnf
    repeat'((first|refine awz ?_|refine cP (c0) ?_|refine cP (c1) ?_|refine cP (cU _) ?_|refine tW ?_ ?_|intro h)<;>conv=>whnf)
    all_goals exact⟨s,⟨f,rfl⟩,rfl⟩
  |false=>
    have qb:s.busy=false:=hb;by_cases hm:s.seq>=2000
    · have q1:decide (s.seq>=2000)=true:=by simpa using hm
      refine aO aL func179 rfl call179 ntmps179 (WA results179) λS=>?_;conv=>whnf
      repeat'((first|refine awz ?_|refine cP (c0) ?_|refine cP (c1) ?_|refine cP (cU _) ?_|refine tW ?_ ?_|intro h)<;>conv=>whnf)
      all_goals exact⟨s,⟨f,rfl⟩,rfl⟩
    · have q1:decide (s.seq>=2000)=false:=by simpa using hm
      have ok:∀o:DOp,lT o=true->o.kind=4\/o.kind=5->La s {s with seq:=s.seq+1,busy:=true,op:=o}:=λo h1 h2=>
        ⟨⟨f.id,by show 0<=s.seq+1/\s.seq+1<=2000;omega,f.jobs,f.index,λh=>(by cases h),λ_=>⟨by show s.seq+1≠0;omega,h1,h2⟩⟩,rfl⟩
      refine aO aL func179 rfl call179 ntmps179 (WA results179) λS=>?_;conv=>whnf
      repeat'((first|refine awz ?_|refine cP (c0) ?_|refine cP (c1) ?_|refine cP (cU _) ?_|refine aG.q (Jz s.view s.index) rfl λy _=>?_|(refine aG.q (G7 s.view now f.jobs) rfl λz hz=>?_;obtain⟨zi,zb⟩:=z)|refine aG.q (Jn s.view s.id now) rfl λy _=>?_|refine aG.q (Mc s.view now) rfl λy _=>?_|refine Tz ac ac ?_|refine tW ?_ ?_|intro h)<;>conv=>whnf)
      all_goals first
        |exact⟨s,⟨f,rfl⟩,rfl⟩
        |exact⟨_,ok ⟨5,20,0,0,0⟩ ah (.inr rfl),rfl⟩
        |(have h4:=hz (by simpa using h);exact⟨_,ok ⟨4,zi,s.view.jobs.epoch,0,0⟩ (by simp[lT,aI];omega) (.inl rfl),rfl⟩)
theorem NZ(s:DSched)(f:DE s):bq av 247 [.agg s.ds] (λ_:yU×Bool=>True) (λy=> .tup [.agg y.1.ds,.one (dB y.2)]):=by
  have c0:=iM s;rw[f.ok]at c0;refine aO aL func247 rfl call247 ntmps247 (WA results247) λS=>?_;conv=>whnf
  repeat'((first|refine awz ?_|refine cP (c0) ?_|refine tW ?_ ?_|intro h)<;>conv=>whnf)
  all_goals first
    |exact⟨(⟨_,_,⟨_,_,_,_,_⟩⟩,_),trivial,rfl⟩
    |exact⟨(⟨_,_,_⟩,_),trivial,rfl⟩
theorem Bc(s:DSched)(f:DE s):bq av 180 [.agg s.ds] vj (λy=> .val (.one (.sl (y.map DMsg.ds)))):=by
  have c0:=iM s;rw[f.ok]at c0;refine aO aL func180 rfl call180 ntmps180 (WA results180) λS=>?_;conv=>whnf
  repeat'(first|refine awz ?_|(refine cP (c0) ?_;conv=>whnf)|fail)
  (refine TD aL 3 (tkc [0,1,2,3] (onc [4,5,6] (.take 7 .done))) [(1,9980)] rf ae ae ae ae (λRz=>?_);(conv=>whnf);intro bp0 up0;(conv=>whnf))
  repeat'((first|refine awz ?_|refine aG.q (Jp _) rfl λy hy=>?_|(refine aG.q (NZ s f) rfl λz _=>?_;obtain⟨za,zb⟩:=z)|refine tW ?_ ?_|intro h)<;>conv=>whnf)
  · (refine TD aL 6 (tkc [0,1,2,3] (onc [4,5,6,7] (.take 8 .done))) [(1,9980),(4,9981)] ri ae ae ae ae (λRz=>?_);(conv=>whnf);intro bp0 up0;(conv=>whnf);intro bp1 up1;(conv=>whnf))
    repeat'((first|refine awz ?_|refine aG.q (Da za) rfl λx hx=>?_|refine aQ ak ?_|fail)<;>conv=>whnf)
    all_goals exact⟨[⟨s.id,1,y⟩,⟨s.id,0,x⟩],⟨by simp,λm hm=>by simp at hm;rcases hm with rfl|rfl;exact Nat.le_trans hy ah;exact Nat.le_trans hx ah⟩,rfl⟩
  · exact⟨[⟨s.id,1,y⟩],.one (Nat.le_trans hy ah),rfl⟩
theorem GM(s:DSched)(a:DAck)(f:DE s):bq av 285 [.agg s.ds,.agg a.ds] (La s) (λy=> .val (.agg y.ds)):=by
  have c0:=iM s;rw[f.ok]at c0;have h8:=(gQ f.jobs).1;have c1:=Bo s ac;have c2:=lZ a;have hq:=f.seq;cases ho:q6 a with
  |false=>
    rw[ho]at c2;refine aO aL func285 rfl call285 ntmps285 (WA results285) λS=>?_;conv=>whnf
    repeat'((first|refine awz ?_|refine cP (c0) ?_|refine cP (c1) ?_|refine cP (c2) ?_|fail)<;>conv=>whnf)
    all_goals exact⟨s,⟨f,rfl⟩,rfl⟩
  |true=>
    rw[ho]at c2;have hr:(a.last<=2000/\1<=a.last)/\0<=a.index/\a.index<=2000:=by
      simp only[q6,Bool.and_eq_true,aI,decide_eq_true_eq]at ho;have h:=ho.2;split at h
      · simp only[beq_iff_eq]at h;omega
      · simp only[Bool.and_eq_true,decide_eq_true_eq]at h;omega
    have o1:La s {s with index:=a.index,busy:=false,op:=op0}:=⟨⟨f.id,f.seq,f.jobs,hr.2,λ_=>rfl,λh=>by cases h⟩,rfl⟩;have o2:La s {s with seq:=a.last,busy:=false,op:=op0}:=⟨⟨f.id,by show 0<=a.last/\a.last<=2000;omega,f.jobs,f.index,λ_=>rfl,λh=>by cases h⟩,rfl⟩;refine aO aL func285 rfl call285 ntmps285 (WA results285) λS=>?_;conv=>whnf
    repeat'((first|refine awz ?_|refine cP (c0) ?_|refine cP (c1) ?_|refine cP (c2) ?_|refine tW ?_ ?_|intro h)<;>conv=>whnf)
    all_goals first
      |exact⟨s,⟨f,rfl⟩,rfl⟩
      |exact⟨_,o1,rfl⟩
      |exact⟨_,o2,rfl⟩
def qe:List (List Nat):=a8 [0,1,0,3,0,5,0,7,33156,9,528514,0xb2892071851030812ca]
def qf:List (List Nat):=a8 [0,1,0,3,0,5,0,7,0,9,2654596,11,528514,0xd30b28920718510308134c]
def Pz(y:DLogNode×List DAck):Prop:=kx y.1/\y.2.length<=1
def Qw(y:DLogNode×List DAck):AP:= .tup [.agg y.1.ds,.one (.sl (y.2.map DAck.ds))]
theorem I3(n:DLogNode)(a:yU)(now:Int)(f:kx n)(hn:0<=now/\now<=1000000):bq av 216 [.agg n.ds,.agg a.ds,pI now] Pz Qw:=by
 have hsh:=f.short;have c1:=l4 n (by have:=hsh.h1;omega) (by have:=hsh.ow;omega) (by have:=hsh.sn;omega) (by have:=hsh.h2;omega);rw[f.ok]at c1;have c2:=uZ n hsh;have c3:=wd a;have c4:=bP now;rw[show aI now 0 1000000=true from kW hn]at c4;have c5:=ia n.seen a.client f.seenOk;cases ha:xG a with
 |false=>
  rw[ha]at c3;refine aO aL func216 rfl call216 ntmps216 (WA results216) λS=>?_;conv=>whnf
  repeat'((first|refine awz ?_|refine cP (c1) ?_|refine cP (c2) ?_|refine cP (c3) ?_|fail)<;>conv=>whnf)
  all_goals exact⟨(n,[]),⟨f,by simp⟩,rfl⟩
 |true=>
  rw[ha]at c3;by_cases hf:(bx n.seen a.client).seq<a.seq
  ·have q:decide (a.seq>(bx n.seen a.client).seq)=true:=by simpa using hf
   have c6:=Ho n a now f ha hn hf;refine aO aL func216 rfl call216 ntmps216 (WA results216) λS=>?_;conv=>whnf
   repeat'((first|refine awz ?_|refine cP (c1) ?_|refine cP (c3) ?_|refine cP (c4) ?_|refine cP (c5) ?_|refine aG.q c6 rfl λy hy=>?_|fail)<;>conv=>whnf)
   all_goals exact⟨(_,[]),⟨hy,by simp⟩,rfl⟩
  ·have q:decide (a.seq>(bx n.seen a.client).seq)=false:=by simpa using hf
   refine aO aL func216 rfl call216 ntmps216 (WA results216) λS=>?_;conv=>whnf
   repeat'(first|refine awz ?_|((first|refine cP (c1) ?_|refine cP (c2) ?_|refine cP (c3) ?_|refine cP (c4) ?_|refine cP (c5) ?_|fail)<;>conv=>whnf)|(refine TD aL 10 (tkc [0,2,3,4,5,6,7] (.two 1 (.two 8 (.two 9 (.one 10 (.take 11 .done)) 10 (.one 9 (.take 11 .done))) 10 (.one 8 (.one 9 (.take 11 .done)))) 8 (.two 1 (.two 9 (.one 10 (.take 11 .done)) 10 (.one 9 (.take 11 .done))) 9 (.one 1 (.one 10 (.take 11 .done)))))) [(3,9980),(4,9981),(9,9982)] qe ae ae ae ae (λRz=>?_);(conv=>whnf);intro bp0 up0;(conv=>whnf);intro bp1 up1;(conv=>whnf);intro bp2 up2;(conv=>whnf))|(refine TD aL 13 (tkc [0,2,3,4,5,6,7,8,9] (.two 1 (.two 10 (.two 11 (.one 12 (.take 13 .done)) 12 (.one 11 (.take 13 .done))) 12 (.one 10 (.one 11 (.take 13 .done)))) 10 (.two 1 (.two 11 (.one 12 (.take 13 .done)) 12 (.one 11 (.take 13 .done))) 11 (.one 1 (.one 12 (.take 13 .done)))))) [(3,9980),(4,9981),(9,9982)] qf ae ae ae ae (λRz=>?_);(conv=>whnf);intro bp0 up0;(conv=>whnf);intro bp1 up1;(conv=>whnf);intro bp2 up2;(conv=>whnf))|refine tW ?_ ?_|(intro h;conv=>whnf))
   all_goals first
    |exact⟨(n,[]),⟨f,by simp⟩,rfl⟩
    |exact⟨(n,[⟨_,_,_,_⟩]),⟨f,by simp⟩,rfl⟩
def qg:List (List Nat):=a8 [0,0,2,3,0,5,1597697,7,7,0x92071851030811c8,0x289207185103081289]
theorem Jl(h:DHead)(ho:cT h=true):aM av 97 [.agg h.ds] (.val (.one (.sl ((eD h).map eI)))):=by
 have hs:=(bD ho).2.2.2.2.1;have hl:=d9 hs;have hok:=fF h ac;rw[ho]at hok;have e:eD h=[h.num,h.base,h.time,(bx h.seen 2).seq,(bx h.seen 2).index,(bx h.seen 3).seq,(bx h.seen 3).index,(bx h.seen 4).seq,(bx h.seen 4).index,(bx h.seen 5).seq,(bx h.seen 5).index,h.num,h.num]:=by simp[eD,ho]
 rw[e];refine pO func97 call97 ntmps97 results97 λS=>?_;conv=>whnf
 repeat'(first|refine awz ?_|(refine cP (hok) ?_;conv=>whnf)|fail)
 refine Ub 5 ?_;conv=>whnf
 repeat'((first|refine awz ?_|refine cP (ia h.seen _ hs) ?_|refine Tz ah ah ?_|refine aQ ak ?_|exact rZ|fail)<;>conv=>whnf)
theorem G5(t:DTwo)(h:DHead)(ht:dw t=true)(hh:cT h=true):aM av 276 [.agg t.ds,.agg h.ds] (vY (ne t (h.num % 2) (eD h))):=by
 have hf:=bD hh;have c1:=gi t;rw[ht]at c1;have c2:=fF h (by have:=d9 hf.2.2.2.2.1;omega);rw[hh]at c2;have hr:=mZ h;have hn:=hf.1;have c4:=Jl h hh;have c5:=we t (h.num % 2) (eD h) ht ac hr.1 hr.2;have em:Int.tmod h.num 2=h.num % 2:=by rw[Int.tmod_eq_emod_of_nonneg ac]
 rw[<-em]at c5⊢;unfold vY at c5⊢;generalize ne t (Int.tmod h.num 2) (eD h)=q at c5⊢;obtain⟨q1,q2⟩:=q;simp only at c5⊢;refine pO func276 call276 ntmps276 results276 λS=>?_;conv=>whnf
 repeat'((first|refine awz ?_|refine cP (c1) ?_|refine cP (c2) ?_|fail)<;>conv=>whnf)
 (refine TD aL 5 (tkc [0,1,2,4] (.two 3 (.one 5 (.one 6 (.take 7 (.take 8 (.one 9 (.take 10 .done)))))) 5 (.one 3 (.one 6 (.take 7 (.take 8 (.one 9 (.take 10 .done)))))))) [(2,9980),(3,9981)] qg ae ae ae ae (λRz=>?_);(conv=>whnf);intro bp0 up0;(conv=>whnf);intro bp1 up1;(conv=>whnf))
 repeat'((first|refine awz ?_|refine cP (c4) ?_|refine cP (c5) ?_|refine And.intro ac ?_|exact rZ|refine tW ?_ ?_|fail)<;>conv=>whnf)
theorem LT{n:DLogNode}(f:kx n){i:Int}(h1:n.head.base+1<=i)(h2:i<=aY n.book):cT (iJ n i)=true:=by
 have hb:=(bh f.book).2.2.2.1;have hso:=ja (bD f.head).2.2.2.2.1 ac f.fold;have:=xT (n:={n with nxt:=⟨0,i,0,[]⟩}) f.book f.head f.base (by rw[hso]) h1 h2;rw[sq f.book];simpa only[eX]using this
theorem EV(n:DLogNode)(i:Int)(f:kx n):bq av 221 [.agg n.ds,pI i] Qj (λy=> .val (.agg y.ds)):=by
 have hsh:=f.short;have c1:=l4 n (by have:=hsh.h1;omega) (by have:=hsh.ow;omega) (by have:=hsh.sn;omega) (by have:=hsh.h2;omega);rw[f.ok]at c1;have c2:=uZ n hsh;have hh:=bD f.head;have hbs:=f.base;have hd:=f.dhi;have hl:=yJ f.book;have c3:=aN i (n.head.base+1) n.durable;cases hm:n.more with
 |true=>
  refine aO aL func221 rfl call221 ntmps221 (WA results221) λS=>?_;conv=>whnf
  repeat'((first|refine awz ?_|refine cP (c1) ?_|refine cP (c2) ?_|fail)<;>conv=>whnf)
  all_goals exact⟨n,f,rfl⟩
 |false=>
  cases hi:aI i (n.head.base+1) n.durable with
  |false=>
   rw[hi]at c3;refine aO aL func221 rfl call221 ntmps221 (WA results221) λS=>?_;conv=>whnf
   repeat'((first|refine awz ?_|refine cP (c1) ?_|refine cP (c2) ?_|refine cP (c3) ?_|refine Tz ac ac ?_|fail)<;>conv=>whnf)
   all_goals exact⟨n,f,rfl⟩
  |true=>
   rw[hi]at c3;have hr:n.head.base+1<=i/\i<=n.durable:=by simpa[aI]using hi
   have c4:=u6 n i f.book ac ac ac;have ho:=LT f (i:=i) hr.1 ac;have c5:=G5 n.two (iJ n i) f.two ho;by_cases hw:n.two.a.wait.length<60/\n.two.b.wait.length<60
   ·have hok:=J2 f hr hw.1 hw.2;rw[ne,if_pos hw]at c5;unfold vY at c5;simp only at c5;refine aO aL func221 rfl call221 ntmps221 (WA results221) λS=>?_;conv=>whnf
    repeat'((first|refine awz ?_|refine cP (c1) ?_|refine cP (c2) ?_|refine cP (c3) ?_|refine cP (c4) ?_|refine cP (c5) ?_|refine Tz ac ac ?_|fail)<;>conv=>whnf)
    all_goals exact⟨pP n i,hok,rfl⟩
   ·rw[ne,if_neg hw]at c5;unfold vY at c5;simp only at c5;refine aO aL func221 rfl call221 ntmps221 (WA results221) λS=>?_;conv=>whnf
    repeat'((first|refine awz ?_|refine cP (c1) ?_|refine cP (c2) ?_|refine cP (c3) ?_|refine cP (c4) ?_|refine cP (c5) ?_|refine Tz ac ac ?_|fail)<;>conv=>whnf)
    all_goals exact⟨n,f,rfl⟩
section
variable {α β:Type}
structure SmR {α:Type} (R:Rep α) (p:α->Prop):Prop where
 h:∀{w cs a F},R.rd w cs a F->p a
theorem SmR.any{R:Rep α}:SmR R λ_=>True:=⟨λ_=>trivial⟩
theorem Wt{R:Rep α}{S:Rep β}{p:α->Prop}{q:β->Prop}(h1:SmR R p)(h2:SmR S q):SmR (TH R S) λx=>p x.1/\q x.2:=by
 refine⟨?_⟩;rintro w cs a F ⟨c1,c2,F1,F2,_,_,g1,g2⟩;exact⟨h1.h g1,h2.h g2⟩
theorem Wg{R:Rep α}{f:β->α}{p:α->Prop}(h:SmR R p):SmR (TP f R) λx=>p (f x):=⟨λhr=>h.h hr⟩
theorem SmR.all{R:Rep α}{p:α->Prop}(h:SmR R p){w:World}:∀{l:List α} {xs:List Value} {F:List Nat},R.all w xs l F->∀y∈l,p y
 |[],_,_,_,y,hy=>by cases hy
 |a::l,_,_,⟨c1,c2,F1,F2,_,_,h1,h2⟩,y,hy=>by
  rcases List.mem_cons.1 hy with rfl|hy
  ·exact h.h h1
  ·exact SmR.all h h2 y hy
theorem SmR.sl{R:Rep α}{p:α->Prop}(h:SmR R p):SmR (Rep.sl R) λl=>l.length<=9223372036854775807/\∀y∈l,p y:=by
 refine⟨?_⟩;rintro w cs l F ⟨A,cap,xs,F1,_,hc,hm,_,hall,_⟩;have:maxLen<=9223372036854775807:=ah;exact⟨ac,SmR.all h hall⟩
theorem SmR.mono{R:Rep α}{p q:α->Prop}(h:SmR R p)(hq:∀a,p a->q a):SmR R q:=⟨λhr=>hq _ (h.h hr)⟩
theorem Wz{R:Rep β}{S:Rep α}{f:β->α}{p:α->Prop}{q:β->Prop}(h:SmR S p)(e:R=TP f S)(hq:∀a,p (f a)->q a):SmR R q:=by subst e;exact(Wg h).mono hq
end
end Go.Proofs.YtlmoekpinpafeaaGreat
