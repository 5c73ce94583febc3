/- IW3 -/
import Derived.Test.YtknefkdcokgpbaaGreatIW2
import Derived.Test.YtknefkdcokgpbaaGreatWG
import Derived.Test.YtknefkdcokgpbaaGreatAvPL
import Derived.Test.YtknefkdcokgpbaaGreatIW5
import Derived.Test.YtknefkdcokgpbaaGreatAvNS
import Derived.Test.YtknefkdcokgpbaaGreatRB6
import Derived.Test.YtknefkdcokgpbaaGreatHe
import Derived.Test.YtknefkdcokgpbaaGreatWCp
import Derived.Test.YtknefkdcokgpbaaGreatRA3
import Derived.Test.YtknefkdcokgpbaaGreatMkA
import Derived.Test.YtknefkdcokgpbaaGreatWC2
import Derived.Test.YtknefkdcokgpbaaGreatTC2
import Derived.Test.YtknefkdcokgpbaaGreatAvVC
import Derived.Test.YtknefkdcokgpbaaGreatAvFX
set_option maxHeartbeats 8000000
set_option linter.unusedVariables false
set_option linter.unusedSimpArgs false
set_option maxRecDepth 100000
namespace Go.Proofs.YtknefkdcokgpbaaGreat
open Go.Proofs.Tryz
open Go.ChangeShapes Go.WideShapes Go.RowKit
theorem Fl(w:World)(xs:Array Value)(k:Nat):(part 69 xs k).run Tryz.prog w= .ok (.agg (xs.extract k (k+2))) w:=by
 simp[part,isAgg69,sizeOf69]
theorem YX{S:bV}{st:ASt}{o:Oper}{x i:Operand}{K:ASt->Prop}{a b c d:AC}(ho:o.op= .index 435 x i)(hx:aEv st x λy=>y= .agg [a,b,c,d])(k:Nat)(hk2:k<2)(hi:aEv st i λy=>y=vI .i64 (k:Int))(hk:dR st o.dst (.agg (match k with|0=>[a,b]|_=>[c,d])) K):AOp av S o st K:=by
 refine .reads λZ ρ act w hs=>?_;obtain⟨u,hu,rfl⟩:=bn hs hx;obtain⟨z,hz,rfl⟩:=bn hs hi;have e2:=cy hz;generalize he:act.eval x=ux at hu;cases hu with
 |agg _ us hl hr=>
  match us,hl with
  |[u0,u1,u2,u3],_=>
   have h0:=hr 0 a u0 rfl rfl;have h1:=hr 1 b u1 rfl rfl;have h2:=hr 2 c u2 rfl rfl;have h3:=hr 3 d u3 rfl rfl;have pair:∀{p q:AC} {y z:Value},dW Z w ρ p y->dW Z w ρ q z->bX Z w ρ (.agg [p,q]) (.agg [y,z].toArray):=fun{p q y z} hy hz=> .agg _ [y,z] rfl λi e v h1 h2=>by
    match i,h1,h2 with
    |0,h1,h2=>injection h1 with h1;injection h2 with h2;subst h1 h2;exact hy
    |1,h1,h2=>injection h1 with h1;injection h2 with h2;subst h1 h2;exact hz
    |i+2,h1,_=>simp at h1
   match k,hk2 with
   |0,_=>
    refine⟨.agg [a,b],.agg [u0,u1].toArray,pair h0 h1,?_,hk⟩;have hp:=Fl w #[u0,u1,u2,u3] 0;simp[execOp,ho,he,e2,Instr.index,asIntOf,av,run_underlying underlying435,sizeOf69,hp]
   |1,_=>
    refine⟨.agg [c,d],.agg [u2,u3].toArray,pair h2 h3,?_,hk⟩;have hp:=Fl w #[u0,u1,u2,u3] 2;simp[execOp,ho,he,e2,Instr.index,asIntOf,av,run_underlying underlying435,sizeOf69,hp]
theorem I1(t:DTwo):aM av 442 [.agg t.ds] (.val (.agg t.ds)):=by
 refine pO func442 call442 ntmps442 results442 λS=>?_;conv=>whnf
 repeat'(first|refine awz ?_|exact rZ|fail)
theorem Jc(a b c d:AD):aM av 443 [.agg [a,b,c,d]] (.val (.agg [a,b,c,d])):=by
 refine pO func443 call443 ntmps443 results443 λS=>?_;conv=>whnf
 repeat'((first|refine awz ?_|refine uE.at 0 rfl ah ?_|refine uE.at 1 rfl ah ?_|exact rZ|fail)<;>conv=>whnf)
theorem DC(t:DTwo)(h:j4 t=true):ce av 378 [.agg t.ds] (.agg (yG t).ds):=by
 obtain⟨f1,f2,f3⟩:=hE h;have tk:=sU t;rw[h]at tk;refine mz aN func378 rfl call378 ntmps378 (aaK results378) λS=>?_;conv=>whnf
 repeat'((first|refine awz ?_|refine cP (tk) ?_|refine cP (I1 t) ?_|fail)<;>conv=>whnf)
 refine YP 3 ?_;conv=>whnf
 repeat'((first|refine awz ?_|refine YX rfl rfl 0 ah rfl ?_|refine YX rfl rfl 1 ah rfl ?_|refine uE.at 0 rfl ah ?_|refine Yh (yb t.a f1) rfl rfl λR1 l1 e1 a1 b1 F1=>?_|refine X3 ah ah ?_|fail)<;>conv=>whnf)
 repeat'((first|refine awz ?_|refine uE.at 1 rfl ah ?_|refine Yh (yb t.b f2) rfl rfl λR2 l2 e2 a2 b2 F2=>?_|refine cP (Jc _ _ _ _) ?_|refine X3 ah ah ?_|fail)<;>conv=>whnf)
 exact⟨l1,e2,a1,(F1.app F2 (.inl a2) ⟨Nat.le_refl _,ac⟩ ⟨ac,Nat.le_refl _⟩).fam⟩
def sC:List (List Nat):=bZ [0,1,0,3,0,5,0,7,519,567626201076168,0x2881c91460c4042]
def sL:List (List Nat):=fB 9 [19674,19675,19610,19619,19034,19115,728,1457,3644]
def sa:List (List Nat):=bZ [0,1,2,0,4,197,0,7,392,0,10,0,12,589,0,15,912,0,18,0,20,1109,98081184715139,0x1759551349140f38d30b289207185103081597]
theorem FH(t:DTwo)(hs:YA 1048576 t):aM av 328 [.agg t.ds] (.val (.agg t.ds)):=(FG t hs).pcall
theorem FK(b:DBook)(hl:b.entries.length<=1048576):aM av 331 [.agg b.ds] (.val (.agg b.ds)):=d5.data (OJ b hl) rfl rfl
theorem nB(h:DHead)(hs:h.seen.length<=4):aM av 245 [.agg h.ds] (.val (.agg h.ds)):=by
 refine pO func245 call245 ntmps245 results245 λS=>?_;conv=>whnf
 repeat'((first|refine awz ?_|refine X9 aN 1 9 sC sL ae ae ae rfl ?_|refine cP (fU h.seen ac) ?_|exact rZ|fail)<;>conv=>whnf)
theorem C6(l:List DAck)(hl:l.length<=1048576):d5 av 247 [.one (.d (.sl (l.map DAck.ds)))] [] [(3,.row 240 4 (l.map DAck.ds))] [] (.val (.one (.own 3))):=by
 refine cR aN func247 rfl call247 ntmps247 (aaK results247) rfl λS pv=>?_;conv=>whnf
 repeat'((first|refine awz ?_|refine aI (by first|(intro y hy;obtain⟨a,_,rfl⟩:=List.mem_map.1 hy;rfl)|(simp;done)) ?_|refine aJ ao ?_|exact rZ|fail)<;>conv=>whnf)
structure TU (n:DLogNode):Prop where
 two:YA 1048576 n.two
 h1:n.head.seen.length<=4
 h2:n.nxt.seen.length<=4
 bk:n.book.entries.length<=1048576
 sn:n.seen.length<=4
 ow:n.owe.length<=1048576
theorem xE.short{n:DLogNode}(f:xE n):TU n:=by
 have hh:=(i9 f.head).2.2.2.2.1;have h3:=(dC f.book).2.2.2.1;have h4:n.owe.length<=n.book.entries.length:=by rw[f.owe,List.length_map];exact List.length_filter_le _ _
 have h5:n.nxt.seen.length<=4:=by
  have hn:=f.nxt;unfold gp at hn;split at hn
  ·simp only[Bool.and_eq_true,beq_iff_eq]at hn;rw[hn.2];exact qu hh
  ·rw[beq_iff_eq]at hn;rw[hn];simp[kS]
 exact⟨tJ (ja f.two).1,fq hh,h5,ac,fq f.seenOk,ac⟩
theorem Ml(n:DLogNode)(hs:TU n):d5 av 243 [.agg (n.ds.map .d)] [] [(47,.row 240 4 (n.owe.map DAck.ds))] [] (.val (.agg ((n.ds.take 18).map .d++[.own 47]))):=by
 refine cR aN func243 rfl call243 ntmps243 (aaK results243) rfl λS pv=>?_;conv=>whnf
 repeat'(first|refine awz ?_|fail)
 (refine X7 aN 1 (tkc [0,1,3,4,6,7,9,10,11,12,14,15,17,18,19,20] (onc [2,5,8,13,16,21,22,23] .done)) [(1,9980)] sa ae ae ae ae (λRz=>?_);(conv=>whnf);intro bp0 up0;(conv=>whnf))
 repeat'((first|refine awz ?_|refine cP (FH n.two hs.two) ?_|refine cP (nB n.head hs.h1) ?_|refine cP (nB n.nxt hs.h2) ?_|refine cP (FK n.book hs.bk) ?_|refine cP (fU n.seen (by have:=hs.sn;omega)) ?_|refine Yb (C6 n.owe hs.ow) [(3,47)] rfl rfl ?_|exact rZ|fail)<;>conv=>whnf)
theorem Mm(n:DLogNode)(hs:TU n):aM av 243 [.agg n.ds] (.val (.agg n.ds)):=d5.data (Ml n hs) rfl rfl
theorem MY{b:DBook}(h:cp b=true):ca b<=2000:=by
 obtain⟨f1,f2,f3,f4,f5,f6⟩:=dC h;cases he:b.entries.getLast? with
 |none=>
  rw[List.getLast?_eq_none_iff]at he;simp[ca,he];omega
 |some e=>
  obtain⟨e1,e2,e3⟩:=jx f5;have:=(yE (e2 _ (List.mem_of_getLast? he))).1;have:=Bq h he;omega
def kg:List (List Nat):=bZ [0,0,2,0,4,17572164,6510878913]
def kn:List (List Nat):=fB 5 [240,218,221,26,53]
def pL:List (List Nat):=bZ [0,0,0,194,0,5,0,0,8,583,646,267,49409,0xd30b28920718510308130d,0xe34c2ca2481c61440c204e]
def jO:List (List Nat):=bZ [0,0,2,3,4353,347943211332]
def Gh(b:DBook)(i:Int):DBook:=⟨i,jl b i,b.entries.drop (i-b.base).toNat⟩
theorem HN(b:DBook)(i:Int)(h:cp b=true)(h1:b.base+1<=i)(h2:i<=ca b):aM av 246 [.agg b.ds,pI i] (.tup [.agg (Gh b i).ds,.one (dB true)]):=by
 have hb:=dC h;have hl:=MY h;have c1:=yl b;rw[h]at c1;have c2:=uB b h;have c3:=bg i b.base (ca b);rw[show aK i b.base (ca b)=true from xT ac]at c3;have c4:=tE b i h h1 h2;have c5:aM av 332 [.one (.sl (((b.entries.map DEntry.ds).take b.entries.length).drop (i-b.base).toNat))] (.val (.one (.sl ((b.entries.drop (i-b.base).toNat).map DEntry.ds)))):=by
  rw[show(b.entries.map DEntry.ds).take b.entries.length=b.entries.map DEntry.ds from List.take_of_length_le aj,<-List.map_drop];exact d5.data (xy _ (by rw[List.length_drop];omega)) rfl rfl
 unfold Gh;generalize jl b i=t at c4⊢;have hk:i-b.base=((i-b.base).toNat:Int):=ac;have hkl:(i-b.base).toNat<=b.entries.length:=by unfold ca at h2;omega
 refine pO func246 call246 ntmps246 results246 λS=>?_;conv=>whnf
 repeat'(first|refine awz ?_|(refine cP (c1) ?_;conv=>whnf)|fail)
 (refine X9 aN 3 5 kg kn ae ae ae rfl ?_;conv=>whnf)
 repeat'((first|refine awz ?_|refine cP (c2) ?_|refine cP (c3) ?_|fail)<;>conv=>whnf)
 (refine X7 aN 5 (tkc [0,1,2,4,5,6,7,8] (.two 3 (onc [9,10,11,12,13] (.take 14 .done)) 9 (.two 3 (onc [10,11,12,13] (.take 14 .done)) 10 (onc [3,11,12,13] (.take 14 .done))))) [(2,9980)] pL ae ae ae ae (λRz=>?_);(conv=>whnf);intro bp0 up0;(conv=>whnf))
 repeat'((first|refine awz ?_|refine cP (c4) ?_|refine cP (c5) ?_|refine X3 ac ac ?_|refine⟨(i-b.base).toNat,b.entries.length,hk,by simp[IO],hkl,by simp,?_⟩|refine And.intro (λx hx=>by obtain⟨a,_,rfl⟩:=List.mem_map.1 hx;rfl) ?_|exact rZ|refine tW ?_ ?_|fail)<;>conv=>whnf)
theorem Mk(l:List DAck)(hl:l.length<=1048576):aM av 247 [.one (.sl (l.map DAck.ds))] (.val (.one (.sl (l.map DAck.ds)))):=d5.data (C6 l hl) rfl rfl
def QH(n m:DLogNode):AP:= .tup [.agg m.ds,.one (.sl (n.owe.map DAck.ds))]
theorem HH(n:DLogNode)(f:xE n):aM av 145 [.agg n.ds] (QH n (kH n)):=by
 have hsh:=f.short;have c1:=CV n (by have:=hsh.h1;omega) (by have:=hsh.ow;omega) (by have:=hsh.sn;omega) (by have:=hsh.h2;omega);rw[f.ok]at c1;have c2:=Mm n hsh;have c3:=DT n.two (ja f.two).1;have c4:=uB n.book f.book;have c5:=nB n.nxt hsh.h2;have c7:=Mk n.owe hsh.ow;unfold QH kH;cases hm:n.more with
 |true=>
  have hn:=f.nxt;unfold gp at hn;rw[if_pos hm]at hn;simp only[Bool.and_eq_true,aK,decide_eq_true_eq]at hn;have hr:=hn.1;have hbs:=f.base;have hd:=f.dhi;have c6:=HN n.book n.nxt.base f.book ac ac;unfold Gh at c6;generalize hq:jl n.book n.nxt.base=q at c6⊢;rw[if_pos rfl];have qm:n.more=true:=hm;refine pO func145 call145 ntmps145 results145 λS=>?_;conv=>whnf
  repeat'((first|refine awz ?_|refine cP (c1) ?_|refine cP (c2) ?_|refine cP (c3) ?_|refine cP (c4) ?_|refine cP (c5) ?_|refine cP (c6) ?_|fail)<;>conv=>whnf)
  all_goals(refine X7 aN 12 (tkc [0,1,2] (.one 3 (.one 4 (.take 5 .done)))) [(1,9980),(4,9981)] jO ae ae ae ae (λRz=>?_);(conv=>whnf);intro bp0 up0;(conv=>whnf);intro bp1 up1;(conv=>whnf))
  repeat'(first|refine awz ?_|(refine cP (c7) ?_;conv=>whnf)|exact rZ|fail)
 |false=>
  rw[if_neg aj];have qm:n.more=false:=hm;refine pO func145 call145 ntmps145 results145 λS=>?_;conv=>whnf
  repeat'((first|refine awz ?_|refine cP (c1) ?_|refine cP (c2) ?_|refine cP (c3) ?_|refine cP (c4) ?_|fail)<;>conv=>whnf)
  all_goals(refine X7 aN 12 (tkc [0,1,2] (.one 3 (.one 4 (.take 5 .done)))) [(1,9980),(4,9981)] jO ae ae ae ae (λRz=>?_);(conv=>whnf);intro bp0 up0;(conv=>whnf);intro bp1 up1;(conv=>whnf))
  repeat'(first|refine awz ?_|(refine cP (c7) ?_;conv=>whnf)|fail)
  all_goals(rw[hm];rfl)
section
section
variable (v:DView) (now:Int) (h:eE v.jobs=true) (ht:tOk now=true)
include h ht
theorem vQ:aM av 480 [.agg v.ds,pI now] (.val (pI (mxI v.jobs.time now))):=by
 have c1:=ub v;rw[h]at c1;have c2:=da now;rw[show aK now 0 1000000=true from ht]at c2;unfold mxI;refine pO func480 call480 ntmps480 results480 λS=>?_;conv=>whnf
 repeat'(first|refine awz ?_|(refine XZ ai rfl ?_;conv=>whnf)|exact rZ|fail)
theorem LC(who:Int)(hwho:d8 who=true):aM av 454 [.agg v.ds,pI who,pI now] (rB (v.jobs.holder==who&&decide (mxI v.jobs.time now<v.jobs.til))):=by
 have c1:=vQ v now h ht;have c2:=gx who;rw[hwho]at c2;have q:=o9 v now h;cases h1:(v.jobs.holder==who)<;>(refine pO func454 call454 ntmps454 results454 λS=>?_;conv=>whnf)<;>repeat'(first|refine awz ?_|(refine XZ ai rfl ?_;conv=>whnf)|exact rZ|fail)
theorem Od:aM av 456 [.agg v.ds,pI now] (rB (v.jobs.holder==0||decide (v.jobs.til<=mxI v.jobs.time now))):=by
 have c1:=vQ v now h ht;have q:=o9 v now h;cases h1:(v.jobs.holder==0)<;>(refine pO func456 call456 ntmps456 results456 λS=>?_;conv=>whnf)<;>repeat'(first|refine awz ?_|(refine XZ ai rfl ?_;conv=>whnf)|exact rZ|fail)
theorem IS:aM av 455 [.agg v.ds,pI now] (pOI (uK v.jobs (mxI v.jobs.time now))):=by
 obtain⟨h8,hid,_⟩:=nT h;have c1:=vQ v now h ht;have q:=o9 v now h;generalize mxI v.jobs.time now=gs at c1 q;have q0:decide (gs<0)=false:=by simpa using q
 refine Ai.pcall (Q:=λy:Option Int=>y=uK v.jobs gs) (r:=pOI) ?_ λy hy=>by rw[hy]
 refine lP aN func455 rfl call455 ntmps455 (aaK results455) λS=>?_;conv=>whnf
 repeat'((first|refine AWP.scope ?_|refine AWP.label ?_|refine awz ?_|refine XZ ai rfl ?_|fail)<;>conv=>whnf)
 refine X5 (λk:Nat=>k<=v.jobs.opens.length/\∀d∈v.jobs.opens.take k,decide (d.due<=gs)=false) (7::8::10::rg 18 15) (λk=>[(6,vI .i64 gs),(7,vI .i64 0),(8,vB false),(16,.one (.d (.sl (v.jobs.opens.map DDue.ds)))),(17,vI .i64 (v.jobs.opens.length:Int)),(18,vI .i64 (k:Int))]) (λk=>[]) (λk=>v.jobs.opens.length-k) 0 ⟨Nat.zero_le _,by simp⟩ ?_ X4 (λk hg=>?_)<;>(conv=>whnf)
 ·rw[List.length_map];exact whd
 ·obtain⟨hk,hno⟩:=hg;by_cases hlt:k<v.jobs.opens.length
  ·have hc:decide ((k:Int)<(v.jobs.opens.length:Int))=true:=al;cases hd:decide (v.jobs.opens[k].due<=gs)with
   |true=>
    have e:uK v.jobs gs=some v.jobs.opens[k].id:=by
     have hsp:v.jobs.opens.take k++v.jobs.opens[k]::v.jobs.opens.drop (k+1)=v.jobs.opens:=by rw[<-List.drop_eq_getElem_cons hlt,List.take_append_drop]
     unfold uK;generalize v.jobs.opens[k]=x at hsp hd;rw[<-hsp,List.find?_append,List.find?_eq_none.2 (λd hd=>by rw[hno d hd];simp)];simp[List.find?,hd]
    repeat'(first|(refine Yg hlt ?_;conv=>whnf)|refine awz ?_|fail)
    all_goals exact⟨_,e.symm,rfl⟩
   |false=>
    repeat'(first|(refine Yg hlt ?_;conv=>whnf)|refine awz ?_|(refine X3 ac ac ?_;conv=>whnf)|fail)
    all_goals
     refine bd.mk ⟨k+1,⟨hlt,λd hdm=>?_⟩,ac,?_,X4⟩
     ·rw[List.take_succ_eq_append_getElem hlt,List.mem_append,List.mem_singleton]at hdm;rcases hdm with hdm|rfl
      ·exact hno d hdm
      ·exact hd
     ·exact hds
  ·have e:k=v.jobs.opens.length:=ac;subst e;have hc:decide ((v.jobs.opens.length:Int)<(v.jobs.opens.length:Int))=false:=aj;have e:uK v.jobs gs=none:=by
    unfold uK;rw[List.take_length]at hno;rw[List.find?_eq_none.2 (λd hd=>by rw[hno d hd];simp)];rfl
   repeat'(first|refine awz ?_|fail)
   all_goals exact⟨none,e.symm,rfl⟩
end
theorem LF(v:DView)(i:Int):aM av 453 [.agg v.ds,pI i] (rB (eE v.jobs&&decide (v.jobs.index<i))):=by
 have c1:=ub v;cases h1:eE v.jobs<;>rw[h1]at c1<;>(refine pO func453 call453 ntmps453 results453 λS=>?_;conv=>whnf)<;>repeat'(first|refine awz ?_|(refine XZ ai rfl ?_;conv=>whnf)|exact rZ|fail)
end
def RN:AD:= .x (IfR 442 (.agg []))
def Uv(i e:Int):AD:= .x (IfR 405 (.agg [dI i,dI e]))
def Uw:AD:= .x (IfR 407 (.agg []))
def NW(s:DSched)(now:Int):AD:=
 if s.busy||decide (2000<=s.seq)||decide (s.view.jobs.index<s.index)then RN else
 if s.view.jobs.holder==s.id&&decide (mxI s.view.jobs.time now<s.view.jobs.til)then
  match uK s.view.jobs (mxI s.view.jobs.time now)with
  |some i=>Uv i s.view.jobs.epoch
  |none=>RN
 else if s.view.jobs.holder==0||decide (s.view.jobs.til<=mxI s.view.jobs.time now)then Uw
 else RN
theorem Og(s:DSched)(now:Int)(f:Ak s)(ht:tOk now=true):aM av 389 [.agg s.ds,pI now] (.val (.one (NW s now))):=by
 have hq:=f.seq;have c2:=da now;rw[show aK now 0 1000000=true from ht]at c2;have hx:d8 s.id=true:=by have:=f.id;simp[d8];omega
 have c3:=LC s.view now f.jobs ht s.id hx;have c4:=Od s.view now f.jobs ht;have c5:=IS s.view now f.jobs ht;have c6:=LF s.view s.index;rw[f.jobs,Bool.true_and]at c6;unfold NW;cases hb:s.busy with
 |true=>(refine pO func389 call389 ntmps389 results389 λS=>?_;conv=>whnf);repeat'(first|(refine YK aN (.agg []) rfl rfl ?_;conv=>whnf)|refine awz ?_|(refine XZ ai rfl ?_;conv=>whnf)|exact rZ|fail)
 |false=>
  cases hm:decide (2000<=s.seq)with
  |true=>
   have q:(s.seq==2000)=true:=by simp at hm⊢;omega
   (refine pO func389 call389 ntmps389 results389 λS=>?_;conv=>whnf);repeat'(first|(refine YK aN (.agg []) rfl rfl ?_;conv=>whnf)|refine awz ?_|(refine XZ ai rfl ?_;conv=>whnf)|exact rZ|fail)
  |false=>
   have q:(s.seq==2000)=false:=by simp at hm⊢;omega
   cases hx:decide (s.view.jobs.index<s.index)with
   |true=>rw[hx]at c6;(refine pO func389 call389 ntmps389 results389 λS=>?_;conv=>whnf);repeat'(first|(refine YK aN (.agg []) rfl rfl ?_;conv=>whnf)|refine awz ?_|(refine XZ ai rfl ?_;conv=>whnf)|exact rZ|fail)
   |false=>
    rw[hx]at c6;rw[if_neg aj];cases h1:(s.view.jobs.holder==s.id&&decide (mxI s.view.jobs.time now<s.view.jobs.til))<;>cases h2:(s.view.jobs.holder==0||decide (s.view.jobs.til<=mxI s.view.jobs.time now))<;>cases h3:uK s.view.jobs (mxI s.view.jobs.time now)<;>rw[h1]at c3<;>rw[h2]at c4<;>rw[h3]at c5<;>unfold pOI at c5
    all_goals((refine pO func389 call389 ntmps389 results389 λS=>?_;conv=>whnf);repeat'((first|refine YK aN (.agg []) rfl rfl ?_|refine YK aN (.agg [dI _,dI s.view.jobs.epoch]) rfl rfl ?_|refine awz ?_|refine XZ ai rfl ?_|exact rZ|fail)<;>conv=>whnf))
theorem Bt(s:DSched)(now:Int):(NW s now=RN/\cX s now=s)\/(∃i,NW s now=Uv i s.view.jobs.epoch/\cX s now={s with seq:=s.seq+1,busy:=true,op:=⟨4,i,s.view.jobs.epoch,0,0⟩}/\s.seq<2000)\/(NW s now=Uw/\cX s now={s with seq:=s.seq+1,busy:=true,op:=⟨5,20,0,0,0⟩}/\s.seq<2000):=by
 unfold NW cX;split
 ·exact .inl ⟨rfl,rfl⟩
 ·rename_i hc;have hs:s.seq<2000:=by simp only[Bool.or_eq_true,decide_eq_true_eq,not_or,Int.not_le]at hc;exact hc.1.2
  split
  ·cases hd:uK s.view.jobs (mxI s.view.jobs.time now)with
   |some i=>exact .inr (.inl ⟨i,rfl,rfl,hs⟩)
   |none=>exact .inl ⟨rfl,rfl⟩
  ·split
   ·exact .inr (.inr ⟨rfl,rfl,hs⟩)
   ·exact .inl ⟨rfl,rfl⟩
theorem BR(s:DSched)(now:Int)(f:Ak s)(ht:tOk now=true):ce av 301 [.agg s.ds,pI now] (.agg (cX s now).ds):=by
 have c0:=qb s;rw[f.ok]at c0;have c2:=Og s now f ht;have hq:=f.seq;obtain⟨h8,_⟩:=nT f.jobs;have cf:=qd s (show Yr 1048576 s by show s.view.jobs.opens.length<=_;omega);rcases Bt s now with⟨e1,e2⟩|⟨i,e1,e2,e3⟩|⟨e1,e2,e3⟩<;>rw[e1]at c2<;>rw[e2]<;>(refine mz aN func301 rfl call301 ntmps301 (aaK results301) λS=>?_;conv=>whnf)<;>repeat'((first|refine Y4 aN rfl rfl ?_|refine Yh cf rfl rfl λR lo hi m1 m2 F=>?_|refine awz ?_|refine XZ ai rfl ?_|refine X3 ac ac ?_|fail)<;>conv=>whnf)
 ·exact⟨lo,hi,m1,F.fam⟩
 ·exact⟨lo,hi,m1,(((((((F.set 1 (d:=dI (s.seq+1)) rfl).set 8 (d:=dB true) rfl).set 9 (d:=dI 4) rfl).set 10 (d:=dI i) rfl).set 11 (d:=dI s.view.jobs.epoch) rfl).set 12 (d:=dI 0) rfl).set 13 (d:=dI 0) rfl).fam⟩
 ·exact⟨lo,hi,m1,(((((((F.set 1 (d:=dI (s.seq+1)) rfl).set 8 (d:=dB true) rfl).set 9 (d:=dI 5) rfl).set 10 (d:=dI 20) rfl).set 11 (d:=dI 0) rfl).set 12 (d:=dI 0) rfl).set 13 (d:=dI 0) rfl).fam⟩
def kb:List (List Nat):=bZ [0,1,2,0,4,197,12417,3255066823,136065153,557322867209,0x289207185103081,0xa2481c61440c204a18b]
theorem DG(b:DBook)(i:Int)(h:cp b=true)(h1:b.base+1<=i)(h2:i<=ca b):fC av 379 [.agg b.ds,pI i] [.agg (Gh b i).ds,.one (dB true)]:=by
 have hb:=dC h;have hl:=MY h;have c1:=pb b;rw[h]at c1;have c2:=mE b h;have c3:=be i b.base (ca b);rw[show aK i b.base (ca b)=true from xT ac]at c3;have hk:i-b.base=((i-b.base).toNat:Int):=ac;have hk1:i-b.base-1=((i-b.base-1).toNat:Int):=ac;have hkl:(i-b.base).toNat<=b.entries.length:=by unfold ca at h2;omega
 have hlt:(i-b.base-1).toNat<b.entries.length:=by unfold ca at h2;omega
 have gu:(b.entries.map DEntry.ds)[(i-b.base-1).toNat]? =some (DEntry.ds b.entries[(i-b.base-1).toNat]):=by rw[List.getElem?_map,List.getElem?_eq_getElem hlt];rfl
 have et:jl b i=b.entries[(i-b.base-1).toNat].time:=by rw[jl,List.getD_eq_getElem?_getD,List.getElem?_eq_getElem hlt];rfl
 have q:decide (i>b.base)=true:=al;have ed:((b.entries.map DEntry.ds).take b.entries.length).drop (i-b.base).toNat=(b.entries.drop (i-b.base).toNat).map DEntry.ds:=by rw[List.take_of_length_le aj,List.map_drop]
 unfold Gh;rw[et];generalize b.entries[(i-b.base-1).toNat]=en at gu;have cc:=(yU b (show b.entries.length<=1048576 by omega)).pcall;refine bq aN func379 rfl call379 ntmps379 (aaK results379) rfl λS=>?_;conv=>whnf
 repeat'(first|refine awz ?_|(refine XZ ai rfl ?_;conv=>whnf)|fail)
 (refine X9 aN 4 5 kg kn ae ae ae rfl ?_;conv=>whnf)
 repeat'(first|(refine X8 (i-b.base-1).toNat _ hk1 gu ?_;conv=>whnf)|(refine⟨(i-b.base).toNat,b.entries.length,hk,by simp[IO],hkl,by simp,?_⟩;conv=>whnf;rw[ed])|((first|refine awz ?_|refine XZ ai rfl ?_|refine aH.mk ⟨_,_,by assumption,.inl rfl,?_⟩|refine X3 ac ac ?_|refine aI (by first|(intro y hy;obtain⟨a,_,rfl⟩:=List.mem_map.1 hy;rfl)|(simp;done)) ?_|refine aJ ao ?_|fail)<;>conv=>whnf))
 have hbl:=p7 (xs:=(b.entries.drop (i-b.base).toNat).map DEntry.ds) bls;refine⟨S.w0.heap.size,S.w0.heap.size,Nat.le_refl _,?_⟩;rw[List.nil_append];exact Ya (by simp only[List.all_cons,List.all_append,hbl];rfl)
theorem DF(n:DLogNode)(f:xE n):fC av 292 [.agg n.ds] [.agg (kH n).ds,.one (.sl (n.owe.map DAck.ds))]:=by
 have hsh:=f.short;have hsm:=y3 f.ok;have c1:=BV L0 n (pC hsm);rw[f.ok]at c1;have c4:=mE n.book f.book;have cf:=B4 n hsm;have bs:=DC n.two (ja f.two).1;unfold kH;by_cases hm:n.more=true
 ·rw[if_pos hm];have hn:=f.nxt;unfold gp at hn;rw[if_pos hm]at hn;simp only[Bool.and_eq_true,aK,decide_eq_true_eq]at hn;have hr:=hn.1;have hbs:=f.base;have hd:=f.dhi;have c6:=DG n.book n.nxt.base f.book ac ac;unfold Gh at c6;generalize hq:jl n.book n.nxt.base=q at c6⊢;refine bq aN func292 rfl call292 ntmps292 (aaK results292) rfl λS=>?_;conv=>whnf
  repeat'(first|(refine Yh cf rfl rfl λR lo hi m1 m2 F=>?_;conv=>whnf)|refine awz ?_|(refine XZ ai rfl ?_;conv=>whnf)|fail)
  (refine X7 aN 5 (tkc [0,1,3,4] (.one 2 (.take 6 (.one 5 (.one 7 (.take 8 (.one 9 (.take 10 (.one 11 .done))))))))) [(1,9980)] kb ae ae ae ae (λRz=>?_);(conv=>whnf);intro bp0 up0;(conv=>whnf))
  repeat'(first|(refine Yh bs rfl rfl λR2 lo2 hi2 g1 g2 F2=>?_;conv=>whnf)|refine awz ?_|(refine XZ ai rfl ?_;conv=>whnf)|fail)
  repeat'(first|((refine YD [.agg (n.book.ds.map .d),.one (.d (dI n.nxt.base))] ⟨(F.part 13 3).asV,AsV.refl _,trivial⟩ ?_;refine Yk c6 rfl rfl λR3 lo3 hi3 h1 h2 F3=>?_)<;>conv=>whnf)|refine awz ?_|fail)
  have FN:=(((F.app (L:=lo) (H:=hi2) F2 (.inl g1) ⟨Nat.le_refl _,ac⟩ ⟨ac,Nat.le_refl _⟩).app (L:=lo) (H:=hi3) F3 (.inl h1) ⟨Nat.le_refl _,ac⟩ ⟨ac,Nat.le_refl _⟩).app (L:=lo) (H:=hi3) (Yn (lo:=hi3) (hi:=hi3) (ds:=[dI 0,dI 0,dI 0,dB false,dI (ca n.book)]) rfl) (.inl (Nat.le_refl _)) ⟨Nat.le_refl _,ac⟩ ⟨Nat.le_refl _,Nat.le_refl _⟩).pick [19,20,21,22,8,9,10,11,27,28,29,30,23,24,25,16,31,18] ah (λi hi=>show i<32 by revert i;decide);exact⟨.inl rfl,.inl rfl,lo,hi3,m1,FN.fam⟩
 ·rw[if_neg hm];have hm:n.more=false:=by simpa using hm
  refine bq aN func292 rfl call292 ntmps292 (aaK results292) rfl λS=>?_;conv=>whnf
  repeat'(first|(refine Yh cf rfl rfl λR lo hi m1 m2 F=>?_;conv=>whnf)|refine awz ?_|(refine XZ ai rfl ?_;conv=>whnf)|fail)
  (refine X7 aN 5 (tkc [0,1,3,4] (.one 2 (.take 6 (.one 5 (.one 7 (.take 8 (.one 9 (.take 10 (.one 11 .done))))))))) [(1,9980)] kb ae ae ae ae (λRz=>?_);(conv=>whnf);intro bp0 up0;(conv=>whnf))
  repeat'(first|(refine Yh bs rfl rfl λR2 lo2 hi2 g1 g2 F2=>?_;conv=>whnf)|refine awz ?_|(refine XZ ai rfl ?_;conv=>whnf)|fail)
  skip
  have FN:=((F.app (L:=lo) (H:=hi2) F2 (.inl g1) ⟨Nat.le_refl _,ac⟩ ⟨ac,Nat.le_refl _⟩).app (L:=lo) (H:=hi2) (Yn (lo:=hi2) (hi:=hi2) (ds:=[dI (ca n.book)]) rfl) (.inl (Nat.le_refl _)) ⟨Nat.le_refl _,ac⟩ ⟨Nat.le_refl _,Nat.le_refl _⟩).pick [19,20,21,22,4,5,6,7,8,9,10,11,12,13,14,15,16,23,18] ah (λi hi=>show i<24 by revert i;decide);exact⟨.inl rfl,lo,hi2,m1,FN.fam⟩
theorem Kb(n:DNet)(m:DMsg):((zy n m).2=true/\it n m=(zy n m).1)\/((zy n m).2=false/\it n m=n):=by
 unfold zy;cases hm:fM m with
 |false=>exact .inr ⟨rfl,ny (.inl hm)⟩
 |true=>
  by_cases h:n.flight.length=60
  ·exact .inr ⟨by simp[h],ny (.inr h)⟩
  ·exact .inl ⟨by simp[h],rfl⟩
theorem jE(w:DWorld)(l:List DMsg)(hn:fd w.net=true)(hl:∀m∈l,m.row.length<=1048576)(hl2:l.length<=1000000):kM av 293 w.ds [.one (.sl (l.map DMsg.ds))] (DWorld.ds {w with net:=dA w.net l}):=by
 refine fH aN func293 rfl call293 ntmps293 (aaK results293) λS R lo hlo F=>?_;conv=>whnf
 repeat'(first|refine awz ?_|fail)
 refine X5 (λg:Nat×(Nat->(Nat->Prop)->World->Value->Prop)×Nat=>g.1<=l.length/\S.w0.heap.size<=g.2.2/\cJ lo g.2.2 (bS g.2.1 0 (DWorld.ds {w with net:=dA w.net (l.take g.1)})) (DWorld.ds {w with net:=dA w.net (l.take g.1)})) (6::7::8::rg 11 15) (λg=>[(9,.one (.d (.sl (l.map DMsg.ds)))),(10,vI .i64 (l.length:Int)),(11,vI .i64 (g.1:Int))]) (λg=>[(9997,cH S.w0.heap.size g.2.2),(2,.cells 105 ((bS g.2.1 0 (DWorld.ds {w with net:=dA w.net (l.take g.1)})).map .d)),(4,.cells 105 (tK.ds.map λd=>match d with| .pv v=> .d (.pv v)|_=> .nil))]) (λg=>l.length-g.1) (0,R,S.w0.heap.size) ⟨Nat.zero_le _,Nat.le_refl _,F⟩ ?_ sbW (λg hg=>?_)<;>(conv=>whnf)
 ·rw[List.length_map];exact whd
 ·clear F;obtain⟨k,R,hi⟩:=g;obtain⟨hk,hm,F⟩:=hg;simp only at hk hm F;by_cases hlt:k<l.length
  ·have hc:decide ((k:Int)<(l.length:Int))=true:=al;have hr:=hl _ (List.getElem_mem hlt);have es:=zx (n:=w.net) hlt;have hn:=ln (l:=l.take k) hn;generalize dA w.net (l.take k)=n at es hn F;have cs:=Qd n l[k] hn hr;have hcs:=Kb n l[k];rw[<-es]at hcs;clear es;generalize zy n l[k]=y at cs hcs;obtain⟨y,b⟩:=y;simp only at cs hcs;repeat'((first|refine Yg hlt ?_|(refine YD [.agg (n.ds.map .d),.agg ((DMsg.ds l[k]).map .d)] ⟨(F.part 69 2).asV,AsV.refl _,trivial⟩ ?_;refine Yk cs rfl rfl λR2 lo2 hi2 n1 n2 F2=>?_)|refine awz ?_|refine X3 ac ac ?_|refine tW ?_ ?_|intro h)<;>conv=>whnf)
   ·have hy:dA w.net (l.take (k+1))=y:=by
     rcases hcs with⟨_,e⟩|⟨e,_⟩
     ·exact e
     ·rw[e]at h;cases h
    have n1:hi<=lo2:=n1;refine bd.mk ⟨(k+1,λi=>if i=69 then R2 0 else if i=70 then R2 1 else R i,hi2),⟨hlt,by simp only;omega,?_⟩,by simp only;omega,?_,X0 rfl (X0 (by simp only;rw[hy];rfl) sbW)⟩
    ·simp only;rw[hy];exact F.splice 69 2 F2 n1 (Nat.le_trans hlo hm) n2 (Nat.le_of_ble_eq_true rfl) (Nat.le_of_ble_eq_true rfl)
    ·exact hds
   ·have hy:dA w.net (l.take (k+1))=n:=by
     rcases hcs with⟨e,_⟩|⟨_,e⟩
     ·rw[e]at h;cases h
     ·exact e
    have n1:hi<=lo2:=n1;refine bd.mk ⟨(k+1,R,hi2),⟨hlt,by simp only;omega,?_⟩,by simp only;omega,?_,X0 rfl (X0 (by simp only;rw[hy];rfl) sbW)⟩
    ·simp only;rw[hy];exact F.mono (Nat.le_refl _) ac
    ·exact hds
  ·have e:k=l.length:=ac;subst e;have hc:decide ((l.length:Int)<(l.length:Int))=false:=aj;rw[List.take_length]at F;repeat'(first|refine awz ?_|fail)
   exact⟨lo,hi,Nat.le_refl _,F.fam⟩
end Go.Proofs.YtknefkdcokgpbaaGreat
