/- WB7 -/
import Derived.Test.YtknefkdcokgpbaaGreatAwx
import Derived.Test.YtknefkdcokgpbaaGreatWA4
import Derived.Test.YtknefkdcokgpbaaGreatAvDT
set_option maxHeartbeats 8000000
set_option linter.unusedVariables false
set_option linter.unusedSimpArgs false
set_option maxRecDepth 100000
open Bool (and_eq_true)
namespace Go.Proofs.YtknefkdcokgpbaaGreat
section
open Go.Proofs.Tryz
open Go.ChangeShapes Go.WideShapes Go.RowKit
variable {b:DBook}{p:DEntry->Bool}{P l:List DEntry}{k:Nat}
def rh:List (List Nat):=bZ [0,1,0,8259,1060930,0,0,391,33222,2384328,90639551170638217]
def rA:List (List Nat):=fB 10 [58824,58825,58814,58819,58846,1700,728,1214,3401,9962]
def GQ:DEntry:=⟨0,0,0,0,⟨0,0,0,0,0⟩⟩
theorem eK(h:cp b=true):(0<=b.base/\b.base<=2000)/\tOk b.time=true/\b.entries.length<=20/\dD b.entries=true:=by
  simp only[cp,and_eq_true,aK,decide_eq_true_eq]at h;obtain⟨⟨⟨⟨⟨h1,h2⟩,_⟩,h4⟩,h5⟩,_⟩:=h;exact⟨h1,h2,h4,h5⟩
theorem vK(h:cp b=true)(hk:k<b.entries.length):dd b.entries[k]=true:=by
  have h5:=(eK h).2.2.2;simp only[dD,and_eq_true]at h5;exact tU h5.1.2 hk
theorem K6(h:cp b=true){e:DEntry}{r:List DEntry}(he:b.entries=e::r):e.index=b.base+1:=by
  simp only[cp,and_eq_true]at h;have h6:=h.2;rw[he]at h6;simp only[and_eq_true,beq_iff_eq]at h6;exact h6.1
theorem RY(hk:0<l.length):∃r,l=l[0]::r:=by
  cases l with
  |nil=>simp at hk
  |cons e r=>exact⟨r,rfl⟩
theorem pW(h:cp b=true):∀(k:Nat) (hk:k<b.entries.length),b.entries[k].index=b.base+1+k:=by
  intro k;induction k with
  |zero=>
    intro hk;obtain⟨r,hr⟩:=RY hk;have:=K6 h hr;omega
  |succ k ih=>
    intro hk;have h5:=(eK h).2.2.2;simp only[dD,and_eq_true]at h5;have:=j8 h5.2 hk;simp only[kT,and_eq_true,beq_iff_eq]at this;have:=ih ac;omega
theorem gM(h:cp b=true):b.base<=ca b/\ca b<=2000:=by
  have h1:=(eK h).1;refine⟨by unfold ca;omega,?_⟩;rcases Nat.eq_zero_or_pos b.entries.length with h0|h0
  · unfold ca;omega
  · have h2:=pW h (b.entries.length-1) ac;have h3:=mq (vK h (k:=b.entries.length-1) ac);have h4:=h3.2.2;simp only[aK,and_eq_true,decide_eq_true_eq]at h4;unfold ca;omega
theorem SW:∀{c m:Int},(∀(k:Nat) (hk:k<l.length),l[k].index=c+k)->l.filter (λe=>decide (e.index<m))=l.take (m-c).toNat:=by
  induction l with
  |nil=>intro c m _;simp
  |cons e r ih=>
    intro c m h;have h0:=h 0 aj;have hr:=ih (c:=c+1) (m:=m) λk hk=>by
      have:=h (k+1) (by simpa using hk);simp only[List.getElem_cons_succ]at this;omega
    simp only[List.getElem_cons_zero]at h0;by_cases hm:e.index<m
    · rw[List.filter_cons_of_pos (by simpa using hm),hr];have:(m-c).toNat=(m-(c+1)).toNat+1:=ac;rw[this,List.take_succ_cons]
    · rw[List.filter_cons_of_neg (by simpa using hm),hr];have e1:(m-c).toNat=0:=ac;have e2:(m-(c+1)).toNat=0:=ac;rw[e1,e2];simp
def mj(b:DBook)(lo hi:Int):List DEntry:=b.entries.filter λe=>aK e.index lo hi
theorem uY{q:DEntry->Bool}(h:∀e∈l,p e=q e):l.filter p=l.filter q:=by
  induction l with
  |nil=>rfl
  |cons e r ih=>
    have h0:=h e aj;have hr:=ih λx hx=>h x (List.mem_cons_of_mem _ hx);cases hp:p e with
    |true=>rw[List.filter_cons_of_pos hp,List.filter_cons_of_pos (by rw[<-h0,hp]),hr]
    |false=>rw[List.filter_cons_of_neg (by simp[hp]),List.filter_cons_of_neg (by simp[<-h0,hp]),hr]
theorem SC(h:cp b=true)(i:Int):mj b (b.base+1) i=mS b i:=by
  have h1:mj b (b.base+1) i=b.entries.filter λe=>decide (e.index<i+1):=uY λe he=>by
    obtain⟨k,hk,rfl⟩:=List.getElem_of_mem he;have:=pW h k hk;rw[Bool.eq_iff_iff];simp[aK];omega
  rw[h1,SW (c:=b.base+1) (pW h)];unfold mS;congr 1;omega
theorem L1(h:cp b=true)(d:Int):mj b (d+1) 2000=eV b d:=uY λe he=>by
  obtain⟨k,hk,rfl⟩:=List.getElem_of_mem he;have h3:=(mq (vK h hk)).2.2;rw[Bool.eq_iff_iff];simp[aK]at h3⊢;omega
theorem mE(b:DBook)(h:cp b=true):aM av 363 [.agg b.ds] (.val (pI (ca b))):=by
  have hp:=eK h;have hq:=gM h;refine pO func363 call363 ntmps363 results363 λS=>?_;conv=>whnf
  repeat'(first|refine awz ?_|(refine X3 ari ari ?_;conv=>whnf)|fail)
  all_goals simp[ca]
theorem uB(b:DBook)(h:cp b=true):aM av 219 [.agg b.ds] (.val (pI (ca b))):=by
  have hp:=eK h;have hq:=gM h;refine pO func219 call219 ntmps219 results219 λS=>?_;conv=>whnf
  repeat'(first|refine awz ?_|(refine X3 ari ari ?_;conv=>whnf)|fail)
  all_goals simp[ca]
def jl(b:DBook)(i:Int):Int:=(b.entries.getD (i-b.base-1).toNat GQ).time
theorem tE(b:DBook)(i:Int)(h:cp b=true)(h1:b.base+1<=i)(h2:i<=ca b):aM av 319 [.agg b.ds,.one (dI i)] (.val (pI (jl b i))):=by
  have hp:=eK h;have hq:=gM h;obtain⟨k,hk⟩:∃k:Nat,i-b.base-1=k:=⟨(i-b.base-1).toNat,ac⟩;have hkl:k<b.entries.length:=by unfold ca at h2;omega
  refine pO func319 call319 ntmps319 results319 λS=>?_;conv=>whnf
  repeat'((first|refine awz ?_|refine X3 ac ac ?_|refine X8 k (DEntry.ds (b.entries[k]'hkl)) hk (by simp[hkl]) ?_|refine tB ?_ ?_|intro h)<;>conv=>whnf)
  · exfalso;simp at h;omega
  · have e:(i-b.base-1).toNat=k:=ac;simp only[jl,e,List.getD_eq_getElem?_getD,List.getElem?_eq_getElem hkl,Option.getD_some]
theorem P8(e:DEntry):aM av 431 [.agg e.ds] (.val (.agg (cN e).ds)):=by
  refine pO func431 call431 ntmps431 results431 λS=>?_;conv=>whnf
  repeat'((first|refine awz ?_|refine cP (k8 e) ?_|refine tB ?_ ?_|intro h)<;>conv=>whnf)
  all_goals
    simp_all[cN,DAck.ds]
theorem J0(e:DEntry):aM av 318 [.agg e.ds] (.val (.agg (cN e).ds)):=by
  refine pO func318 call318 ntmps318 results318 λS=>?_;conv=>whnf
  repeat'((first|refine awz ?_|refine cP (lm e) ?_|refine tB ?_ ?_|intro h)<;>conv=>whnf)
  all_goals
    simp_all[cN,DAck.ds]
theorem PZ(hk:k<l.length)(h:p l[k]=true):(l.take (k+1)).filter p=(l.take k).filter p++[l[k]]:=by
  rw[List.take_succ_eq_append_getElem hk,List.filter_append,List.filter_cons_of_pos h,List.filter_nil]
theorem RU(hk:k<l.length)(h:p l[k]=false):(l.take (k+1)).filter p=(l.take k).filter p:=by
  rw[List.take_succ_eq_append_getElem hk,List.filter_append,List.filter_cons_of_neg (by simp[h]),List.filter_nil,List.append_nil]
theorem PY:((l.take k).filter p).length<=l.length:=Nat.le_trans (List.length_filter_le ..) al
theorem qB(b:DBook)(lo hi:Int)(h20:b.entries.length<=20):aM av 317 [.agg b.ds,.one (dI lo),.one (dI hi)] (.val (.one (.sl ((mj b lo hi).map DEntry.ds)))):=by
  refine pO func317 call317 ntmps317 results317 λS=>?_;conv=>whnf
  repeat'(first|refine awz ?_|fail)
  refine X5 (λk:Nat=>k<=b.entries.length) (9::[7,8,10,11,12,13,14,15,16,17,18,19,20,21,22,23,24,25,26,27,28,29,30,31,32,33]) (λk=>[(7,.one (.own 9)),(8,vI .i64 (k:Int))]) (λk=>[(9,.row 332 9 (((b.entries.take k).filter λe=>aK e.index lo hi).map DEntry.ds)),(3,.cells 77 (b.ds.map .d))]) (λk=>b.entries.length-k) 0 ac ?_ sbW (λk hk=>?_)<;>(conv=>whnf)
  · exact whd
  · have hfl:((b.entries.take k).filter λe=>aK e.index lo hi).length<=b.entries.length:=PY;repeat'((first|refine awz ?_|refine Yc ari (λhlt=>?_)|refine X3 ari ari ?_|refine cP (bg _ _ _) ?_|refine aJ au ?_|refine tB ?_ ?_|intro h)<;>conv=>whnf)
    all_goals first
      | (refine bd.mk ⟨k + 1, ari, ari, ?_, X0 (congrArg some (congrArg (AO.row 332 9) (by rw [PZ ari ai]; simp only [List.map_append, List.map_cons, List.map_nil]; rfl))) sbW⟩
         exact hds)
      | (refine bd.mk ⟨k + 1, ari, ari, ?_, X0 (congrArg some (congrArg (AO.row 332 9) (by rw [RU ari ai]))) sbW⟩
         exact hds)
      | (have hkk : k = b.entries.length := ari
         subst hkk;simp only[List.take_length,mj])
theorem TY{l:List DAck}(hl:P.length=l.length)(hk:k<P.length)(h:(l[k]'(ac) !=cN P[k])=true):decide (l=P.map cN)=false:=decide_eq_false λe=>by
  subst e;simp at h
theorem RI{l:List DAck}(hl:P.length=l.length)(h:∀(j:Nat) (h1:j<P.length),l[j]'(ac)=cN P[j]):decide (l=P.map cN)=true:=decide_eq_true (List.ext_getElem (by simp[hl]) λj h1 h2=>by
  simp at h2;rw[h j h2];simp)
theorem Rc{l:List DAck}{hl:P.length=l.length}(h:∀(j:Nat) (hj:j<k) (h1:j<P.length),l[j]'(ac)=cN P[j]){h1:k<P.length}(hk:l[k]'(ac)=cN P[k]):∀(j:Nat) (hj:j<k+1) (h1:j<P.length),l[j]'(ac)=cN P[j]:=λj hj h1=>by
  rcases Nat.lt_succ_iff_lt_or_eq.1 hj with h2|h2
  · exact h j h2 h1
  · subst h2;exact hk
theorem C8(n:DLogNode)(hb:cp n.book=true)(hd:n.book.base<=n.durable/\n.durable<=ca n.book)(ho:n.owe.length<=9223372036854775806):aM av 220 [.agg n.ds] (rB (decide (n.owe=(eV n.book n.durable).map cN))):=by
  have hp:=eK hb;have hq:=gM hb;have h20:=hp.2.2.1;rw[<-L1 hb];have hlen:(mj n.book (n.durable+1) 2000).length<=20:=Nat.le_trans (List.length_filter_le ..) h20;refine pO func220 call220 ntmps220 results220 λS=>?_;conv=>whnf
  repeat'((first|refine awz ?_|refine X3 ac ac ?_|refine cP (qB n.book _ _ h20) ?_|refine tB ?_ ?_|intro h)<;>conv=>whnf)
  · have hne:(mj n.book (n.durable+1) 2000).length≠n.owe.length:=ap;rw[decide_eq_false λe=>hne (by rw[e,List.length_map])]
  · have hln:(mj n.book (n.durable+1) 2000).length=n.owe.length:=ap;clear h;refine X5 (λk:Nat=>k<=(mj n.book (n.durable+1) 2000).length/\∀(j:Nat) (hj:j<k) (h1:j<(mj n.book (n.durable+1) 2000).length),n.owe[j]'(ac)=cN (mj n.book (n.durable+1) 2000)[j]) (2::4::rg 17 17) (λk=>[(4,vI .i64 (k:Int))]) (λ_=>[(1,.cells 80 (n.ds.map .d))]) (λk=>(mj n.book (n.durable+1) 2000).length-k) 0 ⟨ac,ac⟩ ?_ sbW (λk hR=>?_)<;>(conv=>whnf)
    · exact whd
    · obtain⟨hk,hall⟩:=hR;repeat'((first|refine awz ?_|refine X9 aN 7 10 rh rA ae ae ae rfl ?_|refine Yc ari (λhlt=>?_)|refine X3 ari ari ?_|refine cP (J0 _) ?_|refine YF (ye _ _) rfl rfl rfl rfl rfl ?_|refine tB ?_ ?_|intro h)<;>conv=>whnf)
      all_goals first
        |(rw[TY hln (k:=k) ari (by first|(simpa using h)|(exfalso;assumption))];done)
        | (refine bd.mk ⟨k + 1, ⟨ari, Rc (hl := hln) (h1 := ari) hall (by simpa using h)⟩, ari, ?_, sbW⟩
           exact hds)
        | (have hkk : k = (mj n.book (n.durable + 1) 2000).length := ari
           rw[RI hln λj h1=>hall j ac h1])
theorem zZ{a b:DHead}:a=b↔(a.num=b.num/\a.base=b.base/\a.time=b.time/\a.seen=b.seen):=by
  cases a;cases b;simp[DHead.mk.injEq]
theorem jV(a b:DHead)(ha:a.seen.length<=9223372036854775806):aM av 368 [.agg a.ds,.agg b.ds] (rB (decide (a=b))):=by
  refine pO func368 call368 ntmps368 results368 λS=>?_;conv=>whnf
  repeat'((first|refine awz ?_|refine cP (gY a.seen b.seen ha) ?_|refine tB ?_ ?_|intro h)<;>conv=>whnf)
  all_goals
    refine bJ ?_;rw[Bool.eq_iff_iff];simp only[decide_eq_true_iff,zZ];simp_all
theorem kE(a b:DHead)(ha:a.seen.length<=9223372036854775806):aM av 221 [.agg a.ds,.agg b.ds] (rB (decide (a=b))):=by
  refine pO func221 call221 ntmps221 results221 λS=>?_;conv=>whnf
  repeat'((first|refine awz ?_|refine cP (od a.seen b.seen ha) ?_|refine tB ?_ ?_|intro h)<;>conv=>whnf)
  all_goals
    refine bJ ?_;rw[Bool.eq_iff_iff];simp only[decide_eq_true_iff,zZ];simp_all
theorem MK{a:DBook}:a=b↔(a.base=b.base/\a.time=b.time/\a.entries=b.entries):=by
  cases a;cases b;simp[DBook.mk.injEq]
theorem yR(a b:DBook)(ha:a.entries.length<=9223372036854775806):aM av 369 [.agg a.ds,.agg b.ds] (rB (decide (a=b))):=by
  refine pO func369 call369 ntmps369 results369 λS=>?_;conv=>whnf
  repeat'((first|refine awz ?_|refine cP (zD a.entries b.entries ha) ?_|refine tB ?_ ?_|intro h)<;>conv=>whnf)
  all_goals
    refine bJ ?_;rw[Bool.eq_iff_iff];simp only[decide_eq_true_iff,MK];simp_all
theorem kF(a:DHead):aM av 224 [.agg a.ds] (rB (decide (a=kS))):=by
  refine pO func224 call224 ntmps224 results224 λS=>?_;conv=>whnf
  repeat'(first|refine awz ?_|refine tB ?_ ?_|(intro h;conv=>whnf))
  all_goals
    refine bJ ?_;rw[Bool.eq_iff_iff];simp only[decide_eq_true_iff,zZ];simp_all[kS]
theorem RO{a b:DDisk}:a=b↔(a.kept=b.kept/\a.wait=b.wait):=by
  cases a;cases b;simp[DDisk.mk.injEq]
theorem nS(a b:DDisk)(h1:a.kept.length<=9223372036854775806)(h2:∀y∈a.kept,y.length<=9223372036854775806)(h3:a.wait.length<=9223372036854775806)(h4:∀y∈a.wait,y.row.length<=9223372036854775806):aM av 367 [.agg a.ds,.agg b.ds] (rB (decide (a=b))):=by
  refine pO func367 call367 ntmps367 results367 λS=>?_;conv=>whnf
  repeat'((first|refine awz ?_|refine cP (Dh a.kept b.kept h1 h2) ?_|refine cP (xz a.wait b.wait h3 h4) ?_|refine tB ?_ ?_|intro h)<;>conv=>whnf)
  all_goals
    refine bJ ?_;rw[Bool.eq_iff_iff];simp only[decide_eq_true_iff,RO];simp_all
end
section
open Go.Proofs.Tryz
open Go.ChangeShapes Go.WideShapes Go.RowKit
variable {n:DLogNode}{α:Type}
def rj:List (List Nat):=bZ [0,1,129,12354,0,0,6,0,29064,0x40810c5248187,0,0xb2871882450c1084]
def rC:List (List Nat):=fB 11 [137700,137701,137704,137713,137618,122714,122957,120284,121499,127939,59048]
def qW:List (List Nat):=bZ [0,1,2,0,4,0,6,7,8,0,41541,45763,12,13,13,0x38d30b289207185103081,0xe34c2ca2481c61440c204c390]
def uG:List (List Nat):=bZ [0,1,129,12354,12354,1318979,4328796549,486506500228,0xc1088106147,0x91c5184202043,0x2830422041851c9,0xb2471461080810ca,0x2830422041851c9,0xd2471461080810ca,0x38a0c108810614724d,0x2830422041851c9,0x102471461080810ca,0x44a0c1088106147250,0x30a0c108810614724b3cd392411,0x1345048e34f2c91c518420204328c,0x2830422041851c950c2cf34e490453,0x154d141238d3cb3142471461080810ca,0x58a0c108810614725430b3cd3924114d5,0x1755345048e34f2cc5091c5184202043296,0x6162830422041851c950c2cf34e490453557,0x162830422041851c950c2cf34e4904535595d8]
def mi:List (List Nat):=fB 18 [0,1,4,661,67,148,364,1093,3280,9841,386918572,386977621,373573498,374104939,375699262,14319382,28668289,71715010]
def uH:List (List Nat):=bZ [0,1,129,0,4,324,24837,0,8,848968016749128,0x2882461051c2043,0xb0c108714418920a,0x30a2091841470810cb,0xb0c108714418920a,0xb0c108714418920a,0x3ca2091841470810cb,0x102c30421c510624828f,0xe2882461051c20432d13d0,0x34b0c108714418920a31240f44e,0xb0c108714418920a4ce44f41230d,0x50d31240f44e4ca2091841470810cb]
def uM:List (List Nat):=fB 18 [19656,19657,19660,17522,17549,17630,17873,2186,4373,9841,29524,385914739,386091886,125862943,4694395,9477364,23826271,65278669]
def Cu(n:DLogNode)(i:Int):DHead:=⟨n.head.num+1,i,jl n.book i,(bL n.head.seen (mj n.book (n.book.base+1) i)).1⟩
theorem C7(n:DLogNode)(i:Int)(hb:cp n.book=true)(hn:0<=n.head.num/\n.head.num<=2000)(h1:n.book.base+1<=i)(h2:i<=ca n.book):aM av 222 [.agg n.ds,.one (dI i)] (.val (.agg (Cu n i).ds)):=by
  have hp:=eK hb;have hq:=gM hb;have h20:=hp.2.2.1;refine pO func222 call222 ntmps222 results222 λS=>?_;conv=>whnf
  repeat'(first|refine awz ?_|(refine X9 aN 1 11 rj rC ae ae ae rfl ?_;conv=>whnf)|(refine X7 aN 2 (tkc [0,1,2,3,4,5,6,7,9] (onc [8,10,11] (tkc [12,13,14,15] (.one 16 .done)))) [(2,9980)] qW ae ae ae ae (λRz=>?_);(conv=>whnf);intro bp0 up0;(conv=>whnf))|((first|refine X3 ac ac ?_|refine cP (tE n.book i hb h1 h2) ?_|refine cP (qB n.book _ _ h20) ?_|refine cP (oe n.head.seen (mj n.book (n.book.base+1) i)) ?_|fail)<;>conv=>whnf))
  all_goals rfl
theorem SA[BEq α][LawfulBEq α][DecidableEq α](x:α×Bool)(s:α):(x==(s,true))=(x.2&&decide (x.1=s)):=by
  obtain⟨a,b⟩:=x;cases b<;>(rw[Bool.eq_iff_iff];simp[Prod.mk.injEq])
def nU(n:DLogNode):Bool:=kt n.two&&gv n.head&&cp n.book&&n.book.base==n.head.base&&n.book.time==n.head.time
def nV(n:DLogNode):Bool:=(bL n.head.seen n.book.entries).2&&decide ((bL n.head.seen n.book.entries).1=n.seen)&&aK n.durable n.book.base (ca n.book)
theorem zY[BEq α][LawfulBEq α][DecidableEq α](a b:α):(a==b)=decide (a=b):=by
  rw[Bool.eq_iff_iff];simp
theorem tc(n:DLogNode):logOk n=(nU n&&nV n&&decide (n.owe=(eV n.book n.durable).map cN)&&gp n):=by
  simp only[logOk,nU,nV,SA,Bool.and_assoc,zY n.owe]
theorem Qs(h:nU n=true):kt n.two=true/\gv n.head=true/\cp n.book=true/\n.book.base=n.head.base/\n.book.time=n.head.time:=by
  simp only[nU,Bool.and_eq_true,beq_iff_eq]at h;exact⟨h.1.1.1.1,h.1.1.1.2,h.1.1.2,h.1.2,h.2⟩
theorem nM{h:DHead}(hh:gv h=true):(0<=h.num/\h.num<=2000)/\(0<=h.base/\h.base<=2000)/\seenOk h.seen=true:=by
  simp only[gv,Bool.and_eq_true,aK,decide_eq_true_eq]at hh;exact⟨ac,ac,hh.1.2⟩
theorem MZ(h:nU n=false):logOk n=false:=by simp only[tc,h,Bool.false_and]
theorem uf(h:nV n=false):logOk n=false:=by simp only[tc,h,Bool.false_and,Bool.and_false]
theorem Sk(h:decide (n.owe=(eV n.book n.durable).map cN)=false):logOk n=false:=by simp only[tc,h,Bool.false_and,Bool.and_false]
theorem Sl{b:Bool}(h1:nU n=true)(h2:nV n=true)(h3:decide (n.owe=(eV n.book n.durable).map cN)=true)(h:b=gp n):b=logOk n:=by simp only[tc,h1,h2,h3,h,Bool.true_and]
theorem GP(h:(!aK n.durable n.book.base (ca n.book))=false):n.book.base<=n.durable/\n.durable<=ca n.book:=by
  simpa[aK]using h
theorem Uz(h:(!(bL n.head.seen n.book.entries).snd)=true):nV n=false:=by
  rw[Bool.not_eq_true']at h;simp only[nV,h,Bool.false_and]
theorem UA(h:(!decide ((bL n.head.seen n.book.entries).fst=n.seen))=true):nV n=false:=by
  rw[Bool.not_eq_true']at h;simp only[nV,h,Bool.false_and,Bool.and_false]
theorem UB(h:(!aK n.durable n.book.base (ca n.book))=true):nV n=false:=by
  rw[Bool.not_eq_true']at h;simp only[nV,h,Bool.and_false]
theorem UC(h1:(!(bL n.head.seen n.book.entries).snd)=false)(h2:(!decide ((bL n.head.seen n.book.entries).fst=n.seen))=false)(h3:(!aK n.durable n.book.base (ca n.book))=false):nV n=true:=by
  rw[Bool.not_eq_false']at h1 h2 h3;simp only[nV,h1,h2,h3,Bool.and_self]
theorem qu{s:List DMark}{l:List DEntry}(h:seenOk s=true):(bL s l).1.length<=4:=by
  unfold bL;simp only[h,Bool.not_true,Bool.false_eq_true,if_false];split
  · exact fq h
  · cases hf:bY s l with
    |none=>exact fq h
    |some c=>exact fq (mA h hf)
theorem y7(h:(!n.more)=true):decide (n.nxt=kS)=gp n:=by
  rw[Bool.not_eq_true']at h;simp only[gp,h,Bool.false_eq_true,if_false,zY n.nxt]
theorem y6(hb:cp n.book=true):Cu n n.nxt.base=lM n:=by
  simp only[Cu,lM,SC hb,jl,GQ]
theorem ui(hm:(!n.more)=false):gp n=(aK n.nxt.base (n.head.base+1) n.durable&&decide (n.nxt=lM n)):=by
  rw[Bool.not_eq_false']at hm;simp only[gp,hm,if_true,zY n.nxt]
theorem M3(hbb:n.book.base=n.head.base)(h:aK n.nxt.base (n.head.base+1) n.durable=true):n.book.base+1<=n.nxt.base:=by
  simp only[aK,Bool.and_eq_true,decide_eq_true_eq]at h;omega
theorem M2(h3:(!aK n.durable n.book.base (ca n.book))=false)(h:aK n.nxt.base (n.head.base+1) n.durable=true):n.nxt.base<=ca n.book:=by
  have:=GP h3;simp only[aK,Bool.and_eq_true,decide_eq_true_eq]at h;omega
theorem CV(n:DLogNode)(hhs:n.head.seen.length<=9223372036854775806)(ho:n.owe.length<=9223372036854775806)(hs:n.seen.length<=9223372036854775806)(hx:n.nxt.seen.length<=9223372036854775806):aM av 133 [.agg n.ds] (rB (logOk n)):=by
  refine pO func133 call133 ntmps133 results133 λS=>?_;conv=>whnf
  repeat'((first|refine awz ?_|refine cP (Fy n.two) ?_|refine cP (Fx n.head hhs) ?_|refine cP (yl n.book) ?_|refine cP (oe n.head.seen n.book.entries) ?_|refine tB ?_ ?_|intro h)<;>conv=>whnf)
  all_goals first
    | (have hno : nU n = false := by simp_all [nU]
       rw[MZ hno];done)
    |skip
  have h1:nU n=true:=by simp_all[nU]
  obtain⟨hk,hh,hb,hbb,htt⟩:=Qs h1;have hq:=nM hh;have hp:=eK hb;have hl:=gM hb;have hsv:(bL n.head.seen n.book.entries).1.length<=9223372036854775806:=Nat.le_trans (qu hq.2.2) ah;repeat'((first|refine awz ?_|refine X9 aN 4 18 uG mi ae ae ae rfl ?_|refine cP (od (bL n.head.seen n.book.entries).1 n.seen hsv) ?_|refine cP (uB n.book hb) ?_|refine cP (bg _ _ _) ?_|refine cP (C8 n hb (GP ai) ho) ?_|refine tB ?_ ?_|intro h)<;>conv=>whnf)
  all_goals first
    |(rw[uf (Uz h)];done)
    |(rw[uf (UA h)];done)
    |(rw[uf (UB h)];done)
    |(rw[Sk (by rwa[Bool.not_eq_true']at h)];done)
    |skip
  all_goals
    have h2:nV n=true:=UC ai ai ai;have h3:decide (n.owe=(eV n.book n.durable).map cN)=true:=by
      have:(!decide (n.owe=List.map cN (eV n.book n.durable)))=false:=ai;rwa[Bool.not_eq_false']at this
    repeat'((first|refine awz ?_|refine X9 aN 8 18 uH uM ae ae ae rfl ?_|refine X3 ac ac ?_|refine cP (bg _ _ _) ?_|refine cP (kE n.nxt kS hx) ?_|refine cP (C7 n n.nxt.base hb hq.1 (M3 hbb ai) (M2 ai ai)) ?_|refine cP (kE n.nxt (Cu n n.nxt.base) hx) ?_|refine tB ?_ ?_|intro h)<;>conv=>whnf)
    all_goals
      refine bJ (Sl h1 h2 h3 ?_);first
        |exact y7 ai
        |(rw[ui ai,y6 hb];simp_all;done)
        |(rw[ui ai,<-y6 hb];simp_all;done)
end
section
open Go.Proofs.Tryz
open Go.ChangeShapes Go.WideShapes Go.RowKit
variable {n:DLogNode}{l:List DEntry}{c s:List DMark}
def rl:List (List Nat):=bZ [0,1,129,12354,1056835,1056835,101453956,7583830214,1056835,151785604,90920957393793673,0xb24a1c62040810c5,0x1020433052061ca24b]
def rD:List (List Nat):=fB 10 [0,1,4,13,58846,52690,52933,53662,6520,13081]
def p3:List (List Nat):=bZ [0,1,0,3,0,0,6,20934,4347421125,567971962978500,0x2840c8187149042,0x2840c8187149042,0x2c20491471880c428c,0xc0812451c620310a34b]
def p6:List (List Nat):=fB 12 [19674,19675,6488,6497,2024,242,485,1133,3284,9841,383818,147622]
def uI:List (List Nat):=bZ [0,1,129,12354,12354,1318979,4328796549,486506500228,0xc1088106147,0x91c5184202043,0x2830422041851c9,0xb2471461080810ca,0x2830422041851c9,0xd2471461080810ca,0x38a0c108810614724d,0x2830422041851c9,0x102471461080810ca,0x44a0c1088106147250,0x30a0c108810614724b3cd392411,0x1345048e34f2c91c518420204328c,0x2830422041851c950c2cf34e490453]
def uJ:List (List Nat):=bZ [0,1,129,12354,1056835,12354,1581123,12354,2105411,484274889288,90920957427880327,0x30422c718920a105,0x30510a2091872c2043]
def uN:List (List Nat):=fB 10 [0,1,4,58819,58846,17725,17968,2173,4360,9949]
theorem yH(h:bY s l=some c)(k:Nat):∃c',bY s (l.take k)=some c':=by
  rw[<-List.take_append_drop k l,jT]at h;cases hk:bY s (l.take k)with
  |none=>rw[hk]at h;cases h
  |some c'=>exact⟨c',rfl⟩
theorem N9{k:Nat}(hk:k<l.length)(h:bY s (l.take (k+1))=some c):bP c=l[k].index:=by
  obtain⟨c0,h0⟩:=yH h k;rw[List.take_take,Nat.min_eq_left ac]at h0;rw[t7 hk h0]at h;unfold d7 at h;split at h
  · rename_i hc;injection h with h
    subst h;simp only[Bool.and_eq_true,decide_eq_true_eq]at hc;exact Fc ac
  · cases h
theorem QF(hs:seenOk s=true)(h:(bL s l).2=true):l.length<=2000/\∃c,bY s l=some c:=by
  unfold bL at h;simp only[hs,Bool.not_true,Bool.false_eq_true,if_false]at h;split at h
  · cases h
  · rename_i hl;refine⟨ac,?_⟩;cases hf:bY s l with
    |none=>rw[hf]at h;cases h
    |some c=>exact⟨c,rfl⟩
theorem y8(hb:cp n.book=true)(hh:gv n.head=true)(hbb:n.book.base=n.head.base)(hso:(bL n.head.seen n.book.entries).2=true)(h1:n.head.base+1<=n.nxt.base)(h2:n.nxt.base<=ca n.book):gv (lM n)=true:=by
  have hq:=nM hh;have hl:=gM hb;obtain⟨hlen,c,hc⟩:=QF hq.2.2 hso;obtain⟨k,hk⟩:∃k:Nat,n.nxt.base=n.book.base+1+k:=⟨(n.nxt.base-n.book.base-1).toNat,ac⟩;have hkl:k<n.book.entries.length:=by unfold ca at h2;omega
  obtain⟨c',hc'⟩:=yH hc (k+1);have e1:(n.nxt.base-n.book.base).toNat=k+1:=ac;have e2:(n.nxt.base-n.book.base-1).toNat=k:=ac;have hov:bL n.head.seen (mS n.book n.nxt.base)=(c',true):=by
    unfold mS;rw[e1];exact mH hq.2.2 al hc'
  have hlast:=N9 hkl hc';have hidx:=pW hb k hkl;have hent:=vK hb hkl;have ht:tOk n.book.entries[k].time=true:=by
    simp only[dd,Bool.and_eq_true]at hent;simpa[tOk]using hent.1.1.1.2
  have hnum:n.head.num<=n.head.base:=by
    simp only[gv,Bool.and_eq_true,aK,decide_eq_true_eq]at hh;omega
  have eH:lM n=⟨n.head.num+1,n.nxt.base,n.book.entries[k].time,c'⟩:=by
    simp only[lM,hov,e2,List.getD_eq_getElem?_getD,List.getElem?_eq_getElem hkl,Option.getD_some]
  have hcs:=mA hq.2.2 hc';rw[eH];simp only[gv,Bool.and_eq_true,aK,decide_eq_true_eq,Bool.or_eq_true,beq_iff_eq];exact⟨⟨⟨⟨⟨⟨ac,ac⟩,ac,ac⟩,ht⟩,.inl ac⟩,hcs⟩,ac⟩
def Ix(b:DBook)(i:Int):DEntry:=b.entries.getD (i-b.base-1).toNat GQ
theorem Tz{x lo hi:Int}(h1:lo<=x)(h2:x<=hi):aK x lo hi=true:=by simp[aK,h1,h2]
theorem BS(b:DBook)(i:Int)(hb:cp b=true)(h1:b.base+1<=i)(h2:i<=ca b):aM av 428 [.agg b.ds,.one (dI i)] (.tup [.agg (Ix b i).ds,.one (dB true)]):=by
  have hp:=eK hb;have hq:=gM hb;have hbt:(!aK i (b.base+1) (ca b))=false:=by rw[Tz h1 h2];rfl
  have hbn:(!cp b)=false:=by rw[hb];rfl
  obtain⟨k,hk⟩:∃k:Nat,i-b.base-1=k:=⟨(i-b.base-1).toNat,ac⟩;have hkl:k<b.entries.length:=by unfold ca at h2;omega
  refine pO func428 call428 ntmps428 results428 λS=>?_;conv=>whnf
  repeat'((first|refine awz ?_|refine X9 aN 1 10 rl rD ae ae ae rfl ?_|refine X3 ac ac ?_|refine X8 k (DEntry.ds (b.entries[k]'hkl)) hk (by simp[hkl]) ?_|refine cP (pb b) ?_|refine cP (mE b hb) ?_|refine cP (be _ _ _) ?_|fail)<;>conv=>whnf)
  have e:Ix b i=b.entries[k]'hkl:=by
    have e2:(i-b.base-1).toNat=k:=ac;simp only[Ix,e2,List.getD_eq_getElem?_getD,List.getElem?_eq_getElem hkl,Option.getD_some]
  rw[e];rfl
theorem yZ(h:DHead)(b:DBook)(i:Int)(hs:h.seen.length<=9223372036854775806)(h0:(0<=b.base/\b.base<=2000)/\b.entries.length<=20)(h1:b.base<=i)(h2:i<=ca b):aM av 429 [.agg h.ds,.agg b.ds,.one (dI i)] (CD (bL h.seen (mS b i))):=by
  obtain⟨k,hk⟩:∃k:Nat,i-b.base=k:=⟨(i-b.base).toNat,ac⟩;have hkl:k<=b.entries.length:=by unfold ca at h2;omega
  have hlb:ca b<=3000:=by unfold ca;omega
  have hx:List.drop 0 (List.take k (b.entries.map DEntry.ds))=(mS b i).map DEntry.ds:=by
    have e2:(i-b.base).toNat=k:=ac;simp only[List.drop_zero,mS,e2,List.map_take]
  refine pO func429 call429 ntmps429 results429 λS=>?_;conv=>whnf
  repeat'(first|refine awz ?_|((first|refine X9 aN 1 12 p3 p6 ae ae ae rfl ?_|refine X3 ac ac ?_|refine⟨0,k,rfl,hk,Nat.zero_le _,(by simpa using hkl),?_⟩|fail)<;>conv=>whnf)|(refine aI (λx hx=>by obtain⟨y,_,rfl⟩:=List.mem_map.1 hx;rfl) ?_;conv=>whnf;rw[hx])|(refine cP (nP h.seen (mS b i) hs) ?_;conv=>whnf)|exact rr|fail)
theorem uj(hm:(!n.more)=false)(hb:cp n.book=true)(hh:gv n.head=true)(hbb:n.book.base=n.head.base)(hd:n.book.base<=n.durable/\n.durable<=ca n.book)(hso:(bL n.head.seen n.book.entries).2=true)
    (h:gv n.nxt=false\/n.nxt.num≠n.head.num+1\/n.nxt.base<=n.head.base\/n.durable<n.nxt.base):gp n=false:=by
  rw[ui hm,<-Bool.not_eq_true];simp only[Bool.and_eq_true,aK,decide_eq_true_eq];rintro⟨⟨h1,h2⟩,h3⟩;rcases h with h|h|h|h
  · have:=y8 hb hh hbb hso h1 ac;rw[<-h3,h]at this;cases this
  · exact h (congrArg DHead.num h3)
  · omega
  · omega
theorem LZ(hm:(!n.more)=false)(h1:n.nxt.num=n.head.num+1)(h2:¬n.nxt.base<=n.head.base)(h3:¬n.nxt.base>n.durable):gp n=((n.nxt.time==(Ix n.book n.nxt.base).time)&&decide (n.nxt.seen=(bL n.head.seen (mS n.book n.nxt.base)).1)):=by
  have hbt:aK n.nxt.base (n.head.base+1) n.durable=true:=Tz ac ac;rw[ui hm,hbt,Bool.true_and,Bool.eq_iff_iff];simp only[decide_eq_true_eq,Bool.and_eq_true,beq_iff_eq,zZ,lM,Ix,GQ,h1,true_and]
theorem E6(n:DLogNode)(hb:cp n.book=true)(hh:gv n.head=true)(hbb:n.book.base=n.head.base)(hd:n.book.base<=n.durable/\n.durable<=ca n.book)(hso:(bL n.head.seen n.book.entries).2=true)(hhs:n.head.seen.length<=9223372036854775806)(hx:n.nxt.seen.length<=9223372036854775806):aM av 364 [.agg n.ds] (rB (gp n)):=by
  have hq:=nM hh;have hp:=eK hb;have hl:=gM hb;refine pO func364 call364 ntmps364 results364 λS=>?_;conv=>whnf
  repeat'((first|refine awz ?_|refine X3 ac ac ?_|refine cP (jV n.nxt kS hx) ?_|refine cP (ua n.nxt hx) ?_|refine tB ?_ ?_|intro h)<;>conv=>whnf)
  · exact congrArg rB (y7 h)
  all_goals first
    |(rw[uj ai hb hh hbb hd hso (.inl (by simpa using h))];done)
    |(rw[uj ai hb hh hbb hd hso (.inr (.inl (by simpa using h)))];done)
    |(rw[uj ai hb hh hbb hd hso (.inr (.inr (.inl (by simpa using h))))];done)
    |(rw[uj ai hb hh hbb hd hso (.inr (.inr (.inr (by simpa using h))))];done)
    |skip
  have hm:(!n.more)=false:=ai;have g1:n.nxt.num=n.head.num+1:=by
    have:(n.nxt.num !=n.head.num+1)=false:=ai;simpa using this
  have g2:¬n.nxt.base<=n.head.base:=by
    have:decide (n.nxt.base<=n.head.base)=false:=ai;simpa using this
  have g3:¬n.nxt.base>n.durable:=by simpa using h
  repeat'((first|refine awz ?_|refine cP (BS n.book n.nxt.base hb ac ac) ?_|refine cP (yZ n.head n.book n.nxt.base hhs ⟨hp.1,hp.2.2.1⟩ ac ac) ?_|refine cP (gY n.nxt.seen (bL n.head.seen (mS n.book n.nxt.base)).1 hx) ?_|refine tB ?_ ?_|intro h)<;>conv=>whnf)
  all_goals
    refine bJ ?_;rw[LZ hm g1 g2 g3];simp_all
theorem Uh{a b:DTwo}:a=b↔(a.a=b.a/\a.b=b.b):=by
  cases a;cases b;simp[DTwo.mk.injEq]
theorem Qr{a b:DLogNode}:a=b↔(a.two.a=b.two.a/\a.two.b=b.two.b/\a.head=b.head/\a.nxt=b.nxt/\a.more=b.more/\a.book=b.book/\a.seen=b.seen/\a.durable=b.durable/\a.owe=b.owe):=by
  cases a;cases b;simp[DLogNode.mk.injEq,Uh,and_assoc]
structure rO (n:DLogNode):Prop where
  a1:n.two.a.kept.length<=9223372036854775806
  a2:∀y∈n.two.a.kept,y.length<=9223372036854775806
  a3:n.two.a.wait.length<=9223372036854775806
  a4:∀y∈n.two.a.wait,y.row.length<=9223372036854775806
  b1:n.two.b.kept.length<=9223372036854775806
  b2:∀y∈n.two.b.kept,y.length<=9223372036854775806
  b3:n.two.b.wait.length<=9223372036854775806
  b4:∀y∈n.two.b.wait,y.row.length<=9223372036854775806
  head:n.head.seen.length<=9223372036854775806
  nxt:n.nxt.seen.length<=9223372036854775806
  book:n.book.entries.length<=9223372036854775806
  seen:n.seen.length<=9223372036854775806
  owe:n.owe.length<=9223372036854775806
theorem BZ(a b:DLogNode)(hs:rO a):aM av 280 [.agg a.ds,.agg b.ds] (rB (decide (a=b))):=by
  refine pO func280 call280 ntmps280 results280 λS=>?_;conv=>whnf
  repeat'((first|refine awz ?_|refine cP (nS a.two.a b.two.a hs.a1 hs.a2 hs.a3 hs.a4) ?_|refine cP (nS a.two.b b.two.b hs.b1 hs.b2 hs.b3 hs.b4) ?_|refine cP (jV a.head b.head hs.head) ?_|refine cP (jV a.nxt b.nxt hs.nxt) ?_|refine cP (yR a.book b.book hs.book) ?_|refine cP (gY a.seen b.seen hs.seen) ?_|refine cP (uC a.owe b.owe hs.owe) ?_|refine tB ?_ ?_|intro h)<;>conv=>whnf)
  all_goals
    refine bJ ?_;rw[Bool.eq_iff_iff];simp only[decide_eq_true_iff,Qr];simp_all
def Pd:Prop:=∀(b:DBook) (d:Int),cp b=true->b.base<=d->d<=ca b->aM av 366 [.agg b.ds,.one (dI d)] (.val (.one (.sl (((eV b d).map cN).map DAck.ds))))
theorem BV(how:Pd)(n:DLogNode)(hs:rO n):aM av 278 [.agg n.ds] (rB (logOk n)):=by
  refine pO func278 call278 ntmps278 results278 λS=>?_;conv=>whnf
  repeat'((first|refine awz ?_|refine cP (EX n.two) ?_|refine cP (ua n.head hs.head) ?_|refine cP (pb n.book) ?_|refine cP (nP n.head.seen n.book.entries hs.head) ?_|refine tB ?_ ?_|intro h)<;>conv=>whnf)
  all_goals first
    | (have hno : nU n = false := by simp_all [nU]
       rw[MZ hno];done)
    |skip
  have h1:nU n=true:=by simp_all[nU]
  obtain⟨hk,hh,hb,hbb,htt⟩:=Qs h1;have hq:=nM hh;have hp:=eK hb;have hl:=gM hb;have hsv:(bL n.head.seen n.book.entries).1.length<=9223372036854775806:=Nat.le_trans (qu hq.2.2) ah;repeat'((first|refine awz ?_|refine X9 aN 4 18 uI mi ae ae ae rfl ?_|refine cP (gY (bL n.head.seen n.book.entries).1 n.seen hsv) ?_|refine cP (mE n.book hb) ?_|refine cP (be _ _ _) ?_|refine tB ?_ ?_|intro h)<;>conv=>whnf)
  all_goals first
    |(rw[uf (Uz h)];done)
    |(rw[uf (UA h)];done)
    |(rw[uf (UB h)];done)
    |skip
  have h2:nV n=true:=UC ai ai ai;have hd:=GP h;have hso:(bL n.head.seen n.book.entries).2=true:=by
    have:(!(bL n.head.seen n.book.entries).snd)=false:=ai;rwa[Bool.not_eq_false']at this
  repeat'((first|refine awz ?_|refine X9 aN 6 10 uJ uN ae ae ae rfl ?_|refine cP (E6 n hb hh hbb hd hso hs.head hs.nxt) ?_|refine cP (how n.book n.durable hb hd.1 hd.2) ?_|refine cP (uC n.owe ((eV n.book n.durable).map cN) hs.owe) ?_|refine tB ?_ ?_|intro h)<;>conv=>whnf)
  all_goals
    refine bJ ?_;simp only[tc,h1,h2,Bool.true_and];simp_all
end
end Go.Proofs.YtknefkdcokgpbaaGreat
