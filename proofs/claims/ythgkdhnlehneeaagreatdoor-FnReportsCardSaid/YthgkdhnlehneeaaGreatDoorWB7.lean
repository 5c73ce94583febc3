/- WB7 -/
import Derived.Test.YthgkdhnlehneeaaGreatDoorAwx
import Derived.Test.YthgkdhnlehneeaaGreatDoorWA4
import Derived.Test.YthgkdhnlehneeaaGreatDoorAvDT
import Derived.Test.YthgkdhnlehneeaaGreatDoorAvFC
set_option maxHeartbeats 8000000
set_option linter.unusedVariables false
set_option linter.unusedSimpArgs false
set_option maxRecDepth 100000
open Bool (and_eq_true)
namespace Go.Proofs.YthgkdhnlehneeaaGreatDoor
section
open Go.Proofs.Tryz
open Go.ChangeShapes Go.WideShapes Go.RowKit
variable {P l:List aO}{k:Nat}{p:aO->Bool}{b:bn}
def tH:List (List Nat):=bC [0,1,0,8259,1060930,0,0,391,33222,2384328,90639551170638217]
def tX:List (List Nat):=dW 10 [58824,58825,58814,58819,58846,1700,728,1214,3401,9962]
def EI:aO:=⟨0,0,0,0,⟨0,0,0,0,0⟩⟩
theorem fb(h:bN b=true):(0<=b.base/\b.base<=2000)/\tOk b.time=true/\b.entries.length<=20/\dK b.entries=true:=by
  simp only[bN,and_eq_true,aJ,decide_eq_true_eq]at h;obtain⟨⟨⟨⟨⟨h1,h2⟩,_⟩,h4⟩,h5⟩,_⟩:=h;exact⟨h1,h2,h4,h5⟩
theorem yD(h:bN b=true)(hk:k<b.entries.length):bL b.entries[k]=true:=by
  have h5:=(fb h).2.2.2;simp only[dK,and_eq_true]at h5;exact wL h5.1.2 hk
theorem NU(h:bN b=true){e:aO}{r:List aO}(he:b.entries=e::r):e.index=b.base+1:=by
  simp only[bN,and_eq_true]at h;have h6:=h.2;rw[he]at h6;simp only[and_eq_true,beq_iff_eq]at h6;exact h6.1
theorem U3(hk:0<l.length):∃r,l=l[0]::r:=by
  cases l with
  |nil=>simp at hk
  |cons e r=>exact⟨r,rfl⟩
theorem rc(h:bN b=true):∀(k:Nat) (hk:k<b.entries.length),b.entries[k].index=b.base+1+k:=by
  intro k;induction k with
  |zero=>
    intro hk;obtain⟨r,hr⟩:=U3 hk;have:=NU h hr;omega
  |succ k ih=>
    intro hk;have h5:=(fb h).2.2.2;simp only[dK,and_eq_true]at h5;have:=jK h5.2 hk;simp only[lK,and_eq_true,beq_iff_eq]at this;have:=ih ac;omega
theorem gx(h:bN b=true):b.base<=bg b/\bg b<=2000:=by
  have h1:=(fb h).1;refine⟨by unfold bg;omega,?_⟩;rcases Nat.eq_zero_or_pos b.entries.length with h0|h0
  · unfold bg;omega
  · have h2:=rc h (b.entries.length-1) ac;have h3:=mZ (yD h (k:=b.entries.length-1) ac);have h4:=h3.2.2;simp only[aJ,and_eq_true,decide_eq_true_eq]at h4;unfold bg;omega
theorem Vx:∀{c m:Int},(∀(k:Nat) (hk:k<l.length),l[k].index=c+k)->l.filter (λe=>decide (e.index<m))=l.take (m-c).toNat:=by
  induction l with
  |nil=>intro c m _;simp
  |cons e r ih=>
    intro c m h;have h0:=h 0 ah;have hr:=ih (c:=c+1) (m:=m) λk hk=>by
      have:=h (k+1) (by simpa using hk);simp only[List.getElem_cons_succ]at this;omega
    simp only[List.getElem_cons_zero]at h0;by_cases hm:e.index<m
    · rw[List.filter_cons_of_pos (by simpa using hm),hr];have:(m-c).toNat=(m-(c+1)).toNat+1:=ac;rw[this,List.take_succ_cons]
    · rw[List.filter_cons_of_neg (by simpa using hm),hr];have e1:(m-c).toNat=0:=ac;have e2:(m-(c+1)).toNat=0:=ac;rw[e1,e2];simp
def ld(b:bn)(lo hi:Int):List aO:=b.entries.filter λe=>aJ e.index lo hi
theorem xV{q:aO->Bool}(h:∀e∈l,p e=q e):l.filter p=l.filter q:=by
  induction l with
  |nil=>rfl
  |cons e r ih=>
    have h0:=h e ah;have hr:=ih λx hx=>h x (List.mem_cons_of_mem _ hx);cases hp:p e with
    |true=>rw[List.filter_cons_of_pos hp,List.filter_cons_of_pos (by rw[<-h0,hp]),hr]
    |false=>rw[List.filter_cons_of_neg (by simp[hp]),List.filter_cons_of_neg (by simp[<-h0,hp]),hr]
theorem Qw(h:bN b=true)(i:Int):ld b (b.base+1) i=mr b i:=by
  have h1:ld b (b.base+1) i=b.entries.filter λe=>decide (e.index<i+1):=xV λe he=>by
    obtain⟨k,hk,rfl⟩:=List.getElem_of_mem he;have:=rc h k hk;rw[Bool.eq_iff_iff];simp[aJ];omega
  rw[h1,Vx (c:=b.base+1) (rc h)];unfold mr;congr 1;omega
theorem OB(h:bN b=true)(d:Int):ld b (d+1) 2000=dP b d:=xV λe he=>by
  obtain⟨k,hk,rfl⟩:=List.getElem_of_mem he;have h3:=(mZ (yD h hk)).2.2;rw[Bool.eq_iff_iff];simp[aJ]at h3⊢;omega
theorem nr(b:bn)(h:bN b=true):aN av 42 [.agg b.ds] (.val (pI (bg b))):=by
  have hp:=fb h;have hq:=gx h;refine pO func42 call42 ntmps42 results42 λS=>?_;conv=>whnf
  repeat'(first|refine awz ?_|(refine aaH ari ari ?_;conv=>whnf)|fail)
  all_goals simp[bg]
theorem dV(b:bn)(h:bN b=true):aN av 163 [.agg b.ds] (.val (pI (bg b))):=by
  have hp:=fb h;have hq:=gx h;refine pO func163 call163 ntmps163 results163 λS=>?_;conv=>whnf
  repeat'(first|refine awz ?_|(refine aaH ari ari ?_;conv=>whnf)|fail)
  all_goals simp[bg]
def jH(b:bn)(i:Int):Int:=(b.entries.getD (i-b.base-1).toNat EI).time
theorem oW(b:bn)(i:Int)(h:bN b=true)(h1:b.base+1<=i)(h2:i<=bg b):aN av 332 [.agg b.ds,.one (dI i)] (.val (pI (jH b i))):=by
  have hp:=fb h;have hq:=gx h;obtain⟨k,hk⟩:∃k:Nat,i-b.base-1=k:=⟨(i-b.base-1).toNat,ac⟩;have hkl:k<b.entries.length:=by unfold bg at h2;omega
  refine pO func332 call332 ntmps332 results332 λS=>?_;conv=>whnf
  repeat'((first|refine awz ?_|refine aaH ac ac ?_|refine aaG k (aO.ds (b.entries[k]'hkl)) hk (by simp[hkl]) ?_|refine tB ?_ ?_|intro h)<;>conv=>whnf)
  · exfalso;simp at h;omega
  · have e:(i-b.base-1).toNat=k:=ac;simp only[jH,e,List.getD_eq_getElem?_getD,List.getElem?_eq_getElem hkl,Option.getD_some]
theorem Tv(e:aO):aN av 301 [.agg e.ds] (.val (.agg (cU e).ds)):=by
  refine pO func301 call301 ntmps301 results301 λS=>?_;conv=>whnf
  repeat'((first|refine awz ?_|refine cP (lU e) ?_|refine tB ?_ ?_|intro h)<;>conv=>whnf)
  all_goals
    simp_all[cU,fE.ds]
theorem FP(e:aO):aN av 331 [.agg e.ds] (.val (.agg (cU e).ds)):=by
  refine pO func331 call331 ntmps331 results331 λS=>?_;conv=>whnf
  repeat'((first|refine awz ?_|refine cP (bP e) ?_|refine tB ?_ ?_|intro h)<;>conv=>whnf)
  all_goals
    simp_all[cU,fE.ds]
theorem Tn(hk:k<l.length)(h:p l[k]=true):(l.take (k+1)).filter p=(l.take k).filter p++[l[k]]:=by
  rw[List.take_succ_eq_append_getElem hk,List.filter_append,List.filter_cons_of_pos h,List.filter_nil]
theorem UX(hk:k<l.length)(h:p l[k]=false):(l.take (k+1)).filter p=(l.take k).filter p:=by
  rw[List.take_succ_eq_append_getElem hk,List.filter_append,List.filter_cons_of_neg (by simp[h]),List.filter_nil,List.append_nil]
theorem Tm:((l.take k).filter p).length<=l.length:=Nat.le_trans (List.length_filter_le ..) al
theorem oh(b:bn)(lo hi:Int)(h20:b.entries.length<=20):aN av 330 [.agg b.ds,.one (dI lo),.one (dI hi)] (.val (.one (.sl ((ld b lo hi).map aO.ds)))):=by
  refine pO func330 call330 ntmps330 results330 λS=>?_;conv=>whnf
  repeat'(first|refine awz ?_|fail)
  refine aaK (λk:Nat=>k<=b.entries.length) (9::[7,8,10,11,12,13,14,15,16,17,18,19,20,21,22,23,24,25,26,27,28,29,30,31,32,33]) (λk=>[(7,.one (.own 9)),(8,vI .i64 (k:Int))]) (λk=>[(9,.row 275 9 (((b.entries.take k).filter λe=>aJ e.index lo hi).map aO.ds)),(3,.cells 38 (b.ds.map .d))]) (λk=>b.entries.length-k) 0 ac ?_ sbW (λk hk=>?_)<;>(conv=>whnf)
  · exact whd
  · have hfl:((b.entries.take k).filter λe=>aJ e.index lo hi).length<=b.entries.length:=Tm;repeat'((first|refine awz ?_|refine aaO ari (λhlt=>?_)|refine aaH ari ari ?_|refine cP (aQ _ _ _) ?_|refine a7 az ?_|refine tB ?_ ?_|intro h)<;>conv=>whnf)
    all_goals first
      | (refine a8.mk ⟨k + 1, ari, ari, ?_, aaC (congrArg some (congrArg (AO.row 275 9) (by rw [Tn ari aj]; simp only [List.map_append, List.map_cons, List.map_nil]; rfl))) sbW⟩
         exact hds)
      | (refine a8.mk ⟨k + 1, ari, ari, ?_, aaC (congrArg some (congrArg (AO.row 275 9) (by rw [UX ari aj]))) sbW⟩
         exact hds)
      | (have hkk : k = b.entries.length := ari
         subst hkk;simp only[List.take_length,ld])
theorem Wy{l:List fE}(hl:P.length=l.length)(hk:k<P.length)(h:(l[k]'(ac) !=cU P[k])=true):decide (l=P.map cU)=false:=decide_eq_false λe=>by
  subst e;simp at h
theorem UL{l:List fE}(hl:P.length=l.length)(h:∀(j:Nat) (h1:j<P.length),l[j]'(ac)=cU P[j]):decide (l=P.map cU)=true:=decide_eq_true (List.ext_getElem (by simp[hl]) λj h1 h2=>by
  simp at h2;rw[h j h2];simp)
theorem Us{l:List fE}{hl:P.length=l.length}(h:∀(j:Nat) (hj:j<k) (h1:j<P.length),l[j]'(ac)=cU P[j]){h1:k<P.length}(hk:l[k]'(ac)=cU P[k]):∀(j:Nat) (hj:j<k+1) (h1:j<P.length),l[j]'(ac)=cU P[j]:=λj hj h1=>by
  rcases Nat.lt_succ_iff_lt_or_eq.1 hj with h2|h2
  · exact h j h2 h1
  · subst h2;exact hk
theorem Gf(n:aS)(hb:bN n.book=true)(hd:n.book.base<=n.durable/\n.durable<=bg n.book)(ho:n.owe.length<=9223372036854775806):aN av 234 [.agg n.ds] (rB (decide (n.owe=(dP n.book n.durable).map cU))):=by
  have hp:=fb hb;have hq:=gx hb;have h20:=hp.2.2.1;rw[<-OB hb];have hlen:(ld n.book (n.durable+1) 2000).length<=20:=Nat.le_trans (List.length_filter_le ..) h20;refine pO func234 call234 ntmps234 results234 λS=>?_;conv=>whnf
  repeat'((first|refine awz ?_|refine aaH ac ac ?_|refine cP (oh n.book _ _ h20) ?_|refine tB ?_ ?_|intro h)<;>conv=>whnf)
  · have hne:(ld n.book (n.durable+1) 2000).length≠n.owe.length:=an;rw[decide_eq_false λe=>hne (by rw[e,List.length_map])]
  · have hln:(ld n.book (n.durable+1) 2000).length=n.owe.length:=an;clear h;refine aaK (λk:Nat=>k<=(ld n.book (n.durable+1) 2000).length/\∀(j:Nat) (hj:j<k) (h1:j<(ld n.book (n.durable+1) 2000).length),n.owe[j]'(ac)=cU (ld n.book (n.durable+1) 2000)[j]) (2::4::rg 17 17) (λk=>[(4,vI .i64 (k:Int))]) (λ_=>[(1,.cells 41 (n.ds.map .d))]) (λk=>(ld n.book (n.durable+1) 2000).length-k) 0 ⟨ac,ac⟩ ?_ sbW (λk hR=>?_)<;>(conv=>whnf)
    · exact whd
    · obtain⟨hk,hall⟩:=hR;repeat'((first|refine awz ?_|refine aaJ aM 7 10 tH tX ae ae ae rfl ?_|refine aaO ari (λhlt=>?_)|refine aaH ari ari ?_|refine cP (FP _) ?_|refine aaW (Bv _ _) rfl rfl rfl rfl rfl ?_|refine tB ?_ ?_|intro h)<;>conv=>whnf)
      all_goals first
        |(rw[Wy hln (k:=k) ari (by first|(simpa using h)|(exfalso;assumption))];done)
        | (refine a8.mk ⟨k + 1, ⟨ari, Us (hl := hln) (h1 := ari) hall (by simpa using h)⟩, ari, ?_, sbW⟩
           exact hds)
        | (have hkk : k = (ld n.book (n.durable + 1) 2000).length := ari
           rw[UL hln λj h1=>hall j ac h1])
theorem Ds{a b:bH}:a=b↔(a.num=b.num/\a.base=b.base/\a.time=b.time/\a.seen=b.seen):=by
  cases a;cases b;simp[bH.mk.injEq]
theorem kF(a b:bH)(ha:a.seen.length<=9223372036854775806):aN av 213 [.agg a.ds,.agg b.ds] (rB (decide (a=b))):=by
  refine pO func213 call213 ntmps213 results213 λS=>?_;conv=>whnf
  repeat'((first|refine awz ?_|refine cP (hG a.seen b.seen ha) ?_|refine tB ?_ ?_|intro h)<;>conv=>whnf)
  all_goals
    refine bE ?_;rw[Bool.eq_iff_iff];simp only[decide_eq_true_iff,Ds];simp_all
theorem lq(a b:bH)(ha:a.seen.length<=9223372036854775806):aN av 235 [.agg a.ds,.agg b.ds] (rB (decide (a=b))):=by
  refine pO func235 call235 ntmps235 results235 λS=>?_;conv=>whnf
  repeat'((first|refine awz ?_|refine cP (oS a.seen b.seen ha) ?_|refine tB ?_ ?_|intro h)<;>conv=>whnf)
  all_goals
    refine bE ?_;rw[Bool.eq_iff_iff];simp only[decide_eq_true_iff,Ds];simp_all
theorem PX{a:bn}:a=b↔(a.base=b.base/\a.time=b.time/\a.entries=b.entries):=by
  cases a;cases b;simp[bn.mk.injEq]
theorem Cg(a b:bn)(ha:a.entries.length<=9223372036854775806):aN av 214 [.agg a.ds,.agg b.ds] (rB (decide (a=b))):=by
  refine pO func214 call214 ntmps214 results214 λS=>?_;conv=>whnf
  repeat'((first|refine awz ?_|refine cP (C3 a.entries b.entries ha) ?_|refine tB ?_ ?_|intro h)<;>conv=>whnf)
  all_goals
    refine bE ?_;rw[Bool.eq_iff_iff];simp only[decide_eq_true_iff,PX];simp_all
theorem lr(a:bH):aN av 238 [.agg a.ds] (rB (decide (a=fw))):=by
  refine pO func238 call238 ntmps238 results238 λS=>?_;conv=>whnf
  repeat'(first|refine awz ?_|refine tB ?_ ?_|(intro h;conv=>whnf))
  all_goals
    refine bE ?_;rw[Bool.eq_iff_iff];simp only[decide_eq_true_iff,Ds];simp_all[fw]
theorem UT{a b:bD}:a=b↔(a.kept=b.kept/\a.wait=b.wait):=by
  cases a;cases b;simp[bD.mk.injEq]
theorem oI(a b:bD)(h1:a.kept.length<=9223372036854775806)(h2:∀y∈a.kept,y.length<=9223372036854775806)(h3:a.wait.length<=9223372036854775806)(h4:∀y∈a.wait,y.row.length<=9223372036854775806):aN av 212 [.agg a.ds,.agg b.ds] (rB (decide (a=b))):=by
  refine pO func212 call212 ntmps212 results212 λS=>?_;conv=>whnf
  repeat'((first|refine awz ?_|refine cP (Gp a.kept b.kept h1 h2) ?_|refine cP (AN a.wait b.wait h3 h4) ?_|refine tB ?_ ?_|intro h)<;>conv=>whnf)
  all_goals
    refine bE ?_;rw[Bool.eq_iff_iff];simp only[decide_eq_true_iff,UT];simp_all
end
section
open Go.Proofs.Tryz
open Go.ChangeShapes Go.WideShapes Go.RowKit
variable {α:Type}{n:aS}
def tI:List (List Nat):=bC [0,1,129,12354,0,0,6,0,29064,0x40810c5248187,0,0xb2871882450c1084]
def tY:List (List Nat):=dW 11 [137700,137701,137704,137713,137618,122714,122957,120284,121499,127939,59048]
def tq:List (List Nat):=bC [0,1,2,0,4,0,6,7,8,0,41541,45763,12,13,13,0x38d30b289207185103081,0xe34c2ca2481c61440c204c390]
def xD:List (List Nat):=bC [0,1,129,12354,12354,1318979,4328796549,486506500228,0xc1088106147,0x91c5184202043,0x2830422041851c9,0xb2471461080810ca,0x2830422041851c9,0xd2471461080810ca,0x38a0c108810614724d,0x2830422041851c9,0x102471461080810ca,0x44a0c1088106147250,0x30a0c108810614724b3cd392411,0x1345048e34f2c91c518420204328c,0x2830422041851c950c2cf34e490453,0x154d141238d3cb3142471461080810ca,0x58a0c108810614725430b3cd3924114d5,0x1755345048e34f2cc5091c5184202043296,0x6162830422041851c950c2cf34e490453557,0x162830422041851c950c2cf34e4904535595d8]
def mQ:List (List Nat):=dW 18 [0,1,4,661,67,148,364,1093,3280,9841,386918572,386977621,373573498,374104939,375699262,14319382,28668289,71715010]
def xE:List (List Nat):=bC [0,1,129,0,4,324,24837,0,8,848968016749128,0x2882461051c2043,0xb0c108714418920a,0x30a2091841470810cb,0xb0c108714418920a,0xb0c108714418920a,0x3ca2091841470810cb,0x102c30421c510624828f,0xe2882461051c20432d13d0,0x34b0c108714418920a31240f44e,0xb0c108714418920a4ce44f41230d,0x50d31240f44e4ca2091841470810cb]
def xI:List (List Nat):=dW 18 [19656,19657,19660,17522,17549,17630,17873,2186,4373,9841,29524,385914739,386091886,125862943,4694395,9477364,23826271,65278669]
def j9(n:aS)(i:Int):bH:=⟨n.head.num+1,i,jH n.book i,(bG n.head.seen (ld n.book (n.book.base+1) i)).1⟩
theorem y3(n:aS)(i:Int)(hb:bN n.book=true)(hn:0<=n.head.num/\n.head.num<=2000)(h1:n.book.base+1<=i)(h2:i<=bg n.book):aN av 236 [.agg n.ds,.one (dI i)] (.val (.agg (j9 n i).ds)):=by
  have hp:=fb hb;have hq:=gx hb;have h20:=hp.2.2.1;refine pO func236 call236 ntmps236 results236 λS=>?_;conv=>whnf
  repeat'(first|refine awz ?_|(refine aaJ aM 1 11 tI tY ae ae ae rfl ?_;conv=>whnf)|(refine aaL aM 2 (tkc [0,1,2,3,4,5,6,7,9] (onc [8,10,11] (tkc [12,13,14,15] (.one 16 .done)))) [(2,9980)] tq ae ae ae ae (λRz=>?_);(conv=>whnf);intro bp0 up0;(conv=>whnf))|((first|refine aaH ac ac ?_|refine cP (oW n.book i hb h1 h2) ?_|refine cP (oh n.book _ _ h20) ?_|refine cP (mD n.head.seen (ld n.book (n.book.base+1) i)) ?_|fail)<;>conv=>whnf))
  all_goals rfl
theorem Vl[BEq α][LawfulBEq α][DecidableEq α](x:α×Bool)(s:α):(x==(s,true))=(x.2&&decide (x.1=s)):=by
  obtain⟨a,b⟩:=x;cases b<;>(rw[Bool.eq_iff_iff];simp[Prod.mk.injEq])
def oL(n:aS):Bool:=eC n.two&&dm n.head&&bN n.book&&n.book.base==n.head.base&&n.book.time==n.head.time
def nT(n:aS):Bool:=(bG n.head.seen n.book.entries).2&&decide ((bG n.head.seen n.book.entries).1=n.seen)&&aJ n.durable n.book.base (bg n.book)
theorem Dr[BEq α][LawfulBEq α][DecidableEq α](a b:α):(a==b)=decide (a=b):=by
  rw[Bool.eq_iff_iff];simp
theorem nS(n:aS):logOk n=(oL n&&nT n&&decide (n.owe=(dP n.book n.durable).map cU)&&fY n):=by
  simp only[logOk,oL,nT,Vl,Bool.and_assoc,Dr n.owe]
theorem J0(h:oL n=true):eC n.two=true/\dm n.head=true/\bN n.book=true/\n.book.base=n.head.base/\n.book.time=n.head.time:=by
  simp only[oL,Bool.and_eq_true,beq_iff_eq]at h;exact⟨h.1.1.1.1,h.1.1.1.2,h.1.1.2,h.1.2,h.2⟩
theorem oD{h:bH}(hh:dm h=true):(0<=h.num/\h.num<=2000)/\(0<=h.base/\h.base<=2000)/\seenOk h.seen=true:=by
  simp only[dm,Bool.and_eq_true,aJ,decide_eq_true_eq]at hh;exact⟨ac,ac,hh.1.2⟩
theorem Qo(h:oL n=false):logOk n=false:=by simp only[nS,h,Bool.false_and]
theorem w7(h:nT n=false):logOk n=false:=by simp only[nS,h,Bool.false_and,Bool.and_false]
theorem Vc(h:decide (n.owe=(dP n.book n.durable).map cU)=false):logOk n=false:=by simp only[nS,h,Bool.false_and,Bool.and_false]
theorem Vd{b:Bool}(h1:oL n=true)(h2:nT n=true)(h3:decide (n.owe=(dP n.book n.durable).map cU)=true)(h:b=fY n):b=logOk n:=by simp only[nS,h1,h2,h3,h,Bool.true_and]
theorem JP(h:(!aJ n.durable n.book.base (bg n.book))=false):n.book.base<=n.durable/\n.durable<=bg n.book:=by
  simpa[aJ]using h
theorem XF(h:(!(bG n.head.seen n.book.entries).snd)=true):nT n=false:=by
  rw[Bool.not_eq_true']at h;simp only[nT,h,Bool.false_and]
theorem XG(h:(!decide ((bG n.head.seen n.book.entries).fst=n.seen))=true):nT n=false:=by
  rw[Bool.not_eq_true']at h;simp only[nT,h,Bool.false_and,Bool.and_false]
theorem XH(h:(!aJ n.durable n.book.base (bg n.book))=true):nT n=false:=by
  rw[Bool.not_eq_true']at h;simp only[nT,h,Bool.and_false]
theorem XI(h1:(!(bG n.head.seen n.book.entries).snd)=false)(h2:(!decide ((bG n.head.seen n.book.entries).fst=n.seen))=false)(h3:(!aJ n.durable n.book.base (bg n.book))=false):nT n=true:=by
  rw[Bool.not_eq_false']at h1 h2 h3;simp only[nT,h1,h2,h3,Bool.and_self]
theorem rY{s:List aT}{l:List aO}(h:seenOk s=true):(bG s l).1.length<=4:=by
  unfold bG;simp only[h,Bool.not_true,Bool.false_eq_true,if_false];split
  · exact eO h
  · cases hf:bU s l with
    |none=>exact eO h
    |some c=>exact eO (nn h hf)
theorem Cv(h:(!n.more)=true):decide (n.nxt=fw)=fY n:=by
  rw[Bool.not_eq_true']at h;simp only[fY,h,Bool.false_eq_true,if_false,Dr n.nxt]
theorem Cu(hb:bN n.book=true):j9 n n.nxt.base=fV n:=by
  simp only[j9,fV,Qw hb,jH,EI]
theorem xa(hm:(!n.more)=false):fY n=(aJ n.nxt.base (n.head.base+1) n.durable&&decide (n.nxt=fV n)):=by
  rw[Bool.not_eq_false']at hm;simp only[fY,hm,if_true,Dr n.nxt]
theorem Qs(hbb:n.book.base=n.head.base)(h:aJ n.nxt.base (n.head.base+1) n.durable=true):n.book.base+1<=n.nxt.base:=by
  simp only[aJ,Bool.and_eq_true,decide_eq_true_eq]at h;omega
theorem Qr(h3:(!aJ n.durable n.book.base (bg n.book))=false)(h:aJ n.nxt.base (n.head.base+1) n.durable=true):n.nxt.base<=bg n.book:=by
  have:=JP h3;simp only[aJ,Bool.and_eq_true,decide_eq_true_eq]at h;omega
theorem n9(n:aS)(hhs:n.head.seen.length<=9223372036854775806)(ho:n.owe.length<=9223372036854775806)(hs:n.seen.length<=9223372036854775806)(hx:n.nxt.seen.length<=9223372036854775806):aN av 151 [.agg n.ds] (rB (logOk n)):=by
  refine pO func151 call151 ntmps151 results151 λS=>?_;conv=>whnf
  repeat'((first|refine awz ?_|refine cP (iD n.two) ?_|refine cP (g8 n.head hhs) ?_|refine cP (fz n.book) ?_|refine cP (mD n.head.seen n.book.entries) ?_|refine tB ?_ ?_|intro h)<;>conv=>whnf)
  all_goals first
    | (have hno : oL n = false := by simp_all [oL]
       rw[Qo hno];done)
    |skip
  have h1:oL n=true:=by simp_all[oL]
  obtain⟨hk,hh,hb,hbb,htt⟩:=J0 h1;have hq:=oD hh;have hp:=fb hb;have hl:=gx hb;have hsv:(bG n.head.seen n.book.entries).1.length<=9223372036854775806:=Nat.le_trans (rY hq.2.2) ai;repeat'((first|refine awz ?_|refine aaJ aM 4 18 xD mQ ae ae ae rfl ?_|refine cP (oS (bG n.head.seen n.book.entries).1 n.seen hsv) ?_|refine cP (dV n.book hb) ?_|refine cP (aQ _ _ _) ?_|refine cP (Gf n hb (JP aj) ho) ?_|refine tB ?_ ?_|intro h)<;>conv=>whnf)
  all_goals first
    |(rw[w7 (XF h)];done)
    |(rw[w7 (XG h)];done)
    |(rw[w7 (XH h)];done)
    |(rw[Vc (by rwa[Bool.not_eq_true']at h)];done)
    |skip
  all_goals
    have h2:nT n=true:=XI aj aj aj;have h3:decide (n.owe=(dP n.book n.durable).map cU)=true:=by
      have:(!decide (n.owe=List.map cU (dP n.book n.durable)))=false:=aj;rwa[Bool.not_eq_false']at this
    repeat'((first|refine awz ?_|refine aaJ aM 8 18 xE xI ae ae ae rfl ?_|refine aaH ac ac ?_|refine cP (aQ _ _ _) ?_|refine cP (lq n.nxt fw hx) ?_|refine cP (y3 n n.nxt.base hb hq.1 (Qs hbb aj) (Qr aj aj)) ?_|refine cP (lq n.nxt (j9 n n.nxt.base) hx) ?_|refine tB ?_ ?_|intro h)<;>conv=>whnf)
    all_goals
      refine bE (Vd h1 h2 h3 ?_);first
        |exact Cv aj
        |(rw[xa aj,Cu hb];simp_all;done)
        |(rw[xa aj,<-Cu hb];simp_all;done)
end
section
open Go.Proofs.Tryz
open Go.ChangeShapes Go.WideShapes Go.RowKit
variable {l:List aO}{c s:List aT}{n:aS}
def tJ:List (List Nat):=bC [0,1,129,12354,1056835,1056835,101453956,7583830214,1056835,151785604,90920957393793673,0xb24a1c62040810c5,0x1020433052061ca24b]
def tZ:List (List Nat):=dW 10 [0,1,4,13,58846,52690,52933,53662,6520,13081]
def rn:List (List Nat):=bC [0,1,0,3,0,0,6,20934,4347421125,567971962978500,0x2840c8187149042,0x2840c8187149042,0x2c20491471880c428c,0xc0812451c620310a34b]
def rx:List (List Nat):=dW 12 [19674,19675,6488,6497,2024,242,485,1133,3284,9841,383818,147622]
def xF:List (List Nat):=bC [0,1,129,12354,12354,1318979,4328796549,486506500228,0xc1088106147,0x91c5184202043,0x2830422041851c9,0xb2471461080810ca,0x2830422041851c9,0xd2471461080810ca,0x38a0c108810614724d,0x2830422041851c9,0x102471461080810ca,0x44a0c1088106147250,0x30a0c108810614724b3cd392411,0x1345048e34f2c91c518420204328c,0x2830422041851c950c2cf34e490453]
def xG:List (List Nat):=bC [0,1,129,12354,1056835,12354,1581123,12354,2105411,484274889288,90920957427880327,0x30422c718920a105,0x30510a2091872c2043]
def xJ:List (List Nat):=dW 10 [0,1,4,58819,58846,17725,17968,2173,4360,9949]
theorem Cc(h:bU s l=some c)(k:Nat):∃c',bU s (l.take k)=some c':=by
  rw[<-List.take_append_drop k l,iX]at h;cases hk:bU s (l.take k)with
  |none=>rw[hk]at h;cases h
  |some c'=>exact⟨c',rfl⟩
theorem Rk{k:Nat}(hk:k<l.length)(h:bU s (l.take (k+1))=some c):bR c=l[k].index:=by
  obtain⟨c0,h0⟩:=Cc h k;rw[List.take_take,Nat.min_eq_left ac]at h0;rw[wV hk h0]at h;unfold dt at h;split at h
  · rename_i hc;injection h with h
    subst h;simp only[Bool.and_eq_true,decide_eq_true_eq]at hc;exact Ic ac
  · cases h
theorem T6(hs:seenOk s=true)(h:(bG s l).2=true):l.length<=2000/\∃c,bU s l=some c:=by
  unfold bG at h;simp only[hs,Bool.not_true,Bool.false_eq_true,if_false]at h;split at h
  · cases h
  · rename_i hl;refine⟨ac,?_⟩;cases hf:bU s l with
    |none=>rw[hf]at h;cases h
    |some c=>exact⟨c,rfl⟩
theorem vO(hb:bN n.book=true)(hh:dm n.head=true)(hbb:n.book.base=n.head.base)(hso:(bG n.head.seen n.book.entries).2=true)(h1:n.head.base+1<=n.nxt.base)(h2:n.nxt.base<=bg n.book):dm (fV n)=true:=by
  have hq:=oD hh;have hl:=gx hb;obtain⟨hlen,c,hc⟩:=T6 hq.2.2 hso;obtain⟨k,hk⟩:∃k:Nat,n.nxt.base=n.book.base+1+k:=⟨(n.nxt.base-n.book.base-1).toNat,ac⟩;have hkl:k<n.book.entries.length:=by unfold bg at h2;omega
  obtain⟨c',hc'⟩:=Cc hc (k+1);have e1:(n.nxt.base-n.book.base).toNat=k+1:=ac;have e2:(n.nxt.base-n.book.base-1).toNat=k:=ac;have hov:bG n.head.seen (mr n.book n.nxt.base)=(c',true):=by
    unfold mr;rw[e1];exact jl hq.2.2 al hc'
  have hlast:=Rk hkl hc';have hidx:=rc hb k hkl;have hent:=yD hb hkl;have ht:tOk n.book.entries[k].time=true:=by
    simp only[bL,Bool.and_eq_true]at hent;simpa[tOk]using hent.1.1.1.2
  have hnum:n.head.num<=n.head.base:=by
    simp only[dm,Bool.and_eq_true,aJ,decide_eq_true_eq]at hh;omega
  have eH:fV n=⟨n.head.num+1,n.nxt.base,n.book.entries[k].time,c'⟩:=by
    simp only[fV,hov,e2,List.getD_eq_getElem?_getD,List.getElem?_eq_getElem hkl,Option.getD_some]
  have hcs:=nn hq.2.2 hc';rw[eH];simp only[dm,Bool.and_eq_true,aJ,decide_eq_true_eq,Bool.or_eq_true,beq_iff_eq];exact⟨⟨⟨⟨⟨⟨ac,ac⟩,ac,ac⟩,ht⟩,.inl ac⟩,hcs⟩,ac⟩
def Lh(b:bn)(i:Int):aO:=b.entries.getD (i-b.base-1).toNat EI
theorem VY{x lo hi:Int}(h1:lo<=x)(h2:x<=hi):aJ x lo hi=true:=by simp[aJ,h1,h2]
theorem EQ(b:bn)(i:Int)(hb:bN b=true)(h1:b.base+1<=i)(h2:i<=bg b):aN av 298 [.agg b.ds,.one (dI i)] (.tup [.agg (Lh b i).ds,.one (dB true)]):=by
  have hp:=fb hb;have hq:=gx hb;have hbt:(!aJ i (b.base+1) (bg b))=false:=by rw[VY h1 h2];rfl
  have hbn:(!bN b)=false:=by rw[hb];rfl
  obtain⟨k,hk⟩:∃k:Nat,i-b.base-1=k:=⟨(i-b.base-1).toNat,ac⟩;have hkl:k<b.entries.length:=by unfold bg at h2;omega
  refine pO func298 call298 ntmps298 results298 λS=>?_;conv=>whnf
  repeat'((first|refine awz ?_|refine aaJ aM 1 10 tJ tZ ae ae ae rfl ?_|refine aaH ac ac ?_|refine aaG k (aO.ds (b.entries[k]'hkl)) hk (by simp[hkl]) ?_|refine cP (wX b) ?_|refine cP (nr b hb) ?_|refine cP (ba _ _ _) ?_|fail)<;>conv=>whnf)
  have e:Lh b i=b.entries[k]'hkl:=by
    have e2:(i-b.base-1).toNat=k:=ac;simp only[Lh,e2,List.getD_eq_getElem?_getD,List.getElem?_eq_getElem hkl,Option.getD_some]
  rw[e];rfl
theorem Co(h:bH)(b:bn)(i:Int)(hs:h.seen.length<=9223372036854775806)(h0:(0<=b.base/\b.base<=2000)/\b.entries.length<=20)(h1:b.base<=i)(h2:i<=bg b):aN av 299 [.agg h.ds,.agg b.ds,.one (dI i)] (CD (bG h.seen (mr b i))):=by
  obtain⟨k,hk⟩:∃k:Nat,i-b.base=k:=⟨(i-b.base).toNat,ac⟩;have hkl:k<=b.entries.length:=by unfold bg at h2;omega
  have hlb:bg b<=3000:=by unfold bg;omega
  have hx:List.drop 0 (List.take k (b.entries.map aO.ds))=(mr b i).map aO.ds:=by
    have e2:(i-b.base).toNat=k:=ac;simp only[List.drop_zero,mr,e2,List.map_take]
  refine pO func299 call299 ntmps299 results299 λS=>?_;conv=>whnf
  repeat'(first|refine awz ?_|((first|refine aaJ aM 1 12 rn rx ae ae ae rfl ?_|refine aaH ac ac ?_|refine⟨0,k,rfl,hk,Nat.zero_le _,(by simpa using hkl),?_⟩|fail)<;>conv=>whnf)|(refine aW (λx hx=>by obtain⟨y,_,rfl⟩:=List.mem_map.1 hx;rfl) ?_;conv=>whnf;rw[hx])|(refine cP (oF h.seen (mr b i) hs) ?_;conv=>whnf)|exact rr|fail)
theorem xb(hm:(!n.more)=false)(hb:bN n.book=true)(hh:dm n.head=true)(hbb:n.book.base=n.head.base)(hd:n.book.base<=n.durable/\n.durable<=bg n.book)(hso:(bG n.head.seen n.book.entries).2=true)
    (h:dm n.nxt=false\/n.nxt.num≠n.head.num+1\/n.nxt.base<=n.head.base\/n.durable<n.nxt.base):fY n=false:=by
  rw[xa hm,<-Bool.not_eq_true];simp only[Bool.and_eq_true,aJ,decide_eq_true_eq];rintro⟨⟨h1,h2⟩,h3⟩;rcases h with h|h|h|h
  · have:=vO hb hh hbb hso h1 ac;rw[<-h3,h]at this;cases this
  · exact h (congrArg bH.num h3)
  · omega
  · omega
theorem Oq(hm:(!n.more)=false)(h1:n.nxt.num=n.head.num+1)(h2:¬n.nxt.base<=n.head.base)(h3:¬n.nxt.base>n.durable):fY n=((n.nxt.time==(Lh n.book n.nxt.base).time)&&decide (n.nxt.seen=(bG n.head.seen (mr n.book n.nxt.base)).1)):=by
  have hbt:aJ n.nxt.base (n.head.base+1) n.durable=true:=VY ac ac;rw[xa hm,hbt,Bool.true_and,Bool.eq_iff_iff];simp only[decide_eq_true_eq,Bool.and_eq_true,beq_iff_eq,Ds,fV,Lh,EI,h1,true_and]
theorem H7(n:aS)(hb:bN n.book=true)(hh:dm n.head=true)(hbb:n.book.base=n.head.base)(hd:n.book.base<=n.durable/\n.durable<=bg n.book)(hso:(bG n.head.seen n.book.entries).2=true)(hhs:n.head.seen.length<=9223372036854775806)(hx:n.nxt.seen.length<=9223372036854775806):aN av 209 [.agg n.ds] (rB (fY n)):=by
  have hq:=oD hh;have hp:=fb hb;have hl:=gx hb;refine pO func209 call209 ntmps209 results209 λS=>?_;conv=>whnf
  repeat'((first|refine awz ?_|refine aaH ac ac ?_|refine cP (kF n.nxt fw hx) ?_|refine cP (wY n.nxt hx) ?_|refine tB ?_ ?_|intro h)<;>conv=>whnf)
  · exact congrArg rB (Cv h)
  all_goals first
    |(rw[xb aj hb hh hbb hd hso (.inl (by simpa using h))];done)
    |(rw[xb aj hb hh hbb hd hso (.inr (.inl (by simpa using h)))];done)
    |(rw[xb aj hb hh hbb hd hso (.inr (.inr (.inl (by simpa using h))))];done)
    |(rw[xb aj hb hh hbb hd hso (.inr (.inr (.inr (by simpa using h))))];done)
    |skip
  have hm:(!n.more)=false:=aj;have g1:n.nxt.num=n.head.num+1:=by
    have:(n.nxt.num !=n.head.num+1)=false:=aj;simpa using this
  have g2:¬n.nxt.base<=n.head.base:=by
    have:decide (n.nxt.base<=n.head.base)=false:=aj;simpa using this
  have g3:¬n.nxt.base>n.durable:=by simpa using h
  repeat'((first|refine awz ?_|refine cP (EQ n.book n.nxt.base hb ac ac) ?_|refine cP (Co n.head n.book n.nxt.base hhs ⟨hp.1,hp.2.2.1⟩ ac ac) ?_|refine cP (hG n.nxt.seen (bG n.head.seen (mr n.book n.nxt.base)).1 hx) ?_|refine tB ?_ ?_|intro h)<;>conv=>whnf)
  all_goals
    refine bE ?_;rw[Oq hm g1 g2 g3];simp_all
theorem W5{a b:di}:a=b↔(a.a=b.a/\a.b=b.b):=by
  cases a;cases b;simp[di.mk.injEq]
theorem TQ{a b:aS}:a=b↔(a.two.a=b.two.a/\a.two.b=b.two.b/\a.head=b.head/\a.nxt=b.nxt/\a.more=b.more/\a.book=b.book/\a.seen=b.seen/\a.durable=b.durable/\a.owe=b.owe):=by
  cases a;cases b;simp[aS.mk.injEq,W5,and_assoc]
structure uh (n:aS):Prop where
  a1:n.two.a.kept.length<=9223372036854775806
  a2:∀y∈n.two.a.kept,y.length<=9223372036854775806
  a3:n.two.a.wait.length<=9223372036854775806
  a4:∀y∈n.two.a.wait,y.row.length<=9223372036854775806
  b1:n.two.b.kept.length<=9223372036854775806
  b2:∀y∈n.two.b.kept,y.length<=9223372036854775806
  b3:n.two.b.wait.length<=9223372036854775806
  b4:∀y∈n.two.b.wait,y.row.length<=9223372036854775806
  head:n.head.seen.length<=9223372036854775806
  nxt:n.nxt.seen.length<=9223372036854775806
  book:n.book.entries.length<=9223372036854775806
  seen:n.seen.length<=9223372036854775806
  owe:n.owe.length<=9223372036854775806
theorem ET(a b:aS)(hs:uh a):aN av 139 [.agg a.ds,.agg b.ds] (rB (decide (a=b))):=by
  refine pO func139 call139 ntmps139 results139 λS=>?_;conv=>whnf
  repeat'((first|refine awz ?_|refine cP (oI a.two.a b.two.a hs.a1 hs.a2 hs.a3 hs.a4) ?_|refine cP (oI a.two.b b.two.b hs.b1 hs.b2 hs.b3 hs.b4) ?_|refine cP (kF a.head b.head hs.head) ?_|refine cP (kF a.nxt b.nxt hs.nxt) ?_|refine cP (Cg a.book b.book hs.book) ?_|refine cP (hG a.seen b.seen hs.seen) ?_|refine cP (xj a.owe b.owe hs.owe) ?_|refine tB ?_ ?_|intro h)<;>conv=>whnf)
  all_goals
    refine bE ?_;rw[Bool.eq_iff_iff];simp only[decide_eq_true_iff,TQ];simp_all
def SN:Prop:=∀(b:bn) (d:Int),bN b=true->b.base<=d->d<=bg b->aN av 211 [.agg b.ds,.one (dI d)] (.val (.one (.sl (((dP b d).map cU).map fE.ds))))
theorem LB(how:SN)(n:aS)(hs:uh n):aN av 137 [.agg n.ds] (rB (logOk n)):=by
  refine pO func137 call137 ntmps137 results137 λS=>?_;conv=>whnf
  repeat'((first|refine awz ?_|refine cP (H0 n.two) ?_|refine cP (wY n.head hs.head) ?_|refine cP (wX n.book) ?_|refine cP (oF n.head.seen n.book.entries hs.head) ?_|refine tB ?_ ?_|intro h)<;>conv=>whnf)
  all_goals first
    | (have hno : oL n = false := by simp_all [oL]
       rw[Qo hno];done)
    |skip
  have h1:oL n=true:=by simp_all[oL]
  obtain⟨hk,hh,hb,hbb,htt⟩:=J0 h1;have hq:=oD hh;have hp:=fb hb;have hl:=gx hb;have hsv:(bG n.head.seen n.book.entries).1.length<=9223372036854775806:=Nat.le_trans (rY hq.2.2) ai;repeat'((first|refine awz ?_|refine aaJ aM 4 18 xF mQ ae ae ae rfl ?_|refine cP (hG (bG n.head.seen n.book.entries).1 n.seen hsv) ?_|refine cP (nr n.book hb) ?_|refine cP (ba _ _ _) ?_|refine tB ?_ ?_|intro h)<;>conv=>whnf)
  all_goals first
    |(rw[w7 (XF h)];done)
    |(rw[w7 (XG h)];done)
    |(rw[w7 (XH h)];done)
    |skip
  have h2:nT n=true:=XI aj aj aj;have hd:=JP h;have hso:(bG n.head.seen n.book.entries).2=true:=by
    have:(!(bG n.head.seen n.book.entries).snd)=false:=aj;rwa[Bool.not_eq_false']at this
  repeat'((first|refine awz ?_|refine aaJ aM 6 10 xG xJ ae ae ae rfl ?_|refine cP (H7 n hb hh hbb hd hso hs.head hs.nxt) ?_|refine cP (how n.book n.durable hb hd.1 hd.2) ?_|refine cP (xj n.owe ((dP n.book n.durable).map cU) hs.owe) ?_|refine tB ?_ ?_|intro h)<;>conv=>whnf)
  all_goals
    refine bE ?_;simp only[nS,h1,h2,Bool.true_and];simp_all
end
section
open Go.ChangeShapes Go.WideShapes Go.RowKit
variable {a:Int}{k0:List (List Int)}{r:List Int}{s:List aT}{e:aO}{h:bH}{b:bn}{t:di}
def opL(o:DOp):List Int:=[o.kind,o.a,o.b,o.c,o.d]
def yG(e:aO):List Int:=[e.index,e.time,e.client,e.seq]++opL e.op
def fP(e:aO):List Int:=if bL e then yG e++[e.index,e.index]else []
def iy(r:List Int):Option aO:=match r with
 |[i,t,c,s,k,a,b,x,d]=>if bL ⟨i,t,c,s,⟨k,a,b,x,d⟩⟩then some ⟨i,t,c,s,⟨k,a,b,x,d⟩⟩else none
 |_=>none
def jo(r:List Int):Option aO:=match r with
 |[i,t,c,s,k,a,b,x,d,y,z]=>if bL ⟨i,t,c,s,⟨k,a,b,x,d⟩⟩&&y==i&&z==i then some ⟨i,t,c,s,⟨k,a,b,x,d⟩⟩else none
 |_=>none
theorem FM(h:jo r=some e):bL e=true:=by
 unfold jo at h;split at h
 ·split at h
  ·rename_i hc;injection h with h
   subst h;simp only[and_eq_true]at hc;exact hc.1.1
  ·cases h
 ·cases h
theorem fI(h:bL e=true):(1<=e.index/\e.index<=2000)/\(0<=e.time/\e.time<=1000000)/\(2<=e.client/\e.client<=5)/\(1<=e.seq/\e.seq<=2000)/\m9 e.op=true:=by
 simp only[bL,aJ,and_eq_true,decide_eq_true_eq]at h;exact⟨h.1.1.1.1,h.1.1.1.2,h.1.1.2,h.1.2,h.2⟩
theorem T4{o:DOp}(h:m9 o=true):∀x∈opL o,0<=x/\x<=1000000000:=by
 have hk:o.kind=1\/o.kind=2\/o.kind=3\/o.kind=4\/o.kind=5:=by
  by_cases h1:o.kind=1; · exact .inl h1
  by_cases h2:o.kind=2; · exact .inr (.inl h2)
  by_cases h3:o.kind=3; · exact .inr (.inr (.inl h3))
  by_cases h4:o.kind=4; · exact .inr (.inr (.inr (.inl h4)))
  by_cases h5:o.kind=5; · exact .inr (.inr (.inr (.inr h5)))
  simp[m9,h1,h2,h3,h4,h5]at h
 intro x hx;simp only[opL,List.mem_cons,List.not_mem_nil,or_false]at hx;rcases hk with hk|hk|hk|hk|hk<;>simp[m9,hk,aJ]at h<;>omega
theorem Nf(h:bL e=true):(fP e).length=11:=by simp[fP,h,yG,opL]
theorem pt(e:aO):bQ (fP e)=true/\(fP e).length<48:=by
 cases h:bL e with
 |false=>simp[fP,h,bQ]
 |true=>
  have hl:=Nf h;refine⟨qw ⟨ac,λx hx=>?_⟩,ac⟩;obtain⟨h1,h2,h3,h4,h5⟩:=fI h;have ho:=T4 h5;simp only[fP,h,if_true,yG,List.mem_append,List.mem_cons,List.not_mem_nil,or_false]at hx;rcases hx with(hx|hx)|hx
  ·omega
  ·exact ho x hx
  ·omega
def iq(i:Int):Int:=2+i % 20
theorem sC(i:Int):2<=iq i/\iq i<=21:=by unfold iq;omega
def fX(h:bH):List Int:=if dm h then [h.num,h.base,h.time,(bI h.seen 2).seq,(bI h.seen 2).index,(bI h.seen 3).seq,(bI h.seen 3).index,(bI h.seen 4).seq,(bI h.seen 4).index,(bI h.seen 5).seq,(bI h.seen 5).index,h.num,h.num]else []
def g7(c s i:Int):List aT:=if s !=0||i !=0 then [⟨c,s,i⟩]else []
def jW(r:List Int):Option bH:=match r with
 |[n,b,t,s2,i2,s3,i3,s4,i4,s5,i5,x,y]=>
  let h:bH:=⟨n,b,t,g7 2 s2 i2++g7 3 s3 i3++g7 4 s4 i4++g7 5 s5 i5⟩
  if dm h&&x==n&&y==n then some h else none
 |_=>none
theorem FK(e:jW r=some h):dm h=true:=by
 unfold jW at e;split at e
 ·simp only at e;split at e
  ·rename_i hc;injection e with e
   subst e;simp only[and_eq_true]at hc;exact hc.1.1
  ·cases e
 ·cases e
theorem cI(e:dm h=true):(0<=h.base/\h.base<=2000)/\(0<=h.num/\h.num<=h.base)/\(0<=h.time/\h.time<=1000000)/\(0<h.base\/h.time=0)/\seenOk h.seen=true/\bR h.seen=h.base:=by
 simp only[dm,tOk,aJ,and_eq_true,Bool.or_eq_true,decide_eq_true_eq,beq_iff_eq]at e;exact⟨e.1.1.1.1.1,e.1.1.1.1.2,e.1.1.1.2,e.1.1.2,e.1.2,e.2⟩
theorem rO(h:seenOk s=true)(c:Int):(0<=(bI s c).seq/\(bI s c).seq<=2000)/\0<=(bI s c).index/\(bI s c).index<=2000:=by
 unfold bI;cases e:s.find? (λm=>m.client==c)with
 |none=>simp
 |some m=>
  have hm:=List.mem_of_find?_eq_some e;simp only[seenOk,and_eq_true,List.all_eq_true]at h;have:=h.1.1 m hm;simp only[fq,aJ,and_eq_true,decide_eq_true_eq]at this;simp only[Option.getD_some];omega
theorem pn(h:bH):bQ (fX h)=true/\(fX h).length<48:=by
 cases e:dm h with
 |false=>simp[fX,e,bQ]
 |true=>
  obtain⟨h1,h2,h3,h4,h5,h6⟩:=cI e;have m2:=rO h5 2;have m3:=rO h5 3;have m4:=rO h5 4;have m5:=rO h5 5;refine⟨qw ⟨by simp[fX,e],λx hx=>?_⟩,by simp[fX,e]⟩;simp only[fX,e,if_true,List.mem_cons,List.not_mem_nil,or_false]at hx;omega
def Fc(b:Option bH)(h:bH):Bool:=match b with
 |some x=>decide (x.num<h.num)
 |none=>true
def dE(a:Int)(b:Option bH)(r:List Int):Option bH:=match jW r with
 |some h=>if h.num % 2==a&&Fc b h then some h else b
 |none=>b
def rz(t:di):Option bH:=(iP t 1).foldl (dE 1) ((iP t 0).foldl (dE 0) none)
theorem Lx{b:Option bH}(h:∀x,b=some x->dm x=true):∀x,dE a b r=some x->dm x=true:=by
 intro x hx;unfold dE at hx;split at hx
 ·rename_i y hy;have hy':=FK hy;by_cases hc:(y.num % 2==a&&Fc b y)=true
  ·rw[if_pos hc]at hx;injection hx with hx;subst hx;exact hy'
  ·rw[if_neg hc]at hx;exact h x hx
 ·exact h x hx
theorem vw:∀{l:List (List Int)} {b:Option bH},(∀x,b=some x->dm x=true)->∀x,l.foldl (dE a) b=some x->dm x=true
 |[],_,h=>h
 |r::l,b,h=>vw (l:=l) (b:=dE a b r) (Lx h)
theorem Bp(e:rz t=some h):dm h=true:=
 vw (vw (λx hx=>by cases hx)) h e
def iR(b:bn):Int:=match b.entries.getLast? with|some e=>e.time|none=>b.time
def nK(b:bn)(e:aO):Bool:=bL e&&e.index==bg b+1&&decide (iR b<=e.time)&&decide (b.entries.length<20)
def o4(b:bn)(e:aO):bn:=⟨b.base,b.time,b.entries++[e]⟩
theorem bY(h:bN b=true):(0<=b.base/\b.base<=2000)/\(0<=b.time/\b.time<=1000000)/\(b.base=0->b.time=0)/\b.entries.length<=20/\dK b.entries=true/\(∀e,b.entries[0]? =some e->e.index=b.base+1/\b.time<=e.time):=by
 simp only[bN,tOk,aJ,and_eq_true,decide_eq_true_eq,Bool.not_eq_true',Bool.and_eq_false_iff,beq_eq_false_iff_ne,bne_eq_false_iff_eq]at h;refine⟨h.1.1.1.1.1,h.1.1.1.1.2,λe=>?_,h.1.1.2,h.1.2,λe he=>?_⟩
 ·rcases h.1.1.1.2 with h|h
  ·exact absurd e h
  ·exact h
 ·have h2:=h.2;cases hb:b.entries with
  |nil=>rw[hb]at he;cases he
  |cons x r=>
   rw[hb]at he h2;injection he with he
   subst he;simpa using h2
theorem Bk(h:(0<=b.base/\b.base<=2000)/\(0<=b.time/\b.time<=1000000)/\(b.base=0->b.time=0)/\b.entries.length<=20/\dK b.entries=true/\(∀e,b.entries[0]? =some e->e.index=b.base+1/\b.time<=e.time)):bN b=true:=by
 simp only[bN,tOk,aJ,and_eq_true,decide_eq_true_eq,Bool.not_eq_true',Bool.and_eq_false_iff,beq_eq_false_iff_ne,bne_eq_false_iff_eq];refine⟨⟨⟨⟨⟨h.1,h.2.1⟩,?_⟩,h.2.2.2.1⟩,h.2.2.2.2.1⟩,?_⟩
 ·by_cases e:b.base=0
  ·exact .inr (h.2.2.1 e)
  ·exact .inl e
 ·cases hb:b.entries with
  |nil=>rfl
  |cons x r=>
   have:=h.2.2.2.2.2 x (by rw[hb];rfl);simpa using this
theorem gy{l:List aO}(h:dK l=true):l.length<=2000/\(∀e∈l,bL e=true)/\hE lK l=true:=by
 simp only[dK,and_eq_true,decide_eq_true_eq,List.all_eq_true]at h;exact⟨h.1.1,h.1.2,h.2⟩
theorem HI{α:Type}{Q:α->α->Bool}:∀{l:List α} {x:α},hE Q l=true->(∀y,l.getLast? =some y->Q y x=true)->hE Q (l++[x])=true
 |[],_,_,_=>rfl
 |[y],x,_,h=>by simp[hE,h y rfl]
 |y::z::r,x,h,hl=>by
  simp only[hE,and_eq_true,List.cons_append]at h⊢;refine⟨h.1,HI (l:=z::r) h.2 λw hw=>hl w ?_⟩;rw[List.getLast?_cons_cons];exact hw
theorem EB(h:bN b=true):∀(k:Nat) (hk:k<b.entries.length),b.entries[k].index=b.base+1+k:=by
 obtain⟨h1,h2,h3,h4,h5,h6⟩:=bY h;obtain⟨e1,e2,e3⟩:=gy h5;intro k;induction k with
 |zero=>intro hk;have:=(h6 b.entries[0] (List.getElem?_eq_getElem hk)).1;omega
 |succ k ih=>
  intro hk;have:=jK e3 hk;simp only[lK,and_eq_true,beq_iff_eq,decide_eq_true_eq]at this;have:=ih ac;omega
theorem EC(h:bN b=true)(he:b.entries.getLast? =some e):e.index=bg b:=by
 rw[List.getLast?_eq_getElem?]at he;obtain⟨hlt,hg⟩:=List.getElem?_eq_some_iff.1 he;have:=EB h _ hlt;rw[hg]at this;unfold bg;omega
theorem ED(h:bN b=true)(hf:nK b e=true):bN (o4 b e)=true:=by
 obtain⟨h1,h2,h3,h4,h5,h6⟩:=bY h;obtain⟨e1,e2,e3⟩:=gy h5;simp only[nK,and_eq_true,decide_eq_true_eq,beq_iff_eq]at hf;obtain⟨⟨⟨f1,f2⟩,f3⟩,f4⟩:=hf;refine Bk ⟨h1,h2,h3,by simp[o4];omega,?_,λx hx=>?_⟩
 ·simp only[dK,o4,and_eq_true,decide_eq_true_eq,List.all_eq_true];refine⟨⟨by simp;omega,λx hx=>?_⟩,HI e3 λy hy=>?_⟩
  ·rcases List.mem_append.1 hx with hx|hx
   ·exact e2 x hx
   ·rw[List.mem_singleton.1 hx];exact f1
  ·have:=EC h hy;simp only[lK,and_eq_true,beq_iff_eq,decide_eq_true_eq];unfold iR at f3;rw[hy]at f3;exact⟨ac,f3⟩
 ·simp only[o4]at hx⊢;cases hb:b.entries with
  |nil=>
   rw[hb]at hx;injection hx with hx
   subst hx;simp only[iR,bg,hb,List.getLast?_nil,List.length_nil]at f3 f2;exact⟨ac,f3⟩
  |cons y r=>
   rw[hb]at hx;exact h6 x (by rw[hb];simpa using hx)
theorem Rw(b:bn)(e:aO):bg (o4 b e)=bg b+1:=by simp[bg,o4];omega
def ka(t:di)(b:bn)(s:List aT)(r:List Int):Option aO:=match jo r with
 |some e=>if e.index==bg b+1&&nK b e&&(dt s e).isSome then some e else none
 |none=>none
def vN(t:di)(b:bn)(s:List aT):Option aO:=(iP t (iq (bg b+1))).findSome? (ka t b s)
theorem rT(h:vN t b s=some e):bL e=true/\e.index=bg b+1/\nK b e=true/\dt s e=some (putMark s e.mark):=by
 obtain⟨r,_,hr⟩:=List.exists_of_findSome?_eq_some h;unfold ka at hr;split at hr
 ·rename_i y hy;split at hr
  ·rename_i hc;injection hr with hr
   subst hr;simp only[and_eq_true,beq_iff_eq]at hc;refine⟨FM hy,hc.1.1,hc.1.2,?_⟩;have:=hc.2;unfold dt at this⊢;split
   ·rfl
   ·rename_i hn;rw[if_neg hn]at this;cases this
  ·cases hr
 ·cases hr
def pb(t:di):Nat->bn->List aT->bn×List aT
 |0,b,s=>(b,s)
 |n+1,b,s=>match vN t b s with
  |some e=>pb t n (o4 b e) (putMark s e.mark)
  |none=>(b,s)
def B5(h:bH):bn:=⟨h.base,h.time,[]⟩
def iH(t:di)(h:bH):bn×List aT:=pb t 21 (B5 h) h.seen
structure ov (h:bH) (b:bn) (s:List aT):Prop where
 ok:bN b=true
 base:b.base=h.base
 time:b.time=h.time
 fold:bU h.seen b.entries=some s
 seen:seenOk s=true
theorem ov.start(e:dm h=true):ov h (B5 h) h.seen:=by
 obtain⟨h1,h2,h3,h4,h5,h6⟩:=cI e;exact⟨Bk ⟨h1,h3,λhb=>by simp only[B5]at hb⊢;omega,by simp[B5],by simp[dK,hE,B5],λx hx=>by simp[B5]at hx⟩,rfl,rfl,rfl,h5⟩
theorem ov.add(g:ov h b s)(hf:nK b e=true)(hm:dt s e=some (putMark s e.mark)):ov h (o4 b e) (putMark s e.mark):=by
 refine⟨ED g.ok hf,g.base,g.time,?_,(vK g.seen hm).1⟩;show bU h.seen (b.entries++[e])=_;rw[iX,g.fold];show bU s [e]=_;simp[bU,hm]
theorem abX:∀(n:Nat) {b:bn} {s:List aT},ov h b s->ov h (pb t n b s).1 (pb t n b s).2
 |0,_,_,g=>g
 |n+1,b,s,g=>by
  unfold pb;split
  ·rename_i e he;obtain⟨_,_,f,m⟩:=rT he;exact abX n (g.add f m)
  ·exact g
def lh(h:bH)(b:bn):List (List Int):=b.entries.foldl (λl e=>l.set (iq e.index).toNat (fP e)) ((List.replicate 22 []).set (h.num % 2).toNat (fX h))
theorem M8{l:List (List Int)}{k:Nat}(h:∀y∈l,bQ y=true/\y.length<48)(hr:bQ r=true/\r.length<48):∀y∈l.set k r,bQ y=true/\y.length<48:=λy hy=>by
 rcases List.mem_or_eq_of_mem_set hy with hy|rfl
 ·exact h y hy
 ·exact hr
theorem zE:∀{es:List aO} {l:List (List Int)},(∀y∈l,bQ y=true/\y.length<48)->∀y∈es.foldl (λl e=>l.set (iq e.index).toNat (fP e)) l,bQ y=true/\y.length<48
 |[],_,h=>h
 |e::es,l,h=>zE (es:=es) (M8 h (pt e))
theorem vr:∀(es:List aO) (l:List (List Int)),(es.foldl (λl e=>l.set (iq e.index).toNat (fP e)) l).length=l.length
 |[],_=>rfl
 |e::es,l=>by rw[List.foldl_cons,vr];simp
theorem jb(h:bH)(b:bn):(lh h b).length=22:=by rw[lh,vr];simp
theorem BH(h:bH)(b:bn):∀y∈lh h b,bQ y=true/\y.length<48:=
 zE (M8 (λy hy=>by rw[List.eq_of_mem_replicate hy];exact⟨rfl,by simp⟩) (pn h))
def oP(h:bH)(b:bn):bD:=⟨(lh h b).map f0,[]⟩
def yT(h:bH)(b:bn):di:=⟨oP h b,oP h b⟩
theorem FH(h:bH)(b:bn):cG (oP h b)=true:=by
 have hl:=jb h b;refine kx ⟨by simp[oP,hl],by simp[oP,hl],by simp[oP],λy hy=>?_,by simp[oP]⟩;obtain⟨r,hr,rfl⟩:=List.mem_map.1 hy;obtain⟨h1,h2⟩:=BH h b r hr;exact gR h1 h2
theorem RP(h:bH)(b:bn):eC (yT h b)=true:=by
 simp only[eC,fW,and_eq_true,decide_eq_true_eq];exact⟨⟨⟨FH h b,FH h b⟩,rfl⟩,by simp[yT,oP,jb]⟩
theorem RE{k:List (List Int)}{a:Nat}:gZ (lx ⟨k,[]⟩ (a:Int) r)=⟨k.set a r,[]⟩:=by simp[gZ,lx,va,Um]
def sS(h:bH)(b:bn)(k0:List (List Int))(j:Nat):List (List Int):=((lh h b).map f0).take j++k0.drop j
theorem Fq(hk:k0.length=22){j:Nat}(hj:j<22):(sS h b k0 j).set j (f0 ((lh h b)[j]'(by rw[jb];exact hj)))=sS h b k0 (j+1):=by
 have hl:=jb h b;apply List.ext_getElem?;intro i;have hlen:(((lh h b).map f0).take j).length=j:=by simp[hl];omega
 have hlen2:(((lh h b).map f0).take (j+1)).length=j+1:=by simp[hl];omega
 unfold sS;rcases Nat.lt_trichotomy i j with hi|hi|hi
 ·rw[List.getElem?_set_ne ac,List.getElem?_append_left ac,List.getElem?_append_left ac,List.getElem?_take_of_lt hi,List.getElem?_take_of_lt ac]
 ·subst hi;rw[List.getElem?_set_self (by simp[hl];omega),List.getElem?_append_left ac,List.getElem?_take_of_lt ac];simp[hl,hj]
 ·rw[List.getElem?_set_ne ac,List.getElem?_append_right ac,List.getElem?_append_right ac,hlen,hlen2,List.getElem?_drop,List.getElem?_drop];congr 1;omega
theorem Oi(h:bH)(b:bn)(k0:List (List Int)):sS h b k0 0=k0:=by simp[sS]
theorem Ig(hk:k0.length=22):sS h b k0 22=(lh h b).map f0:=by
 have hl:=jb h b;unfold sS;rw[List.take_of_length_le (by simp[hl]),List.drop_of_length_le ac,List.append_nil]
def iw (n : aS) : Option aS := if eC n.two then (match rz n.two with
 |some h=>some ⟨yT h (iH n.two h).1,h,fw,false,(iH n.two h).1,(iH n.two h).2,bg (iH n.two h).1,[]⟩
 |none=>none)else none
theorem rb(e:dm h=true):ov h (iH t h).1 (iH t h).2:=abX 21 (ov.start e)
theorem MC{n m:aS}(h:iw n=some m):logOk m=true:=by
 unfold iw at h;split at h
 ·split at h
  ·rename_i hd hh;injection h with h
   subst h;have ho:=Bp hh;have g:=rb (t:=n.two) ho;generalize iH n.two hd=p at g;obtain⟨b,s⟩:=p;simp only at g;obtain⟨h1,h2,h3,h4,h5,h6⟩:=cI ho;obtain⟨b1,b2,b3,b4,b5,b6⟩:=bY g.ok;have hov:=jl h5 ac g.fold;have hown:dP b (bg b)=[]:=by
    unfold dP;rw[List.filter_eq_nil_iff];intro x hx;obtain⟨k,hk,rfl⟩:=List.getElem_of_mem hx;have:=EB g.ok k hk;simp only[decide_eq_true_eq];unfold bg;omega
   simp only[logOk,and_eq_true,beq_iff_eq];refine⟨⟨⟨⟨⟨⟨⟨⟨RP hd b,ho⟩,g.ok⟩,g.base⟩,g.time⟩,hov⟩,?_⟩,?_⟩,?_⟩
   ·simp only[aJ,and_eq_true,decide_eq_true_eq];unfold bg;omega
   ·rw[hown];rfl
   ·simp[fY]
  ·cases h
 ·cases h
end
end Go.Proofs.YthgkdhnlehneeaaGreatDoor
