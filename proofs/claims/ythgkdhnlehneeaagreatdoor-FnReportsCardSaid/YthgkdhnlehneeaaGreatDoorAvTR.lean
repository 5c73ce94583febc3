/- AvTR -/
import Derived.Test.YthgkdhnlehneeaaGreatDoorText1
import Derived.Test.YthgkdhnlehneeaaGreatDoorAvDT
import Derived.Test.YthgkdhnlehneeaaGreatDoorAwx
import Derived.Test.YthgkdhnlehneeaaGreatDoorWB4
import Derived.Test.YthgkdhnlehneeaaGreatDoorAvFC
import Derived.Test.YthgkdhnlehneeaaGreatDoorWB7
set_option maxHeartbeats 8000000
set_option linter.unusedVariables false
set_option linter.unusedSimpArgs false
set_option maxRecDepth 100000
open Bool (and_eq_true)
namespace Go.Proofs.YthgkdhnlehneeaaGreatDoor
section
open Go.ChangeShapes Go.WideShapes Go.RowKit
variable {xs:List (List AD)}{Z:Nat->Prop}{Q:Prop}{α:Type}{v:Value}{w:World}
theorem Vo(h:co Z w (.sl xs) v):∃(A:Option Addr) (cap s:Nat) (us:List (List Value)),v= .slice A xs.length cap/\xs.length<=cap/\cap<=maxLen/\us.length=xs.length/\(∀x∈xs,x.length=s)/\(∀u∈us,u.length=s)/\Xi Z w A us.flatten/\
  ∀(i j:Nat) x u a b,xs[i]? =some x->us[i]? =some u->x[j]? =some a->u[j]? =some b->co Z w a b:=by
 cases h with
 |sl _ A cap s us h1 h2 h3 h4 h5 h6 h7=>exact⟨A,cap,s,us,rfl,h1,h2,h3,h4,h5,h6,h7⟩
theorem Bm{β:Type}(f:α->β):∀l:List α,(l.map λx=>[f x]).flatten=l.map f
 |[]=>rfl
 |x::r=>by rw[List.map_cons,List.flatten_cons,Bm f r];rfl
theorem Af{l:List α}{f:α->Value}(h:co Z w (.sl (l.map λx=>[AD.pv (f x)])) v)(hz:∀b,Z b->b<w.heap.size):
  ∃A cap,v= .slice A l.length cap/\l.length<=cap/\cap<=maxLen/\Row w A (l.map f):=by
 obtain⟨A,cap,s,us,rfl,h1,h2,h3,h4,h5,h6,h7⟩:=Vo h;simp only[List.length_map]at h1 h3⊢;refine⟨A,cap,rfl,h1,h2,?_⟩;have hus:us=l.map λx=>[f x]:=by
  apply List.ext_getElem?;intro i;rw[List.getElem?_map];cases hd:l[i]? with
  |none=>rw[List.getElem?_eq_none];rfl;rw[h3];exact List.getElem?_eq_none_iff.1 hd
  |some x=>
   have hlt:i<us.length:=by rw[h3];exact(List.getElem?_eq_some_iff.1 hd).1
   rw[List.getElem?_eq_getElem hlt];have hx:(l.map λx=>[AD.pv (f x)])[i]? =some [AD.pv (f x)]:=by simp[hd]
   have hs:s=1:=(h4 _ (List.mem_of_getElem? hx)).symm;have hu:=h5 us[i] (List.getElem_mem hlt);rw[hs]at hu;obtain⟨y,hy⟩:=List.length_eq_one_iff.1 hu;have:=mb rfl (h7 i 0 _ _ _ y hx (List.getElem?_eq_getElem hlt) rfl (by rw[hy];rfl));simp[hy,this,BD]
 have hfl:us.flatten=l.map f:=by
  rw[hus];exact Bm f l
 rw[hfl]at h6;intro j hj;rcases h6 with h6|⟨b,off,hA,hZ,hc⟩
 ·rw[h6]at hj;simp at hj
 ·exact⟨b,off,hA,hz b hZ,hc⟩
theorem Ru(l:List Int)(hw:∀x∈l,(Lit.int .i64 x).wf=true)(hl:l.length<=1000):aN av 25 [.one (dIs l)] (rL (dx l)):=by
 refine⟨Tryz.call25,λZ w us hz hg hl' hr=>?_⟩;obtain⟨u,rfl⟩:=List.length_eq_one_iff.1 hl';have h:=hr 0 _ u rfl rfl;obtain⟨A,cap,rfl,h1,h2,hrow⟩:=Af (f:=λn=> .int .i64 n) h hz;have hrd:(Rep.sl (Rep.int .i64)).rd w [.slice A l.length cap] l (lT A (l.map λn=>Value.int .i64 n)++[]):=⟨A,cap,_,[],rfl,h1,h2,hrow,LR w .i64 l hw,rfl⟩;refine(GM l A l.length cap _ w hrd (WI aM hg).1 hl).mono ?_;rintro e w' ⟨rfl,hb⟩;exact⟨_,Z,rfl,hb,λ_ h=>h,λ_ h=> .inl h,.pv _ rfl⟩
abbrev eS(s:List UInt8):List AD:=[dL s]
theorem Po(l:List (List UInt8))(by_:List UInt8)(hl:l.length<=100000000)(hlen:(du by_ l).length<=1000000000)(hby:by_.length<=1000):aN av 168 [.one (.sl (l.map eS)),pL by_] (rL (du by_ l)):=by
 refine⟨Tryz.call168,λZ w us hz hg hl' hr=>?_⟩;match us,hl' with
 |[u,u2],_=>
 have h:=hr 0 _ u rfl rfl;have h2:u2= .string ⟨by_.toArray⟩:=mb rfl (hr 1 _ u2 rfl rfl);subst h2;obtain⟨A,cap,rfl,h1,h2,hrow⟩:=Af (f:=λs:List UInt8=>Value.string ⟨s.toArray⟩) (l:=l) h hz;refine(Gh l by_ A l.length cap w hrow rfl hl hlen hby).mono ?_;rintro e w' ⟨rfl,hb⟩;exact⟨_,Z,rfl,Tb hb,λ_ h=>h,λ_ h=> .inl h,.pv _ rfl⟩
theorem IT(x:Int)(h0:0<=x)(h1:x<=1000000000000):aN av 167 [pI x] (rL (Lib.itoa x)):=abY aM Tryz.call167 rfl rfl λw _=>by
 obtain⟨n,rfl⟩:=Int.eq_ofNat_of_zero_le h0;have:=KI n w ac;rwa[show Lib.decDigits n=Lib.itoa n by simp[Lib.itoa]]at this
theorem all_len{s:Nat}(h:∀x∈xs,x.length=s)(q:Q):(∀x∈xs,x.length=s)/\Q:=⟨h,q⟩
theorem KM{a b c:Nat}(h:(a+b)*c<=140737488355328)(q:Q):(a+b)*c<=140737488355328/\Q:=⟨h,q⟩
theorem Row.grown{w':World}{g o:Nat}{xs:List Value}{row:Option Nat}(h:Row w (some ⟨g,o,none⟩) xs)(hg:w.grownBy w' row)(hne:some g≠row):Row w' (some ⟨g,o,none⟩) xs:=by
 intro j hj;obtain⟨b,off,e,hl,hc⟩:=h j hj;injection e with e;injection e with e1 e2 e3
 subst e1 e2;exact⟨g,o,rfl,Nat.lt_of_lt_of_le hl hg.size,λi u hu=>hg.cell (hc i u hu) hne⟩
end
open Go.Proofs.Tryz
open Go.ChangeShapes Go.WideShapes Go.RowKit
def q7:List (List Nat):=bC [0,1,0,3,0,0,6526865541,0x1c61440c2047106]
def pW:List (List Nat):=bC [0,1,129,12354,1056835,12354,5419311366,207267586309,35532366946371,0x90c1087184148,0x2881441870810c9,0xb2430421c610520a,0xb2430421c610520a,0x34a2051061c204324b,0x30a2051061c204324b38d,0xb2430421c610520a3cd38c,0x2430421c610521030e34f28b,0x112ca3cd38c4081441870810c9]
def qa:List (List Nat):=dW 14 [0,1,4,499,526,229,364,1093,3280,9841,29524,4340101,442867,974308]
theorem Ck(a b:iK)(ha:a.jobs.opens.length<=9223372036854775806):aN av 291 [.agg a.ds,.agg b.ds] (rB (decide (a=b))):=by
  refine pO func291 call291 ntmps291 results291 λS=>?_;conv=>whnf
  repeat'(first|refine awz ?_|(refine aaL aM 1 (tkc [0,1,2,3] (.two 4 (onc [5,6,7] .done) 5 (onc [4,6,7] .done))) [(2,9980),(3,9981)] q7 ae ae ae ae (λRz=>?_);(conv=>whnf);intro bp0 up0;(conv=>whnf);intro bp1 up1;(conv=>whnf))|(refine cP (IZ a.jobs.opens b.jobs.opens ha) ?_;conv=>whnf)|refine tW ?_ ?_|(intro h;conv=>whnf))
  all_goals
    refine bE ?_;obtain⟨⟨i1,t1,h1,e1,l1,o1⟩⟩:=a;obtain⟨⟨i2,t2,h2,e2,l2,o2⟩⟩:=b;simp_all[iK.mk.injEq,jr.mk.injEq]
theorem M6{a b:cr}:a=b↔(a.id=b.id/\a.seq=b.seq/\a.view=b.view/\a.busy=b.busy/\a.op=b.op/\a.index=b.index):=by
  cases a;cases b;simp[cr.mk.injEq]
theorem zR(a b:cr)(ha:a.view.jobs.opens.length<=9223372036854775806):aN av 202 [.agg a.ds,.agg b.ds] (rB (decide (a=b))):=by
  refine pO func202 call202 ntmps202 results202 λS=>?_;conv=>whnf
  repeat'((first|refine awz ?_|refine cP (Ck a.view b.view ha) ?_|refine aaW (p5 a.op b.op) rfl rfl rfl rfl rfl ?_|refine tB ?_ ?_|intro h)<;>conv=>whnf)
  all_goals
    refine bE ?_;rw[Bool.eq_iff_iff,decide_eq_true_iff,M6];simp_all
def qr(id:Int):cr:=if ft id then gj id else gj 0
theorem Cf(id:Int):aN av 203 [.one (dI id)] (.val (.agg (qr id).ds)):=by
  refine pO func203 call203 ntmps203 results203 λS=>?_;conv=>whnf
  repeat'((first|refine awz ?_|refine cP (cO _) ?_|refine tB ?_ ?_|intro h)<;>conv=>whnf)
  all_goals simp_all[qr,gj,cr.ds,op0]
theorem m8(s:cr)(id:Int)(up:Bool)(hs:s.view.jobs.opens.length<=9223372036854775806):aN av 136 [.agg s.ds,.one (dI id),.one (dB up)] (rB (cV s id up)):=by
  refine pO func136 call136 ntmps136 results136 λS=>?_;conv=>whnf
  repeat'((first|refine awz ?_|refine aaJ aM 1 14 pW qa ae ae ae rfl ?_|refine cP (EU s) ?_|refine cP (Cf _) ?_|refine cP (zR s (qr id) hs) ?_|refine tB ?_ ?_|intro h)<;>conv=>whnf)
  all_goals
    refine bE ?_;first
      |(simp_all[cV];done)
      | (have e : qr id = gj id := by simp_all [qr, dG]
         simp_all[cV];rw[Bool.eq_iff_iff];simp;done)
theorem sY(s:cr):aN av 156 [.agg s.ds] (rB (decide (s=gj s.id))):=by
  refine pO func156 call156 ntmps156 results156 λS=>?_;conv=>whnf
  repeat'((first|refine awz ?_|refine aaW (p5 s.op op0) rfl rfl rfl rfl rfl ?_|refine tB ?_ ?_|intro h)<;>conv=>whnf)
  all_goals
    refine bE ?_;obtain⟨i,q,⟨⟨a,b,c,d,e,l⟩⟩,u,o,x⟩:=s;rw[Bool.eq_iff_iff,decide_eq_true_iff,M6];simp_all[gj,iK.mk.injEq,jr.mk.injEq]
theorem oV(s:cr)(id:Int)(up:Bool):aN av 97 [.agg s.ds,.one (dI id),.one (dB up)] (rB (cV s id up)):=by
  refine pO func97 call97 ntmps97 results97 λS=>?_;conv=>whnf
  repeat'((first|refine awz ?_|refine cP (kb s) ?_|refine cP (sY s) ?_|refine tB ?_ ?_|intro h)<;>conv=>whnf)
  all_goals
    refine bE ?_;first
      |(simp_all[cV];done)
      |(simp_all[cV];rw[Bool.eq_iff_iff];simp;done)
section
variable {i:Int}{e:aO}{n:aS}{b:bn}{t:di}
structure mh (n:aS):Prop where
 two:eC n.two=true
 head:dm n.head=true
 book:bN n.book=true
 base:n.book.base=n.head.base
 time:n.book.time=n.head.time
 fold:bU n.head.seen n.book.entries=some n.seen
 dlo:n.book.base<=n.durable
 dhi:n.durable<=bg n.book
 owe:n.owe=(dP n.book n.durable).map cU
 nxt:fY n=true
theorem T5{s c:List aT}{l:List aO}(h:bG s l=(c,true)):bU s l=some c:=by
 unfold bG at h;split at h
 ·cases h
 ·split at h
  ·cases h
  ·split at h
   ·rename_i o ho;rw[ho];injection h with h;rw[h]
   ·cases h
theorem Vb(h:logOk n=true):mh n:=by
 simp only[logOk,and_eq_true,beq_iff_eq,aJ,decide_eq_true_eq]at h;obtain⟨⟨⟨⟨⟨⟨⟨⟨h1,h2⟩,h3⟩,h4⟩,h5⟩,h6⟩,h7⟩,h8⟩,h9⟩:=h;exact⟨h1,h2,h3,h4,h5,T5 h6,h7.1,h7.2,h8,h9⟩
theorem mh.ok(h:mh n):logOk n=true:=by
 have h6:=(cI h.head).2.2.2.2.1;have hl:=(bY h.book).2.2.2.1;have:=jl h6 ac h.fold;simp only[logOk,and_eq_true,beq_iff_eq,aJ,decide_eq_true_eq];exact⟨⟨⟨⟨⟨⟨⟨⟨h.two,h.head⟩,h.book⟩,h.base⟩,h.time⟩,this⟩,h.dlo,h.dhi⟩,h.owe⟩,h.nxt⟩
theorem Ln:∀{l:List aO} {s c:List aT},seenOk s=true->bU s l=some c->bR c=match l.getLast? with|some e=>e.index|none=>bR s
 |[],s,c,_,hf=>by simp only[bU,Option.some.injEq]at hf;subst hf;rfl
 |e::r,s,c,h,hf=>by
  simp only[bU]at hf;cases hm:dt s e with
  |none=>rw[hm]at hf;cases hf
  |some s1=>
   rw[hm]at hf;obtain⟨h1,h2⟩:=vK h hm;rw[Ln h1 hf];cases r with
   |nil=>simp[h2]
   |cons x r=>rw[List.getLast?_cons_cons];rw[List.getLast?_eq_some_getLast ah]
theorem mh.seenOk(h:mh n):seenOk n.seen=true:=nn (cI h.head).2.2.2.2.1 h.fold
theorem mh.last(h:mh n):bR n.seen=bg n.book:=by
 have hh:=cI h.head;rw[Ln hh.2.2.2.2.1 h.fold];split
 ·rename_i e he;exact EC h.book he
 ·rename_i he;rw[List.getLast?_eq_none_iff]at he;have:=h.base;simp[bg,he];omega
theorem il(h:eC t=true):fW t=true/\t.a.kept.length=22/\t.b.kept.length=22:=by
 simp only[eC,and_eq_true,decide_eq_true_eq]at h;have:=(eW h.1).2.2;exact⟨h.1,h.2,ac⟩
theorem Br(h:fW t=true)(hl:t.a.kept.length=22):eC t=true:=by simp[eC,h,hl]
theorem zY{a:Int}{r:List Int}(h:eC t=true)(h1:t.a.wait.length<60)(h2:t.b.wait.length<60)(ha:0<=a/\a<=21)(hr:bQ r=true)(hl:r.length<48):eC (sM t a r)=true:=by
 obtain⟨f1,f2,f3⟩:=il h;exact Br (Je f1 h1 h2 (by simp[aJ];omega) hr hl) f2
theorem Cq(h:eC t=true):eC (kW t)=true:=by
 obtain⟨f1,f2,f3⟩:=il h;exact Br (Lj f1) (by simp[kW,gZ,iA,f2])
def my(n:aS)(e:aO):aS:={n with two:=sM n.two (iq e.index) (fP e),book:=o4 n.book e,seen:=putMark n.seen e.mark,owe:=n.owe++[cU e]}
theorem GH{d:Int}(h:d<e.index):dP (o4 b e) d=dP b d++[e]:=by
 simp only[dP,o4,List.filter_append];congr 1;simp;omega
theorem Lp(h:mh n)(hf:nK n.book e=true)(hs:k9 n.seen e=true)(h1:n.two.a.wait.length<60)(h2:n.two.b.wait.length<60):mh (my n e):=by
 have hf':=hf;simp only[nK,and_eq_true,decide_eq_true_eq,beq_iff_eq]at hf';obtain⟨⟨⟨f1,f2⟩,f3⟩,f4⟩:=hf';have hm:dt n.seen e=some (putMark n.seen e.mark):=by
  unfold dt;rw[if_pos];simp only[and_eq_true,decide_eq_true_eq];exact⟨⟨f1,hs⟩,by rw[h.last];omega⟩
 have hsl:=sC e.index;have hrow:=pt e;refine⟨zY h.two h1 h2 ac hrow.1 hrow.2,h.head,ED h.book hf,h.base,h.time,?_,h.dlo,?_,?_,?_⟩
 ·show bU n.head.seen (n.book.entries++[e])=_;rw[iX,h.fold];simp[bU,hm,my]
 ·show n.durable<=bg (o4 n.book e);have:=h.dhi;rw[Rw];omega
 ·have:=h.dhi;show n.owe++[cU e]=_;rw[h.owe];show _=(dP (o4 n.book e) n.durable).map cU;rw[GH ac,List.map_append];rfl
 ·have hn:=h.nxt;unfold fY at hn⊢;show(if n.more then aJ n.nxt.base (n.head.base+1) n.durable&&n.nxt==fV (my n e)else n.nxt==fw)=true;split
  ·rename_i hmo;rw[if_pos hmo]at hn;simp only[and_eq_true,aJ,decide_eq_true_eq]at hn;have hd:=h.dhi;have hb:=h.base;have hk:(n.nxt.base-n.book.base).toNat<=n.book.entries.length:=by unfold bg at hd;omega
   have:fV (my n e)=fV n:=by
    simp only[fV,my,o4,mr];rw[List.take_append_of_le_length hk,List.getD_eq_getElem?_getD,List.getElem?_append_left ac,<-List.getD_eq_getElem?_getD]
   rw[this];simp only[and_eq_true,aJ,decide_eq_true_eq];exact hn
  ·rename_i hmo;rw[if_neg hmo]at hn;exact hn
def sJ(n:aS)(i:Int):aS:={n with two:=sM n.two ((n.head.num+1) % 2) (fX (j9 n i)),nxt:=j9 n i,more:=true}
theorem vM(h:bN n.book=true)(i:Int):j9 n i=⟨n.head.num+1,i,(n.book.entries.getD (i-n.book.base-1).toNat ⟨0,0,0,0,⟨0,0,0,0,0⟩⟩).time,(bG n.head.seen (mr n.book i)).1⟩:=by
 simp only[j9,jH,Qw h,EI]
theorem PA(h:mh n)(hi:n.head.base+1<=i/\i<=n.durable)(h1:n.two.a.wait.length<60)(h2:n.two.b.wait.length<60):mh (sJ n i):=by
 have hr:=pn (j9 n i);refine⟨zY h.two h1 h2 ac hr.1 hr.2,h.head,h.book,h.base,h.time,h.fold,h.dlo,h.dhi,h.owe,?_⟩;have e:(sJ n i).nxt=fV (sJ n i):=by
  show j9 n i=_;rw[vM h.book];simp only[fV,sJ,vM h.book]
 unfold fY;show(if true=true then aJ (j9 n i).base (n.head.base+1) n.durable&&(sJ n i).nxt==fV (sJ n i)else _)=true;rw[<-e];simp[aJ,j9,hi]
def AU(n:aS):aS:=if n.more then⟨kW n.two,n.nxt,fw,false,⟨n.nxt.base,jH n.book n.nxt.base,n.book.entries.drop (n.nxt.base-n.book.base).toNat⟩,n.seen,bg n.book,[]⟩else{n with two:=kW n.two,durable:=bg n.book,owe:=[]}
theorem Ev(h:bN b=true):dP b (bg b)=[]:=by
 unfold dP;rw[List.filter_eq_nil_iff];intro x hx;obtain⟨k,hk,rfl⟩:=List.getElem_of_mem hx;have:=EB h k hk;simp only[decide_eq_true_eq];unfold bg;omega
theorem Ld(h:bN b=true)(h1:b.base+1<=i)(h2:i<=bg b):bN ⟨i,jH b i,b.entries.drop (i-b.base).toNat⟩=true:=by
 obtain⟨f1,f2,f3,f4,f5,f6⟩:=bY h;obtain⟨e1,e2,e3⟩:=gy f5;obtain⟨k,hk⟩:∃k:Nat,i-b.base-1=(k:Int):=⟨(i-b.base-1).toNat,ac⟩;have hkl:k<b.entries.length:=by unfold bg at h2;omega
 have hd:(i-b.base).toNat=k+1:=ac;have ht:jH b i=b.entries[k].time:=by
  simp only[jH,show(i-b.base-1).toNat=k by omega,List.getD_eq_getElem?_getD,List.getElem?_eq_getElem hkl,Option.getD_some]
 have he:=fI (e2 _ (List.getElem_mem hkl));rw[ht,hd];have hall:∀(j:Nat) (hj:j<(b.entries.drop (k+1)).length),(b.entries.drop (k+1))[j]=b.entries[k+1+j]'(by rw[List.length_drop]at hj;omega):=λj hj=>by rw[List.getElem_drop]
 refine Bk ⟨by show 0<=i/\i<=2000;unfold bg at h2;have:=EB h k hkl;omega,he.2.1,λe=>?_,?_,?_,λx hx=>?_⟩
 ·exfalso;have e:i=0:=e;omega
 ·rw[List.length_drop];omega
 ·simp only[dK,and_eq_true,decide_eq_true_eq,List.all_eq_true];refine⟨⟨by rw[List.length_drop];omega,λx hx=>e2 x (List.mem_of_mem_drop hx)⟩,Et λj hj=>?_⟩;have hj':=hj;rw[List.length_drop]at hj';rw[hall j ac,hall (j+1) hj];exact jK e3 (k:=k+1+j) ac
 ·have hx':b.entries[k+1]? =some x:=by simpa using hx
  obtain⟨hlt,rfl⟩:=List.getElem?_eq_some_iff.1 hx';have:=jK e3 hlt;simp only[lK,and_eq_true,beq_iff_eq,decide_eq_true_eq]at this;have:=EB h (k+1) hlt;exact⟨by show _=i+1;omega,by show b.entries[k].time<=_;omega⟩
theorem Pv(h:mh n):mh (AU n):=by
 have hb:=h.base;have hlb:n.book.base<=bg n.book:=by unfold bg;omega
 unfold AU;split
 ·rename_i hmo;have hn:=h.nxt;unfold fY at hn;rw[if_pos hmo]at hn;simp only[and_eq_true,aJ,decide_eq_true_eq,beq_iff_eq]at hn;obtain⟨hr,e⟩:=hn;have hd:=h.dhi;have hbk:=Ld h.book (i:=n.nxt.base) ac ac;obtain⟨k,hk⟩:∃k:Nat,n.nxt.base-n.book.base-1=(k:Int):=⟨(n.nxt.base-n.book.base-1).toNat,ac⟩;have hkl:k<n.book.entries.length:=by unfold bg at hd;omega
  have hk1:(n.nxt.base-n.book.base).toNat=k+1:=ac;have hh:=cI h.head;have hso:=jl hh.2.2.2.2.1 (by have:=(bY h.book).2.2.2.1;omega) h.fold;have hho:=vO h.book h.head h.base (by rw[hso]) hr.1 ac;rw[<-e]at hho;have hsplit:bU n.head.seen (n.book.entries.take (k+1)++n.book.entries.drop (k+1))=some n.seen:=by rw[List.take_append_drop];exact h.fold
  rw[iX]at hsplit;cases hc:bU n.head.seen (n.book.entries.take (k+1))with
  |none=>rw[hc]at hsplit;cases hsplit
  |some c=>
   rw[hc]at hsplit;have hns:n.nxt.seen=c:=by
    rw[e];show(bG n.head.seen (mr n.book n.nxt.base)).1=c;rw[mr,hk1,jl hh.2.2.2.2.1 (by rw[List.length_take];have:=(bY h.book).2.2.2.1;omega) hc]
   have ht:n.nxt.time=jH n.book n.nxt.base:=by rw[e];rfl
   refine⟨Cq h.two,hho,hbk,rfl,ht.symm,?_,?_,?_,?_,rfl⟩
   ·show bU n.nxt.seen (n.book.entries.drop (n.nxt.base-n.book.base).toNat)=some n.seen;rw[hns,hk1];exact hsplit
   ·show n.nxt.base<=bg n.book;omega
   ·show bg n.book<=bg ⟨_,_,_⟩;simp only[bg,List.length_drop];unfold bg at hd;omega
   ·have hl:bg n.book=bg ⟨n.nxt.base,jH n.book n.nxt.base,n.book.entries.drop (n.nxt.base-n.book.base).toNat⟩:=by
     simp only[bg,List.length_drop];unfold bg at hd;omega
    show []=(dP _ (bg n.book)).map cU;rw[hl,Ev hbk];rfl
 ·rename_i hmo;refine⟨Cq h.two,h.head,h.book,h.base,h.time,h.fold,hlb,Int.le_refl _,?_,?_⟩
  ·show []=(dP n.book (bg n.book)).map cU;rw[Ev h.book];rfl
  ·have hn:=h.nxt;unfold fY at hn⊢;rw[if_neg hmo]at hn;show(if n.more then _ else n.nxt==fw)=true;rw[if_neg hmo];exact hn
end
end Go.Proofs.YthgkdhnlehneeaaGreatDoor
