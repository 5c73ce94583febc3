/- K09 -/
import Derived.Test.YtpdmakdpnejnfaaGreatK21
import Derived.Test.YtpdmakdpnejnfaaGreatK04
import Derived.Test.YtpdmakdpnejnfaaGreatK07
import Derived.Test.YtpdmakdpnejnfaaGreatK10
import Derived.Test.YtpdmakdpnejnfaaGreatAvJ3
import Derived.Lib.BufferWrite
set_option maxHeartbeats 8000000
set_option linter.unusedVariables false
set_option linter.unusedSimpArgs false
set_option maxRecDepth 100000
open Bool (and_eq_true not_eq_true')
open List (all_eq_true getElem?_eq_getElem getElem?_map length_append map_cons map_map mem_cons mem_map mem_of_getElem? nodup_cons)
open Option (map_eq_some_iff)
namespace Go.Proofs.YtpdmakdpnejnfaaGreat
section
open Go.Proofs.Tryz
open Go.ChangeShapes Go.WideShapes Go.RowKit
variable {b:DBook}{p:DEntry->Bool}{n:DLogNode}{P l:List DEntry}{k:Nat}{α:Type}
def sW:List (List Nat):=cz [0,1,0,8259,1060930,0,0,391,33222,2384328,90639551170638217]
def tr:List (List Nat):=eK 10 [58824,58825,58814,58819,58846,1700,728,1214,3401,9962]
def HO:DEntry:=⟨0,0,0,0,⟨0,0,0,0,0⟩⟩
theorem ft(h:cF b=true):(0<=b.base/\b.base<=2000)/\tOk b.time=true/\b.entries.length<=20/\dT b.entries=true:=by
  simp only[cF,and_eq_true,aJ,decide_eq_true_eq]at h;obtain⟨⟨⟨⟨⟨h1,h2⟩,_⟩,h4⟩,h5⟩,_⟩:=h;exact⟨h1,h2,h4,h5⟩
theorem w6(h:cF b=true)(hk:k<b.entries.length):cj b.entries[k]=true:=by
  have h5:=(ft h).2.2.2;simp only[dT,and_eq_true]at h5;exact vm h5.1.2 hk
theorem LZ(h:cF b=true){e:DEntry}{r:List DEntry}(he:b.entries=e::r):e.index=b.base+1:=by
  simp only[cF,and_eq_true]at h;have h6:=h.2;rw[he]at h6;simp only[and_eq_true,beq_iff_eq]at h6;exact h6.1
theorem Sh(hk:0<l.length):∃r,l=l[0]::r:=by
  cases l with
  |nil=>simp at hk
  |cons e r=>exact⟨r,rfl⟩
theorem qT(h:cF b=true):∀(k:Nat) (hk:k<b.entries.length),b.entries[k].index=b.base+1+k:=by
  intro k;induction k with
  |zero=>
    intro hk;obtain⟨r,hr⟩:=Sh hk;have:=LZ h hr;omega
  |succ k ih=>
    intro hk;have h5:=(ft h).2.2.2;simp only[dT,and_eq_true]at h5;have:=nW h5.2 hk;simp only[mN,and_eq_true,beq_iff_eq]at this;have:=ih aa;omega
theorem hG(h:cF b=true):b.base<=bp b/\bp b<=2000:=by
  have h1:=(ft h).1;refine⟨by unfold bp;omega,?_⟩;rcases Nat.eq_zero_or_pos b.entries.length with h0|h0
  · unfold bp;omega
  · have h2:=qT h (b.entries.length-1) aa;have h3:=nt (w6 h (k:=b.entries.length-1) aa);have h4:=h3.2.2;simp only[aJ,and_eq_true,decide_eq_true_eq]at h4;unfold bp;omega
theorem SR:∀{c m:Int},(∀(k:Nat) (hk:k<l.length),l[k].index=c+k)->l.filter (λe=>decide (e.index<m))=l.take (m-c).toNat:=by
  induction l with
  |nil=>intro c m _;simp
  |cons e r ih=>
    intro c m h;have h0:=h 0 ah;have hr:=ih (c:=c+1) (m:=m) λk hk=>by
      have:=h (k+1) (by simpa using hk);simp only[List.getElem_cons_succ]at this;omega
    simp only[List.getElem_cons_zero]at h0;by_cases hm:e.index<m
    · rw[List.filter_cons_of_pos (by simpa using hm),hr];have:(m-c).toNat=(m-(c+1)).toNat+1:=aa;rw[this,List.take_succ_cons]
    · rw[List.filter_cons_of_neg (by simpa using hm),hr];have e1:(m-c).toNat=0:=aa;have e2:(m-(c+1)).toNat=0:=aa;rw[e1,e2];simp
def nm(b:DBook)(lo hi:Int):List DEntry:=b.entries.filter λe=>aJ e.index lo hi
theorem wt{q:DEntry->Bool}(h:∀e∈l,p e=q e):l.filter p=l.filter q:=by
  induction l with
  |nil=>rfl
  |cons e r ih=>
    have h0:=h e ah;have hr:=ih λx hx=>h x (List.mem_cons_of_mem _ hx);cases hp:p e with
    |true=>rw[List.filter_cons_of_pos hp,List.filter_cons_of_pos (by rw[<-h0,hp]),hr]
    |false=>rw[List.filter_cons_of_neg (by simp[hp]),List.filter_cons_of_neg (by simp[<-h0,hp]),hr]
theorem Sz(h:cF b=true)(i:Int):nm b (b.base+1) i=pV b i:=by
  have h1:nm b (b.base+1) i=b.entries.filter λe=>decide (e.index<i+1):=wt λe he=>by
    obtain⟨k,hk,rfl⟩:=List.getElem_of_mem he;have:=qT h k hk;rw[Bool.eq_iff_iff];simp[aJ];omega
  rw[h1,SR (c:=b.base+1) (qT h)];unfold pV;congr 1;omega
theorem MN(h:cF b=true)(d:Int):nm b (d+1) 2000=gM b d:=wt λe he=>by
  obtain⟨k,hk,rfl⟩:=List.getElem_of_mem he;have h3:=(nt (w6 h hk)).2.2;rw[Bool.eq_iff_iff];simp[aJ]at h3⊢;omega
theorem lW(b:DBook)(h:cF b=true):aL av 274 [.agg b.ds] (.val (pI (bp b))):=by
  have hp:=ft h;have hq:=hG h;refine pO func274 call274 ntmps274 results274 λS=>?_;conv=>whnf
  repeat'(first|refine awz ?_|(refine Xz ari ari ?_;conv=>whnf)|fail)
  all_goals simp[bp]
theorem fJ(b:DBook)(h:cF b=true):aL av 154 [.agg b.ds] (.val (pI (bp b))):=by
  have hp:=ft h;have hq:=hG h;refine pO func154 call154 ntmps154 results154 λS=>?_;conv=>whnf
  repeat'(first|refine awz ?_|(refine Xz ari ari ?_;conv=>whnf)|fail)
  all_goals simp[bp]
def zA(b:DBook)(i:Int):Int:=(b.entries.getD (i-b.base-1).toNat HO).time
theorem uX(b:DBook)(i:Int)(h:cF b=true)(h1:b.base+1<=i)(h2:i<=bp b):aL av 289 [.agg b.ds,.one (dI i)] (.val (pI (zA b i))):=by
  have hp:=ft h;have hq:=hG h;obtain⟨k,hk⟩:∃k:Nat,i-b.base-1=k:=⟨(i-b.base-1).toNat,aa⟩;have hkl:k<b.entries.length:=by unfold bp at h2;omega
  refine pO func289 call289 ntmps289 results289 λS=>?_;conv=>whnf
  repeat'((first|refine awz ?_|refine Xz aa aa ?_|refine Xw k (DEntry.ds (b.entries[k]'hkl)) hk (by simp[hkl]) ?_|refine tB ?_ ?_|intro h)<;>conv=>whnf)
  · exfalso;simp at h;omega
  · have e:(i-b.base-1).toNat=k:=aa;simp only[zA,e,List.getD_eq_getElem?_getD,List.getElem?_eq_getElem hkl,Option.getD_some]
theorem QE(e:DEntry):aL av 381 [.agg e.ds] (.val (.agg (dm e).ds)):=by
  refine pO func381 call381 ntmps381 results381 λS=>?_;conv=>whnf
  repeat'((first|refine awz ?_|refine cP (gd e) ?_|refine tB ?_ ?_|intro h)<;>conv=>whnf)
  all_goals
    simp_all[dm,DAck.ds]
theorem KS(e:DEntry):aL av 288 [.agg e.ds] (.val (.agg (dm e).ds)):=by
  refine pO func288 call288 ntmps288 results288 λS=>?_;conv=>whnf
  repeat'((first|refine awz ?_|refine cP (cy e) ?_|refine tB ?_ ?_|intro h)<;>conv=>whnf)
  all_goals
    simp_all[dm,DAck.ds]
theorem Qv(hk:k<l.length)(h:p l[k]=true):(l.take (k+1)).filter p=(l.take k).filter p++[l[k]]:=by
  rw[List.take_succ_eq_append_getElem hk,List.filter_append,List.filter_cons_of_pos h,List.filter_nil]
theorem Sb(hk:k<l.length)(h:p l[k]=false):(l.take (k+1)).filter p=(l.take k).filter p:=by
  rw[List.take_succ_eq_append_getElem hk,List.filter_append,List.filter_cons_of_neg (by simp[h]),List.filter_nil,List.append_nil]
theorem Qu:((l.take k).filter p).length<=l.length:=Nat.le_trans (List.length_filter_le ..) al
theorem rT(b:DBook)(lo hi:Int)(h20:b.entries.length<=20):aL av 287 [.agg b.ds,.one (dI lo),.one (dI hi)] (.val (.one (.sl ((nm b lo hi).map DEntry.ds)))):=by
  refine pO func287 call287 ntmps287 results287 λS=>?_;conv=>whnf
  repeat'(first|refine awz ?_|fail)
  refine XA (λk:Nat=>k<=b.entries.length) (9::[7,8,10,11,12,13,14,15,16,17,18,19,20,21,22,23,24,25,26,27,28,29,30,31,32,33]) (λk=>[(7,.one (.own 9)),(8,vI .i64 (k:Int))]) (λk=>[(9,.row 308 9 (((b.entries.take k).filter λe=>aJ e.index lo hi).map DEntry.ds)),(3,.cells 77 (b.ds.map .d))]) (λk=>b.entries.length-k) 0 aa ?_ sbW (λk hk=>?_)<;>(conv=>whnf)
  · exact whd
  · have hfl:((b.entries.take k).filter λe=>aJ e.index lo hi).length<=b.entries.length:=Qu;repeat'((first|refine awz ?_|refine XI ari (λhlt=>?_)|refine Xz ari ari ?_|refine cP (bh _ _ _) ?_|refine bc au ?_|refine tB ?_ ?_|intro h)<;>conv=>whnf)
    all_goals first
      | (refine aT.mk ⟨k + 1, ari, ari, ?_, Xu (congrArg some (congrArg (AO.row 308 9) (by rw [Qv ari aj]; simp only [List.map_append, List.map_cons, List.map_nil]; rfl))) sbW⟩
         exact hds)
      | (refine aT.mk ⟨k + 1, ari, ari, ?_, Xu (congrArg some (congrArg (AO.row 308 9) (by rw [Sb ari aj]))) sbW⟩
         exact hds)
      | (have hkk : k = b.entries.length := ari
         subst hkk;simp only[List.take_length,nm])
theorem TU{l:List DAck}(hl:P.length=l.length)(hk:k<P.length)(h:(l[k]'(aa) !=dm P[k])=true):decide (l=P.map dm)=false:=decide_eq_false λe=>by
  subst e;simp at h
theorem RR{l:List DAck}(hl:P.length=l.length)(h:∀(j:Nat) (h1:j<P.length),l[j]'(aa)=dm P[j]):decide (l=P.map dm)=true:=decide_eq_true (List.ext_getElem (by simp[hl]) λj h1 h2=>by
  simp at h2;rw[h j h2];simp)
theorem Rk{l:List DAck}{hl:P.length=l.length}(h:∀(j:Nat) (hj:j<k) (h1:j<P.length),l[j]'(aa)=dm P[j]){h1:k<P.length}(hk:l[k]'(aa)=dm P[k]):∀(j:Nat) (hj:j<k+1) (h1:j<P.length),l[j]'(aa)=dm P[j]:=λj hj h1=>by
  rcases Nat.lt_succ_iff_lt_or_eq.1 hj with h2|h2
  · exact h j h2 h1
  · subst h2;exact hk
theorem Eg(n:DLogNode)(hb:cF n.book=true)(hd:n.book.base<=n.durable/\n.durable<=bp n.book)(ho:n.owe.length<=9223372036854775806):aL av 218 [.agg n.ds] (rB (decide (n.owe=(gM n.book n.durable).map dm))):=by
  have hp:=ft hb;have hq:=hG hb;have h20:=hp.2.2.1;rw[<-MN hb];have hlen:(nm n.book (n.durable+1) 2000).length<=20:=Nat.le_trans (List.length_filter_le ..) h20;refine pO func218 call218 ntmps218 results218 λS=>?_;conv=>whnf
  repeat'((first|refine awz ?_|refine Xz aa aa ?_|refine cP (rT n.book _ _ h20) ?_|refine tB ?_ ?_|intro h)<;>conv=>whnf)
  · have hne:(nm n.book (n.durable+1) 2000).length≠n.owe.length:=an;rw[decide_eq_false λe=>hne (by rw[e,List.length_map])]
  · have hln:(nm n.book (n.durable+1) 2000).length=n.owe.length:=an;clear h;refine XA (λk:Nat=>k<=(nm n.book (n.durable+1) 2000).length/\∀(j:Nat) (hj:j<k) (h1:j<(nm n.book (n.durable+1) 2000).length),n.owe[j]'(aa)=dm (nm n.book (n.durable+1) 2000)[j]) (2::4::rg 17 17) (λk=>[(4,vI .i64 (k:Int))]) (λ_=>[(1,.cells 80 (n.ds.map .d))]) (λk=>(nm n.book (n.durable+1) 2000).length-k) 0 ⟨aa,aa⟩ ?_ sbW (λk hR=>?_)<;>(conv=>whnf)
    · exact whd
    · obtain⟨hk,hall⟩:=hR;repeat'((first|refine awz ?_|refine XB aM 7 10 sW tr ac ac ac rfl ?_|refine XI ari (λhlt=>?_)|refine Xz ari ari ?_|refine cP (KS _) ?_|refine Yb (zj _ _) rfl rfl rfl rfl rfl ?_|refine tB ?_ ?_|intro h)<;>conv=>whnf)
      all_goals first
        |(rw[TU hln (k:=k) ari (by first|(simpa using h)|(exfalso;assumption))];done)
        | (refine aT.mk ⟨k + 1, ⟨ari, Rk (hl := hln) (h1 := ari) hall (by simpa using h)⟩, ari, ?_, sbW⟩
           exact hds)
        | (have hkk : k = (nm n.book (n.durable + 1) 2000).length := ari
           rw[RR hln λj h1=>hall j aa h1])
theorem Bt{a b:DHead}:a=b↔(a.num=b.num/\a.base=b.base/\a.time=b.time/\a.seen=b.seen):=by
  cases a;cases b;simp[DHead.mk.injEq]
theorem kv(a b:DHead)(ha:a.seen.length<=9223372036854775806):aL av 331 [.agg a.ds,.agg b.ds] (rB (decide (a=b))):=by
  refine pO func331 call331 ntmps331 results331 λS=>?_;conv=>whnf
  repeat'((first|refine awz ?_|refine cP (io a.seen b.seen ha) ?_|refine tB ?_ ?_|intro h)<;>conv=>whnf)
  all_goals
    refine bM ?_;rw[Bool.eq_iff_iff];simp only[decide_eq_true_iff,Bt];simp_all
theorem li(a b:DHead)(ha:a.seen.length<=9223372036854775806):aL av 219 [.agg a.ds,.agg b.ds] (rB (decide (a=b))):=by
  refine pO func219 call219 ntmps219 results219 λS=>?_;conv=>whnf
  repeat'((first|refine awz ?_|refine cP (oZ a.seen b.seen ha) ?_|refine tB ?_ ?_|intro h)<;>conv=>whnf)
  all_goals
    refine bM ?_;rw[Bool.eq_iff_iff];simp only[decide_eq_true_iff,Bt];simp_all
theorem Nv{a:DBook}:a=b↔(a.base=b.base/\a.time=b.time/\a.entries=b.entries):=by
  cases a;cases b;simp[DBook.mk.injEq]
theorem z9(a b:DBook)(ha:a.entries.length<=9223372036854775806):aL av 332 [.agg a.ds,.agg b.ds] (rB (decide (a=b))):=by
  refine pO func332 call332 ntmps332 results332 λS=>?_;conv=>whnf
  repeat'((first|refine awz ?_|refine cP (A6 a.entries b.entries ha) ?_|refine tB ?_ ?_|intro h)<;>conv=>whnf)
  all_goals
    refine bM ?_;rw[Bool.eq_iff_iff];simp only[decide_eq_true_iff,Nv];simp_all
theorem lk(a:DHead):aL av 222 [.agg a.ds] (rB (decide (a=g9))):=by
  refine pO func222 call222 ntmps222 results222 λS=>?_;conv=>whnf
  repeat'(first|refine awz ?_|refine tB ?_ ?_|(intro h;conv=>whnf))
  all_goals
    refine bM ?_;rw[Bool.eq_iff_iff];simp only[decide_eq_true_iff,Bt];simp_all[g9]
theorem RV{a b:DDisk}:a=b↔(a.kept=b.kept/\a.wait=b.wait):=by
  cases a;cases b;simp[DDisk.mk.injEq]
theorem oO(a b:DDisk)(h1:a.kept.length<=9223372036854775806)(h2:∀y∈a.kept,y.length<=9223372036854775806)(h3:a.wait.length<=9223372036854775806)(h4:∀y∈a.wait,y.row.length<=9223372036854775806):aL av 330 [.agg a.ds,.agg b.ds] (rB (decide (a=b))):=by
  refine pO func330 call330 ntmps330 results330 λS=>?_;conv=>whnf
  repeat'((first|refine awz ?_|refine cP (Ek a.kept b.kept h1 h2) ?_|refine cP (yQ a.wait b.wait h3 h4) ?_|refine tB ?_ ?_|intro h)<;>conv=>whnf)
  all_goals
    refine bM ?_;rw[Bool.eq_iff_iff];simp only[decide_eq_true_iff,RV];simp_all
def sX:List (List Nat):=cz [0,1,129,12354,0,0,6,0,29064,0x40810c5248187,0,0xb2871882450c1084]
def tu:List (List Nat):=eK 11 [137700,137701,137704,137713,137618,122714,122957,120284,121499,127939,59048]
def sY:List (List Nat):=cz [0,1,129,0,4,0,6,454,33159,0,348045206026,0x30422ca2061c9105,0x3051091c620a2c2043,0xd0c108b28818724414c,0xd0c108b28818724414c,0x420c41461c824a2cc34e,0x1038d30b289207185103081]
def tv:List (List Nat):=eK 16 [177120,177121,177124,58832,58859,39608,39851,40580,42767,19682,29537,88573,265720,10363099,32683621,11957422]
def v9:List (List Nat):=cz [0,1,129,12354,12354,1318979,4328796549,486506500228,0xc1088106147,0x91c5184202043,0x2830422041851c9,0xb2471461080810ca,0x2830422041851c9,0xd2471461080810ca,0x38a0c108810614724d,0x2830422041851c9,0x102471461080810ca,0x44a0c1088106147250,0x30a0c108810614724b3cd392411,0x1345048e34f2c91c518420204328c,0x2830422041851c950c2cf34e490453,0x154d141238d3cb3142471461080810ca,0x58a0c108810614725430b3cd3924114d5,0x1755345048e34f2cc5091c5184202043296,0x6162830422041851c950c2cf34e490453557,0x162830422041851c950c2cf34e4904535595d8]
def ng:List (List Nat):=eK 18 [0,1,4,661,67,148,364,1093,3280,9841,386918572,386977621,373573498,374104939,375699262,14319382,28668289,71715010]
def wa:List (List Nat):=cz [0,1,129,0,4,324,24837,0,8,848968016749128,0x2882461051c2043,0xb0c108714418920a,0x30a2091841470810cb,0xb0c108714418920a,0xb0c108714418920a,0x3ca2091841470810cb,0x102c30421c510624828f,0xe2882461051c20432d13d0,0x34b0c108714418920a31240f44e,0xb0c108714418920a4ce44f41230d,0x50d31240f44e4ca2091841470810cb]
def wd:List (List Nat):=eK 18 [19656,19657,19660,17522,17549,17630,17873,2186,4373,9841,29524,385914739,386091886,125862943,4694395,9477364,23826271,65278669]
def Dz(n:DLogNode)(i:Int):DHead:=⟨n.head.num+1,i,zA n.book i,(bV n.head.seen (nm n.book (n.book.base+1) i)).1⟩
theorem Ef(n:DLogNode)(i:Int)(hb:cF n.book=true)(hn:0<=n.head.num/\n.head.num<=2000)(h1:n.book.base+1<=i)(h2:i<=bp n.book):aL av 220 [.agg n.ds,.one (dI i)] (.val (.agg (Dz n i).ds)):=by
  have hp:=ft hb;have hq:=hG hb;have h20:=hp.2.2.1;refine pO func220 call220 ntmps220 results220 λS=>?_;conv=>whnf
  repeat'((first|refine awz ?_|refine XB aM 1 11 sX tu ac ac ac rfl ?_|refine Xz aa aa ?_|refine cP (uX n.book i hb h1 h2) ?_|fail)<;>conv=>whnf)
  refine Z6 aM 2 16 sY tv 15 13 ac ac ac rfl ⟨_,rfl,rfl,rfl,rfl⟩ rfl rfl rfl rfl ?_;conv=>whnf
  repeat'((first|refine Xz aa aa ?_|refine cP (rT n.book _ _ h20) ?_|refine cP (mQ n.head.seen (nm n.book (n.book.base+1) i)) ?_|fail)<;>conv=>whnf)
  refine⟨_,_,_,_,_,?o1,rfl,rfl,rfl,rfl,?hst,?hk⟩
  case hst=>
    conv=>whnf
  conv=>whnf
  refine⟨rfl,?_,?_⟩
  · repeat'(first|exact trivial|exact⟨rfl,rfl⟩|(refine⟨?_,?_⟩)|fail)
  conv=>whnf
  repeat'(first|refine awz ?_|fail)
  all_goals rfl
theorem Sx[BEq α][LawfulBEq α][DecidableEq α](x:α×Bool)(s:α):(x==(s,true))=(x.2&&decide (x.1=s)):=by
  obtain⟨a,b⟩:=x;cases b<;>(rw[Bool.eq_iff_iff];simp[Prod.mk.injEq])
def oQ(n:DLogNode):Bool:=ee n.two&&di n.head&&cF n.book&&n.book.base==n.head.base&&n.book.time==n.head.time
def oR(n:DLogNode):Bool:=(bV n.head.seen n.book.entries).2&&decide ((bV n.head.seen n.book.entries).1=n.seen)&&aJ n.durable n.book.base (bp n.book)
theorem Bs[BEq α][LawfulBEq α][DecidableEq α](a b:α):(a==b)=decide (a=b):=by
  rw[Bool.eq_iff_iff];simp
theorem uG(n:DLogNode):mM n=(oQ n&&oR n&&decide (n.owe=(gM n.book n.durable).map dm)&&la n):=by
  simp only[mM,oQ,oR,Sx,Bool.and_assoc,Bs n.owe]
theorem QK(h:oQ n=true):ee n.two=true/\di n.head=true/\cF n.book=true/\n.book.base=n.head.base/\n.book.time=n.head.time:=by
  simp only[oQ,and_eq_true,beq_iff_eq]at h;exact⟨h.1.1.1.1,h.1.1.1.2,h.1.1.2,h.1.2,h.2⟩
theorem oI{h:DHead}(hh:di h=true):(0<=h.num/\h.num<=2000)/\(0<=h.base/\h.base<=2000)/\cA h.seen=true:=by
  simp only[di,and_eq_true,aJ,decide_eq_true_eq]at hh;exact⟨aa,aa,hh.1.2⟩
theorem NG(h:oQ n=false):mM n=false:=by simp only[uG,h,Bool.false_and]
theorem vE(h:oR n=false):mM n=false:=by simp only[uG,h,Bool.false_and,Bool.and_false]
theorem Sm(h:decide (n.owe=(gM n.book n.durable).map dm)=false):mM n=false:=by simp only[uG,h,Bool.false_and,Bool.and_false]
theorem Sn{b:Bool}(h1:oQ n=true)(h2:oR n=true)(h3:decide (n.owe=(gM n.book n.durable).map dm)=true)(h:b=la n):b=mM n:=by simp only[uG,h1,h2,h3,h,Bool.true_and]
theorem HN(h:(!aJ n.durable n.book.base (bp n.book))=false):n.book.base<=n.durable/\n.durable<=bp n.book:=by
  simpa[aJ]using h
theorem Ur(h:(!(bV n.head.seen n.book.entries).snd)=true):oR n=false:=by
  rw[not_eq_true']at h;simp only[oR,h,Bool.false_and]
theorem Us(h:(!decide ((bV n.head.seen n.book.entries).fst=n.seen))=true):oR n=false:=by
  rw[not_eq_true']at h;simp only[oR,h,Bool.false_and,Bool.and_false]
theorem Ut(h:(!aJ n.durable n.book.base (bp n.book))=true):oR n=false:=by
  rw[not_eq_true']at h;simp only[oR,h,Bool.and_false]
theorem Uu(h1:(!(bV n.head.seen n.book.entries).snd)=false)(h2:(!decide ((bV n.head.seen n.book.entries).fst=n.seen))=false)(h3:(!aJ n.durable n.book.base (bp n.book))=false):oR n=true:=by
  rw[Bool.not_eq_false']at h1 h2 h3;simp only[oR,h1,h2,h3,Bool.and_self]
theorem xn{s:List DMark}(h:cA s=true):(bV s l).1.length<=4:=by
  unfold bV;simp only[h,Bool.not_true,Bool.false_eq_true,if_false];split
  · exact em h
  · cases hf:cN s l with
    |none=>exact em h
    |some c=>exact em (nJ h hf)
theorem Ap(h:(!n.more)=true):decide (n.nxt=g9)=la n:=by
  rw[not_eq_true']at h;simp only[la,h,Bool.false_eq_true,if_false,Bs n.nxt]
theorem Ao(hb:cF n.book=true):Dz n n.nxt.base=mO n:=by
  simp only[Dz,mO,Sz hb,zA,HO]
theorem vK(hm:(!n.more)=false):la n=(aJ n.nxt.base (n.head.base+1) n.durable&&decide (n.nxt=mO n)):=by
  rw[Bool.not_eq_false']at hm;simp only[la,hm,if_true,Bs n.nxt]
theorem NK(hbb:n.book.base=n.head.base)(h:aJ n.nxt.base (n.head.base+1) n.durable=true):n.book.base+1<=n.nxt.base:=by
  simp only[aJ,and_eq_true,decide_eq_true_eq]at h;omega
theorem NJ(h3:(!aJ n.durable n.book.base (bp n.book))=false)(h:aJ n.nxt.base (n.head.base+1) n.durable=true):n.nxt.base<=bp n.book:=by
  have:=HN h3;simp only[aJ,and_eq_true,decide_eq_true_eq]at h;omega
theorem KV(n:DLogNode)(hhs:n.head.seen.length<=9223372036854775806)(ho:n.owe.length<=9223372036854775806)(hs:n.seen.length<=9223372036854775806)(hx:n.nxt.seen.length<=9223372036854775806):aL av 139 [.agg n.ds] (rB (mM n)):=by
  refine pO func139 call139 ntmps139 results139 λS=>?_;conv=>whnf
  repeat'((first|refine awz ?_|refine cP (kB n.two) ?_|refine cP (mg n.head hhs) ?_|refine cP (gC n.book) ?_|refine cP (mQ n.head.seen n.book.entries) ?_|refine tB ?_ ?_|intro h)<;>conv=>whnf)
  all_goals first
    | (have hno : oQ n = false := by simp_all [oQ]
       rw[NG hno];done)
    |skip
  have h1:oQ n=true:=by simp_all[oQ]
  obtain⟨hk,hh,hb,hbb,htt⟩:=QK h1;have hq:=oI hh;have hp:=ft hb;have hl:=hG hb;have hsv:(bV n.head.seen n.book.entries).1.length<=9223372036854775806:=Nat.le_trans (xn hq.2.2) ae;repeat'((first|refine awz ?_|refine XB aM 4 18 v9 ng ac ac ac rfl ?_|refine cP (oZ (bV n.head.seen n.book.entries).1 n.seen hsv) ?_|refine cP (fJ n.book hb) ?_|refine cP (bh _ _ _) ?_|refine cP (Eg n hb (HN aj) ho) ?_|refine tB ?_ ?_|intro h)<;>conv=>whnf)
  all_goals first
    |(rw[vE (Ur h)];done)
    |(rw[vE (Us h)];done)
    |(rw[vE (Ut h)];done)
    |(rw[Sm (by rwa[not_eq_true']at h)];done)
    |skip
  all_goals
    have h2:oR n=true:=Uu aj aj aj;have h3:decide (n.owe=(gM n.book n.durable).map dm)=true:=by
      have:(!decide (n.owe=List.map dm (gM n.book n.durable)))=false:=aj;rwa[Bool.not_eq_false']at this
    repeat'((first|refine awz ?_|refine XB aM 8 18 wa wd ac ac ac rfl ?_|refine Xz aa aa ?_|refine cP (bh _ _ _) ?_|refine cP (li n.nxt g9 hx) ?_|refine cP (Ef n n.nxt.base hb hq.1 (NK hbb aj) (NJ aj aj)) ?_|refine cP (li n.nxt (Dz n n.nxt.base) hx) ?_|refine tB ?_ ?_|intro h)<;>conv=>whnf)
    all_goals
      refine bM (Sn h1 h2 h3 ?_);first
        |exact Ap aj
        |(rw[vK aj,Ao hb];simp_all;done)
        |(rw[vK aj,<-Ao hb];simp_all;done)
end
section
open Go.Proofs.Tryz
open Go.ChangeShapes Go.WideShapes Go.RowKit
variable {a:Act}{n:DLogNode}{Q:Exit->Act->World->Prop}{F:Fence}{l:List DEntry}{c s:List DMark}{xs:List Value}{Bb Bd base j k size:Nat}{Z:Nat->Prop}{o:Oper}{P:Program}{e t:TypeId}{v:Value}{W w w':World}
def sZ:List (List Nat):=cz [0,1,129,12354,1056835,1056835,101453956,7583830214,1056835,151785604,90920957393793673,0xb24a1c62040810c5,0x1020433052061ca24b]
def tw:List (List Nat):=eK 10 [0,1,4,13,58846,52690,52933,53662,6520,13081]
def qZ:List (List Nat):=cz [0,1,0,3,0,0,6,20934,4347421125,567971962978500,0x2840c8187149042,0x2840c8187149042,0x2c20491471880c428c,0xc0812451c620310a34b]
def q7:List (List Nat):=eK 12 [19674,19675,6488,6497,2024,242,485,1133,3284,9841,383818,147622]
def wb:List (List Nat):=cz [0,1,129,12354,12354,1318979,4328796549,486506500228,0xc1088106147,0x91c5184202043,0x2830422041851c9,0xb2471461080810ca,0x2830422041851c9,0xd2471461080810ca,0x38a0c108810614724d,0x2830422041851c9,0x102471461080810ca,0x44a0c1088106147250,0x30a0c108810614724b3cd392411,0x1345048e34f2c91c518420204328c,0x2830422041851c950c2cf34e490453]
def wc:List (List Nat):=cz [0,1,129,12354,1056835,12354,1581123,12354,2105411,484274889288,90920957427880327,0x30422c718920a105,0x30510a2091872c2043]
def we:List (List Nat):=eK 10 [0,1,4,58819,58846,17725,17968,2173,4360,9949]
theorem zU(h:cN s l=some c)(k:Nat):∃c',cN s (l.take k)=some c':=by
  rw[<-List.take_append_drop k l,mE]at h;cases hk:cN s (l.take k)with
  |none=>rw[hk]at h;cases h
  |some c'=>exact⟨c',rfl⟩
theorem OL(hk:k<l.length)(h:cN s (l.take (k+1))=some c):bY c=l[k].index:=by
  obtain⟨c0,h0⟩:=zU h k;rw[List.take_take,Nat.min_eq_left aa]at h0;rw[p7 hk h0]at h;unfold dC at h;split at h
  · rename_i hc;injection h with h
    subst h;simp only[Bool.and_eq_true,decide_eq_true_eq]at hc;exact zi aa
  · cases h
theorem QS(hs:cA s=true)(h:(bV s l).2=true):l.length<=2000/\∃c,cN s l=some c:=by
  unfold bV at h;simp only[hs,Bool.not_true,Bool.false_eq_true,if_false]at h;split at h
  · cases h
  · rename_i hl;refine⟨aa,?_⟩;cases hf:cN s l with
    |none=>rw[hf]at h;cases h
    |some c=>exact⟨c,rfl⟩
theorem Kx(hb:cF n.book=true)(hh:di n.head=true)(hbb:n.book.base=n.head.base)(hso:(bV n.head.seen n.book.entries).2=true)(h1:n.head.base+1<=n.nxt.base)(h2:n.nxt.base<=bp n.book):di (mO n)=true:=by
  have hq:=oI hh;have hl:=hG hb;obtain⟨hlen,c,hc⟩:=QS hq.2.2 hso;obtain⟨k,hk⟩:∃k:Nat,n.nxt.base=n.book.base+1+k:=⟨(n.nxt.base-n.book.base-1).toNat,aa⟩;have hkl:k<n.book.entries.length:=by unfold bp at h2;omega
  obtain⟨c',hc'⟩:=zU hc (k+1);have e1:(n.nxt.base-n.book.base).toNat=k+1:=aa;have e2:(n.nxt.base-n.book.base-1).toNat=k:=aa;have hov:bV n.head.seen (pV n.book n.nxt.base)=(c',true):=by
    unfold pV;rw[e1];exact qg hq.2.2 al hc'
  have hlast:=OL hkl hc';have hidx:=qT hb k hkl;have hent:=w6 hb hkl;have ht:tOk n.book.entries[k].time=true:=by
    simp only[cj,Bool.and_eq_true]at hent;simpa[tOk]using hent.1.1.1.2
  have hnum:n.head.num<=n.head.base:=by
    simp only[di,Bool.and_eq_true,aJ,decide_eq_true_eq]at hh;omega
  have eH:mO n=⟨n.head.num+1,n.nxt.base,n.book.entries[k].time,c'⟩:=by
    simp only[mO,hov,e2,List.getD_eq_getElem?_getD,getElem?_eq_getElem hkl,Option.getD_some]
  have hcs:=nJ hq.2.2 hc';rw[eH];simp only[di,Bool.and_eq_true,aJ,decide_eq_true_eq,Bool.or_eq_true,beq_iff_eq];exact⟨⟨⟨⟨⟨⟨aa,aa⟩,aa,aa⟩,ht⟩,.inl aa⟩,hcs⟩,aa⟩
def Jp(b:DBook)(i:Int):DEntry:=b.entries.getD (i-b.base-1).toNat HO
theorem Tv{x lo hi:Int}(h1:lo<=x)(h2:x<=hi):aJ x lo hi=true:=by simp[aJ,h1,h2]
theorem CW(b:DBook)(i:Int)(hb:cF b=true)(h1:b.base+1<=i)(h2:i<=bp b):aL av 378 [.agg b.ds,.one (dI i)] (.tup [.agg (Jp b i).ds,.one (dB true)]):=by
  have hp:=ft hb;have hq:=hG hb;have hbt:(!aJ i (b.base+1) (bp b))=false:=by rw[Tv h1 h2];rfl
  have hbn:(!cF b)=false:=by rw[hb];rfl
  obtain⟨k,hk⟩:∃k:Nat,i-b.base-1=k:=⟨(i-b.base-1).toNat,aa⟩;have hkl:k<b.entries.length:=by unfold bp at h2;omega
  refine pO func378 call378 ntmps378 results378 λS=>?_;conv=>whnf
  repeat'((first|refine awz ?_|refine XB aM 1 10 sZ tw ac ac ac rfl ?_|refine Xz aa aa ?_|refine Xw k (DEntry.ds (b.entries[k]'hkl)) hk (by simp[hkl]) ?_|refine cP (vu b) ?_|refine cP (lW b hb) ?_|refine cP (bf _ _ _) ?_|fail)<;>conv=>whnf)
  have e:Jp b i=b.entries[k]'hkl:=by
    have e2:(i-b.base-1).toNat=k:=aa;simp only[Jp,e2,List.getD_eq_getElem?_getD,getElem?_eq_getElem hkl,Option.getD_some]
  rw[e];rfl
theorem Ag(h:DHead)(b:DBook)(i:Int)(hs:h.seen.length<=9223372036854775806)(h0:(0<=b.base/\b.base<=2000)/\b.entries.length<=20)(h1:b.base<=i)(h2:i<=bp b):aL av 379 [.agg h.ds,.agg b.ds,.one (dI i)] (uK (bV h.seen (pV b i))):=by
  obtain⟨k,hk⟩:∃k:Nat,i-b.base=k:=⟨(i-b.base).toNat,aa⟩;have hkl:k<=b.entries.length:=by unfold bp at h2;omega
  have hlb:bp b<=3000:=by unfold bp;omega
  have hx:List.drop 0 (List.take k (b.entries.map DEntry.ds))=(pV b i).map DEntry.ds:=by
    have e2:(i-b.base).toNat=k:=aa;simp only[List.drop_zero,pV,e2,List.map_take]
  refine pO func379 call379 ntmps379 results379 λS=>?_;conv=>whnf
  repeat'(first|refine awz ?_|((first|refine XB aM 1 12 qZ q7 ac ac ac rfl ?_|refine Xz aa aa ?_|refine⟨0,k,rfl,hk,Nat.zero_le _,(by simpa using hkl),?_⟩|fail)<;>conv=>whnf)|(refine aY (λx hx=>by obtain⟨y,_,rfl⟩:=mem_map.1 hx;rfl) ?_;conv=>whnf;rw[hx])|(refine cP (mG h.seen (pV b i) hs) ?_;conv=>whnf)|exact rr|fail)
theorem vL(hm:(!n.more)=false)(hb:cF n.book=true)(hh:di n.head=true)(hbb:n.book.base=n.head.base)(hd:n.book.base<=n.durable/\n.durable<=bp n.book)(hso:(bV n.head.seen n.book.entries).2=true)
    (h:di n.nxt=false\/n.nxt.num≠n.head.num+1\/n.nxt.base<=n.head.base\/n.durable<n.nxt.base):la n=false:=by
  rw[vK hm,<-Bool.not_eq_true];simp only[Bool.and_eq_true,aJ,decide_eq_true_eq];rintro⟨⟨h1,h2⟩,h3⟩;rcases h with h|h|h|h
  · have:=Kx hb hh hbb hso h1 aa;rw[<-h3,h]at this;cases this
  · exact h (congrArg DHead.num h3)
  · omega
  · omega
theorem ML(hm:(!n.more)=false)(h1:n.nxt.num=n.head.num+1)(h2:¬n.nxt.base<=n.head.base)(h3:¬n.nxt.base>n.durable):la n=((n.nxt.time==(Jp n.book n.nxt.base).time)&&decide (n.nxt.seen=(bV n.head.seen (pV n.book n.nxt.base)).1)):=by
  have hbt:aJ n.nxt.base (n.head.base+1) n.durable=true:=Tv aa aa;rw[vK hm,hbt,Bool.true_and,Bool.eq_iff_iff];simp only[decide_eq_true_eq,Bool.and_eq_true,beq_iff_eq,Bt,mO,Jp,HO,h1,true_and]
theorem Gf(n:DLogNode)(hb:cF n.book=true)(hh:di n.head=true)(hbb:n.book.base=n.head.base)(hd:n.book.base<=n.durable/\n.durable<=bp n.book)(hso:(bV n.head.seen n.book.entries).2=true)(hhs:n.head.seen.length<=9223372036854775806)(hx:n.nxt.seen.length<=9223372036854775806):aL av 327 [.agg n.ds] (rB (la n)):=by
  have hq:=oI hh;have hp:=ft hb;have hl:=hG hb;refine pO func327 call327 ntmps327 results327 λS=>?_;conv=>whnf
  repeat'((first|refine awz ?_|refine Xz aa aa ?_|refine cP (kv n.nxt g9 hx) ?_|refine cP (lS n.nxt hx) ?_|refine tB ?_ ?_|intro h)<;>conv=>whnf)
  · exact congrArg rB (Ap h)
  all_goals first
    |(rw[vL aj hb hh hbb hd hso (.inl (by simpa using h))];done)
    |(rw[vL aj hb hh hbb hd hso (.inr (.inl (by simpa using h)))];done)
    |(rw[vL aj hb hh hbb hd hso (.inr (.inr (.inl (by simpa using h))))];done)
    |(rw[vL aj hb hh hbb hd hso (.inr (.inr (.inr (by simpa using h))))];done)
    |skip
  have hm:(!n.more)=false:=aj;have g1:n.nxt.num=n.head.num+1:=by
    have:(n.nxt.num !=n.head.num+1)=false:=aj;simpa using this
  have g2:¬n.nxt.base<=n.head.base:=by
    have:decide (n.nxt.base<=n.head.base)=false:=aj;simpa using this
  have g3:¬n.nxt.base>n.durable:=by simpa using h
  repeat'((first|refine awz ?_|refine cP (CW n.book n.nxt.base hb aa aa) ?_|refine cP (Ag n.head n.book n.nxt.base hhs ⟨hp.1,hp.2.2.1⟩ aa aa) ?_|refine cP (io n.nxt.seen (bV n.head.seen (pV n.book n.nxt.base)).1 hx) ?_|refine tB ?_ ?_|intro h)<;>conv=>whnf)
  all_goals
    refine bM ?_;rw[ML hm g1 g2 g3];simp_all
theorem Ua{a b:DTwo}:a=b↔(a.a=b.a/\a.b=b.b):=by
  cases a;cases b;simp[DTwo.mk.injEq]
theorem QJ{a b:DLogNode}:a=b↔(a.two.a=b.two.a/\a.two.b=b.two.b/\a.head=b.head/\a.nxt=b.nxt/\a.more=b.more/\a.book=b.book/\a.seen=b.seen/\a.durable=b.durable/\a.owe=b.owe):=by
  cases a;cases b;simp[DLogNode.mk.injEq,Ua,and_assoc]
structure tE (n:DLogNode):Prop where
  a1:n.two.a.kept.length<=9223372036854775806
  a2:∀y∈n.two.a.kept,y.length<=9223372036854775806
  a3:n.two.a.wait.length<=9223372036854775806
  a4:∀y∈n.two.a.wait,y.row.length<=9223372036854775806
  b1:n.two.b.kept.length<=9223372036854775806
  b2:∀y∈n.two.b.kept,y.length<=9223372036854775806
  b3:n.two.b.wait.length<=9223372036854775806
  b4:∀y∈n.two.b.wait,y.row.length<=9223372036854775806
  head:n.head.seen.length<=9223372036854775806
  nxt:n.nxt.seen.length<=9223372036854775806
  book:n.book.entries.length<=9223372036854775806
  seen:n.seen.length<=9223372036854775806
  owe:n.owe.length<=9223372036854775806
theorem C2(a b:DLogNode)(hs:tE a):aL av 260 [.agg a.ds,.agg b.ds] (rB (decide (a=b))):=by
  refine pO func260 call260 ntmps260 results260 λS=>?_;conv=>whnf
  repeat'((first|refine awz ?_|refine cP (oO a.two.a b.two.a hs.a1 hs.a2 hs.a3 hs.a4) ?_|refine cP (oO a.two.b b.two.b hs.b1 hs.b2 hs.b3 hs.b4) ?_|refine cP (kv a.head b.head hs.head) ?_|refine cP (kv a.nxt b.nxt hs.nxt) ?_|refine cP (z9 a.book b.book hs.book) ?_|refine cP (io a.seen b.seen hs.seen) ?_|refine cP (vZ a.owe b.owe hs.owe) ?_|refine tB ?_ ?_|intro h)<;>conv=>whnf)
  all_goals
    refine bM ?_;rw[Bool.eq_iff_iff];simp only[decide_eq_true_iff,QJ];simp_all
def PL:Prop:=∀(b:DBook) (d:Int),cF b=true->b.base<=d->d<=bp b->aL av 329 [.agg b.ds,.one (dI d)] (.val (.one (.sl (((gM b d).map dm).map DAck.ds))))
theorem JI(how:PL)(n:DLogNode)(hs:tE n):aL av 258 [.agg n.ds] (rB (mM n)):=by
  refine pO func258 call258 ntmps258 results258 λS=>?_;conv=>whnf
  repeat'((first|refine awz ?_|refine cP (nL n.two) ?_|refine cP (lS n.head hs.head) ?_|refine cP (vu n.book) ?_|refine cP (mG n.head.seen n.book.entries hs.head) ?_|refine tB ?_ ?_|intro h)<;>conv=>whnf)
  all_goals first
    | (have hno : oQ n = false := by simp_all [oQ]
       rw[NG hno];done)
    |skip
  have h1:oQ n=true:=by simp_all[oQ]
  obtain⟨hk,hh,hb,hbb,htt⟩:=QK h1;have hq:=oI hh;have hp:=ft hb;have hl:=hG hb;have hsv:(bV n.head.seen n.book.entries).1.length<=9223372036854775806:=Nat.le_trans (xn hq.2.2) ae;repeat'((first|refine awz ?_|refine XB aM 4 18 wb ng ac ac ac rfl ?_|refine cP (io (bV n.head.seen n.book.entries).1 n.seen hsv) ?_|refine cP (lW n.book hb) ?_|refine cP (bf _ _ _) ?_|refine tB ?_ ?_|intro h)<;>conv=>whnf)
  all_goals first
    |(rw[vE (Ur h)];done)
    |(rw[vE (Us h)];done)
    |(rw[vE (Ut h)];done)
    |skip
  have h2:oR n=true:=Uu aj aj aj;have hd:=HN h;have hso:(bV n.head.seen n.book.entries).2=true:=by
    have:(!(bV n.head.seen n.book.entries).snd)=false:=aj;rwa[Bool.not_eq_false']at this
  repeat'((first|refine awz ?_|refine XB aM 6 10 wc we ac ac ac rfl ?_|refine cP (Gf n hb hh hbb hd hso hs.head hs.nxt) ?_|refine cP (how n.book n.durable hb hd.1 hd.2) ?_|refine cP (vZ n.owe ((gM n.book n.durable).map dm) hs.owe) ?_|refine tB ?_ ?_|intro h)<;>conv=>whnf)
  all_goals
    refine bM ?_;simp only[uG,h1,h2,Bool.true_and];simp_all
open Go.Shelf
attribute [local go_sem] Oper.semAt_some
def nr(a:DAck):Array Value:= #[.int .i64 a.client,.int .i64 a.seq,.int .i64 a.index,.int .i64 a.last]
def Nh(w:World):Prop:=∃w1,av.W w1/\Below w1.heap.size w1 w
theorem zc(h:Nh w)(hB:Below w.heap.size w W):Nh W.drew:=by
  obtain⟨w1,h1,h2⟩:=h;have h3:=h2.trans (hB.mono h2.size);exact⟨w1,h1,⟨h3.os,h3.tape,h3.output,h3.size,λk hk=>h3.block k hk⟩⟩
theorem tN(e:DEntry)(w:World)(hgd:Nh w):Calls Tryz.prog 381 #[.agg (jP e)] w λe' w'=>e'= .returned (.agg (nr (dm e)))/\Below w.heap.size w w':=by
  obtain⟨w1,g1,g2⟩:=hgd;have h:=(QE e).run (λb=>b<w.heap.size) w [.agg (jP e)] (λ_ h=>h) ⟨w1,g1,g2,λ_ h=>Nat.lt_of_lt_of_le h g2.size⟩ rfl (λi p u hp hu=>by
    match i,hp,hu with
    |0,hp,hu=>
      simp at hp hu;subst hp hu;refine⟨(jP e).toList,by simp,rfl,λj d u hd hu=>?_⟩;match j,hd,hu with
      |0,hd,hu=>simp[DEntry.ds,jP]at hd hu;subst hd hu;exact .pv _ rfl
      |1,hd,hu=>simp[DEntry.ds,jP]at hd hu;subst hd hu;exact .pv _ rfl
      |2,hd,hu=>simp[DEntry.ds,jP]at hd hu;subst hd hu;exact .pv _ rfl
      |3,hd,hu=>simp[DEntry.ds,jP]at hd hu;subst hd hu;exact .pv _ rfl
      |4,hd,hu=>simp[DEntry.ds,jP]at hd hu;subst hd hu;exact .pv _ rfl
      |5,hd,hu=>simp[DEntry.ds,jP]at hd hu;subst hd hu;exact .pv _ rfl
      |6,hd,hu=>simp[DEntry.ds,jP]at hd hu;subst hd hu;exact .pv _ rfl
      |7,hd,hu=>simp[DEntry.ds,jP]at hd hu;subst hd hu;exact .pv _ rfl
      |8,hd,hu=>simp[DEntry.ds,jP]at hd hu;subst hd hu;exact .pv _ rfl
      |n+9,hd,hu=>simp[DEntry.ds]at hd
    |n+1,hp,hu=>simp at hp)
  refine Calls.mono h ?_;rintro e' w' ⟨v,Z',rfl,hb,_,_,hr⟩;have:=SC (p:= .agg (dm e).ds) rfl hr;exact⟨by rw[this];rfl,hb⟩
theorem OZ(F:Fence)(n:Nat)(hf:F.fn 380)(hro:F.round=none)(c0 c1 c2:Value)(d:Int)(w:World):
    CallsIn F n Tryz.prog 380 #[.agg #[c0,c1,c2],.int .i64 d] w λe w'=>e= .returned (.func (.func 424) #[] #[.pointer (some ⟨w.heap.size,0,none⟩),.pointer (some ⟨w.heap.size+1,0,none⟩)])/\w'=(w.alloc (.cells #[c0,c1,c2] 77)).alloc (.cells #[.int .i64 d] 2):=by
  refine callsIn_of_wp func380 rfl hf ?_ hro;simp only[ntmps380,List.size_toArray,List.length_cons,List.length_nil,Nat.reduceAdd,Nat.reduceSub,Array.replicate_succ,Array.replicate_zero,List.push_toArray,List.append_toArray,List.nil_append,List.cons_append];gi_wp2
  go_ret
  exact⟨rfl,rfl⟩
theorem QT(F:Fence)(n:Nat)(hf:F.fn 424)(hro:F.round=none)(hn:1<=n)(Bb Bd n₀:Nat)(A:Option Addr)(cap:Nat)(es:List DEntry)(d:Int)(hes:es.length<=20)(w:World)(hBb:Bb<w.heap.size)(hBd:Bd<w.heap.size)(hn₀:n₀<=w.heap.size)
    (hcb:w.cell? ⟨Bb,2,none⟩=some (.slice A es.length cap)) (hcd:w.cell? ⟨Bd,0,none⟩=some (.int .i64 d)) (hA:tD n₀ w A es):
    SeqStopsK F n Tryz.prog 424 #[.pointer (some ⟨Bb,0,none⟩),.pointer (some ⟨Bd,0,none⟩)] (λe:DEntry=> #[Value.agg (jP e)]) (gT n₀ Bb Bd) (λys=>ys=jK d es) (λpre=>pre<+:jK d es) es.length w:=λl J Jx W hW hJ _ hY h0=>by
  have hs:=hW.size;refine O0 F n hf hro hn l Bb Bd n₀ A cap es d hes J Jx hY W hJ aa aa aa ((hW.cell (p:=⟨Bb,2,none⟩) hBb).trans hcb) ((hW.cell (p:=⟨Bd,0,none⟩) hBd).trans hcd) ?_ h0;rcases hA with h|⟨b,off,e,hb,hc⟩
  · exact .inl h
  · exact .inr ⟨b,off,e,hb,λk hk j u hu=>(hW.cell (p:=⟨b,off+k*9+j,none⟩) (show b<w.heap.size by omega)).trans (hc k hk j u hu)⟩
def tM(l:List DEntry):List Value:=(l.map λe=>(nr (dm e)).toList).flatten
theorem QH{n₀:Nat}(h0:n₀<=w.heap.size)(h1:Bb<w.heap.size)(h2:Bd<w.heap.size):∀(W:World) (l:Nat) (o o':Obj),w.heap.size<=l->W.heap[l]? =some o->o.isCells=false->o.isWalk=false->gT n₀ Bb Bd W (W.putObj l o'):=
  λW l o o' hl ho _ _=>⟨by simp,λk hk=>World.putObj_heap_other aa⟩
theorem JG{β:Type}(B0 B:Nat)(cs:Array Value)(t:TypeId):OwnFrom B0 (fun(_:β) W=>W.heap[B]? =some (.cells cs t (0,0))):=λ_ X Y row hs hg hr=>
  (hg.block B (Array.getElem?_eq_some_iff.1 hs).1 λe=>by
    obtain⟨_,o,ho,hc⟩:=hr B e.symm;rw[hs]at ho;cases ho;cases hc).trans hs
theorem mn{W':World}(h:W.ownsRow base e size v k xs)(hb:Below W.heap.size W W'):W'.ownsRow base e size v k xs:=by
  refine⟨h.1,?_⟩;rcases h.2 with h2|⟨g,cap,cur,h1,h2,h3,h4⟩
  · exact .inl h2
  · exact .inr ⟨g,cap,cur,h1,h2,(hb.block g (Array.getElem?_eq_some_iff.1 h3).1).trans h3,h4⟩
theorem NR(h:W.ownsRow base e size v k xs){cs:Array Value}(hj:W.heap[j]? =some (.cells cs t (0,0)))(hne:t≠e):some j≠v.ownBlock:=by
  rcases h.2 with⟨rfl,_⟩|⟨g,cap,cur,rfl,_,hgb,_⟩
  · simp[Value.ownBlock]
  · intro e';have:g=j:=by simpa[Value.ownBlock]using e'.symm
    subst this;rw[hgb]at hj;injection hj with hj
    injection hj with _ h2 _
    exact hne h2.symm
theorem QF:(Tryz.prog.info? 251).map (λi=>(i.zero,i.size,i.bytes))=some (some (.agg #[.int .i64 0,.int .i64 0,.int .i64 0,.int .i64 0]),4,32):=by kernel_rfl
theorem qH(l:List DEntry)(e:DEntry):tM (l++[e])=tM l++(nr (dm e)).toList:=by simp[tM]
theorem zk(w':World)(a:DAck):∀j u,(nr a).toList[j]? =some u->(w'.alloc (.cells #[.int .i64 a.client,.int .i64 a.seq,.int .i64 a.index,.int .i64 a.last] 251)).cell? ((⟨w'.heap.size,0,none⟩:Addr).add j)=some u:=λj u hu=>by
  have h0:=World.alloc_heap_new w' (.cells #[.int .i64 a.client,.int .i64 a.seq,.int .i64 a.index,.int .i64 a.last] 251);have e:(⟨w'.heap.size,0,none⟩:Addr).add j=⟨w'.heap.size,j,none⟩:=by unfold Addr.add;split<;>simp_all
  rw[e];simp only[World.cell?,h0];simpa[nr]using hu
theorem w5(h:Below W.drew.heap.size W.drew w'):Below W.heap.size W w':=
  ⟨h.os,h.tape,h.output,h.size,λk hk=>h.block k hk⟩
theorem oV{F:Fence}{n:Nat}{P:Program}{a:Act}{w w':World}{K:Act->World->Prop}{Q:Exit->Act->World->Prop}{s x:Operand}{v v':Value}{ad:Addr}{m c:Nat}(hop:o.op=Op.call {callee:=Callee.builtin Builtin.append,args:= #[s,x],argTypes:= #[t,t]})
    (hs:a.eval s=v) (hx:a.eval x= .slice (some ad) m c) (hrun:(Builtin.append_ #[t,t] o.type #[v,.slice (some ad) m c]).run P w= .ok v' w') (hK:K (a.put o.dst v') w'):o.wpIn F n P a w K Q:=by
  unfold Oper.wpIn;refine⟨?_,?_⟩
  · simp[Oper.about,hop,resolve,Target.leads,Sem.run_pure]
  · rw[Oper.semAt_plain F _ _ (by rw[hop];intro c hc';cases hc')];simp[execOp,hop,resolve,invoke,builtin,hs,hx,hrun,Result.andThen];exact hK
theorem vN{n:Nat}{md:Region.Mode}{ops:Array Oper}{fuel:Nat}{listed:Array Bool}{i:Nat}(ho:ops[i]? =some o)(hg:o.guard=none)(h:o.wpIn F n P a w (wpAnyIn F n P md ops Q fuel (listed.setIfInBounds i true)) Q):AllReadyIn F n P md ops Q fuel listed a w [i]:=
  .cons ho (λK hK=>by rw[if_pos (by simp[Region.wanted,hg])];exact Oper.wpIn_mono hK h) .nil
theorem DG{w4:World}{n B Bb Bd:Nat}{v':Value}{ys:List Value}{tmp:Obj}{c3 c4:Array Value}(hb:Below W.heap.size W w')(bv:Boxed W B 78 v)(hrow:W.ownsRow n 251 4 v k xs)(hn:n<=W.heap.size)(hB:n<=B)
    (hown':w4.ownsRow n 251 4 v' (k+1) ys) (hg:(w'.alloc tmp).grownBy w4 v.ownBlock) (h3:W.heap[Bb]? =some (.cells c3 77 (0,0))) (h4:W.heap[Bd]? =some (.cells c4 2 (0,0))) (hne3:Bb≠B) (hne4:Bd≠B):
    Boxed w4 B 78 v/\Boxed (w4.setCell ⟨B,0,none⟩ v') B 78 v'/\(w4.setCell ⟨B,0,none⟩ v').ownsRow n 251 4 v' (k+1) ys/\KeepsOthers W (w4.setCell ⟨B,0,none⟩ v')/\Below n W (w4.setCell ⟨B,0,none⟩ v')/\gT n Bb Bd W (w4.setCell ⟨B,0,none⟩ v'):=by
  have bv':Boxed w' B 78 v:=(hb.block B bv.lt).trans bv;have hrow':=mn hrow hb;have hs:=hb.size;obtain⟨a1,a2,a3,a4,a5⟩:=bv'.appended ae hrow' aa hB hown' hg;have hbn:Below n W w':=hb.mono hn;refine⟨a1,a2,a3,(KeepsOthers.mk hs λk o h _=>(hb.block k (Array.getElem?_eq_some_iff.1 h).1).trans h).trans a4,hbn.trans a5,(hbn.trans a5).size,λj hj=>?_⟩;rcases hj with hj|hj|hj
  · exact(hbn.trans a5).block j hj
  · subst hj;have e1:=(hb.block j (Array.getElem?_eq_some_iff.1 h3).1).trans h3;have e2:=(Below.heap_alloc w' tmp j (Array.getElem?_eq_some_iff.1 e1).1).trans e1;have e3:=(hg.block j (Array.getElem?_eq_some_iff.1 e2).1 (NR hrow' e1 ae)).trans e2;rw[Below.heap_setCell _ _ _ j hne3,e3,h3]
  · subst hj;have e1:=(hb.block j (Array.getElem?_eq_some_iff.1 h4).1).trans h4;have e2:=(Below.heap_alloc w' tmp j (Array.getElem?_eq_some_iff.1 e1).1).trans e1;have e3:=(hg.block j (Array.getElem?_eq_some_iff.1 e2).1 (NR hrow' e1 ae)).trans e2;rw[Below.heap_setCell _ _ _ j hne4,e3,h4]
theorem Sv(base time d:Int)(A:Option Addr)(cap:Nat)(es:List DEntry)(hes:es.length<=20)(hd:0<=d/\d<=3000)(w:World)(hgd:Nh w)(hA:tD w.heap.size w A es):
    CallsIn Fence.wide 10 Tryz.prog 329 #[.agg #[.int .i64 base,.int .i64 time,.slice A es.length cap],.int .i64 d] w λe W'=>∃v,e= .returned v/\Below w.heap.size w W'/\W'.ownsRow w.heap.size 251 4 v (jK (d+1) es).length (tM (jK (d+1) es)):=by
  refine callsIn_of_wp_marks func329 rfl trivial ?_ rfl;simp only[ntmps329,List.size_toArray,List.length_cons,List.length_nil,Nat.reduceAdd,Nat.reduceSub,Array.replicate_succ,Array.replicate_zero,List.push_toArray,List.append_toArray,List.nil_append,List.cons_append];have hwr:wrap64 (d+1)=d+1:=by unfold wrap64;omega
  gi_wp2_with (refine⟨trivial,?_⟩;gi_at_call 380;refine(OZ Fence.wide _ trivial rfl _ _ _ _ _).mono ?_;rintro e w' ⟨rfl,rfl⟩)
  have hW0:∃W0,((((w.alloc (.cells #[.int .i64 base,.int .i64 time,.slice A es.length cap] 77)).alloc (.cells #[] 251)).alloc (.cells #[.slice (some ⟨w.heap.size+1,0,none⟩) 0 0] 78)).alloc (.cells #[.int .i64 base,.int .i64 time,.slice A es.length cap] 77)).alloc (.cells #[.int .i64 (d+1)] 2)=W0:=⟨_,rfl⟩;obtain⟨W0,hW0⟩:=hW0;have hsz:W0.heap.size=w.heap.size+5:=by rw[<-hW0];simp
  have hB0:Below w.heap.size w W0:=by
    rw[<-hW0];exact(((((Below.refl _ w).alloc (Nat.le_refl _) _).alloc aq _).alloc aq _).alloc aq _).alloc aq _
  have at_:∀(W:World) (o:Obj) (k:Nat),k=W.heap.size->(W.alloc o).heap[k]? =some o:=λW o k h=>by subst h;exact World.alloc_heap_new W o
  have keep:∀(W:World) (o o2:Obj) (k:Nat),k<W.heap.size->W.heap[k]? =some o2->(W.alloc o).heap[k]? =some o2:=λW o o2 k h h2=>(Below.heap_alloc W _ k h).trans h2;have bT:Boxed W0 (w.heap.size+1+1) 78 (.slice (some ⟨w.heap.size+1,0,none⟩) 0 0):=by
    rw[<-hW0];exact keep _ _ _ _ aq (keep _ _ _ _ aq (at_ _ _ _ ah))
  have hR:W0.heap[w.heap.size+1]? =some (.cells #[] 251 (0,0)):=by
    rw[<-hW0];exact keep _ _ _ _ aq (keep _ _ _ _ aq (keep _ _ _ _ aq (at_ _ _ _ ah)))
  have hBb:W0.heap[w.heap.size+1+1+1]? =some (.cells #[.int .i64 base,.int .i64 time,.slice A es.length cap] 77 (0,0)):=by
    rw[<-hW0];exact keep _ _ _ _ aq (at_ _ _ _ ah)
  have hBd:W0.heap[w.heap.size+1+1+1+1]? =some (.cells #[.int .i64 (d+1)] 2 (0,0)):=by
    rw[<-hW0];exact at_ _ _ _ ah
  clear at_ keep;have cB:W0.cell? ⟨w.heap.size+1+1+1,2,none⟩=some (.slice A es.length cap):=by simp[World.cell?,hBb]
  have cD:W0.cell? ⟨w.heap.size+1+1+1+1,0,none⟩=some (.int .i64 (d+1)):=by simp[World.cell?,hBd]
  have hrow0:W0.ownsRow w.heap.size 251 4 (.slice (some ⟨w.heap.size+1,0,none⟩) 0 0) 0 []:=⟨rfl,.inr ⟨w.heap.size+1,0, #[],rfl,aa,hR,aa,by decide,rfl,rfl⟩⟩;have hA0:tD w.heap.size W0 A es:=by
    rcases hA with h|⟨b,off,e,hb,hc⟩
    · exact .inl h
    · exact .inr ⟨b,off,e,hb,λk hk j u hu=>(hB0.cell (p:=⟨b,off+k*9+j,none⟩) hb).trans (hc k hk j u hu)⟩
  rw[hW0];clear hW0;refine wpIn_rangeFunc_ownH rfl ae (gf:=424) (lb:= #[.pointer (some ⟨w.heap.size+1+1+1,0,none⟩),.pointer (some ⟨w.heap.size+1+1+1+1,0,none⟩)]) rfl trivial (enters_of func424 ac rfl)
    (QT Fence.wide 9 trivial rfl aa (w.heap.size+1+1+1) (w.heap.size+1+1+1+1) w.heap.size A cap es (d+1) hes W0 aa aa aa cB cD hA0) (λh h'=>h.trans h') (QH aa aa aa) (Below.refl _ _) (λ_=>rfl)
    (λpre W=>(((∃v,Boxed W (w.heap.size+1+1) 78 v/\W.ownsRow w.heap.size 251 4 v pre.length (tM pre)/\True)/\Below w.heap.size w W)/\w.heap.size+5<=W.heap.size)/\(W.heap[w.heap.size+1+1+1]? =some (.cells #[.int .i64 base,.int .i64 time,.slice A es.length cap] 77 (0,0))/\W.heap[w.heap.size+1+1+1+1]? =some (.cells #[.int .i64 (d+1)] 2 (0,0))))
    (λ_ _ _=>False)
    (OwnFrom.and (OwnFrom.and (OwnFrom.and (Own.from (holdsRow_own w.heap.size (w.heap.size+1+1) 78 251 4 (λpre=>pre.length) tM (λ_ _=>True)) _) (ownFrom_below (Nat.le_refl _) aa)) (λ_ X Y row hs hg _=>Nat.le_trans hs hg.size)) (OwnFrom.and (JG _ _ _ _) (JG _ _ _ _)))
    (λ_ _ _ _ _ hs _ _=>hs)
    ⟨⟨⟨⟨_,bT,hrow0,trivial⟩,hB0⟩,aa⟩,hBb,hBd⟩
    (λx a' W=>∃Bx,w.heap.size+1+1+1+1<Bx/\W.heap[Bx]? =some (.cells (jP x) 308 (0,0))/\a'={tmps:= #[.agg #[.int .i64 base,.int .i64 time,.slice A es.length cap],.int .i64 d,.pointer (some ⟨w.heap.size,0,none⟩),undef,.slice none 0 0,.pointer (some ⟨w.heap.size+1+1,0,none⟩),.pointer (some ⟨Bx,0,none⟩),.slice (some ⟨w.heap.size+1,0,none⟩) 0 0,.agg #[.int .i64 base,.int .i64 time,.slice A es.length cap],.int .i64 d,.int .i64 (d+1),.func (.func 424) #[] #[.pointer (some ⟨w.heap.size+1+1+1,0,none⟩),.pointer (some ⟨w.heap.size+1+1+1+1,0,none⟩)],.agg (jP x),undef,undef,undef,undef,undef,undef],defers:=[]})
    (λx a' _ X Y row hs hg hr=>by
      obtain⟨Bx,h1,h2,h3⟩:=hs;refine⟨Bx,h1,(hg.block Bx (Array.getElem?_eq_some_iff.1 h2).1 λe=>?_).trans h2,h3⟩;obtain⟨_,o,ho,hc⟩:=hr Bx e.symm;rw[h2]at ho;cases ho;cases hc)
    ?assign ?body ?done ?stop
  case assign=>
    rintro l pre x W K ⟨⟨⟨⟨v,bv,hr,_⟩,hB1⟩,hs5⟩,hb3,hb4⟩ hK;simp only[jP];gi_wp2
    exact hK _ _ ((KeepsOthers.alloc _ _).from _) (gT.alloc W _ aa aa aa) ⟨⟨⟨⟨v,bv.alloc _,hr.alloc _,trivial⟩,hB1.alloc hB1.size _⟩,aq⟩,(Below.heap_alloc _ _ _ aa).trans hb3,(Below.heap_alloc _ _ _ aa).trans hb4⟩ ⟨W.heap.size,aa,World.alloc_heap_new W _,rfl⟩
  case body=>
    rintro l pre x a' W hl ⟨r,hr⟩ ⟨⟨⟨⟨v,bv,hrow,_⟩,hB1⟩,hs5⟩,hb3,hb4⟩ ⟨Bx,hBx,hbx,rfl⟩ hlt;have cv:=bv.cell;have x0:W.cell? ⟨Bx,0,none⟩=some (.int .i64 x.index):=by simp[World.cell?,hbx,jP]
    have x1:W.cell? ⟨Bx,1,none⟩=some (.int .i64 x.time):=by simp[World.cell?,hbx,jP]
    have x2:W.cell? ⟨Bx,2,none⟩=some (.int .i64 x.client):=by simp[World.cell?,hbx,jP]
    have x3:W.cell? ⟨Bx,3,none⟩=some (.int .i64 x.seq):=by simp[World.cell?,hbx,jP]
    have x4:W.cell? ⟨Bx,4,none⟩=some (.int .i64 x.op.kind):=by simp[World.cell?,hbx,jP]
    have x5:W.cell? ⟨Bx,5,none⟩=some (.int .i64 x.op.a):=by simp[World.cell?,hbx,jP]
    have x6:W.cell? ⟨Bx,6,none⟩=some (.int .i64 x.op.b):=by simp[World.cell?,hbx,jP]
    have x7:W.cell? ⟨Bx,7,none⟩=some (.int .i64 x.op.c):=by simp[World.cell?,hbx,jP]
    have x8:W.cell? ⟨Bx,8,none⟩=some (.int .i64 x.op.d):=by simp[World.cell?,hbx,jP]
    have hmx:Tryz.prog.follows .mixedOrders=true:=ac;obtain⟨i0,hi,hz0,hz1,hz2⟩:=info_parts QF;gi_wp2
    refine wpIn_region_any aj ?_;change wpAnyIn _ _ _ _ _ _ _ _ _ (World.drew _);refine wpAnyIn_ready (rs:=[0,1]) ac ah ?_;refine AllReadyIn.cons rfl (λK hK=>?_) (AllReadyIn.cons rfl (λK hK=>?_) AllReadyIn.nil)
    · go_simp
      refine hK _ _ ?_;clear hK K;refine wpAnyIn_ready (rs:=[1]) ac ah ?_;refine AllReadyIn.cons rfl (λK hK=>?_) AllReadyIn.nil;go_simp
      refine hK _ _ ?_;clear hK K;refine wpAnyIn_ready (rs:=[2]) ac ah ?_;refine AllReadyIn.cons rfl (λK hK=>?_) AllReadyIn.nil;go_simp
      refine⟨trivial,?_⟩;gi_at_call 381
      refine(CallsIn.inRound l (callsIn_wide.2 (tN x _ (zc hgd hB1)))).mono ?_;rintro e w' ⟨rfl,hb⟩;have hbW:Below W.heap.size W w':=w5 hb;obtain⟨v',w4,hrun,hown',hg,_⟩:=run_append_own (P:=Tryz.prog) (w:=w'.alloc (.cells #[.int .i64 (dm x).client,.int .i64 (dm x).seq,.int .i64 (dm x).index,.int .i64 (dm x).last] 251)) w.heap.size 78 78 251 i0 _ 4 32 underlying78 hi hz0 hz1 hz2 rfl ae v pre.length (tM pre) ((mn hrow hbW).alloc _) ⟨w'.heap.size,0,none⟩ 1 1 (nr (dm x)).toList rfl (zk _ _) (by simp[nr,Value.oneCell']) (by unfold maxLen;omega) aa (by have:=hbW.size;have:=hB1.size;simp;omega);obtain⟨g',cap',rfl⟩:=ownsRow_succ hown';obtain⟨f1,f2,f3,f4,f5,f6⟩:=DG (Bb:=w.heap.size+1+1+1) (Bd:=w.heap.size+1+1+1+1) hbW bv hrow hB1.size aa hown' hg hb3 hb4 aa aa;have bv2:Boxed w' (w.heap.size+1+1) 78 v:=(hbW.block _ bv.lt).trans bv;have cv3:=(bv2.alloc (.cells #[.int .i64 (dm x).client,.int .i64 (dm x).seq,.int .i64 (dm x).index,.int .i64 (dm x).last] 251)).cell;have cv2:=(hbW.cell (p:=⟨w.heap.size+1+1,0,none⟩) bv.lt).trans cv;have cv4:=f1.cell;have fv4:=f1.frozen;dsimp only[nr];refine hK _ _ ?_;clear hK K;refine wpAnyIn_ready (rs:=[3]) ac ah ?_;refine AllReadyIn.cons rfl (λK hK=>?_) AllReadyIn.nil;go_simp
      refine hK _ _ ?_;clear hK K;refine wpAnyIn_ready (rs:=[4]) ac ah ?_;refine vN rfl rfl (oV rfl rfl rfl hrun ?_);refine wpAnyIn_ready (rs:=[5]) ac ah ?_;refine AllReadyIn.cons rfl (λK hK=>?_) AllReadyIn.nil;go_simp
      refine hK _ _ ?_;clear hK K;refine wpAnyIn_done ac ?_ _;exact⟨f4.from _,f6,⟨⟨⟨⟨_,f2,by rw[qH,length_append];exact f3,trivial⟩,hB1.trans f5⟩,Nat.le_trans hs5 f5.size⟩,(f6.2 _ (.inr (.inl rfl))).trans hb3,(f6.2 _ (.inr (.inr rfl))).trans hb4⟩⟩
    · go_simp
      refine hK _ _ ?_;clear hK K;refine wpAnyIn_ready (rs:=[0,2]) ac ah ?_;refine AllReadyIn.cons rfl (λK hK=>?_) (AllReadyIn.cons rfl (λK hK=>?_) AllReadyIn.nil)
      · go_simp
        refine hK _ _ ?_;clear hK K;refine wpAnyIn_ready (rs:=[2]) ac ah ?_;refine AllReadyIn.cons rfl (λK hK=>?_) AllReadyIn.nil;go_simp
        refine⟨trivial,?_⟩;gi_at_call 381
        refine(CallsIn.inRound l (callsIn_wide.2 (tN x _ (zc hgd hB1)))).mono ?_;rintro e w' ⟨rfl,hb⟩;have hbW:Below W.heap.size W w':=w5 hb;obtain⟨v',w4,hrun,hown',hg,_⟩:=run_append_own (P:=Tryz.prog) (w:=w'.alloc (.cells #[.int .i64 (dm x).client,.int .i64 (dm x).seq,.int .i64 (dm x).index,.int .i64 (dm x).last] 251)) w.heap.size 78 78 251 i0 _ 4 32 underlying78 hi hz0 hz1 hz2 rfl ae v pre.length (tM pre) ((mn hrow hbW).alloc _) ⟨w'.heap.size,0,none⟩ 1 1 (nr (dm x)).toList rfl (zk _ _) (by simp[nr,Value.oneCell']) (by unfold maxLen;omega) aa (by have:=hbW.size;have:=hB1.size;simp;omega);obtain⟨g',cap',rfl⟩:=ownsRow_succ hown';obtain⟨f1,f2,f3,f4,f5,f6⟩:=DG (Bb:=w.heap.size+1+1+1) (Bd:=w.heap.size+1+1+1+1) hbW bv hrow hB1.size aa hown' hg hb3 hb4 aa aa;have bv2:Boxed w' (w.heap.size+1+1) 78 v:=(hbW.block _ bv.lt).trans bv;have cv3:=(bv2.alloc (.cells #[.int .i64 (dm x).client,.int .i64 (dm x).seq,.int .i64 (dm x).index,.int .i64 (dm x).last] 251)).cell;have cv2:=(hbW.cell (p:=⟨w.heap.size+1+1,0,none⟩) bv.lt).trans cv;have cv4:=f1.cell;have fv4:=f1.frozen;dsimp only[nr];refine hK _ _ ?_;clear hK K;refine wpAnyIn_ready (rs:=[3]) ac ah ?_;refine AllReadyIn.cons rfl (λK hK=>?_) AllReadyIn.nil;go_simp
        refine hK _ _ ?_;clear hK K;refine wpAnyIn_ready (rs:=[4]) ac ah ?_;refine vN rfl rfl (oV rfl rfl rfl hrun ?_);refine wpAnyIn_ready (rs:=[5]) ac ah ?_;refine AllReadyIn.cons rfl (λK hK=>?_) AllReadyIn.nil;go_simp
        refine hK _ _ ?_;clear hK K;refine wpAnyIn_done ac ?_ _;exact⟨f4.from _,f6,⟨⟨⟨⟨_,f2,by rw[qH,length_append];exact f3,trivial⟩,hB1.trans f5⟩,Nat.le_trans hs5 f5.size⟩,(f6.2 _ (.inr (.inl rfl))).trans hb3,(f6.2 _ (.inr (.inr rfl))).trans hb4⟩⟩
      · go_simp
        refine⟨trivial,?_⟩;gi_at_call 381
        refine(CallsIn.inRound l (callsIn_wide.2 (tN x _ (zc hgd hB1)))).mono ?_;rintro e w' ⟨rfl,hb⟩;have hbW:Below W.heap.size W w':=w5 hb;obtain⟨v',w4,hrun,hown',hg,_⟩:=run_append_own (P:=Tryz.prog) (w:=w'.alloc (.cells #[.int .i64 (dm x).client,.int .i64 (dm x).seq,.int .i64 (dm x).index,.int .i64 (dm x).last] 251)) w.heap.size 78 78 251 i0 _ 4 32 underlying78 hi hz0 hz1 hz2 rfl ae v pre.length (tM pre) ((mn hrow hbW).alloc _) ⟨w'.heap.size,0,none⟩ 1 1 (nr (dm x)).toList rfl (zk _ _) (by simp[nr,Value.oneCell']) (by unfold maxLen;omega) aa (by have:=hbW.size;have:=hB1.size;simp;omega);obtain⟨g',cap',rfl⟩:=ownsRow_succ hown';obtain⟨f1,f2,f3,f4,f5,f6⟩:=DG (Bb:=w.heap.size+1+1+1) (Bd:=w.heap.size+1+1+1+1) hbW bv hrow hB1.size aa hown' hg hb3 hb4 aa aa;have bv2:Boxed w' (w.heap.size+1+1) 78 v:=(hbW.block _ bv.lt).trans bv;have cv3:=(bv2.alloc (.cells #[.int .i64 (dm x).client,.int .i64 (dm x).seq,.int .i64 (dm x).index,.int .i64 (dm x).last] 251)).cell;have cv2:=(hbW.cell (p:=⟨w.heap.size+1+1,0,none⟩) bv.lt).trans cv;have cv4:=f1.cell;have fv4:=f1.frozen;dsimp only[nr];refine hK _ _ ?_;clear hK K;refine wpAnyIn_ready (rs:=[0,3]) ac ah ?_;refine AllReadyIn.cons rfl (λK hK=>?_) (AllReadyIn.cons rfl (λK hK=>?_) AllReadyIn.nil)
        · go_simp
          refine hK _ _ ?_;clear hK K;refine wpAnyIn_ready (rs:=[3]) ac ah ?_;refine AllReadyIn.cons rfl (λK hK=>?_) AllReadyIn.nil;go_simp
          refine hK _ _ ?_;clear hK K;refine wpAnyIn_ready (rs:=[4]) ac ah ?_;refine vN rfl rfl (oV rfl rfl rfl hrun ?_);refine wpAnyIn_ready (rs:=[5]) ac ah ?_;refine AllReadyIn.cons rfl (λK hK=>?_) AllReadyIn.nil;go_simp
          refine hK _ _ ?_;clear hK K;refine wpAnyIn_done ac ?_ _;exact⟨f4.from _,f6,⟨⟨⟨⟨_,f2,by rw[qH,length_append];exact f3,trivial⟩,hB1.trans f5⟩,Nat.le_trans hs5 f5.size⟩,(f6.2 _ (.inr (.inl rfl))).trans hb3,(f6.2 _ (.inr (.inr rfl))).trans hb4⟩⟩
        · go_simp
          refine hK _ _ ?_;clear hK K;refine wpAnyIn_ready (rs:=[0]) ac ah ?_;refine AllReadyIn.cons rfl (λK hK=>?_) AllReadyIn.nil;go_simp
          refine hK _ _ ?_;clear hK K;refine wpAnyIn_ready (rs:=[4]) ac ah ?_;refine vN rfl rfl (oV rfl rfl rfl hrun ?_);refine wpAnyIn_ready (rs:=[5]) ac ah ?_;refine AllReadyIn.cons rfl (λK hK=>?_) AllReadyIn.nil;go_simp
          refine hK _ _ ?_;clear hK K;refine wpAnyIn_done ac ?_ _;exact⟨f4.from _,f6,⟨⟨⟨⟨_,f2,by rw[qH,length_append];exact f3,trivial⟩,hB1.trans f5⟩,Nat.le_trans hs5 f5.size⟩,(f6.2 _ (.inr (.inl rfl))).trans hb3,(f6.2 _ (.inr (.inr rfl))).trans hb4⟩⟩
  case done=>
    rintro D zs W hD rfl ⟨⟨⟨⟨v,bv,hrow,_⟩,hB1⟩,hs5⟩,_⟩ hK;have cv:=bv.cell;gi_wp2
    refine⟨by simp,.inl ⟨_,_,rfl,run_takeDeferred hK,?_⟩⟩;exact⟨_,results_tmp rfl _ _ _,_,rfl,hB1.trans (belowK_b (w:=w) (Nat.le_refl _) W D _ _ aa hK rfl rfl),ownsRow_putObj hrow _ hK rfl⟩
  case stop=>
    rintro D c pre W _ _ h _;exact h.elim
theorem JA(b:DBook)(d:Int):jK (d+1) b.entries=gM b d:=rfl
theorem P9(l:List DEntry):tM l=((l.map dm).map λa=>(nr a).toList).flatten:=by simp[tM,List.map_map,Function.comp_def]
theorem Qa{a:DAck}{x:AD}{u:Value}(h1:a.ds[j]? =some x)(h2:(nr a).toList[j]? =some u):ca Z w x u:=by
  match j,h1,h2 with
  |0,h1,h2=>simp[DAck.ds,nr]at h1 h2;subst h1 h2;exact .pv _ rfl
  |1,h1,h2=>simp[DAck.ds,nr]at h1 h2;subst h1 h2;exact .pv _ rfl
  |2,h1,h2=>simp[DAck.ds,nr]at h1 h2;subst h1 h2;exact .pv _ rfl
  |3,h1,h2=>simp[DAck.ds,nr]at h1 h2;subst h1 h2;exact .pv _ rfl
  |n+4,h1,h2=>simp[DAck.ds]at h1
theorem Qb{l:List DAck}(hz:∀b,base<=b->b<w.heap.size->Z b)(h:w.ownsRow base 251 4 v l.length (l.map λa=>(nr a).toList).flatten):ca Z w (.sl (l.map DAck.ds)) v:=by
  have hx:∀x∈l.map DAck.ds,x.length=4:=λx hx=>by obtain⟨a,_,rfl⟩:=mem_map.1 hx;rfl
  have hu:∀u∈l.map (λa=>(nr a).toList),u.length=4:=λu hu=>by obtain⟨a,_,rfl⟩:=mem_map.1 hu;rfl
  have hr:∀(i j:Nat) x u a b,(l.map DAck.ds)[i]? =some x->(l.map λa=>(nr a).toList)[i]? =some u->x[j]? =some a->u[j]? =some b->ca Z w a b:=λi j x u a b h1 h2 h3 h4=>by
    rw[List.getElem?_map]at h1 h2;obtain⟨c,hc,rfl⟩:=Option.map_eq_some_iff.1 h1;obtain⟨c',hc',rfl⟩:=Option.map_eq_some_iff.1 h2;rw[hc]at hc';injection hc' with hc'
    subst hc';exact Qa h3 h4
  rcases h.2 with⟨rfl,h0⟩|⟨g,cap,cur,rfl,hb,hgb,hn,hm,hs,ht⟩
  · have:l=[]:=List.eq_nil_of_length_eq_zero h0;subst this;exact ca.sl [] none 0 4 [] (Nat.le_refl _) ae rfl hx hu (.inl rfl) hr
  · have:=ca.sl (Z:=Z) (w:=w) (l.map DAck.ds) (some ⟨g,0,none⟩) cap 4 (l.map λa=>(nr a).toList) (by simpa using hn) hm ah hx hu (.inr ⟨g,0,rfl,hz g hb (Array.getElem?_eq_some_iff.1 hgb).1,λi u hi=>by
      rw[<-ht,List.getElem?_take]at hi;split at hi
      · simp only[World.cell?,hgb];simpa using hi
      · cases hi⟩) hr
    simpa using this
theorem RX(e:DEntry):∀(j:Nat) (d:AD),e.ds[j]? =some d->∃u,d= .pv u/\(jP e)[j]? =some u:=λj d h=>by
  match j,h with
  |0,h=>simp[DEntry.ds]at h;subst h;exact⟨_,rfl,rfl⟩
  |1,h=>simp[DEntry.ds]at h;subst h;exact⟨_,rfl,rfl⟩
  |2,h=>simp[DEntry.ds]at h;subst h;exact⟨_,rfl,rfl⟩
  |3,h=>simp[DEntry.ds]at h;subst h;exact⟨_,rfl,rfl⟩
  |4,h=>simp[DEntry.ds]at h;subst h;exact⟨_,rfl,rfl⟩
  |5,h=>simp[DEntry.ds]at h;subst h;exact⟨_,rfl,rfl⟩
  |6,h=>simp[DEntry.ds]at h;subst h;exact⟨_,rfl,rfl⟩
  |7,h=>simp[DEntry.ds]at h;subst h;exact⟨_,rfl,rfl⟩
  |8,h=>simp[DEntry.ds]at h;subst h;exact⟨_,rfl,rfl⟩
  |n+9,h=>simp[DEntry.ds]at h
theorem RY(hz:∀b,Z b->b<w.heap.size){es:List DEntry}(h:ca Z w (.sl (es.map DEntry.ds)) v):∃A cap,v= .slice A es.length cap/\tD w.heap.size w A es:=by
  generalize hx:es.map DEntry.ds=xs at h;cases h with
  |sl _ A cap s us hc hm hl hxs hu hr hh=>
    subst hx;refine⟨A,cap,by simp,?_⟩;rcases hr with h0|⟨b,off,rfl,hb,hcell⟩
    · left;cases es with
      |nil=>rfl
      |cons e r=>
        exfalso;cases us with
        |nil=>simp at hl
        |cons u us=>
          have h1:=hxs e.ds ah;have h2:=hu u ah;simp[DEntry.ds]at h1;simp at h0;rw[h0.1]at h2;simp at h2;omega
    · refine .inr ⟨b,off,rfl,hz b hb,λk hk j u hj=>?_⟩;have hs:s=9:=by
        have:=hxs (es[k]).ds (mem_map.2 ⟨_,List.getElem_mem hk,rfl⟩);simpa[DEntry.ds]using this.symm
      subst hs;have hku:k<us.length:=by rw[hl];simpa using hk
      have hul:us[k].length=9:=hu _ (List.getElem_mem hku);have hj9:j<9:=by
        have:=(Array.getElem?_eq_some_iff.1 hj).1;simpa[jP]using this
      have hdj:j<(es[k]).ds.length:=by simpa[DEntry.ds]using hj9
      obtain⟨u',e1,e2⟩:=RX es[k] j _ (getElem?_eq_getElem hdj);rw[hj]at e2;injection e2 with e2
      subst e2;have hrel:=hh k j (es[k]).ds us[k] _ (us[k]'hku)[j] (by simp[hk]) (getElem?_eq_getElem hku) (getElem?_eq_getElem hdj) (getElem?_eq_getElem aa);rw[e1]at hrel;have e3:(us[k]'hku)[j]=u:=by cases hrel;rfl
      have hf:=xW hu (getElem?_eq_getElem hku) hj9;have hg:(us[k]'hku)[j]? =some u:=by rw[getElem?_eq_getElem aa,e3]
      rw[hg]at hf;have:=hcell _ _ hf;rwa[<-Nat.add_assoc]at this
theorem QU:PL:=λb d hb h1 h2=>by
  have hp:=ft hb;have hq:=hG hb;refine⟨call329,λZ w us hz hg hul hr=>?_⟩;match us,hul with
  |[],hul=>simp at hul
  |[_],hul=>simp at hul
  |_::_::_::_,hul=>simp at hul
  |[u,t],hul=>
    obtain⟨cs,rfl,hcl,hcr⟩:=hr 0 _ u rfl rfl;have ht:t= .int .i64 d:=vO rfl (show ca Z w (dI d) t from hr 1 _ t rfl rfl);subst ht;match cs,hcl with
    |[],hcl=>simp[DBook.ds]at hcl
    |[_],hcl=>simp[DBook.ds]at hcl
    |[_,_],hcl=>simp[DBook.ds]at hcl
    |_::_::_::_::_,hcl=>simp[DBook.ds]at hcl
    |[c0,c1,c2],hcl=>
      have e0:c0= .int .i64 b.base:=vO rfl (show ca Z w (dI b.base) c0 from hcr 0 _ c0 rfl rfl);have e1:c1= .int .i64 b.time:=vO rfl (show ca Z w (dI b.time) c1 from hcr 1 _ c1 rfl rfl);subst e0 e1;obtain⟨A,cap,rfl,hA⟩:=RY hz (show ca Z w (.sl (b.entries.map DEntry.ds)) c2 from hcr 2 _ c2 rfl rfl);refine Calls.mono (callsIn_wide.1 (Sv b.base b.time d A cap b.entries hp.2.2.1 ⟨aa,aa⟩ w (by obtain⟨w1,g1,g2,_⟩:=hg;exact⟨w1,g1,g2⟩) hA)) ?_;rintro e w' ⟨v,rfl,hbl,hrow⟩;refine⟨v,λb=>Z b\/(w.heap.size<=b/\b<w'.heap.size),rfl,hbl,λb h=> .inl h,λb h=>h,?_⟩;rw[JA,P9]at hrow;exact Qb (base:=w.heap.size) (λb h1 h2=> .inr ⟨h1,h2⟩) (by simpa using hrow)
end
section
open Go.Proofs.Tryz
open Go.ChangeShapes Go.WideShapes Go.RowKit
variable {b:Bool}{w:DWorld}
def qX:List (List Nat):=cz [0,1,0,3,0,0,1318982,416663998597]
def q5:List (List Nat):=eK 6 [720,721,656,665,566,242]
def pS:List (List Nat):=cz [0,1,129,12354,1056835,12354,5419311366,207267586309,35532366946371,0x90c1087184148,0x2881441870810c9,0xb2430421c610520a,0xb2430421c610520a,0x34a2051061c204324b,0x30a2051061c204324b38d,0xb2430421c610520a3cd38c,0x2430421c610521030e34f28b,0x112ca3cd38c4081441870810c9]
def p4:List (List Nat):=eK 14 [0,1,4,499,526,229,364,1093,3280,9841,29524,4340101,442867,974308]
theorem Af(a b:DView)(ha:a.jobs.opens.length<=9223372036854775806):aL av 375 [.agg a.ds,.agg b.ds] (rB (decide (a=b))):=by
  refine pO func375 call375 ntmps375 results375 λS=>?_;conv=>whnf
  repeat'(first|refine awz ?_|fail)
  refine Z5 aM 1 6 qX q5 4 1 4 ac ac ac rfl ⟨_,rfl,rfl,rfl,rfl⟩ rfl rfl rfl rfl rfl ?_;conv=>whnf
  skip
  refine⟨_,_,_,_,_,?o1,rfl,rfl,rfl,rfl,rfl,?hst,?hk⟩
  case hst=>
    conv=>whnf
  conv=>whnf
  refine⟨rfl,?_,?_⟩
  · repeat'(first|exact trivial|exact⟨rfl,rfl⟩|(refine⟨?_,?_⟩)|fail)
  conv=>whnf
  repeat'((first|refine awz ?_|refine cP (GS a.jobs.opens b.jobs.opens ha) ?_|refine tB ?_ ?_|intro h)<;>conv=>whnf)
  all_goals
    refine bM ?_;obtain⟨⟨i1,t1,h1,e1,l1,o1⟩⟩:=a;obtain⟨⟨i2,t2,h2,e2,l2,o2⟩⟩:=b;simp_all[DView.mk.injEq,DJobs.mk.injEq]
theorem K7{a b:DSched}:a=b↔(a.id=b.id/\a.seq=b.seq/\a.view=b.view/\a.busy=b.busy/\a.op=b.op/\a.index=b.index):=by
  cases a;cases b;simp[DSched.mk.injEq]
theorem yi(a b:DSched)(ha:a.view.jobs.opens.length<=9223372036854775806):aL av 321 [.agg a.ds,.agg b.ds] (rB (decide (a=b))):=by
  refine pO func321 call321 ntmps321 results321 λS=>?_;conv=>whnf
  repeat'((first|refine awz ?_|refine cP (Af a.view b.view ha) ?_|refine Yb (pX a.op b.op) rfl rfl rfl rfl rfl ?_|refine tB ?_ ?_|intro h)<;>conv=>whnf)
  all_goals
    refine bM ?_;rw[Bool.eq_iff_iff,decide_eq_true_iff,K7];simp_all
def qe(id:Int):DSched:=if jG id then xq id else xq 0
theorem z6(id:Int):aL av 322 [.one (dI id)] (.val (.agg (qe id).ds)):=by
  refine pO func322 call322 ntmps322 results322 λS=>?_;conv=>whnf
  repeat'((first|refine awz ?_|refine cP (jn _) ?_|refine tB ?_ ?_|intro h)<;>conv=>whnf)
  all_goals simp_all[qe,xq,DSched.ds,op0]
theorem nz(s:DSched)(id:Int)(up:Bool)(hs:s.view.jobs.opens.length<=9223372036854775806):aL av 257 [.agg s.ds,.one (dI id),.one (dB up)] (rB (fd s id up)):=by
  refine pO func257 call257 ntmps257 results257 λS=>?_;conv=>whnf
  repeat'((first|refine awz ?_|refine XB aM 1 14 pS p4 ac ac ac rfl ?_|refine cP (C3 s) ?_|refine cP (z6 _) ?_|refine cP (yi s (qe id) hs) ?_|refine tB ?_ ?_|intro h)<;>conv=>whnf)
  all_goals
    refine bM ?_;first
      |(simp_all[fd];done)
      | (have e : qe id = xq id := by simp_all [qe, jV]
         simp_all[fd];rw[Bool.eq_iff_iff];simp;done)
theorem sC(s:DSched):aL av 144 [.agg s.ds] (rB (decide (s=xq s.id))):=by
  refine pO func144 call144 ntmps144 results144 λS=>?_;conv=>whnf
  repeat'((first|refine awz ?_|refine Yb (pX s.op op0) rfl rfl rfl rfl rfl ?_|refine tB ?_ ?_|intro h)<;>conv=>whnf)
  all_goals
    refine bM ?_;obtain⟨i,q,⟨⟨a,b,c,d,e,l⟩⟩,u,o,x⟩:=s;rw[Bool.eq_iff_iff,decide_eq_true_iff,K7];simp_all[xq,DView.mk.injEq,DJobs.mk.injEq]
theorem o4(s:DSched)(id:Int)(up:Bool):aL av 66 [.agg s.ds,.one (dI id),.one (dB up)] (rB (fd s id up)):=by
  refine pO func66 call66 ntmps66 results66 λS=>?_;conv=>whnf
  repeat'((first|refine awz ?_|refine cP (D3 s) ?_|refine cP (sC s) ?_|refine tB ?_ ?_|intro h)<;>conv=>whnf)
  all_goals
    refine bM ?_;first
      |(simp_all[fd];done)
      |(simp_all[fd];rw[Bool.eq_iff_iff];simp;done)
def lq:List (List Nat):=cz [0,1,0,3,259,20676,2165850309,486456451138,35322986508615,0x91c50c4181088,35322986508615,0xb1c50c4181088,0x3080811840c51cb,0xd2c714310604220c,0x2880811840c51c938c2cd,0x80811840c51cf34b30e24a,0x40a24e30b34f1c50c4181088]
def lr:List (List Nat):=eK 14 [720,721,8,17,44,125,364,1093,4727200,4733761,55768,114817,291964,823405]
def ta:List (List Nat):=cz [0,1,129,12354,1056835,84676740,6510088389,84676740,8657572037,623894601992,44534549721417,0x71430421062c920a,0x30a2092c6102043147,0x50c108434718b24828c,0x38c28824b1873440810c5,0xf14304210d1c62c920a30e,0x40e30a2092c61cd10204314f,0xf14304210d1c62c920a30e,0x48e30a2092c61cd10204314f,0x133c50c108434718b24828c392,0x51238c28824b1873440810c53d3,0x113c50c108434718b24828c390553494,0x59449355038c28824b1873440810c53d1,0xf14304210d1c62c920a30e5d14154d2516]
def tx:List (List Nat):=eK 21 [0,1,4,13,40,175081,175324,2065,4252,10813,30496,88573,265720,797161,2391484,10338387493,10352736400,121965709,251105872,638526361,1800787828]
def tc:List (List Nat):=cz [0,1,0,3,259,20676,2165850309,486456451138,35322986508615,0x91c50c4181088,0x2880811840c51c9,0x91c50c4181088,0x3080811840c51c9,0xd24714310604220c,0x38c20204610314724d,0xb24714310604220a3cd30e,0x40e30d3ca20204610314724b,0x91c50c418108844b28f34c390]
def tz:List (List Nat):=eK 15 [720,721,8,17,44,125,364,1093,3280,14181601,14201284,167305,344452,875893,2470216]
theorem fX(h:w.up.length=6){k:Nat}(hk:k<6):(w.up.map eB)[k]? =some [dB (ju w k)]:=by
  have hl:k<w.up.length:=aa;rw[List.getElem?_map,List.getElem?_eq_getElem hl];simp[ju,List.getD_eq_getElem?_getD,hl]
theorem Sl(h:(((w.up.map eB).length:Int) !=6)=false):w.up.length=6:=by
  simp at h;omega
theorem v4{n:DLogNode}(h:XT 1048576 n):tE n:=by
  obtain⟨⟨⟨h1,h2,h3,h4⟩,g1,g2,g3,g4⟩,k1,k2,k3,k4,k5⟩:=h;simp only[XW,X5]at k1 k2 k3;exact⟨aa,λy hy=>by have:=h2 y hy;omega,aa,λy hy=>by have:y.row.length<=1048576:=h4 y hy;omega,aa,λy hy=>by have:=g2 y hy;omega,aa,λy hy=>by have:y.row.length<=1048576:=g4 y hy;omega,aa,aa,aa,aa,aa⟩
def Km(two:DTwo):DLogNode:=⟨two,g9,g9,false,⟨0,0,[]⟩,[],0,[]⟩
theorem Dn(n:DLogNode):rv n=(eO n.two&&decide (n=Km n.two)):=by
  show(eO n.two&&(n==Km n.two))=_;rw[Bs]
theorem wL(n:DLogNode):aL av 140 [.agg n.ds] (rB (rv n)):=by
  rw[Dn];refine pO func140 call140 ntmps140 results140 λS=>?_;conv=>whnf
  repeat'((first|refine awz ?_|refine cP (eJ n.two) ?_|refine cP (lk n.head) ?_|refine cP (lk n.nxt) ?_|refine tB ?_ ?_|intro h)<;>conv=>whnf)
  all_goals
    refine bM ?_;rw[Bool.eq_iff_iff];simp only[decide_eq_true_iff,Bool.and_eq_true,QJ,Km,Nv];simp_all
theorem GR(n:DLogNode)(up:Bool)(hs:tE n):aL av 64 [.agg n.ds,.one (dB up)] (rB (if up then mM n else rv n)):=by
  refine pO func64 call64 ntmps64 results64 λS=>?_;conv=>whnf
  repeat'((first|refine awz ?_|refine cP (KV n hs.head hs.owe hs.seen hs.nxt) ?_|refine cP (wL n) ?_|refine tB ?_ ?_|intro h)<;>conv=>whnf)
  all_goals
    refine bM ?_;simp_all
theorem C9(how:PL)(w:DWorld)(h6:w.up.length=6)(hs:tE w.log):aL av 177 [.agg w.ds] (rB (if ju w 0 then mM w.log else rv w.log)):=by
  rw[Dn];refine pO func177 call177 ntmps177 results177 λS=>?_;conv=>whnf
  repeat'((first|refine awz ?_|refine Xw 0 _ rfl (fX h6 ae) ?_|refine cP (JI how w.log hs) ?_|refine cP (om w.log.two) ?_|refine cP (C2 w.log (Km w.log.two) hs) ?_|refine tB ?_ ?_|intro h)<;>conv=>whnf)
  all_goals
    refine bM ?_;simp_all
theorem ym(w:DWorld)(h6:w.up.length=6)(hs:w.store.state.pairs.length<=9223372036854775806)(hj:w.store.state.jobs.length<=9223372036854775806):aL av 178 [.agg w.ds] (rB (if ju w 1 then jJ w.store else kD w.store)):=by
  refine pO func178 call178 ntmps178 results178 λS=>?_;conv=>whnf
  repeat'((first|refine awz ?_|refine Xw 1 _ rfl (fX h6 ae) ?_|refine cP (C5 w.store hs) ?_|refine cP (ia w.store.disk) ?_|refine cP (ye w.store.state gZ hs ae hj) ?_|refine tB ?_ ?_|intro h)<;>conv=>whnf)
  all_goals
    refine bM ?_;try simp only[Tz]at*
    first
      |(simp_all;done)
      | (rw [Bool.eq_iff_iff]
         simp[kD,Li];simp_all;done)
theorem yk(w:DWorld)(h6:w.up.length=6)(h1:w.left.view.jobs.opens.length<=9223372036854775806)(h2:w.right.view.jobs.opens.length<=9223372036854775806):aL av 176 [.agg w.ds] (rB (fd w.left 2 (ju w 2)&&fd w.right 3 (ju w 3))):=by
  refine pO func176 call176 ntmps176 results176 λS=>?_;conv=>whnf
  repeat'((first|refine awz ?_|refine XB aM 1 14 lq lr ac ac ac rfl ?_|refine Xw 2 _ rfl (fX h6 ae) ?_|refine Xw 3 _ rfl (fX h6 ae) ?_|refine cP (nz w.left _ _ h1) ?_|refine cP (nz w.right _ _ h2) ?_|refine tB ?_ ?_|intro h)<;>conv=>whnf)
  all_goals
    refine bM ?_;simp_all
theorem wA(w:DWorld)(h6:w.up.length=6)(h1:w.ann.todo.length<=9223372036854775806/\w.ann.gots.length<=9223372036854775806)(h2:w.bob.todo.length<=9223372036854775806/\w.bob.gots.length<=9223372036854775806):aL av 175 [.agg w.ds] (rB (ju w 4&&ju w 5&&fB w.ann&&w.ann.id==4&&fB w.bob&&w.bob.id==5)):=by
  refine pO func175 call175 ntmps175 results175 λS=>?_;conv=>whnf
  repeat'((first|refine awz ?_|refine Xw 4 _ rfl (fX h6 ae) ?_|refine Xw 5 _ rfl (fX h6 ae) ?_|refine cP (oM w.ann h1.1 h1.2) ?_|refine cP (oM w.bob h2.1 h2.2) ?_|refine tB ?_ ?_|intro h)<;>conv=>whnf)
  all_goals
    refine bM ?_;simp_all
theorem TN(h:(((w.up.map eB).length:Int) !=6)=true):¬w.up.length=6:=by
  simp at h;omega
theorem TX(h:(((w.clocks.map eI).length:Int) !=6)=true):¬w.clocks.length=6:=by
  simp at h;omega
theorem VU(h:(((w.clocks.map eI).length:Int) !=6)=false):w.clocks.length=6:=by
  simp at h;omega
theorem Sy(w:World)(xs:Array Value)(i:Nat)(v:Value)(h:xs[i]? =some v):(part 118 xs i).run Tryz.prog w= .ok v w:=by
  simp[part,isAgg118,sizeOf118,h]
theorem YT{S:bR}{st:ASt}{o:Oper}{x i:Operand}{K:ASt->Prop}{ds:List AD}{n:Nat}{v:Value}(ho:o.op= .index 269 x i)(hx:aEv st x λy=>y= .agg (ds.map .d))(hi:aEv st i λy=>y=vI .i64 (n:Int))(hd:ds.all AD.isPv=true)(hn:n<4)(hv:(ds.map Bh)[n]? =some v)(h1:v.oneCell'=true)(hk:eA st o.dst (.one (.d (.pv v))) K):AOp av S o st K:=by
  refine .reads λZ ρ a w hs=>?_;obtain⟨u,hu,rfl⟩:=bq hs hx;obtain⟨z,hz,rfl⟩:=bq hs hi;have e1:=yD hd hu;have e2:=cM hz;have hp:=Sy w (ds.map Bh).toArray n v (by simpa using hv);refine⟨.one (.d (.pv v)),v,cU h1,?_,hk⟩;have hlt:(0:Int)<=(n:Int)/\(n:Int)<4:=⟨aa,aa⟩;simp[execOp,ho,e1,e2,Instr.index,asIntOf,av,run_underlying underlying269,sizeOf118,hn,hp]
theorem jy(w:DWorld):hE w=(hI w.clocks&&decide (w.up.length=6)&&qd w.net&&(ju w 4&&ju w 5&&fB w.ann&&w.ann.id==4&&fB w.bob&&w.bob.id==5)&&(fd w.left 2 (ju w 2)&&fd w.right 3 (ju w 3))&&(if ju w 0 then mM w.log else rv w.log)&&(if ju w 1 then jJ w.store else kD w.store)):=by
  simp only[hE,Bool.and_assoc]
theorem Kz(h:(!b)=true):b=false:=by rwa[Bool.not_eq_true']at h
theorem Ar(h:(!b)=false):b=true:=by rwa[Bool.not_eq_false']at h
def NB:List AD:=[.pv (.func (.func 175) #[] #[]),.pv (.func (.func 176) #[] #[]),.pv (.func (.func 177) #[] #[]),.pv (.func (.func 178) #[] #[])]
theorem xf(w:DWorld)(hs:XO 1048576 w):aL av 91 [.agg w.ds] (rB (hE w)):=by
  obtain⟨s1,⟨_,s2⟩,s3,s4,s5,s6,s7,s8⟩:=hs;simp only[X1,XZ,X6,Ya,XU]at s2 s3 s4 s5 s6;refine pO func91 call91 ntmps91 results91 λS=>?_;conv=>whnf
  repeat'((first|refine awz ?_|refine cP (z5 w.clocks) ?_|refine cP (JL w.net) ?_|refine tB ?_ ?_|intro h)<;>conv=>whnf)
  all_goals first
    | (have hno := TN h
       refine bM ?_;simp_all[hE];done)
    | (refine bM ?_
       simp_all[hE];done)
    |skip
  have h6:w.up.length=6:=Sl aj;have hc:hI w.clocks=true:=by
    have:(!hI w.clocks)=false:=aj;rwa[Bool.not_eq_false']at this
  have hn:qd w.net=true:=by rwa[Bool.not_eq_false']at h
  refine X7 5 ?_;conv=>whnf
  repeat'((first|refine awz ?_|refine YT (ds:=NB) (n:=0) rfl rfl rfl rfl ae rfl rfl ?_|refine YT (ds:=NB) (n:=1) rfl rfl rfl rfl ae rfl rfl ?_|refine YT (ds:=NB) (n:=2) rfl rfl rfl rfl ae rfl rfl ?_|refine YT (ds:=NB) (n:=3) rfl rfl rfl rfl ae rfl rfl ?_|refine cP (wA w h6 ⟨aa,aa⟩ ⟨aa,aa⟩) ?_|refine cP (yk w h6 aa aa) ?_|refine cP (C9 QU w h6 (v4 s1)) ?_|refine cP (ym w h6 aa aa) ?_|refine Xz ae ae ?_|refine tB ?_ ?_|intro h)<;>conv=>whnf)
  all_goals
    refine bM ?_;rw[jy];simp only[hc,hn,h6,decide_true,Bool.true_and];first
      |(simp only[Kz h,Bool.false_and,Bool.and_false];done)
      | (have e := Kz h
         rw[e];simp only[Bool.and_false];done)
      | (have e1 := Ar h
         simp_all;done)
      |skip
theorem D7(w:DWorld)(hs:XO 1048576 w):aL av 18 [.agg w.ds] (rB (hE w)):=by
  obtain⟨s1,⟨_,s2⟩,s3,s4,s5,s6,s7,s8⟩:=hs;simp only[X1,XZ,X6,Ya,XU]at s2 s3 s4 s5 s6;refine pO func18 call18 ntmps18 results18 λS=>?_;conv=>whnf
  repeat'((first|refine awz ?_|refine Xw 4 _ rfl (fX (Sl aj) ae) ?_|refine Xw 5 _ rfl (fX (Sl aj) ae) ?_|refine tB ?_ ?_|intro h)<;>conv=>whnf)
  all_goals first
    | (have hno := TN h
       refine bM ?_;rw[jy];simp only[hno,decide_false,Bool.and_false,Bool.false_and];done)
    | (have hno := TX h
       refine bM ?_;rw[jy];simp only[hI,hno,decide_false,Bool.and_false,Bool.false_and];done)
    | (refine bM ?_
       rw[jy];simp only[Kz h,Bool.and_false,Bool.false_and];done)
    |skip
  have h6:w.up.length=6:=Sl aj;have hc6:w.clocks.length=6:=VU aj;have u4:ju w 4=true:=by
    have:(!ju w 4)=false:=aj;exact Ar this
  have u5:ju w 5=true:=Ar h;repeat'((first|refine awz ?_|refine XB aM 3 21 ta tx ac ac ac rfl ?_|refine XB aM 5 15 tc tz ac ac ac rfl ?_|refine Xw 0 _ rfl (fX h6 ae) ?_|refine Xw 1 _ rfl (fX h6 ae) ?_|refine Xw 2 _ rfl (fX h6 ae) ?_|refine Xw 3 _ rfl (fX h6 ae) ?_|refine cP (yO w.clocks hc6) ?_|refine cP (GR w.log _ (v4 s1)) ?_|refine cP (A5 w.store _ aa aa) ?_|refine cP (o4 w.left _ _) ?_|refine cP (o4 w.right _ _) ?_|refine cP (oX w.ann aa aa) ?_|refine cP (oX w.bob aa aa) ?_|refine cP (KY w.net) ?_|refine tB ?_ ?_|intro h)<;>conv=>whnf)
  all_goals
    refine bM ?_;rw[jy];simp only[h6,u4,u5,decide_true,Bool.true_and,Bool.and_true];first
      |(simp only[Kz h,Bool.false_and,Bool.and_false];done)
      | (have e := Kz h
         rw[e];simp only[Bool.and_false,Bool.false_and];done)
      |(simp_all;done)
      | (have b1 : hI w.clocks = true := Ar aj
         have b2:(if ju w 0=true then mM w.log else rv w.log)=true:=Ar aj;have b3:(if ju w 1=true then jJ w.store else kD w.store)=true:=Ar aj;have b4:fd w.left 2 (ju w 2)=true:=Ar aj;have b5:fd w.right 3 (ju w 3)=true:=Ar aj;have b6:fB w.ann=true:=aj;have b7:(w.ann.id==4)=true:=aj;have b8:fB w.bob=true:=aj;have b9:(w.bob.id==5)=true:=aj;simp only[b1,b2,b3,b4,b5,b6,b7,b8,b9,Bool.and_true,Bool.true_and])
end
section
section
open Go.RowKit
inductive AA where
 |one (c:AC)
 |agg (cs:List AC)
inductive AR where
 |val (a:AA)
 |tup (l:List AA)
def AA.v:AA->AV
 | .one c=> .one c
 | .agg cs=> .agg cs
def AR.v:AR->AV
 | .val a=>a.v
 | .tup l=> .tup (l.map AA.v)
def tT(w:World)(Z:Nat->Prop)(ρ:Nat->Value)(pre:List (Nat×AO)):bR:=⟨w,λb=>∃id o,bo pre id=some o/\bZ (ρ id)=some b,Z⟩
structure gc (E:bz) (f:FuncId) (args:List AA) (pre post:List (Nat×AO)) (keep:List Nat) (res:AR):Prop where
 enter:∀(us:Array Value) w,(callFunc f us).run E.P w= .ok (.enter f us) w
 run:∀(Z:Nat->Prop) (w:World) (ρ:Nat->Value) (us:List Value),WS E.W (tT w Z ρ pre) Z w ρ pre->us.length=args.length->(∀(i:Nat) x u,args[i]? =some x->us[i]? =some u->cn Z w ρ x.v u)->
  Calls E.P f us.toArray w λe w'=>∃v Z' ρ',e= .returned v/\WS E.W (tT w Z ρ pre) Z' w' ρ' post/\(∀id∈keep,ρ' id=ρ id)/\cn Z' w' ρ' res.v v
def iW:List (Nat×AO)->Nat->Bool
 |[],_=>false
 |(k,_)::r,i=>match Nat.beq k i with
  |true=>true
  |false=>iW r i
theorem fZ:∀{l:List (Nat×AO)} {i:Nat},iW l i=true↔∃o,bo l i=some o
 |[],i=>by simp[iW,bo]
 |(k,o)::r,i=>by
  simp only[iW,bo];cases e:Nat.beq k i with
  |true=>rw[if_pos (Nat.eq_of_beq_eq_true e)];simp
  |false=>rw[if_neg (Nat.ne_of_beq_eq_false e)];exact fZ
theorem PQ{l:List (Nat×AO)}{i:Nat}(h:iW l i=false):bo l i=none:=by
 cases e:bo l i with
 |none=>rfl
 |some o=>rw[fZ.2 ⟨o,e⟩]at h;cases h
def Cc(post ob:List (Nat×AO))(c:AC)(K:AC->Prop):Prop:=
 match c with
 | .own id=>match iW post id with
  |true=>K (.own id)
  |false=>aOb ob id λo=>match o with
   | .row _ _ xs=>K (.d (.sl xs))
   |_=>False
 | .ref id k s off=>match iW post id with
  |true=>K (.ref id k s off)
  |false=>False
 |c=>K c
def LQ(post ob:List (Nat×AO)):List AC->(List AC->Prop)->Prop
 |[],K=>K []
 |c::r,K=>Cc post ob c λc=>LQ post ob r λr=>K (c::r)
def PU(post ob:List (Nat×AO))(x:AV)(K:AA->Prop):Prop:=
 match x with
 | .one c=>Cc post ob c λc=>K (.one c)
 | .agg cs=>LQ post ob cs λcs=>K (.agg cs)
 | .tup _=>False
def Ba(Z:Nat->Prop)(ρ:Nat->Value)(ob post:List (Nat×AO))(b:Nat):Prop:=Z b\/∃id o,bo ob id=some o/\iW post id=false/\bZ (ρ id)=some b
section
variable {T:World->Prop} {S:bR} {Z:Nat->Prop} {w:World} {ρ:Nat->Value} {ob post:List (Nat×AO)}
theorem Fj(h:WS T S Z w ρ ob){c:AC}{K:AC->Prop}{v:Value}(hv:dN Z w ρ c v)(hk:Cc post ob c K):∃c',dN (Ba Z ρ ob post) w ρ c' v/\K c':=by
 have upb:∀b,Z b->Ba Z ρ ob post b:=λb hb=> .inl hb;have up:∀{d:AD} {v:Value},ca Z w d v->ca (Ba Z ρ ob post) w d v:=λhd=>hd.mono upb λ_ _=>rfl;cases c with
 |own id=>
  cases e:iW post id with
  |true=>simp only[Cc,e]at hk;exact⟨.own id,hv,hk⟩
  |false=>
   simp only[Cc,e]at hk;obtain⟨o,ho,hk⟩:=cm hk;split at hk
   ·rename_i e' s xs;obtain⟨us,h0,hl,hxs,hus,hown,hd⟩:=h.obj id _ ho;refine⟨.d (.sl xs),?_,hk⟩;have hv:v=ρ id:=hv.1;subst hv;show ca (Ba Z ρ ob post) w (.sl xs) (ρ id);rcases hown.2 with⟨hv,hn⟩|⟨g,cap,cur,hv,_,hg,h1,h2,h3,h4⟩
    ·have:xs=[]:=List.eq_nil_of_length_eq_zero hn;subst this;rw[hv];exact .sl [] none 0 0 [] (Nat.le_refl _) (Nat.zero_le _) rfl ah ah (.inl rfl) ah
    ·rw[hv];refine .sl xs _ cap s us h1 h2 hl hxs hus (.inr ⟨g,0,rfl,.inr ⟨id,_,ho,e,by rw[hv];rfl⟩,λi u hu=>?_⟩) λi j x u a b e1 e2 e3 e4=>up (hd i j x u a b e1 e2 e3 e4);rw[Nat.zero_add];exact mP hown (by rw[hv];rfl) hu
   ·exact hk.elim
 |ref id k s off=>
  cases e:iW post id with
  |true=>simp only[Cc,e]at hk;exact⟨.ref id k s off,hv,hk⟩
  |false=>simp only[Cc,e]at hk
 |_=>exact⟨_,dN.mono upb (λ_ _=>rfl) hv,hk⟩
theorem Cd(h:WS T S Z w ρ ob):∀{cs:List AC} {us:List Value} {K:List AC->Prop},BK Z w ρ cs us->LQ post ob cs K->∃ds,us.length=ds.length/\(∀(i:Nat) d u,ds[i]? =some d->us[i]? =some u->dN (Ba Z ρ ob post) w ρ d u)/\K ds
 |[],us,K,hr,hk=>⟨[],hr.1,by simp,hk⟩
 |c::r,[],K,hr,hk=>by have:=hr.1;simp at this
 |c::r,u::us,K,hr,hk=>by
  obtain⟨d,hd,hk⟩:=Fj h (hr.2 0 c u rfl rfl) hk;obtain⟨ds,hl,hds,hk⟩:=Cd h (cs:=r) (us:=us) ⟨by simpa using hr.1,λi c u h1 h2=>hr.2 (i+1) c u (by simpa using h1) (by simpa using h2)⟩ hk;refine⟨d::ds,by simp[hl],λi x y h1 h2=>?_,hk⟩;cases i with
  |zero=>simp at h1 h2;subst h1 h2;exact hd
  |succ i=>exact hds i x y (by simpa using h1) (by simpa using h2)
theorem Fl(h:WS T S Z w ρ ob){x:AV}{K:AA->Prop}{v:Value}(hv:cn Z w ρ x v)(hk:PU post ob x K):∃p,cn (Ba Z ρ ob post) w ρ p.v v/\K p:=by
 cases hv with
 |one c v hv=>obtain⟨d,hd,hk⟩:=Fj (K:=λc=>K (.one c)) h hv hk;exact⟨.one d,.one _ _ hd,hk⟩
 |agg cs us hl hr=>obtain⟨ds,h1,h2,hk⟩:=Cd (K:=λcs=>K (.agg cs)) h ⟨hl,hr⟩ hk;exact⟨.agg ds,.agg _ _ h1 h2,hk⟩
 |tup vs us hl hr=>exact hk.elim
theorem WS.out(h:WS T S Z w ρ ob)(hs:aI ob post):WS T S (Ba Z ρ ob post) w ρ post:=by
 have h':=h.sub hs;refine⟨h.os,h.tape,h.output,h.size,h.old,?_,λid o b ho hb=>⟨?_,(h'.mine id o b ho hb).2⟩,h'.sep,λid o ho=>(h'.obj id o ho).mono (λb hb=> .inl hb) (λ_ _=>rfl) λ_ _=>rfl,⟨λid P Q ho=>⟨λb hb=>?_,(h.many.ok id P Q (hs _ _ ho)).2⟩,λi j P Q P' Q' hi hj=>h.many.sep i j P Q P' Q' (hs _ _ hi) (hs _ _ hj)⟩,?_,λb hb=> .inl (h.z0 b hb),?_⟩
 ·rintro b (hb|⟨id,o,ho,_,hb⟩)
  ·exact h.zlt b hb
  ·exact h.lt ho hb
 ·rintro(hz|⟨id2,o2,ho2,hn,hb2⟩)
  ·exact(h'.mine id o b ho hb).1 hz
  ·refine h.sep id id2 o o2 b (hs id o ho) ho2 (λe=>?_) hb hb2;subst e;rw[fZ.2 ⟨o,ho⟩]at hn;cases hn
 ·obtain⟨h1,h2,h3,h4⟩:=(h.many.ok id P Q (hs _ _ ho)).1 b hb;refine⟨h1,?_,h3,λj o hj=>h4 j o (hs _ _ hj)⟩;rintro(hz|⟨id2,o2,ho2,_,hb2⟩)
  ·exact h2 hz
  ·exact h4 id2 o2 ho2 hb2
 ·obtain⟨w1,g1,g2,g3⟩:=h.g;exact⟨w1,g1,g2,λb hb=> .inl (g3 b hb)⟩
 ·rintro b (hb|⟨id,o,ho,_,hb⟩)
  ·exact h.znew b hb
  ·exact .inr (h.mine id o b ho hb).2
end
section
variable {E:bz} {S:bR} {st:ASt}
def LR(E:bz)(st:ASt)(post:List (Nat×AO))(r:ResultVar)(K:AA->Prop):Prop:=
 match r with
 | .tmp t=>aTm st.tm t λv=>PU post st.ob v K
 | .cell t ty=>aTm st.tm t λx=>tI E st ty x λv=>PU post st.ob v K
def LS(E:bz)(st:ASt)(post:List (Nat×AO)):List ResultVar->(List AA->Prop)->Prop
 |[],K=>K []
 |r::rs,K=>LR E st post r λp=>LS E st post rs λps=>K (p::ps)
def Fs(E:bz)(st:ASt)(post:List (Nat×AO))(rs:List ResultVar)(K:AR->Prop):Prop:=
 match rs with
 |[r]=>LR E st post r λp=>K (.val p)
 |rs=>LS E st post rs λps=>K (.tup ps)
def IU(ob:List (Nat×AO)):List (Nat×AO)->Prop
 |[]=>True
 |(i,o)::r=>aOb ob i λo'=>o'=o/\IU ob r
theorem y0{ob:List (Nat×AO)}:∀{l:List (Nat×AO)},IU ob l->aI ob l
 |[],_=>Xv
 |(i,o)::r,h=>by
  obtain⟨o',ho,rfl,hr⟩:=cm h;exact Xu ho (y0 hr)
def ii(keep:List Nat):List AV:=keep.map λid=> .one (.ref id 0 0 0)
def V3(E:bz)(rs:List ResultVar)(post:List (Nat×AO))(keep:List Nat)(pv:List Value)(res:AR):Exit->ASt->Prop
 | .ret,st=>Fs E st post rs λv=>v=res/\IU st.ob ((9999,.frame (ii keep) pv)::post)
 | .normal,st=>Fs E st post rs λv=>v=res/\IU st.ob ((9999,.frame (ii keep) pv)::post)
 |_,_=>False
theorem Cj(he:E.Ok){post:List (Nat×AO)}{Z:Nat->Prop}{ρ:Nat->Value}{a:Act}{w:World}(h:Sim E.W S Z ρ st a w){r:ResultVar}{K:AA->Prop}(hk:LR E st post r K):
  ∃(v:Value) (p:AA),(eL a.tmps r).run E.P w= .ok v w/\cn (Ba Z ρ st.ob post) w ρ p.v v/\K p:=by
 cases r with
 |tmp t=>
  obtain⟨x,hx,hk⟩:=iX hk;have hlt:t<a.tmps.size:=by rw[h.len];exact(List.getElem?_eq_some_iff.1 hx).1
  obtain⟨p,hp,hk⟩:=Fl h.ws (h.tm t x _ hx (Array.getElem?_eq_getElem hlt)) hk;exact⟨a.tmps[t],p,by simp[eL,hlt],hp,hk⟩
 |cell t ty=>
  obtain⟨x,hx,hk⟩:=iX hk;have hlt:t<a.tmps.size:=by rw[h.len];exact(List.getElem?_eq_some_iff.1 hx).1
  obtain⟨b,off,v,y,e,hr,hy,hk⟩:=qb he h (h.tm t x _ hx (Array.getElem?_eq_getElem hlt)) hk;obtain⟨p,hp,hk⟩:=Fl h.ws hy hk;refine⟨v,p,?_,hp,hk⟩;simp[eL,hlt,e,asAddr,hr]
theorem Ck(he:E.Ok){post:List (Nat×AO)}{Z:Nat->Prop}{ρ:Nat->Value}{a:Act}{w:World}(h:Sim E.W S Z ρ st a w):∀{rs:List ResultVar} {K:List AA->Prop},LS E st post rs K->
  ∃(vs:List Value) (ps:List AA),(rs.mapM (eL a.tmps)).run E.P w= .ok vs w/\vs.length=ps.length/\(∀(i:Nat) p u,ps[i]? =some p->vs[i]? =some u->cn (Ba Z ρ st.ob post) w ρ p.v u)/\ps.length=rs.length/\K ps
 |[],K,hk=>⟨[],[],rfl,rfl,by simp,rfl,hk⟩
 |r::rs,K,hk=>by
  obtain⟨v,p,h1,h2,hk⟩:=Cj he h hk;obtain⟨vs,ps,h3,h4,h5,h6,hk⟩:=Ck he h (rs:=rs) hk;refine⟨v::vs,p::ps,?_,by simp[h4],λi q u h7 h8=>?_,by simp[h6],hk⟩
  ·rw[List.mapM_cons,Sem.run_bind,h1];simp only[Result.andThen_ok];rw[Sem.run_bind,h3];rfl
  ·cases i with
   |zero=>simp at h7 h8;subst h7 h8;exact h2
   |succ i=>exact h5 i q u (by simpa using h7) (by simpa using h8)
theorem Ft(he:E.Ok){post:List (Nat×AO)}{Z:Nat->Prop}{ρ:Nat->Value}{a:Act}{w:World}(h:Sim E.W S Z ρ st a w){fn:Func}{K:AR->Prop}(hk:Fs E st post fn.results.toList K):
  ∃v p,(results fn a.tmps).run E.P w= .ok v w/\cn (Ba Z ρ st.ob post) w ρ p.v v/\K p:=by
 unfold Fs at hk;have hres:∀vs:List Value,(fn.results.toList.mapM (eL a.tmps)).run E.P w= .ok vs w->(results fn a.tmps).run E.P w= .ok (if h:vs.toArray.size=1 then vs.toArray[0]else .tuple vs.toArray) w:=by
  intro vs hvs;have e:results fn a.tmps=(do let vs<-fn.results.mapM (eL a.tmps);pure (if h:vs.size=1 then vs[0]else .tuple vs)):=rfl;rw[e,Sem.run_bind,Array.mapM_eq_mapM_toList,Sem.run_map,hvs];rfl
 split at hk
 ·rename_i r hr;obtain⟨v,p,h1,h2,hk⟩:=Cj he h hk;refine⟨v,.val p,?_,h2,hk⟩;have:=hres [v] (by rw[hr,List.mapM_cons,Sem.run_bind,h1];rfl);rw[this];rfl
 ·rename_i hne;obtain⟨vs,ps,h1,h2,h3,h4,hk⟩:=Ck he h hk;refine⟨_,.tup ps,hres vs h1,?_,hk⟩;have:¬vs.toArray.size=1:=by
   intro e;have:fn.results.toList.length=1:=by simp at e;omega
   obtain⟨r,hr⟩:=List.length_eq_one_iff.1 this;exact hne r hr
  rw[dif_neg this];refine .tup _ vs (by simp[h2]) λi x u hx hu=>?_;rw[getElem?_map]at hx;obtain⟨p,hp,rfl⟩:=map_eq_some_iff.1 hx;exact h3 i p u hp hu
end
def FB(p:AA)(K:AV->Prop):Prop:=
 match p with
 | .one c=>K (.one c)
 | .agg cs=>K (.agg cs)
theorem y7{p:AA}{K:AV->Prop}(h:FB p K):K p.v:=by cases p<;>exact h
def LK:List AA->Nat->(List AV->Prop)->Prop
 |[],n,K=>I7 n K
 |_::_,0,_=>False
 |p::r,n+1,K=>FB p λv=>LK r n λtm=>K (v::tm)
theorem B2:∀{args:List AA} {n:Nat} {K:List AV->Prop},LK args n K->args.length<=n/\K (args.map AA.v++List.replicate (n-args.length) (.one .und))
 |[],n,K,h=>⟨Nat.zero_le _,by simpa using vj h⟩
 |_::_,0,_,h=>h.elim
 |p::r,n+1,K,h=>by
  obtain⟨h1,h2⟩:=B2 (args:=r) (n:=n) (K:=λtm=>K (p.v::tm)) (y7 h);refine⟨by simp;omega,?_⟩;simpa[Nat.succ_sub_succ]using h2
def isCells(ob:List (Nat×AO))(i:Nat):Bool:=match bo ob i with
 |some (.cells _ _)=>true
 |_=>false
def Tx(id:Nat):AA->Bool
 | .one c=>sw id c
 | .agg cs=>cs.all (sw id)
theorem Sr{id:Nat}{a:AA}(h:Tx id a=true):uI id a.v=true:=by cases a<;>exact h
def Ty(args:List AA)(pre post:List (Nat×AO))(keep:List Nat):Bool:=
 args.all (Tx 9999)&&pre.all (λp=>Gy 9999 p.2)&& !iW pre 9999&&keep.all (λi=>isCells pre i&&isCells post i)
theorem uz{ob:List (Nat×AO)}{i:Nat}(h:isCells ob i=true):∃t cs,bo ob i=some (.cells t cs):=by
 unfold isCells at h;split at h
 ·rename_i t cs e;exact⟨t,cs,e⟩
 ·cases h
theorem dq{E:bz}(he:E.Ok){f:FuncId}{fn:Func}{c:Code}{n:Nat}{rs:List ResultVar}{args:List AA}{pre post:List (Nat×AO)}{keep:List Nat}{res:AR}(hf:E.P.funcs[f]? =some fn)(hb:fn.body=some c)
  (enter:∀(us:Array Value) w,(callFunc f us).run E.P w= .ok (.enter f us) w) (hn:fn.ntmps=n) (hrs:fn.results.toList=rs)
  (hck:Ty args pre post keep=true)
  (h:∀S pv,LK args n λtm=>AWP E S c (V3 E rs post keep pv res) ⟨tm,(9999,.frame (ii keep) pv)::pre⟩):gc E f args pre post keep res:=by
 refine⟨enter,λZ w ρ us hws hl hr=>?_⟩;subst hn hrs;simp only[Ty,Bool.and_eq_true,all_eq_true,Bool.not_eq_true']at hck;obtain⟨⟨⟨hna,hnp⟩,hnh⟩,hkk⟩:=hck;have hp9:=PQ hnh;obtain⟨hle,hk⟩:=B2 (h (tT w Z ρ pre) (keep.map ρ));have relV:∀{x:AV} {v:Value},uI 9999 x=true->cn Z w ρ x v->cn Z w (λi=>if i=9999 then undef else ρ i) x v:=by
  intro x v hn hv;have:=kw (id:=9999) (y:=undef) hv;rwa[mb hn]at this
 have hs:Sim E.W (tT w Z ρ pre) Z (λi=>if i=9999 then undef else ρ i) ⟨args.map AA.v++List.replicate (fn.ntmps-args.length) (.one .und),(9999,.frame (ii keep) (keep.map ρ))::pre⟩ {tmps:=us.toArray++Array.replicate (fn.ntmps-us.toArray.size) undef,defers:=[]} w:=by
  have key:∀id o,bo ((9999,AO.frame (ii keep) (keep.map ρ))::pre) id=some o->(id=9999/\o= .frame (ii keep) (keep.map ρ))\/(id≠9999/\bo pre id=some o):=by
   intro id o ho;unfold bo at ho;split at ho
   ·rename_i e;subst e;injection ho with ho;exact .inl ⟨rfl,ho.symm⟩
   ·rename_i e;exact .inr ⟨λe'=>e e'.symm,ho⟩
  refine⟨⟨hws.os,hws.tape,hws.output,hws.size,hws.old,hws.zlt,λid o b ho hb=>?_,λi j oi oj b hi hj hij hbi hbj=>?_,λid o ho=>?_,⟨λid P Q ho=>?_,λi j P Q P' Q' hi hj=>?_⟩,hws.g,hws.z0,hws.znew⟩,by simp[hl],λi x v hx hv=>?_,rfl⟩
  ·rcases key id o ho with⟨rfl,rfl⟩|⟨hne,ho⟩
   ·simp only[if_true]at hb;cases hb
   ·simp only[if_neg hne]at hb;exact hws.mine id o b ho hb
  ·rcases key i oi hi with⟨rfl,rfl⟩|⟨hne,hi⟩
   ·simp only[if_true]at hbi;cases hbi
   ·rcases key j oj hj with⟨rfl,rfl⟩|⟨hne2,hj⟩
    ·simp only[if_true]at hbj;cases hbj
    ·simp only[if_neg hne]at hbi;simp only[if_neg hne2]at hbj;exact hws.sep i j oi oj b hi hj hij hbi hbj
  ·rcases key id o ho with⟨rfl,rfl⟩|⟨hne,ho⟩
   ·refine⟨by simp,by simp[ii],λi x u hx hu=>?_⟩;simp only[ii,getElem?_map]at hx hu;obtain⟨k,hk1,rfl⟩:=map_eq_some_iff.1 hx;rw[hk1]at hu;simp only[Option.map_some]at hu;injection hu with hu
    subst hu;have hkm:=hkk k (mem_of_getElem? hk1);obtain⟨t,cs,hc⟩:=uz hkm.1;obtain⟨b,us',hp,_⟩:=hws.obj k _ hc;have hk9:k≠9999:=by rintro rfl;rw[hp9]at hc;cases hc
    refine .one _ _ ⟨b,by simp only[if_neg hk9];rw[hp];rfl,by rw[hp]⟩
   ·have hob:=hws.obj id o ho;have hnk:=xk (hnp (id,o) (ig ho));cases o with
    |many P Q=>
     show(if id=9999 then undef else ρ id)=undef;rw[if_neg hne];exact hob
    |cells t cs=>
     have:=jE (id:=9999) (y:=undef) hne (show cX Z w ρ id (.cells t cs)from hob);rw[hnk]at this;exact this
    |row e s xs=>
     have:=jE (id:=9999) (y:=undef) hne (show cX Z w ρ id (.row e s xs)from hob);rw[hnk]at this;exact this
    |frame vs us=>
     have:=jE (id:=9999) (y:=undef) hne (show cX Z w ρ id (.frame vs us)from hob);rw[hnk]at this;exact this
    |any Q=>
     have:=jE (id:=9999) (y:=undef) hne (show cX Z w ρ id (.any Q)from hob);rw[hnk]at this;exact this
  ·rcases key id _ ho with⟨_,h0⟩|⟨hne,ho⟩
   ·cases h0
   ·obtain⟨h1,h2⟩:=hws.many.ok id P Q ho;refine⟨λb hb=>⟨(h1 b hb).1,(h1 b hb).2.1,(h1 b hb).2.2.1,λj o hj=>?_⟩,h2⟩;rcases key j o hj with⟨rfl,_⟩|⟨hne,hj⟩
    ·simp only[if_true];intro h0;cases h0
    ·simp only[if_neg hne];exact(h1 b hb).2.2.2 j o hj
  ·rcases key i _ hi with⟨_,h0⟩|⟨_,hi⟩
   ·cases h0
   ·rcases key j _ hj with⟨_,h0⟩|⟨_,hj⟩
    ·cases h0
    ·exact hws.many.sep i j P Q P' Q' hi hj
  ·simp only at hx hv;have hv':(us++List.replicate (fn.ntmps-us.length) undef)[i]? =some v:=by
    have:=hv;rw[<-Array.getElem?_toList]at this;simpa using this
   by_cases hi:i<us.length
   ·rw[List.getElem?_append_left (by simpa[hl]using hi),getElem?_map]at hx;obtain⟨p,hp,rfl⟩:=map_eq_some_iff.1 hx;rw[List.getElem?_append_left hi]at hv';exact relV (Sr (hna p (mem_of_getElem? hp))) (hr i p v hp hv')
   ·rw[List.getElem?_append_right al]at hx;rw[List.getElem?_append_right aa]at hv';have e1:=List.eq_of_mem_replicate (mem_of_getElem? hx);have e2:=List.eq_of_mem_replicate (mem_of_getElem? hv');subst e1 e2;exact .one _ _ (show dN Z w _ .und undef from rfl)
 refine calls_of_wp hf hb (wp_mono (hk.run _ w ⟨Z,_,hs⟩) λe a' w' h'=>?_);obtain⟨st',⟨Z',ρ',hs'⟩,hk'⟩:=h';have fin:(Fs E st' post fn.results.toList λv=>v=res/\IU st'.ob ((9999,.frame (ii keep) (keep.map ρ))::post))->a'.defers=[]/\∃v,(results fn a'.tmps).run E.P w'= .ok v w'/\∃v0 Z' ρ',Ending.returned v= .returned v0/\WS E.W (tT w Z ρ pre) Z' w' ρ' post/\(∀id∈keep,ρ' id=ρ id)/\cn Z' w' ρ' res.v v0:=by
  intro hr;obtain⟨v,p,h1,h2,h3,h4⟩:=Ft he hs' hr;subst h3;have hsub:=y0 h4;have hsubp:aI st'.ob post:=by
   obtain⟨_,_,_,h5⟩:=cm h4;exact y0 h5
  refine⟨hs'.df,v,h1,v,Ba Z' ρ' st'.ob post,ρ',rfl,hs'.ws.out hsubp,λid hid=>?_,h2⟩;have hkm:=hkk id hid;obtain⟨t,cs,hc⟩:=uz hkm.1;obtain⟨t',cs',hc'⟩:=uz hkm.2;obtain⟨b,us1,hp,_⟩:=hws.obj id _ hc;obtain⟨b',us2,hp',_⟩:=hs'.ws.obj id _ (hsubp id _ hc');obtain⟨_,hfl,hfr⟩:=hs'.ws.obj 9999 _ (hsub 9999 (.frame (ii keep) (keep.map ρ)) (by simp[bo]));obtain⟨i,hi,hid'⟩:=List.getElem_of_mem hid;have hx:(ii keep)[i]? =some (.one (.ref id 0 0 0)):=by simp[ii,hi,hid']
  have hu:(keep.map ρ)[i]? =some (ρ id):=by simp[hi,hid']
  cases hfr i _ _ hx hu with
  |one _ _ hrel=>
   obtain⟨b2,hb2,hv2⟩:=hrel;rw[hp']at hb2;injection hb2 with hb2
   rw[hp',hv2,<-hb2]
 cases e with
 |normal=>exact fin hk'
 |ret=>exact fin hk'
 |_=>exact hk'.elim
end
section
open Go.RowKit
def cw:List (Nat×Nat)->Nat->Nat
 |[],i=>i
 |(a,b)::r,i=>match Nat.beq a i with
  |true=>b
  |false=>cw r i
def B7:List (Nat×Nat)->Nat->(Nat->Prop)->Prop
 |[],i,K=>K i
 |(a,b)::r,i,K=>match Nat.beq a i with
  |true=>K b
  |false=>B7 r i K
theorem vd{K:Nat->Prop}{i:Nat}:∀{m:List (Nat×Nat)},B7 m i K->K (cw m i)
 |[],h=>h
 |(a,b)::r,h=>by
  unfold B7 at h;unfold cw;cases e:Nat.beq a i with
  |true=>rw[e]at h;exact h
  |false=>rw[e]at h;exact vd (m:=r) h
def EP(m:Nat->Nat):AC->AC
 | .own i=> .own (m i)
 | .ref i k s off=> .ref (m i) k s off
 |c=>c
def Bi(m:Nat->Nat):AA->AA
 | .one c=> .one (EP m c)
 | .agg cs=> .agg (cs.map (EP m))
def MS(m:Nat->Nat):AR->AR
 | .val a=> .val (Bi m a)
 | .tup ls=> .tup (ls.map (Bi m))
def oC(m:Nat->Nat):AO->AO
 | .cells t cs=> .cells t (cs.map (EP m))
 |o=>o
def PX(m:List (Nat×Nat))(c:AC)(K:AC->Prop):Prop:=
 match c with
 | .own i=>B7 m i λi=>K (.own i)
 | .ref i k s off=>B7 m i λi=>K (.ref i k s off)
 |c=>K c
theorem Fn{m:List (Nat×Nat)}{c:AC}{K:AC->Prop}(h:PX m c K):K (EP (cw m) c):=by
 cases c with
 |own i=>exact vd (K:=λi=>K (.own i)) h
 |ref i k s off=>exact vd (K:=λi=>K (.ref i k s off)) h
 |_=>exact h
def Hu(m:List (Nat×Nat)):List AC->(List AC->Prop)->Prop
 |[],K=>K []
 |c::r,K=>PX m c λc=>Hu m r λr=>K (c::r)
theorem wW{m:List (Nat×Nat)}:∀{l:List AC} {K:List AC->Prop},Hu m l K->K (l.map (EP (cw m)))
 |[],_,h=>h
 |c::r,K,h=>wW (l:=r) (K:=λr=>K (EP (cw m) c::r)) (Fn h)
def PW(m:List (Nat×Nat))(a:AA)(K:AA->Prop):Prop:=
 match a with
 | .one c=>PX m c λc=>K (.one c)
 | .agg cs=>Hu m cs λcs=>K (.agg cs)
theorem Fm{m:List (Nat×Nat)}{a:AA}{K:AA->Prop}(h:PW m a K):K (Bi (cw m) a):=by
 cases a with
 |one c=>exact Fn (K:=λc=>K (.one c)) h
 |agg cs=>exact wW (K:=λcs=>K (.agg cs)) h
def Cg(m:List (Nat×Nat)):List AA->(List AV->Prop)->Prop
 |[],K=>K []
 |c::r,K=>PW m c λc=>FB c λc=>Cg m r λr=>K (c::r)
theorem Ch{m:List (Nat×Nat)}:∀{l:List AA} {K:List AV->Prop},Cg m l K->K (l.map λa=>(Bi (cw m) a).v)
 |[],_,h=>h
 |c::r,K,h=>Ch (l:=r) (K:=λr=>K ((Bi (cw m) c).v::r)) (y7 (K:=λc=>Cg m r λr=>K (c::r)) (Fm (K:=λc=>FB c λc=>Cg m r λr=>K (c::r)) h))
def PZ(m:List (Nat×Nat))(r:AR)(K:AV->Prop):Prop:=
 match r with
 | .val a=>PW m a λa=>FB a K
 | .tup ls=>Cg m ls λl=>K (.tup l)
theorem Oj{m:List (Nat×Nat)}{r:AR}{K:AV->Prop}(h:PZ m r K):K (MS (cw m) r).v:=by
 cases r with
 |val a=>exact y7 (Fm (K:=λa=>FB a K) h)
 |tup ls=>
  have:=Ch (K:=λl=>K (.tup l)) h;have e:(MS (cw m) (.tup ls)).v= .tup (ls.map λa=>(Bi (cw m) a).v):=by simp[MS,AR.v,Function.comp_def]
  rw[e];exact this
def PY(m:List (Nat×Nat))(o:AO)(K:AO->Prop):Prop:=
 match o with
 | .cells t cs=>Hu m cs λcs=>K (.cells t cs)
 |o=>K o
theorem Oi{m:List (Nat×Nat)}{o:AO}{K:AO->Prop}(h:PY m o K):K (oC (cw m) o):=by
 cases o with
 |cells t cs=>exact wW (K:=λcs=>K (.cells t cs)) h
 |_=>exact h
section
variable {Z:Nat->Prop} {w:World} {ρ ρ1:Nat->Value} {m:Nat->Nat}
theorem Iv{c:AC}{v:Value}(h:dN Z w ρ (EP m c) v):dN Z w (λi=>ρ (m i)) c v:=by cases c<;>exact h
theorem SD{a:AA}{v:Value}(h:cn Z w ρ (Bi m a).v v):cn Z w (λi=>ρ (m i)) a.v v:=by
 cases a with
 |one c=>cases h with|one _ _ h=>exact .one _ _ (Iv h)
 |agg cs=>
  cases h with
  |agg _ us hl h=>
   refine .agg _ _ (by simpa using hl) λi c u hc hu=>Iv (h i _ u ?_ hu);rw[getElem?_map,hc];rfl
def rF:AO->Bool
 | .frame _ _=>false
 | .many _ _=>false
 |_=>true
theorem SE{id:Nat}{o:AO}(hf:rF o=true)(h:cX Z w ρ (m id) (oC m o)):cX Z w (λi=>ρ (m i)) id o:=by
 cases o with
 |cells t cs=>
  obtain⟨b,us,hp,hg,hl,hc⟩:=h;refine⟨b,us,hp,hg,by simpa using hl,λi c u h1 h2=>Iv (hc i _ u ?_ h2)⟩;rw[getElem?_map,h1];rfl
 |row e s xs=>exact h
 |frame vs us=>cases hf
 |any Q=>exact h
 |many P Q=>cases hf
def inC(post:List (Nat×AO)):AC->Bool
 | .own i=>iW post i
 | .ref i _ _ _=>iW post i
 |_=>true
def inA(post:List (Nat×AO)):AA->Bool
 | .one c=>inC post c
 | .agg cs=>cs.all (inC post)
def inR(post:List (Nat×AO)):AR->Bool
 | .val a=>inA post a
 | .tup ls=>ls.all (inA post)
def inO(post:List (Nat×AO)):AO->Bool
 | .cells _ cs=>cs.all (inC post)
 | .row _ _ _=>true
 | .frame [] []=>true
 | .frame _ _=>false
 | .any _=>false
 | .many _ _=>false
variable {post:List (Nat×AO)}
theorem zq(hag:∀i,iW post i=true->ρ1 (m i)=ρ i){c:AC}{v:Value}(hin:inC post c=true)(h:dN Z w ρ c v):dN Z w ρ1 (EP m c) v:=by
 cases c with
 |own i=>simpa only[EP,dN,hag i hin]using h
 |ref i k s off=>simpa only[EP,dN,hag i hin]using h
 |_=>exact h
theorem GJ(hag:∀i,iW post i=true->ρ1 (m i)=ρ i){a:AA}{v:Value}(hin:inA post a=true)(h:cn Z w ρ a.v v):cn Z w ρ1 (Bi m a).v v:=by
 cases a with
 |one c=>cases h with|one _ _ h=>exact .one _ _ (zq hag hin h)
 |agg cs=>
  cases h with
  |agg _ us hl h=>
   refine .agg _ _ (by simpa using hl) λi c u hc hu=>?_;rw[getElem?_map]at hc;obtain⟨c0,h0,rfl⟩:=map_eq_some_iff.1 hc;exact zq hag (all_eq_true.1 hin c0 (mem_of_getElem? h0)) (h i c0 u h0 hu)
theorem O5(hag:∀i,iW post i=true->ρ1 (m i)=ρ i){r:AR}{v:Value}(hin:inR post r=true)(h:cn Z w ρ r.v v):cn Z w ρ1 (MS m r).v v:=by
 cases r with
 |val a=>exact GJ hag hin h
 |tup ls=>
  cases h with
  |tup _ us hl h=>
   refine .tup _ _ (by simpa using hl) λi c u hc hu=>?_;rw[map_map,getElem?_map]at hc;obtain⟨c0,h0,rfl⟩:=map_eq_some_iff.1 hc;refine GJ hag (all_eq_true.1 hin c0 (mem_of_getElem? h0)) (h i _ u ?_ hu);rw[getElem?_map,h0];rfl
theorem O4(hag:∀i,iW post i=true->ρ1 (m i)=ρ i){id:Nat}(hid:iW post id=true){o:AO}(hin:inO post o=true)(h:cX Z w ρ id o):cX Z w ρ1 (m id) (oC m o):=by
 cases o with
 |cells t cs=>
  obtain⟨b,us,hp,hg,hl,hc⟩:=h;refine⟨b,us,(hag id hid).trans hp,hg,by simpa using hl,λi c u h1 h2=>?_⟩;rw[getElem?_map]at h1;obtain⟨c0,h0,rfl⟩:=map_eq_some_iff.1 h1;exact zq hag (all_eq_true.1 hin c0 (mem_of_getElem? h0)) (hc i c0 u h0 h2)
 |row e s xs=>
  obtain⟨us,hs,hl,hx,hu,hown,hd⟩:=h;refine⟨us,hs,hl,hx,hu,?_,hd⟩;rw[hag id hid];exact hown
 |frame vs us=>
  have:vs=[]/\us=[]:=by
   revert hin;unfold inO;split<;>simp_all
  obtain⟨rfl,rfl⟩:=this;exact⟨(hag id hid).trans h.1,rfl,by simp⟩
 |any Q=>cases hin
 |many P Q=>cases hin
theorem SB{id:Nat}{o:AO}(hf:rF o=true)(h:kg Z w ρ id o):cX Z w ρ id o:=by cases o<;>first|exact h|cases hf
theorem Ky(f:Nat->Nat)(o:AO):rF (oC f o)=rF o:=by cases o<;>rfl
theorem Q8{id:Nat}{o:AO}(hf:inO post o=true)(h:kg Z w ρ id o):cX Z w ρ id o:=by
 cases o<;>first|exact h|cases hf
theorem Q7{f:Nat->Nat}{id:Nat}{o:AO}(hf:inO post o=true)(h:cX Z w ρ id (oC f o)):kg Z w ρ id (oC f o):=by
 cases o<;>first|exact h|cases hf
theorem Q6{id:Nat}{o:AO}(hf:rF o=true)(h:cX Z w ρ id o):kg Z w ρ id o:=by cases o<;>first|exact h|cases hf
end
def uC(ks:List Nat)(x:AV):AV:=ks.foldl (λx k=>kV k x) x
def xh(ks:List Nat)(o:AO):AO:=ks.foldl (λo k=>ni k o) o
section
variable {Z:Nat->Prop} {w:World} {ρ1:Nat->Value}
theorem Di:∀{ks:List Nat} {ρ:Nat->Value} {x:AV} {v:Value},(∀i,i∉ks->ρ1 i=ρ i)->cn Z w ρ x v->cn Z w ρ1 (uC ks x) v
 |[],ρ,x,v,hag,h=>by
  have:ρ1=ρ:=funext λi=>hag i ah;subst this;exact h
 |k::r,ρ,x,v,hag,h=>by
  refine Di (ks:=r) (λi hi=>?_) (kw (id:=k) (y:=ρ1 k) h);by_cases e:i=k
  ·subst e;simp
  ·simp only[if_neg e];exact hag i (by simp[e,hi])
theorem ou:∀{ks:List Nat} {ρ:Nat->Value} {j:Nat} {o:AO},j∉ks->(∀i,i∉ks->ρ1 i=ρ i)->cX Z w ρ j o->cX Z w ρ1 j (xh ks o)
 |[],ρ,j,o,_,hag,h=>by
  have:ρ1=ρ:=funext λi=>hag i ah;subst this;exact h
 |k::r,ρ,j,o,hj,hag,h=>by
  refine ou (ks:=r) (λe=>hj (by simp[e])) (λi hi=>?_) (jE (id:=k) (λe=>hj (by simp[e])) (y:=ρ1 k) h);by_cases e:i=k
  ·subst e;simp
  ·simp only[if_neg e];exact hag i (by simp[e,hi])
theorem kx:∀{ks:List Nat} {o:AO} {P:Nat->Prop} {Q:World->Prop},xh ks o= .many P Q->o= .many P Q
 |[],o,P,Q,h=>h
 |k::r,o,P,Q,h=>by
  have h2:=kx (ks:=r) (o:=ni k o) h;cases o<;>first|exact h2|(simp[ni]at h2;done)
theorem yq:∀(ks:List Nat) (P:Nat->Prop) (Q:World->Prop),xh ks (.many P Q)= .many P Q
 |[],P,Q=>rfl
 |k::r,P,Q=>yq r P Q
theorem yA{ρ:Nat->Value}{id:Nat}{o:AO}(hn:∀P Q,o≠ .many P Q)(h:cX Z w ρ id o):kg Z w ρ id o:=by
 cases o<;>first|exact h|exact absurd rfl (hn _ _)
theorem J5{ks:List Nat}{ρ:Nat->Value}{j:Nat}{o:AO}(hj:j∉ks)(hag:∀i,i∉ks->ρ1 i=ρ i)(h:kg Z w ρ j o):kg Z w ρ1 j (xh ks o):=by
 cases o with
 |many P Q=>rw[yq];exact(hag j hj).trans h
 |cells t cs=>exact yA (λP Q e=>by cases kx e) (ou hj hag (show cX Z w ρ j (.cells t cs)from h))
 |row e s xs=>exact yA (λP Q e=>by cases kx e) (ou hj hag (show cX Z w ρ j (.row e s xs)from h))
 |frame vs us=>exact yA (λP Q e=>by cases kx e) (ou hj hag (show cX Z w ρ j (.frame vs us)from h))
 |any R=>exact yA (λP Q e=>by cases kx e) (ou hj hag (show cX Z w ρ j (.any R)from h))
end
def xl(ks:List Nat)(ob:List (Nat×AO)):List (Nat×AO):=ks.foldl (λob k=>qf k ob) ob
theorem At:∀{ks:List Nat} {ob:List (Nat×AO)} {j:Nat},bo (xl ks ob) j=(bo ob j).map (xh ks)
 |[],ob,j=>by
  have:xh []=id:=rfl;simp[xl,this]
 |k::r,ob,j=>by
  have:=At (ks:=r) (ob:=qf k ob) (j:=j);rw[mc,Option.map_map]at this;exact this
def xB:List Nat->ASt->(ASt->Prop)->Prop
 |[],st,K=>K st
 |k::r,st,K=>B5 k st.tm λtm=>mU k st.ob λob=>xB r ⟨tm,ob⟩ K
theorem MG(k:Nat)(r:List Nat)(l:List AV):(l.map (kV k)).map (uC r)=l.map (uC (k::r)):=by
 rw[map_map];rfl
theorem zH:∀{ks:List Nat} {st:ASt} {K:ASt->Prop},xB ks st K->K ⟨st.tm.map (uC ks),xl ks st.ob⟩
 |[],st,K,h=>by
  have:uC []=id:=rfl;rw[this,List.map_id];exact h
 |k::r,st,K,h=>by
  have h1:=j5 (K:=λob=>xB r ⟨st.tm.map (kV k),ob⟩ K) (qG (K:=λtm=>mU k st.ob λob=>xB r ⟨tm,ob⟩ K) h);have h2:=zH (ks:=r) h1;simp only[MG]at h2;exact h2
def DF(ob l:List (Nat×AO)):List (Nat×AO):=l.foldl (λob p=>eD ob p.1 p.2) ob
def y6(m:List (Nat×Nat)):List (Nat×AO)->List (Nat×AO)->(List (Nat×AO)->Prop)->Prop
 |ob,[],K=>K ob
 |ob,(i,o)::r,K=>PY m o λo=>B7 m i λi=>fW i o ob λob=>y6 m ob r K
theorem Cp{m:List (Nat×Nat)}:∀{l ob:List (Nat×AO)} {K:List (Nat×AO)->Prop},y6 m ob l K->K (DF ob (l.map λp=>(cw m p.1,oC (cw m) p.2)))
 |[],ob,K,h=>h
 |(i,o)::r,ob,K,h=>Cp (l:=r) (dh (K:=λob=>y6 m ob r K) (vd (K:=λi=>fW i (oC (cw m) o) ob λob=>y6 m ob r K) (Oi (K:=λo=>B7 m i λi=>fW i o ob λob=>y6 m ob r K) h)))
theorem Io{l:List (Nat×AO)}{k:Nat}(h:k∉l.map (·.1)):bo l k=none:=by
 cases e:bo l k with
 |none=>rfl
 |some o=>exact absurd (mem_map.2 ⟨(k,o),ig e,rfl⟩) h
theorem DD:∀{l ob:List (Nat×AO)} {i:Nat},(l.map (·.1)).Nodup->bo (DF ob l) i=match bo l i with|some o=>some o|none=>bo ob i
 |[],ob,i,_=>rfl
 |(k,o)::r,ob,i,hn=>by
  obtain⟨h1,h2⟩:=nodup_cons.1 (by rw[map_cons]at hn;exact hn);have:=DD (l:=r) (ob:=eD ob k o) (i:=i) h2;rw[ci]at this;show bo (DF (eD ob k o) r) i=_;rw[this];simp only[bo];by_cases e:k=i
  ·subst e;simp only[if_true,Io h1]
  ·simp only[if_neg e]
theorem oU:∀{l:List (Nat×AO)} {i:Nat} {o:AO},(l.map (·.1)).Nodup->(i,o)∈l->bo l i=some o
 |[],_,_,_,h=>by cases h
 |(k,x)::r,i,o,hn,h=>by
  obtain⟨h1,h2⟩:=nodup_cons.1 (by rw[map_cons]at hn;exact hn);unfold bo;rcases mem_cons.1 h with h|h
  ·injection h with e1 e2;subst e1 e2;simp
  ·have:k≠i:=by rintro rfl;exact h1 (mem_map.2 ⟨_,h,rfl⟩)
   rw[if_neg this];exact oU h2 h
theorem yz{α β:Type}{f:α->β}:∀{l:List α},(l.map f).Nodup->l.Nodup
 |[],_=>List.nodup_nil
 |x::r,h=>by
  obtain⟨h1,h2⟩:=nodup_cons.1 (by rw[map_cons]at h;exact h);exact nodup_cons.2 ⟨λhm=>h1 (mem_map.2 ⟨x,hm,rfl⟩),yz h2⟩
theorem xg{α β:Type}{f:α->β}:∀{l:List α},(l.map f).Nodup->∀{x y:α},x∈l->y∈l->f x=f y->x=y
 |[],_,_,_,h,_,_=>by cases h
 |a::r,h,x,y,hx,hy,e=>by
  obtain⟨h1,h2⟩:=nodup_cons.1 (by rw[map_cons]at h;exact h);rcases mem_cons.1 hx with ex|hx'
  ·rcases mem_cons.1 hy with ey|hy'
   ·rw[ex,ey]
   ·rw[ex]at e;exact absurd (mem_map.2 ⟨y,hy',e.symm⟩) h1
  ·rcases mem_cons.1 hy with ey|hy'
   ·rw[ey]at e;exact absurd (mem_map.2 ⟨x,hx',e⟩) h1
   ·exact xg h2 hx' hy' e
def xj(m:List (Nat×Nat))(pre post:List (Nat×AO))(res:AR):Bool:=
 nodupB (post.map λp=>cw m p.1)&&pre.all (λp=>iW post p.1&&rF p.2)&&post.all (λp=>inO post p.2)&&inR post res
where nodupB:List Nat->Bool
 |[]=>true
 |x::r=> !r.any (Nat.beq x)&&nodupB r
theorem DB:∀{l:List Nat},xj.nodupB l=true->l.Nodup
 |[],_=>List.nodup_nil
 |x::r,h=>by
  simp only[xj.nodupB,Bool.and_eq_true,Bool.not_eq_true',List.any_eq_false]at h;refine nodup_cons.2 ⟨λhm=>h.1 x hm (Nat.beq_refl x),DB h.2⟩
def Dx(m:List (Nat×Nat))(post:List (Nat×AO))(keep:List Nat):List Nat:=(post.filter λp=> !keep.any (Nat.beq p.1)).map λp=>cw m p.1
def TS(m:List (Nat×Nat))(ob:List (Nat×AO)):List (Nat×AO)->Prop->Prop
 |[],X=>X
 |(i,o)::r,X=>aOb ob (cw m i) λo'=>o'=oC (cw m) o/\TS m ob r X
theorem IY{m:List (Nat×Nat)}{ob:List (Nat×AO)}{X:Prop}:∀{l:List (Nat×AO)},TS m ob l X->(∀i o,(i,o)∈l->bo ob (cw m i)=some (oC (cw m) o))/\X
 |[],h=>⟨by simp,h⟩
 |(i,o)::r,h=>by
  obtain⟨o',ho,rfl,hr⟩:=cm h;obtain⟨h1,h2⟩:=IY hr;refine⟨λj x hx=>?_,h2⟩;rcases mem_cons.1 hx with e|hx
  ·injection e with e1 e2;subst e1 e2;exact ho
  ·exact h1 j x hx
def Rc(m:Nat->Nat)(ids:List Nat)(ρ' ρ:Nat->Value)(j:Nat):Value:=match ids.find? (λc=>Nat.beq (m c) j)with
 |some c=>ρ' c
 |none=>ρ j
theorem SF{m:Nat->Nat}{ids:List Nat}{ρ' ρ:Nat->Value}(hn:(ids.map m).Nodup){c:Nat}(hc:c∈ids):Rc m ids ρ' ρ (m c)=ρ' c:=by
 unfold Rc;cases e:ids.find? (λx=>Nat.beq (m x) (m c))with
 |none=>exact absurd (Nat.beq_refl (m c)) (List.find?_eq_none.1 e c hc)
 |some d=>
  have h1:=List.mem_of_find?_eq_some e;have h2:=List.find?_some (p:=λx=>Nat.beq (m x) (m c)) e;rw[xg hn h1 hc (Nat.eq_of_beq_eq_true h2)]
theorem Rd{m:Nat->Nat}{ids:List Nat}{ρ' ρ:Nat->Value}{j:Nat}(hj:j∉ids.map m):Rc m ids ρ' ρ j=ρ j:=by
 unfold Rc;cases e:ids.find? (λx=>Nat.beq (m x) j)with
 |none=>rfl
 |some d=>exact absurd (mem_map.2 ⟨d,List.mem_of_find?_eq_some e,Nat.eq_of_beq_eq_true (List.find?_some (p:=λx=>Nat.beq (m x) j) e)⟩) hj
def Uf(m:List (Nat×Nat))(st:ASt)(pre post:List (Nat×AO))(keep:List Nat)(res:AR)(K:AV->ASt->Prop):Prop:=
 TS m st.ob pre (xB (Dx m post keep) st λst=>y6 m st.ob post λob=>PZ m res λr=>K r ⟨st.tm,ob⟩)
theorem Zi{E:bz}{S:bR}{st:ASt}{f:FuncId}{args:List AA}{pre post:List (Nat×AO)}{keep:List Nat}{res:AR}{K:AV->ASt->Prop}{cargs:List AV}(hc:gc E f args pre post keep res)(m:List (Nat×Nat))
  (hck:xj m pre post res=true) (hargs:(args.map λa=>(Bi (cw m) a).v)=cargs) (hpre:∀i o,(i,o)∈pre->bo st.ob (cw m i)=some (oC (cw m) o))
  (hk:K (MS (cw m) res).v ⟨st.tm.map (uC (Dx m post keep)),DF (xl (Dx m post keep) st.ob) (post.map λp=>(cw m p.1,oC (cw m) p.2))⟩):aG E S f cargs st K:=by
 subst hargs;refine⟨hc.enter,λZ ρ a w us hs hl hr=>?_⟩;simp only[xj,Bool.and_eq_true,all_eq_true]at hck;obtain⟨⟨⟨hnd,hpp⟩,hpo⟩,hres⟩:=hck;have hnd:=DB hnd;have hnd1:((post.map (·.1)).map (cw m)).Nodup:=by rw[map_map];exact hnd
 have hnd2:(post.map (·.1)).Nodup:=yz hnd1;have hndm:((post.map λp=>(cw m p.1,oC (cw m) p.2)).map (·.1)).Nodup:=by rw[map_map];exact hnd
 have hinj:∀{i j},iW post i=true->iW post j=true->cw m i=cw m j->i=j:=by
  intro i j hi hj e;obtain⟨oi,hoi⟩:=fZ.1 hi;obtain⟨oj,hoj⟩:=fZ.1 hj;exact xg hnd1 (mem_map.2 ⟨_,ig hoi,rfl⟩) (mem_map.2 ⟨_,ig hoj,rfl⟩) e
 have hhas:∀{i},iW post i=true↔i∈post.map (·.1):=by
  intro i;rw[fZ];constructor
  ·rintro⟨o,ho⟩;exact mem_map.2 ⟨_,ig ho,rfl⟩
  ·intro h;obtain⟨p,hp,rfl⟩:=mem_map.1 h;exact⟨p.2,oU hnd2 hp⟩
 have hget:∀i o,bo pre i=some o->bo st.ob (cw m i)=some (oC (cw m) o)/\iW post i=true/\rF o=true:=by
  intro i o ho;have:=hpp _ (ig ho);simp only[Bool.and_eq_true]at this;exact⟨hpre i o (ig ho),this.1,this.2⟩
 have hws0:WS E.W (tT w Z (λi=>ρ (cw m i)) pre) Z w (λi=>ρ (cw m i)) pre:=by
  refine⟨rfl,rfl,rfl,Nat.le_refl _,λ_ _ _=>rfl,hs.ws.zlt,λid o b ho hb=>⟨(hs.ws.mine _ _ b (hget id o ho).1 hb).1,.inr ⟨id,o,ho,hb⟩⟩,λi j oi oj b hi hj hij hbi hbj=>?_,λid o ho=>Q6 (hget id o ho).2.2 (SE (hget id o ho).2.2 (SB (by rw[Ky];exact(hget id o ho).2.2) (hs.ws.obj _ _ (hget id o ho).1))),ZC (λid P Q ho=>by have:=(hget id _ ho).2.2;cases this),hs.ws.g,λb hb=>hb,λb hb=> .inl hb⟩;exact hs.ws.sep _ _ _ _ b (hget i oi hi).1 (hget j oj hj).1 (λe=>hij (hinj (hget i oi hi).2.1 (hget j oj hj).2.1 e)) hbi hbj
 refine(hc.run Z w (λi=>ρ (cw m i)) us hws0 (by simpa using hl) λi p u h3 h4=>?_).mono ?_
 ·refine SD (hr i _ u ?_ h4);rw[getElem?_map,h3];rfl
 rintro e w' ⟨v,Z',ρ',rfl,hw,hkeep,hv⟩;let ids:=post.map (·.1)
 let ρ1:=Rc (cw m) ids ρ' ρ
 let ks:=Dx m post keep
 have hin:∀i,iW post i=true->ρ1 (cw m i)=ρ' i:=λi hi=>SF hnd1 (hhas.1 hi);have hout:∀j,j∉ids.map (cw m)->ρ1 j=ρ j:=λj hj=>Rd hj;have hag:∀i,i∉ks->ρ1 i=ρ i:=by
  intro i hi;by_cases h:i∈ids.map (cw m)
  ·obtain⟨c,hc1,rfl⟩:=mem_map.1 h;rw[hin c (hhas.2 hc1)];refine hkeep c ?_;obtain⟨p,hp,rfl⟩:=mem_map.1 hc1;refine Classical.byContradiction λhn=>hi (mem_map.2 ⟨p,List.mem_filter.2 ⟨hp,?_⟩,rfl⟩);simp only[Bool.not_eq_true',List.any_eq_false];intro k hk2 e;rw[Nat.eq_of_beq_eq_true e]at hn;exact hn hk2
  ·exact hout i h
 have hksub:∀i,i∈ks->i∈ids.map (cw m):=by
  intro i hi;obtain⟨p,hp,rfl⟩:=mem_map.1 hi;exact mem_map.2 ⟨p.1,mem_map.2 ⟨p,(List.mem_filter.1 hp).1,rfl⟩,rfl⟩
 have hob:∀j o,bo (DF (xl ks st.ob) (post.map λp=>(cw m p.1,oC (cw m) p.2))) j=some o->
   (∃c o',bo post c=some o'/\j=cw m c/\o=oC (cw m) o')\/(j∉ids.map (cw m)/\∃o',bo st.ob j=some o'/\o=xh ks o'):=by
  intro j o ho;rw[DD hndm]at ho;split at ho
  ·rename_i o1 h1;injection ho with ho
   subst ho;obtain⟨p,hp,e⟩:=mem_map.1 (ig h1);injection e with e1 e2
   exact .inl ⟨p.1,p.2,oU hnd2 hp,e1.symm,e2.symm⟩
  ·rename_i h1;rw[At]at ho;obtain⟨o',h2,rfl⟩:=map_eq_some_iff.1 ho;refine .inr ⟨λhm=>?_,o',h2,rfl⟩;obtain⟨c,hc1,rfl⟩:=mem_map.1 hm;obtain⟨p,hp,rfl⟩:=mem_map.1 hc1;rw[oU hndm (mem_map.2 ⟨p,hp,rfl⟩)]at h1;cases h1
 have hmany:∀j P Q,bo (DF (xl ks st.ob) (post.map λp=>(cw m p.1,oC (cw m) p.2))) j=some (.many P Q)->j∉ids.map (cw m)/\bo st.ob j=some (.many P Q):=by
  intro j P Q ho;rcases hob j _ ho with⟨c,o',hc1,_,e⟩|⟨hj,o',ho',e⟩
  ·have:=hpo _ (ig hc1);cases o'<;>first|(cases e;done)|(cases this;done)
  ·exact⟨hj,by rw[ho',kx e.symm]⟩
 have hO:∀b,(tT w Z (λi=>ρ (cw m i)) pre).O b->∃i o,bo st.ob (cw m i)=some o/\iW post i=true/\bZ (ρ (cw m i))=some b:=by
  rintro b ⟨i,o,ho,hb⟩;exact⟨i,_,(hget i o ho).1,(hget i o ho).2.1,hb⟩
 have hfar:∀j o b,j∉ids.map (cw m)->bo st.ob j=some o->bZ (ρ j)=some b->¬(tT w Z (λi=>ρ (cw m i)) pre).O b:=by
  intro j o b hj ho hb hOb;obtain⟨i,o2,ho2,hi,hb2⟩:=hO b hOb;refine hs.ws.sep j (cw m i) o o2 b ho ho2 (λe=>hj ?_) hb hb2;rw[e];exact mem_map.2 ⟨i,hhas.1 hi,rfl⟩
 have hsame:∀b,b<w.heap.size->¬(tT w Z (λi=>ρ (cw m i)) pre).O b->w'.heap[b]? =w.heap[b]? :=hw.old;have hzn:∀b,Z b->w'.heap[b]? =w.heap[b]? :=by
  intro b hb;refine hsame b (hs.ws.zlt b hb) λhOb=>?_;obtain⟨i,o2,ho2,_,hb2⟩:=hO b hOb;exact(hs.ws.mine _ _ b ho2 hb2).1 hb
 have hsz:w.heap.size<=w'.heap.size:=hw.size;have hobase:∀b,(tT w Z (λi=>ρ (cw m i)) pre).O b->S.w0.heap.size<=b\/S.O b:=by
  intro b hOb;obtain⟨i,o2,ho2,_,hb2⟩:=hO b hOb;exact(hs.ws.mine _ _ b ho2 hb2).2
 refine⟨v,(MS (cw m) res).v,⟨st.tm.map (uC ks),DF (xl ks st.ob) (post.map λp=>(cw m p.1,oC (cw m) p.2))⟩,Z',ρ1,rfl,⟨?_,by simp[hs.len],λi x u hx hu=>?_,hs.df⟩,O5 hin hres hv,hk⟩
 ·refine⟨hw.os.trans hs.ws.os,hw.tape.trans hs.ws.tape,hw.output.trans hs.ws.output,Nat.le_trans hs.ws.size hsz,λb hb hno=>?_,hw.zlt,λj o b ho hb=>?_,λi j oi oj b hi hj hij hbi hbj=>?_,λj o ho=>?_,⟨λid P Q ho=>?_,λi j P Q P' Q' hi hj=>?_⟩,hw.g,λb hb=>hw.z0 b (hs.ws.z0 b hb),λb hb=>?_⟩
  ·refine(hsame b (Nat.lt_of_lt_of_le hb hs.ws.size) λhOb=>?_).trans (hs.ws.old b hb hno);rcases hobase b hOb with h|h
   ·omega
   ·exact hno h
  ·rcases hob j o ho with⟨c,o',hc1,rfl,rfl⟩|⟨hj,o',ho',rfl⟩
   ·have hcp:=fZ.2 ⟨o',hc1⟩;rw[hin c hcp]at hb;obtain⟨h1,h2⟩:=hw.mine c o' b hc1 hb;refine⟨h1,?_⟩;rcases h2 with h2|h2
    ·exact .inl (Nat.le_trans hs.ws.size h2)
    ·exact hobase b h2
   ·rw[hout j hj]at hb;obtain⟨h1,h2⟩:=hs.ws.mine j o' b ho' hb;refine⟨λhz=>?_,h2⟩;rcases hw.znew b hz with h3|h3|h3
    ·exact h1 h3
    ·have:=hs.ws.lt ho' hb;exact absurd (show w.heap.size<=b from h3) aa
    ·exact hfar j o' b hj ho' hb h3
  ·rcases hob i oi hi with⟨c,o',hc1,rfl,rfl⟩|⟨hi',o',ho',rfl⟩
   ·have hcp:=fZ.2 ⟨o',hc1⟩;rw[hin c hcp]at hbi;rcases hob j oj hj with⟨c2,o2,hc2,rfl,rfl⟩|⟨hj',o2,ho2,rfl⟩
    ·have hcp2:=fZ.2 ⟨o2,hc2⟩;rw[hin c2 hcp2]at hbj;exact hw.sep c c2 o' o2 b hc1 hc2 (λe=>hij (by rw[e])) hbi hbj
    ·rw[hout j hj']at hbj;rcases(hw.mine c o' b hc1 hbi).2 with h|h
     ·have:=hs.ws.lt ho2 hbj;exact absurd (show w.heap.size<=b from h) aa
     ·exact hfar j o2 b hj' ho2 hbj h
   ·rw[hout i hi']at hbi;rcases hob j oj hj with⟨c2,o2,hc2,rfl,rfl⟩|⟨hj',o2,ho2,rfl⟩
    ·have hcp2:=fZ.2 ⟨o2,hc2⟩;rw[hin c2 hcp2]at hbj;rcases(hw.mine c2 o2 b hc2 hbj).2 with h|h
     ·have:=hs.ws.lt ho' hbi;exact absurd (show w.heap.size<=b from h) aa
     ·exact hfar i o' b hi' ho' hbi h
    ·rw[hout j hj']at hbj;exact hs.ws.sep i j o' o2 b ho' ho2 hij hbi hbj
  ·rcases hob j o ho with⟨c,o',hc1,rfl,rfl⟩|⟨hj,o',ho',rfl⟩
   ·have hcp:=fZ.2 ⟨o',hc1⟩;exact Q7 (hpo _ (ig hc1)) (O4 hin hcp (hpo _ (ig hc1)) (Q8 (hpo _ (ig hc1)) (hw.obj c o' hc1)))
   ·refine J5 (λh=>hj (hksub j h)) hag ?_;refine(hs.ws.obj j o' ho').mono hw.z0 hzn λb hb=>hsame b (hs.ws.lt ho' hb) (hfar j o' b hj ho' hb)
  ·obtain⟨hj,ho'⟩:=hmany id P Q ho;obtain⟨h1,h2⟩:=hs.ws.many.ok id P Q ho';have hnO:∀b,P b->¬(tT w Z (λi=>ρ (cw m i)) pre).O b:=by
    intro b hb hOb;obtain⟨i,o2,ho2,_,hb2⟩:=hO b hOb;exact(h1 b hb).2.2.2 _ _ ho2 hb2
   refine⟨λb hb=>⟨Nat.lt_of_lt_of_le (h1 b hb).1 hsz,λhz=>?_,(h1 b hb).2.2.1,λj o hjo hbj=>?_⟩,λw2 hw2=>h2 w2 λb hb=>(hw2 b hb).trans (hsame b (h1 b hb).1 (hnO b hb))⟩
   ·rcases hw.znew b hz with h3|h3|h3
    ·exact(h1 b hb).2.1 h3
    ·have:=(h1 b hb).1;exact absurd (show w.heap.size<=b from h3) aa
    ·exact hnO b hb h3
   ·rcases hob j o hjo with⟨c,o',hc1,rfl,rfl⟩|⟨hj',o',ho2,rfl⟩
    ·rw[hin c (fZ.2 ⟨o',hc1⟩)]at hbj;rcases(hw.mine c o' b hc1 hbj).2 with h3|h3
     ·have:=(h1 b hb).1;exact absurd (show w.heap.size<=b from h3) aa
     ·exact hnO b hb h3
    ·rw[hout j hj']at hbj;exact(h1 b hb).2.2.2 j o' ho2 hbj
  ·exact hs.ws.many.sep i j P Q P' Q' (hmany i P Q hi).2 (hmany j P' Q' hj).2
  ·rcases hw.znew b hb with h|h|h
   ·exact hs.ws.znew b h
   ·exact .inr (.inl (Nat.le_trans hs.ws.size h))
   ·exact .inr (hobase b h)
 ·simp only[getElem?_map]at hx;obtain⟨x0,h0,rfl⟩:=map_eq_some_iff.1 hx;exact Di hag ((hs.tm i x0 u h0 hu).mono hw.z0 hzn)
theorem XE{E:bz}{S:bR}{st:ASt}{f:FuncId}{args:List AA}{pre post:List (Nat×AO)}{keep:List Nat}{res:AR}{K:AV->ASt->Prop}{cargs:List AV}(hc:gc E f args pre post keep res)(m:List (Nat×Nat))
  (hck:xj m pre post res=true) (hargs:(args.map λa=>(Bi (cw m) a).v)=cargs) (hk:Uf m st pre post keep res K):aG E S f cargs st K:=by
 obtain⟨hpre,hk⟩:=IY hk;have hk:=Oj (Cp (zH hk));exact Zi hc m hck hargs hpre hk
end
section
open Go.RowKit
theorem aG.upd{E:bz}{S:bR}{tm:List AV}{ob:List (Nat×AO)}{f:FuncId}{args:List AA}{o o':AO}{res:AR}{K:AV->ASt->Prop}{cargs:List AV}(hc:gc E f args [(1000,o)] [(1000,o')] [1000] res)(id:Nat)
  (hck:xj [(1000,id)] [(1000,o)] [(1000,o')] res=true) (hargs:(args.map λa=>(Bi (cw [(1000,id)]) a).v)=cargs) (hob:bo ob id=some (oC (cw [(1000,id)]) o))
  (hk:PY [(1000,id)] o' λo'=>fW id o' ob λob=>PZ [(1000,id)] res λr=>K r ⟨tm,ob⟩):aG E S f cargs ⟨tm,ob⟩ K:=
 XE hc [(1000,id)] hck hargs (show aOb ob id λo1=>o1=oC (cw [(1000,id)]) o/\_ from Hq hob ⟨rfl,hk⟩)
end
section
open Go.RowKit
structure PK (E:bz) (f:FuncId) (args:List AV) (c:Nat) (o0 o1:AO) (r:AV):Prop where
 h:∀{S:bR} {tm:List AV} {ob:List (Nat×AO)} {K:AV->ASt->Prop},bo ob c=some o0->K r ⟨tm,eD ob c o1⟩->aG E S f args ⟨tm,ob⟩ K
theorem aaQ{E:bz}{f:FuncId}{args:List AA}{o o':AO}{res:AR}{cargs:List AV}{o0 o1:AO}{r:AV}(hc:gc E f args [(1000,o)] [(1000,o')] [1000] res)(id:Nat)
  (hck:xj [(1000,id)] [(1000,o)] [(1000,o')] res=true) (hargs:(args.map λa=>(Bi (cw [(1000,id)]) a).v)=cargs) (h0:oC (cw [(1000,id)]) o=o0) (h1:oC (cw [(1000,id)]) o'=o1) (hr:(MS (cw [(1000,id)]) res).v=r):PK E f cargs id o0 o1 r:=by
 subst h0 h1 hr;refine⟨fun{S tm ob K} hget hk=>Zi hc [(1000,id)] hck hargs (λi x hx=>?_) ?_⟩
 ·rw[List.mem_singleton]at hx;injection hx with e1 e2
  subst e1 e2;exact hget
 ·have e:Dx [(1000,id)] [(1000,o')] [1000]=[]:=rfl;rw[e];have e2:uC []=_root_.id:=rfl;rw[e2,List.map_id];exact hk
section
variable {E:bz} {S:bR} {Z:Nat->Prop} {ρ:Nat->Value} {P:ASt} {tm:List AV} {ob:List (Nat×AO)} {a:Act} {w:World} {o:Oper} {c:Nat} {o0 o1:AO} {r:AV}
end
section
variable {E:bz} {S:bR} {ops:List Oper} {D:List (List Nat)} {R:List (AV×Option AO)} {n0:Nat} {st0:ASt}
end
section
variable {E:bz} {S:bR} {ops:Array Oper} {n0:Nat} {st0:ASt} {R:List (AV×Option AO)} {K:ASt->Prop} {Q:Exit->Act->World->Prop}
end
end
end
end Go.Proofs.YtpdmakdpnejnfaaGreat
