/- J07 -/
import Derived.Test.YtnlhpdbijmnkhaaGreatDoorJ06
set_option linter.unusedVariables false
set_option linter.unusedSimpArgs false
set_option maxRecDepth 100000
namespace Go.Proofs.YtnlhpdbijmnkhaaGreatDoor
open Go.Proofs.Tryz
open Go.ChangeShapes Go.WideShapes Go.RowKit
section
variable {S:aZ} {o:Oper} {st:ASt} {K:ASt->Prop}
end
theorem vF{s:List DMark}{k:Nat}(hk:k<s.length)(h:bc di fE s k hk=false):bn s=false:=by
  have:=hH hk h
  simp only[bn,this,Bool.false_and]
theorem y1{s:List DMark}{j k:Nat}(hj:j<k)(hk:k<s.length)(h:(s[j]'(by omega)).index=s[k].index):bn s=false:=by
  have:=kE (R:=jb) hj hk (by simp[jb,h])
  simp only[bn,this,Bool.and_false]
theorem y4{s:List DMark}(h:∀(j:Nat) (hl:j<s.length),bc di fE s j hl=true)(hd:∀(i j:Nat) (hi:i<j) (hl:j<s.length),(s[i]'(by omega)).index≠s[j].index):bn s=true:=by
  have h1:=tD h
  have h2:=iQ (R:=jb) (l:=s) λi j hi hl=>by simpa[jb]using hd i j hi hl
  simp only[bn,h1,h2,Bool.and_self]
theorem CS{s:List DMark}{k:Nat}(hlt:k<s.length)(hd:∀(i j:Nat) (hi:i<j) (hj:j<k) (hl:j<s.length),(s[i]'(by omega)).index≠s[j].index)(h:∀(i:Nat) (hi:i<k),(s[i]'(by omega)).index≠s[k].index):∀(i j:Nat) (hi:i<j) (hj:j<k+1) (hl:j<s.length),(s[i]'(by omega)).index≠s[j].index:=by
  intro i j hi hj hl
  by_cases hjk:j=k
  · subst hjk;exact h i hi
  · exact hd i j hi Iv hl
theorem eF{s:List DMark}(h:bn s=true):s.length<=4:=by
  simp only[bn,Bool.and_eq_true]at h
  obtain⟨⟨h1,h2⟩,_⟩:=h
  have key:∀(j:Nat) (hj:j<s.length),(2:Int)+j<=s[j].client:=by
    intro j
    induction j with
    |zero=>
      intro hj
      have:=lK h1 hj
      simp only[di,ac,Bool.and_eq_true,decide_eq_true_eq]at this
      omega
    |succ j ih=>
      intro hj
      have:=kA h2 hj
      simp only[fE,decide_eq_true_eq]at this
      have:=ih Iv
      omega
  rcases Nat.lt_or_ge 4 s.length with hl|hl
  · have h5:=key 4 hl
    have:=lK h1 hl
    simp only[di,ac,Bool.and_eq_true,decide_eq_true_eq]at this
    omega
  · exact hl
end Go.Proofs.YtnlhpdbijmnkhaaGreatDoor
namespace Go.Proofs.YtnlhpdbijmnkhaaGreatDoor
open Go.Proofs.Tryz
open Go.ChangeShapes Go.WideShapes Go.RowKit
def iI(s:List DMark):Prop:=s.Pairwise λx y=>x.client<y.client
theorem qJ:∀{s:List DMark},fP fE s=true->iI s
  |[],_=>List.Pairwise.nil
  |[x],_=>List.pairwise_singleton _ _
  |x::y::r,h=>by
    simp only[fP,Bool.and_eq_true]at h
    have ih:=qJ (s:=y::r) h.2
    have hxy:x.client<y.client:=by simpa[fE]using h.1
    refine List.pairwise_cons.2 ⟨λz hz=>?_,ih⟩
    rcases List.mem_cons.1 hz with rfl|hz
    · exact hxy
    · have:=(List.pairwise_cons.1 ih).1 z hz
      omega
theorem so:∀{s:List DMark},iI s->fP fE s=true
  |[],_=>rfl
  |[x],_=>rfl
  |x::y::r,h=>by
    have h1:=List.pairwise_cons.1 h
    simp only[fP,Bool.and_eq_true]
    exact⟨by simpa[fE]using h1.1 y Iy,so h1.2⟩
theorem pi{s:List DMark}(h:bn s=true):iI s:=by
  simp only[bn,Bool.and_eq_true]at h
  exact qJ h.1.2
theorem AX{s:List DMark}(h:bn s=true){m:DMark}(hm:m∈s):di m=true:=by
  simp only[bn,Bool.and_eq_true]at h
  exact List.all_eq_true.1 h.1.1 m hm
theorem zv{s:List DMark}{c:Int}(h:∀m∈s,c<=m.client):s.filter (λx=>decide (x.client<c))=[]:=by
  rw[List.filter_eq_nil_iff]
  intro m hm
  have:=h m hm
  simp;omega
theorem yY{s:List DMark}(h:iI s)(m:DMark):iI (cu s m):=by
  unfold cu iI
  rw[List.pairwise_append]
  refine⟨h.sublist List.filter_sublist,List.pairwise_cons.2 ⟨λz hz=>?_,h.sublist List.filter_sublist⟩,λa ha b hb=>?_⟩
  · have:=(List.mem_filter.1 hz).2
    simpa using this
  · have h1:=(List.mem_filter.1 ha).2
    simp only[decide_eq_true_eq]at h1
    rcases List.mem_cons.1 hb with rfl|hb
    · exact h1
    · have:=(List.mem_filter.1 hb).2
      simp only[decide_eq_true_eq]at this
      omega
theorem zD{s:List DMark}{m x:DMark}(h:x∈cu s m):x=m\/x∈s:=by
  unfold cu at h
  rcases List.mem_append.1 h with h|h
  · exact .inr (List.mem_filter.1 h).1
  · rcases List.mem_cons.1 h with h|h
    · exact .inl h
    · exact .inr (List.mem_filter.1 h).1
theorem ja(x0:Int):∀s:List DMark,(∀m∈s,m.index<=s.foldl (λx m=>if m.index>x then m.index else x) x0)/\x0<=s.foldl (λx m=>if m.index>x then m.index else x) x0/\(s.foldl (λx m=>if m.index>x then m.index else x) x0=x0\/∃m∈s,m.index=s.foldl (λx m=>if m.index>x then m.index else x) x0)
  |[]=>⟨by simp,by simp,.inl rfl⟩
  |y::r=>by
    obtain⟨h1,h2,h3⟩:=ja (if y.index>x0 then y.index else x0) r
    simp only[List.foldl_cons]
    have hy:y.index<=(if y.index>x0 then y.index else x0)/\x0<=(if y.index>x0 then y.index else x0):=by split<;>omega
    refine⟨λm hm=>?_,by omega,?_⟩
    · rcases List.mem_cons.1 hm with rfl|hm
      · omega
      · exact h1 m hm
    · rcases h3 with h3|⟨m,hm,h3⟩
      · by_cases hc:y.index>x0
        · rw[if_pos hc]at h3⊢
          exact .inr ⟨y,by simp,h3.symm⟩
        · rw[if_neg hc]at h3⊢
          exact .inl h3
      · exact .inr ⟨m,by simp[hm],h3⟩
theorem vp{s:List DMark}{m:DMark}(h:m∈s):m.index<=bz s:=(ja 0 s).1 m h
theorem wP(s:List DMark):0<=bz s:=(ja 0 s).2.1
theorem Dj{s:List DMark}{x:Int}(h1:∀m∈s,m.index<=x)(h2:∃m∈s,m.index=x)(h0:0<=x):bz s=x:=by
  obtain⟨m,hm,e⟩:=h2
  have h3:=vp hm
  rcases(ja 0 s).2.2 with h|⟨y,hy,h⟩
  · have h:bz s=0:=h
    omega
  · have h:y.index=bz s:=h
    have:=h1 y hy
    omega
theorem Cf{s:List DMark}{m:DMark}(h:bz s<m.index):bz (cu s m)=m.index:=by
  have h0:=wP s
  refine Dj (λx hx=>?_) ⟨m,by simp[cu],rfl⟩ Iv
  rcases zD hx with rfl|hx
  · exact Int.le_refl _
  · have:=vp hx
    omega
theorem yt{e:DEntry}(h:ca e=true):di e.mark=true:=by
  simp only[ca,Bool.and_eq_true]at h
  simp only[di,DEntry.mark,Bool.and_eq_true]
  exact⟨⟨h.1.1.2,h.1.2⟩,h.1.1.1.1⟩
theorem zC{s:List DMark}{R:DMark->DMark->Prop}(h:s.Pairwise R){i j:Nat}(hi:i<j)(hj:j<s.length):R (s[i]'(by omega)) s[j]:=List.pairwise_iff_getElem.1 h i j Iv hj hi
theorem qK:∀{s:List DMark},bX jb s=true->s.Pairwise λx y=>x.index≠y.index
  |[],_=>List.Pairwise.nil
  |x::r,h=>by
    simp only[bX,Bool.and_eq_true]at h
    refine List.pairwise_cons.2 ⟨λy hy=>?_,qK h.2⟩
    have:=List.all_eq_true.1 h.1 y hy
    simpa[jb]using this
theorem rF:∀{s:List DMark},(s.Pairwise λx y=>x.index≠y.index)->bX jb s=true
  |[],_=>rfl
  |x::r,h=>by
    obtain⟨h1,h2⟩:=List.pairwise_cons.1 h
    simp only[bX,Bool.and_eq_true]
    refine⟨List.all_eq_true.2 λy hy=>?_,rF h2⟩
    have:=h1 y hy
    simpa[jb]using this
theorem Cz{s:List DMark}{m:DMark}(h:bn s=true)(hm:di m=true)(hl:bz s<m.index):bn (cu s m)=true:=by
  have hs:=pi h
  have hx:∀x∈s,x.index≠m.index:=λx hx=>by have:=vp hx;omega
  have hp:s.Pairwise λx y=>x.index≠y.index:=by
    simp only[bn,Bool.and_eq_true]at h
    exact qK h.2
  simp only[bn,Bool.and_eq_true]
  refine⟨⟨List.all_eq_true.2 λx hx=>?_,so (yY hs m)⟩,rF ?_⟩
  · rcases zD hx with rfl|hx
    · exact hm
    · exact AX h hx
  · unfold cu
    rw[List.pairwise_append]
    refine⟨hp.sublist List.filter_sublist,List.pairwise_cons.2 ⟨λz hz=>(hx z (List.mem_filter.1 hz).1).symm,hp.sublist List.filter_sublist⟩,λa ha b hb=>?_⟩
    have h1:=List.mem_filter.1 ha
    simp only[decide_eq_true_eq]at h1
    rcases List.mem_cons.1 hb with rfl|hb
    · exact hx a h1.1
    · have h2:=List.mem_filter.1 hb
      simp only[decide_eq_true_eq]at h2
      obtain⟨i,hi,rfl⟩:=List.getElem_of_mem h1.1
      obtain⟨j,hj,rfl⟩:=List.getElem_of_mem h2.1
      rcases Nat.lt_trichotomy i j with hij|hij|hij
      · exact zC hp hij hj
      · subst hij;omega
      · exact(zC hp hij hi).symm
theorem wT{s s':List DMark}{e:DEntry}(h:bn s=true)(hm:ct s e=some s'):bn s'=true/\bz s'=e.index:=by
  unfold ct at hm
  split at hm
  · rename_i hc
    simp only[Bool.and_eq_true,decide_eq_true_eq]at hc
    injection hm with hm
    subst hm
    exact⟨Cz h (yt hc.1.1) hc.2,Cf hc.2⟩
  · cases hm
theorem kV(s:List DMark):∀(a b:List DEntry),bV s (a++b)=(bV s a).bind λs'=>bV s' b
  |[],b=>rfl
  |e::a,b=>by
    simp only[List.cons_append,bV]
    cases ct s e with
    |none=>rfl
    |some s'=>exact kV s' a b
theorem ot:∀{l:List DEntry} {s s':List DMark},bn s=true->bV s l=some s'->bn s'=true
  |[],s,s',h,hf=>by simp only[bV,Option.some.injEq]at hf;subst hf;exact h
  |e::r,s,s',h,hf=>by
    simp only[bV]at hf
    cases hm:ct s e with
    |none=>rw[hm]at hf;cases hf
    |some s1=>rw[hm]at hf;exact ot (wT h hm).1 hf
theorem tM{s c:List DMark}{l:List DEntry}{k:Nat}(hk:k<l.length)(h:bV s (l.take k)=some c):bV s (l.take (k+1))=ct c l[k]:=by
  rw[List.take_succ_eq_append_getElem hk,kV,h]
  simp only[Option.bind_some,bV]
  cases ct c l[k]<;>rfl
theorem Al{s c:List DMark}{l:List DEntry}{k:Nat}(hk:k<l.length)(h:bV s (l.take k)=some c)(hn:ct c l[k]=none):bV s l=none:=by
  have e:l=l.take (k+1)++l.drop (k+1):=(List.take_append_drop _ _).symm
  rw[e,kV,tM hk h,hn]
  rfl
def DMark.v(m:DMark):Value:= .agg #[.int .i64 m.client,.int .i64 m.seq,.int .i64 m.index]
def cy(x:DMark)(p:List DMark×Bool)(m:DMark):List DMark×Bool:=
  let q:=if(!p.2&&decide (m.client>=x.client))=true then(p.1++[x],true)else p
  if(m.client !=x.client)=true then(q.1++[m],q.2)else q
theorem lz(x:DMark):∀(r:List DMark) (out:List DMark),(∀m∈r,x.client<m.client)->r.foldl (cy x) (out,true)=(out++r,true)
  |[],out,_=>by simp
  |m::r,out,h=>by
    have hm:=h m Iy
    have e:(m.client !=x.client)=true:=by simp;omega
    rw[List.foldl_cons]
    have:cy x (out,true) m=(out++[m],true):=by simp[cy,e]
    rw[this,lz x r _ λy hy=>h y (by simp[hy])]
    simp
theorem uu(x:DMark):∀(s:List DMark) (out:List DMark),iI s->(let p:=s.foldl (cy x) (out,false);if p.2 then p.1 else p.1++[x])=out++cu s x
  |[],out,_=>by simp[cu]
  |m::r,out,h=>by
    obtain⟨h1,h2⟩:=List.pairwise_cons.1 h
    rw[List.foldl_cons]
    rcases Int.lt_trichotomy m.client x.client with hx|hx|hx
    · have e:cy x (out,false) m=(out++[m],false):=by
        have e1:(m.client !=x.client)=true:=by simp;omega
        have e2:decide (m.client>=x.client)=false:=by simp;omega
        simp[cy,e1,e2]
      rw[e]
      have:=uu x r (out++[m]) h2
      simp only at this⊢
      rw[this]
      have e1:decide (m.client<x.client)=true:=by simp;omega
      have e2:decide (x.client<m.client)=false:=by simp;omega
      simp[cu,List.filter_cons,e1,e2]
    · have e:cy x (out,false) m=(out++[x],true):=by
        have e1:(m.client !=x.client)=false:=by simp;omega
        have e2:decide (m.client>=x.client)=true:=by simp;omega
        simp[cy,e1,e2]
      rw[e,lz x r _ λy hy=>by have:=h1 y hy;omega]
      have e1:decide (m.client<x.client)=false:=by simp;omega
      have e2:decide (x.client<m.client)=false:=by simp;omega
      have e3:=zv (s:=r) (c:=x.client) λy hy=>by have:=h1 y hy;omega
      have e4:r.filter (λy=>decide (x.client<y.client))=r:=List.filter_eq_self.2 λy hy=>by have:=h1 y hy;simp;omega
      simp[cu,List.filter_cons,e1,e2,e3,e4]
    · have e:cy x (out,false) m=(out++[x]++[m],true):=by
        have e1:(m.client !=x.client)=true:=by simp;omega
        have e2:decide (m.client>=x.client)=true:=by simp;omega
        simp[cy,e1,e2]
      rw[e,lz x r _ λy hy=>by have:=h1 y hy;omega]
      have e1:decide (m.client<x.client)=false:=by simp;omega
      have e2:decide (x.client<m.client)=true:=by simp;omega
      have e3:=zv (s:=r) (c:=x.client) λy hy=>by have:=h1 y hy;omega
      have e4:r.filter (λy=>decide (x.client<y.client))=r:=List.filter_eq_self.2 λy hy=>by have:=h1 y hy;simp;omega
      simp[cu,List.filter_cons,e1,e2,e3,e4]
end Go.Proofs.YtnlhpdbijmnkhaaGreatDoor
namespace Go.Proofs.YtnlhpdbijmnkhaaGreatDoor
open Go.Proofs.Tryz
open Go.ChangeShapes Go.WideShapes Go.RowKit
def kI:List (List Nat):=cX [0,0,66,12417,1052803,84680772,6509830341,486455906566,35601001230663,35601001230663,164122109978632714,12864558999848899017,895947530576690971275,62214096053295717315148,4288581010608110333633229,156574859254327662432785166,20081510041707290985360540040,1356899553734770709485945406352,1356899553734770709485945406352,5923587830982514145972845142377555,421636442773735343416726771234563090,28292897532666114236322210354999399636,1898537750402680611027230854233737200789,127034656468995985865646476997610663392534,5967707348221782891828072951731102390494551,565648852092902157227629397357442590340833809,37490373280641151012592431874597664098943063513,2502485539529844412531286436639603921451199530074,166087567271022160503618616904197948703796800878171,11010347230074533307146158530030619788898519968978588,11010347230074533307146158530030619788898519968978588,752932131912260334039555932757799679532369757563885277,2985930297697201441291086890838327699612987223161923557407,210234572940368821915163135926733937005219597242913295542046,13850072915254038234349307345913535094213956629436102207735777,11010347230074533307146158530030619788898519968978588,11010347230074533307146158530030619788898519968978588,55850134146714105670323314832250725408165360095006668645,3784436152620604361418416164180035334021156397949328402212,248381376265470252552496479654363036654114445380177772796262,980691698394957500613724600803745561927647133727159787676620151127169319,51994894724060614221224959313175579963534257980652146624656993052187031651,2970293386999070557595757949505285772116318429614249986723245519214184089309]
def kQ:List (List Nat):=dQ 40 [6,2,4,13,40,121,364,1093,42646,16402,29524,88573,265720,797161,2391484,7174453,21523360,839411059,322850407,581130733,1743392200,5230176601,15690529804,47071589413,141214768240,423644304721,1270932914164,3812798742493,11438396227480,12109315358203368727,12107805489901341301,12108011381033435950,12108560424052355014,12110413444241206855,12115972504807762378,350186500504315507,150060320108316679,250123410306316093,700407316197313456,2051259033870305545]
def jN:List (List Nat):=cX [0,0,66,12417,1052803,0,0,391,33222,2384328,90925286754906505]
def j5:List (List Nat):=dQ 10 [58812,58808,58810,58819,58846,1700,728,1214,3401,9962]
theorem bo{a b c:Nat}{Q:Prop}(h:(a+b)*c<=140737488355328)(q:Q):(a+b)*c<=140737488355328/\Q:=⟨h,q⟩
theorem ba{xs:List (List AD)}{s:Nat}{Q:Prop}(h:∀x∈xs,x.length=s)(q:Q):(∀x∈xs,x.length=s)/\Q:=⟨h,q⟩
theorem xC(a b:Int):an av 155 [pI a,pI b] (rI (if b>a then b else a)):=by
  refine ai aj func155 rfl call155 ntmps155 (IG results155) λS=>?_;conv=>whnf
  repeat'((first|refine aw0 ?_|refine aw1 ?_|refine aw2 ?_|refine aw3 ?_|refine aw4 ?_|refine aw5 ?_|refine aw6 ?_|refine aw7 ?_|refine aw8 ?_|refine bT ?_|refine bF ?_|exact rr|refine And.intro rfl ?_|refine AB.mk (λh=>?_) (λh=>?_))<;>conv=>whnf)
  all_goals
    simp only[decide_eq_true_eq,decide_eq_false_iff_not]at*
    first
      |(rw[if_neg Iv];done)
      | (by_cases h2 : b > a
         · rw[if_pos h2]
         · rw[if_neg h2];have:a=b:=by omega
           rw[this])
theorem eg(s:List DMark)(h:s.length<=1000000):an av 125 [.one (.sl (s.map DMark.ds))] (.val (.one (.sl (s.map DMark.ds)))):=by
  refine ai aj func125 rfl call125 ntmps125 (IG results125) λS=>?_;conv=>whnf
  repeat'((first|refine aw0 ?_|refine aw1 ?_|refine aw2 ?_|refine aw3 ?_|refine aw4 ?_|refine aw5 ?_|refine aw6 ?_|refine aw7 ?_|refine aw8 ?_|refine bT ?_|refine bF ?_|refine ba (λx hx=>by obtain⟨y,_,rfl⟩:=List.mem_map.1 hx;rfl) ?_|refine bo IF ?_|exact rr|refine And.intro rfl ?_|refine AB.mk (λh=>?_) (λh=>?_))<;>conv=>whnf)
  all_goals rfl
theorem y3{s:List DMark}(h:¬s.length<=4):bn s=false:=by
  cases hs:bn s with
  |false=>rfl
  |true=>exact absurd (eF hs) h
set_option maxHeartbeats 2000000 in
theorem cd(s:List DMark):an av 122 [.one (.sl (s.map DMark.ds))] (rB (bn s)):=by
  refine ai aj func122 rfl call122 ntmps122 (IG results122) λS=>?_;conv=>whnf
  repeat'((first|refine aw0 ?_|refine aw1 ?_|refine aw2 ?_|refine aw3 ?_|refine aw4 ?_|refine aw5 ?_|refine aw6 ?_|refine aw7 ?_|refine aw8 ?_|refine bT ?_|refine bF ?_|exact rr|refine And.intro rfl ?_|refine AB.mk (λh=>?_) (λh=>?_))<;>conv=>whnf)
  · rw[y3 ari]
  · have h4:s.length<=4:=ari
    clear h
    refine AWP.loopS (λk:Nat=>k<=s.length/\(∀(j:Nat) (hj:j<k) (hl:j<s.length),bc di fE s j hl=true)/\∀(i j:Nat) (hi:i<j) (hj:j<k) (hl:j<s.length),(s[i]'(by omega)).index≠s[j].index) [2,3,4,8,9,10,11,12,13,14,15,16,17,18,19,20,21,22,23,24,25,26,27,28,29,30,31,32,33,34,35,36,37,38,39,40,41,42,43,44,45,46,47,48,49,50,51,52,53,54,55,56,57,58,59,60,61,62,63,64,65,66,67,68,69,70,71,72] (λk=>[(3,vI .i64 (k:Int))]) (λk=>[]) (λk=>s.length-k) 0 ⟨by omega,by omega,by omega⟩ ?_ ae.nil (λk hR=>?_)<;>(conv=>whnf)
    · exact whd
    · obtain⟨hk,hall,hdup⟩:=hR
      repeat'((first|refine aw0 ?_|refine aw1 ?_|refine aw2 ?_|refine aw3 ?_|refine aw4 ?_|refine aw5 ?_|refine aw6 ?_|refine aw7 ?_|refine aw8 ?_|refine bT ?_|refine bF ?_|refine AWP.drawK aj 6 40 kI kQ Iw Iw Iw rfl ?_|refine AIx.mapF ari (λhlt=>?_)|refine AIx.mapP ari ari (λhpv=>?_)|refine AW.i64 (n:=_-_) ari ari ?_|refine AW.i64 ari ari ?_|refine cP (gm _) ?_|refine cP (ly _) ?_|refine cP (mV _) ?_|exact rr|refine And.intro rfl ?_|refine AB.mk (λh=>?_) (λh=>?_))<;>conv=>whnf)
      all_goals first
        |(rw[vF hlt (by first|(refine bO _ ?_;simp_all[di];done)|(rw[bb _ ari];simp_all[di,fE];done)|(rw[bd _ ari];simp_all[di];done))];done)
        | (refine bK ?_
           have hkk:k=s.length:=ari
           rw[y4 (λj hl=>hall j Iv hl) (λi j hi hl=>hdup i j hi Iv hl)];done)
        |skip
      all_goals
        have hch:bc di fE s k hlt=true:=(by first|(refine bO _ ?_;simp_all[di];done)|(rw[bb _ ari];simp_all[di,fE];done)|(rw[bd _ ari];simp_all[di];done))
        refine AWP.loopS (λq:Nat=>q<=k/\∀(i:Nat) (hi:i<q) (hik:i<k),(s[i]'(by omega)).index≠s[k].index) [2,4,57,58,59,60,61,62,63,64,65,66,67,68,69,70,71,72] (λq=>[(4,vI .i64 (q:Int))]) (λ_=>[]) (λq=>k-q) 0 ⟨by omega,by omega⟩ ?_ ae.nil (λq hQ=>?_)<;>(conv=>whnf)
        · exact whd
        · obtain⟨hq,hno⟩:=hQ
          repeat'((first|refine aw0 ?_|refine aw1 ?_|refine aw2 ?_|refine aw3 ?_|refine aw4 ?_|refine aw5 ?_|refine aw6 ?_|refine aw7 ?_|refine aw8 ?_|refine bT ?_|refine bF ?_|refine AWP.drawK aj 11 10 jN j5 Iw Iw Iw rfl ?_|refine AIx.mapF (k:=q) ari (λhqt=>?_)|refine AIx.mapF (k:=k) ari (λhlt=>?_)|refine AW.i64 ari ari ?_|exact rr|refine And.intro rfl ?_|refine AB.mk (λh=>?_) (λh=>?_))<;>conv=>whnf)
          all_goals first
            |(rw[y1 (j:=q) (k:=k) ari ari (by simp_all)];done)
            | (refine aN.mk ⟨q + 1, ⟨ari, fun i hi hik => ?_⟩, ari, ?_, ae.nil⟩
               · by_cases hiq:i=q
                 · subst hiq;intro e;simp[e]at h
                 · exact hno i Iv hik
               · exact hds)
            | (refine aN.mk ⟨k + 1, ⟨ari, e8 hall ari hch, CS ari hdup fun i hi => hno i ari hi⟩, ari, ?_, ae.nil⟩
               exact hds)
theorem Av{s:List DMark}{k:Nat}(hk:k<s.length):bz (s.take (k+1))=(if s[k].index>bz (s.take k)then s[k].index else bz (s.take k)):=by
  unfold bz
  rw[List.take_succ_eq_append_getElem hk,List.foldl_append]
  rfl
theorem gH(s:List DMark)(h:bn s=true):an av 123 [.one (.sl (s.map DMark.ds))] (rI (bz s)):=by
  have h':(!bn s)=false:=by simp[h]
  have hl:=eF h
  refine ai aj func123 rfl call123 ntmps123 (IG results123) λS=>?_;conv=>whnf
  repeat'((first|refine aw0 ?_|refine aw1 ?_|refine aw2 ?_|refine aw3 ?_|refine aw4 ?_|refine aw5 ?_|refine aw6 ?_|refine aw7 ?_|refine aw8 ?_|refine bT ?_|refine bF ?_|refine cP (cd s) ?_|exact rr|refine And.intro rfl ?_|refine AB.mk (λh=>?_) (λh=>?_))<;>conv=>whnf)
  refine AWP.loopS (λp:Nat×Int=>p.1<=s.length/\p.2=bz (s.take p.1)) [3,4,9,10,11,12,13,14,15,16,17,18,19,20,21] (λp=>[(3,vI .i64 p.2),(4,vI .i64 (p.1:Int))]) (λ_=>[]) (λp=>s.length-p.1) (0,0) ⟨by simp,rfl⟩ ?_ ae.nil (λp hR=>?_)<;>(conv=>whnf)
  · exact whd
  · obtain⟨k,v⟩:=p
    obtain⟨hk,hv⟩:=hR
    simp only at hk hv
    repeat'((first|refine aw0 ?_|refine aw1 ?_|refine aw2 ?_|refine aw3 ?_|refine aw4 ?_|refine aw5 ?_|refine aw6 ?_|refine aw7 ?_|refine aw8 ?_|refine bT ?_|refine bF ?_|refine AIx.mapF ari (λhlt=>?_)|refine AW.i64 ari ari ?_|refine cP (xC _ _) ?_|exact rr|refine And.intro rfl ?_|refine AB.mk (λh=>?_) (λh=>?_))<;>conv=>whnf)
    all_goals first
      | (refine aN.mk ⟨(k + 1, if s[k].index > v then s[k].index else v), ⟨ari, by simp only [Av (s := s) (k := k) ari, hv]⟩, by simp only; omega, ?_, ae.nil⟩
         exact hds)
      | (have hkk : k = s.length := ari
         subst hkk
         rw[List.take_length]at hv
         rw[hv])
theorem Ay{s:List DMark}{c:Int}{k:Nat}(hk:k<s.length)(hno:∀(j:Nat) (hj:j<k) (hl:j<s.length),s[j].client≠c)(h:s[k].client=c):jc s c=s[k]:=by
  unfold jc
  have e:s=s.take k++s[k]::s.drop (k+1):=by simp
  have h0:(s.take k).find? (λm=>m.client==c)=none:=by
    rw[List.find?_eq_none]
    intro m hm
    obtain⟨i,hi,rfl⟩:=List.getElem_of_mem hm
    simp at hi
    have:=hno i Iv Iv
    simpa using this
  have:s.find? (λm=>m.client==c)=some s[k]:=by
    conv=>lhs;rw[e]
    rw[List.find?_append,h0,List.find?_cons]
    simp[h]
  rw[this];rfl
theorem Az{s:List DMark}{c:Int}(hno:∀(j:Nat) (hl:j<s.length),s[j].client≠c):jc s c=⟨0,0,0⟩:=by
  unfold jc
  have:s.find? (λm=>m.client==c)=none:=by
    rw[List.find?_eq_none]
    intro m hm
    obtain⟨i,hi,rfl⟩:=List.getElem_of_mem hm
    simpa using hno i hi
  rw[this];rfl
theorem lY(s:List DMark)(c:Int)(h:bn s=true):an av 90 [.one (.sl (s.map DMark.ds)),pI c] (.val (.agg (jc s c).ds)):=by
  have h':(!bn s)=false:=by simp[h]
  have hl:=eF h
  refine ai aj func90 rfl call90 ntmps90 (IG results90) λS=>?_;conv=>whnf
  repeat'((first|refine aw0 ?_|refine aw1 ?_|refine aw2 ?_|refine aw3 ?_|refine aw4 ?_|refine aw5 ?_|refine aw6 ?_|refine aw7 ?_|refine aw8 ?_|refine bT ?_|refine bF ?_|refine cP (cd s) ?_|exact rr|refine And.intro rfl ?_|refine AB.mk (λh=>?_) (λh=>?_))<;>conv=>whnf)
  refine AWP.loopS (λk:Nat=>k<=s.length/\∀(j:Nat) (hj:j<k) (hl:j<s.length),s[j].client≠c) [5,10,11,12,13,14,15,16,17,18,19,20,21,22,23,24,25,26] (λk=>[(5,vI .i64 (k:Int))]) (λ_=>[(4,.cells 167 [.d (dI 0),.d (dI 0),.d (dI 0)])]) (λk=>s.length-k) 0 ⟨by omega,by omega⟩ ?_ (ae.cons rfl ae.nil) (λk hR=>?_)<;>(conv=>whnf)
  · exact whd
  · obtain⟨hk,hno⟩:=hR
    repeat'((first|refine aw0 ?_|refine aw1 ?_|refine aw2 ?_|refine aw3 ?_|refine aw4 ?_|refine aw5 ?_|refine aw6 ?_|refine aw7 ?_|refine aw8 ?_|refine bT ?_|refine bF ?_|refine AIx.mapF ari (λhlt=>?_)|refine AW.i64 ari ari ?_|exact rr|refine And.intro rfl ?_|refine AB.mk (λh=>?_) (λh=>?_))<;>conv=>whnf)
    all_goals first
      | (refine aN.mk ⟨k + 1, ⟨ari, fun j hj hl => ?_⟩, by omega, ?_, ae.cons rfl ae.nil⟩
         · by_cases hjk:j=k
           · subst hjk;simp_all
           · exact hno j Iv hl
         · exact hds)
      |(rw[Ay (k:=k) hlt hno (by simp_all)];rfl)
      | (have hkk : k = s.length := ari
         rw[Az λj hl=>hno j Iv hl];rfl)
theorem rS(s:List DMark)(c q:Int)(h:bn s=true)(hc:ac c 2 5=true)(hq:ac q 1 2000=true):an av 157 [.one (.sl (s.map DMark.ds)),pI c,pI q] (rB (decide ((jc s c).seq<q))):=by
  refine ai aj func157 rfl call157 ntmps157 (IG results157) λS=>?_;conv=>whnf
  repeat'((first|refine aw0 ?_|refine aw1 ?_|refine aw2 ?_|refine aw3 ?_|refine aw4 ?_|refine aw5 ?_|refine aw6 ?_|refine aw7 ?_|refine aw8 ?_|refine bT ?_|refine bF ?_|refine cP (cd s) ?_|refine cP (lY s c h) ?_|refine cP (gm _) ?_|refine cP (ly _) ?_|exact rr|refine And.intro rfl ?_|refine AB.mk (λh=>?_) (λh=>?_))<;>conv=>whnf)
  all_goals first
    |rfl
    |simp_all
end Go.Proofs.YtnlhpdbijmnkhaaGreatDoor
namespace Go.Proofs.YtnlhpdbijmnkhaaGreatDoor
open Go.Proofs.Tryz
open Go.ChangeShapes Go.WideShapes Go.RowKit
def kJ:List (List Nat):=cX [0,1,129,12354,1056835,1056835,101453956,1056835,135008388,1420639959016008,182435787227795653,4648010245964599818,897119605921862652036,61688236933047122166412,4288656023430201321201933,61688236933047122166412,4893118933237515908555021,1204593638896541768696351220816,66237240043834182832914358670223]
def kR:List (List Nat):=dQ 17 [0,1,4,13,19480,17698,17941,2146,4333,9841,29524,88573,265720,115588417,117182740,13551745,27900652]
def jO:List (List Nat):=cX [0,1,129,12354,12354,67637445,6527127684,485365133638,12354,2367555,145826235435479689,3477390870126285192]
def j6:List (List Nat):=dQ 10 [0,1,4,52663,52555,52609,52852,53581,6547,13108]
def jP:List (List Nat):=cX [0,0,66,12417,1052803,0,6,346852442566]
def j7:List (List Nat):=dQ 7 [1950,1946,1948,1957,1984,242,485]
def Cw(r:List DMark×Bool):AP:= .tup [.one (.sl (r.1.map DMark.ds)),.one (dB r.2)]
def jd(s:List DMark)(e:DEntry):List DMark×Bool:=match ct s e with|some o=>(o,true)|none=>(s,false)
theorem iW{e:DEntry}(h:ca e=true):ac e.client 2 5=true/\ac e.seq 1 2000=true/\ac e.index 1 2000=true:=by
  simp only[ca,Bool.and_eq_true]at h
  exact⟨h.1.1.2,h.1.2,h.1.1.1.1⟩
theorem uv(x:DMark):∀(s:List DMark) (p:List DMark×Bool),(s.foldl (cy x) p).1.length<=p.1.length+2*s.length
  |[],p=>by simp
  |m::r,p=>by
    have h1:=uv x r (cy x p m)
    have h2:(cy x p m).1.length<=p.1.length+2:=by
      unfold cy
      simp only
      split<;>split<;>simp
    simp only[List.foldl_cons,List.length_cons]
    omega
theorem js(x:DMark){s:List DMark}{k:Nat}(hk:k<s.length):(s.take (k+1)).foldl (cy x) ([],false)=cy x ((s.take k).foldl (cy x) ([],false)) s[k]:=by
  rw[List.take_succ_eq_append_getElem hk,List.foldl_append]
  rfl
theorem pK{x m:DMark}{p:List DMark×Bool}(h1:(!p.2&&decide (m.client>=x.client))=true)(h2:(m.client !=x.client)=true):cy x p m=(p.1++[x]++[m],true):=by simp only[cy,h1,h2,if_true]
theorem pM{x m:DMark}{p:List DMark×Bool}(h1:(!p.2&&decide (m.client>=x.client))=true)(h2:(m.client !=x.client)=false):cy x p m=(p.1++[x],true):=by simp only[cy,h1,h2,if_true];rfl
theorem pN{x m:DMark}{p:List DMark×Bool}(h1:(!p.2&&decide (m.client>=x.client))=false)(h2:(m.client !=x.client)=true):cy x p m=(p.1++[m],p.2):=by simp only[cy,h1,h2,if_true];rfl
theorem pO{x m:DMark}{p:List DMark×Bool}(h1:(!p.2&&decide (m.client>=x.client))=false)(h2:(m.client !=x.client)=false):cy x p m=(p.1,p.2):=by simp only[cy,h1,h2];rfl
theorem yL{s:List DMark}{e:DEntry}(h:(ca e&&mI s e&&decide (bz s<e.index))=false):ct s e=none:=by simp[ct,h]
theorem wR{s:List DMark}{e:DEntry}(h:(ca e&&mI s e&&decide (bz s<e.index))=true):ct s e=some (cu s e.mark):=by simp only[ct,h,if_true]
set_option maxHeartbeats 2000000 in
theorem ud(s:List DMark)(e:DEntry)(hseen:bn s=true):an av 126 [.one (.sl (s.map DMark.ds)),.agg e.ds] (Cw (jd s e)):=by
  have h':(!bn s)=false:=by simp[hseen]
  have hl:=eF hseen
  refine ai aj func126 rfl call126 ntmps126 (IG results126) λS=>?_;conv=>whnf
  repeat'((first|refine aw0 ?_|refine aw1 ?_|refine aw2 ?_|refine aw3 ?_|refine aw4 ?_|refine aw5 ?_|refine aw6 ?_|refine aw7 ?_|refine aw8 ?_|refine bT ?_|refine bF ?_|refine AWP.drawK aj 3 17 kJ kR Iw Iw Iw rfl ?_|refine cP (cd s) ?_|refine cP (eY e) ?_|refine cP (rS s e.client e.seq hseen (by simp_all[ca]) (by simp_all[ca])) ?_|refine cP (gH s hseen) ?_|refine cP (eg s Iv) ?_|exact rr|refine And.intro rfl ?_|refine AB.mk (λh=>?_) (λh=>?_))<;>conv=>whnf)
  all_goals first
    | (have hno : ct s e = none := yL (by first | (simp_all [mI]; done) | (simp_all [mI]; intros; omega))
       simp only[jd,hno];rfl)
    |skip
  have hyes:ct s e=some (cu s e.mark):=wR (by first|(simp_all[mI];done)|(simp_all[mI];omega))
  simp only[jd,hyes]
  refine AWP.loopS (λp:Nat×List DMark×Bool=>p.1<=s.length/\p.2=(s.take p.1).foldl (cy e.mark) ([],false)) (42::[7,8,9,43,44,45,46,47,48,49,50,51,52,53,54,55,56,57,58,59,60,61,62,63,64,65,66,67,68,69,70,71,72,73,74,75,76,77,78,79]) (λp=>[(7,.one (.own 42)),(8,vB p.2.2),(9,vI .i64 (p.1:Int))]) (λp=>[(42,.row 167 3 (p.2.1.map DMark.ds)),(6,.cells 167 (e.mark.ds.map .d)),(3,.cells 201 (e.ds.map .d))]) (λp=>s.length-p.1) (0,[],false) ⟨by simp,rfl⟩ ?_ (ae.cons rfl (ae.cons rfl (ae.cons rfl ae.nil))) (λp hR=>?_)<;>(conv=>whnf)
  · exact whd
  · obtain⟨hk,hv⟩:=hR
    have hlen:=uv e.mark (s.take p.1) ([],false)
    rw[<-hv]at hlen
    have htl:(s.take p.1).length<=4:=by simp;omega
    simp only[List.length_nil]at hlen
    have hfin:=uu e.mark s [] (pi hseen)
    repeat'((first|refine aw0 ?_|refine aw1 ?_|refine aw2 ?_|refine aw3 ?_|refine aw4 ?_|refine aw5 ?_|refine aw6 ?_|refine aw7 ?_|refine aw8 ?_|refine bT ?_|refine bF ?_|refine AWP.drawK aj 11 10 jO j6 Iw Iw Iw rfl ?_|refine AWP.drawK aj 14 7 jP j7 Iw Iw Iw rfl ?_|refine AIx.mapF ari (λhlt=>?_)|refine AW.i64 ari ari ?_|refine ba (λx hx=>by obtain⟨y,_,rfl⟩:=List.mem_map.1 hx;rfl) ?_|refine bo IF ?_|exact rr|refine And.intro rfl ?_|refine AB.mk (λh=>?_) (λh=>?_))<;>conv=>whnf)
    all_goals first
      | (have he : cy e.mark p.2 (s[p.1]'ari) = (p.2.1 ++ [e.mark] ++ [s[p.1]'ari], true) := (by first | exact pK (by clear hfin hlen hv; first | (simp_all [DEntry.mark]; done) | (simp_all [DEntry.mark]; omega)) (by clear hfin hlen hv; first | (simp_all [DEntry.mark]; done) | (simp_all [DEntry.mark]; omega)) | exact pM (by clear hfin hlen hv; first | (simp_all [DEntry.mark]; done) | (simp_all [DEntry.mark]; omega)) (by clear hfin hlen hv; first | (simp_all [DEntry.mark]; done) | (simp_all [DEntry.mark]; omega)) | exact pN (by clear hfin hlen hv; first | (simp_all [DEntry.mark]; done) | (simp_all [DEntry.mark]; omega)) (by clear hfin hlen hv; first | (simp_all [DEntry.mark]; done) | (simp_all [DEntry.mark]; omega)) | exact pO (by clear hfin hlen hv; first | (simp_all [DEntry.mark]; done) | (simp_all [DEntry.mark]; omega)) (by clear hfin hlen hv; first | (simp_all [DEntry.mark]; done) | (simp_all [DEntry.mark]; omega)))
         (refine aN.mk ⟨(p.1 + 1, p.2.1 ++ [e.mark] ++ [s[p.1]'ari], true), ⟨ari, by simp only [js e.mark (s := s) (k := p.1) ari, ← hv, he]⟩, ari, ?_, ae.cons (congrArg some (congrArg (AO.row 167 3) IE)) (ae.cons rfl (ae.cons rfl ae.nil))⟩
          exact hds))
      | (have he : cy e.mark p.2 (s[p.1]'ari) = (p.2.1 ++ [e.mark], true) := (by first | exact pK (by clear hfin hlen hv; first | (simp_all [DEntry.mark]; done) | (simp_all [DEntry.mark]; omega)) (by clear hfin hlen hv; first | (simp_all [DEntry.mark]; done) | (simp_all [DEntry.mark]; omega)) | exact pM (by clear hfin hlen hv; first | (simp_all [DEntry.mark]; done) | (simp_all [DEntry.mark]; omega)) (by clear hfin hlen hv; first | (simp_all [DEntry.mark]; done) | (simp_all [DEntry.mark]; omega)) | exact pN (by clear hfin hlen hv; first | (simp_all [DEntry.mark]; done) | (simp_all [DEntry.mark]; omega)) (by clear hfin hlen hv; first | (simp_all [DEntry.mark]; done) | (simp_all [DEntry.mark]; omega)) | exact pO (by clear hfin hlen hv; first | (simp_all [DEntry.mark]; done) | (simp_all [DEntry.mark]; omega)) (by clear hfin hlen hv; first | (simp_all [DEntry.mark]; done) | (simp_all [DEntry.mark]; omega)))
         (refine aN.mk ⟨(p.1 + 1, p.2.1 ++ [e.mark], true), ⟨ari, by simp only [js e.mark (s := s) (k := p.1) ari, ← hv, he]⟩, ari, ?_, ae.cons (congrArg some (congrArg (AO.row 167 3) IE)) (ae.cons rfl (ae.cons rfl ae.nil))⟩
          exact hds))
      | (have he : cy e.mark p.2 (s[p.1]'ari) = (p.2.1 ++ [s[p.1]'ari], p.2.2) := (by first | exact pK (by clear hfin hlen hv; first | (simp_all [DEntry.mark]; done) | (simp_all [DEntry.mark]; omega)) (by clear hfin hlen hv; first | (simp_all [DEntry.mark]; done) | (simp_all [DEntry.mark]; omega)) | exact pM (by clear hfin hlen hv; first | (simp_all [DEntry.mark]; done) | (simp_all [DEntry.mark]; omega)) (by clear hfin hlen hv; first | (simp_all [DEntry.mark]; done) | (simp_all [DEntry.mark]; omega)) | exact pN (by clear hfin hlen hv; first | (simp_all [DEntry.mark]; done) | (simp_all [DEntry.mark]; omega)) (by clear hfin hlen hv; first | (simp_all [DEntry.mark]; done) | (simp_all [DEntry.mark]; omega)) | exact pO (by clear hfin hlen hv; first | (simp_all [DEntry.mark]; done) | (simp_all [DEntry.mark]; omega)) (by clear hfin hlen hv; first | (simp_all [DEntry.mark]; done) | (simp_all [DEntry.mark]; omega)))
         (refine aN.mk ⟨(p.1 + 1, p.2.1 ++ [s[p.1]'ari], p.2.2), ⟨ari, by simp only [js e.mark (s := s) (k := p.1) ari, ← hv, he]⟩, ari, ?_, ae.cons (congrArg some (congrArg (AO.row 167 3) IE)) (ae.cons rfl (ae.cons rfl ae.nil))⟩
          exact hds))
      | (have he : cy e.mark p.2 (s[p.1]'ari) = (p.2.1, p.2.2) := (by first | exact pK (by clear hfin hlen hv; first | (simp_all [DEntry.mark]; done) | (simp_all [DEntry.mark]; omega)) (by clear hfin hlen hv; first | (simp_all [DEntry.mark]; done) | (simp_all [DEntry.mark]; omega)) | exact pM (by clear hfin hlen hv; first | (simp_all [DEntry.mark]; done) | (simp_all [DEntry.mark]; omega)) (by clear hfin hlen hv; first | (simp_all [DEntry.mark]; done) | (simp_all [DEntry.mark]; omega)) | exact pN (by clear hfin hlen hv; first | (simp_all [DEntry.mark]; done) | (simp_all [DEntry.mark]; omega)) (by clear hfin hlen hv; first | (simp_all [DEntry.mark]; done) | (simp_all [DEntry.mark]; omega)) | exact pO (by clear hfin hlen hv; first | (simp_all [DEntry.mark]; done) | (simp_all [DEntry.mark]; omega)) (by clear hfin hlen hv; first | (simp_all [DEntry.mark]; done) | (simp_all [DEntry.mark]; omega)))
         (refine aN.mk ⟨(p.1 + 1, p.2.1, p.2.2), ⟨ari, by simp only [js e.mark (s := s) (k := p.1) ari, ← hv, he]⟩, ari, ?_, ae.cons (congrArg some (congrArg (AO.row 167 3) IE)) (ae.cons rfl (ae.cons rfl ae.nil))⟩
          exact hds))
      |(exfalso;clear hfin hlen hv;simp_all;done)
      |(exfalso;clear hfin hlen hv;simp_all;omega)
      | (have hkk : p.1 = s.length := ari
         rw[hkk,List.take_length]at hv
         rw[<-hv]at hfin
         have hf:cu s e.mark=p.2.1++[e.mark]:=by simp_all
         rw[hf]
         simp only[Cw,List.map_append,List.map_cons,List.map_nil]
         rfl)
      | (have hkk : p.1 = s.length := ari
         rw[hkk,List.take_length]at hv
         rw[<-hv]at hfin
         have hf:cu s e.mark=p.2.1:=by simp_all
         rw[hf]
         rfl)
end Go.Proofs.YtnlhpdbijmnkhaaGreatDoor
namespace Go.Proofs.YtnlhpdbijmnkhaaGreatDoor
open Go.Proofs.Tryz
open Go.ChangeShapes Go.WideShapes Go.RowKit
theorem Ct{s:List DMark}{l:List DEntry}(h:bn s=false):bu s l=([],false):=by simp[bu,h]
theorem Cu{s:List DMark}{l:List DEntry}(h:bn s=true)(hl:2000<l.length):bu s l=(s,false):=by simp[bu,h,hl]
theorem AJ{s:List DMark}{l:List DEntry}(h:bn s=true)(hl:¬2000<l.length)(hf:bV s l=none):bu s l=(s,false):=by simp[bu,h,hl,hf]
theorem AK{s c:List DMark}{l:List DEntry}(h:bn s=true)(hl:¬2000<l.length)(hf:bV s l=some c):bu s l=(c,true):=by simp[bu,h,hl,hf]
theorem wV{s c:List DMark}{e:DEntry}(h:ct s e=some c):jd s e=(c,true):=by simp[jd,h]
theorem wS{s:List DMark}{e:DEntry}(h:ct s e=none):jd s e=(s,false):=by simp[jd,h]
set_option maxHeartbeats 2000000 in
theorem gJ(s:List DMark)(l:List DEntry):an av 93 [.one (.sl (s.map DMark.ds)),.one (.sl (l.map DEntry.ds))] (Cw (bu s l)):=by
  cases hseen:bn s with
  |false=>
    have h':(!bn s)=true:=by simp[hseen]
    rw[Ct hseen]
    refine ai aj func93 rfl call93 ntmps93 (IG results93) λS=>?_;conv=>whnf
    repeat'((first|refine aw0 ?_|refine aw1 ?_|refine aw2 ?_|refine aw3 ?_|refine aw4 ?_|refine aw5 ?_|refine aw6 ?_|refine aw7 ?_|refine aw8 ?_|refine bT ?_|refine bF ?_|refine cP (cd s) ?_|exact rr|refine And.intro rfl ?_|refine AB.mk (λh=>?_) (λh=>?_))<;>conv=>whnf)
    all_goals rfl
  |true=>
    have h':(!bn s)=false:=by simp[hseen]
    have hs4:=eF hseen
    refine ai aj func93 rfl call93 ntmps93 (IG results93) λS=>?_;conv=>whnf
    repeat'((first|refine aw0 ?_|refine aw1 ?_|refine aw2 ?_|refine aw3 ?_|refine aw4 ?_|refine aw5 ?_|refine aw6 ?_|refine aw7 ?_|refine aw8 ?_|refine bT ?_|refine bF ?_|refine cP (cd s) ?_|refine cP (eg s Iv) ?_|exact rr|refine And.intro rfl ?_|refine AB.mk (λh=>?_) (λh=>?_))<;>conv=>whnf)
    · rw[Cu hseen ari];rfl
    · have hl:¬2000<l.length:=ari
      clear h
      refine AWP.loopS (λp:Nat×List DMark=>p.1<=l.length/\bV s (l.take p.1)=some p.2) [4,5,6,7,8,9,21,22,23,24,25,26,27,28,29,30,31,32,33,34,35,36,37,38,39,40] (λp=>[(6,.one (.d (.sl (p.2.map DMark.ds)))),(7,vI .i64 (p.1:Int))]) (λ_=>[]) (λp=>l.length-p.1) (0,s) ⟨by simp,rfl⟩ ?_ ae.nil (λp hR=>?_)<;>(conv=>whnf)
      · exact whd
      · obtain⟨hk,hf⟩:=hR
        have hcur:=ot hseen hf
        by_cases hlt:p.1<l.length
        · have hlt':decide ((p.1:Int)<((l.map DEntry.ds).length:Int))=true:=by simp;omega
          cases hm:ct p.2 l[p.1]with
          |none=>
            have hmk:=wS hm
            have hM:=ud p.2 l[p.1] hcur
            rw[hmk]at hM
            repeat'((first|refine aw0 ?_|refine aw1 ?_|refine aw2 ?_|refine aw3 ?_|refine aw4 ?_|refine aw5 ?_|refine aw6 ?_|refine aw7 ?_|refine aw8 ?_|refine bT ?_|refine bF ?_|refine AIx.mapF ari (λhlt=>?_)|refine AW.i64 ari ari ?_|refine cP (hM) ?_|refine cP (eg s Iv) ?_|exact rr|refine And.intro rfl ?_|refine AB.mk (λh=>?_) (λh=>?_))<;>conv=>whnf)
            rw[AJ hseen hl (Al hlt hf hm)];rfl
          |some c=>
            have hmk:=wV hm
            have hM:=ud p.2 l[p.1] hcur
            rw[hmk]at hM
            repeat'((first|refine aw0 ?_|refine aw1 ?_|refine aw2 ?_|refine aw3 ?_|refine aw4 ?_|refine aw5 ?_|refine aw6 ?_|refine aw7 ?_|refine aw8 ?_|refine bT ?_|refine bF ?_|refine AIx.mapF ari (λhlt=>?_)|refine AW.i64 ari ari ?_|refine cP (hM) ?_|refine cP (eg s Iv) ?_|exact rr|refine And.intro rfl ?_|refine AB.mk (λh=>?_) (λh=>?_))<;>conv=>whnf)
            refine aN.mk ⟨(p.1+1,c),⟨ari,by simp only[tM hlt hf,hm]⟩,ari,?_,ae.nil⟩
            exact hds
        · have hlt':decide ((p.1:Int)<((l.map DEntry.ds).length:Int))=false:=by simp;omega
          repeat'((first|refine aw0 ?_|refine aw1 ?_|refine aw2 ?_|refine aw3 ?_|refine aw4 ?_|refine aw5 ?_|refine aw6 ?_|refine aw7 ?_|refine aw8 ?_|refine bT ?_|refine bF ?_|exact rr|refine And.intro rfl ?_|refine AB.mk (λh=>?_) (λh=>?_))<;>conv=>whnf)
          have hkk:p.1=l.length:=by omega
          rw[hkk,List.take_length]at hf
          rw[AK hseen hl hf];rfl
section
variable {S:aZ} {o:Oper} {st:ASt} {K:ASt->Prop} {x i v:Operand} {id:Nat} {n:Int} {N:Nat} {s:List DMark}
end
end Go.Proofs.YtnlhpdbijmnkhaaGreatDoor
namespace Go.Proofs.YtnlhpdbijmnkhaaGreatDoor
open Go.Proofs.Tryz
open Go.ChangeShapes Go.WideShapes Go.RowKit
end Go.Proofs.YtnlhpdbijmnkhaaGreatDoor
