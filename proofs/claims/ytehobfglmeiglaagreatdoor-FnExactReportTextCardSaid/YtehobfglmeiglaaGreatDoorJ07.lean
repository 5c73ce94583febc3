/- J07 -/
import Derived.Test.YtehobfglmeiglaaGreatDoorAwx
import Derived.Test.YtehobfglmeiglaaGreatDoorJ06
import Derived.Test.YtehobfglmeiglaaGreatDoorWH
set_option linter.unusedVariables false
set_option linter.unusedSimpArgs false
set_option maxRecDepth 100000
namespace Go.Proofs.YtehobfglmeiglaaGreatDoor
open Go.Proofs.Tryz
open Go.ChangeShapes Go.WideShapes Go.RowKit
def lT:List (List Nat):=bk [0,1,129,12354,12354,1318979,4328796549,486506500228,35461415067975,12354,2629699,10503828301457425098,222553301630898950601]
def mj:List (List Nat):=bj 11 [0,1,4,158125,157531,157612,157828,158557,160744,19669,39352]
theorem m4{n:Int}(h1: -9223372036854775808<=n)(h2:n<=9223372036854775807):(Lit.int .i64 n).wf=true:=by
  simp[Lit.wf,IntKind.min,IntKind.max,IntKind.signed,IntKind.bits]
  omega
theorem uF{n lo hi:Int}(h:(!ai n lo hi)=false)(h1: -9223372036854775808<=lo)(h2:hi<=9223372036854775807):(Lit.int .i64 n).wf=true:=by
  have:ai n lo hi=true:=by simpa using h
  simp only[ai,Bool.and_eq_true,decide_eq_true_eq]at this
  exact m4 Mo Mo
theorem Ah(w:World):(zeroValue 4).run Tryz.prog w= .ok (.bool false) w:=by kernel_rfl
def fk(l:List Int)(x:Int):Option Value:=if x∈l then some (.bool true)else none
theorem DK:fk []=λ_=>none:=by funext x;simp[fk]
theorem BF(l:List Int)(n:Int):lB (fk l) n (some (.bool true))=fk (l++[n]):=by
  funext x
  unfold lB fk
  by_cases h:x=n
  · simp[h]
  · simp[h]
theorem wS(l:List Int)(n:Int):(fk l n).getD (.bool false)= .bool (decide (n∈l)):=by
  unfold fk
  by_cases h:n∈l<;>simp[h]
section
variable {S:ba} {o:Oper} {st:ASt} {K:ASt->Prop}
theorem AOp.makeSet{t:TypeId}{d:Tmp}(ho:o.op= .makeMap t none)(hd:o.dst=some d)(hk:Av st d (dF Tryz.prog 2 0 (fk [])) λst=>bU st (some d) (.one (.own d)) K):AOp av S o st K:=
  AOp.makeMap 2 ho hd (by rw[DK]at hk;exact hk)
theorem AOp.lookSet{x i:Operand}{id:Nat}{n:Int}{N:Nat}{l:List Int}(ho:o.op= .lookup 367 x i false)(hx:aEv st x λv=>v= .one (.own id))(hi:aEv st i λv=>v=vI .i64 n)(hob:aOb st.ob id λo=>o=dF Tryz.prog 2 N (fk l))(hn:(Lit.int .i64 n).wf=true)
    (hK:bU st o.dst (vB (decide (n∈l))) K):AOp av S o st K:=
  AOp.look (E:=av) ho underlying367 underlying2 Ah hx hi hob hn (vB (decide (n∈l))) (λZ w ρ=>by rw[wS];exact aX rfl) hK
theorem il.lookSet{K:AV->Prop}{x i:Operand}{id:Nat}{n:Int}{N:Nat}{l:List Int}(ho:o.op= .lookup 367 x i false)(hx:aEv st x λv=>v= .one (.own id))(hi:aEv st i λv=>v=vI .i64 n)(hob:aOb st.ob id λo=>o=dF Tryz.prog 2 N (fk l))(hn:(Lit.int .i64 n).wf=true)
    (hK:K (vB (decide (n∈l)))):il av o st K:=
  il.look (E:=av) ho underlying367 underlying2 Ah hx hi hob hn (vB (decide (n∈l))) (λZ w ρ=>by rw[wS];exact aX rfl) hK
theorem AOp.putSet{x i:Operand}{id:Nat}{n:Int}{N:Nat}{l:List Int}(ho:o.op= .mapUpdate 367 x i (.const (.bool true)))(hN:N<9223372036854775807)(hx:aEv st x λv=>v= .one (.own id))(hi:aEv st i λv=>v=vI .i64 n)(hob:aOb st.ob id λo=>o=dF Tryz.prog 2 N (fk l))(hn:(Lit.int .i64 n).wf=true)
    (hK:dN id (dF Tryz.prog 2 (N+1) (fk (l++[n]))) st.ob λob=>bU ⟨st.tm,ob⟩ o.dst (.one .und) K):AOp av S o st K:=by
  refine AOp.mapPut (E:=av) (u:= .bool true) ho underlying367 underlying2 hN hx hi hob hn (show∀Z w ρ y,aT Z w ρ (vB true) y->y= .bool true from λZ w ρ y h=>aY h) ?_
  rw[BF]
  exact hK
end
theorem Fn{s:List DMark}{k:Nat}(hlt:k<s.length):((s.take k).map (·.index))++[s[k].index]=(s.take (k+1)).map (·.index):=(em (λm:DMark=>m.index) hlt).symm
theorem pS{s:List DMark}{k:Nat}(hk:k<s.length)(h:aQ bP ej s k hk=false):aW s=false:=by
  have:=iG hk h
  simp only[aW,this,Bool.false_and]
theorem ue{s:List DMark}{j k:Nat}(hj:j<k)(hk:k<s.length)(h:(s[j]'(by omega)).index=s[k].index):aW s=false:=by
  have:=lO (R:=j3) hj hk (by simp[j3,h])
  simp only[aW,this,Bool.and_false]
theorem zL{s:List DMark}{k:Nat}(hk:k<s.length)(h:decide (s[k].index∈(s.take k).map (·.index))=true):aW s=false:=by
  obtain⟨m,hm,e⟩:=List.mem_map.1 (of_decide_eq_true h)
  obtain⟨j,hj,rfl⟩:=List.getElem_of_mem hm
  simp at hj e
  exact ue (j:=j) Mo hk e
theorem uf{s:List DMark}(h:∀(j:Nat) (hl:j<s.length),aQ bP ej s j hl=true)(hd:∀(i j:Nat) (hi:i<j) (hl:j<s.length),(s[i]'(by omega)).index≠s[j].index):aW s=true:=by
  have h1:=vw h
  have h2:=ju (R:=j3) (l:=s) λi j hi hl=>by simpa[j3]using hd i j hi hl
  simp only[aW,h1,h2,Bool.and_self]
theorem GI{s:List DMark}{k:Nat}(hk:k<s.length)(h:decide (s[k].index∈(s.take k).map (·.index))=false){i:Nat}(hi:i<k):(s[i]'(by omega)).index≠s[k].index:=by
  have:=of_decide_eq_false h
  intro e
  refine this (List.mem_map.2 ⟨s[i],?_,e⟩)
  rw[List.mem_take_iff_getElem]
  exact⟨i,by omega,rfl⟩
theorem zR{s:List DMark}{k:Nat}(hlt:k<s.length)(hd:∀(i j:Nat) (hi:i<j) (hj:j<k) (hl:j<s.length),(s[i]'(by omega)).index≠s[j].index)(h:∀(i:Nat) (hi:i<k),(s[i]'(by omega)).index≠s[k].index):∀(i j:Nat) (hi:i<j) (hj:j<k+1) (hl:j<s.length),(s[i]'(by omega)).index≠s[j].index:=by
  intro i j hi hj hl
  by_cases hjk:j=k
  · subst hjk;exact h i hi
  · exact hd i j hi Mo hl
theorem dc{s:List DMark}(h:aW s=true):s.length<=4:=by
  simp only[aW,Bool.and_eq_true]at h
  obtain⟨⟨h1,h2⟩,_⟩:=h
  have key:∀(j:Nat) (hj:j<s.length),(2:Int)+j<=s[j].client:=by
    intro j
    induction j with
    |zero=>
      intro hj
      have:=mV h1 hj
      simp only[bP,ai,Bool.and_eq_true,decide_eq_true_eq]at this
      omega
    |succ j ih=>
      intro hj
      have:=lN h2 hj
      simp only[ej,decide_eq_true_eq]at this
      have:=ih Mo
      omega
  rcases Nat.lt_or_ge 4 s.length with hl|hl
  · have h5:=key 4 hl
    have:=mV h1 hl
    simp only[bP,ai,Bool.and_eq_true,decide_eq_true_eq]at this
    omega
  · exact hl
set_option maxHeartbeats 2000000 in
theorem gm(s:List DMark)(hs:s.length<=9223372036854775806):aj av 293 [.one (.sl (s.map DMark.ds))] (rB (aW s)):=by
  refine ae ah func293 rfl call293 ntmps293 (MC results293) λS=>?_;conv=>whnf
  repeat'((first|refine aw0 ?_|refine awx ?_|refine AOp.makeSet rfl rfl ?_|exact rr|refine And.intro rfl ?_|refine AB.mk (λh=>?_) (λh=>?_))<;>conv=>whnf)
  refine AWP.loopS (λk:Nat=>k<=s.length/\(∀(j:Nat) (hj:j<k) (hl:j<s.length),aQ bP ej s j hl=true)/\∀(i j:Nat) (hi:i<j) (hj:j<k) (hl:j<s.length),(s[i]'(by omega)).index≠s[j].index) [2,4,5,9,10,11,12,13,14,15,16,17,18,19,20,21,22,23,24,25,26,27,28,29,30,31,32,33,34,35,36,37,38,39,40,41,42,43,44,45,46,47,48,49,50,51,52] (λk=>[(9,vI .i64 (k:Int))]) (λk=>[(6,dF Tryz.prog 2 k (fk ((s.take k).map (·.index))))]) (λk=>s.length-k) 0 ⟨by omega,by omega,by omega⟩ ?_ (ak.cons rfl ak.nil) (λk hR=>?_)<;>(conv=>whnf)
  · exact whd
  · obtain⟨hk,hall,hdup⟩:=hR
    repeat'((first|refine aw0 ?_|refine awx ?_|refine AWP.drawK ah 7 11 lT mj Mp Mp Mp rfl ?_|refine AIx.mapF ari (λhlt=>?_)|refine AIx.mapP ari ari (λhpv=>?_)|refine AW.i64 (n:=_-_) ari ari ?_|refine AW.i64 ari ari ?_|refine cP (jS _) ?_|refine cP (pw _) ?_|refine cP (jV _) ?_|refine AOp.lookSet (id:=6) (N:=k) rfl rfl rfl rfl (uF Mt Mq Mq) ?_|refine AOp.putSet (id:=6) (N:=k) rfl Mo rfl rfl rfl (uF Mt Mq Mq) ?_|exact rr|refine And.intro rfl ?_|refine AB.mk (λh=>?_) (λh=>?_))<;>conv=>whnf)
    all_goals first
      |(rw[pS hlt (by first|(refine aL _ ?_;simp_all[bP];done)|(rw[aC _ ari];simp_all[bP,ej];done)|(rw[aD _ ari];simp_all[bP];done))];done)
      |(rw[zL hlt Mt];done)
      | (refine aB.mk ⟨k + 1, ⟨hlt, cc hall hlt (by first | (refine aL _ ?_; simp_all [bP]; done) | (rw [aC _ ari]; simp_all [bP, ej]; done) | (rw [aD _ ari]; simp_all [bP]; done)), zR hlt hdup fun i hi => GI hlt Mt hi⟩, by omega, ?_, ak.cons (congrArg some (congrArg (fun l => dF Tryz.prog 2 (k + 1) (fk l)) (Fn hlt))) ak.nil⟩
         exact hds)
      | (refine aG ?_
         have hkk:k=s.length:=ari
         rw[uf (λj hl=>hall j Mo hl) (λi j hi hl=>hdup i j hi Mo hl)])
end Go.Proofs.YtehobfglmeiglaaGreatDoor
namespace Go.Proofs.YtehobfglmeiglaaGreatDoor
open Go.Proofs.Tryz
open Go.ChangeShapes Go.WideShapes Go.RowKit
def f9(s:List DMark):Prop:=s.Pairwise λx y=>x.client<y.client
theorem sK:∀{s:List DMark},gc ej s=true->f9 s
  |[],_=>List.Pairwise.nil
  |[x],_=>List.pairwise_singleton _ _
  |x::y::r,h=>by
    simp only[gc,Bool.and_eq_true]at h
    have ih:=sK (s:=y::r) h.2
    have hxy:x.client<y.client:=by simpa[ej]using h.1
    refine List.pairwise_cons.2 ⟨λz hz=>?_,ih⟩
    rcases List.mem_cons.1 hz with rfl|hz
    · exact hxy
    · have:=(List.pairwise_cons.1 ih).1 z hz
      omega
theorem uw:∀{s:List DMark},f9 s->gc ej s=true
  |[],_=>rfl
  |[x],_=>rfl
  |x::y::r,h=>by
    have h1:=List.pairwise_cons.1 h
    simp only[gc,Bool.and_eq_true]
    exact⟨by simpa[ej]using h1.1 y Mr,uw h1.2⟩
theorem ii{s:List DMark}(h:aW s=true):f9 s:=by
  simp only[aW,Bool.and_eq_true]at h
  exact sK h.1.2
theorem nr{s:List DMark}(h:aW s=true){m:DMark}(hm:m∈s):bP m=true:=by
  simp only[aW,Bool.and_eq_true]at h
  exact List.all_eq_true.1 h.1.1 m hm
theorem o9{s:List DMark}{c:Int}(h:∀m∈s,c<=m.client):s.filter (λx=>decide (x.client<c))=[]:=by
  rw[List.filter_eq_nil_iff]
  intro m hm
  have:=h m hm
  simp;omega
theorem vK{c:Int}:∀{s:List DMark},f9 s->s.filter (λx=>decide (x.client<c+1))=s.filter (λx=>decide (x.client<c))++(s.find? λx=>x.client==c).toList
  |[],_=>rfl
  |x::r,h=>by
    obtain⟨h1,h2⟩:=List.pairwise_cons.1 h
    have ih:=vK (c:=c) h2
    rcases Int.lt_trichotomy x.client c with hx|hx|hx
    · have e1:decide (x.client<c+1)=true:=by simp;omega
      have e2:decide (x.client<c)=true:=by simp;omega
      have e3:(x.client==c)=false:=by simp;omega
      simp only[List.filter_cons,e1,e2,if_true,List.find?_cons,e3,ih,List.cons_append]
    · have e1:decide (x.client<c+1)=true:=by simp;omega
      have e2:decide (x.client<c)=false:=by simp;omega
      have e3:(x.client==c)=true:=by simp;omega
      simp only[List.filter_cons,e1,e2,if_true,List.find?_cons,e3]
      rw[o9 (λm hm=>by have:=h1 m hm;omega),o9 (λm hm=>by have:=h1 m hm;omega)]
      rfl
    · have e1:decide (x.client<c+1)=false:=by simp;omega
      have e2:decide (x.client<c)=false:=by simp;omega
      have e3:(x.client==c)=false:=by simp;omega
      simp only[List.filter_cons,e1,e2,List.find?_cons,e3,ih]
      rfl
theorem yI{s:List DMark}(h:aW s=true):s.filter (λx=>decide (x.client<6))=s:=by
  rw[List.filter_eq_self]
  intro m hm
  have:=nr h hm
  simp only[bP,ai,Bool.and_eq_true,decide_eq_true_eq]at this
  simp;omega
theorem CZ{s:List DMark}(h:aW s=true):s.filter (λx=>decide (x.client<2))=[]:=o9 λm hm=>by
  have:=nr h hm
  simp only[bP,ai,Bool.and_eq_true,decide_eq_true_eq]at this
  omega
theorem Bs{s:List DMark}(h:f9 s)(m:DMark):f9 (putMark s m):=by
  unfold putMark f9
  rw[List.pairwise_append]
  refine⟨h.sublist List.filter_sublist,List.pairwise_cons.2 ⟨λz hz=>?_,h.sublist List.filter_sublist⟩,λa ha b hb=>?_⟩
  · have:=(List.mem_filter.1 hz).2
    simpa using this
  · have h1:=(List.mem_filter.1 ha).2
    simp only[decide_eq_true_eq]at h1
    rcases List.mem_cons.1 hb with rfl|hb
    · exact h1
    · have:=(List.mem_filter.1 hb).2
      simp only[decide_eq_true_eq]at this
      omega
theorem Cf{s:List DMark}{m x:DMark}(h:x∈putMark s m):x=m\/x∈s:=by
  unfold putMark at h
  rcases List.mem_append.1 h with h|h
  · exact .inr (List.mem_filter.1 h).1
  · rcases List.mem_cons.1 h with h|h
    · exact .inl h
    · exact .inr (List.mem_filter.1 h).1
theorem mZ{α:Type}(p q:α->Bool):∀l:List α,(l.filter p).find? q=l.find? λa=>p a&&q a
  |[]=>rfl
  |x::r=>by
    rw[List.filter_cons,List.find?_cons]
    cases hp:p x with
    |true=>
      simp only[if_true,List.find?_cons,Bool.true_and]
      cases q x with
      |true=>rfl
      |false=>exact mZ p q r
    |false=>
      simp only[Bool.false_and]
      exact mZ p q r
theorem EZ(s:List DMark)(m:DMark)(d:Int):(putMark s m).find? (λx=>x.client==d)=if d=m.client then some m else s.find? (λx=>x.client==d):=by
  unfold putMark
  rw[List.find?_append,List.find?_cons,mZ,mZ]
  by_cases hd:d=m.client
  · subst hd
    have e:s.find? (λa=>decide (a.client<m.client)&&a.client==m.client)=none:=by
      rw[List.find?_eq_none]
      intro x _
      simp;omega
    rw[e]
    simp
  · have e0:(m.client==d)=false:=by simp;omega
    rw[if_neg hd,e0]
    rcases Int.lt_or_gt_of_ne hd with h|h
    · have e1:(λa:DMark=>decide (a.client<m.client)&&a.client==d)=λa=>a.client==d:=by
        funext a
        by_cases ha:a.client=d
        · simp[ha,h]
        · simp[ha]
      have e2:s.find? (λa=>decide (m.client<a.client)&&a.client==d)=none:=by
        rw[List.find?_eq_none]
        intro x _
        simp;omega
      rw[e1]
      simp only[e2]
      simp
    · have e1:(λa:DMark=>decide (m.client<a.client)&&a.client==d)=λa=>a.client==d:=by
        funext a
        by_cases ha:a.client=d
        · simp[ha];omega
        · simp[ha]
      have e2:s.find? (λa=>decide (a.client<m.client)&&a.client==d)=none:=by
        rw[List.find?_eq_none]
        intro x _
        simp;omega
      rw[e1,e2]
      simp
theorem jY(x0:Int):∀s:List DMark,(∀m∈s,m.index<=s.foldl (λx m=>if m.index>x then m.index else x) x0)/\x0<=s.foldl (λx m=>if m.index>x then m.index else x) x0/\(s.foldl (λx m=>if m.index>x then m.index else x) x0=x0\/∃m∈s,m.index=s.foldl (λx m=>if m.index>x then m.index else x) x0)
  |[]=>⟨by simp,by simp,.inl rfl⟩
  |y::r=>by
    obtain⟨h1,h2,h3⟩:=jY (if y.index>x0 then y.index else x0) r
    simp only[List.foldl_cons]
    have hy:y.index<=(if y.index>x0 then y.index else x0)/\x0<=(if y.index>x0 then y.index else x0):=by split<;>omega
    refine⟨λm hm=>?_,by omega,?_⟩
    · rcases List.mem_cons.1 hm with rfl|hm
      · omega
      · exact h1 m hm
    · rcases h3 with h3|⟨m,hm,h3⟩
      · by_cases hc:y.index>x0
        · rw[if_pos hc]at h3⊢
          exact .inr ⟨y,by simp,h3.symm⟩
        · rw[if_neg hc]at h3⊢
          exact .inl h3
      · exact .inr ⟨m,by simp[hm],h3⟩
theorem xw{s:List DMark}{m:DMark}(h:m∈s):m.index<=aN s:=(jY 0 s).1 m h
theorem zb(s:List DMark):0<=aN s:=(jY 0 s).2.1
theorem FW{s:List DMark}{x:Int}(h1:∀m∈s,m.index<=x)(h2:∃m∈s,m.index=x)(h0:0<=x):aN s=x:=by
  obtain⟨m,hm,e⟩:=h2
  have h3:=xw hm
  rcases(jY 0 s).2.2 with h|⟨y,hy,h⟩
  · have h:aN s=0:=h
    omega
  · have h:y.index=aN s:=h
    have:=h1 y hy
    omega
theorem zc{s:List DMark}{m:DMark}(h:aN s<m.index):aN (putMark s m)=m.index:=by
  have h0:=zb s
  refine FW (λx hx=>?_) ⟨m,by simp[putMark],rfl⟩ Mo
  rcases Cf hx with rfl|hx
  · exact Int.le_refl _
  · have:=xw hx
    omega
theorem A5{e:DEntry}(h:bu e=true):bP e.mark=true:=by
  simp only[bu,Bool.and_eq_true]at h
  simp only[bP,DEntry.mark,Bool.and_eq_true]
  exact⟨⟨h.1.1.2,h.1.2⟩,h.1.1.1.1⟩
theorem xH{s:List DMark}{R:DMark->DMark->Prop}(h:s.Pairwise R){i j:Nat}(hi:i<j)(hj:j<s.length):R (s[i]'(by omega)) s[j]:=List.pairwise_iff_getElem.1 h i j Mo hj hi
theorem sL:∀{s:List DMark},bW j3 s=true->s.Pairwise λx y=>x.index≠y.index
  |[],_=>List.Pairwise.nil
  |x::r,h=>by
    simp only[bW,Bool.and_eq_true]at h
    refine List.pairwise_cons.2 ⟨λy hy=>?_,sL h.2⟩
    have:=List.all_eq_true.1 h.1 y hy
    simpa[j3]using this
theorem tP:∀{s:List DMark},(s.Pairwise λx y=>x.index≠y.index)->bW j3 s=true
  |[],_=>rfl
  |x::r,h=>by
    obtain⟨h1,h2⟩:=List.pairwise_cons.1 h
    simp only[bW,Bool.and_eq_true]
    refine⟨List.all_eq_true.2 λy hy=>?_,tP h2⟩
    have:=h1 y hy
    simpa[j3]using this
theorem E0{s:List DMark}{m:DMark}(h:aW s=true)(hm:bP m=true)(hl:aN s<m.index):aW (putMark s m)=true:=by
  have hs:=ii h
  have hx:∀x∈s,x.index≠m.index:=λx hx=>by have:=xw hx;omega
  have hp:s.Pairwise λx y=>x.index≠y.index:=by
    simp only[aW,Bool.and_eq_true]at h
    exact sL h.2
  simp only[aW,Bool.and_eq_true]
  refine⟨⟨List.all_eq_true.2 λx hx=>?_,uw (Bs hs m)⟩,tP ?_⟩
  · rcases Cf hx with rfl|hx
    · exact hm
    · exact nr h hx
  · unfold putMark
    rw[List.pairwise_append]
    refine⟨hp.sublist List.filter_sublist,List.pairwise_cons.2 ⟨λz hz=>(hx z (List.mem_filter.1 hz).1).symm,hp.sublist List.filter_sublist⟩,λa ha b hb=>?_⟩
    have h1:=List.mem_filter.1 ha
    simp only[decide_eq_true_eq]at h1
    rcases List.mem_cons.1 hb with rfl|hb
    · exact hx a h1.1
    · have h2:=List.mem_filter.1 hb
      simp only[decide_eq_true_eq]at h2
      obtain⟨i,hi,rfl⟩:=List.getElem_of_mem h1.1
      obtain⟨j,hj,rfl⟩:=List.getElem_of_mem h2.1
      rcases Nat.lt_trichotomy i j with hij|hij|hij
      · exact xH hp hij hj
      · subst hij;omega
      · exact(xH hp hij hi).symm
theorem zh{s s':List DMark}{e:DEntry}(h:aW s=true)(hm:bS s e=some s'):aW s'=true/\aN s'=e.index:=by
  unfold bS at hm
  split at hm
  · rename_i hc
    simp only[Bool.and_eq_true,decide_eq_true_eq]at hc
    injection hm with hm
    subst hm
    exact⟨E0 h (A5 hc.1.1) hc.2,zc hc.2⟩
  · cases hm
theorem gU(s:List DMark):∀(a b:List DEntry),bg s (a++b)=(bg s a).bind λs'=>bg s' b
  |[],b=>rfl
  |e::a,b=>by
    simp only[List.cons_append,bg]
    cases bS s e with
    |none=>rfl
    |some s'=>exact gU s' a b
theorem iY:∀{l:List DEntry} {s s':List DMark},aW s=true->bg s l=some s'->aW s'=true
  |[],s,s',h,hf=>by simp only[bg,Option.some.injEq]at hf;subst hf;exact h
  |e::r,s,s',h,hf=>by
    simp only[bg]at hf
    cases hm:bS s e with
    |none=>rw[hm]at hf;cases hf
    |some s1=>rw[hm]at hf;exact iY (zh h hm).1 hf
theorem m2{s c:List DMark}{l:List DEntry}{k:Nat}(hk:k<l.length)(h:bg s (l.take k)=some c):bg s (l.take (k+1))=bS c l[k]:=by
  rw[List.take_succ_eq_append_getElem hk,gU,h]
  simp only[Option.bind_some,bg]
  cases bS c l[k]<;>rfl
theorem m1{s c:List DMark}{l:List DEntry}{k:Nat}(hk:k<l.length)(h:bg s (l.take k)=some c)(hn:bS c l[k]=none):bg s l=none:=by
  have e:l=l.take (k+1)++l.drop (k+1):=(List.take_append_drop _ _).symm
  rw[e,gU,m2 hk h,hn]
  rfl
def DMark.v(m:DMark):Value:= .agg #[.int .i64 m.client,.int .i64 m.seq,.int .i64 m.index]
def dh(s:List DMark)(c:Int):Option Value:=(s.find? λm=>m.client==c).map DMark.v
theorem Bj(s:List DMark)(m:DMark):lB (lB (dh s) m.client none) m.client (some m.v)=dh (putMark s m):=by
  funext d
  unfold lB dh
  rw[EZ]
  by_cases h:d=m.client
  · simp[h]
  · simp[h]
theorem zk{s:List DMark}(h:f9 s){k:Nat}(hk:k<s.length):lB (dh (s.take k)) s[k].client (some s[k].v)=dh (s.take (k+1)):=by
  funext d
  unfold lB dh
  rw[List.take_succ_eq_append_getElem hk,List.find?_append]
  by_cases hd:d=s[k].client
  · have:(s.take k).find? (λm=>m.client==d)=none:=by
      rw[List.find?_eq_none]
      intro m hm
      obtain⟨i,hi,rfl⟩:=List.getElem_of_mem hm
      simp at hi
      have:=xH h (i:=i) (j:=k) Mo hk
      simp only[List.getElem_take]
      simp;omega
    rw[this]
    simp[hd]
  · have e:(s[k].client==d)=false:=by simp;omega
    simp[hd,e]
theorem tD(s:List DMark)(c:Int):(dh s c).getD (DMark.v ⟨0,0,0⟩)=(cj s c).v:=by
  unfold dh cj
  cases s.find? λm=>m.client==c<;>rfl
def ck(x:DMark)(p:List DMark×Bool)(m:DMark):List DMark×Bool:=
  let q:=if(!p.2&&decide (m.client>=x.client))=true then(p.1++[x],true)else p
  if(m.client !=x.client)=true then(q.1++[m],q.2)else q
theorem mJ(x:DMark):∀(r:List DMark) (out:List DMark),(∀m∈r,x.client<m.client)->r.foldl (ck x) (out,true)=(out++r,true)
  |[],out,_=>by simp
  |m::r,out,h=>by
    have hm:=h m Mr
    have e:(m.client !=x.client)=true:=by simp;omega
    rw[List.foldl_cons]
    have:ck x (out,true) m=(out++[m],true):=by simp[ck,e]
    rw[this,mJ x r _ λy hy=>h y (by simp[hy])]
    simp
theorem wJ(x:DMark):∀(s:List DMark) (out:List DMark),f9 s->(let p:=s.foldl (ck x) (out,false);if p.2 then p.1 else p.1++[x])=out++putMark s x
  |[],out,_=>by simp[putMark]
  |m::r,out,h=>by
    obtain⟨h1,h2⟩:=List.pairwise_cons.1 h
    rw[List.foldl_cons]
    rcases Int.lt_trichotomy m.client x.client with hx|hx|hx
    · have e:ck x (out,false) m=(out++[m],false):=by
        have e1:(m.client !=x.client)=true:=by simp;omega
        have e2:decide (m.client>=x.client)=false:=by simp;omega
        simp[ck,e1,e2]
      rw[e]
      have:=wJ x r (out++[m]) h2
      simp only at this⊢
      rw[this]
      have e1:decide (m.client<x.client)=true:=by simp;omega
      have e2:decide (x.client<m.client)=false:=by simp;omega
      simp[putMark,List.filter_cons,e1,e2]
    · have e:ck x (out,false) m=(out++[x],true):=by
        have e1:(m.client !=x.client)=false:=by simp;omega
        have e2:decide (m.client>=x.client)=true:=by simp;omega
        simp[ck,e1,e2]
      rw[e,mJ x r _ λy hy=>by have:=h1 y hy;omega]
      have e1:decide (m.client<x.client)=false:=by simp;omega
      have e2:decide (x.client<m.client)=false:=by simp;omega
      have e3:=o9 (s:=r) (c:=x.client) λy hy=>by have:=h1 y hy;omega
      have e4:r.filter (λy=>decide (x.client<y.client))=r:=List.filter_eq_self.2 λy hy=>by have:=h1 y hy;simp;omega
      simp[putMark,List.filter_cons,e1,e2,e3,e4]
    · have e:ck x (out,false) m=(out++[x]++[m],true):=by
        have e1:(m.client !=x.client)=true:=by simp;omega
        have e2:decide (m.client>=x.client)=true:=by simp;omega
        simp[ck,e1,e2]
      rw[e,mJ x r _ λy hy=>by have:=h1 y hy;omega]
      have e1:decide (m.client<x.client)=false:=by simp;omega
      have e2:decide (x.client<m.client)=true:=by simp;omega
      have e3:=o9 (s:=r) (c:=x.client) λy hy=>by have:=h1 y hy;omega
      have e4:r.filter (λy=>decide (x.client<y.client))=r:=List.filter_eq_self.2 λy hy=>by have:=h1 y hy;simp;omega
      simp[putMark,List.filter_cons,e1,e2,e3,e4]
end Go.Proofs.YtehobfglmeiglaaGreatDoor
namespace Go.Proofs.YtehobfglmeiglaaGreatDoor
open Go.Proofs.Tryz
open Go.ChangeShapes Go.WideShapes Go.RowKit
def lU:List (List Nat):=bk [0,0,66,12417,1052803,84680772,6509830341,486455906566,35601001230663,35601001230663,164122109978632714,12864558999848899017,895947530576690971275,62214096053295717315148,4288581010608110333633229,156574859254327662432785166,20081510041707290985360540040,1356899553734770709485945406352,1356899553734770709485945406352,5923587830982514145972845142377555,421636442773735343416726771234563090,28292897532666114236322210354999399636,1898537750402680611027230854233737200789,127034656468995985865646476997610663392534,5967707348221782891828072951731102390494551,565648852092902157227629397357442590340833809,37490373280641151012592431874597664098943063513,2502485539529844412531286436639603921451199530074,166087567271022160503618616904197948703796800878171,11010347230074533307146158530030619788898519968978588,11010347230074533307146158530030619788898519968978588,752932131912260334039555932757799679532369757563885277,2985930297697201441291086890838327699612987223161923557407,210234572940368821915163135926733937005219597242913295542046,13850072915254038234349307345913535094213956629436102207735777,11010347230074533307146158530030619788898519968978588,11010347230074533307146158530030619788898519968978588,55850134146714105670323314832250725408165360095006668645,3784436152620604361418416164180035334021156397949328402212,248381376265470252552496479654363036654114445380177772796262,980691698394957500613724600803745561927647133727159787676620151127169319,51994894724060614221224959313175579963534257980652146624656993052187031651,2970293386999070557595757949505285772116318429614249986723245519214184089309]
def ml:List (List Nat):=bj 40 [6,2,4,13,40,121,364,1093,42646,16402,29524,88573,265720,797161,2391484,7174453,21523360,839411059,322850407,581130733,1743392200,5230176601,15690529804,47071589413,141214768240,423644304721,1270932914164,3812798742493,11438396227480,12109315358203368727,12107805489901341301,12108011381033435950,12108560424052355014,12110413444241206855,12115972504807762378,350186500504315507,150060320108316679,250123410306316093,700407316197313456,2051259033870305545]
def kG:List (List Nat):=bk [0,0,66,12417,1052803,0,0,391,33222,2384328,90925286754906505]
def k8:List (List Nat):=bj 10 [58812,58808,58810,58819,58846,1700,728,1214,3401,9962]
theorem dJ{a b c:Nat}{Q:Prop}(h:(a+b)*c<=140737488355328)(q:Q):(a+b)*c<=140737488355328/\Q:=⟨h,q⟩
theorem ce{xs:List (List AD)}{s:Nat}{Q:Prop}(h:∀x∈xs,x.length=s)(q:Q):(∀x∈xs,x.length=s)/\Q:=⟨h,q⟩
theorem zN(a b:Int):aj av 321 [pI a,pI b] (rI (if b>a then b else a)):=by
  refine ae ah func321 rfl call321 ntmps321 (MC results321) λS=>?_;conv=>whnf
  repeat'((first|refine aw0 ?_|refine awx ?_|exact rr|refine And.intro rfl ?_|refine AB.mk (λh=>?_) (λh=>?_))<;>conv=>whnf)
  all_goals
    simp only[decide_eq_true_eq,decide_eq_false_iff_not]at*
    first
      |(rw[if_neg Mo];done)
      | (by_cases h2 : b > a
         · rw[if_pos h2]
         · rw[if_neg h2];have:a=b:=by omega
           rw[this])
theorem eL(s:List DMark)(h:s.length<=1000000):aj av 273 [.one (.sl (s.map DMark.ds))] (.val (.one (.sl (s.map DMark.ds)))):=by
  refine ae ah func273 rfl call273 ntmps273 (MC results273) λS=>?_;conv=>whnf
  repeat'((first|refine aw0 ?_|refine awx ?_|refine ce (λx hx=>by obtain⟨y,_,rfl⟩:=List.mem_map.1 hx;rfl) ?_|refine dJ Mz ?_|exact rr|refine And.intro rfl ?_|refine AB.mk (λh=>?_) (λh=>?_))<;>conv=>whnf)
  all_goals rfl
theorem gY(s:List DMark)(h:s.length<=1000000):aj av 296 [.one (.sl (s.map DMark.ds))] (.val (.one (.sl (s.map DMark.ds)))):=by
  refine ae ah func296 rfl call296 ntmps296 (MC results296) λS=>?_;conv=>whnf
  repeat'((first|refine aw0 ?_|refine awx ?_|refine ce (λx hx=>by obtain⟨y,_,rfl⟩:=List.mem_map.1 hx;rfl) ?_|refine dJ Mz ?_|exact rr|refine And.intro rfl ?_|refine AB.mk (λh=>?_) (λh=>?_))<;>conv=>whnf)
  all_goals rfl
theorem Bv{s:List DMark}(h:¬s.length<=4):aW s=false:=by
  cases hs:aW s with
  |false=>rfl
  |true=>exact absurd (dc hs) h
set_option maxHeartbeats 2000000 in
theorem bZ(s:List DMark):aj av 271 [.one (.sl (s.map DMark.ds))] (rB (aW s)):=by
  refine ae ah func271 rfl call271 ntmps271 (MC results271) λS=>?_;conv=>whnf
  repeat'((first|refine aw0 ?_|refine awx ?_|exact rr|refine And.intro rfl ?_|refine AB.mk (λh=>?_) (λh=>?_))<;>conv=>whnf)
  · rw[Bv ari]
  · have h4:s.length<=4:=ari
    clear h
    refine AWP.loopS (λk:Nat=>k<=s.length/\(∀(j:Nat) (hj:j<k) (hl:j<s.length),aQ bP ej s j hl=true)/\∀(i j:Nat) (hi:i<j) (hj:j<k) (hl:j<s.length),(s[i]'(by omega)).index≠s[j].index) [2,3,4,8,9,10,11,12,13,14,15,16,17,18,19,20,21,22,23,24,25,26,27,28,29,30,31,32,33,34,35,36,37,38,39,40,41,42,43,44,45,46,47,48,49,50,51,52,53,54,55,56,57,58,59,60,61,62,63,64,65,66,67,68,69,70,71,72] (λk=>[(3,vI .i64 (k:Int))]) (λk=>[]) (λk=>s.length-k) 0 ⟨by omega,by omega,by omega⟩ ?_ ak.nil (λk hR=>?_)<;>(conv=>whnf)
    · exact whd
    · obtain⟨hk,hall,hdup⟩:=hR
      repeat'((first|refine aw0 ?_|refine awx ?_|refine AWP.drawK ah 6 40 lU ml Mp Mp Mp rfl ?_|refine AIx.mapF ari (λhlt=>?_)|refine AIx.mapP ari ari (λhpv=>?_)|refine AW.i64 (n:=_-_) ari ari ?_|refine AW.i64 ari ari ?_|refine cP (fz _) ?_|refine cP (jk _) ?_|refine cP (ka _) ?_|exact rr|refine And.intro rfl ?_|refine AB.mk (λh=>?_) (λh=>?_))<;>conv=>whnf)
      all_goals first
        |(rw[pS hlt (by first|(refine aL _ ?_;simp_all[bP];done)|(rw[aC _ ari];simp_all[bP,ej];done)|(rw[aD _ ari];simp_all[bP];done))];done)
        | (refine aG ?_
           have hkk:k=s.length:=ari
           rw[uf (λj hl=>hall j Mo hl) (λi j hi hl=>hdup i j hi Mo hl)];done)
        |skip
      all_goals
        have hch:aQ bP ej s k hlt=true:=(by first|(refine aL _ ?_;simp_all[bP];done)|(rw[aC _ ari];simp_all[bP,ej];done)|(rw[aD _ ari];simp_all[bP];done))
        refine AWP.loopS (λq:Nat=>q<=k/\∀(i:Nat) (hi:i<q) (hik:i<k),(s[i]'(by omega)).index≠s[k].index) [2,4,57,58,59,60,61,62,63,64,65,66,67,68,69,70,71,72] (λq=>[(4,vI .i64 (q:Int))]) (λ_=>[]) (λq=>k-q) 0 ⟨by omega,by omega⟩ ?_ ak.nil (λq hQ=>?_)<;>(conv=>whnf)
        · exact whd
        · obtain⟨hq,hno⟩:=hQ
          repeat'((first|refine aw0 ?_|refine awx ?_|refine AWP.drawK ah 11 10 kG k8 Mp Mp Mp rfl ?_|refine AIx.mapF (k:=q) ari (λhqt=>?_)|refine AIx.mapF (k:=k) ari (λhlt=>?_)|refine AW.i64 ari ari ?_|exact rr|refine And.intro rfl ?_|refine AB.mk (λh=>?_) (λh=>?_))<;>conv=>whnf)
          all_goals first
            |(rw[ue (j:=q) (k:=k) ari ari Mw];done)
            | (refine aB.mk ⟨q + 1, ⟨ari, fun i hi hik => ?_⟩, ari, ?_, ak.nil⟩
               · by_cases hiq:i=q
                 · subst hiq;intro e;simp[e]at h
                 · exact hno i Mo hik
               · exact hds)
            | (refine aB.mk ⟨k + 1, ⟨ari, cc hall ari hch, zR ari hdup fun i hi => hno i ari hi⟩, ari, ?_, ak.nil⟩
               exact hds)
theorem v1{s:List DMark}{k:Nat}(hk:k<s.length):aN (s.take (k+1))=(if s[k].index>aN (s.take k)then s[k].index else aN (s.take k)):=by
  unfold aN
  rw[List.take_succ_eq_append_getElem hk,List.foldl_append]
  rfl
theorem gZ(s:List DMark)(hs:s.length<=1000000):aj av 294 [.one (.sl (s.map DMark.ds))] (rI (aN s)):=by
  refine ae ah func294 rfl call294 ntmps294 (MC results294) λS=>?_;conv=>whnf
  repeat'((first|refine aw0 ?_|refine awx ?_|exact rr|refine And.intro rfl ?_|refine AB.mk (λh=>?_) (λh=>?_))<;>conv=>whnf)
  refine AWP.loopS (λp:Nat×Int=>p.1<=s.length/\p.2=aN (s.take p.1)) [3,5,8,9,10,11,12,13,14,15,16] (λp=>[(3,vI .i64 p.2),(8,vI .i64 (p.1:Int))]) (λ_=>[]) (λp=>s.length-p.1) (0,0) ⟨by simp,rfl⟩ ?_ ak.nil (λp hR=>?_)<;>(conv=>whnf)
  · exact whd
  · obtain⟨k,v⟩:=p
    obtain⟨hk,hv⟩:=hR
    simp only at hk hv
    repeat'((first|refine aw0 ?_|refine awx ?_|refine AIx.mapF ari (λhlt=>?_)|refine AW.i64 ari ari ?_|exact rr|refine And.intro rfl ?_|refine AB.mk (λh=>?_) (λh=>?_))<;>conv=>whnf)
    all_goals first
      | (refine aB.mk ⟨(k + 1, if s[k].index > v then s[k].index else v), ⟨ari, by simp only [v1 (s := s) (k := k) ari, hv]⟩, by simp only; omega, ?_, ak.nil⟩
         exact hds)
      | (have hkk : k = s.length := ari
         subst hkk
         rw[List.take_length]at hv
         rw[hv])
theorem ib(s:List DMark)(h:aW s=true):aj av 272 [.one (.sl (s.map DMark.ds))] (rI (aN s)):=by
  have h':(!aW s)=false:=by simp[h]
  have hl:=dc h
  refine ae ah func272 rfl call272 ntmps272 (MC results272) λS=>?_;conv=>whnf
  repeat'((first|refine aw0 ?_|refine awx ?_|refine cP (bZ s) ?_|exact rr|refine And.intro rfl ?_|refine AB.mk (λh=>?_) (λh=>?_))<;>conv=>whnf)
  refine AWP.loopS (λp:Nat×Int=>p.1<=s.length/\p.2=aN (s.take p.1)) [3,4,9,10,11,12,13,14,15,16,17,18,19,20,21] (λp=>[(3,vI .i64 p.2),(4,vI .i64 (p.1:Int))]) (λ_=>[]) (λp=>s.length-p.1) (0,0) ⟨by simp,rfl⟩ ?_ ak.nil (λp hR=>?_)<;>(conv=>whnf)
  · exact whd
  · obtain⟨k,v⟩:=p
    obtain⟨hk,hv⟩:=hR
    simp only at hk hv
    repeat'((first|refine aw0 ?_|refine awx ?_|refine AIx.mapF ari (λhlt=>?_)|refine AW.i64 ari ari ?_|refine cP (zN _ _) ?_|exact rr|refine And.intro rfl ?_|refine AB.mk (λh=>?_) (λh=>?_))<;>conv=>whnf)
    all_goals first
      | (refine aB.mk ⟨(k + 1, if s[k].index > v then s[k].index else v), ⟨ari, by simp only [v1 (s := s) (k := k) ari, hv]⟩, by simp only; omega, ?_, ak.nil⟩
         exact hds)
      | (have hkk : k = s.length := ari
         subst hkk
         rw[List.take_length]at hv
         rw[hv])
theorem Db{s:List DMark}{c:Int}{k:Nat}(hk:k<s.length)(hno:∀(j:Nat) (hj:j<k) (hl:j<s.length),s[j].client≠c)(h:s[k].client=c):cj s c=s[k]:=by
  unfold cj
  have e:s=s.take k++s[k]::s.drop (k+1):=by simp
  have h0:(s.take k).find? (λm=>m.client==c)=none:=by
    rw[List.find?_eq_none]
    intro m hm
    obtain⟨i,hi,rfl⟩:=List.getElem_of_mem hm
    simp at hi
    have:=hno i Mo Mo
    simpa using this
  have:s.find? (λm=>m.client==c)=some s[k]:=by
    conv=>lhs;rw[e]
    rw[List.find?_append,h0,List.find?_cons]
    simp[h]
  rw[this];rfl
theorem Dc{s:List DMark}{c:Int}(hno:∀(j:Nat) (hl:j<s.length),s[j].client≠c):cj s c=⟨0,0,0⟩:=by
  unfold cj
  have:s.find? (λm=>m.client==c)=none:=by
    rw[List.find?_eq_none]
    intro m hm
    obtain⟨i,hi,rfl⟩:=List.getElem_of_mem hm
    simpa using hno i hi
  rw[this];rfl
theorem wq(s:List DMark)(c:Int)(h:aW s=true):aj av 342 [.one (.sl (s.map DMark.ds)),pI c] (.val (.agg (cj s c).ds)):=by
  have h':(!aW s)=false:=by simp[h]
  have hl:=dc h
  refine ae ah func342 rfl call342 ntmps342 (MC results342) λS=>?_;conv=>whnf
  repeat'((first|refine aw0 ?_|refine awx ?_|refine cP (bZ s) ?_|exact rr|refine And.intro rfl ?_|refine AB.mk (λh=>?_) (λh=>?_))<;>conv=>whnf)
  refine AWP.loopS (λk:Nat=>k<=s.length/\∀(j:Nat) (hj:j<k) (hl:j<s.length),s[j].client≠c) [5,10,11,12,13,14,15,16,17,18,19,20,21,22,23,24,25,26] (λk=>[(5,vI .i64 (k:Int))]) (λ_=>[(4,.cells 235 [.d (dI 0),.d (dI 0),.d (dI 0)])]) (λk=>s.length-k) 0 ⟨by omega,by omega⟩ ?_ (ak.cons rfl ak.nil) (λk hR=>?_)<;>(conv=>whnf)
  · exact whd
  · obtain⟨hk,hno⟩:=hR
    repeat'((first|refine aw0 ?_|refine awx ?_|refine AIx.mapF ari (λhlt=>?_)|refine AW.i64 ari ari ?_|exact rr|refine And.intro rfl ?_|refine AB.mk (λh=>?_) (λh=>?_))<;>conv=>whnf)
    all_goals first
      | (refine aB.mk ⟨k + 1, ⟨ari, fun j hj hl => ?_⟩, by omega, ?_, ak.cons rfl ak.nil⟩
         · by_cases hjk:j=k
           · subst hjk;simp_all
           · exact hno j Mo hl
         · exact hds)
      |(rw[Db (k:=k) hlt hno Mw];rfl)
      | (have hkk : k = s.length := ari
         rw[Dc λj hl=>hno j Mo hl];rfl)
theorem t6(s:List DMark)(c q:Int)(h:aW s=true)(hc:ai c 2 5=true)(hq:ai q 1 2000=true):aj av 322 [.one (.sl (s.map DMark.ds)),pI c,pI q] (rB (decide ((cj s c).seq<q))):=by
  refine ae ah func322 rfl call322 ntmps322 (MC results322) λS=>?_;conv=>whnf
  repeat'((first|refine aw0 ?_|refine awx ?_|refine cP (bZ s) ?_|refine cP (wq s c h) ?_|refine cP (fz _) ?_|refine cP (jk _) ?_|exact rr|refine And.intro rfl ?_|refine AB.mk (λh=>?_) (λh=>?_))<;>conv=>whnf)
  all_goals first
    |rfl
    |simp_all
end Go.Proofs.YtehobfglmeiglaaGreatDoor
namespace Go.Proofs.YtehobfglmeiglaaGreatDoor
open Go.Proofs.Tryz
open Go.ChangeShapes Go.WideShapes Go.RowKit
def lV:List (List Nat):=bk [0,1,129,12354,1056835,1056835,101453956,1056835,135008388,1420639959016008,182435787227795653,4648010245964599818,897119605921862652036,61688236933047122166412,4288656023430201321201933,61688236933047122166412,4893118933237515908555021,1204593638896541768696351220816,66237240043834182832914358670223]
def mm:List (List Nat):=bj 17 [0,1,4,13,19480,17698,17941,2146,4333,9841,29524,88573,265720,115588417,117182740,13551745,27900652]
def kH:List (List Nat):=bk [0,1,129,12354,12354,67637445,6527127684,485365133638,12354,2367555,145826235435479689,3477390870126285192]
def k9:List (List Nat):=bj 10 [0,1,4,52663,52555,52609,52852,53581,6547,13108]
def kI:List (List Nat):=bk [0,0,66,12417,1052803,0,6,346852442566]
def la:List (List Nat):=bj 7 [1950,1946,1948,1957,1984,242,485]
def tO(r:List DMark×Bool):AP:= .tup [.one (.sl (r.1.map DMark.ds)),.one (dB r.2)]
def j4(s:List DMark)(e:DEntry):List DMark×Bool:=match bS s e with|some o=>(o,true)|none=>(s,false)
theorem gd{e:DEntry}(h:bu e=true):ai e.client 2 5=true/\ai e.seq 1 2000=true/\ai e.index 1 2000=true:=by
  simp only[bu,Bool.and_eq_true]at h
  exact⟨h.1.1.2,h.1.2,h.1.1.1.1⟩
theorem wK(x:DMark):∀(s:List DMark) (p:List DMark×Bool),(s.foldl (ck x) p).1.length<=p.1.length+2*s.length
  |[],p=>by simp
  |m::r,p=>by
    have h1:=wK x r (ck x p m)
    have h2:(ck x p m).1.length<=p.1.length+2:=by
      unfold ck
      simp only
      split<;>split<;>simp
    simp only[List.foldl_cons,List.length_cons]
    omega
theorem kg(x:DMark){s:List DMark}{k:Nat}(hk:k<s.length):(s.take (k+1)).foldl (ck x) ([],false)=ck x ((s.take k).foldl (ck x) ([],false)) s[k]:=by
  rw[List.take_succ_eq_append_getElem hk,List.foldl_append]
  rfl
theorem rR{x m:DMark}{p:List DMark×Bool}(h1:(!p.2&&decide (m.client>=x.client))=true)(h2:(m.client !=x.client)=true):ck x p m=(p.1++[x]++[m],true):=by simp only[ck,h1,h2,if_true]
theorem rS{x m:DMark}{p:List DMark×Bool}(h1:(!p.2&&decide (m.client>=x.client))=true)(h2:(m.client !=x.client)=false):ck x p m=(p.1++[x],true):=by simp only[ck,h1,h2,if_true];rfl
theorem rT{x m:DMark}{p:List DMark×Bool}(h1:(!p.2&&decide (m.client>=x.client))=false)(h2:(m.client !=x.client)=true):ck x p m=(p.1++[m],p.2):=by simp only[ck,h1,h2,if_true];rfl
theorem rU{x m:DMark}{p:List DMark×Bool}(h1:(!p.2&&decide (m.client>=x.client))=false)(h2:(m.client !=x.client)=false):ck x p m=(p.1,p.2):=by simp only[ck,h1,h2];rfl
theorem tC{s:List DMark}{e:DEntry}(h:(bu e&&gC s e&&decide (aN s<e.index))=false):bS s e=none:=by simp[bS,h]
theorem qZ{s:List DMark}{e:DEntry}(h:(bu e&&gC s e&&decide (aN s<e.index))=true):bS s e=some (putMark s e.mark):=by simp only[bS,h,if_true]
set_option maxHeartbeats 2000000 in
theorem wt(s:List DMark)(e:DEntry)(hseen:aW s=true):aj av 274 [.one (.sl (s.map DMark.ds)),.agg e.ds] (tO (j4 s e)):=by
  have h':(!aW s)=false:=by simp[hseen]
  have hl:=dc hseen
  refine ae ah func274 rfl call274 ntmps274 (MC results274) λS=>?_;conv=>whnf
  repeat'((first|refine aw0 ?_|refine awx ?_|refine AWP.drawK ah 3 17 lV mm Mp Mp Mp rfl ?_|refine cP (bZ s) ?_|refine cP (fA e) ?_|refine cP (t6 s e.client e.seq hseen (by simp_all[bu]) (by simp_all[bu])) ?_|refine cP (ib s hseen) ?_|refine cP (eL s Mo) ?_|exact rr|refine And.intro rfl ?_|refine AB.mk (λh=>?_) (λh=>?_))<;>conv=>whnf)
  all_goals first
    | (have hno : bS s e = none := tC (by first | (simp_all [gC]; done) | (simp_all [gC]; intros; omega))
       simp only[j4,hno];rfl)
    |skip
  have hyes:bS s e=some (putMark s e.mark):=qZ (by first|(simp_all[gC];done)|(simp_all[gC];omega))
  simp only[j4,hyes]
  refine AWP.loopS (λp:Nat×List DMark×Bool=>p.1<=s.length/\p.2=(s.take p.1).foldl (ck e.mark) ([],false)) (42::[7,8,9,43,44,45,46,47,48,49,50,51,52,53,54,55,56,57,58,59,60,61,62,63,64,65,66,67,68,69,70,71,72,73,74,75,76,77,78,79]) (λp=>[(7,.one (.own 42)),(8,vB p.2.2),(9,vI .i64 (p.1:Int))]) (λp=>[(42,.row 235 3 (p.2.1.map DMark.ds)),(6,.cells 235 (e.mark.ds.map .d)),(3,.cells 306 (e.ds.map .d))]) (λp=>s.length-p.1) (0,[],false) ⟨by simp,rfl⟩ ?_ (ak.cons rfl (ak.cons rfl (ak.cons rfl ak.nil))) (λp hR=>?_)<;>(conv=>whnf)
  · exact whd
  · obtain⟨hk,hv⟩:=hR
    have hlen:=wK e.mark (s.take p.1) ([],false)
    rw[<-hv]at hlen
    have htl:(s.take p.1).length<=4:=by simp;omega
    simp only[List.length_nil]at hlen
    have hfin:=wJ e.mark s [] (ii hseen)
    repeat'((first|refine aw0 ?_|refine awx ?_|refine AWP.drawK ah 11 10 kH k9 Mp Mp Mp rfl ?_|refine AWP.drawK ah 14 7 kI la Mp Mp Mp rfl ?_|refine AIx.mapF ari (λhlt=>?_)|refine AW.i64 ari ari ?_|refine ce (λx hx=>by obtain⟨y,_,rfl⟩:=List.mem_map.1 hx;rfl) ?_|refine dJ Mz ?_|exact rr|refine And.intro rfl ?_|refine AB.mk (λh=>?_) (λh=>?_))<;>conv=>whnf)
    all_goals first
      | (have he : ck e.mark p.2 (s[p.1]'ari) = (p.2.1 ++ [e.mark] ++ [s[p.1]'ari], true) := (by first | exact rR (by clear hfin hlen hv; first | (simp_all [DEntry.mark]; done) | (simp_all [DEntry.mark]; omega)) (by clear hfin hlen hv; first | (simp_all [DEntry.mark]; done) | (simp_all [DEntry.mark]; omega)) | exact rS (by clear hfin hlen hv; first | (simp_all [DEntry.mark]; done) | (simp_all [DEntry.mark]; omega)) (by clear hfin hlen hv; first | (simp_all [DEntry.mark]; done) | (simp_all [DEntry.mark]; omega)) | exact rT (by clear hfin hlen hv; first | (simp_all [DEntry.mark]; done) | (simp_all [DEntry.mark]; omega)) (by clear hfin hlen hv; first | (simp_all [DEntry.mark]; done) | (simp_all [DEntry.mark]; omega)) | exact rU (by clear hfin hlen hv; first | (simp_all [DEntry.mark]; done) | (simp_all [DEntry.mark]; omega)) (by clear hfin hlen hv; first | (simp_all [DEntry.mark]; done) | (simp_all [DEntry.mark]; omega)))
         (refine aB.mk ⟨(p.1 + 1, p.2.1 ++ [e.mark] ++ [s[p.1]'ari], true), ⟨ari, by simp only [kg e.mark (s := s) (k := p.1) ari, ← hv, he]⟩, ari, ?_, ak.cons (congrArg some (congrArg (AO.row 235 3) MB)) (ak.cons rfl (ak.cons rfl ak.nil))⟩
          exact hds))
      | (have he : ck e.mark p.2 (s[p.1]'ari) = (p.2.1 ++ [e.mark], true) := (by first | exact rR (by clear hfin hlen hv; first | (simp_all [DEntry.mark]; done) | (simp_all [DEntry.mark]; omega)) (by clear hfin hlen hv; first | (simp_all [DEntry.mark]; done) | (simp_all [DEntry.mark]; omega)) | exact rS (by clear hfin hlen hv; first | (simp_all [DEntry.mark]; done) | (simp_all [DEntry.mark]; omega)) (by clear hfin hlen hv; first | (simp_all [DEntry.mark]; done) | (simp_all [DEntry.mark]; omega)) | exact rT (by clear hfin hlen hv; first | (simp_all [DEntry.mark]; done) | (simp_all [DEntry.mark]; omega)) (by clear hfin hlen hv; first | (simp_all [DEntry.mark]; done) | (simp_all [DEntry.mark]; omega)) | exact rU (by clear hfin hlen hv; first | (simp_all [DEntry.mark]; done) | (simp_all [DEntry.mark]; omega)) (by clear hfin hlen hv; first | (simp_all [DEntry.mark]; done) | (simp_all [DEntry.mark]; omega)))
         (refine aB.mk ⟨(p.1 + 1, p.2.1 ++ [e.mark], true), ⟨ari, by simp only [kg e.mark (s := s) (k := p.1) ari, ← hv, he]⟩, ari, ?_, ak.cons (congrArg some (congrArg (AO.row 235 3) MB)) (ak.cons rfl (ak.cons rfl ak.nil))⟩
          exact hds))
      | (have he : ck e.mark p.2 (s[p.1]'ari) = (p.2.1 ++ [s[p.1]'ari], p.2.2) := (by first | exact rR (by clear hfin hlen hv; first | (simp_all [DEntry.mark]; done) | (simp_all [DEntry.mark]; omega)) (by clear hfin hlen hv; first | (simp_all [DEntry.mark]; done) | (simp_all [DEntry.mark]; omega)) | exact rS (by clear hfin hlen hv; first | (simp_all [DEntry.mark]; done) | (simp_all [DEntry.mark]; omega)) (by clear hfin hlen hv; first | (simp_all [DEntry.mark]; done) | (simp_all [DEntry.mark]; omega)) | exact rT (by clear hfin hlen hv; first | (simp_all [DEntry.mark]; done) | (simp_all [DEntry.mark]; omega)) (by clear hfin hlen hv; first | (simp_all [DEntry.mark]; done) | (simp_all [DEntry.mark]; omega)) | exact rU (by clear hfin hlen hv; first | (simp_all [DEntry.mark]; done) | (simp_all [DEntry.mark]; omega)) (by clear hfin hlen hv; first | (simp_all [DEntry.mark]; done) | (simp_all [DEntry.mark]; omega)))
         (refine aB.mk ⟨(p.1 + 1, p.2.1 ++ [s[p.1]'ari], p.2.2), ⟨ari, by simp only [kg e.mark (s := s) (k := p.1) ari, ← hv, he]⟩, ari, ?_, ak.cons (congrArg some (congrArg (AO.row 235 3) MB)) (ak.cons rfl (ak.cons rfl ak.nil))⟩
          exact hds))
      | (have he : ck e.mark p.2 (s[p.1]'ari) = (p.2.1, p.2.2) := (by first | exact rR (by clear hfin hlen hv; first | (simp_all [DEntry.mark]; done) | (simp_all [DEntry.mark]; omega)) (by clear hfin hlen hv; first | (simp_all [DEntry.mark]; done) | (simp_all [DEntry.mark]; omega)) | exact rS (by clear hfin hlen hv; first | (simp_all [DEntry.mark]; done) | (simp_all [DEntry.mark]; omega)) (by clear hfin hlen hv; first | (simp_all [DEntry.mark]; done) | (simp_all [DEntry.mark]; omega)) | exact rT (by clear hfin hlen hv; first | (simp_all [DEntry.mark]; done) | (simp_all [DEntry.mark]; omega)) (by clear hfin hlen hv; first | (simp_all [DEntry.mark]; done) | (simp_all [DEntry.mark]; omega)) | exact rU (by clear hfin hlen hv; first | (simp_all [DEntry.mark]; done) | (simp_all [DEntry.mark]; omega)) (by clear hfin hlen hv; first | (simp_all [DEntry.mark]; done) | (simp_all [DEntry.mark]; omega)))
         (refine aB.mk ⟨(p.1 + 1, p.2.1, p.2.2), ⟨ari, by simp only [kg e.mark (s := s) (k := p.1) ari, ← hv, he]⟩, ari, ?_, ak.cons (congrArg some (congrArg (AO.row 235 3) MB)) (ak.cons rfl (ak.cons rfl ak.nil))⟩
          exact hds))
      |(exfalso;clear hfin hlen hv;simp_all;done)
      |(exfalso;clear hfin hlen hv;simp_all;omega)
      | (have hkk : p.1 = s.length := ari
         rw[hkk,List.take_length]at hv
         rw[<-hv]at hfin
         have hf:putMark s e.mark=p.2.1++[e.mark]:=by simp_all
         rw[hf]
         simp only[tO,List.map_append,List.map_cons,List.map_nil]
         rfl)
      | (have hkk : p.1 = s.length := ari
         rw[hkk,List.take_length]at hv
         rw[<-hv]at hfin
         have hf:putMark s e.mark=p.2.1:=by simp_all
         rw[hf]
         rfl)
end Go.Proofs.YtehobfglmeiglaaGreatDoor
namespace Go.Proofs.YtehobfglmeiglaaGreatDoor
open Go.Proofs.Tryz
open Go.ChangeShapes Go.WideShapes Go.RowKit
theorem zu{s:List DMark}{l:List DEntry}(h:aW s=false):aK s l=([],false):=by simp[aK,h]
theorem zv{s:List DMark}{l:List DEntry}(h:aW s=true)(hl:2000<l.length):aK s l=(s,false):=by simp[aK,h,hl]
theorem nk{s:List DMark}{l:List DEntry}(h:aW s=true)(hl:¬2000<l.length)(hf:bg s l=none):aK s l=(s,false):=by simp[aK,h,hl,hf]
theorem qt{s c:List DMark}{l:List DEntry}(h:aW s=true)(hl:¬2000<l.length)(hf:bg s l=some c):aK s l=(c,true):=by simp[aK,h,hl,hf]
theorem zi{s c:List DMark}{e:DEntry}(h:bS s e=some c):j4 s e=(c,true):=by simp[j4,h]
theorem zg{s:List DMark}{e:DEntry}(h:bS s e=none):j4 s e=(s,false):=by simp[j4,h]
set_option maxHeartbeats 2000000 in
theorem ie(s:List DMark)(l:List DEntry):aj av 214 [.one (.sl (s.map DMark.ds)),.one (.sl (l.map DEntry.ds))] (tO (aK s l)):=by
  cases hseen:aW s with
  |false=>
    have h':(!aW s)=true:=by simp[hseen]
    rw[zu hseen]
    refine ae ah func214 rfl call214 ntmps214 (MC results214) λS=>?_;conv=>whnf
    repeat'((first|refine aw0 ?_|refine awx ?_|refine cP (bZ s) ?_|exact rr|refine And.intro rfl ?_|refine AB.mk (λh=>?_) (λh=>?_))<;>conv=>whnf)
    all_goals rfl
  |true=>
    have h':(!aW s)=false:=by simp[hseen]
    have hs4:=dc hseen
    refine ae ah func214 rfl call214 ntmps214 (MC results214) λS=>?_;conv=>whnf
    repeat'((first|refine aw0 ?_|refine awx ?_|refine cP (bZ s) ?_|refine cP (eL s Mo) ?_|exact rr|refine And.intro rfl ?_|refine AB.mk (λh=>?_) (λh=>?_))<;>conv=>whnf)
    · rw[zv hseen ari];rfl
    · have hl:¬2000<l.length:=ari
      clear h
      refine AWP.loopS (λp:Nat×List DMark=>p.1<=l.length/\bg s (l.take p.1)=some p.2) [4,5,6,7,8,9,21,22,23,24,25,26,27,28,29,30,31,32,33,34,35,36,37,38,39,40] (λp=>[(6,.one (.d (.sl (p.2.map DMark.ds)))),(7,vI .i64 (p.1:Int))]) (λ_=>[]) (λp=>l.length-p.1) (0,s) ⟨by simp,rfl⟩ ?_ ak.nil (λp hR=>?_)<;>(conv=>whnf)
      · exact whd
      · obtain⟨hk,hf⟩:=hR
        have hcur:=iY hseen hf
        by_cases hlt:p.1<l.length
        · have hlt':decide ((p.1:Int)<((l.map DEntry.ds).length:Int))=true:=by simp;omega
          cases hm:bS p.2 l[p.1]with
          |none=>
            have hmk:=zg hm
            have hM:=wt p.2 l[p.1] hcur
            rw[hmk]at hM
            repeat'((first|refine aw0 ?_|refine awx ?_|refine AIx.mapF ari (λhlt=>?_)|refine AW.i64 ari ari ?_|refine cP (hM) ?_|refine cP (eL s Mo) ?_|exact rr|refine And.intro rfl ?_|refine AB.mk (λh=>?_) (λh=>?_))<;>conv=>whnf)
            rw[nk hseen hl (m1 hlt hf hm)];rfl
          |some c=>
            have hmk:=zi hm
            have hM:=wt p.2 l[p.1] hcur
            rw[hmk]at hM
            repeat'((first|refine aw0 ?_|refine awx ?_|refine AIx.mapF ari (λhlt=>?_)|refine AW.i64 ari ari ?_|refine cP (hM) ?_|refine cP (eL s Mo) ?_|exact rr|refine And.intro rfl ?_|refine AB.mk (λh=>?_) (λh=>?_))<;>conv=>whnf)
            refine aB.mk ⟨(p.1+1,c),⟨ari,by simp only[m2 hlt hf,hm]⟩,ari,?_,ak.nil⟩
            exact hds
        · have hlt':decide ((p.1:Int)<((l.map DEntry.ds).length:Int))=false:=by simp;omega
          repeat'((first|refine aw0 ?_|refine awx ?_|exact rr|refine And.intro rfl ?_|refine AB.mk (λh=>?_) (λh=>?_))<;>conv=>whnf)
          have hkk:p.1=l.length:=by omega
          rw[hkk,List.take_length]at hf
          rw[qt hseen hl hf];rfl
theorem Ai(w:World):(zeroValue 235).run Tryz.prog w= .ok (DMark.v ⟨0,0,0⟩) w:=by kernel_rfl
theorem wi(m:DMark)(Z:Nat->Prop)(w:World)(ρ:Nat->Value):aT Z w ρ (.agg (m.ds.map .d)) m.v:=by
  have:m.v= .agg [.int .i64 m.client,.int .i64 m.seq,.int .i64 m.index].toArray:=rfl
  rw[this]
  refine .agg _ _ rfl λi c u hc hu=>?_
  match i,hc,hu with
  |0,hc,hu=>simp[DMark.ds]at hc hu;subst hc hu;exact bl.pv _ rfl
  |1,hc,hu=>simp[DMark.ds]at hc hu;subst hc hu;exact bl.pv _ rfl
  |2,hc,hu=>simp[DMark.ds]at hc hu;subst hc hu;exact bl.pv _ rfl
  |i+3,hc,hu=>simp[DMark.ds]at hc
theorem EQ(m:DMark):∀(Z:Nat->Prop) (w:World) (ρ:Nat->Value) (y:Value),aT Z w ρ (.agg (m.ds.map .d)) y->y=m.v:=λZ w ρ y h=>pJ rfl h
section
variable {S:ba} {o:Oper} {st:ASt} {K:ASt->Prop} {x i v:Operand} {id:Nat} {n:Int} {N:Nat} {s:List DMark}
theorem AOp.lookMark(ho:o.op= .lookup 345 x i false)(hx:aEv st x λv=>v= .one (.own id))(hi:aEv st i λv=>v=vI .i64 n)(hob:aOb st.ob id λo=>o=dF Tryz.prog 2 N (dh s))(hn:(Lit.int .i64 n).wf=true)
    (hK:bU st o.dst (.agg ((cj s n).ds.map .d)) K):AOp av S o st K:=
  AOp.look (E:=av) ho underlying345 underlying2 Ai hx hi hob hn (.agg ((cj s n).ds.map .d)) (λZ w ρ=>by rw[tD];exact wi ..) hK
theorem AOp.lookMarkOk(ho:o.op= .lookup 345 x i true)(hx:aEv st x λv=>v= .one (.own id))(hi:aEv st i λv=>v=vI .i64 n)(hob:aOb st.ob id λo=>o=dF Tryz.prog 2 N (dh s))(hn:(Lit.int .i64 n).wf=true)
    (hK:bU st o.dst (.tup [.agg ((cj s n).ds.map .d),vB (s.find? λm=>m.client==n).isSome]) K):AOp av S o st K:=
  AOp.look (E:=av) ho underlying345 underlying2 Ai hx hi hob hn (.agg ((cj s n).ds.map .d)) (λZ w ρ=>by rw[tD];exact wi ..) (show bU st o.dst (.tup [.agg ((cj s n).ds.map .d),vB (dh s n).isSome]) K from(by simp only[dh,Option.isSome_map];exact hK))
theorem AOp.putMark{f:Int->Option Value}(m:DMark)(ho:o.op= .mapUpdate 345 x i v)(hN:N<9223372036854775807)(hx:aEv st x λv=>v= .one (.own id))(hi:aEv st i λv=>v=vI .i64 m.client)(hob:aOb st.ob id λo=>o=dF Tryz.prog 2 N f)(hn:(Lit.int .i64 m.client).wf=true)
    (hv:aEv st v λv=>v= .agg (m.ds.map .d)) {g:Int->Option Value} (hg:lB f m.client (some m.v)=g)
    (hK:dN id (dF Tryz.prog 2 (N+1) g) st.ob λob=>bU ⟨st.tm,ob⟩ o.dst (.one .und) K):AOp av S o st K:=by
  subst hg
  refine AOp.mapPut (E:=av) (u:=m.v) ho underlying345 underlying2 hN hx hi hob hn ?_ hK
  exact(bt (st:=st) v).mono (λx (h:x= .agg (m.ds.map .d))=>by subst h;exact EQ m) hv
end
end Go.Proofs.YtehobfglmeiglaaGreatDoor
namespace Go.Proofs.YtehobfglmeiglaaGreatDoor
open Go.Proofs.Tryz
open Go.ChangeShapes Go.WideShapes Go.RowKit
theorem DL{s:List DMark}(h:aW s=true){k:Nat}(hk:k<s.length):(Lit.int .i64 s[k].client).wf=true:=by
  have:=nr h (List.getElem_mem hk)
  simp only[bP,ai,Bool.and_eq_true,decide_eq_true_eq]at this
  exact m4 Mo Mo
theorem uD{e:DEntry}(h:(!bu e)=false):(Lit.int .i64 e.client).wf=true:=by
  have:=(gd (e:=e) (by simpa using h)).1
  simp only[ai,Bool.and_eq_true,decide_eq_true_eq]at this
  exact m4 Mo Mo
theorem zj(s:List DMark)(e:DEntry):lB (lB (dh s) e.client none) e.mark.client (some e.mark.v)=dh (putMark s e.mark):=Bj s e.mark
theorem ER{s:List DMark}{e:DEntry}(h:bu e=false\/e.seq<=(cj s e.client).seq\/e.index<=aN s):bS s e=none:=by
  refine tC ?_
  rcases h with h|h|h
  · simp[h]
  · have:gC s e=false:=by simp[gC];omega
    simp[this]
  · have:decide (aN s<e.index)=false:=by simp;omega
    simp[this]
theorem H8{s:List DMark}{e:DEntry}(h:bu e=true)(h2:¬e.seq<=(cj s e.client).seq)(h3:¬e.index<=aN s):bS s e=some (putMark s e.mark):=by
  refine qZ ?_
  have a:gC s e=true:=by simp[gC];omega
  have b:decide (aN s<e.index)=true:=by simp;omega
  simp[h,a,b]
theorem vZ{s:List DMark}{e:DEntry}(h3:¬e.index<=aN s):aN (putMark s e.mark)=e.index:=zc (m:=e.mark) (by simp[DEntry.mark];omega)
set_option maxHeartbeats 4000000 in
theorem gX(s:List DMark)(l:List DEntry)(hs:s.length<=9223372036854775806):aj av 248 [.one (.sl (s.map DMark.ds)),.one (.sl (l.map DEntry.ds))] (tO (aK s l)):=by
  cases hseen:aW s with
  |false=>
    have h':(!aW s)=true:=by simp[hseen]
    rw[zu hseen]
    refine ae ah func248 rfl call248 ntmps248 (MC results248) λS=>?_;conv=>whnf
    repeat'((first|refine aw0 ?_|refine awx ?_|refine cP (gm s hs) ?_|exact rr|refine And.intro rfl ?_|refine AB.mk (λh=>?_) (λh=>?_))<;>conv=>whnf)
    all_goals rfl
  |true=>
    have h':(!aW s)=false:=by simp[hseen]
    have hs4:=dc hseen
    refine ae ah func248 rfl call248 ntmps248 (MC results248) λS=>?_;conv=>whnf
    repeat'((first|refine aw0 ?_|refine awx ?_|refine cP (gm s hs) ?_|refine cP (gY s Mo) ?_|refine AOp.makeMap (E:=av) 2 rfl rfl ?_|exact rr|refine And.intro rfl ?_|refine AB.mk (λh=>?_) (λh=>?_))<;>conv=>whnf)
    · rw[zv hseen ari];rfl
    · have hl:¬2000<l.length:=ari
      clear h
      refine AWP.loopS (λk:Nat=>k<=s.length) [8,27,28,29,30,31,32,33,34,35] (λk=>[(27,vI .i64 (k:Int))]) (λk=>[(24,dF Tryz.prog 2 k (dh (s.take k)))]) (λk=>s.length-k) 0 Mo ?_ (ak.cons rfl ak.nil) (λk hk=>?_)<;>(conv=>whnf)
      · exact whd
      · repeat'((first|refine aw0 ?_|refine awx ?_|refine AIx.mapF ari (λhlt=>?_)|refine AW.i64 ari ari ?_|refine AOp.putMark (id:=24) (N:=k) (s[k]'ari) rfl Mo rfl rfl rfl (DL hseen ari) rfl (zk (ii hseen) ari) ?_|refine cP (gZ s Mo) ?_|exact rr|refine And.intro rfl ?_|refine AB.mk (λh=>?_) (λh=>?_))<;>conv=>whnf)
        · refine aB.mk ⟨k+1,hlt,by omega,?_,ak.cons rfl ak.nil⟩
          exact hds
        · have hkk:k=s.length:=ari
          subst hkk
          rw[List.take_length]
          clear h hk
          refine AWP.loopS (λp:Nat×List DMark×Int=>p.1<=l.length/\bg s (l.take p.1)=some p.2.1/\p.2.2=aN p.2.1) [4,5,9,11,40,41,42,43,44,45,46,47,48,49,50,51,52,53,54,55,56,57,58,59,60,61,62,63,64,65,66,67,68,69,70,71,72,73,74,75,76,77,78,79,80] (λp=>[(9,vI .i64 p.2.2),(40,vI .i64 (p.1:Int))]) (λp=>[(24,dF Tryz.prog 2 (s.length+p.1) (dh p.2.1))]) (λp=>l.length-p.1) (0,s,aN s) ⟨by simp,rfl,rfl⟩ ?_ (ak.cons rfl ak.nil) (λp hR=>?_)<;>(conv=>whnf)
          · exact whd
          · obtain⟨hk,hf,hla⟩:=hR
            have hcur:=iY hseen hf
            repeat'((first|refine aw0 ?_|refine awx ?_|refine AIx.mapF ari (λhlt=>?_)|refine AW.i64 ari ari ?_|refine cP (fu _) ?_|refine cP (gY s Mo) ?_|refine AOp.lookMark (id:=24) (N:=s.length+p.1) (s:=p.2.1) rfl rfl rfl rfl (uD Mt) ?_|refine AOp.mapDel (E:=av) (id:=24) (N:=s.length+p.1) (f:=dh p.2.1) rfl rfl underlying345 underlying2 rfl rfl rfl (uD Mt) ?_|refine AOp.putMark (id:=24) (N:=s.length+p.1) (DEntry.mark (l[p.1]'ari)) rfl Mo rfl rfl rfl (uD Mt) rfl (zj _ _) ?_|exact rr|refine And.intro rfl ?_|refine AB.mk (λh=>?_) (λh=>?_))<;>conv=>whnf)
            all_goals first
              |(rw[nk hseen hl (m1 ari hf (ER (.inl (by simpa using h))))];rfl)
              |(rw[nk hseen hl (m1 ari hf (ER (.inr (.inl (by simpa using h)))))];rfl)
              |(rw[nk hseen hl (m1 ari hf (ER (.inr (.inr (by rw[<-hla];simpa using h)))))];rfl)
              | (have hm := H8 (s := p.2.1) (e := l[p.1]'ari) Mw Mw (by rw [← hla]; simp_all)
                 refine aB.mk ⟨(p.1+1,putMark p.2.1 (l[p.1]'ari).mark,(l[p.1]'ari).index),⟨ari,by simp only[m2 (l:=l) (k:=p.1) ari hf,hm],(vZ (by rw[<-hla];simp_all)).symm⟩,ari,?_,ak.cons rfl ak.nil⟩
                 exact hds)
              |skip
            have hkk:p.1=l.length:=ari
            rw[hkk,List.take_length]at hf
            rw[qt hseen hl hf]
            have hlen:=dc hcur
            refine AWP.loopS (λc:Int=>2<=c/\c<=6) (81::[12,13,14,15,82,83,84,85,86,87,88,89,90,91,92,93,94,95,96]) (λc=>[(12,.one (.own 81)),(13,vI .i64 c)]) (λc=>[(81,.row 235 3 ((p.2.1.filter λx=>decide (x.client<c)).map DMark.ds)),(24,dF Tryz.prog 2 (s.length+p.1) (dh p.2.1))]) (λc=>(6-c).toNat) 2 Mo ?_ (ak.cons (congrArg some (congrArg (AO.row 235 3) (by simp only[CZ hcur,List.map_nil]))) (ak.cons rfl ak.nil)) (λc hc=>?_)<;>(conv=>whnf)
            · exact whd
            · have hfl:(p.2.1.filter λx=>decide (x.client<c)).length<=4:=Nat.le_trans (List.length_filter_le ..) hlen
              have hsu:=vK (c:=c) (ii hcur)
              cases hfi:p.2.1.find? (λx=>x.client==c)with
              |none=>
                have hso:(p.2.1.find? (λx=>x.client==c)).isSome=false:=by rw[hfi];rfl
                rw[hfi]at hsu
                simp only[Option.toList_none,List.append_nil]at hsu
                repeat'((first|refine aw0 ?_|refine awx ?_|refine AW.i64 ari ari ?_|refine AOp.lookMarkOk (id:=24) (N:=s.length+p.1) (s:=p.2.1) rfl rfl rfl rfl (m4 Mo Mo) ?_|exact rr|refine And.intro rfl ?_|refine AB.mk (λh=>?_) (λh=>?_))<;>conv=>whnf)
                all_goals first
                  | (refine aB.mk ⟨c + 1, ⟨ari, ari⟩, ari, ?_, ak.cons (congrArg some (congrArg (AO.row 235 3) (by rw [hsu]))) (ak.cons rfl ak.nil)⟩
                     exact hds)
                  | (have h4 : c = 6 := ari
                     subst h4
                     have:=yI hcur
                     simp only[tO,this])
              |some m=>
                have hso:(p.2.1.find? (λx=>x.client==c)).isSome=true:=by rw[hfi];rfl
                have hmo:cj p.2.1 c=m:=by unfold cj;rw[hfi];rfl
                rw[hfi]at hsu
                simp only[Option.toList_some]at hsu
                repeat'((first|refine aw0 ?_|refine awx ?_|refine AW.i64 ari ari ?_|refine AOp.lookMarkOk (id:=24) (N:=s.length+p.1) (s:=p.2.1) rfl rfl rfl rfl (m4 Mo Mo) ?_|refine ce (λx hx=>by obtain⟨y,_,rfl⟩:=List.mem_map.1 hx;rfl) ?_|refine dJ Mz ?_|exact rr|refine And.intro rfl ?_|refine AB.mk (λh=>?_) (λh=>?_))<;>conv=>whnf)
                all_goals first
                  | (refine aB.mk ⟨c + 1, ⟨ari, ari⟩, ari, ?_, ak.cons (congrArg some (congrArg (AO.row 235 3) (by rw [hsu, hmo, List.map_append]; rfl))) (ak.cons rfl ak.nil)⟩
                     exact hds)
                  | (have h4 : c = 6 := ari
                     subst h4
                     have:=yI hcur
                     simp only[tO,this])
end Go.Proofs.YtehobfglmeiglaaGreatDoor
