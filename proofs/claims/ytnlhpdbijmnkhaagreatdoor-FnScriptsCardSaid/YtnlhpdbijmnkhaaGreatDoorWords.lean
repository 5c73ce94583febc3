/- Words -/
import Derived.Lib.ItoaNum
import Derived.Lib.IndexMore
import Derived.Lib.ParseIntB
set_option linter.unusedVariables false
set_option linter.unusedSimpArgs false
set_option maxRecDepth 100000
namespace Go.Proofs.YtnlhpdbijmnkhaaGreatDoor
def aQ(c:UInt8):List UInt8->List (List UInt8)
 |[]=>[[]]
 |x::r=>if x=c then []::aQ c r else(x::(aQ c r).headD [])::(aQ c r).tail
def aU(c:UInt8):List (List UInt8)->List UInt8
 |[]=>[]
 |[w]=>w
 |w::v::ws=>w++c::aU c (v::ws)
theorem oF(c:UInt8):∀s,aQ c s≠ []
 |[]=>by simp[aQ]
 |x::r=>by unfold aQ;split<;>simp
theorem eJ{c:UInt8}{s:List UInt8}:∃w ws,aQ c s=w::ws:=by
 cases h:aQ c s with
 |nil=>exact absurd h (oF c s)
 |cons w ws=>exact⟨w,ws,rfl⟩
theorem ge(c:UInt8):∀s,aU c (aQ c s)=s
 |[]=>rfl
 |x::r=>by
  obtain⟨w,ws,e⟩:=eJ (c:=c) (s:=r)
  have ih:=ge c r
  rw[e]at ih
  unfold aQ
  split
  ·rename_i h;rw[e,aU,ih,h];rfl
  ·rw[e]
   simp only[List.headD_cons,List.tail_cons]
   cases ws with
   |nil=>simp only[aU]at ih⊢;rw[ih]
   |cons v ws=>simp only[aU,List.cons_append]at ih⊢;rw[ih]
theorem sC{c:UInt8}:∀{s:List UInt8},∀w∈aQ c s,c∉w
 |[],w,h=>by simp[aQ]at h;subst h;simp
 |x::r,w,h=>by
  obtain⟨v,ws,e⟩:=eJ (c:=c) (s:=r)
  have ih:=sC (c:=c) (s:=r)
  unfold aQ at h
  rw[e]at ih h
  split at h
  ·rcases List.mem_cons.1 h with rfl|h
   ·simp
   ·exact ih w h
  ·rename_i hx
   simp only[List.headD_cons,List.tail_cons]at h
   rcases List.mem_cons.1 h with rfl|h
   ·intro hm
    rcases List.mem_cons.1 hm with hm|hm
    ·exact hx hm.symm
    ·exact ih v (by simp) hm
   ·exact ih w (by simp[h])
theorem iH{c:UInt8}:∀{w r:List UInt8},c∉w->aQ c (w++c::r)=w::aQ c r
 |[],r,_=>by simp[aQ]
 |x::w,r,h=>by
  have hx:¬x=c:=λe=>h (by simp[e])
  have hw:c∉w:=λe=>h (by simp[e])
  rw[List.cons_append,aQ,if_neg hx,iH hw]
  rfl
theorem l5{c:UInt8}:∀{w:List UInt8},c∉w->aQ c w=[w]
 |[],_=>rfl
 |x::w,h=>by
  have hx:¬x=c:=λe=>h (by simp[e])
  have hw:c∉w:=λe=>h (by simp[e])
  rw[aQ,if_neg hx,l5 hw]
  rfl
theorem m0{c:UInt8}:∀{ws:List (List UInt8)},ws≠ []->(∀w∈ws,c∉w)->aQ c (aU c ws)=ws
 |[],h,_=>absurd rfl h
 |[w],_,h=>l5 (h w (by simp))
 |w::v::ws,_,h=>by
  rw[aU,iH (h w (by simp)),m0 (by simp) λx hx=>h x (by simp[hx])]
theorem ou(c x:UInt8)(r:List UInt8):[c].isPrefixOf (x::r)=decide (x=c):=by
 simp only[List.isPrefixOf,Bool.and_true]
 by_cases h:x=c
 ·subst h;simp
 ·have:¬c=x:=λe=>h e.symm
  simp[h,this]
theorem q5{c:UInt8}:∀{w:List UInt8},c∉w->Lib.index w [c]= -1
 |[],_=>rfl
 |x::w,h=>by
  have hx:¬x=c:=λe=>h (by simp[e])
  have hw:c∉w:=λe=>h (by simp[e])
  rw[Lib.index,ou]
  simp[hx,q5 hw]
theorem tR{c:UInt8}:∀{w r:List UInt8},c∉w->Lib.index (w++c::r) [c]=w.length
 |[],r,_=>by rw[List.nil_append,Lib.index,ou];simp
 |x::w,r,h=>by
  have hx:¬x=c:=λe=>h (by simp[e])
  have hw:c∉w:=λe=>h (by simp[e])
  have ih:=tR (r:=r) hw
  rw[List.cons_append,Lib.index,ou,ih]
  have:¬((w.length:Int)== -1)=true:=by simp<;>omega
  simp[hx,this]<;>omega
theorem C8{c:UInt8}{w:List UInt8}(h:c∉w):Lib.cut w [c]=(w,[],false):=by
 unfold Lib.cut
 rw[q5 h];rfl
theorem C7{c:UInt8}{w r:List UInt8}(h:c∉w):Lib.cut (w++c::r) [c]=(w,r,true):=by
 unfold Lib.cut
 rw[tR h,if_pos (by omega)]
 simp
theorem Af{c:UInt8}{w:List UInt8}{ws:List (List UInt8)}(h:c∉w):Lib.cut (aU c (w::ws)) [c]=(w,aU c ws,!ws.isEmpty):=by
 cases ws with
 |nil=>exact C8 h
 |cons v ws=>exact C7 h
def gd(b:UInt8):Bool:=decide (48<=b)&&decide (b<=57)
def dJ(w:List UInt8):Nat:=w.foldl (λn b=>10*n+(b.toNat-48)) 0
def nk(w:List UInt8)(most:Nat):Bool:=decide (1<=w.length)&&decide (w.length<=most)&&(decide (w.length<=1)||decide (w.head?≠some 48))&&w.all gd
theorem dt{b:UInt8}:gd b=true↔48<=b.toNat/\b.toNat<=57:=by
 simp[gd,UInt8.le_iff_toNat_le]
theorem lU(w:List UInt8)(b:UInt8):dJ (w++[b])=10*dJ w+(b.toNat-48):=by simp[dJ]
theorem sn{α:Type}{P:List α->Prop}(h0:P [])(h1:∀w b,P w->P (w++[b]))(w:List α):P w:=by
 have:∀n,∀w:List α,w.length=n->P w:=by
  intro n
  induction n with
  |zero=>intro w h;rw[List.eq_nil_of_length_eq_zero h];exact h0
  |succ n ih=>
   intro w h
   have hne:w≠ []:=by rintro rfl;simp at h
   rw[<-List.dropLast_concat_getLast hne]
   exact h1 _ _ (ih _ (by simp[h]))
 exact this _ w rfl
theorem Dr:∀(w:List UInt8),w.all gd=true->dJ w<10^w.length:=
 sn (λ_=>by decide) λw b ih h=>by
  rw[List.all_append,Bool.and_eq_true]at h
  have h1:=ih h.1
  have h2:=dt.1 (by simpa using h.2)
  rw[lU,List.length_append,List.length_singleton,Nat.pow_succ]
  omega
theorem Cs:∀(w:List UInt8),w.all gd=true->w≠ []->w.head?≠some 48->1<=dJ w:=
 sn (λ_ h=>absurd rfl h) λw b ih h _ hh=>by
  rw[List.all_append,Bool.and_eq_true]at h
  have h2:=dt.1 (by simpa using h.2)
  rw[lU]
  by_cases hw:w=[]
  ·subst hw
   have:b≠48:=by simpa using hh
   have:b.toNat≠48:=λe=>this (UInt8.toNat_inj.1 e)
   omega
  ·have h3:w.head?≠some 48:=by
    intro e;apply hh
    cases w with
    |nil=>exact absurd rfl hw
    |cons x r=>simpa using e
   have:=ih h.1 hw h3
   omega
theorem tX{b:UInt8}(h:48<=b.toNat):UInt8.ofNat (48+(b.toNat-48))=b:=by
 rw[show 48+(b.toNat-48)=b.toNat by omega];simp
theorem BR:∀(w:List UInt8),w.all gd=true->w≠ []->(w.length<=1\/w.head?≠some 48)->Lib.decDigits (dJ w)=w:=
 sn (λ_ h=>absurd rfl h) λw b ih h _ hh=>by
  rw[List.all_append,Bool.and_eq_true]at h
  have h2:=dt.1 (by simpa using h.2)
  rw[lU]
  by_cases hw:w=[]
  ·subst hw
   have e:dJ []=0:=rfl
   rw[e,Nat.mul_zero,Nat.zero_add,Lib.decDigits,dif_pos (by omega),tX h2.1];rfl
  ·have hl:1<=w.length:=List.length_pos_iff.2 hw
   have h3:w.head?≠some 48:=by
    rcases hh with hh|hh
    ·rw[List.length_append,List.length_singleton]at hh;omega
    ·intro e;apply hh
     cases w with
     |nil=>exact absurd rfl hw
     |cons x r=>simpa using e
   have h4:=Cs w h.1 hw h3
   have h5:=ih h.1 hw (.inr h3)
   rw[Lib.decDigits,dif_neg (by omega),show(10*dJ w+(b.toNat-48))/10=dJ w by omega,show(10*dJ w+(b.toNat-48)) % 10=b.toNat-48 by omega,h5,tX h2.1]
theorem hI{d:Nat}(h:d<10):(UInt8.ofNat (48+d)).toNat=48+d:=by
 rw[UInt8.toNat_ofNat'];omega
theorem dR:∀u:Nat,(Lib.decDigits u).all gd=true/\dJ (Lib.decDigits u)=u/\Lib.decDigits u≠ []/\((Lib.decDigits u).length<=1\/(Lib.decDigits u).head?≠some 48)/\(1<=u->(Lib.decDigits u).head?≠some 48):=by
 intro u
 induction u using Nat.strongRecOn with
 |_ u ih=>
  by_cases h:u<10
  ·rw[Lib.decDigits,dif_pos h]
   refine⟨?_,?_,by simp,.inl (by simp),λh1=>?_⟩
   ·simp only[List.all_cons,List.all_nil,Bool.and_true];rw[dt,hI h];omega
   ·simp only[dJ,List.foldl_cons,List.foldl_nil,hI h];omega
   ·simp only[List.head?_cons]
    intro e
    injection e with e
    have:=congrArg UInt8.toNat e
    rw[hI h]at this
    simp at this
    omega
  ·obtain⟨h1,h2,h3,h4,h5⟩:=ih (u/10) (by omega)
   have hd:u % 10<10:=by omega
   have hh:(Lib.decDigits (u/10)).head?≠some 48:=h5 (by omega)
   have hh2:(Lib.decDigits (u/10)++[UInt8.ofNat (48+u % 10)]).head?≠some 48:=by
    cases e:Lib.decDigits (u/10)with
    |nil=>exact absurd e h3
    |cons x r=>rw[e]at hh;simpa using hh
   rw[Lib.decDigits,dif_neg h]
   refine⟨?_,?_,by simp,.inr hh2,λ_=>hh2⟩
   ·rw[List.all_append,h1];simp only[List.all_cons,List.all_nil,Bool.and_true,Bool.true_and];rw[dt,hI hd];omega
   ·rw[lU,h2,hI hd];omega
theorem mj{k:Nat}:∀{u:Nat},1<=k->u<10^k->(Lib.decDigits u).length<=k:=by
 induction k with
 |zero=>intro u h;omega
 |succ k ih=>
  intro u _ h
  rw[Lib.decDigits]
  split
  ·simp
  ·rename_i h10
   rw[List.length_append,List.length_singleton]
   rcases Nat.eq_zero_or_pos k with hk|hk
   ·subst hk;simp at h;omega
   ·have:=ih (u:=u/10) hk (by rw[Nat.pow_succ]at h;omega)
    omega
def lh(w:List UInt8):Option Nat:=if nk w 10&&decide (dJ w<=1000000000)then some (dJ w)else none
theorem dF{w:List UInt8}{m:Nat}:nk w m=true↔w≠ []/\w.length<=m/\(w.length<=1\/w.head?≠some 48)/\w.all gd=true:=by
 simp only[nk,Bool.and_eq_true,Bool.or_eq_true,decide_eq_true_eq,<-List.length_pos_iff]
 constructor
 ·rintro⟨⟨⟨a,b⟩,c⟩,d⟩;exact⟨a,b,c,d⟩
 ·rintro⟨a,b,c,d⟩;exact⟨⟨⟨a,b⟩,c⟩,d⟩
theorem tW{w:List UInt8}{n:Nat}:lh w=some n↔w=Lib.decDigits n/\n<=1000000000:=by
 unfold lh
 constructor
 ·intro h
  split at h
  ·rename_i hc
   injection h with h
   subst h
   rw[Bool.and_eq_true,decide_eq_true_eq,dF]at hc
   obtain⟨⟨h1,_,h3,h4⟩,h5⟩:=hc
   exact⟨(BR w h4 h1 h3).symm,h5⟩
  ·cases h
 ·rintro⟨rfl,h⟩
  obtain⟨h1,h2,h3,h4,_⟩:=dR n
  have hl:=mj (k:=10) (u:=n) (by omega) (by omega)
  rw[if_pos,h2]
  rw[Bool.and_eq_true,decide_eq_true_eq,dF]
  exact⟨⟨h3,hl,h4,h1⟩,by rw[h2];exact h⟩
theorem AI{n:Nat}(h:n<=1000000000):lh (Lib.decDigits n)=some n:=tW.2 ⟨rfl,h⟩
theorem yR{w:List UInt8}(h:nk w 10=true):lh w=if dJ w<=1000000000 then some (dJ w)else none:=by
 unfold lh;rw[h];by_cases h2:dJ w<=1000000000<;>simp[h2]
theorem ry{w:List UInt8}{k:Nat}(h:nk w k=true):dJ w<10^k:=by
 obtain⟨_,h2,_,h4⟩:=dF.1 h
 exact Nat.lt_of_lt_of_le (Dr w h4) (Nat.pow_le_pow_right (by omega) h2)
theorem rG(M:Nat):∀(w:List UInt8) (acc:Nat),w.all gd=true->(acc+1)*10^w.length<=1000000000000->1000000000000<=M->Lib.parseUintM M acc w= .ok (w.foldl (λn b=>10*n+(b.toNat-48)) acc)
 |[],acc,_,_,_=>rfl
 |b::r,acc,h,hb,hM=>by
  rw[List.all_cons,Bool.and_eq_true]at h
  have hd:=dt.1 h.1
  have hp:1<=10^r.length:=Nat.one_le_pow _ _ (by omega)
  have hb':(acc+1)*10*10^r.length<=1000000000000:=by
   rw[List.length_cons,Nat.pow_succ,Nat.mul_comm (10^r.length) 10,<-Nat.mul_assoc]at hb;exact hb
  have h1:(acc+1)*10<=1000000000000:=Nat.le_trans (Nat.le_mul_of_pos_right _ hp) hb'
  have h2:(acc*10+(b.toNat-48)+1)*10^r.length<=1000000000000:=Nat.le_trans (Nat.mul_le_mul_right _ (by omega)) hb'
  rw[Lib.parseUintM,if_pos hd,if_neg (by omega),if_neg (by omega),rG M r _ h.2 h2 hM,List.foldl_cons,Nat.mul_comm acc 10]
theorem vC{w:List UInt8}(h:nk w 10=true):Lib.parseIntB 64 w= .ok (dJ w:Int):=by
 obtain⟨h1,h2,_,h4⟩:=dF.1 h
 have hlt:=ry h
 cases w with
 |nil=>exact absurd rfl h1
 |cons c r=>
  have hc:gd c=true:=by rw[List.all_cons,Bool.and_eq_true]at h4;exact h4.1
  have hd:=dt.1 hc
  have hp:Lib.parseUintB 64 (c::r)= .ok (dJ (c::r)):=by
   unfold Lib.parseUintB
   rw[if_neg (by simp)]
   refine rG _ _ 0 h4 ?_ (by decide)
   have:10^(c::r).length<=10^10:=Nat.pow_le_pow_right (by omega) h2
   omega
  unfold Lib.parseIntB
  simp only
  rw[if_neg (by omega),hp]
  simp only
  have h45:¬c.toNat=45:=by omega
  have h63:¬(2^(64-1)<=dJ (c::r)):=by omega
  simp[h45]
  omega
end Go.Proofs.YtnlhpdbijmnkhaaGreatDoor
