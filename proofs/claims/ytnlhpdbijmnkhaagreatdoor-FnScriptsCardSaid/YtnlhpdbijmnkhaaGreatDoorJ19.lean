/- J19 -/
import Derived.Test.YtnlhpdbijmnkhaaGreatDoorJ18
import Derived.Test.YtnlhpdbijmnkhaaGreatDoorAvJT
import Derived.Test.YtnlhpdbijmnkhaaGreatDoorJ03
import Derived.Test.YtnlhpdbijmnkhaaGreatDoorAvJ5
import Derived.Test.YtnlhpdbijmnkhaaGreatDoorAvJ6
import Derived.Test.YtnlhpdbijmnkhaaGreatDoorJ15
set_option linter.unusedVariables false
set_option linter.unusedSimpArgs false
set_option maxRecDepth 100000
namespace Go.Proofs.YtnlhpdbijmnkhaaGreatDoor
open Go.Proofs.Tryz
open Go.RowKit
theorem it{x:Int}(h:0<=x):(10:UInt8)∉Lib.itoa x:=by
 obtain⟨n,rfl⟩:=Int.eq_ofNat_of_zero_le h
 rw[im]
 intro hm
 have:=dt.1 (List.all_eq_true.1 (dR n).1 _ hm)
 simp at this
theorem fW{c:Int}(h:0<=c/\c<=5):(10:UInt8)∉bA c:=by
 have:c=0\/c=1\/c=2\/c=3\/c=4\/c=5:=by omega
 rcases this with rfl|rfl|rfl|rfl|rfl|rfl<;>decide
theorem eX{k:Int}(h:1<=k/\k<=11):(10:UInt8)∉ay k:=by
 rcases cq h.1 h.2 with rfl|rfl|rfl|rfl|rfl|rfl|rfl|rfl|rfl|rfl|rfl<;>decide
theorem AH{f:List Int}(h:bL f=true):(10:UInt8)∉fr f:=by
 intro hm
 obtain⟨x,hx,he⟩:=List.mem_map.1 hm
 have:=(eW h).2 x hx
 have:x=0\/x=1\/x=2:=by omega
 rcases this with rfl|rfl|rfl<;>exact absurd he Ix
theorem su{x:DStep}(h:ar x=true):∀w∈au x,(10:UInt8)∉w:=by
 have hF:=iF h
 cases hF with
 |num k a hk ha=>
  rw[mY a hk]
  intro w hw
  simp only[List.mem_cons,List.not_mem_nil,or_false]at hw
  rcases hw with rfl|rfl
  ·exact eX Iv
  ·exact it ha.1
 |node k a hk ha=>
  rw[fS a hk]
  intro w hw
  simp only[List.mem_cons,List.not_mem_nil,or_false]at hw
  rcases hw with rfl|rfl
  ·exact eX Iv
  ·exact fW ha
 |time k a b hk ha hb=>
  rw[jt a b hk]
  intro w hw
  simp only[List.mem_cons,List.not_mem_nil,or_false]at hw
  rcases hw with rfl|rfl|rfl
  ·exact eX Iv
  ·exact fW ha
  ·exact it hb.1
 |cut k a b hk ha hb=>
  rw[mX a b hk]
  intro w hw
  simp only[List.mem_cons,List.not_mem_nil,or_false]at hw
  rcases hw with rfl|rfl|rfl
  ·exact eX Iv
  ·exact fW ha
  ·exact fW hb
 |rot a b c ha hb hc=>
  rw[mZ a b c]
  intro w hw
  simp only[List.mem_cons,List.not_mem_nil,or_false]at hw
  rcases hw with rfl|rfl|rfl|rfl
  ·exact eX Iv
  ·exact it ha.1
  ·exact it hb.1
  ·exact it hc.1
 |fall a f ha hf=>
  rw[gO a f]
  intro w hw
  split at hw
  ·simp only[List.mem_cons,List.not_mem_nil,or_false]at hw
   rcases hw with rfl|rfl
   ·exact eX Iv
   ·exact fW ha
  ·simp only[List.mem_cons,List.not_mem_nil,or_false]at hw
   rcases hw with rfl|rfl|rfl
   ·exact eX Iv
   ·exact fW ha
   ·exact AH hf
theorem wN{c d:UInt8}(hcd:c≠d):∀{ws:List (List UInt8)},(∀w∈ws,d∉w)->d∉aU c ws
 |[],_=>by simp[aU]
 |[w],h=>by simpa[aU]using h w Iy
 |w::v::r,h=>by
  have h1:=h w Iy
  have h2:=wN hcd (ws:=v::r) (λx hx=>h x (by simp only[List.mem_cons]at hx⊢;exact .inr hx))
  simp only[aU,List.mem_append,List.mem_cons]
  rintro(h3|h3|h3)
  ·exact h1 h3
  ·exact hcd h3.symm
  ·exact h2 h3
theorem ss{x:DStep}(h:ar x=true):(10:UInt8)∉ap x:=by
 rw[dp h]
 exact wN Ix (su h)
theorem sW{x:DStep}(h:ar x=true):(ap x).length<=160:=by rw[dp h];exact mw h
theorem sr{x:DStep}(h:ar x=true):aq (ap x)=(x,true):=by
 refine eE h ?_
 rw[dp h,m0 (nQ x) (nR h)]
def bC(l:List DStep):List UInt8:=l.flatMap dA
theorem sc{l:List DStep}(hn:l.length<=600)(h:∀x∈l,ar x=true):cN l=bC l:=by
 have:fy l=true:=by simp only[fy,Bool.and_eq_true,decide_eq_true_eq,List.all_eq_true];exact⟨hn,h⟩
 unfold cN
 rw[this];rfl
theorem yI(a b:List DStep):bC (a++b)=bC a++bC b:=by simp[bC]
theorem dY:∀{l:List DStep},(∀x∈l,ar x=true)->(bC l).length<=161*l.length
 |[],_=>by simp[bC]
 |x::r,h=>by
  have h1:=dY (l:=r) λy hy=>h y (by simp[hy])
  have h2:=sW (h x Iy)
  have e:bC (x::r)=dA x++bC r:=rfl
  rw[e,List.length_append]
  simp only[dA,List.length_append,List.length_cons,List.length_nil]
  omega
theorem et:∀{l:List DStep} (t:List UInt8),(∀x∈l,ar x=true)->aQ 10 (bC l++t)=l.map ap++aQ 10 t
 |[],t,_=>rfl
 |x::r,t,h=>by
  have h1:=et (l:=r) t λy hy=>h y (by simp[hy])
  have e:bC (x::r)++t=ap x++10::(bC r++t):=by
   have:bC (x::r)=dA x++bC r:=rfl
   rw[this]
   simp[dA]
  rw[e,iH (ss (h x Iy)),h1]
  rfl
theorem jo:∀{l:List DStep} (ws:List (List UInt8)) (out:List DStep),ws≠ []->(∀x∈l,ar x=true)->out.length+l.length<=600->go (l.map ap++ws) out=go ws (out++l)
 |[],ws,out,_,_,_=>by simp
 |x::r,ws,out,hne,h,hn=>by
  simp only[List.length_cons]at hn
  have h1:=jo (l:=r) ws (out++[x]) hne (λy hy=>h y (by simp[hy])) IB
  have hb:=sr (h x Iy)
  obtain⟨v,s,e⟩:∃v s,r.map ap++ws=v::s:=by
   cases hh:r.map ap++ws with
   |nil=>exact absurd (List.append_eq_nil_iff.1 hh).2 hne
   |cons v s=>exact⟨v,s,rfl⟩
  show go (ap x::(r.map ap++ws)) out=_
  rw[e]
  conv=>lhs;unfold go
  rw[hb,if_neg IB,<-e,h1]
  simp
theorem py{l:List DStep}(hn:l.length<=100)(h:∀x∈l,ar x=true):bv (bC l)=(l,-1):=by
 have hlen:=dY h
 have e:=et (l:=l) [] h
 rw[List.append_nil]at e
 unfold bv
 rw[if_neg Iv,e,jo _ _ (oF 10 []) h IB]
 simp[aQ,go]
theorem sA{a:List DStep}{w t:List UInt8}(hn:a.length<=100)(h:∀x∈a,ar x=true)(hw:(10:UInt8)∉w)(hb:(aq w).2=false)(ht:w.length+t.length<=3000):bv (bC a++(w++10::t))=([],(a.length:Int)):=by
 have hlen:=dY h
 obtain⟨v,s,e⟩:=eJ (c:=10) (s:=t)
 unfold bv
 rw[if_neg IB,et _ h,iH hw,jo _ _ Iy h IB,e]
 unfold go
 rw[if_pos (.inl hb)]
 simp
theorem pz{a:List DStep}{w:List UInt8}(hn:a.length<=100)(h:∀x∈a,ar x=true)(hw:(10:UInt8)∉w)(hne:w≠ [])(hb:(aq w).2=true)(ht:w.length<=1000):bv (bC a++w)=([],-3):=by
 have hlen:=dY h
 unfold bv
 rw[if_neg IB,et _ h,l5 hw,jo _ _ Iy h IB]
 unfold go
 rw[if_neg hne,if_neg (by rw[hb];simp;omega)]
def gA:List UInt8:=[104,97,110,100,32,108,111,103]
def nT:List UInt8:=[116,105,99,107,32,97,110,110]
theorem yB:(aq gA).2=false:=by
 cases hh:(aq gA).2 with
 |false=>rfl
 |true=>
  obtain⟨x,_,ok,hw⟩:=lw hh
  have e:aQ 32 gA=[[104,97,110,100],[108,111,103]]:=by decide
  rw[e]at hw
  exfalso
  have hF:=iF ok
  cases hF with
  |num k a hk ha=>
   rw[mY a hk]at hw
   injection hw with _ hw
   injection hw with hw _
   obtain⟨n,rfl⟩:=Int.eq_ofNat_of_zero_le ha.1
   rw[im]at hw
   have:=List.all_eq_true.1 (dR n).1 108 (by rw[<-hw];simp)
   exact absurd this Ix
  |node k a hk ha=>
   rw[fS a hk]at hw
   injection hw with hw _
   rcases hk with rfl|rfl<;>exact absurd hw Ix
  |time k a b hk ha hb=>rw[jt a b hk]at hw;simp at hw
  |cut k a b hk ha hb=>rw[mX a b hk]at hw;simp at hw
  |rot a b c ha hb hc=>rw[mZ a b c]at hw;simp at hw
  |fall a f ha hf=>
   rw[gO a f]at hw
   injection hw with hw _
   exact absurd hw Ix
theorem xM:∃k,(k=2\/k=6)/\aq nT=(⟨k,4,0,0,[]⟩,true):=by
 have e:aQ 32 nT=[[116,105,99,107],[97,110,110]]:=by decide
 have h2:ar ⟨2,4,0,0,[]⟩=true:=by decide
 have h6:ar ⟨6,4,0,0,[]⟩=true:=by decide
 by_cases hk:ay 2=[116,105,99,107]
 ·exact⟨2,.inl rfl,eE h2 (by rw[e,fS 4 (.inl rfl),hk];rfl)⟩
 ·exact⟨6,.inr rfl,eE h6 (by rw[e,fS 4 (.inr rfl)];first|rfl|exact absurd rfl hk)⟩
end Go.Proofs.YtnlhpdbijmnkhaaGreatDoor
namespace Go.Proofs.YtnlhpdbijmnkhaaGreatDoor
open Go.Proofs.Tryz
open Go.RowKit
theorem Ai:am Rep.DStep DStep.ds:=
 am.via (f:=λx:DStep=>(x.kind,x.a,x.b,x.c,x.fates)) (am.pair am.int (am.pair am.int (am.pair am.int (am.pair am.int (am.sl am.int)))))
def Ft(y:List DStep×Int):AP:= .tup [.one (.sl (y.1.map DStep.ds)),.one (dI y.2)]
theorem sM(l:List UInt8)(hl:l.length<=2000000):an av 8 [pL l] (Ft (bv l)):=by
 refine⟨call8,λZ w us hz hg hul hr=>?_⟩
 obtain⟨w1,hw1,hb1,hz1⟩:=hg
 match us,hul,hr with
 |[],hul,_=>simp at hul
 |a::b::r,hul,_=>simp at hul
 |[a],hul,hr=>
  have ha:a= .string ⟨l.toArray⟩:=lW rfl (show bj Z w (dL l) a from hr 0 _ a rfl rfl)
  subst ha
  have hW:uD w1:=hw1
  refine(np l hl w (hW.below hb1)).mono ?_
  rintro e w' ⟨A,cap,F,rfl,hrd,hf,hbl⟩
  refine⟨_,λb=>Z b\/(w.heap.size<=b/\b<w'.heap.size),rfl,hbl,λb h=> .inl h,λb h=>h,[.slice A (bv l).1.length cap,.int .i64 (bv l).2],rfl,rfl,λi p u hp hu=>?_⟩
  match i,hp,hu with
  |0,hp,hu=>
   injection hp with hp
   injection hu with hu
   subst hp hu
   have hzz:∀b∈F,Z b\/(w.heap.size<=b/\b<w'.heap.size):=λb hb=> .inr ⟨(hf.2 b hb).1,hf.lt b hb⟩
   have:=am.sl Ai hzz hrd
   exact this.2 0 _ _ rfl rfl
  |1,hp,hu=>
   injection hp with hp
   injection hu with hu
   subst hp hu
   exact .pv _ rfl
  |n+2,hp,hu=>simp at hp
end Go.Proofs.YtnlhpdbijmnkhaaGreatDoor
namespace Go.Proofs.YtnlhpdbijmnkhaaGreatDoor
open Go.Proofs.Tryz
open Go.ChangeShapes Go.WideShapes Go.RowKit
theorem uw(a b:ByteArray):cD (a++b)=cD a++cD b:=by simp[cD]
theorem zP(a:List UInt8):((⟨a.toArray⟩:ByteArray)++⟨#[10]⟩).size=a.length+1:=by
 rw[ByteArray.size_append]
 simp[ByteArray.size]
def Hl(l:List DStep):Nat->List (Nat×AO)
 |0=>[(3,qL)]
 |k+1=>[(3,qM 3 900),(900,we (eV ((l.take (k+1)).flatMap dA)))]
theorem sL(l:List DStep):an av 7 [.one (BQ l)] (rL (cN l)):=by
 refine ai aj func7 rfl call7 ntmps7 (IG results7) λS=>?_;conv=>whnf
 repeat'((first|refine aw0 ?_|refine aw1 ?_|refine aw2 ?_|refine aw3 ?_|refine aw4 ?_|refine aw5 ?_|refine aw6 ?_|refine aw7 ?_|refine aw8 ?_|refine bT ?_|refine bF ?_|exact rr|refine And.intro rfl ?_|refine AB.mk (λh=>?_) (λh=>?_))<;>conv=>whnf)
 ·have h6:¬l.length<=600:=ari
  simp[cN,fy,h6]
 ·have h6:l.length<=600:=ari
  clear h
  refine AWP.loopS (λk:Nat=>k<=l.length/\∀(j:Nat) (hj:j<k) (hl:j<l.length),ar l[j]=true) [2,5,6,12,13,14,15,16,17,18,19,20,21,22,23] (λk=>[(12,vI .i64 (k:Int))]) (λk=>Hl l k) (λk=>l.length-k) 0 ⟨by omega,by omega⟩ ?_ (ae.cons rfl ae.nil) (λk hR=>?_)<;>(conv=>whnf)
  ·repeat'(first|exact trivial|(refine And.intro rfl ?_;conv=>whnf))
  ·obtain⟨hk,hall⟩:=hR
   have hln:=Aw (l.take k)
   have hlk:(l.take k).length<=k:=List.length_take_le _ _
   have no:∀(j:Nat) (hj:j<l.length),((⟨(ap l[j]).toArray⟩:ByteArray).toList==(⟨#[]⟩:ByteArray).toList)=true->AP.val (AP1.one (dL []))=rL (cN l):=by
    intro j hj h
    rw[uy]at h
    have h0:ar l[j]=false:=fH.1 (by simpa using h)
    simp[cN,xA hj h0]
   have yes:∀(j:Nat) (hj:j<l.length),((⟨(ap l[j]).toArray⟩:ByteArray).toList==(⟨#[]⟩:ByteArray).toList)=false->ar l[j]=true:=by
    intro j hj h
    rw[uy]at h
    cases hs:ar l[j]
    ·have:=fH.2 hs
     simp[this]at h
    ·rfl
   have nxt:∀(k:Nat) (hlt:k<l.length),(∀(j:Nat) (hj:j<k) (hl:j<l.length),ar l[j]=true)->ar l[k]=true->∀(j:Nat) (hj:j<k+1) (hl:j<l.length),ar l[j]=true:=by
    intro k hlt hall h0 j hj hl
    by_cases hjk:j=k
    ·subst hjk;exact h0
    ·exact hall j Iv hl
   have fin:∀k,k=l.length->(∀(j:Nat) (hj:j<k) (hl:j<l.length),ar l[j]=true)->cN l=(l.take k).flatMap dA:=by
    rintro k rfl hall
    simp[cN,vE h6 λj hj=>hall j hj hj]
   have hrow0:∀(hlt:0<l.length),cD (⟨(ap l[0]).toArray⟩++⟨#[10]⟩)=eV ((l.take 1).flatMap dA):=by
    intro hlt
    rw[oE hlt,uw]
    simp[sw,dA,mE]
   have hrow:∀(k:Nat) (hlt:k<l.length),eV ((l.take k).flatMap dA)++cD (⟨(ap l[k]).toArray⟩++⟨#[10]⟩)=eV ((l.take (k+1)).flatMap dA):=by
    intro k hlt
    rw[oE hlt,uw,sw,dA,mE,mE];rfl
   cases k with
   |zero=>
    repeat'((first|refine aw0 ?_|refine aw1 ?_|refine aw2 ?_|refine aw3 ?_|refine aw4 ?_|refine aw5 ?_|refine aw6 ?_|refine aw7 ?_|refine aw8 ?_|refine bT ?_|refine bF ?_|(refine AIx.mapF ari (λhlt=>?_);have hsl:=gW l[0])|refine aa.pure (kX l[0]) rfl ?_|refine ci (by simp<;>omega) ?_|refine aa.meth (sD _ (by rw[zP];omega)) [(1000,3),(14,900)] rfl rfl ?_|refine aa.meth A9 [(1000,3)] rfl rfl ?_|refine AW.i64 ari ari ?_|exact rr|refine And.intro rfl ?_|refine AB.mk (λh=>?_) (λh=>?_))<;>conv=>whnf)
    ·exact no 0 hlt h
    ·refine aN.mk ⟨1,⟨hlt,nxt 0 hlt hall (yes 0 hlt h)⟩,by omega,?_,ae.cons rfl (ae.cons (congrArg some (congrArg (AO.row 5 1) (hrow0 hlt))) ae.nil)⟩
     exact hds
    ·have:0=l.length:=ari
     rw[fin 0 this hall];rfl
   |succ k=>
    have hne:(l.take (k+1)).flatMap dA≠ []:=by
     have hlt:k<l.length:=by omega
     rw[oE hlt]
     simp[dA]
    repeat'((first|refine aw0 ?_|refine aw1 ?_|refine aw2 ?_|refine aw3 ?_|refine aw4 ?_|refine aw5 ?_|refine aw6 ?_|refine aw7 ?_|refine aw8 ?_|refine bT ?_|refine bF ?_|(refine AIx.mapF ari (λhlt=>?_);have hsl:=gW l[k+1])|refine aa.pure (kX l[k+1]) rfl ?_|refine ci (by simp<;>omega) ?_|refine aa.meth (sE (eV ((l.take (k+1)).flatMap dA)) _ (by rw[yi,zP];omega)) [(1000,3),(1001,900)] rfl rfl ?_|refine aa.meth (Ba ((l.take (k+1)).flatMap dA) hne) [(1000,3),(1001,900)] rfl rfl ?_|refine AW.i64 ari ari ?_|exact rr|refine And.intro rfl ?_|refine AB.mk (λh=>?_) (λh=>?_))<;>conv=>whnf)
    ·exact no (k+1) hlt h
    ·refine aN.mk ⟨k+2,⟨hlt,nxt (k+1) hlt hall (yes (k+1) hlt h)⟩,by omega,?_,ae.cons rfl (ae.cons (congrArg some (congrArg (AO.row 5 1) (hrow (k+1) hlt))) ae.nil)⟩
     exact hds
    ·have:k+1=l.length:=ari
     rw[fin (k+1) this hall]
end Go.Proofs.YtnlhpdbijmnkhaaGreatDoor
namespace Go.Proofs.YtnlhpdbijmnkhaaGreatDoor
open Go.Proofs.Tryz
open Go.RowKit
theorem Dl(l:List UInt8)(hl:l.length<=2000000):an av 9 [pL l] (.val (.one (dSs (aQ 10 l).dropLast))):=by
 refine ai aj func9 rfl call9 ntmps9 (IG results9) λS=>?_;conv=>whnf
 repeat'((first|refine aw0 ?_|refine aw1 ?_|refine aw2 ?_|refine aw3 ?_|refine aw4 ?_|refine aw5 ?_|refine aw6 ?_|refine aw7 ?_|refine aw8 ?_|refine bT ?_|refine bF ?_|exact rr|refine And.intro rfl ?_|refine AB.mk (λh=>?_) (λh=>?_))<;>conv=>whnf)
 refine AWP.loopS (λs:Nat×Nat×List (List UInt8)=>s.1<=l.length/\s.2.2.length<=s.1/\s.2.1<=s.1/\(10:UInt8)∉(l.take s.1).drop s.2.1/\s.2.2++aQ 10 (l.drop s.2.1)=aQ 10 l) (6::[3,4,5,7,8,9,10,11,12,13,14,15,16,17,18,19,20,21,22,23,24,25]) (λs=>[(3,.one (.own 6)),(4,vI .i64 (s.2.1:Int)),(5,vI .i64 (s.1:Int))]) (λs=>[(6,.row 9 1 (s.2.2.map eS))]) (λs=>l.length-s.1) (0,0,[]) ⟨by simp,by simp,by simp,by simp,by simp⟩ ?_ (ae.cons rfl ae.nil) (λs hR=>?_)<;>(conv=>whnf)
 ·repeat'(first|exact trivial|(refine And.intro rfl ?_;conv=>whnf))
 ·obtain⟨i,f,d⟩:=s
  obtain⟨hi,hd,hf,a2,a3⟩:=hR
  simp only at hi hd hf a2 a3
  repeat'(first|((first|refine aw0 ?_|refine aw1 ?_|refine aw2 ?_|refine aw3 ?_|refine aw4 ?_|refine aw5 ?_|refine aw6 ?_|refine aw7 ?_|refine aw8 ?_|refine bT ?_|refine bF ?_)<;>conv=>whnf)|(have hlt:i<l.length:=(by simp only[cO,decide_eq_true_eq,decide_eq_false_iff_not,beq_iff_eq,beq_eq_false_iff_ne,List.length_map,Bool.not_eq_true',Bool.not_eq_false',ne_eq]at*;omega);refine⟨i,l[i]'hlt,rfl,DR hlt,?_⟩;conv=>whnf)|((first|refine⟨f,i,rfl,rfl,hf,(by rw[cO];exact hi),?_⟩|refine AW.i64 (by simp only[cO,decide_eq_true_eq,decide_eq_false_iff_not,beq_iff_eq,beq_eq_false_iff_ne,List.length_map,Bool.not_eq_true',Bool.not_eq_false',ne_eq]at*;omega) (by simp only[cO,decide_eq_true_eq,decide_eq_false_iff_not,beq_iff_eq,beq_eq_false_iff_ne,List.length_map,Bool.not_eq_true',Bool.not_eq_false',ne_eq]at*;omega) ?_|refine all_len (by simp[eS]) ?_|refine za IC ?_|exact rr|refine And.intro rfl ?_|refine AB.mk (λh=>?_) (λh=>?_))<;>conv=>whnf))
  all_goals try simp only[cO,decide_eq_true_eq,decide_eq_false_iff_not,beq_iff_eq,beq_eq_false_iff_ne,ne_eq]at*
  ·have hlt2:i<l.length:=by omega
   have hc:l[i]=10:=UInt8.toNat_inj.1 (by have:=h;simp at this⊢;omega)
   have hrow:d.map eS++[[AD.pv (.string ((⟨l.toArray⟩:ByteArray).extract f i))]]=(d++[(l.take i).drop f]).map eS:=by rw[yv];simp[eS]
   have hw:aQ 10 (l.drop f)=(l.take i).drop f::aQ 10 (l.drop (i+1)):=by
    rw[sx hf hlt2,hc,iH a2]
   refine aN.mk ⟨(i+1,i+1,d++[(l.take i).drop f]),⟨by simp only;omega,by simp;omega,Nat.le_refl _,?_,?_⟩,by simp only;omega,?_,ae.cons (congrArg some (congrArg (AO.row 9 1) hrow)) ae.nil⟩
   ·rw[List.drop_eq_nil_of_le (by simp<;>omega)];simp
   ·rw[<-a3,hw];simp
   ·exact hds
  ·have hlt2:i<l.length:=by omega
   have hc:l[i]≠10:=λe=>h (by rw[e];rfl)
   refine aN.mk ⟨(i+1,f,d),⟨by simp only;omega,by simp only;omega,by simp only;omega,?_,a3⟩,by simp only;omega,?_,ae.cons rfl ae.nil⟩
   ·simp only
    rw[<-List.take_append_getElem hlt2,List.drop_append_of_le_length (by rw[List.length_take];omega)]
    simp only[List.mem_append,List.mem_singleton,not_or]
    exact⟨a2,λe=>hc e.symm⟩
   ·exact hds
  ·have hie:i=l.length:=by omega
   subst hie
   rw[List.take_length]at a2
   rw[l5 a2]at a3
   rw[<-a3]
   simp
theorem Cg{l:List DStep}(h:∀x∈l,ar x=true):(aQ 10 (bC l)).dropLast=l.map ap:=by
 have e:=et (l:=l) [] h
 rw[List.append_nil]at e
 rw[e]
 simp[aQ]
end Go.Proofs.YtnlhpdbijmnkhaaGreatDoor
namespace Go.Proofs.YtnlhpdbijmnkhaaGreatDoor
open Go.Proofs.Tryz
open Go.RowKit
def gS:List (List Nat):=cX [0,0,66,12417,1052803,0,0,391,33222,2560152780415044,90925286754906505,12845986334007107781,891262933890372493899,891262933890372493899,3981626073771637931266830,294430477903931187880563405,20061864697287469225987064719,891262933890372493899,891262933890372493899,5492783348289924399649555,392655700747619808325440210,26348278959283540934459180244,1466433167790677031027845303659039634581,65763596975436866754492588170545347224529]
def gT:List (List Nat):=dQ 22 [19446,19442,19444,19453,19480,1700,728,1214,3401,9841,29524,88573,31255373812,31253248048,31254310930,31259093899,31273442806,903715420,387154768,645435094,1807696561,5294480962]
theorem E1(x y:List UInt8):(⟨x.toArray⟩:ByteArray)++⟨y.toArray⟩=⟨(x++y).toArray⟩:=by
 apply ByteArray.ext
 simp
theorem E2(b:List Int):an av 4 [.one (.sl (b.map eU))] (rB (decide ((b.length:Int)>4096))):=by
 have e:((b.map eU).length:Int)=b.length:=by simp
 refine ai aj func4 rfl call4 ntmps4 (IG results4) λS=>?_;conv=>whnf
 repeat'((first|refine aw0 ?_|refine awx ?_|exact rr|refine And.intro rfl ?_|refine bf.mk ?_ ?_|refine AB.mk (λh=>?_) (λh=>?_))<;>conv=>whnf)
 rw[e]
theorem gU(s:ByteArray)(l:List UInt8)(e:s=⟨l.toArray⟩)(hl:l.length<=2000000)(r:List DStep×Int)(hr:bv l=r):an av 8 [.one (.pv (.string s))] (.tup [.one (.sl (r.1.map DStep.ds)),.one (dI r.2)]):=by
 subst e hr
 exact sM l hl
theorem Dk(s:ByteArray)(l:List UInt8)(e:s=⟨l.toArray⟩)(hl:l.length<=2000000)(r:List (List UInt8))(hr:(aQ 10 l).dropLast=r):an av 9 [.one (.pv (.string s))] (.val (.one (dSs r))):=by
 subst e hr
 exact Dl l hl
theorem oA(a:List DStep)(hn:a.length<=600)(h:∀x∈a,ar x=true):an av 7 [.one (BQ a)] (rL (bC a)):=by
 have:=sL a
 rwa[sc hn h]at this
set_option maxHeartbeats 8000000 in
theorem lawScripts_p(l:List Int)(hb:∀x∈l,0<=x/\x<=255):an av 3 [.one (.sl (l.map eU))] (rB true):=by
 have bp:=E2 l
 by_cases h:4096<l.length
 ·have hlt:decide ((l.length:Int)>4096)=true:=by simp;omega
  rw[hlt]at bp
  refine ai aj func3 rfl call3 ntmps3 (IG results3) λS=>?_;conv=>whnf
  repeat'((first|refine aw0 ?_|refine awx ?_|refine aa.pure bp rfl ?_|exact rr|refine And.intro rfl ?_|refine bf.mk ?_ ?_|refine AB.mk (λh=>?_) (λh=>?_))<;>conv=>whnf)
 ·have hlt:decide ((l.length:Int)>4096)=false:=by simp;omega
  rw[hlt]at bp
  have rm:=Fa l 939 Iv
  have hd:(zJ l 939).ok:=⟨by show l.length<=4096;omega,Nat.zero_le _,hb⟩
  generalize zJ l 939=d at rm hd
  obtain⟨x1,a,d1,hd1,ha1,ha2,w1⟩:=sB d hd
  obtain⟨x2,b,d2,hd2,hb1,hb2,w2⟩:=sB d1 hd1
  have hab:∀x∈a++b,ar x=true:=λx hx=>by
   rcases List.mem_append.1 hx with hx|hx
   ·exact ha2 x hx
   ·exact hb2 x hx
  have hL:=dY hab
  have hLa:=dY ha2
  have hLb:=dY hb2
  have hlen:(a++b).length=a.length+b.length:=by simp
  have sa:=oA a Iv ha2
  have sb:=oA b Iv hb2
  have sab:=oA (a++b) Iv hab
  have e1:(⟨(bC a).toArray⟩:ByteArray)++⟨(bC b).toArray⟩=⟨(bC (a++b)).toArray⟩:=by rw[E1,yI]
  have t1:=gU _ _ e1 Iv (a++b,-1) (py Iv hab)
  have ln:=Dk _ _ e1 Iv ((a++b).map ap) (Cg hab)
  have e2:((⟨(bC a).toArray⟩:ByteArray)++⟨#[104,97,110,100,32,108,111,103,10]⟩)++⟨(bC b).toArray⟩=⟨(bC a++(gA++10::bC b)).toArray⟩:=by
   apply ByteArray.ext
   simp[gA]
  have hhl:gA.length=8:=rfl
  have htl:nT.length=8:=rfl
  have t2:=gU _ _ e2 (by simp only[List.length_append,List.length_cons];omega) ([],(a.length:Int)) (sA Iv ha2 Ix yB (by simp only[gA,List.length_cons,List.length_nil];omega))
  have e3:((⟨(bC a).toArray⟩:ByteArray)++⟨(bC b).toArray⟩)++⟨#[116,105,99,107,32,97,110,110]⟩=⟨(bC (a++b)++nT).toArray⟩:=by
   rw[e1]
   apply ByteArray.ext
   simp[nT]
  obtain⟨kk,_,hk⟩:=xM
  have t3:=gU _ _ e3 (by simp only[List.length_append];omega) ([],-3) (pz Iv hab Ix Ix (by rw[hk]) Ix)
  have q1:(!(((⟨(bC a).toArray⟩:ByteArray)++⟨(bC b).toArray⟩).toList==(⟨(bC (a++b)).toArray⟩:ByteArray).toList))=false:=by rw[e1];simp
  have E0:([]++a.map DStep.ds++b.map DStep.ds)=(a++b).map DStep.ds:=by simp
  have sab2:an av 7 [.one (.sl ([]++a.map DStep.ds++b.map DStep.ds))] (rL (bC (a++b))):=by rw[E0];exact sab
  refine ai aj func3 rfl call3 ntmps3 (IG results3) λS=>?_;conv=>whnf
  repeat'((first|refine aw0 ?_|refine awx ?_|refine aa.pure bp rfl ?_|refine aa.meth rm [(15,901)] rfl rfl ?_|refine aa.upd w1 901 rfl rfl rfl ?_|refine aa.upd w2 901 rfl rfl rfl ?_|refine aa.pure sa rfl ?_|refine aa.pure sb rfl ?_|refine aa.scalar sab2 rfl rfl ?_|refine aa.pure t1 rfl ?_|refine aa.pure ln rfl ?_|refine AB.ofF q1 ?_|refine AB.ofF (by simp[hlen];done) ?_|refine ba (by first|(intro y hy;obtain⟨a,_,rfl⟩:=List.mem_map.1 hy;rfl)|(simp;done)) ?_|refine bo IA ?_|refine ci (by simp only[List.toList_toArray];omega) ?_|exact rr|refine And.intro rfl ?_|refine bf.mk ?_ ?_|refine AB.mk (λh=>?_) (λh=>?_))<;>conv=>whnf)
  refine AWP.loopS (λk:Nat=>k<=(a++b).length) [2,12,69,70,71,72,73,74,75,76,77,78,79,80,81,82,83,84,85,86,87,88,89,90,91,92,93,94,95,96,97,98] (λk=>[(12,vI .i64 (k:Int))]) (λk=>[(31,.row 81 5 ((a++b).map DStep.ds))]) (λk=>(a++b).length-k) 0 (Nat.zero_le _) ?_ (ae.cons (congrArg some (congrArg (AO.row 81 5) E0)) ae.nil) (λk hk=>?_)<;>(conv=>whnf)
  ·exact whd
  ·by_cases hlt:k<(a++b).length
   ·have hc:decide ((k:Int)<(((a++b).map DStep.ds).length:Int))=true:=by simp only[List.length_map,decide_eq_true_eq];omega
    have sp:=kX (a++b)[k]
    have q2:(!((⟨(ap (a++b)[k]).toArray⟩:ByteArray).toList==(⟨(ap (a++b)[k]).toArray⟩:ByteArray).toList))=false:=by simp
    repeat'((first|refine aw0 ?_|refine awx ?_|refine AB.ofT hc ?_|exact rr|refine And.intro rfl ?_|refine bf.mk ?_ ?_|refine AB.mk (λh=>?_) (λh=>?_))<;>conv=>whnf)
    (refine AWP.drawK aj 14 22 gS gT Iw Iw Iw rfl ?_;conv=>whnf)
    repeat'((first|refine aw0 ?_|refine awx ?_|refine AIx.map hlt ?_|refine cP (sp) ?_|refine AB.ofF q2 ?_|refine AB.ofF (by simp;done) ?_|refine AW.i64 Iv Iv ?_|exact rr|refine And.intro rfl ?_|refine bf.mk ?_ ?_|refine AB.mk (λh=>?_) (λh=>?_))<;>conv=>whnf)
    refine aN.mk ⟨k+1,hlt,by omega,?_,ae.cons rfl ae.nil⟩
    exact hds
   ·have hc:decide ((k:Int)<(((a++b).map DStep.ds).length:Int))=false:=by simp only[List.length_map,decide_eq_false_iff_not];omega
    have q3:(((a.length:Int))==((a.map DStep.ds).length:Int))=true:=by simp
    repeat'((first|refine aw0 ?_|refine awx ?_|refine AB.ofF hc ?_|refine aa.pure sa rfl ?_|refine aa.pure sb rfl ?_|refine aa.pure t2 rfl ?_|refine aa.pure t3 rfl ?_|refine AB.ofT (by simp;done) ?_|refine ci (by simp[gA];omega) ?_|exact rr|refine And.intro rfl ?_|refine bf.mk ?_ ?_|refine AB.mk (λh=>?_) (λh=>?_))<;>conv=>whnf)
    all_goals(simp;done)
end Go.Proofs.YtnlhpdbijmnkhaaGreatDoor
