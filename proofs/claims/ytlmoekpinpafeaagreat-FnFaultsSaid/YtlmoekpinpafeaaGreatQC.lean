/- QC -/
import Derived.Test.YtlmoekpinpafeaaGreatAvMD
import Derived.Test.YtlmoekpinpafeaaGreatWB8
import Derived.Test.YtlmoekpinpafeaaGreatAvFC
import Derived.Test.YtlmoekpinpafeaaGreatWData
import Derived.Test.YtlmoekpinpafeaaGreatAvJ3
set_option maxHeartbeats 8000000
set_option linter.unusedVariables false
set_option linter.unusedSimpArgs false
set_option maxRecDepth 100000
open Bool (and_eq_true)
open List (length_append length_cons length_map length_nil length_take)
namespace Go.Proofs.YtlmoekpinpafeaaGreat
open Go.Proofs.Tryz
open Go.ChangeShapes Go.WideShapes Go.RowKit
def tF:List (List Nat):=a8 [0,1,0,3,258,0,6,7,33285,0x9207185103081249]
def kC:List (List Nat):=a8 [0,1,2,0,4,5,0,7,8,0,10,11,3182979,0,0x38d30b28920718510308134e]
theorem sR(l:List Int)(kind many:Int)(h:(l.length:Int)≠many):aM av 269 [.one (.sl (l.map eI)),pI kind,pI many] (rB false):=by
  have hc:((((l.map eI).length:Int))==many)=false:=by simpa using h
  refine pO func269 call269 ntmps269 results269 λS=>?_;conv=>whnf
  repeat'(first|refine awz ?_|exact rZ|fail)
theorem sQ(a:Int)(r:List Int)(kind many:Int)(h:(((a::r).length:Nat):Int)=many):aM av 269 [.one (.sl ((a::r).map eI)),pI kind,pI many] (rB (a==kind)):=by
  have hc:(((((a::r).map eI).length:Int))==many)=true:=by simpa using h
  refine pO func269 call269 ntmps269 results269 λS=>?_;conv=>whnf
  repeat'(first|refine awz ?_|(refine Ty 0 (eI a) rfl rfl ?_;conv=>whnf)|exact rZ|fail)
def qk(l:List Int):Prop:=l.length<=48
theorem xo(kind x lo hi:Int):bq av 237 [pI kind,pI x,pI lo,pI hi] qk (λl=> .val (.one (.sl (l.map eI)))):=by
  refine aO aL func237 rfl call237 ntmps237 (WA results237) λS=>?_;conv=>whnf
  repeat'((first|refine awz ?_|refine cP (aN _ _ _) ?_|refine tW ?_ ?_|intro h)<;>conv=>whnf)
  all_goals first
    |exact⟨[],by simp[qk],rfl⟩
    |exact⟨[kind,x],by simp[qk],rfl⟩
theorem GV(x:Int):bq av 174 [pI x] qk (λl=> .val (.one (.sl (l.map eI)))):=by
  refine aO aL func174 rfl call174 ntmps174 (WA results174) λS=>?_;conv=>whnf
  repeat'(first|refine awz ?_|(refine aG.q (xo _ _ _ _) rfl λy hy=>?_;conv=>whnf)|fail)
  all_goals exact⟨_,hy,rfl⟩
theorem Jp(x:Int):bq av 246 [pI x] qk (λl=> .val (.one (.sl (l.map eI)))):=by
  refine aO aL func246 rfl call246 ntmps246 (WA results246) λS=>?_;conv=>whnf
  repeat'(first|refine awz ?_|(refine aG.q (xo _ _ _ _) rfl λy hy=>?_;conv=>whnf)|fail)
  all_goals exact⟨_,hy,rfl⟩
theorem JB(x:Int):bq av 177 [pI x] qk (λl=> .val (.one (.sl (l.map eI)))):=by
  refine aO aL func177 rfl call177 ntmps177 (WA results177) λS=>?_;conv=>whnf
  repeat'(first|refine awz ?_|(refine aG.q (xo _ _ _ _) rfl λy hy=>?_;conv=>whnf)|fail)
  all_goals exact⟨_,hy,rfl⟩
theorem pF(l:List Int)(kind lo hi:Int):bq av 273 [.one (.sl (l.map eI)),pI kind,pI lo,pI hi] (λ_:Int×Bool=>True) (λy=> .tup [.one (dI y.1),.one (dB y.2)]):=by
  by_cases h:l.length=2
  · obtain⟨a,r,rfl,h1⟩:=aZ h;obtain⟨b,r,rfl,h2⟩:=aZ h1;have e:r=[]:=List.eq_nil_of_length_eq_zero h2;subst e;have hi:=sQ a [b] kind 2 rfl;refine aO aL func273 rfl call273 ntmps273 (WA results273) λS=>?_;conv=>whnf
    repeat'((first|refine awz ?_|refine cP (hi) ?_|refine cP (aN _ _ _) ?_|refine Ty 1 (eI b) rfl rfl ?_|refine tW ?_ ?_|intro h)<;>conv=>whnf)
    all_goals exact⟨(_,_),trivial,rfl⟩
  · have hi:=sR l kind 2 ac;refine aO aL func273 rfl call273 ntmps273 (WA results273) λS=>?_;conv=>whnf
    repeat'(first|refine awz ?_|(refine cP (hi) ?_;conv=>whnf)|fail)
    all_goals exact⟨(_,_),trivial,rfl⟩
theorem Ha(l:List Int):bq av 217 [.one (.sl (l.map eI))] (λ_:Int×Bool=>True) (λy=> .tup [.one (dI y.1),.one (dB y.2)]):=by
  refine aO aL func217 rfl call217 ntmps217 (WA results217) λS=>?_;conv=>whnf
  repeat'(first|refine awz ?_|(refine aG.q (pF l _ _ _) rfl λy hy=>?_;conv=>whnf)|fail)
  all_goals exact⟨(_,_),trivial,rfl⟩
theorem Jv(l:List Int):bq av 227 [.one (.sl (l.map eI))] (λ_:Int×Bool=>True) (λy=> .tup [.one (dI y.1),.one (dB y.2)]):=by
  refine aO aL func227 rfl call227 ntmps227 (WA results227) λS=>?_;conv=>whnf
  repeat'(first|refine awz ?_|(refine aG.q (pF l _ _ _) rfl λy hy=>?_;conv=>whnf)|fail)
  all_goals exact⟨(_,_),trivial,rfl⟩
theorem Jy(l:List Int):bq av 220 [.one (.sl (l.map eI))] (λ_:Int×Bool=>True) (λy=> .tup [.one (dI y.1),.one (dB y.2)]):=by
  refine aO aL func220 rfl call220 ntmps220 (WA results220) λS=>?_;conv=>whnf
  repeat'(first|refine awz ?_|(refine aG.q (pF l _ _ _) rfl λy hy=>?_;conv=>whnf)|fail)
  all_goals exact⟨(_,_),trivial,rfl⟩
structure yU where
  client:Int
  seq:Int
  op:DOp
def yU.ds(a:yU):List AD:=[dI a.client,dI a.seq]++a.op.ds
structure yV where
  client:Int
  seq:Int
  key:Int
  least:Int
def yV.ds(a:yV):List AD:=[dI a.client,dI a.seq,dI a.key,dI a.least]
structure DB where
  client:Int
  seq:Int
  index:Int
  has:Int
  value:Int
def DB.ds(a:DB):List AD:=[dI a.client,dI a.seq,dI a.index,dI a.has,dI a.value]
structure xu where
  base:Int
  last:Int
  ents:List DEntry
def xu.ds(a:xu):List AD:=[dI a.base,dI a.last,.sl (a.ents.map DEntry.ds)]
def xG(a:yU):Bool:=aI a.client 2 5&&aI a.seq 1 2000&&lT a.op
def q6(a:DAck):Bool:=aI a.client 2 5&&aI a.seq 1 2000&&aI a.last a.seq 2000&&(if a.last>a.seq then a.index==0 else aI a.index 1 2000)
def KN(a:yV):Bool:=aI a.client 2 5&&aI a.seq 1 2000&&aI a.key 0 9&&aI a.least 0 2000
def BB(a:DB):Bool:=aI a.client 2 5&&aI a.seq 1 2000&&aI a.index 0 2000&&aI a.has 0 1&&aI a.value 0 999&&(a.has==1||a.value==0)
theorem wd(a:yU):aM av 271 [.agg a.ds] (rB (xG a)):=by
  refine pO func271 call271 ntmps271 results271 λS=>?_;conv=>whnf
  repeat'((first|refine awz ?_|refine cP (dF _) ?_|refine cP (ft _) ?_|refine cP (gE a.op) ?_|refine tW ?_ ?_|intro h)<;>conv=>whnf)
  all_goals simp_all[xG]
theorem lZ(a:DAck):aM av 293 [.agg a.ds] (rB (q6 a)):=by
  refine pO func293 call293 ntmps293 results293 λS=>?_;conv=>whnf
  repeat'((first|refine awz ?_|refine cP (dF _) ?_|refine cP (ft _) ?_|refine cP (fw _) ?_|refine cP (aN _ _ _) ?_|refine tW ?_ ?_|intro h)<;>conv=>whnf)
  all_goals first
    |(simp_all[q6];done)
    |(simp_all[q6];intro h2;exfalso;omega)
theorem ol(a:yV):aM av 279 [.agg a.ds] (rB (KN a)):=by
  refine pO func279 call279 ntmps279 results279 λS=>?_;conv=>whnf
  repeat'((first|refine awz ?_|refine cP (dF _) ?_|refine cP (ft _) ?_|refine cP (oz _) ?_|refine cP (aN _ _ _) ?_|refine tW ?_ ?_|intro h)<;>conv=>whnf)
  all_goals simp_all[KN]
theorem ke(a:DB):aM av 282 [.agg a.ds] (rB (BB a)):=by
  refine pO func282 call282 ntmps282 results282 λS=>?_;conv=>whnf
  repeat'((first|refine awz ?_|refine cP (dF _) ?_|refine cP (ft _) ?_|refine cP (km _) ?_|refine cP (aN _ _ _) ?_|refine tW ?_ ?_|intro h)<;>conv=>whnf)
  all_goals simp_all[BB]
theorem L6(a:DAck):bq av 236 [.agg a.ds] qk (λl=> .val (.one (.sl (l.map eI)))):=by
  refine aO aL func236 rfl call236 ntmps236 (WA results236) λS=>?_;conv=>whnf
  repeat'((first|refine awz ?_|refine cP (lZ a) ?_|refine tW ?_ ?_|intro h)<;>conv=>whnf)
  all_goals first
    |exact⟨[],by simp[qk],rfl⟩
    |exact⟨[_,_,_,_,_],by simp[qk],rfl⟩
theorem Jq(a:yV):bq av 250 [.agg a.ds] qk (λl=> .val (.one (.sl (l.map eI)))):=by
  refine aO aL func250 rfl call250 ntmps250 (WA results250) λS=>?_;conv=>whnf
  repeat'((first|refine awz ?_|refine cP (ol a) ?_|refine tW ?_ ?_|intro h)<;>conv=>whnf)
  all_goals first
    |exact⟨[],by simp[qk],rfl⟩
    |exact⟨[_,_,_,_,_],by simp[qk],rfl⟩
theorem Hj(a:DB):bq av 226 [.agg a.ds] qk (λl=> .val (.one (.sl (l.map eI)))):=by
  refine aO aL func226 rfl call226 ntmps226 (WA results226) λS=>?_;conv=>whnf
  repeat'((first|refine awz ?_|refine cP (ke a) ?_|refine tW ?_ ?_|intro h)<;>conv=>whnf)
  all_goals first
    |exact⟨[],by simp[qk],rfl⟩
    |exact⟨[_,_,_,_,_,_],by simp[qk],rfl⟩
theorem Da(a:yU):bq av 248 [.agg a.ds] qk (λl=> .val (.one (.sl (l.map eI)))):=by
  have c1:=wd a;cases ho:xG a with
  |false=>
    rw[ho]at c1;refine aO aL func248 rfl call248 ntmps248 (WA results248) λS=>?_;conv=>whnf
    repeat'(first|refine awz ?_|(refine cP (c1) ?_;conv=>whnf)|fail)
    all_goals exact⟨[],by simp[qk],rfl⟩
  |true=>
    rw[ho]at c1;have ho2:lT a.op=true:=by simp only[xG,Bool.and_eq_true]at ho;exact ho.2
    have c2:=A8 a.op ho2;refine aO aL func248 rfl call248 ntmps248 (WA results248) λS=>?_;conv=>whnf
    repeat'(first|refine awz ?_|(refine cP (c1) ?_;conv=>whnf)|fail)
    (refine TD aL 3 (tkc [0,1,2,3,5,6] (.two 4 (.one 7 (.one 8 (.take 9 .done))) 7 (.one 4 (.one 8 (.take 9 .done))))) [(1,9980)] tF ae ae ae ae (λRz=>?_);(conv=>whnf);intro bp0 up0;(conv=>whnf))
    repeat'((first|refine awz ?_|refine cP (c2) ?_|refine aP (by first|(intro y hy;obtain⟨a,_,rfl⟩:=List.mem_map.1 hy;rfl)|(simp;done)) ?_|refine aQ (by simp[opL]) ?_|refine tW ?_ ?_|fail)<;>conv=>whnf)
    all_goals exact⟨[1,a.client,a.seq]++opL a.op,by simp[qk,opL],rfl⟩
theorem Jw(l:List Int):bq av 224 [.one (.sl (l.map eI))] (λ_:yV×Bool=>True) (λy=> .tup [.agg y.1.ds,.one (dB y.2)]):=by
  by_cases h:l.length=5
  · obtain⟨a,b,c,d,e,rfl⟩:=Ai h;have hi:=sQ a [b,c,d,e] 6 5 rfl;refine aO aL func224 rfl call224 ntmps224 (WA results224) λS=>?_;conv=>whnf
    repeat'((first|refine awz ?_|refine cP (hi) ?_|refine tW ?_ ?_|intro h)<;>conv=>whnf)
    all_goals first
      |exact⟨(⟨_,_,_,_⟩,_),trivial,rfl⟩
      | ((refine TD aL 3 (tkc [0, 1, 2, 3, 4, 5, 6, 7, 8, 9, 10, 11] (.two 12 (.one 13 (.one 14 .done)) 13 (.one 12 (.one 14 .done)))) [] kC ae ae ae ae (fun Rz => ?_); (conv => whnf))
         repeat'((first|refine awz ?_|refine cP (ol ⟨_,_,_,_⟩) ?_|refine Ty 1 _ rfl rfl ?_|refine Ty 2 _ rfl rfl ?_|refine Ty 3 _ rfl rfl ?_|refine Ty 4 _ rfl rfl ?_|refine tW ?_ ?_|intro h)<;>conv=>whnf)
         all_goals exact⟨(⟨_,_,_,_⟩,_),trivial,rfl⟩)
  · have hi:=sR l 6 5 ac;refine aO aL func224 rfl call224 ntmps224 (WA results224) λS=>?_;conv=>whnf
    repeat'(first|refine awz ?_|(refine cP (hi) ?_;conv=>whnf)|fail)
    all_goals exact⟨(⟨_,_,_,_⟩,_),trivial,rfl⟩
theorem Dg(l:List Int):bq av 284 [.one (.sl (l.map eI))] (λ_:DAck×Bool=>True) (λy=> .tup [.agg y.1.ds,.one (dB y.2)]):=by
  by_cases h:l.length=5
  · obtain⟨a,b,c,d,e,rfl⟩:=Ai h;have hi:=sQ a [b,c,d,e] 2 5 rfl;refine aO aL func284 rfl call284 ntmps284 (WA results284) λS=>?_;conv=>whnf
    repeat'((first|refine awz ?_|refine cP (hi) ?_|refine tW ?_ ?_|intro h)<;>conv=>whnf)
    all_goals first
      |exact⟨(⟨_,_,_,_⟩,_),trivial,rfl⟩
      | ((refine TD aL 3 (tkc [0, 1, 2, 3, 4, 5, 6, 7, 8, 9, 10, 11] (.two 12 (.one 13 (.one 14 .done)) 13 (.one 12 (.one 14 .done)))) [] kC ae ae ae ae (fun Rz => ?_); (conv => whnf))
         repeat'((first|refine awz ?_|refine cP (lZ ⟨_,_,_,_⟩) ?_|refine Ty 1 _ rfl rfl ?_|refine Ty 2 _ rfl rfl ?_|refine Ty 3 _ rfl rfl ?_|refine Ty 4 _ rfl rfl ?_|refine tW ?_ ?_|intro h)<;>conv=>whnf)
         all_goals exact⟨(⟨_,_,_,_⟩,_),trivial,rfl⟩)
  · have hi:=sR l 2 5 ac;refine aO aL func284 rfl call284 ntmps284 (WA results284) λS=>?_;conv=>whnf
    repeat'(first|refine awz ?_|(refine cP (hi) ?_;conv=>whnf)|fail)
    all_goals exact⟨(⟨_,_,_,_⟩,_),trivial,rfl⟩
def kG:List (List Nat):=a8 [0,1,0,8259,1060930,0,0,391,22128796664262]
def kK:List (List Nat):=dN 8 [6336,6337,6326,6331,6358,1700,728,1214]
def kD:List (List Nat):=a8 [0,0,2,0,259,5,385,7,7,0x92071851030811c8,0x289207185103081289]
theorem FF(p q:DLink)(w:World):(binOp .eql 161 (.agg #[cR p.a,cR p.b]) (.agg #[cR q.a,cR q.b])).run Tryz.prog w= .ok (.bool (p==q)) w:=by
 obtain⟨a0,a1⟩:=p;obtain⟨b0,b1⟩:=q;have h:=run_underlying (w:=w) underlying161;have hs:Tryz.prog.stoodInHeld 161=false:=ae;show(do let x<-Op.equalIn (9999+1) _ _ _;pure (Value.bool x):Sem Value).run _ _=_;rw[Op.equalIn];have key:∀x y:Int,(Op.equalIn 9999 2 (.int .i64 x) (.int .i64 y)).run Tryz.prog w= .ok (x==y) w:=wI w 9998;simp[h,hs,lW,key];repeat' split
 all_goals simp_all
theorem o7(p q:DLink):yW .eql 161 p.ds q.ds (p==q):=by
 refine⟨λx y w=>?_,λw=>FF p q w⟩;have h:Tryz.prog.eqGuardType Tryz.prog.depth 161=false:=ae;simp[eqGuard,h]
def se(a b:Int):DLink:=if a<b then⟨a,b⟩else⟨b,a⟩
theorem Dq(a b:Int):aM av 193 [pI a,pI b] (.val (.agg (se a b).ds)):=by
 by_cases h:a<b
 ·have q:decide (a<b)=true:=by simpa using h
  have e:se a b=⟨a,b⟩:=if_pos h;rw[e];refine pO func193 call193 ntmps193 results193 λS=>?_;conv=>whnf
  repeat'(first|refine awz ?_|exact rZ|fail)
 ·have q:decide (a<b)=false:=by simpa using h
  have e:se a b=⟨b,a⟩:=if_neg h;rw[e];refine pO func193 call193 ntmps193 results193 λS=>?_;conv=>whnf
  repeat'(first|refine awz ?_|exact rZ|fail)
theorem LL{a b:Int}(h:eV a b=true):dT (se a b)=true:=by
 unfold se;simp only[eV,aI,Bool.and_eq_true,decide_eq_true_eq,bne_iff_ne,ne_eq]at h;split<;>simp[dT,eV,aI]<;>omega
theorem N7(a b:Int):aM av 192 [pI a,pI b] (rB (eV a b)):=by
 refine pO func192 call192 ntmps192 results192 λS=>?_;conv=>whnf
 repeat'((first|refine awz ?_|refine cP (gm _) ?_|refine tW ?_ ?_|intro h)<;>conv=>whnf)
 all_goals simp_all[eV]
def R4(n:DNet)(x:DLink)(y:Int):Prop:=(y= -1/\∀z∈n.cuts,z≠x)\/∃k:Nat,k<n.cuts.length/\y=(k:Int)
theorem vg(n:DNet)(a b:Int)(h15:n.cuts.length<=15):bq av 163 [.agg n.ds,pI a,pI b] (R4 n (se a b)) (λy=> .val (pI y)):=by
 have cl:=Dq a b;generalize se a b=x at cl;refine aO aL func163 rfl call163 ntmps163 (WA results163) λS=>?_;conv=>whnf
 repeat'(first|refine awz ?_|fail)
 refine TE (λk:Nat=>k<=n.cuts.length/\∀(j:Nat) (hj:j<n.cuts.length),j<k->n.cuts[j]≠x) (rg 6 19) (λk=>[(7,vI .i64 (k:Int))]) (λk=>[(3,.cells 75 (n.ds.map .d))]) (λk=>n.cuts.length-k) 0 ⟨Nat.zero_le _,λj _ h=>by omega⟩ ?_ sbW (λk hg=>?_)<;>(conv=>whnf)
 ·exact whd
 ·obtain⟨hk,hne⟩:=hg;by_cases hlt:k<n.cuts.length
  ·have hc:decide ((k:Int)<((n.cuts.map DLink.ds).length:Int))=true:=al;by_cases he:n.cuts[k]=x
   ·have q:(n.cuts[k]==x)=true:=by simpa using he
    repeat'((first|refine awz ?_|refine TB aL 4 8 kG kK ae ae ae rfl ?_|refine TJ hlt ?_|refine cP (cl) ?_|refine T0 (o7 _ _) rfl rfl rfl rfl rfl ?_|fail)<;>conv=>whnf)
    all_goals exact⟨(k:Int),.inr ⟨k,hlt,rfl⟩,rfl⟩
   ·have q:(n.cuts[k]==x)=false:=by simpa using he
    repeat'((first|refine awz ?_|refine TB aL 4 8 kG kK ae ae ae rfl ?_|refine TJ hlt ?_|refine cP (cl) ?_|refine T0 (o7 _ _) rfl rfl rfl rfl rfl ?_|refine Tz ac ac ?_|fail)<;>conv=>whnf)
    all_goals
     refine aW.mk ⟨k+1,⟨hlt,λj hj hj2=>?_⟩,by show n.cuts.length-(k+1)<n.cuts.length-k;omega,?_,sbW⟩
     ·by_cases e:j=k
      ·subst e;exact he
      ·exact hne j hj ac
     ·exact hds
  ·have e:k=n.cuts.length:=ac;subst e;have hc:decide ((n.cuts.length:Int)<((n.cuts.map DLink.ds).length:Int))=false:=ai;repeat'(first|refine awz ?_|fail)
   all_goals exact⟨-1,.inl ⟨rfl,λz hz=>by obtain⟨j,hj,rfl⟩:=List.getElem_of_mem hz;exact hne j hj hj⟩,rfl⟩
abbrev OT(n:DNet):List (Nat×AO):=[(41,.row 120 3 (n.flight.map DMsg.ds))]
abbrev NC(n:DNet):AA:= .agg [.own 41,.d (.sl (n.cuts.map DLink.ds))]
theorem lA(n:DNet)(hs:DNet.small 1048576 n):aM av 162 [.agg n.ds] (.val (.agg n.ds)):=cV.data (kg n hs) rfl rfl
def Ky(n:DNet)(k:Nat):DNet:=⟨n.flight.take k++n.flight.drop (k+1),n.cuts⟩
theorem E9{n:DNet}{k:Nat}(hk:k<n.flight.length):aI (k:Int) 0 ((n.flight.length:Int)-1)=true:=by simp only[aI,Bool.and_eq_true,decide_eq_true_eq];omega
theorem O2(n:DNet)(k:Nat)(hn:dg n=true)(hk:k<n.flight.length):cV av 132 [.agg (n.ds.map .d),.one (.d (dI (k:Int)))] [] (OT (Ky n k)) [] (.tup [NC n,.one (.d (dB true))]):=by
 have hs:=dL hn;have c1:=fG n;rw[hn]at c1;have c2:=kj n k hs.1;rw[E9 hk]at c2;refine bL aL func132 rfl call132 ntmps132 (WA results132) rfl λS pv=>?_;conv=>whnf
 repeat'((first|refine awz ?_|refine cP (c1) ?_|refine cP (c2) ?_|refine TA (pH n k hs hk) [(9,41)] rfl rfl ?_|exact rZ|fail)<;>conv=>whnf)
theorem O3(n:DNet)(a:Int)(hn:dg n=true)(hk:aI a 0 ((n.flight.length:Int)-1)=false):aM av 132 [.agg n.ds,pI a] (.tup [.agg n.ds,.one (dB false)]):=by
 have hs:=dL hn;have c1:=fG n;rw[hn]at c1;have c2:=kj n a hs.1;rw[hk]at c2;refine pO func132 call132 ntmps132 results132 λS=>?_;conv=>whnf
 repeat'((first|refine awz ?_|refine cP (c1) ?_|refine cP (c2) ?_|refine cP (lA n hs) ?_|exact rZ|fail)<;>conv=>whnf)
theorem I6(n:DNet)(a:Int)(hn:dg n=true)(hk:aI a 0 ((n.flight.length:Int)-1)=false):aM av 133 [.agg n.ds,pI a] (.tup [.agg n.ds,.one (dB false)]):=by
 have hs:=dL hn;have c1:=fG n;rw[hn]at c1;have c2:=kj n a hs.1;rw[hk]at c2;refine pO func133 call133 ntmps133 results133 λS=>?_;conv=>whnf
 repeat'((first|refine awz ?_|refine cP (c1) ?_|refine cP (c2) ?_|refine cP (lA n hs) ?_|exact rZ|fail)<;>conv=>whnf)
theorem EP(n:DNet)(m:DMsg)(hn:dg n=true)(hm:jC m=true)(hl:n.flight.length=60):aM av 191 [.agg n.ds,.agg m.ds] (.tup [.agg n.ds,.one (dB false)]):=by
 have hs:=dL hn;have c1:=fG n;have c2:=gW m;rw[hn]at c1;rw[hm]at c2;have hc:((((n.flight.map DMsg.ds).length:Nat):Int)==60)=true:=al;refine pO func191 call191 ntmps191 results191 λS=>?_;conv=>whnf
 repeat'((first|refine awz ?_|refine cP (c1) ?_|refine cP (c2) ?_|refine cP (lA n hs) ?_|exact rZ|fail)<;>conv=>whnf)
theorem KX(n:DNet)(m:DMsg)(hn:dg n=true)(hm:jC m=false):aM av 191 [.agg n.ds,.agg m.ds] (.tup [.agg (⟨[],[]⟩:DNet).ds,.one (dB false)]):=by
 have c1:=fG n;have c2:=gW m;rw[hn]at c1;rw[hm]at c2;refine pO func191 call191 ntmps191 results191 λS=>?_;conv=>whnf
 repeat'((first|refine awz ?_|refine cP (c1) ?_|refine cP (c2) ?_|exact rZ|fail)<;>conv=>whnf)
def QB(n:DNet)(k:Nat)(hk:k<n.flight.length):DNet:=⟨n.flight++[n.flight[k]],n.cuts⟩
theorem I5(n:DNet)(k:Nat)(hn:dg n=true)(hk:k<n.flight.length)(hl:n.flight.length≠60):cV av 133 [.agg (n.ds.map .d),.one (.d (dI (k:Int)))] [] (OT (QB n k hk)) [] (.tup [NC n,.one (.d (dB true))]):=by
 have hs:=dL hn;have c1:=fG n;rw[hn]at c1;have c2:=kj n k hs.1;rw[E9 hk]at c2;have hm:=(cI hn).2.2.1 _ (List.getElem_mem hk);have hr:n.flight[k].row.length<=1048576:=hs.2.1 _ (List.getElem_mem hk);have c3:=EQ n n.flight[k] hn hm hs hr hl;refine bL aL func133 rfl call133 ntmps133 (WA results133) rfl λS pv=>?_;conv=>whnf
 repeat'((first|refine awz ?_|refine cP (c1) ?_|refine cP (c2) ?_|fail)<;>conv=>whnf)
 (refine TD aL 5 (tkc [0,1,2,3,4,5] (.one 6 (.take 7 (.take 8 (.one 9 (.take 10 .done)))))) [(2,9980)] kD ae ae ae ae (λRz=>?_);(conv=>whnf);intro bp0 up0;(conv=>whnf))
 repeat'((first|refine awz ?_|refine TJ hk ?_|refine TA c3 [(41,41)] rfl rfl ?_|exact rZ|fail)<;>conv=>whnf)
theorem I4(n:DNet)(k:Nat)(hn:dg n=true)(hk:k<n.flight.length)(hl:n.flight.length=60):aM av 133 [.agg n.ds,pI (k:Int)] (.tup [.agg n.ds,.one (dB false)]):=by
 have hs:=dL hn;have c1:=fG n;rw[hn]at c1;have c2:=kj n k hs.1;rw[E9 hk]at c2;have hm:=(cI hn).2.2.1 _ (List.getElem_mem hk);have c3:=EP n n.flight[k] hn hm hl;refine pO func133 call133 ntmps133 results133 λS=>?_;conv=>whnf
 repeat'((first|refine awz ?_|refine cP (c1) ?_|refine cP (c2) ?_|fail)<;>conv=>whnf)
 (refine TD aL 5 (tkc [0,1,2,3,4,5] (.one 6 (.take 7 (.take 8 (.one 9 (.take 10 .done)))))) [(2,9980)] kD ae ae ae ae (λRz=>?_);(conv=>whnf);intro bp0 up0;(conv=>whnf))
 repeat'((first|refine awz ?_|refine TJ hk ?_|refine cP (c3) ?_|exact rZ|fail)<;>conv=>whnf)
def tJ:List (List Nat):=a8 [0,0,129,0,196,50860355,26736222278021,31204079050823]
def ig:List (List Nat):=a8 [0,0,2,194,278659,84680961,6460285125,486455918662,6460285125,0x81811020c51c9,0x2891c50c2101188,6460285125,0x2c81811020c51c928c,0x604408314d30a24720b]
def ij:List (List Nat):=dN 12 [78,2,5,14,40,121,367780,368509,360490,364135,383818,176782]
def kE:List (List Nat):=a8 [0,0,2,0,259,321,0,7,25094,0x9207185103081249]
def tK:List (List Nat):=a8 [0,0,2,0,259,321,0,7,0,9,648,25286,0x30b289207185103081,0xc2ca2481c61440c204c30d]
structure Qh (y:DNet×Option DMsg):Prop where
 ok:dg y.1=true
abbrev QF(y:DNet×Option DMsg):List (Nat×AO):=OT y.1
def QG(y:DNet×Option DMsg):AR:=match y.2 with
 |none=> .tup [NC y.1,.agg [.d (dI 0),.d (dI 0),.nil],.one (.d (dB false))]
 |some m=> .tup [NC y.1,.agg (m.ds.map .d),.one (.d (dB true))]
theorem Md(n:DNet)(a:Int)(hn:dg n=true):de av 116 [.agg (n.ds.map .d),.one (.d (dI a))] [] Qh [41] QF [] QG:=by
 have hs:=dL hn;have h15:=(cI hn).2.1;have c1:=fG n;rw[hn]at c1;have c2:=kj n a hs.1;cases hb:aI a 0 ((n.flight.length:Int)-1)with
 |false=>
  rw[hb]at c2;refine aT aL func116 rfl call116 ntmps116 (WA results116) (λ_=>rfl) rfl (λ_=>rfl) λS pv=>?_;conv=>whnf
  repeat'((first|refine awz ?_|refine cP (c1) ?_|refine cP (c2) ?_|refine TA (kg n hs) [(41,41)] rfl rfl ?_|fail)<;>conv=>whnf)
  all_goals exact⟨(n,none),⟨hn⟩,rfl,rfl,rfl,trivial⟩
 |true=>
  rw[hb]at c2;obtain⟨k,rfl⟩:∃k:Nat,a=(k:Int):=by
   simp only[aI,and_eq_true,decide_eq_true_eq]at hb;exact⟨a.toNat,ac⟩
  have hk:k<n.flight.length:=by
   simp only[aI,and_eq_true,decide_eq_true_eq]at hb;omega
  have hl:=ND hn k;have hm:=(cI hn).2.2.1 _ (List.getElem_mem hk);have hr48:n.flight[k].row.length<=48:=by
   simp only[jC,and_eq_true]at hm;exact dl hm.2
  have hr:n.flight[k].row.length<=1048576:=ac;have ca:=vg n n.flight[k].frm n.flight[k].to_ h15;have cm:=sV n.flight[k] hr;refine aT aL func116 rfl call116 ntmps116 (WA results116) (λ_=>rfl) rfl (λ_=>rfl) λS pv=>?_;conv=>whnf
  repeat'((first|refine awz ?_|refine cP (c1) ?_|refine cP (c2) ?_|refine TJ hk ?_|refine aG.q ca rfl λy hy=>?_|refine TA (pH n k hs hk) [(9,41)] rfl rfl ?_|refine tW ?_ ?_|intro h)<;>conv=>whnf)
  ·exact⟨(Ky n k,none),⟨hl⟩,rfl,rfl,rfl,trivial⟩
  ·(refine TD aL 8 (tkc [0,1,3] (onc [2,4,5,6] (.take 7 .done))) [(2,9980),(7,9981)] tJ ae ae ae ae (λRz=>?_);(conv=>whnf);intro bp0 up0;(conv=>whnf);intro bp1 up1;(conv=>whnf))
   repeat'((first|refine awz ?_|refine cP (cm) ?_|refine TA (pH n k hs hk) [(9,41)] rfl rfl ?_|fail)<;>conv=>whnf)
   all_goals exact⟨(Ky n k,some n.flight[k]),⟨hl⟩,rfl,rfl,rfl,trivial⟩
abbrev QJ(y:DNet×Bool):List (Nat×AO):=OT y.1
abbrev QI(y:DNet×Bool):AR:= .tup [NC y.1,.one (.d (dB y.2))]
theorem L8(n:DNet)(a b:Int)(hn:dg n=true):de av 134 [.agg (n.ds.map .d),.one (.d (dI a)),.one (.d (dI b))] [] (λy:DNet×Bool=>dg y.1=true) [41] QJ [] QI:=by
 have hs:=dL hn;have h15:=(cI hn).2.1;have c1:=fG n;rw[hn]at c1;have c2:=N7 a b;have cl:=Dq a b;have ca:=vg n a b h15;cases ht:eV a b with
 |false=>
  rw[ht]at c2;refine aT aL func134 rfl call134 ntmps134 (WA results134) (λ_=>rfl) rfl (λ_=>rfl) λS pv=>?_;conv=>whnf
  repeat'((first|refine awz ?_|refine cP (c1) ?_|refine cP (c2) ?_|refine TA (kg n hs) [(41,41)] rfl rfl ?_|fail)<;>conv=>whnf)
  all_goals exact⟨(n,false),hn,rfl,rfl,rfl,trivial⟩
 |true=>
  rw[ht]at c2;have hx:=LL ht;generalize se a b=x at ca cl hx;refine aT aL func134 rfl call134 ntmps134 (WA results134) (λ_=>rfl) rfl (λ_=>rfl) λS pv=>?_;conv=>whnf
  repeat'((first|refine awz ?_|refine cP (c1) ?_|refine cP (c2) ?_|refine cP (cl) ?_|refine TA (kg n hs) [(41,41)] rfl rfl ?_|refine aG.q ca rfl λy hy=>?_|refine tW ?_ ?_|intro h)<;>conv=>whnf)
  ·exact⟨(n,false),hn,rfl,rfl,rfl,trivial⟩
  ·have hne:∀z∈n.cuts,z≠x:=by
    rcases hy with⟨_,h2⟩|⟨k,_,rfl⟩
    ·exact h2
    ·first|(simp at h;done)|(simp at h;omega)
   refine TE (λk:Nat=>k<=n.cuts.length/\∀(j:Nat) (hj:j<n.cuts.length),j<k->cO n.cuts[j] x=true) (10::rg 33 16) (λk=>[(10,vI .i64 (k:Int))]) (λk=>[(9999,.frame (cE []) pv),(3,.cells 75 (n.ds.map .d)),(6,.cells 75 [.nil,.nil]),(8,.cells 75 [.own 41,.d (.sl (n.cuts.map DLink.ds))]),(9,.cells 161 (x.ds.map .d)),(41,.row 120 3 (n.flight.map DMsg.ds))]) (λk=>n.cuts.length-k) 0 ⟨Nat.zero_le _,λj _ h=>by omega⟩ ?_ sbW (λk hg=>?_)<;>(conv=>whnf)
   ·exact whd
   ·obtain⟨hk,hless⟩:=hg;have e1:List.drop 0 (List.take k (n.cuts.map DLink.ds))=(n.cuts.take k).map DLink.ds:=by simp[List.map_take]
    have e2:List.drop k (List.take n.cuts.length (n.cuts.map DLink.ds))=(n.cuts.drop k).map DLink.ds:=by rw[List.take_of_length_le ai,List.map_drop]
    have fin:(∀hk:k<n.cuts.length,cO n.cuts[k] x=false)->dg ⟨n.flight,n.cuts.take k++[x]++n.cuts.drop k⟩=true:=λh2=>QK hn hx hless h2 hne;have eq3:(n.cuts.take k++[x]++n.cuts.drop k).map DLink.ds=[]++(n.cuts.take k).map DLink.ds++[x.ds]++(n.cuts.drop k).map DLink.ds:=ai;by_cases hlt:k<n.cuts.length
    ·have hc:decide ((k:Int)<((n.cuts.map DLink.ds).length:Int))=true:=al;cases hll:cO n.cuts[k] x with
     |true=>
      have cll:=kv n.cuts[k] x;rw[hll]at cll;repeat'((first|refine awz ?_|refine TB aL 8 12 ig ij ae ae ae rfl ?_|refine TJ hlt ?_|refine cP (cll) ?_|refine Tz ac ac ?_|fail)<;>conv=>whnf)
      all_goals
       refine aW.mk ⟨k+1,⟨hlt,λj hj hj2=>?_⟩,by show n.cuts.length-(k+1)<n.cuts.length-k;omega,?_,sbW⟩
       ·by_cases e:j=k
        ·subst e;exact hll
        ·exact hless j hj ac
       ·exact hds
     |false=>
      have cll:=kv n.cuts[k] x;rw[hll]at cll;have ok:=fin λ_=>hll;repeat'((first|refine awz ?_|refine TB aL 8 12 ig ij ae ae ae rfl ?_|refine TJ hlt ?_|refine cP (cll) ?_|fail)<;>conv=>whnf)
      all_goals
       (refine TD aL 10 (tkc [1,2,3,6] (.three 0 (.two 4 (.two 5 (.one 7 (.one 8 (.take 9 .done))) 7 (.one 5 (.one 8 (.take 9 .done)))) 7 (onc [4,5,8] (.take 9 .done))) 4 (.two 0 (.two 5 (.one 7 (.one 8 (.take 9 .done))) 7 (.one 5 (.one 8 (.take 9 .done)))) 7 (onc [0,5,8] (.take 9 .done))) 7 (.two 0 (onc [4,5,8] (.take 9 .done)) 4 (onc [0,5,8] (.take 9 .done))))) [(3,9980),(9,9981)] kE ae ae ae ae (λRz=>?_);(conv=>whnf);intro bp0 up0;(conv=>whnf);intro bp1 up1;(conv=>whnf))
       repeat'(first|refine awz ?_|(refine⟨0,k,rfl,rfl,Nat.zero_le _,ar,?_⟩;conv=>whnf;rw[e1])|(refine⟨k,n.cuts.length,rfl,(by simp[rW]),ac,ai,?_⟩;conv=>whnf;rw[e2])|((first|refine aP (by first|(intro y hy;obtain⟨a,_,rfl⟩:=List.mem_map.1 hy;rfl)|(simp;done)) ?_|refine aQ ak ?_|fail)<;>conv=>whnf)|refine tW ?_ ?_|fail)
      all_goals exact⟨(⟨n.flight,n.cuts.take k++[x]++n.cuts.drop k⟩,true),ok,by show _=AR.tup [.agg [.own 41,.d (.sl ((n.cuts.take k++[x]++n.cuts.drop k).map DLink.ds))],_];first|(rw[eq3];done)|(rw[eq3];rfl),rfl,rfl,trivial⟩
    ·have e:k=n.cuts.length:=ac;have ok:=fin λhk=>absurd hk hlt;have hc:decide ((k:Int)<((n.cuts.map DLink.ds).length:Int))=false:=al;repeat'(first|refine awz ?_|(refine TB aL 8 12 ig ij ae ae ae rfl ?_;conv=>whnf)|fail)
     all_goals
      (refine TD aL 10 (tkc [1,2,3,6] (.three 0 (.two 4 (.two 5 (.one 7 (.one 8 (.take 9 .done))) 7 (.one 5 (.one 8 (.take 9 .done)))) 7 (onc [4,5,8] (.take 9 .done))) 4 (.two 0 (.two 5 (.one 7 (.one 8 (.take 9 .done))) 7 (.one 5 (.one 8 (.take 9 .done)))) 7 (onc [0,5,8] (.take 9 .done))) 7 (.two 0 (onc [4,5,8] (.take 9 .done)) 4 (onc [0,5,8] (.take 9 .done))))) [(3,9980),(9,9981)] kE ae ae ae ae (λRz=>?_);(conv=>whnf);intro bp0 up0;(conv=>whnf);intro bp1 up1;(conv=>whnf))
      repeat'(first|refine awz ?_|(refine⟨0,k,rfl,rfl,Nat.zero_le _,ar,?_⟩;conv=>whnf;rw[e1])|(refine⟨k,n.cuts.length,rfl,(by simp[rW]),ac,ai,?_⟩;conv=>whnf;rw[e2])|((first|refine aP (by first|(intro y hy;obtain⟨a,_,rfl⟩:=List.mem_map.1 hy;rfl)|(simp;done)) ?_|refine aQ ak ?_|fail)<;>conv=>whnf)|refine tW ?_ ?_|fail)
     all_goals exact⟨(⟨n.flight,n.cuts.take k++[x]++n.cuts.drop k⟩,true),ok,by show _=AR.tup [.agg [.own 41,.d (.sl ((n.cuts.take k++[x]++n.cuts.drop k).map DLink.ds))],_];first|(rw[eq3];done)|(rw[eq3];rfl),rfl,rfl,trivial⟩
theorem Mf(n:DNet)(a b:Int)(hn:dg n=true):de av 135 [.agg (n.ds.map .d),.one (.d (dI a)),.one (.d (dI b))] [] (λy:DNet×Bool=>dg y.1=true) [41] QJ [] QI:=by
 have hs:=dL hn;have h15:=(cI hn).2.1;have c1:=fG n;rw[hn]at c1;have ca:=vg n a b h15;refine aT aL func135 rfl call135 ntmps135 (WA results135) (λ_=>rfl) rfl (λ_=>rfl) λS pv=>?_;conv=>whnf
 repeat'((first|refine awz ?_|refine cP (c1) ?_|refine TA (kg n hs) [(41,41)] rfl rfl ?_|fail)<;>conv=>whnf)
 refine aG.q ca rfl λy hy=>?_;rcases hy with⟨rfl,_⟩|⟨k,hk,rfl⟩
 ·(conv=>whnf)
  repeat'(first|refine awz ?_|fail)
  all_goals exact⟨(n,false),hn,rfl,rfl,rfl,trivial⟩
 ·have q:decide ((k:Int)<0)=false:=ai;have e1:List.drop 0 (List.take k (n.cuts.map DLink.ds))=(n.cuts.take k).map DLink.ds:=by simp[List.map_take]
  have e2:List.drop (k+1) (List.take n.cuts.length (n.cuts.map DLink.ds))=(n.cuts.drop (k+1)).map DLink.ds:=by rw[List.take_of_length_le ai,List.map_drop]
  have eq3:(n.cuts.take k++n.cuts.drop (k+1)).map DLink.ds=[]++(n.cuts.take k).map DLink.ds++(n.cuts.drop (k+1)).map DLink.ds:=ai;(conv=>whnf)
  repeat'(first|refine awz ?_|fail)
  (refine TD aL 7 (tkc [1,2,3,6,7,8] (.three 0 (.two 4 (.two 5 (onc [9,10,11] (.take 12 (.one 13 .done))) 9 (.two 5 (.one 10 (.one 11 (.take 12 (.one 13 .done)))) 10 (.one 5 (.one 11 (.take 12 (.one 13 .done)))))) 9 (.two 4 (.two 5 (.one 10 (.one 11 (.take 12 (.one 13 .done)))) 10 (.one 5 (.one 11 (.take 12 (.one 13 .done))))) 10 (onc [4,5,11] (.take 12 (.one 13 .done))))) 4 (.two 0 (.two 5 (onc [9,10,11] (.take 12 (.one 13 .done))) 9 (.two 5 (.one 10 (.one 11 (.take 12 (.one 13 .done)))) 10 (.one 5 (.one 11 (.take 12 (.one 13 .done)))))) 9 (.two 0 (.two 5 (.one 10 (.one 11 (.take 12 (.one 13 .done)))) 10 (.one 5 (.one 11 (.take 12 (.one 13 .done))))) 10 (onc [0,5,11] (.take 12 (.one 13 .done))))) 9 (.three 0 (.two 4 (.two 5 (.one 10 (.one 11 (.take 12 (.one 13 .done)))) 10 (.one 5 (.one 11 (.take 12 (.one 13 .done))))) 10 (onc [4,5,11] (.take 12 (.one 13 .done)))) 4 (.two 0 (.two 5 (.one 10 (.one 11 (.take 12 (.one 13 .done)))) 10 (.one 5 (.one 11 (.take 12 (.one 13 .done))))) 10 (onc [0,5,11] (.take 12 (.one 13 .done)))) 10 (.two 0 (onc [4,5,11] (.take 12 (.one 13 .done))) 4 (onc [0,5,11] (.take 12 (.one 13 .done))))))) [(3,9980)] tK ae ae ae ae (λRz=>?_);(conv=>whnf);intro bp0 up0;(conv=>whnf))
  repeat'(first|refine awz ?_|(refine⟨0,k,rfl,rfl,Nat.zero_le _,ar,?_⟩;conv=>whnf;rw[e1])|(refine⟨k+1,n.cuts.length,rfl,(by simp[rW]),ac,ai,?_⟩;conv=>whnf;rw[e2])|((first|refine aP (by first|(intro y hy;obtain⟨a,_,rfl⟩:=List.mem_map.1 hy;rfl)|(simp;done)) ?_|refine aQ ak ?_|refine Tz ac ac ?_|fail)<;>conv=>whnf)|refine tW ?_ ?_|fail)
  all_goals exact⟨(⟨n.flight,n.cuts.take k++n.cuts.drop (k+1)⟩,true),PU hn k,by show _=AR.tup [.agg [.own 41,.d (.sl ((n.cuts.take k++n.cuts.drop (k+1)).map DLink.ds))],_];first|(rw[eq3];done)|(rw[eq3];rfl),rfl,rfl,trivial⟩
def By(l:List Int)(a n:Int):Bool:=aI a 0 5&&tOk n&&decide (l.getD a.toNat 0+n<=1000000)
theorem j6{l:List Int}(h:cK l=true):l.length=6/\∀x∈l,0<=x/\x<=1000000:=by
 simp only[cK,and_eq_true,decide_eq_true_eq,List.all_eq_true,tOk,aI]at h;exact h
theorem mA(l:List Int)(h:cK l=true):aM av 189 [.one (.sl (l.map eI))] (rB true):=by
 obtain⟨h6,hr⟩:=j6 h;have q:(((l.map eI).length:Int) !=6)=false:=by simp[h6]
 refine pO func189 call189 ntmps189 results189 λS=>?_;conv=>whnf
 repeat'(first|refine awz ?_|fail)
 refine TE (λk:Nat=>k<=l.length) (2::3::rg 7 12) (λk=>[(3,vI .i64 (k:Int))]) (λk=>[]) (λk=>l.length-k) 0 (Nat.zero_le _) ?_ Tx (λk hk=>?_)<;>(conv=>whnf)
 ·exact whd
 ·by_cases hlt:k<l.length
  ·have hc:decide ((k:Int)<((l.map eI).length:Int))=true:=al;have ct:=bP l[k];rw[show aI l[k] 0 1000000=true from kW (hr _ (List.getElem_mem hlt))]at ct;repeat'((first|refine awz ?_|refine TJ hlt ?_|refine cP (ct) ?_|refine Tz ac ac ?_|fail)<;>conv=>whnf)
   all_goals
    refine aW.mk ⟨k+1,hlt,ac,?_,Tx⟩;exact hds
  ·have e:k=l.length:=ac;subst e;have hc:decide ((l.length:Int)<((l.map eI).length:Int))=false:=ai;repeat'(first|refine awz ?_|exact rZ|fail)
theorem Mu(l:List Int)(a n:Int)(h:cK l=true)(ht:By l a n=false):aM av 130 [.one (.sl (l.map eI)),pI a,pI n] (.tup [.one (.sl (l.map eI)),.one (dB false)]):=by
 obtain⟨h6,hr⟩:=j6 h;have c1:=mA l h;have c2:=wz l ac;have c3:=gm a;have c4:=bP n;cases h1:aI a 0 5 with
 |false=>
  rw[h1]at c3;refine pO func130 call130 ntmps130 results130 λS=>?_;conv=>whnf
  repeat'((first|refine awz ?_|refine cP (c1) ?_|refine cP (c2) ?_|refine cP (c3) ?_|exact rZ|fail)<;>conv=>whnf)
 |true=>
  rw[h1]at c3;cases h2:aI n 0 1000000 with
  |false=>
   rw[h2]at c4;refine pO func130 call130 ntmps130 results130 λS=>?_;conv=>whnf
   repeat'((first|refine awz ?_|refine cP (c1) ?_|refine cP (c2) ?_|refine cP (c3) ?_|refine cP (c4) ?_|exact rZ|fail)<;>conv=>whnf)
  |true=>
   rw[h2]at c4;simp only[aI,and_eq_true,decide_eq_true_eq]at h1 h2;obtain⟨k,rfl⟩:∃k:Nat,a=(k:Int):=⟨a.toNat,ac⟩;have hk:k<l.length:=ac;have hx:=hr _ (List.getElem_mem hk);have q:decide (l[k]+n>1000000)=true:=by
    simp only[By,aI,tOk,Bool.and_eq_false_iff,decide_eq_false_iff_not,Int.toNat_natCast,List.getD_eq_getElem?_getD,List.getElem?_eq_getElem hk,Option.getD_some]at ht;simp only[decide_eq_true_eq];omega
   refine pO func130 call130 ntmps130 results130 λS=>?_;conv=>whnf
   repeat'((first|refine awz ?_|refine cP (c1) ?_|refine cP (c2) ?_|refine cP (c3) ?_|refine cP (c4) ?_|refine TJ hk ?_|refine Tz ac ac ?_|exact rZ|fail)<;>conv=>whnf)
theorem Mt(l:List Int)(k:Nat)(n:Int)(h:cK l=true)(ht:By l k n=true):cV av 130 [.one (.d (.sl (l.map eI))),.one (.d (dI (k:Int))),.one (.d (dI n))] [] [(42,.row 2 1 ((l.set k (l.getD k 0+n)).map eI))] [] (.tup [.one (.own 42),.one (.d (dB true))]):=by
 obtain⟨h6,hr⟩:=j6 h;have hs:l.length<=1048576:=ac;have c1:=mA l h;have c3:=gm (k:Int);have c4:=bP n;simp only[By,tOk,and_eq_true,decide_eq_true_eq,Int.toNat_natCast]at ht;obtain⟨⟨h1,h2⟩,h3⟩:=ht;rw[h1]at c3;rw[h2]at c4;simp only[aI,and_eq_true,decide_eq_true_eq]at h1 h2;have hk:k<l.length:=ac;have hx:=hr _ (List.getElem_mem hk);rw[List.getD_eq_getElem?_getD,List.getElem?_eq_getElem hk,Option.getD_some]at h3⊢;have q:decide (l[k]+n>1000000)=false:=al;have es:(l.set k (l[k]+n)).map eI=(l.map eI).set k (eI (l[k]+n)):=List.map_set ..;rw[es];refine bL aL func130 rfl call130 ntmps130 (WA results130) rfl λS pv=>?_;conv=>whnf
 repeat'((first|refine awz ?_|refine cP (c1) ?_|refine TA (Hs l hs) [(3,42)] rfl rfl ?_|refine cP (c3) ?_|refine cP (c4) ?_|refine TJ hk ?_|refine Tz ac ac ?_|exact rZ|fail)<;>conv=>whnf)
def Ac(a n:Int):Bool:=aI a 0 5&&tOk n
theorem Mi(l:List Int)(a n:Int)(h:cK l=true)(ht:Ac a n=false):aM av 131 [.one (.sl (l.map eI)),pI a,pI n] (.tup [.one (.sl (l.map eI)),.one (dB false)]):=by
 obtain⟨h6,hr⟩:=j6 h;have c1:=mA l h;have c2:=wz l ac;have c3:=gm a;have c4:=bP n;cases h1:aI a 0 5 with
 |false=>
  rw[h1]at c3;refine pO func131 call131 ntmps131 results131 λS=>?_;conv=>whnf
  repeat'((first|refine awz ?_|refine cP (c1) ?_|refine cP (c2) ?_|refine cP (c3) ?_|exact rZ|fail)<;>conv=>whnf)
 |true=>
  rw[h1]at c3;have h2:aI n 0 1000000=false:=by simpa[Ac,h1,tOk]using ht
  rw[h2]at c4;refine pO func131 call131 ntmps131 results131 λS=>?_;conv=>whnf
  repeat'((first|refine awz ?_|refine cP (c1) ?_|refine cP (c2) ?_|refine cP (c3) ?_|refine cP (c4) ?_|exact rZ|fail)<;>conv=>whnf)
theorem Mh(l:List Int)(k:Nat)(n:Int)(h:cK l=true)(ht:Ac k n=true):cV av 131 [.one (.d (.sl (l.map eI))),.one (.d (dI (k:Int))),.one (.d (dI n))] [] [(42,.row 2 1 ((l.set k n).map eI))] [] (.tup [.one (.own 42),.one (.d (dB true))]):=by
 obtain⟨h6,hr⟩:=j6 h;have hs:l.length<=1048576:=ac;have c1:=mA l h;have c3:=gm (k:Int);have c4:=bP n;simp only[Ac,tOk,and_eq_true]at ht;obtain⟨h1,h2⟩:=ht;rw[h1]at c3;rw[h2]at c4;simp only[aI,and_eq_true,decide_eq_true_eq]at h1 h2;have hk:k<l.length:=ac;have es:(l.set k n).map eI=(l.map eI).set k (eI n):=List.map_set ..;rw[es];refine bL aL func131 rfl call131 ntmps131 (WA results131) rfl λS pv=>?_;conv=>whnf
 repeat'((first|refine awz ?_|refine cP (c1) ?_|refine TA (Hs l hs) [(3,42)] rfl rfl ?_|refine cP (c3) ?_|refine cP (c4) ?_|refine TJ hk ?_|exact rZ|fail)<;>conv=>whnf)
section
def MR(lo hi:Nat)(cs ds:List AD):Prop:=
 cs.length=ds.length/\∃Q:Nat->Nat->Prop,(∀i b,Q i b->lo<=b/\b<hi)/\(∀i j b,Q i b->Q j b->i=j)/\∀(i:Nat) c d,cs[i]? =some c->ds[i]? =some d->∀(Z:Nat->Prop) (w:World) (u:Value),bK Z w c u->ip w (λb=>Q i b/\Z b) d u
theorem MR.fam{lo hi:Nat}{cs ds:List AD}(h:MR lo hi cs ds):Fam lo hi cs ds:=by
 obtain⟨hl,Q,q,eQ,rQ⟩:=h;refine⟨hl,λZ w us hu hr=>⟨by rw[hu,hl],λi b=>Q i b/\Z b,λi b h=>⟨(q i b h.1).1,(q i b h.1).2,h.2⟩,λi j b h h'=>eQ i j b h.1 h'.1,λi a u ha hx=>?_⟩⟩;have hi:i<cs.length:=by rw[hl];exact(List.getElem?_eq_some_iff.1 ha).1
 exact rQ i cs[i] a (List.getElem?_eq_getElem hi) ha Z w u (hr i _ u (List.getElem?_eq_getElem hi) hx)
theorem MR.set{lo hi:Nat}{cs ds:List AD}(h:MR lo hi cs ds)(k:Nat){d:AD}(hb:d.isBl=true):MR lo hi (cs.set k d) (ds.set k d):=by
 obtain⟨hl,Q,q,eQ,rQ⟩:=h;refine⟨by simp[hl],λi b=>i≠k/\Q i b,λi b h=>q i b h.2,λi j b h h'=>eQ i j b h.2 h'.2,λi c a hc ha Z w u hr=>?_⟩;rw[List.getElem?_set]at hc ha;by_cases hk:k=i
 ·rw[if_pos hk]at hc ha;split at hc
  ·split at ha
   ·injection hc with hc
    injection ha with ha
    subst hc ha;exact KP hb hr
   ·cases ha
  ·cases hc
 ·rw[if_neg hk]at hc ha;exact(rQ i c a hc ha Z w u hr).mono λb hb=>⟨⟨λe=>hk e.symm,hb.1⟩,hb.2⟩
section
variable {E:a6} {S:bj}
end
end
section
section
variable {α:Type}
end
end
section
variable {xs:List (List AD)}
theorem alW{s:Nat}(h:∀x∈xs,x.length=s:=by first|(intro y hy;obtain⟨a,_,rfl⟩:=List.mem_map.1 hy;rfl)|(simp;done)):∀x∈xs,x.length=s:=h
theorem PL{n:Nat}(h:∀x∈xs,x.all AD.isBl=true:=by(intro y hy;obtain⟨a,_,rfl⟩:=List.mem_map.1 hy;rfl)):Fam n n xs.flatten xs.flatten:=TX (Kr h)
theorem Dm(l:List Int)(hs:l.length<=1048576):mh av 50 [.one (.sl (l.map eI))] (.one (.sl (l.map eI))):=by
 refine Nm aL func50 rfl call50 ntmps50 (WA results50) λS=>?_;conv=>whnf
 repeat'((first|refine awz ?_|refine aQ an ?_|refine aP alW ?_|fail)<;>conv=>whnf)
 exact⟨_,_,l.map eI,Nat.le_refl _,PL (n:=S.w0.heap.size),rfl,alW,rfl⟩
end
section
variable {n:Nat}{α:Type}
theorem aG.sz{E:a6}{S:bj}{f:FuncId}{args:List AV}{st:ASt}{K:AV->ASt->Prop}{p:AP1}{left a:Int}(hc:aM E f [p,pI left] (rI (max (left-a) (-1))))(hps:aPs args (· =[p,pI left]))
  (h1:decide (left-a<0)=true->K (vI .i64 (-1)) st) (h2:decide (left-a<0)=false->K (vI .i64 (left-a)) st):aG E S f args st K:=by
 refine Tt hc hps ?_;cases h:decide (left-a<0)with
 |true=>
  have e:max (left-a) (-1)= -1:=by simp only[decide_eq_true_eq]at h;omega
  rw[e];exact h1 h
 |false=>
  have e:max (left-a) (-1)=left-a:=by simp only[decide_eq_false_iff_not]at h;omega
  rw[e];exact h2 h
def DZ{α:Type}(f:α->Nat):List α->Nat
 |[]=>0
 |x::r=>1+f x+DZ f r
theorem vD(f:α->Nat):∀l:List α,l.length<=DZ f l
 |[]=>Nat.le_refl _
 |x::r=>by have:=vD f r;simp only[List.length_cons,DZ];omega
theorem vE{f:α->Nat}:∀{l:List α} {y:α},y∈l->f y<=DZ f l
 |x::r,y,h=>by
  rcases List.mem_cons.1 h with rfl|h
  ·simp only[DZ];omega
  ·have:=vE (f:=f) h;simp only[DZ];omega
def DWrite.cnt(x:DWrite):Nat:=x.row.length
theorem UC{x:DWrite}(h:x.cnt<=n):DWrite.small n x:=by
 unfold DWrite.cnt at h;unfold DWrite.small;exact ac
def DDisk.cnt(x:DDisk):Nat:=DZ (λl=>l.length) x.kept+DZ DWrite.cnt x.wait
theorem T4{x:DDisk}(h:x.cnt<=n):DDisk.small n x:=by
 unfold DDisk.cnt at h;unfold DDisk.small;exact⟨(by have:=vD (λl=>l.length) x.kept;omega),(λy hy=>(by have:y.length<=_:=vE (f:=(λl=>l.length)) hy;omega)),(by have:=vD DWrite.cnt x.wait;omega),(λy hy=>UC (by have:=vE (f:=DWrite.cnt) hy;omega))⟩
def DTwo.cnt(x:DTwo):Nat:=DDisk.cnt x.a+DDisk.cnt x.b
theorem U0{x:DTwo}(h:x.cnt<=n):DTwo.small n x:=by
 unfold DTwo.cnt at h;unfold DTwo.small;exact⟨(T4 ac),(T4 ac)⟩
def DHead.cnt(x:DHead):Nat:=x.seen.length
theorem Ue{x:DHead}(h:x.cnt<=n):DHead.small n x:=by
 unfold DHead.cnt at h;unfold DHead.small;exact ac
def DBook.cnt(x:DBook):Nat:=x.entries.length
theorem UP{x:DBook}(h:x.cnt<=n):DBook.small n x:=by
 unfold DBook.cnt at h;unfold DBook.small;exact ac
def DLogNode.cnt(x:DLogNode):Nat:=DTwo.cnt x.two+DHead.cnt x.head+DHead.cnt x.nxt+DBook.cnt x.book+x.seen.length+x.owe.length
theorem Up{x:DLogNode}(h:x.cnt<=n):DLogNode.small n x:=by
 unfold DLogNode.cnt at h;unfold DLogNode.small;exact⟨(U0 ac),(Ue ac),(Ue ac),(UP ac),ac,ac⟩
def DState.cnt(x:DState):Nat:=x.pairs.length+x.jobs.length
theorem UA{x:DState}(h:x.cnt<=n):DState.small n x:=by
 unfold DState.cnt at h;unfold DState.small;exact⟨ac,ac⟩
def DStore.cnt(x:DStore):Nat:=DDisk.cnt x.disk+DState.cnt x.state
theorem UB{x:DStore}(h:x.cnt<=n):DStore.small n x:=by
 unfold DStore.cnt at h;unfold DStore.small;exact⟨(T4 ac),(UA ac)⟩
def DJobs.cnt(x:DJobs):Nat:=x.opens.length
theorem UQ{x:DJobs}(h:x.cnt<=n):DJobs.small n x:=by
 unfold DJobs.cnt at h;unfold DJobs.small;exact ac
def DView.cnt(x:DView):Nat:=DJobs.cnt x.jobs
theorem UR{x:DView}(h:x.cnt<=n):DView.small n x:=by
 unfold DView.cnt at h;unfold DView.small;exact(UQ ac)
def DSched.cnt(x:DSched):Nat:=DView.cnt x.view
theorem T9{x:DSched}(h:x.cnt<=n):DSched.small n x:=by
 unfold DSched.cnt at h;unfold DSched.small;exact(UR ac)
def DClient.cnt(x:DClient):Nat:=x.todo.length+x.gots.length
theorem T5{x:DClient}(h:x.cnt<=n):DClient.small n x:=by
 unfold DClient.cnt at h;unfold DClient.small;exact⟨ac,ac⟩
def DMsg.cnt(x:DMsg):Nat:=x.row.length
theorem UW{x:DMsg}(h:x.cnt<=n):DMsg.small n x:=by
 unfold DMsg.cnt at h;unfold DMsg.small;exact ac
def DNet.cnt(x:DNet):Nat:=DZ DMsg.cnt x.flight+x.cuts.length
theorem UX{x:DNet}(h:x.cnt<=n):DNet.small n x:=by
 unfold DNet.cnt at h;unfold DNet.small;exact⟨(by have:=vD DMsg.cnt x.flight;omega),(λy hy=>UW (by have:=vE (f:=DMsg.cnt) hy;omega)),ac⟩
def DWorld.cnt(x:DWorld):Nat:=DLogNode.cnt x.log+DStore.cnt x.store+DSched.cnt x.left+DSched.cnt x.right+DClient.cnt x.ann+DClient.cnt x.bob+DNet.cnt x.net+x.clocks.length+x.up.length
theorem V0{x:DWorld}(h:x.cnt<=n):DWorld.small n x:=by
 unfold DWorld.cnt at h;unfold DWorld.small;exact⟨(Up ac),(UB ac),(T9 ac),(T9 ac),(T5 ac),(T5 ac),(UX ac),ac,ac⟩
end
def kr(x:DWorld)(n:Nat):Option DWorld:=
 if dy x n then none else match n with
 |0=>(f8 x.log).map λl=>{x with log:=l,up:=x.up.set 0 true}
 |1=>(eY x.store).map λs=>{x with store:=s,up:=x.up.set 1 true}
 |n=>some {x with up:=x.up.set n true}
theorem Oh{l:List Bool}{n k:Nat}(hl:l.length=6)(hn:n<=3):(l.set n true).getD k false=if n=k then true else l.getD k false:=by
 rw[List.getD_eq_getElem?_getD,List.getElem?_set];split
 ·rename_i h;subst h;rw[if_pos ac];rfl
 ·rw[List.getD_eq_getElem?_getD]
theorem py{x y:DWorld}{n:Nat}(hn:n<=3)(hw:bz x=true)(h:kr x n=some y):bz y=true:=by
 unfold kr at h;split at h
 ·cases h
 ·rw[mg]at hw⊢;simp only[Bool.and_eq_true,decide_eq_true_eq,dy]at hw⊢;obtain⟨⟨⟨⟨⟨⟨c1,c2⟩,c3⟩,⟨⟨⟨⟨⟨u4,u5⟩,a1⟩,a2⟩,b1⟩,b2⟩⟩,⟨s1,s2⟩⟩,l1⟩,l2⟩:=hw;split at h
  ·cases hr:f8 x.log with
   |none=>rw[hr]at h;cases h
   |some l=>
    rw[hr]at h;injection h with h
    subst h;have hl:=GJ hr;simp only[Oh c2 hn,List.length_set];exact⟨⟨⟨⟨⟨⟨c1,c2⟩,c3⟩,⟨⟨⟨⟨⟨u4,u5⟩,a1⟩,a2⟩,b1⟩,b2⟩⟩,⟨s1,s2⟩⟩,hl⟩,l2⟩
  ·cases hr:eY x.store with
   |none=>rw[hr]at h;cases h
   |some l=>
    rw[hr]at h;injection h with h
    subst h;have hl:=BM hr;simp only[Oh c2 hn,List.length_set];exact⟨⟨⟨⟨⟨⟨c1,c2⟩,c3⟩,⟨⟨⟨⟨⟨u4,u5⟩,a1⟩,a2⟩,b1⟩,b2⟩⟩,⟨s1,s2⟩⟩,l1⟩,hl⟩
  ·injection h with h
   subst h;rename_i h0 h1;have e0:n≠0:=h0;have e1:n≠1:=h1;simp only[Oh c2 hn,List.length_set,if_neg e0,if_neg e1];refine⟨⟨⟨⟨⟨⟨c1,c2⟩,c3⟩,⟨⟨⟨⟨⟨?_,?_⟩,a1⟩,a2⟩,b1⟩,b2⟩⟩,⟨?_,?_⟩⟩,l1⟩,l2⟩
   ·rw[if_neg ac];exact u4
   ·rw[if_neg ac];exact u5
   ·unfold cY at s1⊢;split
    ·simp_all
    ·exact s1
   ·unfold cY at s2⊢;split
    ·simp_all
    ·exact s2
section
section
variable {α:Type} {l:List α} {p:α->Bool}
theorem FH{k:Nat}(hk:k<l.length)(h1:p l[k]=true)(h0:∀(j:Nat) (hj:j<l.length),j<k->p l[j]=false):l.find? p=some l[k]:=by
 induction l generalizing k with
 |nil=>simp at hk
 |cons x r ih=>
  cases k with
  |zero=>exact List.find?_cons_of_pos h1
  |succ k=>
   have hx:=h0 0 ai ac;simp only[List.getElem_cons_zero]at hx;rw[List.find?_cons_of_neg (by simp[hx])];exact ih (by simpa using hk) h1 λj hj hjk=>h0 (j+1) (by simpa using hj) ac
theorem CL(h0:∀(j:Nat) (hj:j<l.length),p l[j]=false):l.find? p=none:=by
 refine List.find?_eq_none.2 λx hx=>?_;obtain⟨j,hj,rfl⟩:=List.getElem_of_mem hx;simp[h0 j hj]
end
def Sp(o:Option DPair):AP:= .tup [.one (dI ((o.map DPair.value).getD 0)),.one (dB o.isSome)]
def rY(k:Int)(x:DPair):Bool:=x.key==k
theorem uX(l:List DPair)(k:Int)(h:bo l=true):aM av 280 [.one (.sl (l.map DPair.ds)),pI k] (Sp (l.find? (rY k))):=by
 have c1:=dX l;rw[h]at c1;have hm:=hI h;refine pO func280 call280 ntmps280 results280 λS=>?_;conv=>whnf
 repeat'(first|refine awz ?_|(refine cP (c1) ?_;conv=>whnf)|fail)
 refine TE (λi:Nat=>i<=l.length/\∀(j:Nat) (hj:j<l.length),j<i->rY k l[j]=false) (4::5::6::rg 10 18) (λi=>[(6,vI .i64 (i:Int))]) (λ_=>[]) (λi=>l.length-i) 0 ⟨Nat.zero_le _,λj _ hj=>absurd hj ac⟩ ?_ Tx (λi hi=>?_)<;>(conv=>whnf)
 ·exact whd
 ·obtain⟨hi,hall⟩:=hi;by_cases hlt:i<l.length
  ·have hc:decide ((i:Int)<((l.map DPair.ds).length:Int))=true:=al;cases hk:rY k l[i]with
   |true=>
    have hc2:(l[i].key==k)=true:=hk;rw[FH hlt hk hall];repeat'(first|refine awz ?_|(refine TJ hlt ?_;conv=>whnf)|exact rZ|fail)
   |false=>
    have hc2:(l[i].key==k)=false:=hk;repeat'((first|refine awz ?_|refine TJ hlt ?_|refine Tz ac ac ?_|fail)<;>conv=>whnf)
    refine aW.mk ⟨i+1,⟨hlt,λj hj hji=>?_⟩,ac,?_,Tx⟩
    ·by_cases e:j=i
     ·subst e;exact hk
     ·exact hall j hj ac
    ·exact hds
  ·have e:i=l.length:=ac;subst e;have hc:decide ((l.length:Int)<((l.map DPair.ds).length:Int))=false:=ai;rw[CL λj hj=>hall j hj hj];repeat'(first|refine awz ?_|exact rZ|fail)
theorem N1(l:List DPair)(p:DPair)(h:bo l=true)(hp:dV p=true):aM av 311 [.one (.sl (l.map DPair.ds)),pI p.key,pI p.value] (.tup [.one (.sl ((qO l p).map DPair.ds)),.one (dB true)]):=by
 have c1:=dX l;rw[h]at c1;have c2:=sS p;rw[hp]at c2;have hpr:=hp;simp only[dV,aI,Bool.and_eq_true,decide_eq_true_eq]at hpr;have hm:=hI (yM h hp);have pw:=(iy h).2;have hmem:∀x∈qO l p,0<=x.key/\x.key<=9:=λx hx=>by
  have:=(iy (yM h hp)).1 x hx;simp only[dV,aI,Bool.and_eq_true,decide_eq_true_eq]at this;exact this.1
 have e0:jX DPair.key (qO l p) (((0:Nat):Int)-1)=[]:=BA λx hx=>by have:=hmem x hx;omega
 have e10:jX DPair.key (qO l p) (((10:Nat):Int)-1)=qO l p:=Dy λx hx=>by have:=hmem x hx;omega
 refine pO func311 call311 ntmps311 results311 λS=>?_;conv=>whnf
 repeat'((first|refine awz ?_|refine cP (c1) ?_|refine cP (c2) ?_|fail)<;>conv=>whnf)
 refine TE (λk:Nat=>k<=10) (23::[8,9,10,11,24,25,26,27,28,29,30,31,32,33,34,35,36,37,38,39,40,41,42,43,44]) (λk=>[(8,.one (.own 23)),(9,vI .i64 (k:Int))]) (λk=>[(23,.row 315 2 ((jX DPair.key (qO l p) ((k:Int)-1)).map DPair.ds))]) (λk=>10-k) 0 (Nat.zero_le _) ?_ (Tu (by rw[e0];rfl) Tx) (λk hk=>?_)<;>(conv=>whnf)
 ·exact whd
 ·have hst:=C0 (p:=p) pw (k:Int);have hlen:(jX DPair.key (qO l p) ((k:Int)-1)).length<=10:=Nat.le_trans (List.length_filter_le _ _) hm;have hss:((k:Int)+1)-1=k:=ac;by_cases hlt:k<10
  ·have hc:decide ((k:Int)<=9)=true:=by simp only[decide_eq_true_eq];omega
   have cv:=uX l (k:Int) h;by_cases e:(k:Int)=p.key
   ·have hc2:((k:Int)==p.key)=true:=by simpa using e
    rw[if_pos e]at hst;repeat'((first|refine awz ?_|refine cP (cv) ?_|refine aQ ak ?_|refine Tz ac ac ?_|fail)<;>conv=>whnf)
    all_goals
     refine aW.mk ⟨k+1,hlt,ac,?_,Tu ?_ Tx⟩
     ·exact hds
     ·show some (AO.row _ _ _)=some (AO.row _ _ ((jX DPair.key (qO l p) (((k+1:Nat):Int)-1)).map DPair.ds));rw[show(((k+1:Nat):Int)-1)=(k:Int)by omega];unfold qO at*
      rw[hst,List.map_append];simp only[List.map_cons,List.map_nil,DPair.ds,<-e]
   ·have hc2:((k:Int)==p.key)=false:=by simpa using e
    rw[if_neg e]at hst;have hf:l.find? (λx=>DPair.key x==(k:Int))=l.find? (rY k):=rfl;rw[hf]at hst;cases ho:l.find? (rY k)with
    |none=>
     rw[ho]at cv hst;repeat'((first|refine awz ?_|refine cP (cv) ?_|refine Tz ac ac ?_|fail)<;>conv=>whnf)
     all_goals
      refine aW.mk ⟨k+1,hlt,ac,?_,Tu ?_ Tx⟩
      ·exact hds
      ·show some (AO.row _ _ _)=some (AO.row _ _ ((jX DPair.key (qO l p) (((k+1:Nat):Int)-1)).map DPair.ds));rw[show(((k+1:Nat):Int)-1)=(k:Int)by omega];unfold qO at*
       rw[hst];simp
    |some x=>
     have hx:x.key=k:=by simpa[rY]using List.find?_some ho
     rw[ho]at cv hst;repeat'((first|refine awz ?_|refine cP (cv) ?_|refine aQ ak ?_|refine Tz ac ac ?_|fail)<;>conv=>whnf)
     all_goals
      refine aW.mk ⟨k+1,hlt,ac,?_,Tu ?_ Tx⟩
      ·exact hds
      ·show some (AO.row _ _ _)=some (AO.row _ _ ((jX DPair.key (qO l p) (((k+1:Nat):Int)-1)).map DPair.ds));rw[show(((k+1:Nat):Int)-1)=(k:Int)by omega];unfold qO at*
       rw[hst,List.map_append];simp only[List.map_cons,List.map_nil,DPair.ds,hx];rfl
  ·have e:k=10:=ac;subst e;have hc:decide (((10:Nat):Int)<=9)=false:=ah;rw[e10];repeat'(first|refine awz ?_|exact rZ|fail)
end
def Gj(k:Int)(x:DPair):Bool:=x.key !=k
theorem Ih{α:Type}{l:List α}{p:α->Bool}{k:Nat}(h:k<l.length):(l.take (k+1)).filter p=(l.take k).filter p++if p l[k]=true then [l[k]]else []:=by
 have e:l.take (k+1)=l.take k++[l[k]]:=by rw[List.take_add_one,List.getElem?_eq_getElem h];rfl
 rw[e,List.filter_append];congr 1;cases hp:p l[k]<;>simp[hp]
theorem L9(l:List DPair)(k:Int)(h:bo l=true):∃b,aM av 312 [.one (.sl (l.map DPair.ds)),pI k] (.tup [.one (.sl ((Lr l k).map DPair.ds)),.one (dB b)]):=by
 have c1:=dX l;rw[h]at c1;have hm:=hI h;refine⟨decide ((((Lr l k).map DPair.ds).length:Int)<((l.map DPair.ds).length:Int)),?_⟩;refine pO func312 call312 ntmps312 results312 λS=>?_;conv=>whnf
 repeat'(first|refine awz ?_|(refine cP (c1) ?_;conv=>whnf)|fail)
 refine TE (λi:Nat=>i<=l.length) (12::[6,7,13,14,15,16,17,18,19,20,21,22,23,24,25,26,27,28,29,30,31,32]) (λi=>[(6,.one (.own 12)),(7,vI .i64 (i:Int))]) (λi=>[(12,.row 315 2 (((l.take i).filter (Gj k)).map DPair.ds))]) (λi=>l.length-i) 0 (Nat.zero_le _) ?_ sbW (λi hi=>?_)<;>(conv=>whnf)
 ·exact whd
 ·have hlen:((l.take i).filter (Gj k)).length<=l.length:=Nat.le_trans (List.length_filter_le _ _) (by rw[List.length_take];omega);by_cases hlt:i<l.length
  ·have hc:decide ((i:Int)<((l.map DPair.ds).length:Int))=true:=al;have hf:=Ih (p:=Gj k) hlt;cases hk:Gj k l[i]with
   |true=>
    have hc2:(l[i].key !=k)=true:=hk;rw[if_pos hk]at hf;repeat'((first|refine awz ?_|refine TJ hlt ?_|refine aQ ak ?_|refine Tz ac ac ?_|fail)<;>conv=>whnf)
    all_goals
     refine aW.mk ⟨i+1,hlt,ac,?_,Tu (by rw[hf,List.map_append];rfl) Tx⟩;exact hds
   |false=>
    have hc2:(l[i].key !=k)=false:=hk;rw[if_neg (by rw[hk];simp),List.append_nil]at hf;repeat'((first|refine awz ?_|refine TJ hlt ?_|refine Tz ac ac ?_|fail)<;>conv=>whnf)
    all_goals
     refine aW.mk ⟨i+1,hlt,ac,?_,Tu (by rw[hf];rfl) Tx⟩;exact hds
  ·have e:i=l.length:=ac;subst e;have hc:decide ((l.length:Int)<((l.map DPair.ds).length:Int))=false:=ai;have ht:(l.take l.length).filter (Gj k)=Lr l k:=by rw[List.take_length];rfl
   rw[ht];repeat'(first|refine awz ?_|exact rZ|fail)
def Sh:DJob:=⟨0,0,0,0,0⟩
def So(o:Option DJob):AP:= .tup [.agg (o.getD Sh).ds,.one (dB o.isSome)]
def PO(k:Int)(x:DJob):Bool:=x.id==k
theorem sK(l:List DJob)(k:Int)(h:bu l=true):aM av 315 [.one (.sl (l.map DJob.ds)),pI k] (So (t9 l k)):=by
 have c1:=dH l;rw[h]at c1;have hm:=(cN h).1;have ej:t9 l k=l.find? (PO k):=rfl;rw[ej];refine pO func315 call315 ntmps315 results315 λS=>?_;conv=>whnf
 repeat'(first|refine awz ?_|(refine cP (c1) ?_;conv=>whnf)|fail)
 refine TE (λi:Nat=>i<=l.length/\∀(j:Nat) (hj:j<l.length),j<i->PO k l[j]=false) (5::6::rg 11 17) (λi=>[(6,vI .i64 (i:Int))]) (λ_=>[(4,.cells 256 [.d (dI 0),.d (dI 0),.d (dI 0),.d (dI 0),.d (dI 0)])]) (λi=>l.length-i) 0 ⟨Nat.zero_le _,λj _ hj=>absurd hj ac⟩ ?_ sbW (λi hi=>?_)<;>(conv=>whnf)
 ·exact whd
 ·obtain⟨hi,hall⟩:=hi;by_cases hlt:i<l.length
  ·have hc:decide ((i:Int)<((l.map DJob.ds).length:Int))=true:=al;cases hk:PO k l[i]with
   |true=>
    have hc2:(l[i].id==k)=true:=hk;rw[FH hlt hk hall];repeat'(first|refine awz ?_|(refine TJ hlt ?_;conv=>whnf)|exact rZ|fail)
   |false=>
    have hc2:(l[i].id==k)=false:=hk;repeat'((first|refine awz ?_|refine TJ hlt ?_|refine Tz ac ac ?_|fail)<;>conv=>whnf)
    refine aW.mk ⟨i+1,⟨hlt,λj hj hji=>?_⟩,ac,?_,sbW⟩
    ·by_cases e:j=i
     ·subst e;exact hk
     ·exact hall j hj ac
    ·exact hds
  ·have e:i=l.length:=ac;subst e;have hc:decide ((l.length:Int)<((l.map DJob.ds).length:Int))=false:=ai;rw[CL λj hj=>hall j hj hj];repeat'(first|refine awz ?_|exact rZ|fail)
theorem u7(l:List DJob)(h:l.length<=1048576):aM av 296 [.one (.sl (l.map DJob.ds))] (.val (.one (.sl (l.map DJob.ds)))):=by
 refine pO func296 call296 ntmps296 results296 λS=>?_;conv=>whnf
 repeat'((first|refine awz ?_|refine aP (by first|(intro y hy;obtain⟨a,_,rfl⟩:=List.mem_map.1 hy;rfl)|(simp;done)) ?_|refine aQ ak ?_|exact rZ|fail)<;>conv=>whnf)
theorem JM(l:List DJob)(h:l.length<=1048576):cV av 296 [.one (.d (.sl (l.map DJob.ds)))] [] [(3,.row 256 5 (l.map DJob.ds))] [] (.val (.one (.own 3))):=by
 refine bL aL func296 rfl call296 ntmps296 (WA results296) rfl λS pv=>?_;conv=>whnf
 repeat'((first|refine awz ?_|refine aP (by first|(intro y hy;obtain⟨a,_,rfl⟩:=List.mem_map.1 hy;rfl)|(simp;done)) ?_|refine aQ ak ?_|exact rZ|fail)<;>conv=>whnf)
theorem Bn(l:List DPair)(h:l.length<=1048576):aM av 295 [.one (.sl (l.map DPair.ds))] (.val (.one (.sl (l.map DPair.ds)))):=by
 refine pO func295 call295 ntmps295 results295 λS=>?_;conv=>whnf
 repeat'((first|refine awz ?_|refine aP (by first|(intro y hy;obtain⟨a,_,rfl⟩:=List.mem_map.1 hy;rfl)|(simp;done)) ?_|refine aQ ak ?_|exact rZ|fail)<;>conv=>whnf)
theorem ya(l:List DJob)(p:DJob)(h:bu l=true)(hp:t5 l p=true):aM av 313 [.one (.sl (l.map DJob.ds)),.agg p.ds] (.tup [.one (.sl ((oJ l p).map DJob.ds)),.one (dB true)]):=by
 have c1:=dH l;rw[h]at c1;simp only[t5,Bool.and_eq_true,decide_eq_true_eq,beq_iff_eq,Option.isNone_iff_eq_none]at hp;obtain⟨⟨⟨p1,p2⟩,p3⟩,p4⟩:=hp;have c2:=wg p;rw[p1]at c2;have c3:=sK l p.id h;rw[p3]at c3;have hpr:=p1;simp only[jV,aI,Bool.and_eq_true,decide_eq_true_eq]at hpr;have hok:=Kh h p1 p2 p3 p4;have hm:=(cN hok).1;have pw:=(cN h).2.2.1;have hmem:∀x∈oJ l p,1<=x.id/\x.id<=20:=λx hx=>by
  have:=(cN hok).2.1 x hx;simp only[jV,aI,Bool.and_eq_true,decide_eq_true_eq]at this;omega
 have e0:jX DJob.id (oJ l p) (((1:Nat):Int)-1)=[]:=BA λx hx=>by have:=hmem x hx;omega
 have e21:jX DJob.id (oJ l p) (((21:Nat):Int)-1)=oJ l p:=Dy λx hx=>by have:=hmem x hx;omega
 have d1:(p.fired !=0)=false:=by simp[p2]
 have d2:decide (((l.map DJob.ds).length:Int)>=8)=false:=al;refine pO func313 call313 ntmps313 results313 λS=>?_;conv=>whnf
 repeat'((first|refine awz ?_|refine cP (c1) ?_|refine cP (c2) ?_|refine cP (c3) ?_|fail)<;>conv=>whnf)
 refine TE (λk:Nat=>1<=k/\k<=21) (41::[8,9,10,11,42,43,44,45,46,47,48,49,50,51,52,53,54,55,56,57,58,59,60,61,62,63,64]) (λk=>[(8,.one (.own 41)),(9,vI .i64 (k:Int))]) (λk=>[(3,.cells 256 (p.ds.map .d)),(41,.row 256 5 ((jX DJob.id (oJ l p) ((k:Int)-1)).map DJob.ds))]) (λk=>21-k) 1 ac ?_ (Tu rfl (Tu (by rw[e0];rfl) Tx)) (λk hk=>?_)<;>(conv=>whnf)
 ·exact whd
 ·have hst:=C0 (p:=p) pw (k:Int);have hlen:(jX DJob.id (oJ l p) ((k:Int)-1)).length<=8:=Nat.le_trans (List.length_filter_le _ _) hm;have hz:(((k+1:Nat):Int)-1)=(k:Int):=ac;by_cases hlt:k<21
  ·have hc:decide ((k:Int)<=20)=true:=by simp only[decide_eq_true_eq];omega
   have cv:=sK l (k:Int) h;have hf:l.find? (λx=>DJob.id x==(k:Int))=t9 l k:=rfl;by_cases e:(k:Int)=p.id
   ·have hc2:((k:Int)==p.id)=true:=by simpa using e
    rw[if_pos e]at hst;repeat'((first|refine awz ?_|refine cP (cv) ?_|refine aQ ak ?_|refine Tz ac ac ?_|fail)<;>conv=>whnf)
    all_goals
     refine aW.mk ⟨k+1,ac,ac,?_,Tu rfl (Tu ?_ Tx)⟩
     ·exact hds
     ·show some (AO.row _ _ _)=some (AO.row _ _ ((jX DJob.id (oJ l p) (((k+1:Nat):Int)-1)).map DJob.ds));rw[hz];unfold oJ at*
      rw[hst,List.map_append];rfl
   ·have hc2:((k:Int)==p.id)=false:=by simpa using e
    rw[if_neg e,hf]at hst;cases ho:t9 l k with
    |none=>
     rw[ho]at cv hst;repeat'((first|refine awz ?_|refine cP (cv) ?_|refine Tz ac ac ?_|fail)<;>conv=>whnf)
     all_goals
      refine aW.mk ⟨k+1,ac,ac,?_,Tu rfl (Tu ?_ Tx)⟩
      ·exact hds
      ·show some (AO.row _ _ _)=some (AO.row _ _ ((jX DJob.id (oJ l p) (((k+1:Nat):Int)-1)).map DJob.ds));rw[hz];unfold oJ at*
       rw[hst];simp
    |some x=>
     rw[ho]at cv hst;repeat'((first|refine awz ?_|refine cP (cv) ?_|refine aQ ak ?_|refine Tz ac ac ?_|fail)<;>conv=>whnf)
     all_goals
      refine aW.mk ⟨k+1,ac,ac,?_,Tu rfl (Tu ?_ Tx)⟩
      ·exact hds
      ·show some (AO.row _ _ _)=some (AO.row _ _ ((jX DJob.id (oJ l p) (((k+1:Nat):Int)-1)).map DJob.ds));rw[hz];unfold oJ at*
       rw[hst,List.map_append];rfl
  ·have e:k=21:=ac;subst e;have hc:decide (((21:Nat):Int)<=20)=false:=ah;rw[e21];repeat'(first|refine awz ?_|exact rZ|fail)
theorem GY(l:List DJob)(p:DJob)(h:bu l=true)(hp:t5 l p=false):aM av 313 [.one (.sl (l.map DJob.ds)),.agg p.ds] (.tup [.one (.sl (l.map DJob.ds)),.one (dB false)]):=by
 have c1:=dH l;rw[h]at c1;have hm:=(cN h).1;have c2:=wg p;have c3:=sK l p.id h;have cc:=u7 l ac;have key:∀{X Y:Prop},X->AB (decide (((l.map DJob.ds).length:Int)>=8)) X Y->True:=λ_ _=>trivial;cases j1:jV p with
 |false=>
  rw[j1]at c2;refine pO func313 call313 ntmps313 results313 λS=>?_;conv=>whnf
  repeat'((first|refine awz ?_|refine cP (c1) ?_|refine cP (c2) ?_|refine cP (c3) ?_|refine cP (cc) ?_|exact rZ|fail)<;>conv=>whnf)
 |true=>
  rw[j1]at c2;cases j2:(p.fired !=0)with
  |true=>
   refine pO func313 call313 ntmps313 results313 λS=>?_;conv=>whnf
   repeat'((first|refine awz ?_|refine cP (c1) ?_|refine cP (c2) ?_|refine cP (c3) ?_|refine cP (cc) ?_|exact rZ|fail)<;>conv=>whnf)
  |false=>
   cases j3:t9 l p.id with
   |some x=>
    rw[j3]at c3;refine pO func313 call313 ntmps313 results313 λS=>?_;conv=>whnf
    repeat'((first|refine awz ?_|refine cP (c1) ?_|refine cP (c2) ?_|refine cP (c3) ?_|refine cP (cc) ?_|exact rZ|fail)<;>conv=>whnf)
   |none=>
    rw[j3]at c3;have j4:decide (((l.map DJob.ds).length:Int)>=8)=true:=by
     have j2':(p.fired==0)=true:=by simpa using j2
     simp only[t5,j1,j2',j3,Option.isNone_none,Bool.true_and,decide_eq_false_iff_not]at hp;simp;omega
    refine pO func313 call313 ntmps313 results313 λS=>?_;conv=>whnf
    repeat'((first|refine awz ?_|refine cP (c1) ?_|refine cP (c2) ?_|refine cP (c3) ?_|refine cP (cc) ?_|exact rZ|fail)<;>conv=>whnf)
theorem Dl(o:DOp):aM av 314 [.agg o.ds] (.val (.agg (nR o).ds)):=by
 refine pO func314 call314 ntmps314 results314 λS=>?_;conv=>whnf
 repeat'(first|refine awz ?_|exact rZ|fail)
theorem G4(l:List DJob)(id i:Int)(n:Nat)(h:bu l=true)(hn:n<l.length)(hid:l[n].id=id)(hf:l[n].fired=0)(hi:1<=i/\i<=2000)(hno:∀x∈l,x.fired≠i):aM av 316 [.one (.sl (l.map DJob.ds)),pI id,pI i] (.tup [.one (.sl ((kJ l n i).map DJob.ds)),.one (dB true)]):=by
 have c1:=dH l;rw[h]at c1;have hm:=(cN h).1;have pw:=(cN h).2.2.1;have l1:=aN i 1 2000;rw[kW hi]at l1;have huniq:∀(j:Nat) (hj:j<l.length),l[j].id=id->j=n:=λj hj e=>by
  rcases Nat.lt_trichotomy j n with hjn|hjn|hjn
  ·have:=List.pairwise_iff_getElem.1 pw j n hj hn hjn;omega
  ·exact hjn
  ·have:=List.pairwise_iff_getElem.1 pw n j hn hj hjn;omega
 have es:(kJ l n i).map DJob.ds=(l.map DJob.ds).set n [dI l[n].id,dI l[n].due,dI l[n].key,dI l[n].value,dI i]:=by
  apply List.ext_getElem
  ·simp[kJ]
  ·intro k h1 h2;rw[List.getElem_map,j8,List.getElem_set];split
   ·rename_i e;subst e;rfl
   ·rw[List.getElem_map]
 rw[es];refine pO func316 call316 ntmps316 results316 λS=>?_;conv=>whnf
 repeat'((first|refine awz ?_|refine cP (c1) ?_|refine TA (JM l ac) [(3,41)] rfl rfl ?_|fail)<;>conv=>whnf)
 refine TE (λk:Nat=>k<=l.length) (2::9::10::rg 17 29) (λk=>[(9,vI .i64 (if n<k then(n:Int)else-1)),(10,vI .i64 (k:Int)),(2,vI .i64 i)]) (λk=>[(41,.row 256 5 (l.map DJob.ds))]) (λk=>l.length-k) 0 (Nat.zero_le _) ?_ sbW (λk hk=>?_)<;>(conv=>whnf)
 ·exact whd
 ·by_cases hlt:k<l.length
  ·have hc:decide ((k:Int)<((l.map DJob.ds).length:Int))=true:=al;have f1:(l[k].fired==i)=false:=by simpa using hno _ (List.getElem_mem hlt)
   by_cases e:k=n
   ·subst e;have f2:(l[k].id==id)=true:=by simpa using hid
    have f3:(l[k].fired==0)=true:=by simpa using hf
    repeat'((first|refine awz ?_|refine TJ hlt ?_|refine Tz ac ac ?_|fail)<;>conv=>whnf)
    refine aW.mk ⟨k+1,hlt,ac,?_,sbW⟩;rw[if_pos (by omega:k<k+1)];exact hds
   ·have f2:(l[k].id==id)=false:=by
     have:l[k].id≠id:=λe2=>e (huniq k hlt e2);simpa using this
    repeat'((first|refine awz ?_|refine TJ hlt ?_|refine Tz ac ac ?_|fail)<;>conv=>whnf)
    refine aW.mk ⟨k+1,hlt,ac,?_,sbW⟩;rw[show(if n<k+1 then(n:Int)else-1)=(if n<k then(n:Int)else-1)by by_cases e2:n<k;rw[if_pos e2,if_pos ac];rw[if_neg e2,if_neg ac]];exact hds
  ·have e:k=l.length:=ac;subst e;have hc:decide ((l.length:Int)<((l.map DJob.ds).length:Int))=false:=ai;rw[if_pos hn];have f4:decide ((n:Int)<0)=false:=ai;repeat'((first|refine awz ?_|refine cP (l1) ?_|refine TJ hn ?_|exact rZ|fail)<;>conv=>whnf)
theorem Mb(l:DLease)(t:Int):aM av 328 [.agg l.ds,pI t] (rB (Ec l t)):=by
 refine pO func328 call328 ntmps328 results328 λS=>?_;conv=>whnf
 repeat'((first|refine awz ?_|refine cP (dW l) ?_|refine cP (cU t) ?_|refine tW ?_ ?_|intro h)<;>conv=>whnf)
 all_goals simp_all[Ec,tOk]
theorem Jm(l:DLease)(who ep t:Int):aM av 335 [.agg l.ds,pI who,pI ep,pI t] (rB (Ef l who ep t)):=by
 refine pO func335 call335 ntmps335 results335 λS=>?_;conv=>whnf
 repeat'((first|refine awz ?_|refine cP (dW l) ?_|refine cP (cU t) ?_|refine tW ?_ ?_|intro h)<;>conv=>whnf)
 all_goals simp_all[Ef,tOk]
theorem A5(l:DLease)(who t long:Int)(h:dD l=true):aM av 317 [.agg l.ds,pI who,pI t,pI long] (.tup [.agg (if fS l who t long then uJ l who t long else l).ds,.one (dB (fS l who t long))]):=by
 have c1:=dW l;rw[h]at c1;have hf:=ub h;have r0:0<=l.epoch/\l.epoch<=1000:=by
  rcases hf with hf|hf
  ·rw[hf];simp
  ·omega
 have hfr:=Mb l t;cases g1:(fz who&&tOk t&&aI long 1 1000)with
 |false=>
  have eg:fS l who t long=false:=by simp only[fS,g1,Bool.false_and]
  rw[eg,if_neg ai];refine pO func317 call317 ntmps317 results317 λS=>?_;conv=>whnf
  repeat'((first|refine awz ?_|refine cP (c1) ?_|refine cP (eO who) ?_|refine cP (cU t) ?_|refine cP (aN long 1 1000) ?_|exact rZ|refine tW ?_ ?_|intro h)<;>conv=>whnf)
  all_goals(exfalso;simp_all[tOk];done)
 |true=>
  simp only[Bool.and_eq_true]at g1;obtain⟨⟨g1,g2⟩,g3⟩:=g1;have c2:=eO who;have c3:=cU t;have c4:=aN long 1 1000;unfold tOk at g2;rw[g1]at c2;rw[g2]at c3;rw[g3]at c4;have b2:=g2;have b3:=g3;simp only[aI,Bool.and_eq_true,decide_eq_true_eq]at b2 b3;by_cases e:l.holder=who
  ·have eg:fS l who t long=true:=by simp[fS,g1,tOk,g2,g3,e]
   have hc:(l.holder==who)=true:=by simpa using e
   rw[eg,if_pos rfl,uJ,if_pos e];refine pO func317 call317 ntmps317 results317 λS=>?_;conv=>whnf
   repeat'((first|refine awz ?_|refine cP (c1) ?_|refine cP (c2) ?_|refine cP (c3) ?_|refine cP (c4) ?_|refine cP (iB _ _) ?_|refine Tz ac ac ?_|fail)<;>conv=>whnf)
   all_goals
    have em:(if l.til<t+long then t+long else l.til)=(if t+long<l.til then l.til else t+long):=by split<;>split<;>omega
    simp only[gt_iff_lt,em];rfl
  ·have hc:(l.holder==who)=false:=by simpa using e
   cases k1:Ec l t with
   |false=>
    rw[k1]at hfr;have eg:fS l who t long=false:=by simp[fS,hc,k1]
    rw[eg,if_neg ai];refine pO func317 call317 ntmps317 results317 λS=>?_;conv=>whnf
    repeat'((first|refine awz ?_|refine cP (c1) ?_|refine cP (c2) ?_|refine cP (c3) ?_|refine cP (c4) ?_|refine cP (hfr) ?_|exact rZ|fail)<;>conv=>whnf)
   |true=>
    rw[k1]at hfr;by_cases k2:l.epoch<1000
    ·have eg:fS l who t long=true:=by simp[fS,g1,tOk,g2,g3,k1,k2]
     have d2:decide (l.epoch>=1000)=false:=al;rw[eg,if_pos rfl,uJ,if_neg e];refine pO func317 call317 ntmps317 results317 λS=>?_;conv=>whnf
     repeat'((first|refine awz ?_|refine cP (c1) ?_|refine cP (c2) ?_|refine cP (c3) ?_|refine cP (c4) ?_|refine cP (hfr) ?_|refine Tz ac ac ?_|exact rZ|fail)<;>conv=>whnf)
    ·have eg:fS l who t long=false:=by simp[fS,hc,k2]
     have d2:decide (l.epoch>=1000)=true:=al;rw[eg,if_neg ai];refine pO func317 call317 ntmps317 results317 λS=>?_;conv=>whnf
     repeat'((first|refine awz ?_|refine cP (c1) ?_|refine cP (c2) ?_|refine cP (c3) ?_|refine cP (c4) ?_|refine cP (hfr) ?_|exact rZ|fail)<;>conv=>whnf)
def jo:List (List Nat):=a8 [0,1,0,3,259,33837252,6510366786,483201921286,483201921286,0x91840c50421c8]
def ju:List (List Nat):=dN 9 [234,235,8,17,44,121,364,14215,5467]
def qd:List (List Nat):=a8 [0,1,0,3,4,20802,6,7,7,35671935824001,0x81c61440c204620a]
theorem jf{s:DState}(h:a9 s=true):s.pairs.length<=10/\s.jobs.length<=8/\(0<=s.index/\s.index<=2000)/\(0<=s.time/\s.time<=1000000):=by
 obtain⟨h1,h2,h3,h4,_⟩:=bJ h;exact⟨hI h3,(cN h4).1,h1,h2⟩
theorem De(s:DState)(e:DEntry)(h:a9 s=true):aM av 326 [.agg s.ds,.agg e.ds] (rB (mw s e)):=by
 obtain⟨f1,f2,f3,f4⟩:=jf h;have c1:=di s ac;rw[h]at c1;refine pO func326 call326 ntmps326 results326 λS=>?_;conv=>whnf
 repeat'((first|refine awz ?_|refine cP (c1) ?_|refine cP (ba e) ?_|refine Tz ac ac ?_|refine tW ?_ ?_|intro h)<;>conv=>whnf)
 all_goals simp_all[mw]
theorem Jj(s:DState)(e:DEntry)(h:a9 s=true):aM av 327 [.agg s.ds,.agg e.ds] (rB (jt s e)):=by
 obtain⟨f1,f2,f3,f4⟩:=jf h;have hj:=(bJ h).2.2.2.1;have c1:=De s e h;have c2:=sK s.jobs e.op.a hj;have c3:=Jm s.lease e.client e.op.b e.time;cases hn:mw s e with
 |false=>
  rw[hn]at c1;have er:jt s e=false:=by simp[jt,hn]
  rw[er];refine pO func327 call327 ntmps327 results327 λS=>?_;conv=>whnf
  repeat'(first|refine awz ?_|(refine cP (c1) ?_;conv=>whnf)|exact rZ|fail)
 |true=>
  rw[hn]at c1;cases ho:t9 s.jobs e.op.a with
  |none=>
   rw[ho]at c2;have er:jt s e=false:=by simp[jt,ho]
   rw[er];refine pO func327 call327 ntmps327 results327 λS=>?_;conv=>whnf
   repeat'((first|refine awz ?_|refine cP (c1) ?_|refine cP (c2) ?_|exact rZ|refine tW ?_ ?_|intro h)<;>conv=>whnf)
  |some j=>
   rw[ho]at c2;refine pO func327 call327 ntmps327 results327 λS=>?_;conv=>whnf
   repeat'((first|refine awz ?_|refine cP (c1) ?_|refine cP (c2) ?_|refine cP (c3) ?_|refine tW ?_ ?_|intro h)<;>conv=>whnf)
   all_goals first
    |(simp_all[jt];done)
    |(simp_all[jt];intro h2;exfalso;omega)
theorem GN(s:DState)(e:DEntry)(h:a9 s=true):aM av 310 [.agg s.ds,.agg e.ds] (.val (pI (kq s e))):=by
 obtain⟨f1,f2,f3,f4⟩:=jf h;obtain⟨_,_,hp,hj,hl⟩:=bJ h;have c1:=De s e h;have c2:=uX s.pairs e.op.a hp;have c4:=Jj s e h;have c5:=A5 s.lease e.client e.time e.op.a hl;have c6:=Dl e.op;cases hn:mw s e with
 |false=>
  rw[hn]at c1;have er:kq s e= -1:=by simp[kq,hn]
  rw[er];refine pO func310 call310 ntmps310 results310 λS=>?_;conv=>whnf
  repeat'(first|refine awz ?_|(refine cP (c1) ?_;conv=>whnf)|exact rZ|fail)
 |true=>
  rw[hn]at c1;have eo:kq s e=if e.op.kind=1 then 1 else if e.op.kind=2 then(if(s.pairs.find? (rY e.op.a)).isSome then 2 else 0)else if e.op.kind=3 then(if t5 s.jobs (nR e.op)then 3 else 0)else if e.op.kind=4 then(if jt s e then 4 else 0)else if e.op.kind=5 then(if fS s.lease e.client e.time e.op.a then 5 else 0)else 0:=by
   simp only[kq,hn,Bool.not_true,Bool.false_eq_true,if_false];rfl
  have ko:e.op.kind=1\/e.op.kind=2\/e.op.kind=3\/e.op.kind=4\/e.op.kind=5:=by
   have he:=(d6 (Pu hn).en).2.2.2.2;by_cases h1:e.op.kind=1; · exact .inl h1
   by_cases h2:e.op.kind=2; · exact .inr (.inl h2)
   by_cases h3:e.op.kind=3; · exact .inr (.inr (.inl h3))
   by_cases h4:e.op.kind=4; · exact .inr (.inr (.inr (.inl h4)))
   by_cases h5:e.op.kind=5; · exact .inr (.inr (.inr (.inr h5)))
   simp[lT,h1,h2,h3,h4,h5]at he
  have kk:∀{a b:Int},e.op.kind=a->(a==b)=(e.op.kind==b):=λe=>by rw[e]
  rcases ko with k|k|k|k|k
  ·have q1:(e.op.kind==1)=true:=by simp[k]
   rw[eo,if_pos k];refine pO func310 call310 ntmps310 results310 λS=>?_;conv=>whnf
   repeat'(first|refine awz ?_|(refine cP (c1) ?_;conv=>whnf)|exact rZ|fail)
  ·have q1:(e.op.kind==1)=false:=by simp[k]
   have q2:(e.op.kind==2)=true:=by simp[k]
   rw[eo,if_neg ac,if_pos k];cases hf:(s.pairs.find? (rY e.op.a))with
   |none=>
    rw[hf]at c2;refine pO func310 call310 ntmps310 results310 λS=>?_;conv=>whnf
    repeat'((first|refine awz ?_|refine cP (c1) ?_|refine cP (c2) ?_|exact rZ|fail)<;>conv=>whnf)
   |some x=>
    rw[hf]at c2;refine pO func310 call310 ntmps310 results310 λS=>?_;conv=>whnf
    repeat'((first|refine awz ?_|refine cP (c1) ?_|refine cP (c2) ?_|exact rZ|fail)<;>conv=>whnf)
  ·have q1:(e.op.kind==1)=false:=by simp[k]
   have q2:(e.op.kind==2)=false:=by simp[k]
   have q3:(e.op.kind==3)=true:=by simp[k]
   rw[eo,if_neg ac,if_neg ac,if_pos k];cases hf:t5 s.jobs (nR e.op)with
   |false=>
    have c3:=GY s.jobs (nR e.op) hj hf;refine pO func310 call310 ntmps310 results310 λS=>?_;conv=>whnf
    repeat'((first|refine awz ?_|refine cP (c1) ?_|refine TB aL 14 9 jo ju ae ae ae rfl ?_|refine cP (c6) ?_|refine cP (c3) ?_|exact rZ|fail)<;>conv=>whnf)
   |true=>
    have c3:=ya s.jobs (nR e.op) hj hf;refine pO func310 call310 ntmps310 results310 λS=>?_;conv=>whnf
    repeat'((first|refine awz ?_|refine cP (c1) ?_|refine TB aL 14 9 jo ju ae ae ae rfl ?_|refine cP (c6) ?_|refine cP (c3) ?_|exact rZ|fail)<;>conv=>whnf)
  ·have q1:(e.op.kind==1)=false:=by simp[k]
   have q2:(e.op.kind==2)=false:=by simp[k]
   have q3:(e.op.kind==3)=false:=by simp[k]
   have q4:(e.op.kind==4)=true:=by simp[k]
   rw[eo,if_neg ac,if_neg ac,if_neg ac,if_pos k];cases hf:jt s e with
   |false=>
    rw[hf]at c4;refine pO func310 call310 ntmps310 results310 λS=>?_;conv=>whnf
    repeat'((first|refine awz ?_|refine cP (c1) ?_|refine cP (c4) ?_|exact rZ|fail)<;>conv=>whnf)
   |true=>
    rw[hf]at c4;refine pO func310 call310 ntmps310 results310 λS=>?_;conv=>whnf
    repeat'((first|refine awz ?_|refine cP (c1) ?_|refine cP (c4) ?_|exact rZ|fail)<;>conv=>whnf)
  ·have q1:(e.op.kind==1)=false:=by simp[k]
   have q2:(e.op.kind==2)=false:=by simp[k]
   have q3:(e.op.kind==3)=false:=by simp[k]
   have q4:(e.op.kind==4)=false:=by simp[k]
   have q5:(e.op.kind==5)=true:=by simp[k]
   rw[eo,if_neg ac,if_neg ac,if_neg ac,if_neg ac,if_pos k];cases hf:fS s.lease e.client e.time e.op.a with
   |false=>
    rw[hf,if_neg ai]at c5;refine pO func310 call310 ntmps310 results310 λS=>?_;conv=>whnf
    repeat'((first|refine awz ?_|refine cP (c1) ?_|refine cP (c5) ?_|exact rZ|fail)<;>conv=>whnf)
   |true=>
    rw[hf,if_pos rfl]at c5;refine pO func310 call310 ntmps310 results310 λS=>?_;conv=>whnf
    repeat'((first|refine awz ?_|refine cP (c1) ?_|refine cP (c5) ?_|exact rZ|fail)<;>conv=>whnf)
theorem u9(s:DState)(h:DState.small 1048576 s):aM av 240 [.agg s.ds] (.val (.agg s.ds)):=by
 refine pO func240 call240 ntmps240 results240 λS=>?_;conv=>whnf
 repeat'((first|refine awz ?_|refine cP (Bn s.pairs h.1) ?_|refine cP (u7 s.jobs h.2) ?_|exact rZ|fail)<;>conv=>whnf)
def On(s:DState)(e:DEntry)(y:DState×Bool):Prop:=y.2=true->a9 y.1=true/\y.1.index=s.index+1/\y.1.index=e.index
def tU(y:DState×Bool):AP:= .tup [.agg y.1.ds,.one (dB y.2)]
theorem I2(s:DState)(e:DEntry)(h:a9 s=true):bq av 278 [.agg s.ds,.agg e.ds] (On s e) tU:=by
 obtain⟨f1,f2,f3,f4⟩:=jf h;obtain⟨_,_,hp,hj,hl⟩:=bJ h;have c0:=di s ac;rw[h]at c0;have cc:=u9 s ⟨ac,ac⟩;have ce:=GN s e h;cases hn:mw s e with
 |false=>
  have er:kq s e= -1:=by simp[kq,hn]
  rw[er]at ce;refine aM.q (res:=tU (s,false)) ?_ (s,false) (by simp[On]) rfl;unfold tU;refine pO func278 call278 ntmps278 results278 λS=>?_;conv=>whnf
  repeat'((first|refine awz ?_|refine cP (c0) ?_|refine cP (cc) ?_|refine cP (ce) ?_|exact rZ|fail)<;>conv=>whnf)
 |true=>
  have nf:=Pu hn;have he:=d6 nf.en;have hold:=Lw nf;have ok0:=nU nf hp hj hl hold;have base:∀{t:DState},a9 t=true->t.index=e.index->On s e (t,true):=λh1 h2 _=>⟨h1,by rw[h2,nf.ix],h2⟩;have eo:kq s e=if e.op.kind=1 then 1 else if e.op.kind=2 then(if(s.pairs.find? (rY e.op.a)).isSome then 2 else 0)else if e.op.kind=3 then(if t5 s.jobs (nR e.op)then 3 else 0)else if e.op.kind=4 then(if jt s e then 4 else 0)else if e.op.kind=5 then(if fS s.lease e.client e.time e.op.a then 5 else 0)else 0:=by
   simp only[kq,hn,Bool.not_true,Bool.false_eq_true,if_false];rfl
  have none0:kq s e=0->bq av 278 [.agg s.ds,.agg e.ds] (On s e) tU:=λer=>by
   rw[er]at ce;refine aM.q (res:=tU (⟨e.index,e.time,s.pairs,s.jobs,s.lease⟩,true)) ?_ (⟨e.index,e.time,s.pairs,s.jobs,s.lease⟩,true) (base ok0 rfl) rfl;unfold tU;refine pO func278 call278 ntmps278 results278 λS=>?_;conv=>whnf
   repeat'((first|refine awz ?_|refine cP (c0) ?_|refine cP (cc) ?_|refine cP (ce) ?_|exact rZ|fail)<;>conv=>whnf)
  by_cases k1:e.op.kind=1
  ·rw[if_pos k1]at eo;rw[eo]at ce;have po:dV ⟨e.op.a,e.op.b⟩=true:=by
    have:=he.2.2.2.2;simp only[lT,if_pos k1,Bool.and_eq_true]at this;simp only[dV,Bool.and_eq_true];exact⟨this.1.1.1,this.1.1.2⟩
   have cp:=N1 s.pairs ⟨e.op.a,e.op.b⟩ hp po;refine aM.q (res:=tU (⟨e.index,e.time,qO s.pairs ⟨e.op.a,e.op.b⟩,s.jobs,s.lease⟩,true)) ?_ (⟨e.index,e.time,qO s.pairs ⟨e.op.a,e.op.b⟩,s.jobs,s.lease⟩,true) (base (nU nf (yM hp po) hj hl hold) rfl) rfl;unfold tU;refine pO func278 call278 ntmps278 results278 λS=>?_;conv=>whnf
   repeat'((first|refine awz ?_|refine cP (c0) ?_|refine cP (cc) ?_|refine cP (ce) ?_|refine cP (cp) ?_|exact rZ|fail)<;>conv=>whnf)
  ·rw[if_neg k1]at eo;by_cases k2:e.op.kind=2
   ·rw[if_pos k2]at eo;cases hf:(s.pairs.find? (rY e.op.a)).isSome with
    |false=>rw[hf,if_neg ai]at eo;exact none0 eo
    |true=>
     rw[hf,if_pos rfl]at eo;rw[eo]at ce;obtain⟨b,cp⟩:=L9 s.pairs e.op.a hp;refine aM.q (res:=tU (⟨e.index,e.time,Lr s.pairs e.op.a,s.jobs,s.lease⟩,true)) ?_ (⟨e.index,e.time,Lr s.pairs e.op.a,s.jobs,s.lease⟩,true) (base (nU nf (OC hp _) hj hl hold) rfl) rfl;unfold tU;refine pO func278 call278 ntmps278 results278 λS=>?_;conv=>whnf
     repeat'((first|refine awz ?_|refine cP (c0) ?_|refine cP (cc) ?_|refine cP (ce) ?_|refine cP (cp) ?_|exact rZ|fail)<;>conv=>whnf)
   ·rw[if_neg k2]at eo;by_cases k3:e.op.kind=3
    ·rw[if_pos k3]at eo;cases hf:t5 s.jobs (nR e.op)with
     |false=>rw[hf,if_neg ai]at eo;exact none0 eo
     |true=>
      rw[hf,if_pos rfl]at eo;rw[eo]at ce;have cp:=ya s.jobs (nR e.op) hj hf;have c6:=Dl e.op;have ho:bu (oJ s.jobs (nR e.op))=true:=by
       simp only[t5,Bool.and_eq_true,decide_eq_true_eq,beq_iff_eq,Option.isNone_iff_eq_none]at hf;exact Kh hj hf.1.1.1 hf.1.1.2 hf.1.2 hf.2
      have hfi:∀j∈oJ s.jobs (nR e.op),j.fired<=e.index:=λj hjm=>by
       rcases AE hjm with hjm|rfl
       ·exact hold j hjm
       ·show(0:Int)<=e.index;omega
      refine aM.q (res:=tU (⟨e.index,e.time,s.pairs,oJ s.jobs (nR e.op),s.lease⟩,true)) ?_ (⟨e.index,e.time,s.pairs,oJ s.jobs (nR e.op),s.lease⟩,true) (base (nU nf hp ho hl hfi) rfl) rfl;unfold tU;refine pO func278 call278 ntmps278 results278 λS=>?_;conv=>whnf
      repeat'(first|((first|refine awz ?_|refine cP (c0) ?_|refine cP (cc) ?_|refine cP (ce) ?_|fail)<;>conv=>whnf)|(refine TD aL 15 (tkc [0,1,2,3] (.one 4 (.one 5 (tkc [6,7,8,9] (.one 10 .done))))) [(2,9980),(3,9981)] qd ae ae ae ae (λRz=>?_);(conv=>whnf);intro bp0 up0;(conv=>whnf);intro bp1 up1;(conv=>whnf))|((first|refine cP (c6) ?_|refine cP (cp) ?_|exact rZ|fail)<;>conv=>whnf))
    ·rw[if_neg k3]at eo;by_cases k4:e.op.kind=4
     ·rw[if_pos k4]at eo;cases hf:jt s e with
      |false=>rw[hf,if_neg ai]at eo;exact none0 eo
      |true=>
       rw[hf,if_pos rfl]at eo;rw[eo]at ce;have cj:=sK s.jobs e.op.a hj;cases hjo:t9 s.jobs e.op.a with
       |none=>simp[jt,hjo]at hf
       |some j=>
        rw[hjo]at cj;have hj0:j.fired=0:=by
         simp only[jt,hjo,Bool.and_eq_true,beq_iff_eq]at hf;exact hf.2.1.1
        have hid:j.id=e.op.a:=by simpa using List.find?_some hjo
        obtain⟨n,hnl,hnj⟩:=List.getElem_of_mem (List.mem_of_find?_eq_some hjo);have hjk:=(cN hj).2.1 j (List.mem_of_find?_eq_some hjo);have po:dV ⟨j.key,j.value⟩=true:=by
         simp only[jV,Bool.and_eq_true]at hjk;simp only[dV,Bool.and_eq_true];exact⟨hjk.1.1.2,hjk.1.2⟩
        have hno:∀x∈s.jobs,x.fired≠e.index:=λx hx=>by
         have:=sW h x hx;have:=nf.ix;omega
        have cf:=G4 s.jobs e.op.a e.index n hj hnl (by rw[hnj];exact hid) (by rw[hnj];exact hj0) he.1 hno;have cp:=N1 s.pairs ⟨j.key,j.value⟩ hp po;have hfi:∀x∈kJ s.jobs n e.index,x.fired<=e.index:=λx hx=>by
         obtain⟨m,hm,rfl⟩:=List.getElem_of_mem hx;rw[j8];split
         ·exact Int.le_refl _
         ·exact hold _ (List.getElem_mem _)
        refine aM.q (res:=tU (⟨e.index,e.time,qO s.pairs ⟨j.key,j.value⟩,kJ s.jobs n e.index,s.lease⟩,true)) ?_ (⟨e.index,e.time,qO s.pairs ⟨j.key,j.value⟩,kJ s.jobs n e.index,s.lease⟩,true) (base (nU nf (yM hp po) (Np hj he.1 hno) hl hfi) rfl) rfl;unfold tU;refine pO func278 call278 ntmps278 results278 λS=>?_;conv=>whnf
        repeat'((first|refine awz ?_|refine cP (c0) ?_|refine cP (cc) ?_|refine cP (ce) ?_|refine cP (cj) ?_|refine cP (cf) ?_|refine cP (cp) ?_|exact rZ|fail)<;>conv=>whnf)
     ·rw[if_neg k4]at eo;by_cases k5:e.op.kind=5
      ·rw[if_pos k5]at eo;cases hf:fS s.lease e.client e.time e.op.a with
       |false=>rw[hf,if_neg ai]at eo;exact none0 eo
       |true=>
        rw[hf,if_pos rfl]at eo;rw[eo]at ce;have cg:=A5 s.lease e.client e.time e.op.a hl;rw[hf,if_pos rfl]at cg;refine aM.q (res:=tU (⟨e.index,e.time,s.pairs,s.jobs,uJ s.lease e.client e.time e.op.a⟩,true)) ?_ (⟨e.index,e.time,s.pairs,s.jobs,uJ s.lease e.client e.time e.op.a⟩,true) (base (nU nf hp hj (Nt hl hf) hold) rfl) rfl;unfold tU;refine pO func278 call278 ntmps278 results278 λS=>?_;conv=>whnf
        repeat'((first|refine awz ?_|refine cP (c0) ?_|refine cP (cc) ?_|refine cP (ce) ?_|refine cP (cg) ?_|exact rZ|fail)<;>conv=>whnf)
      ·rw[if_neg k5]at eo;exact none0 eo
def ql:List (List Nat):=a8 [0,1,129,0,4,324,0,7,519,848966926504392,0,0xb2881c9144182043]
def qA:List (List Nat):=dN 11 [137754,137755,137758,137078,137105,137186,118826,119555,121742,127939,59048]
def fd:List (List Nat):=a8 [0,0,0,3,259,544964,101724482,0,0,9,33417,2921096,0x470850c418c20a24b,0,0x38d2c92883061031421c1]
def fe:List (List Nat):=dN 14 [3720084,3718136,3717908,3717917,3717944,3718022,3718265,3243320,3195206,3201767,3219263,3278312,3454366,1594322]
theorem x9(h:DHead)(ho:cT h=true):aM av 97 [.agg h.ds] (.val (.one (.sl ((eD h).map eI)))):=by
 have hs:=(bD ho).2.2.2.2.1;have hl:h.seen.length<=9223372036854775806:=by have:=d9 hs;omega
 have n1:(!cT h)=false:=by rw[ho];rfl
 have e:eD h=[h.num,h.base,h.time,(bx h.seen 2).seq,(bx h.seen 2).index,(bx h.seen 3).seq,(bx h.seen 3).index,(bx h.seen 4).seq,(bx h.seen 4).index,(bx h.seen 5).seq,(bx h.seen 5).index,h.num,h.num]:=by simp[eD,ho]
 rw[e];refine pO func97 call97 ntmps97 results97 λS=>?_;conv=>whnf
 repeat'(first|refine awz ?_|(refine cP (fF h hl) ?_;conv=>whnf)|fail)
 refine Ub 5 ?_;conv=>whnf
 repeat'((first|refine awz ?_|refine cP (ia h.seen _ hs) ?_|refine Tz ah ah ?_|refine aQ (by simp only[length_map,length_nil,length_append,length_cons,length_take,opL,uG]<;>omega) ?_|exact rZ|fail)<;>conv=>whnf)
def uf(o:Option DHead):AP:= .tup [.agg (o.getD d8).ds,.one (dB o.isSome)]
def ik(u v w p q s g f:Int):Nat->List DMark
 |0=>[]
 |1=>fE 2 u v
 |2=>fE 2 u v++fE 3 w p
 |3=>fE 2 u v++fE 3 w p++fE 4 q s
 |_=>fE 2 u v++fE 3 w p++fE 4 q s++fE 5 g f
theorem pg(c s i:Int):(fE c s i).length<=1:=by
 unfold fE;split<;>simp
theorem Al(u v w p q s g f:Int)(k:Nat):(ik u v w p q s g f k).length<=4:=by
 have h1:=pg 2 u v;have h2:=pg 3 w p;have h3:=pg 4 q s;have h4:=pg 5 g f;unfold ik;split<;>(try simp only[length_append,length_nil])<;>omega
theorem Jt(l:List Int):aM av 303 [.one (.sl (l.map eI))] (uf (iD l)):=by
 by_cases hl:l.length=13
 ·obtain⟨n,b,t,u,v,w,p,q,s,g,f,x,y,rfl⟩:=Ep hl;by_cases hx:x=n
  ·have n1:(x !=n)=false:=by simpa using hx
   by_cases hy:y=n
   ·have n2:(y !=n)=false:=by simpa using hy
    have hml:=Al u v w p q s g f 4;have ho:=fF ⟨n,b,t,ik u v w p q s g f 4⟩ ao;have main:∀o:Option DHead,(cT ⟨n,b,t,ik u v w p q s g f 4⟩=true->o=some ⟨n,b,t,ik u v w p q s g f 4⟩)->(cT ⟨n,b,t,ik u v w p q s g f 4⟩=false->o=none)->aM av 303 [.one (.sl ([n,b,t,u,v,w,p,q,s,g,f,x,y].map eI))] (uf o):=by
     intro o h1 h2;refine pO func303 call303 ntmps303 results303 λS=>?_;conv=>whnf
     repeat'(first|refine awz ?_|fail)
     (refine TB aL 1 19 bV bW ae ae ae rfl ?_;conv=>whnf)
     repeat'((first|refine awz ?_|refine Ty 0 _ rfl rfl ?_|refine Ty 11 _ rfl rfl ?_|refine Ty 12 _ rfl rfl ?_|fail)<;>conv=>whnf)
     (refine TB aL 3 11 ql qA ae ae ae rfl ?_;conv=>whnf)
     repeat'((first|refine awz ?_|refine Ty 0 _ rfl rfl ?_|refine Ty 1 _ rfl rfl ?_|refine Ty 2 _ rfl rfl ?_|fail)<;>conv=>whnf)
     refine TZ 4 3 940 193 3 ah ?_;conv=>whnf
     repeat'(first|refine awz ?_|fail)
     refine TE (λk:Nat=>k<=4) (5::6::rg 39 31) (λk=>[(5,vI .i64 (2+(k:Int)))]) (λk=>[(2,.cells 44 [.d (dI 0),.d (dI 0),.d (dI 0),.nil]),(4,.cells 44 [.d (dI n),.d (dI b),.d (dI t),.own 940]),(940,.row 193 3 ((ik u v w p q s g f k).map DMark.ds))]) (λk=>4-k) 0 ac ?_ sbW (λk hk=>?_)<;>(conv=>whnf)
     ·exact whd
     ·have hkl:=Al u v w p q s g f k;have hk5:k=0\/k=1\/k=2\/k=3\/k=4:=ac;rcases hk5 with rfl|rfl|rfl|rfl|rfl
      ·repeat'(first|refine awz ?_|fail)
       (refine TB aL 7 14 fd fe ae ae ae rfl ?_;conv=>whnf)
       repeat'((first|refine awz ?_|refine Ty 3 _ ah rfl ?_|refine Ty 4 _ ah rfl ?_|refine Tz ah ah ?_|refine aQ (by simp only[length_map,length_nil,length_append,length_cons,length_take,opL,uG]<;>omega) ?_|refine tW ?_ ?_|intro h)<;>conv=>whnf)
       all_goals
        refine aW.mk ⟨0+1,ac,ac,?_,Tu rfl (Tu rfl (Tu (by simp[ik,fE,DMark.ds,a5, *]) Tx))⟩;exact hds
      ·repeat'(first|refine awz ?_|fail)
       (refine TB aL 7 14 fd fe ae ae ae rfl ?_;conv=>whnf)
       repeat'((first|refine awz ?_|refine Ty 5 _ ah rfl ?_|refine Ty 6 _ ah rfl ?_|refine Tz ah ah ?_|refine aQ (by simp only[length_map,length_nil,length_append,length_cons,length_take,opL,uG]<;>omega) ?_|refine tW ?_ ?_|intro h)<;>conv=>whnf)
       all_goals
        refine aW.mk ⟨1+1,ac,ac,?_,Tu rfl (Tu rfl (Tu (by simp[ik,fE,DMark.ds,a5, *]) Tx))⟩;exact hds
      ·repeat'(first|refine awz ?_|fail)
       (refine TB aL 7 14 fd fe ae ae ae rfl ?_;conv=>whnf)
       repeat'((first|refine awz ?_|refine Ty 7 _ ah rfl ?_|refine Ty 8 _ ah rfl ?_|refine Tz ah ah ?_|refine aQ (by simp only[length_map,length_nil,length_append,length_cons,length_take,opL,uG]<;>omega) ?_|refine tW ?_ ?_|intro h)<;>conv=>whnf)
       all_goals
        refine aW.mk ⟨2+1,ac,ac,?_,Tu rfl (Tu rfl (Tu (by simp[ik,fE,DMark.ds,a5, *]) Tx))⟩;exact hds
      ·repeat'(first|refine awz ?_|fail)
       (refine TB aL 7 14 fd fe ae ae ae rfl ?_;conv=>whnf)
       repeat'((first|refine awz ?_|refine Ty 9 _ ah rfl ?_|refine Ty 10 _ ah rfl ?_|refine Tz ah ah ?_|refine aQ (by simp only[length_map,length_nil,length_append,length_cons,length_take,opL,uG]<;>omega) ?_|refine tW ?_ ?_|intro h)<;>conv=>whnf)
       all_goals
        refine aW.mk ⟨3+1,ac,ac,?_,Tu rfl (Tu rfl (Tu (by simp[ik,fE,DMark.ds,a5, *]) Tx))⟩;exact hds
      ·cases hd:cT ⟨n,b,t,ik u v w p q s g f 4⟩with
       |false=>
        have n3:(!cT ⟨n,b,t,ik u v w p q s g f 4⟩)=true:=by rw[hd];rfl
        obtain rfl:=h2 hd;unfold uf;repeat'(first|refine awz ?_|(refine aG.scalar ho rfl rfl ?_;conv=>whnf)|exact rZ|fail)
       |true=>
        have n3:(!cT ⟨n,b,t,ik u v w p q s g f 4⟩)=false:=by rw[hd];rfl
        obtain rfl:=h1 hd;unfold uf;repeat'(first|refine awz ?_|(refine aG.scalar ho rfl rfl ?_;conv=>whnf)|exact rZ|fail)
    have e:iD [n,b,t,u,v,w,p,q,s,g,f,x,y]=if cT ⟨n,b,t,ik u v w p q s g f 4⟩&&x==n&&y==n then some ⟨n,b,t,ik u v w p q s g f 4⟩else none:=rfl
    rw[e];exact main _ (λh=>by simp[h,hx,hy]) (λh=>by simp[h])
   ·have n2:(y !=n)=true:=by simpa using hy
    have e:iD [n,b,t,u,v,w,p,q,s,g,f,x,y]=none:=by simp[iD,hy]
    rw[e];unfold uf;refine pO func303 call303 ntmps303 results303 λS=>?_;conv=>whnf
    repeat'(first|refine awz ?_|fail)
    (refine TB aL 1 19 bV bW ae ae ae rfl ?_;conv=>whnf)
    repeat'((first|refine awz ?_|refine Ty 0 _ rfl rfl ?_|refine Ty 11 _ rfl rfl ?_|refine Ty 12 _ rfl rfl ?_|exact rZ|fail)<;>conv=>whnf)
  ·have n1:(x !=n)=true:=by simpa using hx
   have e:iD [n,b,t,u,v,w,p,q,s,g,f,x,y]=none:=by simp[iD,hx]
   rw[e];unfold uf;refine pO func303 call303 ntmps303 results303 λS=>?_;conv=>whnf
   repeat'(first|refine awz ?_|fail)
   (refine TB aL 1 19 bV bW ae ae ae rfl ?_;conv=>whnf)
   repeat'((first|refine awz ?_|refine Ty 0 _ rfl rfl ?_|refine Ty 11 _ rfl rfl ?_|exact rZ|fail)<;>conv=>whnf)
 ·have n1:(((l.map eI).length:Int) !=13)=true:=by simp only[length_map,bne_iff_ne,ne_eq];omega
  rw[GK hl];unfold uf;refine pO func303 call303 ntmps303 results303 λS=>?_;conv=>whnf
  repeat'(first|refine awz ?_|fail)
  (refine TB aL 1 19 bV bW ae ae ae rfl ?_;conv=>whnf)
  repeat'(first|refine awz ?_|exact rZ|fail)
def rj:List (List Nat):=a8 [0,1,0,3,0,5,6,28930,0x2071851030811c8]
def dz:List (List Nat):=a8 [0,1,129,12354,1056835,84676740,1056835,118231172,8657572039,0x61020431491c8,72625159069798726,0xb18524720a0c1084,0x3040810ca20724518b,0xd2c61491c828304210c,0x3040810ca20724518b,0x3040810ca20724518b,0x102c61491c828304210c,0xf2c61491c828304210c450,0x38c1020432881c91462cd49044f,0xc1020432881c91462d33d141234e,0x50e3524113d32c61491c828304210c,0x153040810ca20724518b4cf45048d394,0x59438d49044f4cb18524720a0c1084315,0x1754c1020432881c91462d33d141234e516,0x61650e3524113d32c61491c828304210c557,0x153040810ca20724518b4cf45048d394657598]
def dC:List (List Nat):=dN 18 [0,1,4,13,18994,19075,688,1417,3604,9841,29524,88573,382903240,383434681,119308504,14083186,28432093,66695845]
theorem wA(l:List DEntry)(hl:l.length<=1048576):cV av 292 [.one (.d (.sl (l.map DEntry.ds)))] [] [(3,.row 244 9 (l.map DEntry.ds))] [] (.val (.one (.own 3))):=by
 refine bL aL func292 rfl call292 ntmps292 (WA results292) rfl λS pv=>?_;conv=>whnf
 repeat'((first|refine awz ?_|refine aP (by first|(intro y hy;obtain⟨a,_,rfl⟩:=List.mem_map.1 hy;rfl)|(simp;done)) ?_|refine aQ an ?_|exact rZ|fail)<;>conv=>whnf)
theorem lB(b:DBook)(hl:b.entries.length<=1048576):cV av 291 [.agg (b.ds.map .d)] [] [(903,.row 244 9 (b.entries.map DEntry.ds))] [] (.val (.agg [.d (dI b.base),.d (dI b.time),.own 903])):=by
 refine bL aL func291 rfl call291 ntmps291 (WA results291) rfl λS pv=>?_;conv=>whnf
 repeat'(first|refine awz ?_|fail)
 (refine TD aL 1 (tkc [0,1,2,3,4,5] (onc [6,7,8] .done)) [(1,9980)] rj ae ae ae ae (λRz=>?_);(conv=>whnf);intro bp0 up0;(conv=>whnf))
 repeat'(first|refine awz ?_|(refine TA (wA b.entries hl) [(3,903)] rfl rfl ?_;conv=>whnf)|exact rZ|fail)
theorem Od{b:DBook}(hn:b.entries≠ []):im b (aY b)=gF b:=by
 have hpos:0<b.entries.length:=List.length_pos_iff.2 hn;have e:(aY b-b.base-1).toNat=b.entries.length-1:=by unfold aY;omega
 unfold im gF;rw[e,List.getD_eq_getElem?_getD,<-List.getLast?_eq_getElem?,List.getLast?_eq_some_getLast hn];rfl
theorem iN(b:DBook)(h:bB b=true):aM av 205 [.agg b.ds,pI (aY b)] (.val (pI (gF b))):=by
 by_cases hn:b.entries=[]
 ·have e:gF b=b.time:=by simp[gF,hn]
  have e2:(aY b==b.base)=true:=by simp[aY,hn]
  rw[e];refine pO func205 call205 ntmps205 results205 λS=>?_;conv=>whnf
  repeat'(first|refine awz ?_|exact rZ|fail)
 ·have hpos:0<b.entries.length:=List.length_pos_iff.2 hn;have:=mE b (aY b) h (by unfold aY;omega) (Int.le_refl _);rwa[Od hn]at this
def Gq(b:DBook)(ok:Bool):AP:= .tup [.agg b.ds,.one (dB ok)]
theorem na(b:DBook)(e:DEntry)(h:bB b=true)(hf:lK b e=true):aM av 305 [.agg b.ds,.agg e.ds] (Gq (mI b e) true):=by
 obtain⟨h1,h2,h3,h4,h5,h6⟩:=bh h;simp only[lK,Bool.and_eq_true,decide_eq_true_eq,beq_iff_eq]at hf;obtain⟨⟨⟨f1,f2⟩,f3⟩,f4⟩:=hf;have hlb:0<=aY b/\aY b<=2020:=by unfold aY;omega
 have n1:(!bB b)=false:=by rw[h];rfl
 have n2:(!bn e)=false:=by rw[f1];rfl
 have n3:(e.index !=aY b+1)=false:=by simpa using f2
 have n4:decide (e.time<gF b)=false:=by simp only[decide_eq_false_iff_not];omega
 have n5:(((b.entries.map DEntry.ds).length:Int)==20)=false:=by simp only[List.length_map,beq_eq_false_iff_ne,ne_eq];omega
 unfold Gq;refine pO func305 call305 ntmps305 results305 λS=>?_;conv=>whnf
 repeat'((first|refine awz ?_|refine cP (eN b) ?_|refine TA (lB b ac) [(903,913)] rfl rfl ?_|fail)<;>conv=>whnf)
 (refine TB aL 4 18 dz dC ae ae ae rfl ?_;conv=>whnf)
 repeat'((first|refine awz ?_|refine cP (ba e) ?_|refine cP (dp b h) ?_|refine cP (iN b h) ?_|refine Tz ac ac ?_|refine aQ an ?_|fail)<;>conv=>whnf)
 all_goals(simp[mI,DBook.ds,DEntry.ds];done)
theorem EF(b:DBook)(e:DEntry)(h:bB b=true)(hf:lK b e=false):∃b',aM av 305 [.agg b.ds,.agg e.ds] (Gq b' false):=by
 obtain⟨h1,h2,h3,h4,h5,h6⟩:=bh h;have hlb:0<=aY b/\aY b<=2020:=by unfold aY;omega
 have n1:(!bB b)=false:=by rw[h];rfl
 refine⟨b,?_⟩;unfold Gq;by_cases f1:bn e=true
 ·have n2:(!bn e)=false:=by rw[f1];rfl
  by_cases f2:e.index=aY b+1
  ·have n3:(e.index !=aY b+1)=false:=by simpa using f2
   by_cases f3:gF b<=e.time
   ·have n4:decide (e.time<gF b)=false:=by simp only[decide_eq_false_iff_not];omega
    have n5:(((b.entries.map DEntry.ds).length:Int)==20)=true:=by
     simp[lK,f1,f2,f3]at hf;simp only[List.length_map,beq_iff_eq];omega
    refine pO func305 call305 ntmps305 results305 λS=>?_;conv=>whnf
    repeat'((first|refine awz ?_|refine cP (eN b) ?_|refine TA (lB b ac) [(903,913)] rfl rfl ?_|fail)<;>conv=>whnf)
    (refine TB aL 4 18 dz dC ae ae ae rfl ?_;conv=>whnf)
    repeat'((first|refine awz ?_|refine cP (ba e) ?_|refine cP (dp b h) ?_|refine cP (iN b h) ?_|refine Tz ac ac ?_|exact rZ|fail)<;>conv=>whnf)
   ·have n4:decide (e.time<gF b)=true:=by simp only[decide_eq_true_eq];omega
    refine pO func305 call305 ntmps305 results305 λS=>?_;conv=>whnf
    repeat'((first|refine awz ?_|refine cP (eN b) ?_|refine TA (lB b ac) [(903,913)] rfl rfl ?_|fail)<;>conv=>whnf)
    (refine TB aL 4 18 dz dC ae ae ae rfl ?_;conv=>whnf)
    repeat'((first|refine awz ?_|refine cP (ba e) ?_|refine cP (dp b h) ?_|refine cP (iN b h) ?_|refine Tz ac ac ?_|exact rZ|fail)<;>conv=>whnf)
  ·have n3:(e.index !=aY b+1)=true:=by simpa using f2
   refine pO func305 call305 ntmps305 results305 λS=>?_;conv=>whnf
   repeat'((first|refine awz ?_|refine cP (eN b) ?_|refine TA (lB b ac) [(903,913)] rfl rfl ?_|fail)<;>conv=>whnf)
   (refine TB aL 4 18 dz dC ae ae ae rfl ?_;conv=>whnf)
   repeat'((first|refine awz ?_|refine cP (ba e) ?_|refine cP (dp b h) ?_|refine Tz ac ac ?_|exact rZ|fail)<;>conv=>whnf)
 ·have n2:(!bn e)=true:=by simpa using f1
  refine pO func305 call305 ntmps305 results305 λS=>?_;conv=>whnf
  repeat'((first|refine awz ?_|refine cP (eN b) ?_|refine TA (lB b ac) [(903,913)] rfl rfl ?_|fail)<;>conv=>whnf)
  (refine TB aL 4 18 dz dC ae ae ae rfl ?_;conv=>whnf)
  repeat'(first|refine awz ?_|(refine cP (ba e) ?_;conv=>whnf)|exact rZ|fail)
section
variable {s:List DMark}
def qn:List (List Nat):=a8 [0,0,2,4290,1056961]
def qB:List (List Nat):=dN 3 [24,2,5]
theorem EN(t:DTwo)(a:Int)(h:fc t=true)(ha:aI a 0 ((t.a.kept.length:Int)-1)=false):aM av 302 [.agg t.ds,pI a] (.val (.one (.sl []))):=by
 obtain⟨f1,f2,f3⟩:=dr h;have h40:=(cz f1).2.1;have n1:(!fc t)=false:=by rw[h];rfl
 have n2:(!aI a 0 ((t.a.kept.length:Int)-1))=true:=by rw[ha];rfl
 refine pO func302 call302 ntmps302 results302 λS=>?_;conv=>whnf
 repeat'((first|refine awz ?_|refine cP (cZ t) ?_|refine cP (dn t.a a h40) ?_|exact rZ|fail)<;>conv=>whnf)
theorem IQ{t:DTwo}{b:DBook}(h:¬(1<=aY b+1/\aY b+1<=2000)):ss t b s=none:=by
 cases e:ss t b s with
 |none=>rfl
 |some x=>
  obtain⟨h1,h2,_⟩:=pm e;have:=(d6 h1).1;omega
def iw(t:DTwo)(b:DBook):List (List Int):=if 1<=aY b+1/\aY b+1<=2000 then gD t (fX (aY b+1))else []
theorem x6(t:DTwo)(a:Int):(gD t a).length<=2:=by
 unfold gD;split<;>(try split)<;>simp
theorem Er(t:DTwo)(b:DBook):(iw t b).length<=2:=by
 unfold iw;split
 ·exact x6 t _
 ·simp
theorem Gh(t:DTwo)(b:DBook)(s:List DMark):ss t b s=(iw t b).findSome? (iK t b s):=by
 unfold iw;split
 ·rfl
 ·rename_i h;rw[IQ h];rfl
theorem CQ{e:DEntry}:(hH s e).2=(cQ s e).isSome:=by
 unfold hH;split<;>rename_i h<;>simp[h]
theorem JJ(t:DTwo)(b:DBook)(s:List DMark)(ht:dw t=true)(hb:bB b=true)(hs:seenOk s=true):aM av 304 [.agg t.ds,.agg b.ds,.one (.sl (s.map DMark.ds))] (xd (ss t b s)):=by
 have h2:fc t=true/\t.a.kept.length=22:=by simpa[dw]using ht
 obtain⟨b1,b2,b3,b4,b5,b6⟩:=bh hb;have hlb:0<=aY b/\aY b<=2020:=by unfold aY;omega
 have hx:∃a,aM av 256 [pI (aY b+1)] (.val (pI a))/\aM av 302 [.agg t.ds,pI a] (.val (.one (.sl ((iw t b).map cW)))):=by
  by_cases hi:1<=aY b+1/\aY b+1<=2000
  ·have hr:=pJ (aY b+1);refine⟨_,tw _ hi,?_⟩;have:=A9 t (fX (aY b+1)) h2.1 (by rw[h2.2];simp[aI];omega);have e:iw t b=gD t (fX (aY b+1)):=if_pos hi;rw[e];exact this
  ·refine⟨_,Mn _ hi,?_⟩;have:=EN t (-1) h2.1 (by simp[aI]);have e:iw t b=[]:=if_neg hi;rw[e];exact this
 obtain⟨a,c1,c2⟩:=hx;have hok:∀r∈iw t b,bm r=true/\r.length<48:=by
  intro r hr;unfold iw at hr;split at hr
  ·exact I0 r hr
  ·cases hr
 rw[Gh];have hrl:=Er t b;generalize iw t b=rows at c2 hok hrl;refine pO func304 call304 ntmps304 results304 λS=>?_;conv=>whnf
 repeat'((first|refine awz ?_|refine cP (dp b hb) ?_|refine Tz ac ac ?_|fail)<;>conv=>whnf)
 (refine TB aL 2 3 qn qB ae ae ae rfl ?_;conv=>whnf)
 repeat'((first|refine awz ?_|refine cP (c1) ?_|refine cP (c2) ?_|fail)<;>conv=>whnf)
 refine TE (λk:Nat=>k<=rows.length/\(rows.drop k).findSome? (iK t b s)=rows.findSome? (iK t b s)) (7::rg 10 7++(rg 24 39)) (λk=>[(10,vI .i64 (k:Int))]) (λk=>[(3,.cells 41 (t.ds.map .d)),(4,.cells 47 (b.ds.map .d)),(6,.cells 244 (PK.ds.map .d))]) (λk=>rows.length-k) 0 ⟨Nat.zero_le _,rfl⟩ ?_ sbW (λk hk=>?_)<;>(conv=>whnf)
 ·exact whd
 ·obtain⟨hk,hall⟩:=hk;by_cases hlt:k<rows.length
  ·have hc:decide ((k:Int)<((rows.map cW).length:Int))=true:=by simp only[decide_eq_true_eq,List.length_map];omega
   have rs:=Jx rows[k];rw[List.drop_eq_getElem_cons hlt,List.findSome?_cons]at hall;cases er:hN rows[k]with
   |none=>
    rw[er]at rs;have en:iK t b s rows[k]=none:=by simp[iK,er]
    rw[en]at hall;repeat'((first|refine awz ?_|refine TJ hlt ?_|refine cP (rs) ?_|refine Tz ac ac ?_|fail)<;>conv=>whnf)
    refine aW.mk ⟨k+1,⟨hlt,hall⟩,ac,?_,sbW⟩;exact hds
   |some e=>
    rw[er]at rs;have eok:=AM er;by_cases hi:e.index=aY b+1
    ·have n1:(e.index !=aY b+1)=false:=by simpa using hi
     have sm:=oh s e hs;cases hf:lK b e with
     |false=>
      have en:iK t b s rows[k]=none:=by simp[iK,er,hf]
      rw[en]at hall;obtain⟨b',ap⟩:=EF b e hb hf;repeat'((first|refine awz ?_|refine TJ hlt ?_|refine cP (rs) ?_|refine cP (ap) ?_|refine cP (sm) ?_|refine Tz ac ac ?_|fail)<;>conv=>whnf)
      refine aW.mk ⟨k+1,⟨hlt,hall⟩,ac,?_,sbW⟩;exact hds
     |true=>
      have ap:=na b e hb hf;cases hm:(cQ s e).isSome with
      |false=>
       have en:iK t b s rows[k]=none:=by simp only[iK,er,hm,Bool.and_false];rfl
       rw[en]at hall;have n2:(hH s e).2=false:=by rw[CQ,hm]
       repeat'((first|refine awz ?_|refine TJ hlt ?_|refine cP (rs) ?_|refine cP (ap) ?_|refine cP (sm) ?_|refine Tz ac ac ?_|fail)<;>conv=>whnf)
       refine aW.mk ⟨k+1,⟨hlt,hall⟩,ac,?_,sbW⟩;exact hds
      |true=>
       have en:iK t b s rows[k]=some e:=by simp[iK,er,hf,hm,hi]
       rw[en]at hall;have n2:(hH s e).2=true:=by rw[CQ,hm]
       rw[<-hall];unfold xd;repeat'((first|refine awz ?_|refine TJ hlt ?_|refine cP (rs) ?_|refine cP (ap) ?_|refine cP (sm) ?_|exact rZ|fail)<;>conv=>whnf)
    ·have n1:(e.index !=aY b+1)=true:=by simpa using hi
     have en:iK t b s rows[k]=none:=by simp[iK,er,hi]
     rw[en]at hall;repeat'((first|refine awz ?_|refine TJ hlt ?_|refine cP (rs) ?_|refine Tz ac ac ?_|fail)<;>conv=>whnf)
     refine aW.mk ⟨k+1,⟨hlt,hall⟩,ac,?_,sbW⟩;exact hds
  ·have hc:decide ((k:Int)<((rows.map cW).length:Int))=false:=by simp only[decide_eq_false_iff_not,List.length_map];omega
   rw[List.drop_of_length_le ac]at hall;rw[<-hall];repeat'(first|refine awz ?_|exact rZ|fail)
end
theorem HY{t:DTwo}{b:DBook}{s:List DMark}(h:ss t b s=none):∀n,mP t n b s=(b,s)
 |0=>rfl
 |n+1=>by simp[mP,h]
def Sf:List DEntry->AC
 |[]=> .nil
 |e::r=> .d (.sl ((e::r).map DEntry.ds))
theorem L7(t:DTwo)(h:DHead)(ht:dw t=true)(hh:cT h=true):aM av 254 [.agg t.ds,.agg h.ds] (.val (.agg (gq t h).1.ds)):=by
 have hs:=(bD hh).2.2.2.2.1;have hl:=d9 hs;have n1:(!dw t)=false:=by rw[ht];rfl
 have n2:(!cT h)=false:=by rw[hh];rfl
 refine pO func254 call254 ntmps254 results254 λS=>?_;conv=>whnf
 repeat'((first|refine awz ?_|refine cP (gi t) ?_|refine cP (fF h ac) ?_|refine cP (ez h.seen ac) ?_|fail)<;>conv=>whnf)
 refine TE (λg:Nat×DBook×List DMark=>mj h g.2.1 g.2.2/\20<g.2.1.entries.length+g.1/\mP t g.1 g.2.1 g.2.2=gq t h) (6::7::8::rg 26 22) (λg=>[(6,.one (.d (.sl (g.2.2.map DMark.ds))))]) (λg=>[(2,.cells 41 (t.ds.map .d)),(4,.cells 47 [.d (dI 0),.d (dI 0),.nil]),(5,.cells 47 [.d (dI g.2.1.base),.d (dI g.2.1.time),Sf g.2.1.entries])]) (λg=>g.1) (21,xH h,h.seen) ⟨UN hh,by simp[xH],rfl⟩ ?_ sbW (λg hg=>?_)<;>(conv=>whnf)
 ·exact whd
 ·obtain⟨n,b,s⟩:=g;obtain⟨g1,g2,g3⟩:=hg;simp only at g1 g2 g3;have ln:=JJ t b s ht g1.ok g1.seen;cases e:ss t b s with
  |none=>
   rw[e]at ln;rw[HY e]at g3;rw[<-g3];obtain⟨bb,bt,es⟩:=b;cases es<;>repeat'(first|refine awz ?_|(refine cP (ln) ?_;conv=>whnf)|exact rZ|fail)
  |some x=>
   rw[e]at ln;obtain⟨x1,x2,x3,x4⟩:=pm e;have ap:=na b x g1.ok x3;have sm:=oh s x g1.seen;rw[xR x4]at sm;have hlen:b.entries.length<20:=by
    simp only[lK,Bool.and_eq_true,decide_eq_true_eq]at x3;exact x3.2
   obtain⟨m,rfl⟩:∃m,n=m+1:=⟨n-1,ac⟩;have g3':mP t m (mI b x) (cF s x.mark)=gq t h:=by
    rw[<-g3];simp[mP,e]
   have gg:=g1.add x3 x4;obtain⟨bb,bt,es⟩:=b;cases es
   ·repeat'((first|refine awz ?_|refine cP (ln) ?_|refine cP (ap) ?_|refine cP (sm) ?_|fail)<;>conv=>whnf)
    refine aW.mk ⟨(m,mI ⟨bb,bt,[]⟩ x,cF s x.mark),⟨gg,by simp[mI]at g2⊢;omega,g3'⟩,Nat.lt_succ_self _,?_,sbW⟩;exact hds
   ·rename_i y r;repeat'((first|refine awz ?_|refine cP (ln) ?_|refine cP (ap) ?_|refine cP (sm) ?_|fail)<;>conv=>whnf)
    refine aW.mk ⟨(m,mI ⟨bb,bt,y::r⟩ x,cF s x.mark),⟨gg,by simp[mI]at g2⊢;omega,g3'⟩,Nat.lt_succ_self _,?_,sbW⟩;exact hds
def zT(t:DTwo):Nat->Option DHead
 |0=>none
 |1=>(gD t 0).foldl (cM 0) none
 |_=>pc t
def Pt:Option DHead->List AC
 |none=>[.d (dI 0),.d (dI 0),.d (dI 0),.nil]
 |some h=>h.ds.map .d
theorem HW(t:DTwo){j:Nat}(hj:j<2):zT t (j+1)=(gD t (j:Int)).foldl (cM (j:Int)) (zT t j):=by
 match j,hj with
 |0,_=>rfl
 |1,_=>rfl
theorem BH{rows:List (List Int)}{a:Int}{b:Option DHead}{k:Nat}(hk:k<rows.length):(rows.take (k+1)).foldl (cM a) b=cM a ((rows.take k).foldl (cM a) b) rows[k]:=by
 have e:rows.take (k+1)=rows.take k++[rows[k]]:=by rw[List.take_add_one,List.getElem?_eq_getElem hk];rfl
 rw[e,List.foldl_append];rfl
theorem Me(t:DTwo)(ht:dw t=true):aM av 253 [.agg t.ds] (uf (pc t)):=by
 have h2:fc t=true/\t.a.kept.length=22:=by simpa[dw]using ht
 have n1:(!dw t)=false:=by rw[ht];rfl
 refine pO func253 call253 ntmps253 results253 λS=>?_;conv=>whnf
 repeat'(first|refine awz ?_|(refine cP (gi t) ?_;conv=>whnf)|fail)
 refine TE (λj:Nat=>j<=2) (rg 5 6++(rg 16 41)) (λj=>[(5,.one (.d (dB (zT t j).isSome))),(6,vI .i64 (j:Int))]) (λj=>[(1,.cells 41 (t.ds.map .d)),(2,.cells 44 [.d (dI 0),.d (dI 0),.d (dI 0),.nil]),(4,.cells 44 (Pt (zT t j)))]) (λj=>2-j) 0 ac ?_ sbW (λj hj=>?_)<;>(conv=>whnf)
 ·exact whd
 ·by_cases hj2:j<2
  ·have hc:decide ((j:Int)<2)=true:=by simp only[decide_eq_true_eq];omega
   have ra:=A9 t (j:Int) h2.1 (by rw[h2.2];simp[aI];omega);have hsucc:=HW t hj2;have hrl:=x6 t (j:Int);generalize gD t (j:Int)=rows at ra hsucc hrl;generalize zT t j=b0 at hsucc;repeat'(first|refine awz ?_|(refine cP (ra) ?_;conv=>whnf)|fail)
   refine TE (λk:Nat=>k<=rows.length) (5::8::9::10::rg 23 34) (λk=>[(5,.one (.d (dB ((rows.take k).foldl (cM (j:Int)) b0).isSome))),(8,vI .i64 (k:Int))]) (λk=>[(1,.cells 41 (t.ds.map .d)),(2,.cells 44 [.d (dI 0),.d (dI 0),.d (dI 0),.nil]),(4,.cells 44 (Pt ((rows.take k).foldl (cM (j:Int)) b0)))]) (λk=>rows.length-k) 0 (Nat.zero_le _) ?_ sbW (λk hk=>?_)<;>(conv=>whnf)
   ·exact whd
   ·by_cases hlt:k<rows.length
    ·have hck:decide ((k:Int)<((rows.map cW).length:Int))=true:=by simp only[decide_eq_true_eq,List.length_map];omega
     have hn:=BH (a:=(j:Int)) (b:=b0) hlt;have rh:=Jt rows[k];generalize (rows.take k).foldl (cM (j:Int)) b0=c at hn;cases er:iD rows[k]with
     |none=>
      rw[er]at rh;have e:cM (j:Int) c rows[k]=c:=by simp[cM,er]
      rw[e]at hn;cases c<;>
      ·repeat'((first|refine awz ?_|refine TJ hlt ?_|refine cP (rh) ?_|refine Tz ac ac ?_|fail)<;>conv=>whnf)
       refine aW.mk ⟨k+1,hlt,ac,?_,Tu rfl (Tu rfl (Tu (by rw[hn];rfl) Tx))⟩;rw[hn];exact hds
     |some y=>
      rw[er]at rh;have hy:=bD (AL er);have htm:y.num.tmod 2=y.num % 2:=Int.tmod_eq_emod_of_nonneg ac;by_cases hm:y.num % 2=(j:Int)
      ·have m1:(y.num.tmod 2==(j:Int))=true:=by rw[htm];simpa using hm
       have m2:(y.num % 2==(j:Int))=true:=by simpa using hm
       cases c with
       |none=>
        have e:cM (j:Int) none rows[k]=some y:=by simp[cM,er,m2,Af]
        rw[e]at hn;repeat'((first|refine awz ?_|refine TJ hlt ?_|refine cP (rh) ?_|refine And.intro ah ?_|refine Tz ac ac ?_|fail)<;>conv=>whnf)
        refine aW.mk ⟨k+1,hlt,ac,?_,Tu rfl (Tu rfl (Tu (by rw[hn];rfl) Tx))⟩;rw[hn];exact hds
       |some x=>
        by_cases hl:x.num<y.num
        ·have l1:decide (y.num>x.num)=true:=by simpa using hl
         have e:cM (j:Int) (some x) rows[k]=some y:=by simp[cM,er,m2,Af,hl]
         rw[e]at hn;repeat'((first|refine awz ?_|refine TJ hlt ?_|refine cP (rh) ?_|refine And.intro ah ?_|refine Tz ac ac ?_|fail)<;>conv=>whnf)
         refine aW.mk ⟨k+1,hlt,ac,?_,Tu rfl (Tu rfl (Tu (by rw[hn];rfl) Tx))⟩;rw[hn];exact hds
        ·have l1:decide (y.num>x.num)=false:=by simp only[decide_eq_false_iff_not];omega
         have e:cM (j:Int) (some x) rows[k]=some x:=by simp[cM,er,m2,Af,hl]
         rw[e]at hn;repeat'((first|refine awz ?_|refine TJ hlt ?_|refine cP (rh) ?_|refine And.intro ah ?_|refine Tz ac ac ?_|fail)<;>conv=>whnf)
         refine aW.mk ⟨k+1,hlt,ac,?_,Tu rfl (Tu rfl (Tu (by rw[hn];rfl) Tx))⟩;rw[hn];exact hds
      ·have m1:(y.num.tmod 2==(j:Int))=false:=by rw[htm];simpa using hm
       have m2:(y.num % 2==(j:Int))=false:=by simpa using hm
       have e:cM (j:Int) c rows[k]=c:=by simp[cM,er,m2]
       rw[e]at hn;cases c<;>
       ·repeat'((first|refine awz ?_|refine TJ hlt ?_|refine cP (rh) ?_|refine And.intro ah ?_|refine Tz ac ac ?_|fail)<;>conv=>whnf)
        refine aW.mk ⟨k+1,hlt,ac,?_,Tu rfl (Tu rfl (Tu (by rw[hn];rfl) Tx))⟩;rw[hn];exact hds
    ·have hck:decide ((k:Int)<((rows.map cW).length:Int))=false:=by simp only[decide_eq_false_iff_not,List.length_map];omega
     rw[List.take_of_length_le ac,<-hsucc];generalize hbb:zT t (j+1)=c;cases c<;>
     ·repeat'(first|refine awz ?_|(refine Tz ac ac ?_;conv=>whnf)|fail)
      refine aW.mk ⟨j+1,ac,ac,?_,Tu rfl (Tu rfl (Tu (by rw[hbb];rfl) Tx))⟩;rw[hbb];exact hds
  ·have e:j=2:=ac;subst e;have hc:decide (((2:Nat):Int)<2)=false:=ah;have eb:zT t 2=pc t:=rfl;rw[eb];unfold uf;cases pc t<;>repeat'(first|refine awz ?_|exact rZ|fail)
section
variable {b:DBook}{h:DHead}{t:DTwo}{k0:List (List Int)}{k:Nat}
def nE:List (List Nat):=a8 [0,0,2,194,0,5,1141387590,487563469057]
def nJ:List (List Nat):=dN 6 [726,650,653,662,80,161]
def mS:List (List Nat):=a8 [0,0,2,0,12420,1327235,101458181,7601135814,0,9,0,41547,3191370,0x34a24b308183084147,0x4818308414724a2cc34e,0xf38d30b2891c51020c6201]
def mV:List (List Nat):=dN 14 [4782966,1587818,1587821,1587788,1587803,1587884,1588127,1588856,124658,131219,59048,91853,269000,797162]
def mT:List (List Nat):=a8 [0,0,0,0,196,20739,1108881669,486472966273]
def mW:List (List Nat):=dN 6 [726,722,62,26,44,125]
def mK:List (List Nat):=a8 [0,0,0,65,67637506,347943211331,417753473094]
def KU(h:DHead):List (List Int):=(List.replicate 22 []).set (h.num % 2).toNat (eD h)
def v8(h:DHead)(b:DBook)(k:Nat):List (List Int):=(b.entries.take k).foldl (λl e=>l.set (fX e.index).toNat (eA e)) (KU h)
theorem L5(h:DHead)(b:DBook)(k:Nat):(v8 h b k).length=22:=by rw[v8,rS];simp[KU]
theorem I1(hk:k<b.entries.length):v8 h b (k+1)=(v8 h b k).set (fX b.entries[k].index).toNat (eA b.entries[k]):=by
 have e:b.entries.take (k+1)=b.entries.take k++[b.entries[k]]:=by rw[List.take_add_one,List.getElem?_eq_getElem hk];rfl
 rw[v8,e,List.foldl_append];rfl
theorem L4(h:DHead)(b:DBook):v8 h b b.entries.length=jF h b:=by rw[v8,List.take_length];rfl
def qP(h:DHead)(b:DBook)(t:DTwo)(k:Nat):DTwo:=⟨⟨pX h b t.a.kept k,[]⟩,⟨pX h b t.b.kept k,[]⟩⟩
theorem w9(hk:k0.length=22){j:Nat}(hj:j<=22):(pX h b k0 j).length=22:=by
 have hl:=gV h b;simp[pX,hl,hk];omega
theorem Gd(h0:∀y∈k0,bm y=true)(j:Nat):∀y∈pX h b k0 j,bm y=true:=by
 intro y hy;rcases List.mem_append.1 hy with hy|hy
 ·obtain⟨r,hr,rfl⟩:=List.mem_map.1 (List.mem_of_mem_take hy);obtain⟨h1,h2⟩:=xi h b r hr;exact fx h1 h2
 ·exact h0 y (List.mem_of_mem_drop hy)
theorem Pn(ht:fc t=true)(h22:t.a.kept.length=22)(hk:k<=22):fc (qP h b t k)=true:=by
 obtain⟨f1,f2,f3⟩:=dr ht;have l1:=w9 (h:=h) (b:=b) h22 hk;have l2:=w9 (h:=h) (b:=b) (k0:=t.b.kept) ac hk;refine oC ⟨iX ⟨?_,?_,by simp[qP],Gd (cz f1).2.2.2.1 k,by simp[qP]⟩,iX ⟨?_,?_,by simp[qP],Gd (cz f2).2.2.2.1 k,by simp[qP]⟩,?_⟩<;>simp only[qP]<;>omega
theorem MO(h22:t.a.kept.length=22)(h23:t.b.kept.length=22)(hk:k<22):jr (pR (qP h b t k) (k:Int) ((jF h b)[k]'(by rw[gV];exact hk)))=qP h b t (k+1):=by
 simp only[jr,pR,qP,LO];have e1:=An (h:=h) (b:=b) h22 hk;have e2:=An (h:=h) (b:=b) h23 hk;unfold eG at e1 e2;rw[e1,e2]
def P8:DTwo:=⟨⟨[],[]⟩,⟨[],[]⟩⟩
def PW(t:DTwo):AP:=match pc t with
 |some h=> .tup [.agg (uR h (gq t h).1).ds,.agg h.ds,.agg (gq t h).1.ds,.one (dB true)]
 |none=> .tup [.agg P8.ds,.agg d8.ds,.agg (⟨0,0,[]⟩:DBook).ds,.one (dB false)]
theorem EM(t:DTwo)(ht:dw t=true):aM av 184 [.agg t.ds] (PW t):=by
 have h2:fc t=true/\t.a.kept.length=22:=by simpa[dw]using ht
 have hi:=Me t ht;unfold PW;cases eh:pc t with
 |none=>
  rw[eh]at hi;unfold uf at hi;simp only;refine pO func184 call184 ntmps184 results184 λS=>?_;conv=>whnf
  repeat'(first|refine awz ?_|(refine cP (hi) ?_;conv=>whnf)|exact rZ|fail)
 |some h=>
  rw[eh]at hi;have hi:aM av 253 [.agg t.ds] (.tup [.agg h.ds,.one (dB true)]):=hi;have ho:=w7 eh;have hf:=bD ho;have bi:=L7 t h ht ho;have gr:=(oZ (t:=t) ho).ok;simp only;generalize (gq t h).1=b at bi gr;obtain⟨b1,b2,b3,b4,b5,b6⟩:=bh gr;have hbl:b.entries.length<=20:=b4;have bs:=ku t h2.1;have hft:=FG h2.1;have h22:(jr t).a.kept.length=22:=by simp[jr,fD,gd,h2.2]
  have h23:(jr t).b.kept.length=22:=by rw[<-(dr hft).2.2];exact h22
  have htm:h.num.tmod 2=h.num % 2:=Int.tmod_eq_emod_of_nonneg ac;have hmd:0<=h.num % 2/\h.num % 2<2:=ac;refine pO func184 call184 ntmps184 results184 λS=>?_;conv=>whnf
  repeat'((first|refine awz ?_|refine cP (hi) ?_|refine cP (bi) ?_|refine cP (bs) ?_|refine⟨22,rfl,rfl,by decide,ac,?_⟩|fail)<;>conv=>whnf)
  (refine TB aL 7 6 nE nJ ae ae ae rfl ?_;conv=>whnf)
  repeat'((first|refine awz ?_|refine cP (x9 h ho) ?_|refine And.intro ah ?_|refine Ty (h.num % 2).toNat [.sl []] (by rw[htm];omega) (by rw[List.getElem?_replicate,if_pos ac]) ?_|fail)<;>conv=>whnf)
  refine Ty (h.num % 2).toNat [.sl []] (by first|rfl|(rw[htm];omega)) (by rw[List.getElem?_replicate,if_pos ac]) ?_;conv=>whnf
  repeat'(first|refine awz ?_|fail)
  have E1:(List.replicate 22 [AD.sl []]).set (h.num % 2).toNat [AD.sl ((eD h).map eI)]=(v8 h b 0).map cW:=by
   show _=(KU h).map cW;rw[KU,List.map_set,List.map_replicate];rfl
  refine TE (λk:Nat=>k<=b.entries.length) (11::rg 36 22) (λk=>[(11,vI .i64 (k:Int))]) (λk=>[(2,.cells 41 [.nil,.nil,.nil,.nil]),(3,.cells 44 [.d (dI 0),.d (dI 0),.d (dI 0),.nil]),(4,.cells 47 [.d (dI 0),.d (dI 0),.nil]),(6,.cells 44 (h.ds.map .d)),(8,.cells 47 (b.ds.map .d)),(9,.cells 41 ((jr t).ds.map .d)),(28,.row 30 1 ((v8 h b k).map cW))]) (λk=>b.entries.length-k) 0 (Nat.zero_le _) ?_ (Tu rfl (Tu rfl (Tu rfl (Tu rfl (Tu rfl (Tu rfl (Tu (congrArg some (congrArg (AO.row 30 1) E1)) Tx))))))) (λk hk=>?_)<;>(conv=>whnf)
  ·exact whd
  ·have hrl:=L5 h b k;by_cases hlt:k<b.entries.length
   ·have hc:decide ((k:Int)<((b.entries.map DEntry.ds).length:Int))=true:=by simp only[decide_eq_true_eq,List.length_map];omega
    have eok:=(d6 ((fj b5).2.1 _ (List.getElem_mem hlt))).1;have sr:=pJ b.entries[k].index;have E2:=I1 (h:=h) hlt;repeat'(first|refine awz ?_|fail)
    (refine TB aL 11 14 mS mV ae ae ae rfl ?_;conv=>whnf)
    repeat'((first|refine awz ?_|refine TJ hlt ?_|refine cP (tw _ eok) ?_|refine cP (uV b.entries[k]) ?_|refine AIx.int ac ac ?_|refine Tz ac ac ?_|fail)<;>conv=>whnf)
    refine aW.mk ⟨k+1,hlt,ac,?_,Tu rfl (Tu rfl (Tu rfl (Tu rfl (Tu rfl (Tu rfl (Tu (by rw[E2,List.map_set];rfl) Tx))))))⟩;exact hds
   ·have e:k=b.entries.length:=ac;subst e;have hc:decide ((b.entries.length:Int)<((b.entries.map DEntry.ds).length:Int))=false:=ai;rw[L4];repeat'(first|refine awz ?_|fail)
    have e0:qP h b (jr t) 0=jr t:=by simp only[qP,IK];rfl
    refine TE (λk:Nat=>k<=22) (12::rg 58 11) (λk=>[(12,vI .i64 (k:Int))]) (λk=>[(2,.cells 41 [.nil,.nil,.nil,.nil]),(3,.cells 44 [.d (dI 0),.d (dI 0),.d (dI 0),.nil]),(4,.cells 47 [.d (dI 0),.d (dI 0),.nil]),(6,.cells 44 (h.ds.map .d)),(8,.cells 47 (b.ds.map .d)),(9,.cells 41 ((qP h b (jr t) k).ds.map .d)),(28,.row 30 1 ((jF h b).map cW))]) (λk=>22-k) 0 (Nat.zero_le _) ?_ (Tu rfl (Tu rfl (Tu rfl (Tu rfl (Tu rfl (Tu (by rw[e0];rfl) sbW)))))) (λk hk=>?_)<;>(conv=>whnf)
    ·exact whd
    ·have hrl:=gV h b;by_cases hlt:k<22
     ·have hc:decide ((k:Int)<22)=true:=by simp only[decide_eq_true_eq];omega
      have hlk:k<(jF h b).length:=ac;have rk:=xi h b _ (List.getElem_mem hlk);have t1:=w9 (h:=h) (b:=b) h22 hk;have md:=yc (qP h b (jr t) k) (k:Int) (jF h b)[k] (Pn hft h22 hk) (by simp[qP]) (by simp[qP]) (by simp only[qP,t1,aI,Bool.and_eq_true,decide_eq_true_eq];omega) rk.1 rk.2;rw[MO h22 h23 hlt]at md;repeat'(first|refine awz ?_|fail)
      (refine TB aL 15 6 mT mW ae ae ae rfl ?_;conv=>whnf)
      repeat'((first|refine awz ?_|refine TJ hlk ?_|refine cP (md) ?_|refine Tz ac ac ?_|fail)<;>conv=>whnf)
      refine aW.mk ⟨k+1,hlt,ac,?_,sbW⟩;exact hds
     ·have e:k=22:=ac;subst e;have hc:decide (((22:Nat):Int)<22)=false:=ah;have e1:qP h b (jr t) 22=uR h b:=by simp only[qP,CR h22,CR h23];rfl
      rw[e1];repeat'(first|refine awz ?_|fail)
      (refine TD aL 16 (tkc [0,1,2] (onc [3,4,5] (.take 6 .done))) [(6,9980),(8,9981),(9,9982)] mK ae ae ae ae (λRz=>?_);(conv=>whnf);intro bp0 up0;(conv=>whnf);intro bp1 up1;(conv=>whnf);intro bp2 up2;(conv=>whnf))
      repeat'(first|refine awz ?_|exact rZ|fail)
end
end Go.Proofs.YtlmoekpinpafeaaGreat
