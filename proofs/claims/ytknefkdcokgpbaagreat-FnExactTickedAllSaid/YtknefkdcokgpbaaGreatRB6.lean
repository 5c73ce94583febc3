/- RB6 -/
import Derived.Test.YtknefkdcokgpbaaGreatRB2
import Derived.Test.YtknefkdcokgpbaaGreatAvFX
import Derived.Test.YtknefkdcokgpbaaGreatWEq
import Derived.Test.YtknefkdcokgpbaaGreatRA3
import Derived.Test.YtknefkdcokgpbaaGreatHe
import Derived.Test.YtknefkdcokgpbaaGreatWCp
import Derived.Test.YtknefkdcokgpbaaGreatMkA
set_option maxHeartbeats 8000000
set_option linter.unusedVariables false
set_option linter.unusedSimpArgs false
set_option maxRecDepth 100000
open List (length_map map_append)
namespace Go.Proofs.YtknefkdcokgpbaaGreat
section
open Go.Proofs.Tryz
open Go.ChangeShapes Go.WideShapes Go.RowKit
variable {rows:List (List Int)}
def fc:List (List Nat):=bZ [0,1,2,3,4,0,389,0,0x2071851030811c8]
def jS:List (List Nat):=bZ [0,0,66,12417,0,0,326,29061,17663105454471,0x91c61480c2044]
def gK(rows:List (List Int))(k:Nat):List Int:=((rows.take k).map λr=>(fP r).getD []).flatten
theorem MU{k:Nat}(hk:k<rows.length){x:List Int}(h:fP rows[k]=some x):gK rows (k+1)=gK rows k++x:=by
 unfold gK;rw[List.take_add_one,List.getElem?_eq_getElem hk];simp only[map_append,List.flatten_append,Option.toList,List.map_cons,List.map_nil,List.flatten_cons,List.flatten_nil,List.append_nil,h,Option.getD_some]
theorem T1(rows:List (List Int))(k:Nat):(gK rows k).length<=48*k:=by
 induction k with
 |zero=>simp[gK]
 |succ k ih=>
  by_cases hk:k<rows.length
  ·cases e:fP rows[k]with
   |none=>
    have:gK rows (k+1)=gK rows k:=by
     unfold gK;rw[List.take_add_one,List.getElem?_eq_getElem hk];simp only[map_append,List.flatten_append,Option.toList,List.map_cons,List.map_nil,List.flatten_cons,List.flatten_nil,List.append_nil,e,Option.getD_none]
    rw[this];omega
   |some x=>
    rw[MU hk e,List.length_append];have:=(v9 e).1;omega
  ·have:gK rows (k+1)=gK rows k:=by
    unfold gK;rw[List.take_of_length_le ac,List.take_of_length_le ac]
   rw[this];omega
theorem CI(h:∀r∈rows,(fP r).isSome=true):yh rows=some (gK rows rows.length):=by
 unfold gK;rw[List.take_length];induction rows with
 |nil=>rfl
 |cons r t ih=>
  have h1:=h r (List.mem_cons_self ..);cases e:fP r with
  |none=>rw[e]at h1;cases h1
  |some x=>
   simp only[yh,e,ih λr h'=>h r (List.mem_cons_of_mem _ h')];simp[e]
theorem qw{s:Int×DState}(h:cF rows=some s):(1<=rows.length/\rows.length<=4)/\(∀r∈rows,(fP r).isSome=true):=by
 obtain⟨ho,hr⟩:=oF h;have hl:=eR ho;rw[hr]at hl;refine⟨ac,?_⟩;intro r hm;rw[<-hr]at hm;obtain⟨p,hp,rfl⟩:=List.getElem_of_mem hm;rw[qA ho hp];refine JP ho ?_;rw[hr]at hp;omega
theorem xn(h:¬(1<=rows.length/\rows.length<=4)):cF rows=none:=by
 cases e:cF rows with
 |none=>rfl
 |some s=>exact absurd (qw e).1 h
theorem DS{r:List Int}(h:r∈rows)(hr:fP r=none):cF rows=none:=by
 cases e:cF rows with
 |none=>rfl
 |some s=>
  have:=(qw e).2 r h;rw[hr]at this;cases this
theorem HD(h:∀r∈rows,(fP r).isSome=true)(hn:fG (gK rows rows.length)=none):cF rows=none:=by
 have:=zk (CI h);simp only[cF,this,hn]
theorem HB(h:∀r∈rows,(fP r).isSome=true){s:DState}(hn:fG (gK rows rows.length)=some s)(h1:1<=rows.length):cF rows=if aV ((rows.getD 0 []).getD 0 0,s)=rows then some ((rows.getD 0 []).getD 0 0,s)else none:=by
 have:=zk (CI h);have he:rows.isEmpty=false:=by cases rows with|nil=>simp at h1|cons a b=>rfl
 simp only[cF,this,hn,he,Bool.not_false,Bool.and_true,beq_iff_eq]
def zz:Int×DState:=(0,gV)
def CE(o:Option (Int×DState)):AP:= .tup [.agg (fh (o.getD zz)),.one (dB o.isSome)]
theorem J6(rows:List (List Int))(hbig:rows.length<=1048576):aM av 412 [.one (.sl (rows.map bM))] (CE (cF rows)):=by
 by_cases h1:1<=rows.length
 ·have m1:decide (((rows.map bM).length:Int)<1)=false:=by simp only[length_map,decide_eq_false_iff_not];omega
  by_cases h4:rows.length<=4
  ·have m2:decide (((rows.map bM).length:Int)>4)=false:=by simp only[length_map,decide_eq_false_iff_not];omega
   unfold CE fh;refine pO func412 call412 ntmps412 results412 λS=>?_;conv=>whnf
   repeat'(first|refine awz ?_|fail)
   have hr0:rows[0]? =some (rows.getD 0 []):=by rw[List.getD_eq_getElem?_getD,List.getElem?_eq_getElem ac];rfl
   refine X5 (λk:Nat=>k<=rows.length/\∀i (hi:i<rows.length),i<k->(fP rows[i]).isSome=true) (22::[3,4,5,6,7,23,24,25,26,27,28,29,30,31,32,33,34,35,36,37,38,39,40,41,42]) (λk=>[(4,.one (.own 22)),(5,vI .i64 (k:Int))]) (λk=>[(2,.cells 312 [.d (dI 0),.d (dI 0),.d (dI 0),.nil,.nil,.d (dI 0),.d (dI 0),.d (dI 0)]),(22,.row 2 1 ((gK rows k).map eI))]) (λk=>rows.length-k) 0 ⟨Nat.zero_le _,λi hi h=>by omega⟩ ?_ sbW (λk hk=>?_)<;>(conv=>whnf)
   ·exact whd
   ·obtain⟨hk,hall⟩:=hk;have hgl:=T1 rows k;by_cases hlt:k<rows.length
    ·have hc:decide ((k:Int)<((rows.map bM).length:Int))=true:=by simp only[length_map,decide_eq_true_eq];omega
     have lp:=Mn rows[k];cases e:fP rows[k]with
     |none=>
      rw[e]at lp;rw[DS (List.getElem_mem hlt) e];unfold v8 at lp;repeat'((first|refine awz ?_|refine Yg hlt ?_|refine cP (lp) ?_|exact rZ|fail)<;>conv=>whnf)
     |some x=>
      rw[e]at lp;have hx:=v9 e;have hgs:=MU hlt e;have lp:aM av 459 [.one (.sl (rows[k].map eI))] (.tup [.one (.sl (x.map eI)),.one (dB true)]):=lp;repeat'((first|refine awz ?_|refine Yg hlt ?_|refine cP (lp) ?_|refine aI (by first|(intro y hy;obtain⟨a,_,rfl⟩:=List.mem_map.1 hy;rfl)|(simp;done)) ?_|refine aJ ao ?_|refine X3 ac ac ?_|fail)<;>conv=>whnf)
      refine bd.mk ⟨k+1,⟨hlt,λi hi h=>?_⟩,ac,?_,X0 rfl (X0 (by rw[hgs,map_append];rfl) X4)⟩
      ·rcases Nat.eq_or_lt_of_le (Nat.le_of_lt_succ h)with h|h
       ·subst h;rw[e];rfl
       ·exact hall i hi h
      ·exact hds
    ·have ek:k=rows.length:=ac;subst ek;have hc:decide ((rows.length:Int)<((rows.map bM).length:Int))=false:=aj;have hall:∀r∈rows,(fP r).isSome=true:=λr hr=>by
      obtain⟨i,hi,rfl⟩:=List.getElem_of_mem hr;exact hall i hi hi
     have h0:0<(rows.getD 0 []).length:=by
      have:=hall (rows.getD 0 []) (List.mem_of_getElem? hr0);cases e:fP (rows.getD 0 [])with
      |none=>rw[e]at this;cases this
      |some x=>exact(v9 e).2
     have g00:=i7 (l:=rows.getD 0 []) h0;have g0:(rows.map bM)[0]? =some (bM (rows.getD 0 [])):=by rw[List.getElem?_map,hr0];rfl
     have ns:=zP (gK rows rows.length) ac;cases en:fG (gK rows rows.length)with
     |none=>
      rw[en]at ns;rw[HD hall en];have ns:aM av 460 [.one (.sl ((gK rows rows.length).map eI))] (.tup [.agg gV.ds,.one (dB false)]):=ns;have sh:=tx ((rows.getD 0 []).getD 0 0,gV) (by show(0:Nat)<=_;decide);have es:aV ((rows.getD 0 []).getD 0 0,gV)=[]:=by
       have:eO ((rows.getD 0 []).getD 0 0,gV)=false:=by simp[eO,gV]
       rw[aV,this];rfl
      rw[es]at sh;generalize gK rows rows.length=gg at*
      generalize (rows.getD 0 []).getD 0 0=n0 at*
      repeat'(first|refine awz ?_|(refine aG.freeze 22 2 1 (gg.map eI) rfl ?_;(conv=>whnf);refine XZ ns rfl ?_;conv=>whnf)|fail)
      (refine X7 aN 12 (tkc [0,1,2,3,4,5] (.two 6 (.one 7 (.one 8 .done)) 7 (.one 6 (.one 8 .done)))) [(8,9980)] fc ae ae ae ae (λRz=>?_);(conv=>whnf);intro bp0 up0;(conv=>whnf))
      repeat'((first|refine awz ?_|refine X8 0 _ rfl g0 ?_|refine X8 0 _ rfl g00 ?_|refine cP (sh) ?_|exact rZ|refine tW ?_ ?_|fail)<;>conv=>whnf)
     |some st=>
      rw[en]at ns;rw[HB hall en h1];have ns:aM av 460 [.one (.sl ((gK rows rows.length).map eI))] (.tup [.agg st.ds,.one (dB true)]):=ns;have ok:=zc en;have hpm:=jY (dm ok).2.2.1;have sh:=tx ((rows.getD 0 []).getD 0 0,st) (by simp only;omega);have hrs:∀r∈aV ((rows.getD 0 []).getD 0 0,st),r.length<=1048576:=by
       intro r hr;unfold aV at hr;split at hr
       ·rename_i ho;obtain⟨p,hp,rfl⟩:=List.mem_map.1 hr;have:=(tz (List.mem_range.1 hp)).2;simp only[iL,List.length_append,List.length_cons,List.length_nil];omega
       ·cases hr
      have hrl:(aV ((rows.getD 0 []).getD 0 0,st)).length<=67:=by
       unfold aV;have:=(jH ok).2;split
       ·simp only[length_map,List.length_range,cA];omega
       ·simp
      generalize aV ((rows.getD 0 []).getD 0 0,st)=rs at*
      generalize gK rows rows.length=gg at*
      generalize (rows.getD 0 []).getD 0 0=n0 at*
      repeat'(first|refine awz ?_|(refine aG.freeze 22 2 1 (gg.map eI) rfl ?_;(conv=>whnf);refine XZ ns rfl ?_;conv=>whnf)|fail)
      (refine X7 aN 12 (tkc [0,1,2,3,4,5] (.two 6 (.one 7 (.one 8 .done)) 7 (.one 6 (.one 8 .done)))) [(8,9980)] fc ae ae ae ae (λRz=>?_);(conv=>whnf);intro bp0 up0;(conv=>whnf))
      by_cases hl:rs.length=rows.length
      ·have m3:(((rs.map bM).length:Int) !=((rows.map bM).length:Int))=false:=by simp only[length_map,hl];simp
       repeat'((first|refine awz ?_|refine X8 0 _ rfl g0 ?_|refine X8 0 _ rfl g00 ?_|refine cP (sh) ?_|refine tW ?_ ?_|fail)<;>conv=>whnf)
       all_goals
        refine X5 (λk:Nat=>k<=rows.length/\∀i (hi:i<rows.length),i<k->rs[i]'(ac)=rows[i]) (3::12::rg 67 17) (λk=>[(12,vI .i64 (k:Int))]) (λk=>[(2,.cells 312 [.d (dI 0),.d (dI 0),.d (dI 0),.nil,.nil,.d (dI 0),.d (dI 0),.d (dI 0)]),(8,.cells 85 (st.ds.map .d)),(10,.cells 312 ((fh (n0,st)).map .d))]) (λk=>rows.length-k) 0 ⟨Nat.zero_le _,λi hi h=>by omega⟩ ?_ sbW (λk hk=>?_)<;>(conv=>whnf)
        ·exact whd
        ·obtain⟨hk,same⟩:=hk;by_cases hlt:k<rows.length
         ·have hc:decide ((k:Int)<((rows.map bM).length:Int))=true:=by simp only[length_map,decide_eq_true_eq];omega
          have hlr:k<rs.length:=ac;have sr:=Mc rs[k] rows[k] (hrs _ (List.getElem_mem hlr));by_cases hs:rs[k]=rows[k]
          ·have n1:decide (rs[k]=rows[k])=true:=decide_eq_true hs;rw[n1]at sr;repeat'(first|refine awz ?_|fail)
           (refine X9 aN 19 8 jS aU ae ae ae rfl ?_;conv=>whnf)
           repeat'((first|refine awz ?_|refine Yg hlt ?_|refine Yg hlr ?_|refine cP (sr) ?_|refine X3 ac ac ?_|fail)<;>conv=>whnf)
           refine bd.mk ⟨k+1,⟨hlt,λi hi h=>?_⟩,ac,?_,sbW⟩
           ·rcases Nat.eq_or_lt_of_le (Nat.le_of_lt_succ h)with h|h
            ·subst h;exact hs
            ·exact same i hi h
           ·exact hds
          ·have n1:decide (rs[k]=rows[k])=false:=decide_eq_false hs;rw[n1]at sr;rw[if_neg λe=>hs (by subst e;rfl)];repeat'(first|refine awz ?_|fail)
           (refine X9 aN 19 8 jS aU ae ae ae rfl ?_;conv=>whnf)
           repeat'((first|refine awz ?_|refine Yg hlt ?_|refine Yg hlr ?_|refine cP (sr) ?_|exact rZ|fail)<;>conv=>whnf)
         ·have e:rs=rows:=List.ext_getElem hl λi h1 h2=>same i h2 ac;have hc:decide ((k:Int)<((rows.map bM).length:Int))=false:=by simp only[length_map,decide_eq_false_iff_not];omega
          rw[if_pos e];repeat'(first|refine awz ?_|exact rZ|fail)
      ·have m3:(((rs.map bM).length:Int) !=((rows.map bM).length:Int))=true:=by simp only[length_map,bne_iff_ne,ne_eq];omega
       rw[if_neg λe=>hl (by rw[e])];repeat'((first|refine awz ?_|refine X8 0 _ rfl g0 ?_|refine X8 0 _ rfl g00 ?_|refine cP (sh) ?_|exact rZ|refine tW ?_ ?_|fail)<;>conv=>whnf)
  ·have m2:decide (((rows.map bM).length:Int)>4)=true:=by simp only[length_map,decide_eq_true_eq];omega
   rw[xn ac];unfold CE;refine pO func412 call412 ntmps412 results412 λS=>?_;conv=>whnf
   repeat'(first|refine awz ?_|exact rZ|fail)
 ·have m1:decide (((rows.map bM).length:Int)<1)=true:=by simp only[length_map,decide_eq_true_eq];omega
  rw[xn ac];unfold CE;refine pO func412 call412 ntmps412 results412 λS=>?_;conv=>whnf
  repeat'(first|refine awz ?_|exact rZ|fail)
end
section
open Go.Proofs.Tryz
open Go.ChangeShapes Go.WideShapes Go.RowKit
variable {d:DDisk}{slot:Int}
theorem wc{s:Int}(h:s=0\/s=1):aM av 339 [pI s] (rB true):=by
 rcases h with rfl|rfl
 ·refine pO func339 call339 ntmps339 results339 λS=>?_;conv=>whnf
  repeat'(first|refine awz ?_|exact rZ|fail)
 ·refine pO func339 call339 ntmps339 results339 λS=>?_;conv=>whnf
  repeat'(first|refine awz ?_|exact rZ|fail)
theorem iU(h:dg d=true):cG d=true/\d.kept.length=8:=by simpa[dg]using h
theorem vr(d:DDisk)(slot:Int)(k:Nat):(dr d slot (k+1)).map bM=(dr d slot k).map bM++[bM (pn d (slot*4+(k:Int)))]:=by
 simp[dr,List.range_succ]
theorem kG(d:DDisk)(slot:Int)(k:Nat):(dr d slot k).length=k:=by simp[dr]
theorem Mh{k:Nat}{s:Int×DState}(h:cF (dr d slot k)=some s):im d slot=some s:=by
 obtain⟨h1,h2⟩:=D2 h;rw[im,if_pos h1,<-h2,h]
theorem Kc(h:∀k,1<=k->k<=4->cF (dr d slot k)=none):im d slot=none:=by
 unfold im;split
 ·cases e:cF (dr d slot (fa d slot))with
  |none=>rfl
  |some s=>
   have:=(qw e).1;rw[kG]at this;rw[h _ this.1 this.2]at e;cases e
 ·rfl
theorem FC(d:DDisk)(slot:Int)(hd:dg d=true)(hs:slot=0\/slot=1):aM av 337 [.agg d.ds,pI slot] (CE (im d slot)):=by
 obtain⟨h1,h8⟩:=iU hd;have n1:(!dg d)=false:=by rw[hd];rfl
 unfold CE fh;refine pO func337 call337 ntmps337 results337 λS=>?_;conv=>whnf
 repeat'((first|refine awz ?_|refine cP (nv d) ?_|refine cP (wc hs) ?_|fail)<;>conv=>whnf)
 refine X5 (λk:Nat=>k<=4/\∀j,1<=j->j<=k->cF (dr d slot j)=none) (21::[5,6,7,8,9,10,11,22,23,24,25,26,27,28,29,30,31,32,33,34,35,36,37,38,39,40,41,42,43,44,45]) (λk=>[(6,.one (.own 21)),(7,vI .i64 (k:Int))]) (λk=>[(2,.cells 69 (d.ds.map .d)),(4,.cells 312 [.d (dI 0),.d (dI 0),.d (dI 0),.nil,.nil,.d (dI 0),.d (dI 0),.d (dI 0)]),(21,.row 62 1 ((dr d slot k).map bM))]) (λk=>4-k) 0 ⟨Nat.zero_le _,λj h1 h2=>by omega⟩ ?_ sbW (λk hk=>?_)<;>(conv=>whnf)
 ·exact whd
 ·obtain⟨hk,none_⟩:=hk;have hrl:=kG d slot k;by_cases hlt:k<4
  ·have hc:decide ((k:Int)<4)=true:=by simp only[decide_eq_true_eq];omega
   have ra:=OB d (slot*4+(k:Int)) h1 (by rw[h8];simp only[aK,Bool.and_eq_true,decide_eq_true_eq];omega);have hss:=vr d slot k;have hl1:=kG d slot (k+1);have rs:=J6 (dr d slot (k+1)) ac;cases e:cF (dr d slot (k+1))with
   |none=>
    rw[e]at rs;have rs:aM av 412 [.one (.sl ((dr d slot (k+1)).map bM))] (.tup [.agg (fh zz),.one (dB false)]):=rs;repeat'((first|refine awz ?_|refine cP (ra) ?_|refine aad rs (by rw[hss];rfl) (by rfl) ?_|refine aJ ao ?_|refine X3 ac ac ?_|fail)<;>conv=>whnf)
    refine bd.mk ⟨k+1,⟨hlt,λj h1 h2=>?_⟩,ac,?_,X0 rfl (X0 rfl (X0 (by rw[hss];rfl) X4))⟩
    ·rcases Nat.eq_or_lt_of_le h2 with h|h
     ·subst h;exact e
     ·exact none_ j h1 ac
    ·exact hds
   |some s=>
    rw[e]at rs;rw[Mh e];have rs:aM av 412 [.one (.sl ((dr d slot (k+1)).map bM))] (.tup [.agg (fh s),.one (dB true)]):=rs;repeat'(first|refine awz ?_|(refine cP (ra) ?_;conv=>whnf)|(refine aG.freeze 21 62 1 ((dr d slot (k+1)).map bM) (by rw[hss];rfl) ?_;(conv=>whnf);refine XZ rs rfl ?_;conv=>whnf)|((first|refine aJ ao ?_|refine X3 ac ac ?_|fail)<;>conv=>whnf)|exact rZ|fail)
  ·have e:k=4:=ac;subst e;have hc:decide (((4:Nat):Int)<4)=false:=ah;rw[Kc λj h1 h2=>none_ j h1 h2];repeat'(first|refine awz ?_|exact rZ|fail)
def UD(x:Option (Int×DState)×Int):AP:= .tup [.agg (fh (x.1.getD zz)),pI x.2,.one (dB x.1.isSome)]
theorem DU(d:DDisk)(hd:dg d=true):aM av 253 [.agg d.ds] (UD (eX d)):=by
 have s0:=FC d 0 hd (.inl rfl);have s1:=FC d 1 hd (.inr rfl);unfold eX;generalize im d 0=a at*
 generalize im d 1=b at*
 unfold UD fh;unfold CE fh at s0 s1;cases a with
 |none=>
  cases b with
  |none=>
   refine pO func253 call253 ntmps253 results253 λS=>?_;conv=>whnf
   repeat'((first|refine awz ?_|refine cP (s0) ?_|refine cP (s1) ?_|exact rZ|fail)<;>conv=>whnf)
  |some b=>
   refine pO func253 call253 ntmps253 results253 λS=>?_;conv=>whnf
   repeat'((first|refine awz ?_|refine cP (s0) ?_|refine cP (s1) ?_|exact rZ|fail)<;>conv=>whnf)
 |some a=>
  cases b with
  |none=>
   refine pO func253 call253 ntmps253 results253 λS=>?_;conv=>whnf
   repeat'((first|refine awz ?_|refine cP (s0) ?_|refine cP (s1) ?_|exact rZ|fail)<;>conv=>whnf)
  |some b=>
   by_cases h:a.1<b.1
   ·have hc:decide (b.1>a.1)=true:=by simpa using h
    simp only[if_pos h];refine pO func253 call253 ntmps253 results253 λS=>?_;conv=>whnf
    repeat'((first|refine awz ?_|refine cP (s0) ?_|refine cP (s1) ?_|exact rZ|fail)<;>conv=>whnf)
   ·have hc:decide (b.1>a.1)=false:=by simpa using h
    simp only[if_neg h];refine pO func253 call253 ntmps253 results253 λS=>?_;conv=>whnf
    repeat'((first|refine awz ?_|refine cP (s0) ?_|refine cP (s1) ?_|exact rZ|fail)<;>conv=>whnf)
end
open Go.ChangeShapes Go.WideShapes Go.RowKit
theorem Ct(d:DDisk):(eX d).2=0\/(eX d).2=1:=by
 unfold eX;split
 ·split
  ·exact .inr rfl
  ·exact .inl rfl
 ·exact .inl rfl
 ·exact .inr rfl
 ·exact .inl rfl
open Go.Proofs.Tryz
def fb:List (List Nat):=bZ [0,0,2,65,4345827587]
theorem uz(d:DDisk)(hs:Yp 1048576 d):aM av 330 [.agg d.ds] (.val (.agg d.ds)):=
 d5.data (yp d hs) rfl rfl
theorem Dc(s:DStore)(hs:Yv 1048576 s):aM av 251 [.agg s.ds] (.val (.agg s.ds)):=by
 have c1:=uz s.disk hs.1;have c2:=Db s.state hs.2;refine pO func251 call251 ntmps251 results251 λS=>?_;conv=>whnf
 repeat'((first|refine awz ?_|refine cP (c1) ?_|refine cP (c2) ?_|exact rZ|fail)<;>conv=>whnf)
theorem L6(s:DStore)(h:storeOk s=true):aM av 150 [.agg s.ds] (.val (pI (s.state.index+1))):=by
 have hs:=gz h;have c1:=nw s (by have:=hs.2.1;omega);rw[h]at c1;have f3:=(oq (zS h).state).2.2.1;refine pO func150 call150 ntmps150 results150 λS=>?_;conv=>whnf
 repeat'((first|refine awz ?_|refine cP (c1) ?_|refine X3 ac ac ?_|exact rZ|fail)<;>conv=>whnf)
def jN:List (List Nat):=bZ [0,0,2,0,259,0,0,454,8,37185,10,11,11,0,0x38c2ca2481c61440c204a30e,0xf38d30b2892071851030813cd]
def gJ:List (List Nat):=bZ [0,1,0,0,4,5,0,7,8,582,2400450,11,12,12,0,0xf34c2ca2481c61440c204b34f,0x40f38d30b28920718510308140e]
theorem Q5(d:DDisk)(a:Int)(r:List Int)(h:cG d=true)(hw:60<=d.wait.length):aM av 340 [.agg d.ds,pI a,.one (.sl (r.map eI))] (.tup [.agg d.ds,.one (dB false)]):=by
 have hs:=dT h;have h40:=(dc h).2.1;have n1:(!cG d)=false:=by rw[h];rfl
 have n4:decide ((60:Int)<=((d.wait.map DWrite.ds).length:Int))=true:=al;have n5:decide (((d.wait.map DWrite.ds).length:Int)>=60)=true:=n4;refine pO func340 call340 ntmps340 results340 λS=>?_;conv=>whnf
 repeat'((first|refine awz ?_|refine cP (em d) ?_|refine cP (lS d a h40) ?_|refine cP (dJ r) ?_|refine cP (uz d hs) ?_|exact rZ|refine tW ?_ ?_|intro h)<;>conv=>whnf)
end Go.Proofs.YtknefkdcokgpbaaGreat
