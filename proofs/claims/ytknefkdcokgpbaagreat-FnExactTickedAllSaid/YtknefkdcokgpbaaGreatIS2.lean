/- IS2 -/
import Derived.Test.YtknefkdcokgpbaaGreatHe
import Derived.Test.YtknefkdcokgpbaaGreatIW1
import Derived.Test.YtknefkdcokgpbaaGreatRB6
import Derived.Test.YtknefkdcokgpbaaGreatIS3
import Derived.Test.YtknefkdcokgpbaaGreatWG
import Derived.Test.YtknefkdcokgpbaaGreatIW2
import Derived.Test.YtknefkdcokgpbaaGreatIW5
import Derived.Test.YtknefkdcokgpbaaGreatTC2
set_option maxHeartbeats 8000000
set_option linter.unusedVariables false
set_option linter.unusedSimpArgs false
set_option maxRecDepth 100000
open List (getElem?_eq_getElem length_map mem_map)
namespace Go.Proofs.YtknefkdcokgpbaaGreat
open Go.Proofs.Tryz
open Go.ChangeShapes Go.WideShapes Go.RowKit
theorem E1(s:Int×DState)(hp:s.2.pairs.length<=9223372036854775806):aM av 450 [.agg (fh s)] (rB (eO s)):=by
 obtain⟨n,s⟩:=s;simp only at hp;unfold fh;have bt:=be n 1 1000000000;have so:=ig s hp;have e:eO (n,s)=(aK n 1 1000000000&&cn s&&s.index !=0):=rfl;rw[e];refine pO func450 call450 ntmps450 results450 λS=>?_;conv=>whnf
 repeat'((first|refine awz ?_|refine cP (bt) ?_|refine cP (so) ?_|refine tW ?_ ?_|intro h)<;>conv=>whnf)
 all_goals
  refine bJ ?_;simp_all
theorem B9(n:Nat)(h:n<=1000):aM av 476 [pI (n:Int)] (.val (pI ((cA n:Nat):Int))):=by
 have e:((cA n:Nat):Int)=((n:Int)+20-1).tdiv 20:=by rw[Int.tdiv_eq_ediv_of_nonneg ac,cA];omega
 rw[e];have hr:0<=((n:Int)+20-1).tdiv 20/\((n:Int)+20-1).tdiv 20<=1000:=by rw[Int.tdiv_eq_ediv_of_nonneg ac];omega
 refine pO func476 call476 ntmps476 results476 λS=>?_;conv=>whnf
 repeat'((first|refine awz ?_|refine And.intro ah ?_|refine X3 ac ac ?_|exact rZ|fail)<;>conv=>whnf)
def On(l:List Int)(p:Nat):List Int:=(l.drop (20*p)).take 20
theorem T6{l:List Int}{p h:Nat}(hh:h=if(20*(p+1):Nat)<l.length then 20*(p+1)else l.length):((l.map eI).take h).drop (20*p)=(On l p).map eI:=by
 unfold On;rw[<-List.map_take,<-List.map_drop,List.drop_take];split at hh
 ·rw[hh,show 20*(p+1)-20*p=20 by omega]
 ·rw[List.take_of_length_le (by rw[List.length_drop];omega),List.take_of_length_le (by rw[List.length_drop];omega)]
theorem Qz(l:List Int)(p:Nat):(On l p).length<=20:=by simp[On];omega
theorem yT(s:Int×DState)(hp:s.2.pairs.length<=9223372036854775806):aM av 451 [.agg (fh s)] (.val (.one (.sl ((aV s).map bM)))):=by
 have so:=E1 s hp;cases ho:eO s with
 |false=>
  rw[ho]at so;have e:aV s=[]:=by simp[aV,ho]
  rw[e];obtain⟨n,st⟩:=s;unfold fh at*
  refine pO func451 call451 ntmps451 results451 λS=>?_;conv=>whnf
  repeat'(first|refine awz ?_|(refine cP (so) ?_;conv=>whnf)|exact rZ|fail)
 |true=>
  rw[ho]at so;obtain⟨g1,g2,g3⟩:=kD ho;obtain⟨i1,_⟩:=dm g2;obtain⟨m1,m2⟩:=jH g2;have sn:=zM s.2 g2;have e:aV s=ol s (cA (bH s.2).length):=by simp[aV,ho,ol]
  have hpo:cA (bH s.2).length<=4:=(eR ho).2.2;have po:=B9 (bH s.2).length ac;rw[e];unfold fh at*
  refine pO func451 call451 ntmps451 results451 λS=>?_;conv=>whnf
  repeat'((first|refine awz ?_|refine cP (so) ?_|refine cP (sn) ?_|fail)<;>conv=>whnf)
  rw[List.length_map];refine X5 (λp:Nat=>p<=cA (bH s.2).length) (16::[5,6,7,17,18,19,20,21,22,23,24,25,26,27,28,29,30,31,32,33,34,35,36,37,38,39,40,41,42,43,44,45,46,47,48,49,50,51,52,53]) (λp=>[(5,.one (.own 16)),(6,vI .i64 (p:Int))]) (λp=>[(1,.cells 312 ((dI s.1::s.2.ds).map .d)),(16,.row 62 1 ((ol s p).map bM))]) (λp=>cA (bH s.2).length-p) 0 (Nat.zero_le _) ?_ sbW (λp hk=>?_)<;>(conv=>whnf)
  ·exact whd
  ·have hnl:(ol s p).length=p:=by simp[ol]
   by_cases hlt:p<cA (bH s.2).length
   ·have hc:decide ((p:Int)<((cA (bH s.2).length:Nat):Int))=true:=by simp only[decide_eq_true_eq];omega
    have hp4:p<=3:=ac;have hml:=Qz (bH s.2) p;have rok:=nA ho hlt;have hsn:=C3 s p;have hp20:20*p<(bH s.2).length:=by unfold cA at hlt;omega
    have er:([[dI s.1],[dI s.2.index],[dI (p:Int)],[dI ((bH s.2).length:Int)]]++(On (bH s.2) p).map eI)++[[dI s.2.index],[dI s.1]]=(dh s p).map eI:=by simp[dh,On,eI]
    have ws:=LH (dh s p) rok.1 rok.2;obtain⟨h,hh⟩:∃h:Nat,h=if(20*(p+1):Nat)<(bH s.2).length then 20*(p+1)else(bH s.2).length:=⟨_,rfl⟩
    have hhi:(if(((p:Int)+1)*20)<((bH s.2).length:Int)then(((p:Int)+1)*20)else((bH s.2).length:Int))=(h:Int):=by
     rw[hh];split<;>split<;>omega
    have hcut:=T6 (p:=p) hh;have hb:20*p<=h/\h<=(bH s.2).length:=by rw[hh];split<;>omega
    repeat'(first|((first|refine awz ?_|refine cP (po) ?_|refine X3 ac ac ?_|(refine⟨20*p,h,(by show _=_;omega),hhi,hb.1,(by simp only[List.length_map];exact hb.2),(by intro y hy;obtain⟨a,_,rfl⟩:=List.mem_map.1 hy;rfl),?_⟩;rw[hcut])|refine aI (by first|(intro y hy;obtain⟨a,_,rfl⟩:=List.mem_map.1 hy;rfl)|(simp;done)) ?_|refine aJ am ?_|fail)<;>conv=>whnf)|(refine aG.freeze 30 2 1 ((dh s p).map eI) (congrArg (AO.row 2 1) er) ?_;(conv=>whnf);refine XZ ws rfl ?_;conv=>whnf)|fail)
    all_goals
     refine bd.mk ⟨p+1,hlt,ac,?_,X0 rfl (X0 (congrArg some (congrArg (AO.row 62 1) hsn.symm)) X4)⟩;exact hds
   ·have e2:p=cA (bH s.2).length:=ac;subst e2;have hc:decide (((cA (bH s.2).length:Nat):Int)<((cA (bH s.2).length:Nat):Int))=false:=aj;repeat'(first|refine awz ?_|(refine cP (po) ?_;conv=>whnf)|exact rZ|fail)
section
variable {rows:List (List Int)}{a x:List Int}{k:Nat}
def JA(x:List Int):List Int:=(x.drop 4).take (x.length-6)
def pOf(r:List Int):Option (List Int):=match iW r with
 |some x=>if 6<=x.length then some (JA x)else none
 |none=>none
theorem k6(r:List Int)(l:List (List Int)):gO (r::l)=(pOf r).bind λa=>(gO l).map λy=>a++y:=by
 rw [show gO (r :: l) = (match iW r with
  |some x=>if 6<=x.length then(gO l).map (λy=>(x.drop 4).take (x.length-6)++y)else none
  |none=>none)from rfl]
 unfold pOf;cases iW r with
 |none=>rfl
 |some x=>
  simp only;split<;>rfl
theorem xY:∀(a b:List (List Int)),gO (a++b)=(gO a).bind λx=>(gO b).map λy=>x++y
 |[],b=>by simp[gO]
 |r::l,b=>by
  rw[List.cons_append,k6,k6,xY l b];cases pOf r with
  |none=>rfl
  |some x=>
   cases gO l with
   |none=>rfl
   |some y=>cases gO b<;>simp
theorem Lw(hk:k<rows.length)(h:gO (rows.take k)=some a)(hp:pOf rows[k]=some x):gO (rows.take (k+1))=some (a++x):=by
 rw[List.take_succ_eq_append_getElem hk,xY,h,k6,hp];simp[gO]
theorem BH(hk:k<rows.length)(hp:pOf rows[k]=none):gO rows=none:=by
 have e:rows=rows.take k++rows[k]::rows.drop (k+1):=by rw[<-List.drop_eq_getElem_cons hk,List.take_append_drop]
 rw[e,xY,k6,hp];cases gO (rows.take k)<;>rfl
theorem Sp(h:6<=x.length):((x.map eI).take (x.length-2)).drop 4=(JA x).map eI:=by
 unfold JA;rw[<-List.map_take,<-List.map_drop,List.drop_take,show x.length-2-4=x.length-6 by omega]
def JL(o:Option (List Int)):AP:= .tup [.one (.sl ((o.getD []).map eI)),.one (dB o.isSome)]
theorem I2(rows:List (List Int))(hb:rows.length<=1000):aM av 486 [.one (.sl (rows.map bM))] (JL (gO rows)):=by
 refine pO func486 call486 ntmps486 results486 λS=>?_;conv=>whnf
 repeat'(first|refine awz ?_|fail)
 refine X5 (λg:Nat×List Int=>g.1<=rows.length/\gO (rows.take g.1)=some g.2/\g.2.length<=48*g.1) (9::[2,3,4,6,7,8,12,13,14,15,16,17,18,19,20,21,22,23,24,25,26,27,28,29,30,31,32,33,34,35]) (λg=>[(4,.one (.own 9)),(12,vI .i64 (g.1:Int))]) (λg=>[(9,.row 2 1 (g.2.map eI))]) (λg=>rows.length-g.1) (0,[]) ⟨Nat.zero_le _,rfl,by simp⟩ ?_ sbW (λg hg=>?_)<;>(conv=>whnf)
 ·exact whd
 ·obtain⟨k,acc⟩:=g;obtain⟨hk,hacc,hal⟩:=hg;simp only at hk hacc hal;by_cases hlt:k<rows.length
  ·have hc:decide ((k:Int)<((rows.map bM).length:Int))=true:=by simp only[decide_eq_true_eq,length_map];omega
   have un:=IT rows[k];cases hu:iW rows[k]with
   |none=>
    have hp:pOf rows[k]=none:=by simp[pOf,hu]
    rw[BH hlt hp];rw[hu]at un;unfold v8 at un;unfold JL;repeat'((first|refine awz ?_|refine Yg hlt ?_|refine cP (un) ?_|exact rZ|fail)<;>conv=>whnf)
   |some x=>
    rw[hu]at un;have un:aM av 492 [.one (.sl (rows[k].map eI))] (.tup [.one (.sl (x.map eI)),.one (dB true)]):=un;have hx48:=(nE hu).2.1;by_cases h6:6<=x.length
    ·have hp:pOf rows[k]=some (JA x):=by simp[pOf,hu,h6]
     have h5:decide (((x.map eI).length:Int)<6)=false:=al;have hml:(JA x).length<=48:=by simp[JA];omega
     repeat'((first|refine awz ?_|refine Yg hlt ?_|refine cP (un) ?_|(refine⟨4,x.length-2,rfl,(by show _=_;simp only[length_map];omega),ac,aj,(by intro y hy;obtain⟨a,_,rfl⟩:=mem_map.1 hy;rfl),?_⟩;rw[Sp h6])|refine aI (by first|(intro y hy;obtain⟨a,_,rfl⟩:=mem_map.1 hy;rfl)|(simp;done)) ?_|refine aJ am ?_|refine X3 an an ?_|fail)<;>conv=>whnf)
     refine bd.mk ⟨(k+1,acc++JA x),⟨hlt,Lw hlt hacc hp,by simp only[List.length_append];omega⟩,by simp only;omega,?_,X0 (by simp[bA]) X4⟩;exact hds
    ·have hp:pOf rows[k]=none:=by simp[pOf,hu,h6]
     have h5:decide (((x.map eI).length:Int)<6)=true:=al;rw[BH hlt hp];unfold JL;repeat'((first|refine awz ?_|refine Yg hlt ?_|refine cP (un) ?_|exact rZ|fail)<;>conv=>whnf)
  ·have e:k=rows.length:=ac;subst e;have hc:decide ((rows.length:Int)<((rows.map bM).length:Int))=false:=aj;rw[List.take_length]at hacc;rw[hacc];unfold JL;repeat'(first|refine awz ?_|exact rZ|fail)
def qT(o:Option (Int×DState)):List AP1:=[.agg (fh (o.getD zz)),.one (dB o.isSome)]
theorem Lv{r:List Int}{l:List (List Int)}(h:gO (r::l)=some a):7<=r.length:=by
 rw[k6]at h;cases hp:pOf r with
 |none=>rw[hp]at h;cases h
 |some y=>
  unfold pOf at hp;cases hu:iW r with
  |none=>rw[hu]at hp;cases hp
  |some x=>
   rw[hu]at hp;simp only at hp;split at hp
   ·rw[(nE hu).2.2];simp[iL];omega
   ·cases hp
theorem ES:∀{rows:List (List Int)} {a:List Int},gO rows=some a->a.length<=48*rows.length
 |[],a,h=>by simp[gO]at h;subst h;simp
 |r::l,a,h=>by
  rw[k6]at h;cases hp:pOf r with
  |none=>rw[hp]at h;cases h
  |some y=>
   rw[hp]at h;cases hg:gO l with
   |none=>rw[hg]at h;cases h
   |some z=>
    rw[hg]at h;simp at h;subst h;have:=ES hg;have hy:y.length<=48:=by
     unfold pOf at hp;cases hu:iW r with
     |none=>rw[hu]at hp;cases hp
     |some x=>
      rw[hu]at hp;simp only at hp;have:=(nE hu).2.1;split at hp
      ·injection hp with hp;subst hp;simp[JA];omega
      ·cases hp
    simp only[List.length_append,List.length_cons];omega
theorem GU(rows:List (List Int))(hb:rows.length<=1000):fC av 477 [.one (.sl (rows.map bM))] (qT (cF rows)):=by
 have ga:=I2 rows hb;cases hg:gO rows with
 |none=>
  have e:cF rows=none:=by simp[cF,hg]
  rw[e];rw[hg]at ga;unfold JL at ga;unfold qT;refine bq aN func477 rfl call477 ntmps477 (aaK results477) rfl λS=>?_;conv=>whnf
  repeat'(first|refine awz ?_|(refine cP (ga) ?_;conv=>whnf)|fail)
  all_goals(exact⟨.inl rfl,.inl rfl,_,_,Nat.le_refl _,Ya (hi:=0) rfl⟩)
 |some l=>
  rw[hg]at ga;have ga:aM av 486 [.one (.sl (rows.map bM))] (.tup [.one (.sl (l.map eI)),.one (dB true)]):=ga;have hll:=ES hg;cases rows with
  |nil=>
   have e:cF []=none:=by
    unfold cF;cases gO []with
    |none=>rfl
    |some l=>simp only[List.isEmpty_nil,Bool.not_true,Bool.and_false,Bool.false_eq_true,if_false];split<;>rfl
   rw[e];unfold qT;refine bq aN func477 rfl call477 ntmps477 (aaK results477) rfl λS=>?_;conv=>whnf
   repeat'(first|refine awz ?_|(refine cP (ga) ?_;conv=>whnf)|fail)
   all_goals(exact⟨.inl rfl,.inl rfl,_,_,Nat.le_refl _,Ya (hi:=0) rfl⟩)
  |cons r0 rest=>
   have h7:=Lv hg;generalize hrows:r0::rest=rows at*
   have hpos:0<rows.length:=by rw[<-hrows];simp
   have hr0:rows[0]=r0:=by subst hrows;rfl
   have hz:(((rows.map bM).length:Int)==0)=false:=by simp only[length_map,beq_eq_false_iff_ne,ne_eq];omega
   have ns:=ya l ac;cases hn:fG l with
   |none=>
    have e:cF rows=none:=by simp[cF,hg,hn]
    rw[e];rw[hn]at ns;unfold mc at ns;unfold qT;refine bq aN func477 rfl call477 ntmps477 (aaK results477) rfl λS=>?_;conv=>whnf
    repeat'((first|refine awz ?_|refine cP (ga) ?_|refine Yk ns rfl rfl λR lo hi a1 a2 F=>?_|fail)<;>conv=>whnf)
    all_goals(exact⟨.inl rfl,.inl rfl,_,_,Nat.le_refl _,Ya (hi:=0) rfl⟩)
   |some st=>
    have hso:=zc hn;have hpl:=jY (dm hso).2.2.1;rw[hn]at ns;have ns:fC av 487 [.one (.sl (l.map eI))] [.agg st.ds,.one (dB true)]:=ns;obtain⟨num,hnum⟩:∃num,num=(rows.getD 0 []).getD 0 0:=⟨_,rfl⟩;have hget:(rows[0].map eI)[0]? =some (eI num):=by
     have:0<rows[0].length:=by rw[hr0];omega
     rw[List.getElem?_map,getElem?_eq_getElem this,hnum,List.getD_eq_getElem?_getD,List.getD_eq_getElem?_getD,getElem?_eq_getElem hpos,Option.getD_some,getElem?_eq_getElem this];rfl
    have e:cF rows=if aV (num,st)=rows then some (num,st)else none:=by
     have hne:rows.isEmpty=false:=by rw[<-hrows];rfl
     simp only[cF,hg,hn,<-hnum,hne,Bool.not_false,Bool.and_true,beq_iff_eq]
    have sr:=yT (num,st) (by show st.pairs.length<=9223372036854775806;omega);have main:∀o:Option (Int×DState),(aV (num,st)=rows->o=some (num,st))->(aV (num,st)≠rows->o=none)->fC av 477 [.one (.sl (rows.map bM))] (qT o):=by
     intro o h1 h2;have hags:∀r∈aV (num,st),r.length<=9223372036854775806:=λr hr=>by
      unfold aV at hr;split at hr
      ·rename_i hso2;obtain⟨p,hp,rfl⟩:=mem_map.1 hr;have:=(nA hso2 (List.mem_range.1 hp)).2;simp only[iL,List.length_append,List.length_singleton];omega
      ·simp at hr
     generalize aV (num,st)=again at sr h1 h2 hags;by_cases hlen:again.length=rows.length
     ·have hc:(((again.map bM).length:Int) !=((rows.map bM).length:Int))=false:=by simp[hlen]
      refine bq aN func477 rfl call477 ntmps477 (aaK results477) rfl λS=>?_;conv=>whnf
      repeat'((first|refine awz ?_|refine cP (ga) ?_|refine Yk ns rfl rfl λR lo hi a1 a2 F=>?_|fail)<;>conv=>whnf)
      (refine X7 aN 7 (tkc [0,1,2,3,4,5] (.two 6 (.one 7 (.one 8 .done)) 7 (.one 6 (.one 8 .done)))) [(6,9980)] fc ae ae ae ae (λRz=>?_);(conv=>whnf);intro bp0 up0;(conv=>whnf))
      repeat'((first|refine awz ?_|refine X8 0 (bM rows[0]) rfl (by rw[List.getElem?_map,getElem?_eq_getElem hpos];rfl) ?_|refine X8 0 (eI num) rfl hget ?_|refine tW ?_ ?_|fail)<;>conv=>whnf)
      all_goals
       have F7:cJ lo hi ([dI num]++((bS R 0 (st.ds++[dB true])).drop 0).take 7) ([dI num]++((st.ds++[dB true]).drop 0).take 7):=(Yn (lo:=lo) (hi:=lo) (ds:=[dI num]) rfl).app (F.part 0 7) (.inl (Nat.le_refl _)) ⟨Nat.le_refl _,Nat.le_refl _⟩ ⟨a2,Nat.le_refl _⟩;refine YD [.agg ((fh (num,st)).map .d)] ⟨F7.asV,trivial⟩ ?_;refine XZ sr rfl ?_;conv=>whnf
       repeat'(first|refine awz ?_|fail)
       refine X5 (λk:Nat=>k<=rows.length/\∀(j:Nat) (h1:j<again.length) (h2:j<rows.length),j<k->again[j]=rows[j]) (3::10::11::rg 50 14) (λk=>[(50,vI .i64 (k:Int))]) (λk=>[(9997,cH S.w0.heap.size hi),(2,.cells 312 [.d (dI 0),.d (dI 0),.d (dI 0),.nil,.nil,.d (dI 0),.d (dI 0),.d (dI 0)]),(8,.cells 312 [.d (dI num),.d (dI st.index),.d (dI st.time),.d (.x (R 2)),.d (.x (R 3)),.d (dI st.lease.holder),.d (dI st.lease.epoch),.d (dI st.lease.til)])]) (λk=>rows.length-k) 0 ⟨Nat.zero_le _,λj h1 h2 h3=>by omega⟩ ?_ sbW (λk hk=>?_)<;>(conv=>whnf)
       ·exact whd
       ·obtain⟨hk,hall⟩:=hk;by_cases hlt:k<rows.length
        ·have hlt2:k<again.length:=ac;have hck:decide ((k:Int)<((again.map bM).length:Int))=true:=by simp only[decide_eq_true_eq,length_map];omega
         have hag:=hags _ (List.getElem_mem hlt2);have sm:=mY again[k] rows[k] hag;by_cases he:again[k]=rows[k]
         ·have hd:decide (again[k]=rows[k])=true:=by simpa using he
          rw[hd]at sm;repeat'((first|refine awz ?_|refine Yg hlt2 ?_|refine Yg hlt ?_|refine cP (sm) ?_|refine X3 ac ac ?_|fail)<;>conv=>whnf)
          refine bd.mk ⟨k+1,⟨hlt,λj g1 g2 g3=>?_⟩,ac,?_,sbW⟩
          ·rcases Nat.lt_succ_iff_lt_or_eq.1 g3 with g|g
           ·exact hall j g1 g2 g
           ·subst g;exact he
          ·exact hds
         ·have hd:decide (again[k]=rows[k])=false:=by simpa using he
          rw[hd]at sm;obtain rfl:=h2 λe9=>by subst e9;exact he rfl
          unfold qT;repeat'((first|refine awz ?_|refine Yg hlt2 ?_|refine Yg hlt ?_|refine cP (sm) ?_|fail)<;>conv=>whnf)
          all_goals(exact⟨.inl rfl,.inl rfl,_,_,Nat.le_refl _,Ya (hi:=0) rfl⟩)
        ·have e8:k=rows.length:=ac;subst e8;have hck:decide ((rows.length:Int)<((again.map bM).length:Int))=false:=by simp[hlen]
         obtain rfl:=h1 (List.ext_getElem hlen λj g1 g2=>hall j g1 g2 g2);unfold qT;repeat'(first|refine awz ?_|fail)
         all_goals exact⟨lo,hi,a1,(F7.app (Yn (lo:=hi) (hi:=hi) (ds:=[dB true]) rfl) (.inl (Nat.le_refl _)) ⟨Nat.le_refl _,a2⟩ ⟨Nat.le_refl _,Nat.le_refl _⟩).fam⟩
     ·have hc:(((again.map bM).length:Int) !=((rows.map bM).length:Int))=true:=al;obtain rfl:=h2 λe9=>hlen (by rw[e9]);refine bq aN func477 rfl call477 ntmps477 (aaK results477) rfl λS=>?_;conv=>whnf
      repeat'((first|refine awz ?_|refine cP (ga) ?_|refine Yk ns rfl rfl λR lo hi a1 a2 F=>?_|fail)<;>conv=>whnf)
      (refine X7 aN 7 (tkc [0,1,2,3,4,5] (.two 6 (.one 7 (.one 8 .done)) 7 (.one 6 (.one 8 .done)))) [(6,9980)] fc ae ae ae ae (λRz=>?_);(conv=>whnf);intro bp0 up0;(conv=>whnf))
      repeat'((first|refine awz ?_|refine X8 0 (bM rows[0]) rfl (by rw[List.getElem?_map,getElem?_eq_getElem hpos];rfl) ?_|refine X8 0 (eI num) rfl hget ?_|refine tW ?_ ?_|fail)<;>conv=>whnf)
      all_goals
       have F7:cJ lo hi ([dI num]++((bS R 0 (st.ds++[dB true])).drop 0).take 7) ([dI num]++((st.ds++[dB true]).drop 0).take 7):=(Yn (lo:=lo) (hi:=lo) (ds:=[dI num]) rfl).app (F.part 0 7) (.inl (Nat.le_refl _)) ⟨Nat.le_refl _,Nat.le_refl _⟩ ⟨a2,Nat.le_refl _⟩;refine YD [.agg ((fh (num,st)).map .d)] ⟨F7.asV,trivial⟩ ?_;refine XZ sr rfl ?_;conv=>whnf
       unfold qT;repeat'(first|refine awz ?_|fail)
      all_goals(exact⟨.inl rfl,.inl rfl,_,_,Nat.le_refl _,Ya (hi:=0) rfl⟩)
    rw[e];exact main _ (λh=>by rw[if_pos h]) (λh=>by rw[if_neg h])
end
theorem E8{s:Int}(h:s=0\/s=1):aM av 449 [pI s] (rB true):=by
 rcases h with rfl|rfl<;>
 ·refine pO func449 call449 ntmps449 results449 λS=>?_;conv=>whnf
  repeat'(first|refine awz ?_|exact rZ|fail)
theorem B2(d:DDisk)(slot:Int)(hd:dg d=true)(hs:slot=0\/slot=1):fC av 448 [.agg d.ds,pI slot] (qT (im d slot)):=by
 obtain⟨h1,h8⟩:=iU hd;have sk:=qc d;rw[hd]at sk;have so:=E8 hs;have hs2:0<=slot/\slot<=1:=ac;have r0:=EY d (slot*4) h1 (by rw[h8];simp[aK];omega);have hro:=dM (JT h1 (slot*4));have hfr:=(gZ (JT h1 (slot*4))).2;obtain⟨first,hfirst⟩:∃f,f=mJ d slot:=⟨_,rfl⟩;have hfirst2:pn d (slot*4)=first:=by rw[hfirst];rfl
 rw[hfirst2]at r0 hro hfr;by_cases c1:4<=first.length
 ·have n1:decide (((first.map eI).length:Int)<4)=false:=al;have bt:=be (first.getD 3 0) 1 80;have g3:(first.map eI)[3]? =some (eI (first.getD 3 0)):=by
   rw[List.getElem?_map,List.getElem?_eq_getElem ac,List.getD_eq_getElem?_getD,List.getElem?_eq_getElem ac];rfl
  cases c2:aK (first.getD 3 0) 1 80 with
  |false=>
   rw[c2]at bt;have e:im d slot=none:=by rw[im,py,<-hfirst,c2,Bool.and_false];rfl
   rw[e];unfold qT;refine bq aN func448 rfl call448 ntmps448 (aaK results448) rfl λS=>?_;conv=>whnf
   repeat'((first|refine awz ?_|refine cP (sk) ?_|refine cP (so) ?_|refine cP (r0) ?_|refine cP (bt) ?_|refine X8 3 _ rfl g3 ?_|refine X3 ac ac ?_|fail)<;>conv=>whnf)
   all_goals(exact⟨.inl rfl,.inl rfl,_,_,Nat.le_refl _,Ya (hi:=0) rfl⟩)
  |true=>
   rw[c2]at bt;have e:im d slot=cF (dr d slot (fa d slot)):=by rw[im,py,<-hfirst,c2,decide_eq_true c1];rfl
   rw[e];have hr3:1<=first.getD 3 0/\first.getD 3 0<=80:=by simpa[aK]using c2
   have hmany:fa d slot=cA (first.getD 3 0).toNat:=by rw[fa,<-hfirst]
   have hm4:fa d slot<=4:=by rw[hmany,cA];omega
   have po:=B9 (first.getD 3 0).toNat ac;rw[<-hmany,Int.toNat_of_nonneg ac]at po;have rs:=GU (dr d slot (fa d slot)) (by rw[kG];omega);refine bq aN func448 rfl call448 ntmps448 (aaK results448) rfl λS=>?_;conv=>whnf
   repeat'((first|refine awz ?_|refine cP (sk) ?_|refine cP (so) ?_|refine cP (r0) ?_|refine cP (bt) ?_|refine X8 3 _ rfl g3 ?_|refine X3 ac ac ?_|fail)<;>conv=>whnf)
   refine X5 (λk:Nat=>k<=fa d slot) (39::[8,9,10,11,40,41,42,43,44,45,46,47,48,49,50,51,52,53,54,55,56,57,58,59,60]) (λk=>[(8,.one (.own 39)),(9,vI .i64 (k:Int))]) (λk=>[(9997,cH S.w0.heap.size S.w0.heap.size),(2,.cells 69 (d.ds.map .d)),(4,.cells 312 [.d (dI 0),.d (dI 0),.d (dI 0),.nil,.nil,.d (dI 0),.d (dI 0),.d (dI 0)]),(39,.row 62 1 ((dr d slot k).map bM))]) (λk=>fa d slot-k) 0 (Nat.zero_le _) ?_ sbW (λk hk=>?_)<;>(conv=>whnf)
   ·exact whd
   ·have hsl:=kG d slot k;have hss:=vr d slot k;by_cases hlt:k<fa d slot
    ·have hc:decide ((k:Int)<((fa d slot:Nat):Int))=true:=by simp only[decide_eq_true_eq];omega
     have rk:=EY d (slot*4+(k:Int)) h1 (by rw[h8];simp[aK];omega);repeat'((first|refine awz ?_|refine cP (po) ?_|refine cP (rk) ?_|refine X8 3 _ rfl g3 ?_|refine aJ am ?_|refine X3 ac ac ?_|fail)<;>conv=>whnf)
     refine bd.mk ⟨k+1,hlt,ac,?_,X0 rfl (X0 rfl (X0 rfl (X0 (congrArg some (congrArg (AO.row 62 1) hss.symm)) X4)))⟩;exact hds
    ·have e2:k=fa d slot:=ac;subst e2;have hc:decide (((fa d slot:Nat):Int)<((fa d slot:Nat):Int))=false:=aj;repeat'(first|((first|refine awz ?_|refine cP (po) ?_|refine X8 3 _ rfl g3 ?_|fail)<;>conv=>whnf)|(refine aG.freeze 39 62 1 ((dr d slot (fa d slot)).map bM) rfl ?_;(conv=>whnf);refine Yk rs rfl rfl λR lo hi a1 a2 F=>?_;conv=>whnf)|fail)
     all_goals exact⟨lo,hi,a1,F.fam⟩
 ·have n1:decide (((first.map eI).length:Int)<4)=true:=al;have e:im d slot=none:=by simp[im,py,<-hfirst,c1]
  rw[e];unfold qT;refine bq aN func448 rfl call448 ntmps448 (aaK results448) rfl λS=>?_;conv=>whnf
  repeat'((first|refine awz ?_|refine cP (sk) ?_|refine cP (so) ?_|refine cP (r0) ?_|refine X3 ac ac ?_|fail)<;>conv=>whnf)
  all_goals(exact⟨.inl rfl,.inl rfl,_,_,Nat.le_refl _,Ya (hi:=0) rfl⟩)
def SS(x:Option (Int×DState)×Int):List AP1:=[.agg (fh (x.1.getD zz)),pI x.2,.one (dB x.1.isSome)]
theorem BY(d:DDisk)(hd:dg d=true):fC av 385 [.agg d.ds] (SS (eX d)):=by
 have s0:=B2 d 0 hd (.inl rfl);have s1:=B2 d 1 hd (.inr rfl);unfold qT at s0 s1;cases e0:im d 0 with
 |none=>
  rw[e0]at s0;have s0:fC av 448 [.agg d.ds,pI 0] [.agg (fh zz),.one (dB false)]:=s0;cases e1:im d 1 with
  |none=>
   rw[e1]at s1;have s1:fC av 448 [.agg d.ds,pI 1] [.agg (fh zz),.one (dB false)]:=s1;have e:eX d=(none,0):=by rw[eX,e0,e1]
   rw[e];refine bq aN func385 rfl call385 ntmps385 (aaK results385) rfl λS=>?_;conv=>whnf
   repeat'((first|refine awz ?_|refine Yk s0 rfl rfl λR lo hi a1 a2 F=>?_|refine Yk s1 rfl rfl λR2 lo2 hi2 b1 b2 F2=>?_|fail)<;>conv=>whnf)
   all_goals exact⟨lo,hi,a1,((F.part 0 8).fam.app (Ya (lo:=hi) (hi:=hi) (ds:=[dI 0,dB false]) rfl) (Nat.le_refl _) a2 (Nat.le_refl _))⟩
  |some y=>
   rw[e1]at s1;have s1:fC av 448 [.agg d.ds,pI 1] [.agg (fh y),.one (dB true)]:=s1;have e:eX d=(some y,1):=by rw[eX,e0,e1]
   rw[e];refine bq aN func385 rfl call385 ntmps385 (aaK results385) rfl λS=>?_;conv=>whnf
   repeat'((first|refine awz ?_|refine Yk s0 rfl rfl λR lo hi a1 a2 F=>?_|refine Yk s1 rfl rfl λR2 lo2 hi2 b1 b2 F2=>?_|fail)<;>conv=>whnf)
   all_goals exact⟨lo2,hi2,Nat.le_trans a1 (Nat.le_trans a2 b1),((F2.part 0 8).fam.app (Ya (lo:=hi2) (hi:=hi2) (ds:=[dI 1,dB true]) rfl) (Nat.le_refl _) b2 (Nat.le_refl _))⟩
 |some x=>
  rw[e0]at s0;have s0:fC av 448 [.agg d.ds,pI 0] [.agg (fh x),.one (dB true)]:=s0;cases e1:im d 1 with
  |none=>
   rw[e1]at s1;have s1:fC av 448 [.agg d.ds,pI 1] [.agg (fh zz),.one (dB false)]:=s1;have e:eX d=(some x,0):=by rw[eX,e0,e1]
   rw[e];refine bq aN func385 rfl call385 ntmps385 (aaK results385) rfl λS=>?_;conv=>whnf
   repeat'((first|refine awz ?_|refine Yk s0 rfl rfl λR lo hi a1 a2 F=>?_|refine Yk s1 rfl rfl λR2 lo2 hi2 b1 b2 F2=>?_|fail)<;>conv=>whnf)
   all_goals exact⟨lo,hi,a1,((F.part 0 8).fam.app (Ya (lo:=hi) (hi:=hi) (ds:=[dI 0,dB true]) rfl) (Nat.le_refl _) a2 (Nat.le_refl _))⟩
  |some y=>
   rw[e1]at s1;have s1:fC av 448 [.agg d.ds,pI 1] [.agg (fh y),.one (dB true)]:=s1;by_cases hlt:x.1<y.1
   ·have l1:decide (y.1>x.1)=true:=by simpa using hlt
    have e:eX d=(some y,1):=by simp[eX,e0,e1,hlt]
    rw[e];refine bq aN func385 rfl call385 ntmps385 (aaK results385) rfl λS=>?_;conv=>whnf
    repeat'((first|refine awz ?_|refine Yk s0 rfl rfl λR lo hi a1 a2 F=>?_|refine Yk s1 rfl rfl λR2 lo2 hi2 b1 b2 F2=>?_|fail)<;>conv=>whnf)
    all_goals exact⟨lo2,hi2,Nat.le_trans a1 (Nat.le_trans a2 b1),((F2.part 0 8).fam.app (Ya (lo:=hi2) (hi:=hi2) (ds:=[dI 1,dB true]) rfl) (Nat.le_refl _) b2 (Nat.le_refl _))⟩
   ·have l1:decide (y.1>x.1)=false:=by simpa using hlt
    have e:eX d=(some x,0):=by simp[eX,e0,e1,hlt]
    rw[e];refine bq aN func385 rfl call385 ntmps385 (aaK results385) rfl λS=>?_;conv=>whnf
    repeat'((first|refine awz ?_|refine Yk s0 rfl rfl λR lo hi a1 a2 F=>?_|refine Yk s1 rfl rfl λR2 lo2 hi2 b1 b2 F2=>?_|fail)<;>conv=>whnf)
    all_goals exact⟨lo,hi,a1,((F.part 0 8).fam.app (Ya (lo:=hi) (hi:=hi) (ds:=[dI 0,dB true]) rfl) (Nat.le_refl _) a2 (Nat.le_refl _))⟩
theorem LB(s:DStore)(h:storeOk s=true):aM av 296 [.agg s.ds] (.val (pI (s.state.index+1))):=by
 have hs:=gz h;have c1:=mZ s (by have:=hs.2.1;omega);rw[h]at c1;have f3:=(oq (zS h).state).2.2.1;refine pO func296 call296 ntmps296 results296 λS=>?_;conv=>whnf
 repeat'((first|refine awz ?_|refine XZ ai rfl ?_|refine X3 ac ac ?_|exact rZ|fail)<;>conv=>whnf)
theorem E4(d:DDisk)(a:Int)(r:List Int)(h:cG d=true)(hw:d.wait.length<60)(ha:aK a 0 ((d.kept.length:Int)-1)=true)(hr:cE r=true):fC av 452 [.agg d.ds,pI a,.one (.sl (r.map eI))] [.agg (nG d a r).ds,.one (dB true)]:=by
 have hs:=dT h;obtain⟨f1,f2,f3,f4,f5⟩:=dc h;have h48:=dM hr;have dk:=fS d;rw[h]at dk;have se:=lJ d a f2;rw[ha]at se;have ro:=js r;rw[hr]at ro;have cr:=la r ac;have hc:((((d.wait.map DWrite.ds).length:Nat):Int)==60)=false:=al;by_cases he:d.wait=[]
 ·obtain⟨k,w⟩:=d;simp only at he;subst he;have cd:=IY k (by simp only at f2;omega) (λy hy=>by have:=dM (f4 y hy);omega);refine bq aN func452 rfl call452 ntmps452 (aaK results452) rfl λS=>?_;conv=>whnf
  repeat'(first|((refine ZM Ua M5 ?_;refine Yh cd rfl rfl λR lo hi m1 m2 F=>?_)<;>conv=>whnf)|refine awz ?_|(refine XZ ai rfl ?_;conv=>whnf)|fail)
  refine YG 8 1 900 336 2 ah ?_;conv=>whnf
  repeat'(first|refine awz ?_|fail)
  (refine X7 aN 6 (tkc [0,2,3] (.two 1 (onc [4,5,6,7] (.take 8 (.one 9 .done))) 4 (.two 1 (onc [5,6,7] (.take 8 (.one 9 .done))) 5 (.two 1 (.one 6 (.one 7 (.take 8 (.one 9 .done)))) 6 (.one 1 (.one 7 (.take 8 (.one 9 .done)))))))) [] ji ae ae ae ae (λRz=>?_);(conv=>whnf))
  repeat'((first|refine Yh cr rfl rfl λR2 lo2 hi2 n1 n2 F2=>?_|refine awz ?_|refine aI (by first|(intro y hy;obtain⟨a,_,rfl⟩:=List.mem_map.1 hy;rfl)|(simp;done)) ?_|refine aJ ao ?_|refine tW ?_ ?_|fail)<;>conv=>whnf)
  all_goals
   have B:=Yn (lo:=hi) (hi:=hi) (ds:=[dI a]) rfl;exact⟨lo,hi2,m1,((((F.part 0 1).app (L:=lo) (H:=hi) B (.inl (Nat.le_refl _)) ⟨Nat.le_refl _,m2⟩ ⟨Nat.le_refl _,Nat.le_refl _⟩).app (L:=lo) (H:=hi2) F2 (.inl n1) ⟨Nat.le_refl _,ac⟩ ⟨ac,Nat.le_refl _⟩).app (L:=lo) (H:=hi2) (Yn (lo:=hi2) (hi:=hi2) (ds:=[dB true]) rfl) (.inl (Nat.le_refl _)) ⟨Nat.le_refl _,ac⟩ ⟨Nat.le_refl _,Nat.le_refl _⟩).fam⟩
 ·have hue:d.wait.map DWrite.ds≠ []:=by simpa using he
  refine bq aN func452 rfl call452 ntmps452 (aaK results452) rfl λS=>?_;conv=>whnf
  repeat'(first|((refine Zj 900 2 [.sl (d.kept.map bM)] [] (d.wait.map DWrite.ds) (IX d hs) rfl rfl ah hue alW λR lo hi te hte m1 m2 F=>?_;subst hte);conv=>whnf)|refine awz ?_|(refine XZ ai rfl ?_;conv=>whnf)|fail)
  (refine X7 aN 6 (tkc [0,2,3] (.two 1 (onc [4,5,6,7] (.take 8 (.one 9 .done))) 4 (.two 1 (onc [5,6,7] (.take 8 (.one 9 .done))) 5 (.two 1 (.one 6 (.one 7 (.take 8 (.one 9 .done)))) 6 (.one 1 (.one 7 (.take 8 (.one 9 .done)))))))) [] ji ae ae ae ae (λRz=>?_);(conv=>whnf))
  repeat'((first|refine Yh cr rfl rfl λR2 lo2 hi2 n1 n2 F2=>?_|refine aJ (by rw[eY];simp only[List.length_map,List.length_cons,List.length_nil];omega) ?_|refine awz ?_|refine tW ?_ ?_|fail)<;>conv=>whnf)
  all_goals
   have F':cJ lo hi ([.x (R 0)]++bS R 1 (d.wait.map DWrite.ds).flatten) ([.sl (d.kept.map bM)]++(d.wait.map DWrite.ds).flatten):=by
    have:=F;rw[List.append_nil]at this;exact this
   have B:=Yn (lo:=hi) (hi:=hi) (ds:=[dI a]) rfl;have F3:=(((F'.app (L:=lo) (H:=hi) B (.inl (Nat.le_refl _)) ⟨Nat.le_refl _,m2⟩ ⟨Nat.le_refl _,Nat.le_refl _⟩).app (L:=lo) (H:=hi2) F2 (.inl n1) ⟨Nat.le_refl _,ac⟩ ⟨ac,Nat.le_refl _⟩).app (L:=lo) (H:=hi2) (Yn (lo:=hi2) (hi:=hi2) (ds:=[dB true]) rfl) (.inl (Nat.le_refl _)) ⟨Nat.le_refl _,ac⟩ ⟨Nat.le_refl _,Nat.le_refl _⟩).fam;refine⟨by simp[eY,nG],alW,lo,hi2,m1,?_⟩;show Fam lo hi2 (.x (R 0)::((dx R 1 (d.wait.map DWrite.ds)++[[dI a,.x (R2 0)]]).flatten++[dB true])) (.sl (d.kept.map bM)::(((d.wait++[(⟨a,r⟩:DWrite)]).map DWrite.ds).flatten++[dB true]));rw[show(dx R 1 (d.wait.map DWrite.ds)++[[dI a,.x (R2 0)]]).flatten=bS R 1 (d.wait.map DWrite.ds).flatten++[dI a,.x (R2 0)]by rw[List.flatten_append,mv];simp,show((d.wait++[(⟨a,r⟩:DWrite)]).map DWrite.ds).flatten=(d.wait.map DWrite.ds).flatten++DWrite.ds (⟨a,r⟩:DWrite)by simp];simp only[List.append_assoc,List.cons_append,List.nil_append]at F3⊢;exact F3
theorem Of(d:DDisk)(a:Int)(r:List Int)(h:cG d=true)(hw:60<=d.wait.length)(ha:aK a 0 ((d.kept.length:Int)-1)=true)(hr:cE r=true):aM av 452 [.agg d.ds,pI a,.one (.sl (r.map eI))] (.tup [.agg d.ds,.one (dB false)]):=by
 have hs:=dT h;obtain⟨f1,f2,f3,f4,f5⟩:=dc h;have dk:=fS d;rw[h]at dk;have se:=lJ d a f2;rw[ha]at se;have ro:=js r;rw[hr]at ro;have cd:=(jU d hs).pcall;have hc:((((d.wait.map DWrite.ds).length:Nat):Int)==60)=true:=al;refine pO func452 call452 ntmps452 results452 λS=>?_;conv=>whnf
 repeat'(first|refine awz ?_|(refine XZ ai rfl ?_;conv=>whnf)|exact rZ|fail)
theorem AsV.two{c0 c1 d0 d1:AD}(h0:AsD c0 d0)(h1:AsD c1 d1):AsV (.agg [.d c0,.d c1]) (.agg [.d d0,.d d1]):=λZ w ρ u hr=>by
 cases hr with
 |agg _ us hl h=>
  refine .agg _ us hl λi c x hc hx=>?_;match i,hc with
  |0,hc=>simp at hc;subst hc;exact h0 Z w x (h 0 _ x rfl hx)
  |1,hc=>simp at hc;subst hc;exact h1 Z w x (h 1 _ x rfl hx)
  |i+2,hc=>simp at hc
def ST(d:DDisk)(o:Option DDisk):List AP1:=[.agg (o.getD d).ds,.one (dB o.isSome)]
theorem DE(d:DDisk)(slot:Int)(m:Int×DState)(h:dg d=true)(hs:slot=0\/slot=1)(hp:m.2.pairs.length<=9223372036854775806):fC av 386 [.agg d.ds,pI slot,.agg (fh m)] (ST d (cb d slot m)):=by
 obtain⟨hd,h8⟩:=iU h;have hsm:=dT hd;have c1:=qc d;rw[h]at c1;have c2:=E1 m hp;have c5:=yT m hp;have c3:=E8 hs;have c4:=jU d hsm;have w60:=(dc hd).2.2.1;cases hso:eO m with
 |false=>
  have e:cb d slot m=none:=by simp[cb,hso]
  rw[hso]at c2;rw[e];refine bq aN func386 rfl call386 ntmps386 (aaK results386) rfl λS=>?_;conv=>whnf
  repeat'(first|(refine Yh c4 rfl rfl λR lo hi m1 m2 F=>?_;conv=>whnf)|refine awz ?_|(refine XZ ai rfl ?_;conv=>whnf)|fail)
  exact⟨lo,hi,m1,(F.app (L:=lo) (H:=hi) (Yn (lo:=hi) (hi:=hi) (ds:=[dB false]) rfl) (.inl (Nat.le_refl _)) ⟨Nat.le_refl _,m2⟩ ⟨Nat.le_refl _,Nat.le_refl _⟩).fam⟩
 |true=>
  rw[hso]at c2;obtain⟨l1,l2,l3⟩:=eR hso;have hl:(cU slot (aV m)).length=(aV m).length:=by simp[cU]
  have e0:dt d []=d:=by simp[dt]
  by_cases hfit:d.wait.length+(aV m).length<=60
  ·have e:cb d slot m=some (dt d (cU slot (aV m))):=by simp[cb,hso,hfit]
   rw[e];refine bq aN func386 rfl call386 ntmps386 (aaK results386) rfl λS=>?_;conv=>whnf
   repeat'(first|refine awz ?_|(refine XZ ai rfl ?_;conv=>whnf)|fail)
   refine X5 (λg:Nat×AD×AD×Nat×Nat=>(g.1<=(aV m).length/\S.w0.heap.size<=g.2.2.2.1/\g.2.2.2.1<=g.2.2.2.2)/\AsV (.agg [.d g.2.1,.d g.2.2.1]) (.agg ((dt d ((cU slot (aV m)).take g.1)).ds.map .d))/\(g.1≠0->cJ g.2.2.2.1 g.2.2.2.2 [g.2.1,g.2.2.1] (dt d ((cU slot (aV m)).take g.1)).ds)) (7::9::10::11::12::rg 31 21) (λg=>[(29,.one (.d (.sl ((aV m).map bM)))),(30,vI .i64 ((aV m).length:Int)),(31,vI .i64 (g.1:Int))]) (λg=>[(9997,cH S.w0.heap.size g.2.2.2.2),(3,.cells 69 (d.ds.map .d)),(5,.cells 312 ((fh m).map .d)),(6,.cells 69 [.nil,.nil]),(8,.cells 69 [.d g.2.1,.d g.2.2.1])]) (λg=>(aV m).length-g.1) (0,.sl (d.kept.map bM),.sl (d.wait.map DWrite.ds),S.w0.heap.size,S.w0.heap.size) ⟨⟨Nat.zero_le _,Nat.le_refl _,Nat.le_refl _⟩,by rw[List.take_zero,e0];exact AsV.refl _,λh=>(h rfl).elim⟩ ?_ sbW (λg hg=>?_)<;>(conv=>whnf)
   ·rw[List.length_map];exact whd
   ·obtain⟨k,x0,x1,lo,hi⟩:=g;obtain⟨⟨hk,g1,g2⟩,hA,hF⟩:=hg;simp only at hk g1 g2 hA hF;by_cases hlt:k<(aV m).length
    ·have hc:decide ((k:Int)<((aV m).length:Int))=true:=al;have hlt2:k<(cU slot (aV m)).length:=ac;have hr:cE (aV m)[k]=true:=iV _ (List.getElem_mem hlt);have ha:0<=slot*4+(k:Int)/\slot*4+(k:Int)<=7:=ac;have hs4:0<=slot*4/\slot*4<=4:=ac;have es:=ot (d:=d) hlt2;have ee:(cU slot (aV m))[k]=⟨slot*4+(k:Int),(aV m)[k]⟩:=by simp[cU]
     rw[ee]at es;have tw:(dt d ((cU slot (aV m)).take k)).wait.length=d.wait.length+k:=by simp only[dt,List.length_append,List.length_take];omega
     have tk:(dt d ((cU slot (aV m)).take k)).kept=d.kept:=rfl;have to:cG (dt d ((cU slot (aV m)).take k))=true:=(iU (nz hs iV ac h k hk ac)).1;generalize dt d ((cU slot (aV m)).take k)=t at tw tk to es hA hF;have cw:=E4 t (slot*4+(k:Int)) (aV m)[k] to ac (by rw[tk,h8];exact xT ac) hr;repeat'((first|refine Yg hlt ?_|(refine YD [.agg (t.ds.map .d),.one (.d (dI (slot*4+(k:Int)))),.one (.d (.sl ((aV m)[k].map eI)))] ⟨hA,AsV.refl _,AsV.refl _,trivial⟩ ?_;refine Yk cw rfl rfl λR2 lo2 hi2 n1 n2 F2=>?_)|refine awz ?_|refine X3 ac ac ?_|fail)<;>conv=>whnf)
     have F3:=F2.part 0 2;have n1:hi<=lo2:=n1;refine bd.mk ⟨(k+1,.x (R2 0),.x (R2 1),lo2,hi2),⟨⟨hlt,by simp only;omega,n2⟩,by show AsV _ (.agg ((dt d ((cU slot (aV m)).take (k+1))).ds.map .d));rw[es];exact F3.asV,λ_=>by show cJ lo2 hi2 _ (dt d ((cU slot (aV m)).take (k+1))).ds;rw[es];exact F3⟩,by simp only;omega,?_,sbW⟩;exact hds
    ·have e:k=(aV m).length:=ac;subst e;have hc:decide (((aV m).length:Int)<((aV m).length:Int))=false:=aj;have F:=hF ac;rw[List.take_of_length_le ac]at F;repeat'(first|refine awz ?_|fail)
     exact⟨lo,hi,g1,(F.app (L:=lo) (H:=hi) (Yn (lo:=hi) (hi:=hi) (ds:=[dB true]) rfl) (.inl (Nat.le_refl _)) ⟨Nat.le_refl _,g2⟩ ⟨Nat.le_refl _,Nat.le_refl _⟩).fam⟩
  ·have e:cb d slot m=none:=by simp[cb,hfit]
   rw[e];refine bq aN func386 rfl call386 ntmps386 (aaK results386) rfl λS=>?_;conv=>whnf
   repeat'(first|refine awz ?_|(refine XZ ai rfl ?_;conv=>whnf)|fail)
   refine X5 (λk:Nat=>k<=(aV m).length/\d.wait.length+k<=60) (7::9::10::11::12::rg 31 21) (λk=>[(29,.one (.d (.sl ((aV m).map bM)))),(30,vI .i64 ((aV m).length:Int)),(31,vI .i64 (k:Int))]) (λk=>[(9997,cH S.w0.heap.size S.w0.heap.size),(3,.cells 69 (d.ds.map .d)),(5,.cells 312 ((fh m).map .d)),(6,.cells 69 [.nil,.nil]),(8,.cells 69 ((dt d ((cU slot (aV m)).take k)).ds.map .d))]) (λk=>(aV m).length-k) 0 ⟨Nat.zero_le _,ac⟩ ?_ (X0 rfl (X0 rfl (X0 rfl (X0 rfl (X0 (by show _=some (AO.cells _ ((dt d []).ds.map .d));rw[e0];rfl) X4))))) (λk hg=>?_)<;>(conv=>whnf)
   ·rw[List.length_map];exact whd
   ·obtain⟨hk,hw⟩:=hg;have hlt:k<(aV m).length:=ac;have hc:decide ((k:Int)<((aV m).length:Int))=true:=al;have hlt2:k<(cU slot (aV m)).length:=ac;have hr:cE (aV m)[k]=true:=iV _ (List.getElem_mem hlt);have hs4:0<=slot*4/\slot*4<=4:=ac;have es:=ot (d:=d) hlt2;have ee:(cU slot (aV m))[k]=⟨slot*4+(k:Int),(aV m)[k]⟩:=by simp[cU]
    rw[ee]at es;have tw:(dt d ((cU slot (aV m)).take k)).wait.length=d.wait.length+k:=by simp only[dt,List.length_append,List.length_take];omega
    have tk:(dt d ((cU slot (aV m)).take k)).kept=d.kept:=rfl;have to:cG (dt d ((cU slot (aV m)).take k))=true:=(iU (nz hs iV ac h k hk ac)).1;generalize dt d ((cU slot (aV m)).take k)=t at tw tk to es;by_cases h60:d.wait.length+k<60
    ·have cw:=(E4 t (slot*4+(k:Int)) (aV m)[k] to ac (by rw[tk,h8];exact xT ac) hr).pcall;repeat'((first|refine Yg hlt ?_|refine awz ?_|refine XZ ai rfl ?_|refine X3 ac ac ?_|fail)<;>conv=>whnf)
     refine bd.mk ⟨k+1,⟨hlt,ac⟩,ac,?_,X0 rfl (X0 rfl (X0 rfl (X0 rfl (X0 (by rw[es];rfl) X4))))⟩;exact hds
    ·have cw:=Of t (slot*4+(k:Int)) (aV m)[k] to ac (by rw[tk,h8];exact xT ac) hr;repeat'((first|refine Yg hlt ?_|refine Yh c4 rfl rfl λR lo hi m1 m2 F=>?_|refine awz ?_|refine XZ ai rfl ?_|refine X3 ac ac ?_|fail)<;>conv=>whnf)
     exact⟨lo,hi,m1,(F.app (L:=lo) (H:=hi) (Yn (lo:=hi) (hi:=hi) (ds:=[dB false]) rfl) (.inl (Nat.le_refl _)) ⟨Nat.le_refl _,m2⟩ ⟨Nat.le_refl _,Nat.le_refl _⟩).fam⟩
theorem B3(s:DStore)(h:storeOk s=true):fC av 297 [.agg s.ds] [.agg (cY s).ds,.one (dI (cY s).last)]:=by
 have sf:=zS h;have hs:=gz h;have c1:=mZ s (by have:=hs.2.1;omega);rw[h]at c1;have c2:=qe s hs;have hd:cG s.disk=true:=by have:=sf.disk;simp only[dg,Bool.and_eq_true]at this;exact this.1
 have c3:=yb s.disk hd;have hnum:=sf.num;unfold cY;by_cases hb:s.busy=0
 ·have q:(s.busy !=0)=false:=by simpa using hb
  rw[if_pos hb];refine bq aN func297 rfl call297 ntmps297 (aaK results297) rfl λS=>?_;conv=>whnf
  repeat'(first|(refine Yh c2 rfl rfl λR lo hi m1 m2 F=>?_;conv=>whnf)|refine awz ?_|(refine XZ ai rfl ?_;conv=>whnf)|fail)
  (refine X7 aN 8 (tkc [0,1,2] (.one 3 (.take 4 .done))) [(4,9980)] fb ae ae ae ae (λRz=>?_);(conv=>whnf);intro bp0 up0;(conv=>whnf))
  repeat'(first|refine awz ?_|fail)
  all_goals exact⟨lo,hi,m1,(F.app (L:=lo) (H:=hi) (Yn (lo:=hi) (hi:=hi) (ds:=[dI s.last]) rfl) (.inl (Nat.le_refl _)) ⟨Nat.le_refl _,m2⟩ ⟨Nat.le_refl _,Nat.le_refl _⟩).fam⟩
 ·have q:(s.busy !=0)=true:=by simpa using hb
  rw[if_neg hb];refine bq aN func297 rfl call297 ntmps297 (aaK results297) rfl λS=>?_;conv=>whnf
  repeat'((first|refine Yh c2 rfl rfl λR lo hi m1 m2 F=>?_|refine Yh c3 rfl rfl λR2 lo2 hi2 g1 g2 F2=>?_|refine awz ?_|refine XZ ai rfl ?_|refine X3 ac ac ?_|fail)<;>conv=>whnf)
  have FN:=(((F.splice 0 2 F2 g1 m2 g2 (Nat.le_of_ble_eq_true rfl) (Nat.le_of_ble_eq_true rfl)).set 9 (d:=dI (s.num+1)) rfl).set 10 (d:=dI s.busy) rfl).set 11 (d:=dI 0) rfl;(refine X7 aN 8 (tkc [0,1,2] (.one 3 (.take 4 .done))) [(4,9980)] fb ae ae ae ae (λRz=>?_);(conv=>whnf);intro bp0 up0;(conv=>whnf))
  repeat'(first|refine awz ?_|fail)
  all_goals exact⟨lo,hi2,m1,(FN.app (L:=lo) (H:=hi2) (Yn (lo:=hi2) (hi:=hi2) (ds:=[dI s.busy]) rfl) (.inl (Nat.le_refl _)) ⟨Nat.le_refl _,ac⟩ ⟨Nat.le_refl _,Nat.le_refl _⟩).fam⟩
def gt:List (List Nat):=bZ [0,0,2,3,1,4165,6527398017,0x61440c2046107]
theorem DD(s:DStore)(hok0:storeOk s=true):fC av 299 [.agg s.ds] [.agg (hI s).ds,.one (dB (xS s))]:=by
 have sf:=zS hok0;have hs:=gz hok0;have c1:=mZ s (by have:=hs.2.1;omega);rw[hok0]at c1;have c2:=qe s hs;have c3:=(BY s.disk sf.disk).pcall;have hn:=Ct s.disk;obtain⟨i1,i2,i3,i4⟩:=oq sf.state;have hlast:=sf.last;have hnum:=sf.num;by_cases hgo:s.busy=0/\s.last+4<=s.state.index/\s.num<1000000000
 ·obtain⟨hb,hg,hx⟩:=hgo;have q1:(s.busy !=0)=false:=by simpa using hb
  have q2:decide (s.state.index<s.last+4)=false:=al;have q3:(s.num==1000000000)=false:=al;have q3':decide (1000000000<=s.num)=false:=al;have key:=fun(slot:Int) (hsl:slot=0\/slot=1)=>DE s.disk slot (s.num+1,s.state) sf.disk hsl (by show s.state.pairs.length<=_;omega);have hsl:=Di s.disk;have eb:hI s=((cb s.disk (eF s.disk) (s.num+1,s.state)).map λd=>{s with disk:=d,busy:=s.state.index}).getD s:=by
   unfold hI;rw[if_neg (by simp[q1,q2,q3'])];cases cb s.disk (eF s.disk) (s.num+1,s.state)<;>rfl
  have eo:xS s=(cb s.disk (eF s.disk) (s.num+1,s.state)).isSome:=by simp[xS,q1,q2,q3']
  have kw:=key _ hsl;rw[eb,eo];have hp:∀(z:Int×DState),eX s.disk=(some z,0)/\eF s.disk=1\/eX s.disk=(some z,1)/\eF s.disk=0\/(eX s.disk).1≠some z:=by
   intro z;cases hne:eX s.disk with
   |mk o i=>
    rw[hne]at hn;simp only at hn;cases o with
    |none=>exact .inr (.inr aj)
    |some y=>
     by_cases hy:y=z
     ·subst hy;rcases hn with rfl|rfl
      ·exact .inl ⟨rfl,by simp[eF,hne]⟩
      ·exact .inr (.inl ⟨rfl,by simp[eF,hne]⟩)
     ·exact .inr (.inr (by simpa using hy))
  cases hne:(eX s.disk).1 with
  |none=>
   have e0:eX s.disk=(none,(eX s.disk).2):=by rw[<-hne]
   have hs0:eF s.disk=0:=by simp[eF,hne]
   rw[hs0]at kw⊢;rw[e0]at c3;unfold SS at c3;cases hw:cb s.disk 0 (s.num+1,s.state)<;>rw[hw]at kw<;>unfold ST at kw<;>(refine bq aN func299 rfl call299 ntmps299 (aaK results299) rfl λS=>?_;conv=>whnf)<;>repeat'((first|refine Yh c2 rfl rfl λR lo hi m1 m2 F=>?_|refine Yk kw rfl rfl λR2 lo2 hi2 g1 g2 F2=>?_|refine awz ?_|refine XZ ai rfl ?_|refine X3 ac ac ?_|fail)<;>conv=>whnf)
   ·exact⟨lo,hi,m1,(F.app (L:=lo) (H:=hi) (Yn (lo:=hi) (hi:=hi) (ds:=[dB false]) rfl) (.inl (Nat.le_refl _)) ⟨Nat.le_refl _,m2⟩ ⟨Nat.le_refl _,Nat.le_refl _⟩).fam⟩
   ·have FN:=(F.splice 0 2 F2 g1 m2 g2 (Nat.le_of_ble_eq_true rfl) (Nat.le_of_ble_eq_true rfl)).set 11 (d:=dI s.state.index) rfl;(refine X7 aN 13 (tkc [0,1,2,3,4] (.one 5 (.take 6 (.one 7 .done)))) [(9,9980),(1,9981)] gt ae ae ae ae (λRz=>?_);(conv=>whnf);intro bp0 up0;(conv=>whnf);intro bp1 up1;(conv=>whnf))
    repeat'(first|refine awz ?_|fail)
    all_goals exact⟨lo,hi2,m1,(FN.app (L:=lo) (H:=hi2) (Yn (lo:=hi2) (hi:=hi2) (ds:=[dB true]) rfl) (.inl (Nat.le_refl _)) ⟨Nat.le_refl _,ac⟩ ⟨Nat.le_refl _,Nat.le_refl _⟩).fam⟩
  |some z=>
   rcases hp z with⟨e0,hs0⟩|⟨e0,hs0⟩|h
   ·rw[hs0]at kw⊢;rw[e0]at c3;unfold SS at c3;cases hw:cb s.disk 1 (s.num+1,s.state)<;>rw[hw]at kw<;>unfold ST at kw<;>(refine bq aN func299 rfl call299 ntmps299 (aaK results299) rfl λS=>?_;conv=>whnf)<;>repeat'((first|refine Yh c2 rfl rfl λR lo hi m1 m2 F=>?_|refine Yk kw rfl rfl λR2 lo2 hi2 g1 g2 F2=>?_|refine awz ?_|refine XZ ai rfl ?_|refine X3 ac ac ?_|fail)<;>conv=>whnf)
    ·exact⟨lo,hi,m1,(F.app (L:=lo) (H:=hi) (Yn (lo:=hi) (hi:=hi) (ds:=[dB false]) rfl) (.inl (Nat.le_refl _)) ⟨Nat.le_refl _,m2⟩ ⟨Nat.le_refl _,Nat.le_refl _⟩).fam⟩
    ·have FN:=(F.splice 0 2 F2 g1 m2 g2 (Nat.le_of_ble_eq_true rfl) (Nat.le_of_ble_eq_true rfl)).set 11 (d:=dI s.state.index) rfl;(refine X7 aN 13 (tkc [0,1,2,3,4] (.one 5 (.take 6 (.one 7 .done)))) [(9,9980),(1,9981)] gt ae ae ae ae (λRz=>?_);(conv=>whnf);intro bp0 up0;(conv=>whnf);intro bp1 up1;(conv=>whnf))
     repeat'(first|refine awz ?_|fail)
     all_goals exact⟨lo,hi2,m1,(FN.app (L:=lo) (H:=hi2) (Yn (lo:=hi2) (hi:=hi2) (ds:=[dB true]) rfl) (.inl (Nat.le_refl _)) ⟨Nat.le_refl _,ac⟩ ⟨Nat.le_refl _,Nat.le_refl _⟩).fam⟩
   ·rw[hs0]at kw⊢;rw[e0]at c3;unfold SS at c3;cases hw:cb s.disk 0 (s.num+1,s.state)<;>rw[hw]at kw<;>unfold ST at kw<;>(refine bq aN func299 rfl call299 ntmps299 (aaK results299) rfl λS=>?_;conv=>whnf)<;>repeat'((first|refine Yh c2 rfl rfl λR lo hi m1 m2 F=>?_|refine Yk kw rfl rfl λR2 lo2 hi2 g1 g2 F2=>?_|refine awz ?_|refine XZ ai rfl ?_|refine X3 ac ac ?_|fail)<;>conv=>whnf)
    ·exact⟨lo,hi,m1,(F.app (L:=lo) (H:=hi) (Yn (lo:=hi) (hi:=hi) (ds:=[dB false]) rfl) (.inl (Nat.le_refl _)) ⟨Nat.le_refl _,m2⟩ ⟨Nat.le_refl _,Nat.le_refl _⟩).fam⟩
    ·have FN:=(F.splice 0 2 F2 g1 m2 g2 (Nat.le_of_ble_eq_true rfl) (Nat.le_of_ble_eq_true rfl)).set 11 (d:=dI s.state.index) rfl;(refine X7 aN 13 (tkc [0,1,2,3,4] (.one 5 (.take 6 (.one 7 .done)))) [(9,9980),(1,9981)] gt ae ae ae ae (λRz=>?_);(conv=>whnf);intro bp0 up0;(conv=>whnf);intro bp1 up1;(conv=>whnf))
     repeat'(first|refine awz ?_|fail)
     all_goals exact⟨lo,hi2,m1,(FN.app (L:=lo) (H:=hi2) (Yn (lo:=hi2) (hi:=hi2) (ds:=[dB true]) rfl) (.inl (Nat.le_refl _)) ⟨Nat.le_refl _,ac⟩ ⟨Nat.le_refl _,Nat.le_refl _⟩).fam⟩
   ·exact(h hne).elim
 ·have eb:hI s=s:=by
   unfold hI;rw[if_pos];simp only[Bool.or_eq_true,bne_iff_ne,ne_eq,decide_eq_true_eq];omega
  have eo:xS s=false:=by
   unfold xS;simp only[Bool.and_eq_false_iff,Bool.not_eq_false',Bool.or_eq_true,bne_iff_ne,ne_eq,decide_eq_true_eq];left;omega
  rw[eb,eo];by_cases hb:s.busy=0
  ·have q1:(s.busy !=0)=false:=by simpa using hb
   by_cases hg:s.last+4<=s.state.index
   ·have q2:decide (s.state.index<s.last+4)=false:=al;have q3:(s.num==1000000000)=true:=al;refine bq aN func299 rfl call299 ntmps299 (aaK results299) rfl λS=>?_;conv=>whnf
    repeat'((first|refine Yh c2 rfl rfl λR lo hi m1 m2 F=>?_|refine awz ?_|refine XZ ai rfl ?_|refine X3 ac ac ?_|fail)<;>conv=>whnf)
    exact⟨lo,hi,m1,(F.app (L:=lo) (H:=hi) (Yn (lo:=hi) (hi:=hi) (ds:=[dB false]) rfl) (.inl (Nat.le_refl _)) ⟨Nat.le_refl _,m2⟩ ⟨Nat.le_refl _,Nat.le_refl _⟩).fam⟩
   ·have q2:decide (s.state.index<s.last+4)=true:=al;refine bq aN func299 rfl call299 ntmps299 (aaK results299) rfl λS=>?_;conv=>whnf
    repeat'((first|refine Yh c2 rfl rfl λR lo hi m1 m2 F=>?_|refine awz ?_|refine XZ ai rfl ?_|refine X3 ac ac ?_|fail)<;>conv=>whnf)
    exact⟨lo,hi,m1,(F.app (L:=lo) (H:=hi) (Yn (lo:=hi) (hi:=hi) (ds:=[dB false]) rfl) (.inl (Nat.le_refl _)) ⟨Nat.le_refl _,m2⟩ ⟨Nat.le_refl _,Nat.le_refl _⟩).fam⟩
  ·have q1:(s.busy !=0)=true:=by simpa using hb
   refine bq aN func299 rfl call299 ntmps299 (aaK results299) rfl λS=>?_;conv=>whnf
   repeat'(first|(refine Yh c2 rfl rfl λR lo hi m1 m2 F=>?_;conv=>whnf)|refine awz ?_|(refine XZ ai rfl ?_;conv=>whnf)|fail)
   exact⟨lo,hi,m1,(F.app (L:=lo) (H:=hi) (Yn (lo:=hi) (hi:=hi) (ds:=[dB false]) rfl) (.inl (Nat.le_refl _)) ⟨Nat.le_refl _,m2⟩ ⟨Nat.le_refl _,Nat.le_refl _⟩).fam⟩
end Go.Proofs.YtknefkdcokgpbaaGreat
