/- WC2 -/
import Derived.Test.YtknefkdcokgpbaaGreatAwx
import Derived.Test.YtknefkdcokgpbaaGreatAvVC
import Derived.Test.YtknefkdcokgpbaaGreatWB6
import Derived.Test.YtknefkdcokgpbaaGreatWB7
import Derived.Test.YtknefkdcokgpbaaGreatWOx
import Derived.Test.YtknefkdcokgpbaaGreatWOw
import Derived.Test.YtknefkdcokgpbaaGreatWB3
set_option maxHeartbeats 8000000
set_option linter.unusedVariables false
set_option linter.unusedSimpArgs false
set_option maxRecDepth 100000
namespace Go.Proofs.YtknefkdcokgpbaaGreat
section
open Go.Proofs.Tryz
open Go.ChangeShapes Go.WideShapes Go.RowKit
variable {b:Bool}{w:DWorld}
def kJ:List (List Nat):=bZ [0,1,0,3,259,20676,2165850309,486456451138,35322986508615,0x91c50c4181088,35322986508615,0xb1c50c4181088,0x3080811840c51cb,0xd2c714310604220c,0x2880811840c51c938c2cd,0x80811840c51cf34b30e24a,0x40a24e30b34f1c50c4181088]
def kL:List (List Nat):=fB 14 [720,721,8,17,44,125,364,1093,4727200,4733761,55768,114817,291964,823405]
def rm:List (List Nat):=bZ [0,1,129,12354,1056835,84676740,6510088389,84676740,8657572037,623894601992,44534549721417,0x71430421062c920a,0x30a2092c6102043147,0x50c108434718b24828c,0x38c28824b1873440810c5,0xf14304210d1c62c920a30e,0x40e30a2092c61cd10204314f,0xf14304210d1c62c920a30e,0x48e30a2092c61cd10204314f,0x133c50c108434718b24828c392,0x51238c28824b1873440810c53d3,0x113c50c108434718b24828c390553494,0x59449355038c28824b1873440810c53d1,0xf14304210d1c62c920a30e5d14154d2516]
def rE:List (List Nat):=fB 21 [0,1,4,13,40,175081,175324,2065,4252,10813,30496,88573,265720,797161,2391484,10338387493,10352736400,121965709,251105872,638526361,1800787828]
def rn:List (List Nat):=bZ [0,1,0,3,259,20676,2165850309,486456451138,35322986508615,0x91c50c4181088,0x2880811840c51c9,0x91c50c4181088,0x3080811840c51c9,0xd24714310604220c,0x38c20204610314724d,0xb24714310604220a3cd30e,0x40e30d3ca20204610314724b,0x91c50c418108844b28f34c390]
def rF:List (List Nat):=fB 15 [720,721,8,17,44,125,364,1093,3280,14181601,14201284,167305,344452,875893,2470216]
theorem fz(h:w.up.length=6){k:Nat}(hk:k<6):(w.up.map eB)[k]? =some [dB (eS w k)]:=by
  have hl:k<w.up.length:=ac;rw[List.getElem?_map,List.getElem?_eq_getElem hl];simp[eS,List.getD_eq_getElem?_getD,hl]
theorem Sj(h:(((w.up.map eB).length:Int) !=6)=false):w.up.length=6:=by
  simp at h;omega
theorem pC{n:DLogNode}(h:Yq 1048576 n):rO n:=by
  obtain⟨⟨⟨h1,h2,h3,h4⟩,g1,g2,g3,g4⟩,k1,k2,k3,k4,k5⟩:=h;simp only[Yo,Yx]at k1 k2 k3;exact⟨ac,λy hy=>by have:=h2 y hy;omega,ac,λy hy=>by have:y.row.length<=1048576:=h4 y hy;omega,ac,λy hy=>by have:=g2 y hy;omega,ac,λy hy=>by have:y.row.length<=1048576:=g4 y hy;omega,ac,ac,ac,ac,ac⟩
def Ju(two:DTwo):DLogNode:=⟨two,kS,kS,false,⟨0,0,[]⟩,[],0,[]⟩
theorem Cl(n:DLogNode):kv n=(j4 n.two&&decide (n=Ju n.two)):=by
  show(j4 n.two&&(n==Ju n.two))=_;rw[zY]
theorem vp(n:DLogNode):aM av 134 [.agg n.ds] (rB (kv n)):=by
  rw[Cl];refine pO func134 call134 ntmps134 results134 λS=>?_;conv=>whnf
  repeat'((first|refine awz ?_|refine cP (pu n.two) ?_|refine cP (kF n.head) ?_|refine cP (kF n.nxt) ?_|refine tB ?_ ?_|intro h)<;>conv=>whnf)
  all_goals
    refine bJ ?_;rw[Bool.eq_iff_iff];simp only[decide_eq_true_iff,Bool.and_eq_true,Qr,Ju,MK];simp_all
theorem FF(n:DLogNode)(up:Bool)(hs:rO n):aM av 63 [.agg n.ds,.one (dB up)] (rB (if up then logOk n else kv n)):=by
  refine pO func63 call63 ntmps63 results63 λS=>?_;conv=>whnf
  repeat'((first|refine awz ?_|refine cP (CV n hs.head hs.owe hs.seen hs.nxt) ?_|refine cP (vp n) ?_|refine tB ?_ ?_|intro h)<;>conv=>whnf)
  all_goals
    refine bJ ?_;simp_all
theorem B8(how:Pd)(w:DWorld)(h6:w.up.length=6)(hs:rO w.log):aM av 174 [.agg w.ds] (rB (if eS w 0 then logOk w.log else kv w.log)):=by
  rw[Cl];refine pO func174 call174 ntmps174 results174 λS=>?_;conv=>whnf
  repeat'((first|refine awz ?_|refine X8 0 _ rfl (fz h6 ah) ?_|refine cP (BV how w.log hs) ?_|refine cP (sU w.log.two) ?_|refine cP (BZ w.log (Ju w.log.two) hs) ?_|refine tB ?_ ?_|intro h)<;>conv=>whnf)
  all_goals
    refine bJ ?_;simp_all
theorem w6(w:DWorld)(h6:w.up.length=6)(hs:w.store.state.pairs.length<=9223372036854775806)(hj:w.store.state.jobs.length<=9223372036854775806):aM av 175 [.agg w.ds] (rB (if eS w 1 then storeOk w.store else fV w.store)):=by
  refine pO func175 call175 ntmps175 results175 λS=>?_;conv=>whnf
  repeat'((first|refine awz ?_|refine X8 1 _ rfl (fz h6 ah) ?_|refine cP (mZ w.store hs) ?_|refine cP (fS w.store.disk) ?_|refine cP (wW w.store.state gV hs ah hj) ?_|refine tB ?_ ?_|intro h)<;>conv=>whnf)
  all_goals
    refine bJ ?_;try simp only[TC]at*
    first
      |(simp_all;done)
      | (rw [Bool.eq_iff_iff]
         simp[fV,Kl];simp_all;done)
theorem w5(w:DWorld)(h6:w.up.length=6)(h1:w.left.view.jobs.opens.length<=9223372036854775806)(h2:w.right.view.jobs.opens.length<=9223372036854775806):aM av 173 [.agg w.ds] (rB (db w.left 2 (eS w 2)&&db w.right 3 (eS w 3))):=by
  refine pO func173 call173 ntmps173 results173 λS=>?_;conv=>whnf
  repeat'((first|refine awz ?_|refine X9 aN 1 14 kJ kL ae ae ae rfl ?_|refine X8 2 _ rfl (fz h6 ah) ?_|refine X8 3 _ rfl (fz h6 ah) ?_|refine cP (mu w.left _ _ h1) ?_|refine cP (mu w.right _ _ h2) ?_|refine tB ?_ ?_|intro h)<;>conv=>whnf)
  all_goals
    refine bJ ?_;simp_all
theorem vd(w:DWorld)(h6:w.up.length=6)(h1:w.ann.todo.length<=9223372036854775806/\w.ann.gots.length<=9223372036854775806)(h2:w.bob.todo.length<=9223372036854775806/\w.bob.gots.length<=9223372036854775806):aM av 172 [.agg w.ds] (rB (eS w 4&&eS w 5&&dp w.ann&&w.ann.id==4&&dp w.bob&&w.bob.id==5)):=by
  refine pO func172 call172 ntmps172 results172 λS=>?_;conv=>whnf
  repeat'((first|refine awz ?_|refine X8 4 _ rfl (fz h6 ah) ?_|refine X8 5 _ rfl (fz h6 ah) ?_|refine cP (lI w.ann h1.1 h1.2) ?_|refine cP (lI w.bob h2.1 h2.2) ?_|refine tB ?_ ?_|intro h)<;>conv=>whnf)
  all_goals
    refine bJ ?_;simp_all
theorem TQ(h:(((w.up.map eB).length:Int) !=6)=true):¬w.up.length=6:=by
  simp at h;omega
theorem T0(h:(((w.clocks.map eI).length:Int) !=6)=true):¬w.clocks.length=6:=by
  simp at h;omega
theorem Wo(h:(((w.clocks.map eI).length:Int) !=6)=false):w.clocks.length=6:=by
  simp at h;omega
theorem SB(w:World)(xs:Array Value)(i:Nat)(v:Value)(h:xs[i]? =some v):(part 118 xs i).run Tryz.prog w= .ok v w:=by
  simp[part,isAgg118,sizeOf118,h]
theorem Zd{S:bV}{st:ASt}{o:Oper}{x i:Operand}{K:ASt->Prop}{ds:List AD}{n:Nat}{v:Value}(ho:o.op= .index 258 x i)(hx:aEv st x λy=>y= .agg (ds.map .d))(hi:aEv st i λy=>y=vI .i64 (n:Int))(hd:ds.all AD.isPv=true)(hn:n<4)(hv:(ds.map zN)[n]? =some v)(h1:v.oneCell'=true)(hk:dR st o.dst (.one (.d (.pv v))) K):AOp av S o st K:=by
  refine .reads λZ ρ a w hs=>?_;obtain⟨u,hu,rfl⟩:=bn hs hx;obtain⟨z,hz,rfl⟩:=bn hs hi;have e1:=xm hd hu;have e2:=cy hz;have hp:=SB w (ds.map zN).toArray n v (by simpa using hv);refine⟨.one (.d (.pv v)),v,cK h1,?_,hk⟩;have hlt:(0:Int)<=(n:Int)/\(n:Int)<4:=⟨ac,ac⟩;simp[execOp,ho,e1,e2,Instr.index,asIntOf,av,run_underlying underlying258,sizeOf118,hn,hp]
theorem nF(w:DWorld):dN w=(fp w.clocks&&decide (w.up.length=6)&&fd w.net&&(eS w 4&&eS w 5&&dp w.ann&&w.ann.id==4&&dp w.bob&&w.bob.id==5)&&(db w.left 2 (eS w 2)&&db w.right 3 (eS w 3))&&(if eS w 0 then logOk w.log else kv w.log)&&(if eS w 1 then storeOk w.store else fV w.store)):=by
  simp only[dN,Bool.and_assoc]
theorem JG(h:(!b)=true):b=false:=by rwa[Bool.not_eq_true']at h
theorem za(h:(!b)=false):b=true:=by rwa[Bool.not_eq_false']at h
def MT:List AD:=[.pv (.func (.func 172) #[] #[]),.pv (.func (.func 173) #[] #[]),.pv (.func (.func 174) #[] #[]),.pv (.func (.func 175) #[] #[])]
theorem LI(w:DWorld)(hs:Ym 1048576 w):aM av 85 [.agg w.ds] (rB (dN w)):=by
  obtain⟨s1,⟨_,s2⟩,s3,s4,s5,s6,s7,s8⟩:=hs;simp only[Yt,Yr,YC,YE,Ys]at s2 s3 s4 s5 s6;refine pO func85 call85 ntmps85 results85 λS=>?_;conv=>whnf
  repeat'((first|refine awz ?_|refine cP (yP w.clocks) ?_|refine cP (BX w.net) ?_|refine tB ?_ ?_|intro h)<;>conv=>whnf)
  all_goals first
    | (have hno := TQ h
       refine bJ ?_;simp_all[dN];done)
    | (refine bJ ?_
       simp_all[dN];done)
    |skip
  have h6:w.up.length=6:=Sj ai;have hc:fp w.clocks=true:=by
    have:(!fp w.clocks)=false:=ai;rwa[Bool.not_eq_false']at this
  have hn:fd w.net=true:=by rwa[Bool.not_eq_false']at h
  refine YP 5 ?_;conv=>whnf
  repeat'((first|refine awz ?_|refine Zd (ds:=MT) (n:=0) rfl rfl rfl rfl ah rfl rfl ?_|refine Zd (ds:=MT) (n:=1) rfl rfl rfl rfl ah rfl rfl ?_|refine Zd (ds:=MT) (n:=2) rfl rfl rfl rfl ah rfl rfl ?_|refine Zd (ds:=MT) (n:=3) rfl rfl rfl rfl ah rfl rfl ?_|refine cP (vd w h6 ⟨ac,ac⟩ ⟨ac,ac⟩) ?_|refine cP (w5 w h6 ac ac) ?_|refine cP (B8 L0 w h6 (pC s1)) ?_|refine cP (w6 w h6 ac ac) ?_|refine X3 ah ah ?_|refine tB ?_ ?_|intro h)<;>conv=>whnf)
  all_goals
    refine bJ ?_;rw[nF];simp only[hc,hn,h6,decide_true,Bool.true_and];first
      |(simp only[JG h,Bool.false_and,Bool.and_false];done)
      | (have e := JG h
         rw[e];simp only[Bool.and_false];done)
      | (have e1 := za h
         simp_all;done)
      |skip
theorem il(w:DWorld)(hs:Ym 1048576 w):aM av 18 [.agg w.ds] (rB (dN w)):=by
  obtain⟨s1,⟨_,s2⟩,s3,s4,s5,s6,s7,s8⟩:=hs;simp only[Yt,Yr,YC,YE,Ys]at s2 s3 s4 s5 s6;refine pO func18 call18 ntmps18 results18 λS=>?_;conv=>whnf
  repeat'((first|refine awz ?_|refine X8 4 _ rfl (fz (Sj ai) ah) ?_|refine X8 5 _ rfl (fz (Sj ai) ah) ?_|refine tB ?_ ?_|intro h)<;>conv=>whnf)
  all_goals first
    | (have hno := TQ h
       refine bJ ?_;rw[nF];simp only[hno,decide_false,Bool.and_false,Bool.false_and];done)
    | (have hno := T0 h
       refine bJ ?_;rw[nF];simp only[fp,hno,decide_false,Bool.and_false,Bool.false_and];done)
    | (refine bJ ?_
       rw[nF];simp only[JG h,Bool.and_false,Bool.false_and];done)
    |skip
  have h6:w.up.length=6:=Sj ai;have hc6:w.clocks.length=6:=Wo ai;have u4:eS w 4=true:=by
    have:(!eS w 4)=false:=ai;exact za this
  have u5:eS w 5=true:=za h;repeat'((first|refine awz ?_|refine X9 aN 3 21 rm rE ae ae ae rfl ?_|refine X9 aN 5 15 rn rF ae ae ae rfl ?_|refine X8 0 _ rfl (fz h6 ah) ?_|refine X8 1 _ rfl (fz h6 ah) ?_|refine X8 2 _ rfl (fz h6 ah) ?_|refine X8 3 _ rfl (fz h6 ah) ?_|refine cP (xv w.clocks hc6) ?_|refine cP (FF w.log _ (pC s1)) ?_|refine cP (zC w.store _ ac ac) ?_|refine cP (om w.left _ _) ?_|refine cP (om w.right _ _) ?_|refine cP (j3 w.ann ac ac) ?_|refine cP (j3 w.bob ac ac) ?_|refine cP (tv w.net) ?_|refine tB ?_ ?_|intro h)<;>conv=>whnf)
  all_goals
    refine bJ ?_;rw[nF];simp only[h6,u4,u5,decide_true,Bool.true_and,Bool.and_true];first
      |(simp only[JG h,Bool.false_and,Bool.and_false];done)
      | (have e := JG h
         rw[e];simp only[Bool.and_false,Bool.false_and];done)
      |(simp_all;done)
      | (have b1 : fp w.clocks = true := za ai
         have b2:(if eS w 0=true then logOk w.log else kv w.log)=true:=za ai;have b3:(if eS w 1=true then storeOk w.store else fV w.store)=true:=za ai;have b4:db w.left 2 (eS w 2)=true:=za ai;have b5:db w.right 3 (eS w 3)=true:=za ai;have b6:dp w.ann=true:=ai;have b7:(w.ann.id==4)=true:=ai;have b8:dp w.bob=true:=ai;have b9:(w.bob.id==5)=true:=ai;simp only[b1,b2,b3,b4,b5,b6,b7,b8,b9,Bool.and_true,Bool.true_and])
end
open Go.Proofs.Tryz
open Go.ChangeShapes Go.WideShapes Go.RowKit
def oz:List (List Nat):=bZ [0,1,2,0,4,197,387,0x7185103081187]
theorem pt(d:DDisk)(h:cG d=true):aM av 252 [.agg d.ds] (.val (.agg (lE d).ds)):=by
 have n1:(!cG d)=false:=by rw[h];rfl
 refine pO func252 call252 ntmps252 results252 λS=>?_;conv=>whnf
 repeat'((first|refine awz ?_|refine cP (em d) ?_|refine Yb (OH d h) [(1001,8)] rfl rfl ?_|exact rZ|fail)<;>conv=>whnf)
theorem DT(t:DTwo)(h:j4 t=true):aM av 244 [.agg t.ds] (.val (.agg (yG t).ds)):=by
 obtain⟨f1,f2,f3⟩:=hE h;have n1:(!j4 t)=false:=by rw[h];rfl
 refine pO func244 call244 ntmps244 results244 λS=>?_;conv=>whnf
 repeat'(first|refine awz ?_|(refine cP (pu t) ?_;conv=>whnf)|fail)
 (refine X7 aN 3 (tkc [0,1,3,4] (onc [2,5,6,7] .done)) [(1,9980)] oz ae ae ae ae (λRz=>?_);(conv=>whnf);intro bp0 up0;(conv=>whnf))
 repeat'((first|refine awz ?_|refine cP (pt t.a f1) ?_|refine cP (pt t.b f2) ?_|exact rZ|fail)<;>conv=>whnf)
section
variable {a:Int}{k:List (List Int)}{l:List DWrite}
def kj:List (List Nat):=bZ [0,1,0,0,4,324,811269,118768003,8873454354759]
def ko:List (List Nat):=fB 8 [6552,6553,710,26,53,134,368,1097]
def v8(o:Option (List Int)):AP:= .tup [.one (.sl ((o.getD []).map eI)),.one (dB o.isSome)]
theorem pH{l:List Int}(h:cE l=false\/l=[]\/lT l.dropLast≠l.getLastD 0):iW l=none:=by
 unfold iW;rcases h with h|h|h
 ·simp[h]
 ·simp[h]
 ·have:(lT l.dropLast==l.getLastD 0)=false:=by simpa using h
  rw[this,Bool.and_false];rfl
theorem J8(l:List Int):aM av 481 [.one (.sl (l.map eI))] (v8 (iW l)):=by
 cases hr:cE l with
 |false=>
  have n1:(!cE l)=true:=by rw[hr];rfl
  rw[pH (.inl hr)];unfold v8;refine pO func481 call481 ntmps481 results481 λS=>?_;conv=>whnf
  repeat'(first|refine awz ?_|(refine cP (dJ l) ?_;conv=>whnf)|exact rZ|fail)
 |true=>
  have n1:(!cE l)=false:=by rw[hr];rfl
  by_cases hn:l=[]
  ·have n2:(((l.map eI).length:Int)==0)=true:=by simp[hn]
   rw[pH (.inr (.inl hn))];unfold v8;refine pO func481 call481 ntmps481 results481 λS=>?_;conv=>whnf
   repeat'(first|refine awz ?_|(refine cP (dJ l) ?_;conv=>whnf)|exact rZ|fail)
  ·have n2:(((l.map eI).length:Int)==0)=false:=by simp[hn]
   have hpos:0<l.length:=List.length_pos_iff.2 hn;have h48:=dM hr;have hd:cE l.dropLast=true:=yk hr aj (λx hx=>List.dropLast_subset _ hx);have hcut:((l.map eI).take (l.length-1)).drop 0=l.dropLast.map eI:=by rw[List.drop_zero,<-List.map_take,List.dropLast_eq_take]
   have hlast:(l.map eI)[l.length-1]? =some (eI (l.getLastD 0)):=by
    rw[List.getElem?_map,<-List.getLast?_eq_getElem?,List.getLast?_eq_some_getLast hn,List.getLastD_eq_getLast?,List.getLast?_eq_some_getLast hn];rfl
   have so:=CX l.dropLast hd;have hdl:l.dropLast.length<=1048576:=al;by_cases hs:lT l.dropLast=l.getLastD 0
   ·have e:iW l=some l.dropLast:=by
     unfold iW;have e2:l.isEmpty=false:=by simpa using hn
     rw[hr,e2,hs];simp
    have n3:(!(lT l.dropLast==l.getLastD 0))=false:=by simp[hs]
    rw[e];unfold v8;refine pO func481 call481 ntmps481 results481 λS=>?_;conv=>whnf
    repeat'((first|refine awz ?_|refine cP (dJ l) ?_|(refine⟨0,l.length-1,rfl,(by show _=_;simp;omega),Nat.zero_le _,aj,(by intro y hy;obtain⟨a,_,rfl⟩:=List.mem_map.1 hy;rfl),?_⟩;rw[hcut])|refine cP (ez l.dropLast hdl) ?_|refine X3 ari ari ?_|fail)<;>conv=>whnf)
    (refine X9 aN 4 8 kj ko ae ae ae rfl ?_;conv=>whnf)
    repeat'((first|refine awz ?_|refine cP (so) ?_|refine X8 (l.length-1) _ al hlast ?_|refine X3 ari ari ?_|exact rZ|fail)<;>conv=>whnf)
    done
   ·have n3:(!(lT l.dropLast==l.getLastD 0))=true:=by simpa using hs
    rw[pH (.inr (.inr hs))];unfold v8;refine pO func481 call481 ntmps481 results481 λS=>?_;conv=>whnf
    repeat'((first|refine awz ?_|refine cP (dJ l) ?_|(refine⟨0,l.length-1,rfl,(by show _=_;simp;omega),Nat.zero_le _,aj,(by intro y hy;obtain⟨a,_,rfl⟩:=List.mem_map.1 hy;rfl),?_⟩;rw[hcut])|refine cP (ez l.dropLast hdl) ?_|refine X3 ari ari ?_|fail)<;>conv=>whnf)
    (refine X9 aN 4 8 kj ko ae ae ae rfl ?_;conv=>whnf)
    repeat'((first|refine awz ?_|refine cP (so) ?_|refine X8 (l.length-1) _ al hlast ?_|refine X3 ari ari ?_|exact rZ|fail)<;>conv=>whnf)
    done
theorem Fo{j:Nat}(hj:j<l.length)(h1:l[j].at_=a)(h2:∀(i:Nat) (hi:i<l.length),j<i->l[i].at_≠a):zl k l a=l[j].row:=by
 have e:l.reverse.find? (λw=>w.at_==a)=some l[j]:=by
  have e0:l=l.take j++l[j]::l.drop (j+1):=by rw[<-List.drop_eq_getElem_cons hj,List.take_append_drop]
  have hn:(l.drop (j+1)).reverse.find? (λw=>w.at_==a)=none:=by
   rw[List.find?_eq_none];intro w hw;obtain⟨i,hi,rfl⟩:=List.getElem_of_mem (List.mem_reverse.1 hw);rw[List.getElem_drop];simp only[List.length_drop]at hi;have:=h2 (j+1+i) ac ac;simpa using this
  conv=>lhs;rw[e0]
  rw[List.reverse_append,List.reverse_cons,List.append_assoc,List.find?_append,hn];simp[h1]
 unfold zl;rw[e]
theorem CK(h:∀(i:Nat) (hi:i<l.length),l[i].at_≠a):zl k l a=k.getD a.toNat []:=by
 have e:l.reverse.find? (λw=>w.at_==a)=none:=by
  rw[List.find?_eq_none];intro w hw;obtain⟨i,hi,rfl⟩:=List.getElem_of_mem (List.mem_reverse.1 hw);simpa using h i hi
 unfold zl;rw[e]
theorem OB(d:DDisk)(a:Int)(h:cG d=true)(ha:aK a 0 ((d.kept.length:Int)-1)=true):aM av 411 [.agg d.ds,pI a] (.tup [.one (.sl ((pn d a).map eI)),.one (dB true)]):=by
 obtain⟨f1,f2,f3,f4,f5⟩:=dc h;have n1:(!cG d)=false:=by rw[h];rfl
 have n2:(!aK a 0 ((d.kept.length:Int)-1))=false:=by rw[ha];rfl
 have har:0<=a/\a<=(d.kept.length:Int)-1:=by simpa[aK]using ha
 refine pO func411 call411 ntmps411 results411 λS=>?_;conv=>whnf
 repeat'((first|refine awz ?_|refine cP (em d) ?_|refine cP (lS d a f2) ?_|refine X3 ari ari ?_|fail)<;>conv=>whnf)
 refine X5 (λk:Nat=>k<=d.wait.length/\∀(i:Nat) (hi:i<d.wait.length),k<=i->d.wait[i].at_≠a) (4::5::6::rg 21 19) (λk=>[(6,vI .i64 ((k:Int)-1))]) (λk=>[(2,.cells 69 (d.ds.map .d))]) (λk=>k) (d.wait.map DWrite.ds).length ⟨by simp,λi hi hk=>by simp at hk;omega⟩ ?_ sbW (λk hk=>?_)<;>(conv=>whnf)
 ·exact whd
 ·obtain⟨hk,hall⟩:=hk;cases k with
  |zero=>
   have hc:decide (((0:Nat):Int)-1>=0)=false:=ah;have e:pn d a=d.kept[a.toNat]'(ac):=by
    show zl d.kept d.wait a=_;rw[CK λi hi=>hall i hi (Nat.zero_le _),List.getD_eq_getElem?_getD,List.getElem?_eq_getElem ac];first|rfl|done
   have h48:=dM (f4 _ (List.getElem_mem (show a.toNat<d.kept.length by omega)));rw[e];repeat'((first|refine awz ?_|refine AIx.int har.1 ac ?_|refine cP (ez (d.kept[a.toNat]'(ac)) ac) ?_|exact rZ|fail)<;>conv=>whnf)
  |succ k=>
   have hlt:k<d.wait.length:=ac;have hc:decide ((((k+1:Nat):Int)-1)>=0)=true:=by simp only[decide_eq_true_eq,ge_iff_le];omega
   have hix:(((k+1:Nat):Int)-1)=(k:Int):=ac;have h48:=dM (gC (f5 _ (List.getElem_mem hlt))).2;by_cases hw:d.wait[k].at_=a
   ·have e:pn d a=d.wait[k].row:=Fo hlt hw λi hi hki=>hall i hi hki;have hb:(d.wait[k].at_==a)=true:=by simpa using hw
    rw[e];repeat'((first|refine awz ?_|refine X8 k (DWrite.ds d.wait[k]) hix (by simp[hlt]) ?_|refine cP (ez d.wait[k].row ac) ?_|exact rZ|fail)<;>conv=>whnf)
   ·have hb:(d.wait[k].at_==a)=false:=by simpa using hw
    repeat'((first|refine awz ?_|refine X8 k (DWrite.ds d.wait[k]) hix (by simp[hlt]) ?_|refine X3 ac ac ?_|fail)<;>conv=>whnf)
    refine bd.mk ⟨k,⟨ac,λi hi hki=>?_⟩,ac,?_,sbW⟩
    ·rcases Nat.eq_or_lt_of_le hki with e|e
     ·subst e;exact hw
     ·exact hall i hi e
    ·rw[hix];exact hds
theorem Mc(a b:List Int)(ha:a.length<=1048576):aM av 461 [.one (.sl (a.map eI)),.one (.sl (b.map eI))] (rB (decide (a=b))):=by
 by_cases hl:a.length=b.length
 ·have n1:(((a.map eI).length:Int) !=((b.map eI).length:Int))=false:=by simp[hl]
  refine pO func461 call461 ntmps461 results461 λS=>?_;conv=>whnf
  repeat'(first|refine awz ?_|fail)
  refine X5 (λk:Nat=>k<=a.length/\∀(j:Nat) (h1:j<a.length) (h2:j<b.length),j<k->a[j]=b[j]) (4::5::rg 11 15) (λk=>[(5,vI .i64 (k:Int))]) (λk=>[]) (λk=>a.length-k) 0 ⟨Nat.zero_le _,λj _ _ h=>by omega⟩ ?_ X4 (λk hk=>?_)<;>(conv=>whnf)
  ·exact whd
  ·obtain⟨hk,hall⟩:=hk;by_cases hlt:k<a.length
   ·have hlt2:k<b.length:=ac;have hc:decide ((k:Int)<((a.map eI).length:Int))=true:=by simp only[decide_eq_true_eq,List.length_map];omega
    by_cases he:a[k]=b[k]
    ·have hb:(a[k] !=b[k])=false:=by simpa using he
     repeat'(first|refine awz ?_|fail)
     (refine X9 aN 6 8 aW aU ae ae ae rfl ?_;conv=>whnf)
     repeat'((first|refine awz ?_|refine Yg hlt ?_|refine Yg hlt2 ?_|refine X3 ac ac ?_|fail)<;>conv=>whnf)
     refine bd.mk ⟨k+1,⟨ac,λj h1 h2 hj=>?_⟩,ac,?_,X4⟩
     ·rcases Nat.eq_or_lt_of_le (Nat.le_of_lt_succ hj)with e|e
      ·subst e;exact he
      ·exact hall j h1 h2 e
     ·exact hds
    ·have hb:(a[k] !=b[k])=true:=by simpa using he
     have e:decide (a=b)=false:=by
      rw[decide_eq_false_iff_not];intro e;subst e;exact he rfl
     rw[e];repeat'(first|refine awz ?_|fail)
     (refine X9 aN 6 8 aW aU ae ae ae rfl ?_;conv=>whnf)
     repeat'((first|refine awz ?_|refine Yg hlt ?_|refine Yg hlt2 ?_|exact rZ|fail)<;>conv=>whnf)
   ·have hc:decide ((k:Int)<((a.map eI).length:Int))=false:=by simp only[decide_eq_false_iff_not,List.length_map];omega
    have e:decide (a=b)=true:=by
     rw[decide_eq_true_eq];exact List.ext_getElem hl λj h1 h2=>hall j h1 h2 ac
    rw[e];repeat'(first|refine awz ?_|exact rZ|fail)
 ·have n1:(((a.map eI).length:Int) !=((b.map eI).length:Int))=true:=by simp only[List.length_map,bne_iff_ne,ne_eq];omega
  have e:decide (a=b)=false:=by
   rw[decide_eq_false_iff_not];intro e;exact hl (by rw[e])
  rw[e];refine pO func461 call461 ntmps461 results461 λS=>?_;conv=>whnf
  repeat'(first|refine awz ?_|exact rZ|fail)
end
end Go.Proofs.YtknefkdcokgpbaaGreat
