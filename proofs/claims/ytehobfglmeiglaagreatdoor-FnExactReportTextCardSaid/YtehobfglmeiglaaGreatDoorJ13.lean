/- J13 -/
import Derived.Test.YtehobfglmeiglaaGreatDoorJ09
import Derived.Test.YtehobfglmeiglaaGreatDoorJ10
import Derived.Test.YtehobfglmeiglaaGreatDoorJ11
import Derived.Test.YtehobfglmeiglaaGreatDoorJ12
import Derived.Test.YtehobfglmeiglaaGreatDoorJ04
import Derived.Test.YtehobfglmeiglaaGreatDoorJ05
set_option linter.unusedVariables false
set_option linter.unusedSimpArgs false
set_option maxRecDepth 100000
namespace Go.Proofs.YtehobfglmeiglaaGreatDoor
open Go.Proofs.Tryz
open Go.ChangeShapes Go.WideShapes Go.RowKit
def fi:List (List Nat):=bk [0,1,0,3,259,20676,2165850309,486456451138,35322986508615,2564408003268744,35322986508615,3127357956690056,218433453250335179,15188130469117174284,3060242316999460753294029,155352137575988907727708746,20003255854293610684235649160]
def fj:List (List Nat):=bj 14 [720,721,8,17,44,125,364,1093,4727200,4733761,55768,114817,291964,823405]
def kT:List (List Nat):=bk [0,1,129,12354,1056835,84676740,6510088389,84676740,8657572037,623894601992,44534549721417,8161371489609486858,897119627842150478151,23834383477096543715980,4288656024833317761716421,291667597250045180727304974,20081514614155416735135838543,291667597250045180727304974,22557394692726177284934086991,1524001813995025305843882574738,102855721278592827465972037997523,22910051626216530735801266114426909844,1898517696975061238680915954552189768657,82097130143209461235461938158615105709334]
def lp:List (List Nat):=bj 21 [0,1,4,13,40,175081,175324,2065,4252,10813,30496,88573,265720,797161,2391484,10338387493,10352736400,121965709,251105872,638526361,1800787828]
def kU:List (List Nat):=bk [0,1,0,3,259,20676,2165850309,486456451138,35322986508615,2564408003268744,182404656231371209,2564408003268744,218433453250335177,15152101672098210316,1046997409135756341837,215524456379084714064794382,20081529298861424947812921931,721816682996689648454794003344]
def lq:List (List Nat):=bj 15 [720,721,8,17,44,125,364,1093,3280,14181601,14201284,167305,344452,875893,2470216]
theorem bI{w:DWorld}(h:w.up.length=6){k:Nat}(hk:k<6):(w.up.map eB)[k]? =some [dB (br w k)]:=by
  have hl:k<w.up.length:=by omega
  rw[List.getElem?_map,List.getElem?_eq_getElem hl]
  simp[br,List.getD_eq_getElem?_getD,hl]
theorem FX{w:DWorld}(h:(((w.up.map eB).length:Int) !=6)=false):w.up.length=6:=by
  simp at h;omega
theorem nx{n:DLogNode}(h:DLogNode.small 1048576 n):lD n:=by
  obtain⟨⟨⟨h1,h2,h3,h4⟩,g1,g2,g3,g4⟩,k1,k2,k3,k4,k5⟩:=h
  simp only[DHead.small,DBook.small]at k1 k2 k3
  exact⟨by omega,λy hy=>by have:=h2 y hy;omega,by omega,λy hy=>by have:y.row.length<=1048576:=h4 y hy;omega,by omega,λy hy=>by have:=g2 y hy;omega,by omega,λy hy=>by have:y.row.length<=1048576:=g4 y hy;omega,by omega,by omega,by omega,by omega,by omega⟩
def ze(two:DTwo):DLogNode:=⟨two,kv,kv,false,⟨0,0,[]⟩,[],0,[]⟩
theorem tx(n:DLogNode):jZ n=(ry n.two&&decide (n=ze n.two)):=by
  show(ry n.two&&(n==ze n.two))=_
  rw[rM]
theorem n6(n:DLogNode):aj av 118 [.agg n.ds] (rB (jZ n)):=by
  rw[tx]
  refine ae ah func118 rfl call118 ntmps118 (MC results118) λS=>?_;conv=>whnf
  repeat'((first|refine aw0 ?_|refine aw1 ?_|refine aw2 ?_|refine aw3 ?_|refine aw4 ?_|refine aw5 ?_|refine aw6 ?_|refine aw7 ?_|refine aw8 ?_|refine bT ?_|refine bF ?_|refine cP (pR n.two) ?_|refine cP (fg n.head) ?_|refine cP (fg n.nxt) ?_|exact rr|refine And.intro rfl ?_|refine AB.mk (λh=>?_) (λh=>?_))<;>conv=>whnf)
  all_goals
    refine aG ?_
    rw[Bool.eq_iff_iff]
    simp only[decide_eq_true_iff,Bool.and_eq_true,EO,ze,BS]
    simp_all
theorem wz(n:DLogNode)(up:Bool)(hs:lD n):aj av 57 [.agg n.ds,.one (dB up)] (rB (if up then gG n else jZ n)):=by
  refine ae ah func57 rfl call57 ntmps57 (MC results57) λS=>?_;conv=>whnf
  repeat'((first|refine aw0 ?_|refine aw1 ?_|refine aw2 ?_|refine aw3 ?_|refine aw4 ?_|refine aw5 ?_|refine aw6 ?_|refine aw7 ?_|refine aw8 ?_|refine bT ?_|refine bF ?_|refine cP (zH n hs.head hs.owe hs.seen hs.nxt) ?_|refine cP (n6 n) ?_|exact rr|refine And.intro rfl ?_|refine AB.mk (λh=>?_) (λh=>?_))<;>conv=>whnf)
  all_goals
    refine aG ?_
    simp_all
theorem tl(how:DM)(w:DWorld)(h6:w.up.length=6)(hs:lD w.log):aj av 86 [.agg w.ds] (rB (if br w 0 then gG w.log else jZ w.log)):=by
  rw[tx]
  refine ae ah func86 rfl call86 ntmps86 (MC results86) λS=>?_;conv=>whnf
  repeat'((first|refine aw0 ?_|refine aw1 ?_|refine aw2 ?_|refine aw3 ?_|refine aw4 ?_|refine aw5 ?_|refine aw6 ?_|refine aw7 ?_|refine aw8 ?_|refine bT ?_|refine bF ?_|refine AIx.at 0 _ rfl (bI h6 Mq) ?_|refine AIx.at 1 _ rfl (bI h6 Mq) ?_|refine AIx.at 2 _ rfl (bI h6 Mq) ?_|refine AIx.at 3 _ rfl (bI h6 Mq) ?_|refine AIx.at 4 _ rfl (bI h6 Mq) ?_|refine AIx.at 5 _ rfl (bI h6 Mq) ?_|refine cP (yS how w.log hs) ?_|refine cP (pk w.log.two) ?_|refine cP (te w.log (ze w.log.two) hs) ?_|exact rr|refine And.intro rfl ?_|refine AB.mk (λh=>?_) (λh=>?_))<;>conv=>whnf)
  all_goals
    refine aG ?_
    simp_all
theorem px(w:DWorld)(h6:w.up.length=6)(hs:w.store.state.pairs.length<=9223372036854775806)(hj:w.store.state.jobs.length<=9223372036854775806):aj av 87 [.agg w.ds] (rB (if br w 1 then dH w.store else eM w.store)):=by
  refine ae ah func87 rfl call87 ntmps87 (MC results87) λS=>?_;conv=>whnf
  repeat'((first|refine aw0 ?_|refine aw1 ?_|refine aw2 ?_|refine aw3 ?_|refine aw4 ?_|refine aw5 ?_|refine aw6 ?_|refine aw7 ?_|refine aw8 ?_|refine bT ?_|refine bF ?_|refine AIx.at 0 _ rfl (bI h6 Mq) ?_|refine AIx.at 1 _ rfl (bI h6 Mq) ?_|refine AIx.at 2 _ rfl (bI h6 Mq) ?_|refine AIx.at 3 _ rfl (bI h6 Mq) ?_|refine AIx.at 4 _ rfl (bI h6 Mq) ?_|refine AIx.at 5 _ rfl (bI h6 Mq) ?_|refine cP (th w.store hs) ?_|refine cP (eA w.store.disk) ?_|refine cP (pj w.store.state gM hs Mq hj) ?_|exact rr|refine And.intro rfl ?_|refine AB.mk (λh=>?_) (λh=>?_))<;>conv=>whnf)
  all_goals
    refine aG ?_
    try simp only[GP]at*
    first
      |(simp_all;done)
      | (rw [Bool.eq_iff_iff]
         simp[eM,zS]
         simp_all;done)
theorem pu(w:DWorld)(h6:w.up.length=6)(h1:w.left.view.jobs.opens.length<=9223372036854775806)(h2:w.right.view.jobs.opens.length<=9223372036854775806):aj av 85 [.agg w.ds] (rB (bQ w.left 2 (br w 2)&&bQ w.right 3 (br w 3))):=by
  refine ae ah func85 rfl call85 ntmps85 (MC results85) λS=>?_;conv=>whnf
  repeat'((first|refine aw0 ?_|refine aw1 ?_|refine aw2 ?_|refine aw3 ?_|refine aw4 ?_|refine aw5 ?_|refine aw6 ?_|refine aw7 ?_|refine aw8 ?_|refine bT ?_|refine bF ?_|refine AWP.drawK ah 1 14 fi fj Mp Mp Mp rfl ?_|refine AIx.at 0 _ rfl (bI h6 Mq) ?_|refine AIx.at 1 _ rfl (bI h6 Mq) ?_|refine AIx.at 2 _ rfl (bI h6 Mq) ?_|refine AIx.at 3 _ rfl (bI h6 Mq) ?_|refine AIx.at 4 _ rfl (bI h6 Mq) ?_|refine AIx.at 5 _ rfl (bI h6 Mq) ?_|refine cP (gh w.left _ _ h1) ?_|refine cP (gh w.right _ _ h2) ?_|exact rr|refine And.intro rfl ?_|refine AB.mk (λh=>?_) (λh=>?_))<;>conv=>whnf)
  all_goals
    refine aG ?_
    simp_all
theorem nU(w:DWorld)(h6:w.up.length=6)(h1:w.ann.todo.length<=9223372036854775806/\w.ann.gots.length<=9223372036854775806)(h2:w.bob.todo.length<=9223372036854775806/\w.bob.gots.length<=9223372036854775806):aj av 84 [.agg w.ds] (rB (br w 4&&br w 5&&bn w.ann&&w.ann.id==4&&bn w.bob&&w.bob.id==5)):=by
  refine ae ah func84 rfl call84 ntmps84 (MC results84) λS=>?_;conv=>whnf
  repeat'((first|refine aw0 ?_|refine aw1 ?_|refine aw2 ?_|refine aw3 ?_|refine aw4 ?_|refine aw5 ?_|refine aw6 ?_|refine aw7 ?_|refine aw8 ?_|refine bT ?_|refine bF ?_|refine AIx.at 0 _ rfl (bI h6 Mq) ?_|refine AIx.at 1 _ rfl (bI h6 Mq) ?_|refine AIx.at 2 _ rfl (bI h6 Mq) ?_|refine AIx.at 3 _ rfl (bI h6 Mq) ?_|refine AIx.at 4 _ rfl (bI h6 Mq) ?_|refine AIx.at 5 _ rfl (bI h6 Mq) ?_|refine cP (gW w.ann h1.1 h1.2) ?_|refine cP (gW w.bob h2.1 h2.2) ?_|exact rr|refine And.intro rfl ?_|refine AB.mk (λh=>?_) (λh=>?_))<;>conv=>whnf)
  all_goals
    refine aG ?_
    simp_all
theorem H2{w:DWorld}(h:(((w.up.map eB).length:Int) !=6)=true):¬w.up.length=6:=by
  simp at h;omega
theorem H7{w:DWorld}(h:(((w.clocks.map eI).length:Int) !=6)=true):¬w.clocks.length=6:=by
  simp at h;omega
theorem K1{w:DWorld}(h:(((w.clocks.map eI).length:Int) !=6)=false):w.clocks.length=6:=by
  simp at h;omega
theorem Gi(w:World)(xs:Array Value)(i:Nat)(v:Value)(h:xs[i]? =some v):(part 117 xs i).run Tryz.prog w= .ok v w:=by
  simp[part,isAgg117,sizeOf117,h]
theorem AOp.idxFn{S:ba}{st:ASt}{o:Oper}{x i:Operand}{K:ASt->Prop}{ds:List AD}{n:Nat}{v:Value}(ho:o.op= .index 188 x i)(hx:aEv st x λy=>y= .agg (ds.map .d))(hi:aEv st i λy=>y=vI .i64 (n:Int))(hd:ds.all AD.isPv=true)(hn:n<4)(hv:(ds.map qv)[n]? =some v)(h1:v.oneCell'=true)(hk:bU st o.dst (.one (.d (.pv v))) K):AOp av S o st K:=by
  refine .reads λZ ρ a w hs=>?_
  obtain⟨u,hu,rfl⟩:=aI hs hx
  obtain⟨z,hz,rfl⟩:=aI hs hi
  have e1:=pJ hd hu
  have e2:=aY hz
  have hp:=Gi w (ds.map qv).toArray n v (by simpa using hv)
  refine⟨.one (.d (.pv v)),v,aX h1,?_,hk⟩
  have hlt:(0:Int)<=(n:Int)/\(n:Int)<4:=⟨by omega,by omega⟩
  simp[execOp,ho,e1,e2,Instr.index,asIntOf,av,run_underlying underlying188,sizeOf117,hn,hp]
theorem cU(w:DWorld):ay w=(cH w.clocks&&decide (w.up.length=6)&&g8 w.net&&(br w 4&&br w 5&&bn w.ann&&w.ann.id==4&&bn w.bob&&w.bob.id==5)&&(bQ w.left 2 (br w 2)&&bQ w.right 3 (br w 3))&&(if br w 0 then gG w.log else jZ w.log)&&(if br w 1 then dH w.store else eM w.store)):=by
  simp only[ay,Bool.and_assoc]
theorem zq{b:Bool}(h:(!b)=true):b=false:=by rwa[Bool.not_eq_true']at h
theorem q7{b:Bool}(h:(!b)=false):b=true:=by rwa[Bool.not_eq_false']at h
def BZ:List AD:=[.pv (.func (.func 84) #[] #[]),.pv (.func (.func 85) #[] #[]),.pv (.func (.func 86) #[] #[]),.pv (.func (.func 87) #[] #[])]
theorem bh(w:DWorld)(hs:DWorld.small 1048576 w):aj av 31 [.agg w.ds] (rB (ay w)):=by
  obtain⟨s1,⟨_,s2⟩,s3,s4,s5,s6,s7,s8⟩:=hs
  simp only[DState.small,DSched.small,DView.small,DJobs.small,DClient.small]at s2 s3 s4 s5 s6
  refine ae ah func31 rfl call31 ntmps31 (MC results31) λS=>?_;conv=>whnf
  repeat'((first|refine aw0 ?_|refine aw1 ?_|refine aw2 ?_|refine aw3 ?_|refine aw4 ?_|refine aw5 ?_|refine aw6 ?_|refine aw7 ?_|refine aw8 ?_|refine bT ?_|refine bF ?_|refine cP (qO w.clocks) ?_|refine cP (yU w.net) ?_|exact rr|refine And.intro rfl ?_|refine AB.mk (λh=>?_) (λh=>?_))<;>conv=>whnf)
  all_goals first
    | (have hno := H2 h
       refine aG ?_
       simp_all[ay];done)
    | (refine aG ?_
       simp_all[ay];done)
    |skip
  have h6:w.up.length=6:=FX Mt
  have hc:cH w.clocks=true:=by
    have:(!cH w.clocks)=false:=by assumption
    rwa[Bool.not_eq_false']at this
  have hn:g8 w.net=true:=by rwa[Bool.not_eq_false']at h
  refine AWP.unroll 5 ?_
  conv=>whnf
  repeat'((first|refine aw0 ?_|refine aw1 ?_|refine aw2 ?_|refine aw3 ?_|refine aw4 ?_|refine aw5 ?_|refine aw6 ?_|refine aw7 ?_|refine aw8 ?_|refine bT ?_|refine bF ?_|refine AOp.idxFn (ds:=BZ) (n:=0) rfl rfl rfl rfl Mq rfl rfl ?_|refine AOp.idxFn (ds:=BZ) (n:=1) rfl rfl rfl rfl Mq rfl rfl ?_|refine AOp.idxFn (ds:=BZ) (n:=2) rfl rfl rfl rfl Mq rfl rfl ?_|refine AOp.idxFn (ds:=BZ) (n:=3) rfl rfl rfl rfl Mq rfl rfl ?_|refine cP (nU w h6 ⟨by omega,by omega⟩ ⟨by omega,by omega⟩) ?_|refine cP (pu w h6 Mo Mo) ?_|refine cP (tl EW w h6 (nx s1)) ?_|refine cP (px w h6 Mo Mo) ?_|refine AW.i64 Mq Mq ?_|exact rr|refine And.intro rfl ?_|refine AB.mk (λh=>?_) (λh=>?_))<;>conv=>whnf)
  all_goals
    refine aG ?_
    rw[cU]
    simp only[hc,hn,h6,decide_true,Bool.true_and]
    first
      |(simp only[zq h,Bool.false_and,Bool.and_false];done)
      | (have e := zq h
         rw[e]
         simp only[Bool.and_false];done)
      | (have e1 := q7 h
         simp_all;done)
      |skip
theorem aF(w:DWorld)(hs:DWorld.small 1048576 w):aj av 16 [.agg w.ds] (rB (ay w)):=by
  obtain⟨s1,⟨_,s2⟩,s3,s4,s5,s6,s7,s8⟩:=hs
  simp only[DState.small,DSched.small,DView.small,DJobs.small,DClient.small]at s2 s3 s4 s5 s6
  refine ae ah func16 rfl call16 ntmps16 (MC results16) λS=>?_;conv=>whnf
  repeat'((first|refine aw0 ?_|refine aw1 ?_|refine aw2 ?_|refine aw3 ?_|refine aw4 ?_|refine aw5 ?_|refine aw6 ?_|refine aw7 ?_|refine aw8 ?_|refine bT ?_|refine bF ?_|refine AIx.at 4 _ rfl (bI (FX Mt) Mq) ?_|refine AIx.at 5 _ rfl (bI (FX Mt) Mq) ?_|exact rr|refine And.intro rfl ?_|refine AB.mk (λh=>?_) (λh=>?_))<;>conv=>whnf)
  all_goals first
    | (have hno := H2 h
       refine aG ?_
       rw[cU]
       simp only[hno,decide_false,Bool.and_false,Bool.false_and];done)
    | (have hno := H7 h
       refine aG ?_
       rw[cU]
       simp only[cH,hno,decide_false,Bool.and_false,Bool.false_and];done)
    | (refine aG ?_
       rw[cU]
       simp only[zq h,Bool.and_false,Bool.false_and];done)
    |skip
  have h6:w.up.length=6:=FX Mt
  have hc6:w.clocks.length=6:=K1 Mt
  have u4:br w 4=true:=by
    have:(!br w 4)=false:=by assumption
    exact q7 this
  have u5:br w 5=true:=q7 h
  repeat'((first|refine aw0 ?_|refine aw1 ?_|refine aw2 ?_|refine aw3 ?_|refine aw4 ?_|refine aw5 ?_|refine aw6 ?_|refine aw7 ?_|refine aw8 ?_|refine bT ?_|refine bF ?_|refine AWP.drawK ah 3 21 kT lp Mp Mp Mp rfl ?_|refine AWP.drawK ah 5 15 kU lq Mp Mp Mp rfl ?_|refine AIx.at 0 _ rfl (bI h6 Mq) ?_|refine AIx.at 1 _ rfl (bI h6 Mq) ?_|refine AIx.at 2 _ rfl (bI h6 Mq) ?_|refine AIx.at 3 _ rfl (bI h6 Mq) ?_|refine AIx.at 4 _ rfl (bI h6 Mq) ?_|refine AIx.at 5 _ rfl (bI h6 Mq) ?_|refine cP (pU w.clocks hc6) ?_|refine cP (wz w.log _ (nx s1)) ?_|refine cP (rq w.store _ Mo Mo) ?_|refine cP (ij w.left _ _) ?_|refine cP (ij w.right _ _) ?_|refine cP (ia w.ann Mo Mo) ?_|refine cP (ia w.bob Mo Mo) ?_|refine cP (zJ w.net) ?_|exact rr|refine And.intro rfl ?_|refine AB.mk (λh=>?_) (λh=>?_))<;>conv=>whnf)
  all_goals
    refine aG ?_
    rw[cU]
    simp only[h6,u4,u5,decide_true,Bool.true_and,Bool.and_true]
    first
      |(simp only[zq h,Bool.false_and,Bool.and_false];done)
      | (have e := zq h
         rw[e]
         simp only[Bool.and_false,Bool.false_and];done)
      |(simp_all;done)
      | (have b1 : cH w.clocks = true := q7 Mt
         have b2:(if br w 0=true then gG w.log else jZ w.log)=true:=q7 Mt
         have b3:(if br w 1=true then dH w.store else eM w.store)=true:=q7 Mt
         have b4:bQ w.left 2 (br w 2)=true:=q7 Mt
         have b5:bQ w.right 3 (br w 3)=true:=q7 Mt
         have b6:bn w.ann=true:=by assumption
         have b7:(w.ann.id==4)=true:=by assumption
         have b8:bn w.bob=true:=by assumption
         have b9:(w.bob.id==5)=true:=by assumption
         simp only[b1,b2,b3,b4,b5,b6,b7,b8,b9,Bool.and_true,Bool.true_and])
end Go.Proofs.YtehobfglmeiglaaGreatDoor
namespace Go.Proofs.YtehobfglmeiglaaGreatDoor
open Go.Proofs.Tryz
open Go.ChangeShapes Go.WideShapes Go.RowKit
theorem p4{w:DWorld}(h:ay w=true):w.up.length=6:=by
  rw[cU]at h
  simp only[Bool.and_eq_true,decide_eq_true_eq]at h
  exact h.1.1.1.1.1.2
theorem wT{w:DWorld}(h:ay w=true)(h0:br w 0=true):gG w.log=true:=by
  rw[cU]at h
  simp only[Bool.and_eq_true,h0,if_true]at h
  exact h.1.2
theorem rA{w:DWorld}(h:ay w=true)(h1:br w 1=true):dH w.store=true:=by
  rw[cU]at h
  simp only[Bool.and_eq_true,h1,if_true]at h
  exact h.2
theorem zf{n:DLogNode}(h:gG n=true):0<=n.durable/\n.durable<=2000:=by
  rw[gH]at h
  simp only[Bool.and_eq_true]at h
  obtain⟨⟨⟨h1,h2⟩,_⟩,_⟩:=h
  have hb:=(xA h1).2.2.1
  have hl:=co hb
  have hp:=(bJ hb).1
  simp only[gI,Bool.and_eq_true,ai,decide_eq_true_eq]at h2
  omega
theorem zT{s:DStore}(h:dH s=true):0<=s.state.index/\s.state.index<=2000:=by
  simp only[dH,bH,Bool.and_eq_true,ai,decide_eq_true_eq]at h
  omega
theorem bE(w:DWorld)(k:Nat)(hk:k<6)(hs:DWorld.small 1048576 w):aj av 162 [.agg w.ds,.one (dI (k:Int))] (rB (ay w&&br w k)):=by
  have hn:ai (k:Int) 0 5=true:=by simp[ai];omega
  refine ae ah func162 rfl call162 ntmps162 (MC results162) λS=>?_;conv=>whnf
  repeat'((first|refine aw0 ?_|refine aw1 ?_|refine aw2 ?_|refine aw3 ?_|refine aw4 ?_|refine aw5 ?_|refine aw6 ?_|refine aw7 ?_|refine aw8 ?_|refine bT ?_|refine bF ?_|refine cP (bh w hs) ?_|refine cP (na _) ?_|refine AIx.at k _ rfl (bI (p4 Mt) hk) ?_|exact rr|refine And.intro rfl ?_|refine AB.mk (λh=>?_) (λh=>?_))<;>conv=>whnf)
  all_goals
    refine aG ?_
    simp_all
theorem ig(w:DWorld)(k:Nat)(hk:k<6)(hs:DWorld.small 1048576 w):aj av 66 [.agg w.ds,.one (dI (k:Int))] (rB (ay w&&br w k)):=by
  have hn:ai (k:Int) 0 5=true:=by simp[ai];omega
  refine ae ah func66 rfl call66 ntmps66 (MC results66) λS=>?_;conv=>whnf
  repeat'((first|refine aw0 ?_|refine aw1 ?_|refine aw2 ?_|refine aw3 ?_|refine aw4 ?_|refine aw5 ?_|refine aw6 ?_|refine aw7 ?_|refine aw8 ?_|refine bT ?_|refine bF ?_|refine cP (aF w hs) ?_|refine cP (um _) ?_|refine AIx.at k _ rfl (bI (p4 Mt) hk) ?_|exact rr|refine And.intro rfl ?_|refine AB.mk (λh=>?_) (λh=>?_))<;>conv=>whnf)
  all_goals
    refine aG ?_
    simp_all
end Go.Proofs.YtehobfglmeiglaaGreatDoor
namespace Go.Proofs.YtehobfglmeiglaaGreatDoor
open Go.Proofs.Tryz
open Go.ChangeShapes Go.WideShapes Go.RowKit
structure SmR {α:Type} (R:Rep α) (p:α->Prop):Prop where
  h:∀{w cs a F},R.rd w cs a F->p a
theorem SmR.any{α:Type}{R:Rep α}:SmR R λ_=>True:=⟨λ_=>trivial⟩
theorem SmR.pair{α β:Type}{R:Rep α}{S:Rep β}{p:α->Prop}{q:β->Prop}(h1:SmR R p)(h2:SmR S q):SmR (Rep.pair R S) λx=>p x.1/\q x.2:=by
  refine⟨?_⟩
  rintro w cs a F ⟨c1,c2,F1,F2,_,_,g1,g2⟩
  exact⟨h1.h g1,h2.h g2⟩
theorem SmR.via{α β:Type}{R:Rep α}{f:β->α}{p:α->Prop}(h:SmR R p):SmR (Rep.via f R) λx=>p (f x):=⟨λhr=>h.h hr⟩
theorem SmR.all{α:Type}{R:Rep α}{p:α->Prop}(h:SmR R p){w:World}:∀{l:List α} {xs:List Value} {F:List Nat},R.all w xs l F->∀y∈l,p y
  |[],_,_,_,y,hy=>by cases hy
  |a::l,_,_,⟨c1,c2,F1,F2,_,_,h1,h2⟩,y,hy=>by
    rcases List.mem_cons.1 hy with rfl|hy
    · exact h.h h1
    · exact SmR.all h h2 y hy
theorem SmR.sl{α:Type}{R:Rep α}{p:α->Prop}(h:SmR R p):SmR (Rep.sl R) λl=>l.length<=9223372036854775807/\∀y∈l,p y:=by
  refine⟨?_⟩
  rintro w cs l F ⟨A,cap,xs,F1,_,hc,hm,_,hall,_⟩
  have:maxLen<=9223372036854775807:=by decide
  exact⟨by omega,SmR.all h hall⟩
theorem SmR.mono{α:Type}{R:Rep α}{p q:α->Prop}(h:SmR R p)(hq:∀a,p a->q a):SmR R q:=⟨λhr=>hq _ (h.h hr)⟩
theorem SmR.to{α β:Type}{R:Rep β}{S:Rep α}{f:β->α}{p:α->Prop}{q:β->Prop}(h:SmR S p)(e:R=Rep.via f S)(hq:∀a,p (f a)->q a):SmR R q:=by subst e;exact(SmR.via h).mono hq
theorem Dp:SmR Rep.DWrite (DWrite.small 9223372036854775807):=SmR.to (SmR.pair SmR.any (SmR.sl SmR.any)) rfl λx h=>h.2.1
theorem uv:SmR Rep.DDisk (DDisk.small 9223372036854775807):=SmR.to (SmR.pair (SmR.sl (SmR.sl SmR.any)) (SmR.sl Dp)) rfl λx h=>⟨h.1.1,λy hy=>(h.1.2 y hy).1,h.2.1,h.2.2⟩
theorem Gu:SmR Rep.DTwo (DTwo.small 9223372036854775807):=SmR.to (SmR.pair uv uv) rfl λx h=>h
theorem zP:SmR Rep.DHead (DHead.small 9223372036854775807):=SmR.to (SmR.pair SmR.any (SmR.pair SmR.any (SmR.pair SmR.any (SmR.sl SmR.any)))) rfl λx h=>h.2.2.2.1
theorem Fb:SmR Rep.DBook (DBook.small 9223372036854775807):=SmR.to (SmR.pair SmR.any (SmR.pair SmR.any (SmR.sl SmR.any))) rfl λx h=>h.2.2.1
theorem zQ:SmR Rep.DLogNode (DLogNode.small 9223372036854775807):=SmR.to (SmR.pair Gu (SmR.pair zP (SmR.pair zP (SmR.pair SmR.any (SmR.pair Fb (SmR.pair (SmR.sl SmR.any) (SmR.pair SmR.any (SmR.sl SmR.any)))))))) rfl λx h=>⟨h.1,h.2.1,h.2.2.1,h.2.2.2.2.1,h.2.2.2.2.2.1.1,h.2.2.2.2.2.2.2.1⟩
theorem Dm:SmR Rep.DState (DState.small 9223372036854775807):=SmR.to (SmR.pair SmR.any (SmR.pair SmR.any (SmR.pair (SmR.sl SmR.any) (SmR.pair (SmR.sl SmR.any) SmR.any)))) rfl λx h=>⟨h.2.2.1.1,h.2.2.2.1.1⟩
theorem Dn:SmR Rep.DStore (DStore.small 9223372036854775807):=SmR.to (SmR.pair uv (SmR.pair Dm SmR.any)) rfl λx h=>⟨h.1,h.2.1⟩
theorem Fc:SmR Rep.DJobs (DJobs.small 9223372036854775807):=SmR.to (SmR.pair SmR.any (SmR.pair SmR.any (SmR.pair SmR.any (SmR.pair SmR.any (SmR.pair SmR.any (SmR.sl SmR.any)))))) rfl λx h=>h.2.2.2.2.2.1
theorem Fd:SmR Rep.DView (DView.small 9223372036854775807):=SmR.to Fc rfl λx h=>h
theorem wD:SmR Rep.DSched (DSched.small 9223372036854775807):=SmR.to (SmR.pair SmR.any (SmR.pair SmR.any (SmR.pair Fd SmR.any))) rfl λx h=>h.2.2.1
theorem uu:SmR Rep.DClient (DClient.small 9223372036854775807):=SmR.to (SmR.pair SmR.any (SmR.pair (SmR.sl SmR.any) (SmR.pair (SmR.sl SmR.any) SmR.any))) rfl λx h=>⟨h.2.1.1,h.2.2.1.1⟩
theorem Gs:SmR Rep.DMsg (DMsg.small 9223372036854775807):=SmR.to (SmR.pair SmR.any (SmR.pair SmR.any (SmR.sl SmR.any))) rfl λx h=>h.2.2.1
theorem Gt:SmR Rep.DNet (DNet.small 9223372036854775807):=SmR.to (SmR.pair (SmR.sl Gs) (SmR.sl SmR.any)) rfl λx h=>⟨h.1.1,h.1.2,h.2.1⟩
theorem Do:SmR Rep.DWorld (DWorld.small 9223372036854775807):=SmR.to (SmR.pair zQ (SmR.pair Dn (SmR.pair wD (SmR.pair wD (SmR.pair uu (SmR.pair uu (SmR.pair Gt (SmR.pair (SmR.sl SmR.any) (SmR.sl SmR.any))))))))) rfl λx h=>⟨h.1,h.2.1,h.2.2.1,h.2.2.2.1,h.2.2.2.2.1,h.2.2.2.2.2.1,h.2.2.2.2.2.2.1,h.2.2.2.2.2.2.2.1.1,h.2.2.2.2.2.2.2.2.1⟩
end Go.Proofs.YtehobfglmeiglaaGreatDoor
