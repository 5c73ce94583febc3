/- WC2 -/
import Derived.Test.YthgkdhnlehneeaaGreatDoorAwx
import Derived.Test.YthgkdhnlehneeaaGreatDoorAvTR
import Derived.Test.YthgkdhnlehneeaaGreatDoorWB6
import Derived.Test.YthgkdhnlehneeaaGreatDoorWB7
import Derived.Test.YthgkdhnlehneeaaGreatDoorWOx
import Derived.Test.YthgkdhnlehneeaaGreatDoorKC
set_option maxHeartbeats 8000000
set_option linter.unusedVariables false
set_option linter.unusedSimpArgs false
set_option maxRecDepth 100000
namespace Go.Proofs.YthgkdhnlehneeaaGreatDoor
section
open Go.Proofs.Tryz
open Go.ChangeShapes Go.WideShapes Go.RowKit
variable {b:Bool}{w:aP}
def ly:List (List Nat):=bC [0,1,0,3,259,20676,2165850309,486456451138,35322986508615,0x91c50c4181088,35322986508615,0xb1c50c4181088,0x3080811840c51cb,0xd2c714310604220c,0x2880811840c51c938c2cd,0x80811840c51cf34b30e24a,0x40a24e30b34f1c50c4181088]
def lz:List (List Nat):=dW 14 [720,721,8,17,44,125,364,1093,4727200,4733761,55768,114817,291964,823405]
def tK:List (List Nat):=bC [0,1,129,12354,1056835,84676740,6510088389,84676740,8657572037,623894601992,44534549721417,0x71430421062c920a,0x30a2092c6102043147,0x50c108434718b24828c,0x38c28824b1873440810c5,0xf14304210d1c62c920a30e,0x40e30a2092c61cd10204314f,0xf14304210d1c62c920a30e,0x48e30a2092c61cd10204314f,0x133c50c108434718b24828c392,0x51238c28824b1873440810c53d3,0x113c50c108434718b24828c390553494,0x59449355038c28824b1873440810c53d1,0xf14304210d1c62c920a30e5d14154d2516]
def t6:List (List Nat):=dW 21 [0,1,4,13,40,175081,175324,2065,4252,10813,30496,88573,265720,797161,2391484,10338387493,10352736400,121965709,251105872,638526361,1800787828]
def tL:List (List Nat):=bC [0,1,0,3,259,20676,2165850309,486456451138,35322986508615,0x91c50c4181088,0x2880811840c51c9,0x91c50c4181088,0x3080811840c51c9,0xd24714310604220c,0x38c20204610314724d,0xb24714310604220a3cd30e,0x40e30d3ca20204610314724b,0x91c50c418108844b28f34c390]
def t7:List (List Nat):=dW 15 [720,721,8,17,44,125,364,1093,3280,14181601,14201284,167305,344452,875893,2470216]
theorem e9(h:w.up.length=6){k:Nat}(hk:k<6):(w.up.map eB)[k]? =some [dB (cq w k)]:=by
  have hl:k<w.up.length:=ac;rw[List.getElem?_map,List.getElem?_eq_getElem hl];simp[cq,List.getD_eq_getElem?_getD,hl]
theorem U8(h:(((w.up.map eB).length:Int) !=6)=false):w.up.length=6:=by
  simp at h;omega
theorem xk{n:aS}(h:aa0 1048576 n):uh n:=by
  obtain⟨⟨⟨h1,h2,h3,h4⟩,g1,g2,g3,g4⟩,k1,k2,k3,k4,k5⟩:=h;simp only[aaV,aa9]at k1 k2 k3;exact⟨ac,λy hy=>by have:=h2 y hy;omega,ac,λy hy=>by have:y.row.length<=1048576:=h4 y hy;omega,ac,λy hy=>by have:=g2 y hy;omega,ac,λy hy=>by have:y.row.length<=1048576:=g4 y hy;omega,ac,ac,ac,ac,ac⟩
def oK(two:di):aS:=⟨two,fw,fw,false,⟨0,0,[]⟩,[],0,[]⟩
theorem Fh(n:aS):jh n=(fW n.two&&decide (n=oK n.two)):=by
  show(fW n.two&&(n==oK n.two))=_;rw[Dr]
theorem yp(n:aS):aN av 152 [.agg n.ds] (rB (jh n)):=by
  rw[Fh];refine pO func152 call152 ntmps152 results152 λS=>?_;conv=>whnf
  repeat'((first|refine awz ?_|refine cP (dX n.two) ?_|refine cP (lr n.head) ?_|refine cP (lr n.nxt) ?_|refine tB ?_ ?_|intro h)<;>conv=>whnf)
  all_goals
    refine bE ?_;rw[Bool.eq_iff_iff];simp only[decide_eq_true_iff,Bool.and_eq_true,TQ,oK,PX];simp_all
theorem IU(n:aS)(up:Bool)(hs:uh n):aN av 95 [.agg n.ds,.one (dB up)] (rB (if up then logOk n else jh n)):=by
  refine pO func95 call95 ntmps95 results95 λS=>?_;conv=>whnf
  repeat'((first|refine awz ?_|refine cP (n9 n hs.head hs.owe hs.seen hs.nxt) ?_|refine cP (yp n) ?_|refine tB ?_ ?_|intro h)<;>conv=>whnf)
  all_goals
    refine bE ?_;simp_all
theorem EZ(how:SN)(w:aP)(h6:w.up.length=6)(hs:uh w.log):aN av 86 [.agg w.ds] (rB (if cq w 0 then logOk w.log else jh w.log)):=by
  rw[Fh];refine pO func86 call86 ntmps86 results86 λS=>?_;conv=>whnf
  repeat'((first|refine awz ?_|refine aaG 0 _ rfl (e9 h6 ai) ?_|refine cP (LB how w.log hs) ?_|refine cP (zL w.log.two) ?_|refine cP (ET w.log (oK w.log.two) hs) ?_|refine tB ?_ ?_|intro h)<;>conv=>whnf)
  all_goals
    refine bE ?_;simp_all
theorem zV(w:aP)(h6:w.up.length=6)(hs:w.store.state.pairs.length<=9223372036854775806)(hj:w.store.state.jobs.length<=9223372036854775806):aN av 87 [.agg w.ds] (rB (if cq w 1 then storeOk w.store else fQ w.store)):=by
  refine pO func87 call87 ntmps87 results87 λS=>?_;conv=>whnf
  repeat'((first|refine awz ?_|refine aaG 1 _ rfl (e9 h6 ai) ?_|refine cP (EW w.store hs) ?_|refine cP (kC w.store.disk) ?_|refine cP (zK w.store.state fT hs ai hj) ?_|refine tB ?_ ?_|intro h)<;>conv=>whnf)
  all_goals
    refine bE ?_;try simp only[V2]at*
    first
      |(simp_all;done)
      | (rw [Bool.eq_iff_iff]
         simp[fQ,Nj];simp_all;done)
theorem zT(w:aP)(h6:w.up.length=6)(h1:w.left.view.jobs.opens.length<=9223372036854775806)(h2:w.right.view.jobs.opens.length<=9223372036854775806):aN av 85 [.agg w.ds] (rB (cV w.left 2 (cq w 2)&&cV w.right 3 (cq w 3))):=by
  refine pO func85 call85 ntmps85 results85 λS=>?_;conv=>whnf
  repeat'((first|refine awz ?_|refine aaJ aM 1 14 ly lz ae ae ae rfl ?_|refine aaG 2 _ rfl (e9 h6 ai) ?_|refine aaG 3 _ rfl (e9 h6 ai) ?_|refine cP (m8 w.left _ _ h1) ?_|refine cP (m8 w.right _ _ h2) ?_|refine tB ?_ ?_|intro h)<;>conv=>whnf)
  all_goals
    refine bE ?_;simp_all
theorem xZ(w:aP)(h6:w.up.length=6)(h1:w.ann.todo.length<=9223372036854775806/\w.ann.gots.length<=9223372036854775806)(h2:w.bob.todo.length<=9223372036854775806/\w.bob.gots.length<=9223372036854775806):aN av 84 [.agg w.ds] (rB (cq w 4&&cq w 5&&ci w.ann&&w.ann.id==4&&ci w.bob&&w.bob.id==5)):=by
  refine pO func84 call84 ntmps84 results84 λS=>?_;conv=>whnf
  repeat'((first|refine awz ?_|refine aaG 4 _ rfl (e9 h6 ai) ?_|refine aaG 5 _ rfl (e9 h6 ai) ?_|refine cP (oE w.ann h1.1 h1.2) ?_|refine cP (oE w.bob h2.1 h2.2) ?_|refine tB ?_ ?_|intro h)<;>conv=>whnf)
  all_goals
    refine bE ?_;simp_all
theorem Wo(h:(((w.up.map eB).length:Int) !=6)=true):¬w.up.length=6:=by
  simp at h;omega
theorem Wz(h:(((w.clocks.map eI).length:Int) !=6)=true):¬w.clocks.length=6:=by
  simp at h;omega
theorem Zf(h:(((w.clocks.map eI).length:Int) !=6)=false):w.clocks.length=6:=by
  simp at h;omega
theorem Vm(w:World)(xs:Array Value)(i:Nat)(v:Value)(h:xs[i]? =some v):(part 94 xs i).run Tryz.prog w= .ok v w:=by
  simp[part,isAgg94,sizeOf94,h]
theorem abn{S:bZ}{st:ASt}{o:Oper}{x i:Operand}{K:ASt->Prop}{ds:List AD}{n:Nat}{v:Value}(ho:o.op= .index 154 x i)(hx:aEv st x λy=>y= .agg (ds.map .d))(hi:aEv st i λy=>y=vI .i64 (n:Int))(hd:ds.all AD.isPv=true)(hn:n<4)(hv:(ds.map BD)[n]? =some v)(h1:v.oneCell'=true)(hk:fa st o.dst (.one (.d (.pv v))) K):AOp av S o st K:=by
  refine .reads λZ ρ a w hs=>?_;obtain⟨u,hu,rfl⟩:=bz hs hx;obtain⟨z,hz,rfl⟩:=bz hs hi;have e1:=Aj hd hu;have e2:=cF hz;have hp:=Vm w (ds.map BD).toArray n v (by simpa using hv);refine⟨.one (.d (.pv v)),v,cQ h1,?_,hk⟩;have hlt:(0:Int)<=(n:Int)/\(n:Int)<4:=⟨ac,ac⟩;simp[execOp,ho,e1,e2,Instr.index,asIntOf,av,run_underlying underlying154,sizeOf94,hn,hp]
theorem gT(w:aP):aZ w=(cY w.clocks&&decide (w.up.length=6)&&dT w.net&&(cq w 4&&cq w 5&&ci w.ann&&w.ann.id==4&&ci w.bob&&w.bob.id==5)&&(cV w.left 2 (cq w 2)&&cV w.right 3 (cq w 3))&&(if cq w 0 then logOk w.log else jh w.log)&&(if cq w 1 then storeOk w.store else fQ w.store)):=by
  simp only[aZ,Bool.and_assoc]
theorem Mb(h:(!b)=true):b=false:=by rwa[Bool.not_eq_true']at h
theorem Cy(h:(!b)=false):b=true:=by rwa[Bool.not_eq_false']at h
def P9:List AD:=[.pv (.func (.func 84) #[] #[]),.pv (.func (.func 85) #[] #[]),.pv (.func (.func 86) #[] #[]),.pv (.func (.func 87) #[] #[])]
theorem dA(w:aP)(hs:aaN 1048576 w):aN av 21 [.agg w.ds] (rB (aZ w)):=by
  obtain⟨s1,⟨_,s2⟩,s3,s4,s5,s6,s7,s8⟩:=hs;simp only[aa2,aaX,abb,aba,aaR]at s2 s3 s4 s5 s6;refine pO func21 call21 ntmps21 results21 λS=>?_;conv=>whnf
  repeat'((first|refine awz ?_|refine cP (Ce w.clocks) ?_|refine cP (LD w.net) ?_|refine tB ?_ ?_|intro h)<;>conv=>whnf)
  all_goals first
    | (have hno := Wo h
       refine bE ?_;simp_all[aZ];done)
    | (refine bE ?_
       simp_all[aZ];done)
    |skip
  have h6:w.up.length=6:=U8 aj;have hc:cY w.clocks=true:=by
    have:(!cY w.clocks)=false:=aj;rwa[Bool.not_eq_false']at this
  have hn:dT w.net=true:=by rwa[Bool.not_eq_false']at h
  refine aaZ 5 ?_;conv=>whnf
  repeat'((first|refine awz ?_|refine abn (ds:=P9) (n:=0) rfl rfl rfl rfl ai rfl rfl ?_|refine abn (ds:=P9) (n:=1) rfl rfl rfl rfl ai rfl rfl ?_|refine abn (ds:=P9) (n:=2) rfl rfl rfl rfl ai rfl rfl ?_|refine abn (ds:=P9) (n:=3) rfl rfl rfl rfl ai rfl rfl ?_|refine cP (xZ w h6 ⟨ac,ac⟩ ⟨ac,ac⟩) ?_|refine cP (zT w h6 ac ac) ?_|refine cP (EZ T8 w h6 (xk s1)) ?_|refine cP (zV w h6 ac ac) ?_|refine aaH ai ai ?_|refine tB ?_ ?_|intro h)<;>conv=>whnf)
  all_goals
    refine bE ?_;rw[gT];simp only[hc,hn,h6,decide_true,Bool.true_and];first
      |(simp only[Mb h,Bool.false_and,Bool.and_false];done)
      | (have e := Mb h
         rw[e];simp only[Bool.and_false];done)
      | (have e1 := Cy h
         simp_all;done)
      |skip
theorem bd(w:aP)(hs:aaN 1048576 w):aN av 30 [.agg w.ds] (rB (aZ w)):=by
  obtain⟨s1,⟨_,s2⟩,s3,s4,s5,s6,s7,s8⟩:=hs;simp only[aa2,aaX,abb,aba,aaR]at s2 s3 s4 s5 s6;refine pO func30 call30 ntmps30 results30 λS=>?_;conv=>whnf
  repeat'((first|refine awz ?_|refine aaG 4 _ rfl (e9 (U8 aj) ai) ?_|refine aaG 5 _ rfl (e9 (U8 aj) ai) ?_|refine tB ?_ ?_|intro h)<;>conv=>whnf)
  all_goals first
    | (have hno := Wo h
       refine bE ?_;rw[gT];simp only[hno,decide_false,Bool.and_false,Bool.false_and];done)
    | (have hno := Wz h
       refine bE ?_;rw[gT];simp only[cY,hno,decide_false,Bool.and_false,Bool.false_and];done)
    | (refine bE ?_
       rw[gT];simp only[Mb h,Bool.and_false,Bool.false_and];done)
    |skip
  have h6:w.up.length=6:=U8 aj;have hc6:w.clocks.length=6:=Zf aj;have u4:cq w 4=true:=by
    have:(!cq w 4)=false:=aj;exact Cy this
  have u5:cq w 5=true:=Cy h;repeat'((first|refine awz ?_|refine aaJ aM 3 21 tK t6 ae ae ae rfl ?_|refine aaJ aM 5 15 tL t7 ae ae ae rfl ?_|refine aaG 0 _ rfl (e9 h6 ai) ?_|refine aaG 1 _ rfl (e9 h6 ai) ?_|refine aaG 2 _ rfl (e9 h6 ai) ?_|refine aaG 3 _ rfl (e9 h6 ai) ?_|refine cP (AJ w.clocks hc6) ?_|refine cP (IU w.log _ (xk s1)) ?_|refine cP (C1 w.store _ ac ac) ?_|refine cP (oV w.left _ _) ?_|refine cP (oV w.right _ _) ?_|refine cP (fk w.ann ac ac) ?_|refine cP (fk w.bob ac ac) ?_|refine cP (g9 w.net) ?_|refine tB ?_ ?_|intro h)<;>conv=>whnf)
  all_goals
    refine bE ?_;rw[gT];simp only[h6,u4,u5,decide_true,Bool.true_and,Bool.and_true];first
      |(simp only[Mb h,Bool.false_and,Bool.and_false];done)
      | (have e := Mb h
         rw[e];simp only[Bool.and_false,Bool.false_and];done)
      |(simp_all;done)
      | (have b1 : cY w.clocks = true := Cy aj
         have b2:(if cq w 0=true then logOk w.log else jh w.log)=true:=Cy aj;have b3:(if cq w 1=true then storeOk w.store else fQ w.store)=true:=Cy aj;have b4:cV w.left 2 (cq w 2)=true:=Cy aj;have b5:cV w.right 3 (cq w 3)=true:=Cy aj;have b6:ci w.ann=true:=aj;have b7:(w.ann.id==4)=true:=aj;have b8:ci w.bob=true:=aj;have b9:(w.bob.id==5)=true:=aj;simp only[b1,b2,b3,b4,b5,b6,b7,b8,b9,Bool.and_true,Bool.true_and])
end
open Go.Proofs.Tryz
open Go.ChangeShapes Go.WideShapes Go.RowKit
def o5:List (List Nat):=bC [0,1,2,0,4,197,387,0x7185103081187]
def lC:List (List Nat):=bC [0,1,0,0,4,323,0,0,8,25159,0,11,3187074,0xd30b28920718510308128d]
theorem qB(d:bD)(h:cG d=true):aN av 343 [.agg d.ds] (.val (.agg (gZ d).ds)):=by
 have n1:(!cG d)=false:=by rw[h];rfl
 refine pO func343 call343 ntmps343 results343 λS=>?_;conv=>whnf
 repeat'((first|refine awz ?_|refine cP (dz d) ?_|refine aaI (St d h) [(1001,8)] rfl rfl ?_|exact rZ|fail)<;>conv=>whnf)
theorem mf(t:di)(h:fW t=true):aN av 252 [.agg t.ds] (.val (.agg (kW t).ds)):=by
 obtain⟨f1,f2,f3⟩:=eW h;have n1:(!fW t)=false:=by rw[h];rfl
 refine pO func252 call252 ntmps252 results252 λS=>?_;conv=>whnf
 repeat'(first|refine awz ?_|(refine cP (dX t) ?_;conv=>whnf)|fail)
 (refine aaL aM 3 (tkc [0,1,3,4] (onc [2,5,6,7] .done)) [(1,9980)] o5 ae ae ae ae (λRz=>?_);(conv=>whnf);intro bp0 up0;(conv=>whnf))
 repeat'((first|refine awz ?_|refine cP (qB t.a f1) ?_|refine cP (qB t.b f2) ?_|exact rZ|fail)<;>conv=>whnf)
theorem sk(t:di)(a:Int)(r:List Int)(h:fW t=true)(h1:t.a.wait.length<60)(h2:t.b.wait.length<60)(ha:aJ a 0 ((t.a.kept.length:Int)-1)=true)(hr:bQ r=true)(hl:r.length<48):aN av 251 [.agg t.ds,pI a,.one (.sl (r.map eI))] (.tup [.agg (sM t a r).ds,.one (dB true)]):=by
 obtain⟨f1,f2,f3⟩:=eW h;have n1:(!fW t)=false:=by rw[h];rfl
 have ha2:aJ a 0 ((t.b.kept.length:Int)-1)=true:=by rw[<-f3];exact ha
 have hs:=gR hr hl;have hz:(((List.map eI (r++[kM r])).length:Int)==0)=false:=al;have c1:=AE t.a a _ f1 h1 ha hs;have c2:=AE t.b a _ f2 h2 ha2 hs;refine pO func251 call251 ntmps251 results251 λS=>?_;conv=>whnf
 repeat'((first|refine awz ?_|refine cP (dX t) ?_|refine cP (oc r hr hl) ?_|refine cP (c1) ?_|refine cP (c2) ?_|exact rZ|fail)<;>conv=>whnf)
theorem CR(t:di)(a:Int)(r:List Int)(h:fW t=true)(h1:t.a.wait.length<60)(h2:t.b.wait.length<60)(ha:aJ a 0 ((t.a.kept.length:Int)-1)=true)(hr:bQ r=true)(hl:r.length<48):aN av 169 [.agg t.ds,pI a,.one (.sl (r.map eI))] (.val (.agg (kW (sM t a r)).ds)):=by
 have hw:=Je h h1 h2 ha hr hl;refine pO func169 call169 ntmps169 results169 λS=>?_;conv=>whnf
 repeat'((first|refine awz ?_|refine cP (sk t a r h h1 h2 ha hr hl) ?_|refine cP (mf _ hw) ?_|exact rZ|fail)<;>conv=>whnf)
theorem sq(n:Nat)(h:1<=n/\n<=40):aN av 172 [pI (n:Int)] (.val (.agg (io n).ds)):=by
 have n1:(!aJ (n:Int) 1 40)=false:=by simp[aJ];omega
 refine pO func172 call172 ntmps172 results172 λS=>?_;conv=>whnf
 repeat'(first|refine awz ?_|(refine cP (aQ _ _ _) ?_;conv=>whnf)|fail)
 refine⟨n,rfl,rfl,Nat.le_trans (Nat.mul_le_mul_left _ h.2) ai,ac,?_⟩;conv=>whnf
 repeat'(first|refine awz ?_|fail)
 all_goals(simp[io,bD.ds,dO];done)
theorem II(n:Nat)(h:1<=n/\n<=40):aN av 170 [pI (n:Int)] (.val (.agg (⟨io n,io n⟩:di).ds)):=by
 refine pO func170 call170 ntmps170 results170 λS=>?_;conv=>whnf
 repeat'(first|refine awz ?_|(refine cP (sq n h) ?_;conv=>whnf)|exact rZ|fail)
theorem FV:aN av 171 [.agg fw.ds] (.val (.one (.sl (A4.map eI)))):=by
 have n1:(!dm fw)=false:=ai;refine pO func171 call171 ntmps171 results171 λS=>?_;conv=>whnf
 repeat'(first|refine awz ?_|(refine cP (g8 fw (by simp[fw])) ?_;conv=>whnf)|fail)
 refine aaZ 5 ?_;conv=>whnf
 repeat'((first|refine awz ?_|refine cP (jp [] _ rfl) ?_|refine aaH ai ai ?_|refine a7 aq ?_|exact rZ|fail)<;>conv=>whnf)
def jN:bD:=gZ (lx (io 22) 0 U6)
theorem FW:aN av 114 [] (.val (.agg (⟨jN,jN⟩:di).ds)):=by
 have h:=rS (n:=22) ac;have c:=CR ⟨io 22,io 22⟩ 0 A4 (qI ⟨h,h,rfl⟩) ai ai ai zf ai;refine pO func114 call114 ntmps114 results114 λS=>?_;conv=>whnf
 repeat'((first|refine awz ?_|refine cP (II 22 ac) ?_|refine cP (FV) ?_|refine cP (c) ?_|exact rZ|fail)<;>conv=>whnf)
theorem IG:aN av 73 [] (.val (.agg (oK ⟨jN,jN⟩).ds)):=by
 refine pO func73 call73 ntmps73 results73 λS=>?_;conv=>whnf
 repeat'(first|refine awz ?_|(refine cP (FW) ?_;conv=>whnf)|exact rZ|fail)
theorem CS:aN av 115 [] (.val (.agg (io 8).ds)):=by
 refine pO func115 call115 ntmps115 results115 λS=>?_;conv=>whnf
 repeat'(first|refine awz ?_|(refine cP (sq 8 ac) ?_;conv=>whnf)|exact rZ|fail)
def Aa:bK:=⟨io 8,fT,0,0,0⟩
theorem CU:aN av 74 [] (.val (.agg Aa.ds)):=by
 refine pO func74 call74 ntmps74 results74 λS=>?_;conv=>whnf
 repeat'(first|refine awz ?_|(refine cP (CS) ?_;conv=>whnf)|exact rZ|fail)
theorem we:aN av 75 [pI 2] (.val (.agg (gj 2).ds)):=by
 refine pO func75 call75 ntmps75 results75 λS=>?_;conv=>whnf
 repeat'(first|refine awz ?_|(refine cP (dp _) ?_;conv=>whnf)|exact rZ|fail)
theorem wg:aN av 75 [pI 3] (.val (.agg (gj 3).ds)):=by
 refine pO func75 call75 ntmps75 results75 λS=>?_;conv=>whnf
 repeat'(first|refine awz ?_|(refine cP (dp _) ?_;conv=>whnf)|exact rZ|fail)
theorem IH:aN av 76 [] (.val (.agg (⟨[],[]⟩:ee).ds)):=by
 refine pO func76 call76 ntmps76 results76 λS=>?_;conv=>whnf
 repeat'(first|refine awz ?_|exact rZ|fail)
theorem sy(x:bp)(hs:aaR 1048576 x):aN av 113 [.agg x.ds] (.val (.agg x.ds)):=by
 obtain⟨h1,h2⟩:=(show x.todo.length<=1048576/\x.gots.length<=1048576 from hs);refine pO func113 call113 ntmps113 results113 λS=>?_;conv=>whnf
 repeat'(first|refine awz ?_|fail)
 (refine aaL aM 1 (tkc [0,1,3,4,7,8,10,11] (.two 2 (.two 5 (onc [6,9,12,13] .done) 6 (onc [5,9,12,13] .done)) 6 (onc [2,5,9,12,13] .done))) [(1,9980)] lC ae ae ae ae (λRz=>?_);(conv=>whnf);intro bp0 up0;(conv=>whnf))
 repeat'((first|refine awz ?_|refine aW (by first|(intro y hy;obtain⟨a,_,rfl⟩:=List.mem_map.1 hy;rfl)|(simp;done)) ?_|refine a7 aq ?_|exact rZ|refine tW ?_ ?_|fail)<;>conv=>whnf)
def fy(id:Int)(l:List dD):bp:=let c:bp:=⟨id,l,[],0⟩;if ci c then c else⟨0,[],[],0⟩
theorem Au(id:Int)(l:List dD)(h:l.length<=1048576):aN av 72 [pI id,.one (.sl (l.map dD.ds))] (.val (.agg (fy id l).ds)):=by
 have hs:aaR 1048576 ⟨id,l,[],0⟩:=⟨h,by simp⟩;cases hc:ci ⟨id,l,[],0⟩with
 |false=>
  have n1:(!ci ⟨id,l,[],0⟩)=true:=by rw[hc];rfl
  have e:fy id l=⟨0,[],[],0⟩:=by simp[fy,hc]
  rw[e];refine pO func72 call72 ntmps72 results72 λS=>?_;conv=>whnf
  repeat'(first|refine awz ?_|(refine cP (fk ⟨id,l,[],0⟩ ay ah) ?_;conv=>whnf)|exact rZ|fail)
 |true=>
  have n1:(!ci ⟨id,l,[],0⟩)=false:=by rw[hc];rfl
  have e:fy id l=⟨id,l,[],0⟩:=by simp[fy,hc]
  rw[e];refine pO func72 call72 ntmps72 results72 λS=>?_;conv=>whnf
  repeat'((first|refine awz ?_|refine cP (fk ⟨id,l,[],0⟩ ay ah) ?_|refine cP (sy ⟨id,l,[],0⟩ hs) ?_|exact rZ|fail)<;>conv=>whnf)
def ub(ann bob:List dD):aP:=⟨oK ⟨jN,jN⟩,Aa,gj 2,gj 3,fy 4 ann,fy 5 bob,⟨[],[]⟩,[0,0,0,0,0,0],[true,true,true,true,true,true]⟩
section
variable {a:Int}{k:List (List Int)}{l:List cz}
def kU:List (List Nat):=bC [0,1,0,0,4,324,811269,118768003,8873454354759]
def kZ:List (List Nat):=dW 8 [6552,6553,710,26,53,134,368,1097]
def Kc(o:Option (List Int)):AP:= .tup [.one (.sl ((o.getD []).map eI)),.one (dB o.isSome)]
theorem Gw{l:List Int}(h:bQ l=false\/l=[]\/kM l.dropLast≠l.getLastD 0):lL l=none:=by
 unfold lL;rcases h with h|h|h
 ·simp[h]
 ·simp[h]
 ·have:(kM l.dropLast==l.getLastD 0)=false:=by simpa using h
  rw[this,Bool.and_false];rfl
theorem wl(l:List Int):aN av 191 [.one (.sl (l.map eI))] (Kc (lL l)):=by
 cases hr:bQ l with
 |false=>
  have n1:(!bQ l)=true:=by rw[hr];rfl
  rw[Gw (.inl hr)];unfold Kc;refine pO func191 call191 ntmps191 results191 λS=>?_;conv=>whnf
  repeat'(first|refine awz ?_|(refine cP (cM l) ?_;conv=>whnf)|exact rZ|fail)
 |true=>
  have n1:(!bQ l)=false:=by rw[hr];rfl
  by_cases hn:l=[]
  ·have n2:(((l.map eI).length:Int)==0)=true:=by simp[hn]
   rw[Gw (.inr (.inl hn))];unfold Kc;refine pO func191 call191 ntmps191 results191 λS=>?_;conv=>whnf
   repeat'(first|refine awz ?_|(refine cP (cM l) ?_;conv=>whnf)|exact rZ|fail)
  ·have n2:(((l.map eI).length:Int)==0)=false:=by simp[hn]
   have hpos:0<l.length:=List.length_pos_iff.2 hn;have h48:=eM hr;have hd:bQ l.dropLast=true:=ID hr ah (λx hx=>List.dropLast_subset _ hx);have hcut:((l.map eI).take (l.length-1)).drop 0=l.dropLast.map eI:=by rw[List.drop_zero,<-List.map_take,List.dropLast_eq_take]
   have hlast:(l.map eI)[l.length-1]? =some (eI (l.getLastD 0)):=by
    rw[List.getElem?_map,<-List.getLast?_eq_getElem?,List.getLast?_eq_some_getLast hn,List.getLastD_eq_getLast?,List.getLast?_eq_some_getLast hn];rfl
   have so:=F4 l.dropLast hd;have hdl:l.dropLast.length<=1048576:=al;by_cases hs:kM l.dropLast=l.getLastD 0
   ·have e:lL l=some l.dropLast:=by
     unfold lL;have e2:l.isEmpty=false:=by simpa using hn
     rw[hr,e2,hs];simp
    have n3:(!(kM l.dropLast==l.getLastD 0))=false:=by simp[hs]
    rw[e];unfold Kc;refine pO func191 call191 ntmps191 results191 λS=>?_;conv=>whnf
    repeat'((first|refine awz ?_|refine cP (cM l) ?_|(refine⟨0,l.length-1,rfl,(by show _=_;simp;omega),Nat.zero_le _,ah,(by intro y hy;obtain⟨a,_,rfl⟩:=List.mem_map.1 hy;rfl),?_⟩;rw[hcut])|refine cP (dN l.dropLast hdl) ?_|refine aaH ari ari ?_|fail)<;>conv=>whnf)
    (refine aaJ aM 4 8 kU kZ ae ae ae rfl ?_;conv=>whnf)
    repeat'((first|refine awz ?_|refine cP (so) ?_|refine aaG (l.length-1) _ al hlast ?_|refine aaH ari ari ?_|exact rZ|fail)<;>conv=>whnf)
    done
   ·have n3:(!(kM l.dropLast==l.getLastD 0))=true:=by simpa using hs
    rw[Gw (.inr (.inr hs))];unfold Kc;refine pO func191 call191 ntmps191 results191 λS=>?_;conv=>whnf
    repeat'((first|refine awz ?_|refine cP (cM l) ?_|(refine⟨0,l.length-1,rfl,(by show _=_;simp;omega),Nat.zero_le _,ah,(by intro y hy;obtain⟨a,_,rfl⟩:=List.mem_map.1 hy;rfl),?_⟩;rw[hcut])|refine cP (dN l.dropLast hdl) ?_|refine aaH ari ari ?_|fail)<;>conv=>whnf)
    (refine aaJ aM 4 8 kU kZ ae ae ae rfl ?_;conv=>whnf)
    repeat'((first|refine awz ?_|refine cP (so) ?_|refine aaG (l.length-1) _ al hlast ?_|refine aaH ari ari ?_|exact rZ|fail)<;>conv=>whnf)
    done
theorem RN{j:Nat}(hj:j<l.length)(h1:l[j].at_=a)(h2:∀(i:Nat) (hi:i<l.length),j<i->l[i].at_≠a):It k l a=l[j].row:=by
 have e:l.reverse.find? (λw=>w.at_==a)=some l[j]:=by
  have e0:l=l.take j++l[j]::l.drop (j+1):=by rw[<-List.drop_eq_getElem_cons hj,List.take_append_drop]
  have hn:(l.drop (j+1)).reverse.find? (λw=>w.at_==a)=none:=by
   rw[List.find?_eq_none];intro w hw;obtain⟨i,hi,rfl⟩:=List.getElem_of_mem (List.mem_reverse.1 hw);rw[List.getElem_drop];simp only[List.length_drop]at hi;have:=h2 (j+1+i) ac ac;simpa using this
  conv=>lhs;rw[e0]
  rw[List.reverse_append,List.reverse_cons,List.append_assoc,List.find?_append,hn];simp[h1]
 unfold It;rw[e]
theorem OE(h:∀(i:Nat) (hi:i<l.length),l[i].at_≠a):It k l a=k.getD a.toNat []:=by
 have e:l.reverse.find? (λw=>w.at_==a)=none:=by
  rw[List.find?_eq_none];intro w hw;obtain⟨i,hi,rfl⟩:=List.getElem_of_mem (List.mem_reverse.1 hw);simpa using h i hi
 unfold It;rw[e]
theorem BK(d:bD)(a:Int)(h:cG d=true)(ha:aJ a 0 ((d.kept.length:Int)-1)=true):aN av 451 [.agg d.ds,pI a] (.tup [.one (.sl ((oO d a).map eI)),.one (dB true)]):=by
 obtain⟨f1,f2,f3,f4,f5⟩:=dq h;have n1:(!cG d)=false:=by rw[h];rfl
 have n2:(!aJ a 0 ((d.kept.length:Int)-1))=false:=by rw[ha];rfl
 have har:0<=a/\a<=(d.kept.length:Int)-1:=by simpa[aJ]using ha
 refine pO func451 call451 ntmps451 results451 λS=>?_;conv=>whnf
 repeat'((first|refine awz ?_|refine cP (dz d) ?_|refine cP (eT d a f2) ?_|refine aaH ari ari ?_|fail)<;>conv=>whnf)
 refine aaK (λk:Nat=>k<=d.wait.length/\∀(i:Nat) (hi:i<d.wait.length),k<=i->d.wait[i].at_≠a) (4::5::6::rg 21 19) (λk=>[(6,vI .i64 ((k:Int)-1))]) (λk=>[(2,.cells 30 (d.ds.map .d))]) (λk=>k) (d.wait.map cz.ds).length ⟨by simp,λi hi hk=>by simp at hk;omega⟩ ?_ sbW (λk hk=>?_)<;>(conv=>whnf)
 ·exact whd
 ·obtain⟨hk,hall⟩:=hk;cases k with
  |zero=>
   have hc:decide (((0:Nat):Int)-1>=0)=false:=ai;have e:oO d a=d.kept[a.toNat]'(ac):=by
    show It d.kept d.wait a=_;rw[OE λi hi=>hall i hi (Nat.zero_le _),List.getD_eq_getElem?_getD,List.getElem?_eq_getElem ac];first|rfl|done
   have h48:=eM (f4 _ (List.getElem_mem (show a.toNat<d.kept.length by omega)));rw[e];repeat'((first|refine awz ?_|refine AIx.int har.1 ac ?_|refine cP (dN (d.kept[a.toNat]'(ac)) ac) ?_|exact rZ|fail)<;>conv=>whnf)
  |succ k=>
   have hlt:k<d.wait.length:=ac;have hc:decide ((((k+1:Nat):Int)-1)>=0)=true:=by simp only[decide_eq_true_eq,ge_iff_le];omega
   have hix:(((k+1:Nat):Int)-1)=(k:Int):=ac;have h48:=eM (iF (f5 _ (List.getElem_mem hlt))).2;by_cases hw:d.wait[k].at_=a
   ·have e:oO d a=d.wait[k].row:=RN hlt hw λi hi hki=>hall i hi hki;have hb:(d.wait[k].at_==a)=true:=by simpa using hw
    rw[e];repeat'((first|refine awz ?_|refine aaG k (cz.ds d.wait[k]) hix (by simp[hlt]) ?_|refine cP (dN d.wait[k].row ac) ?_|exact rZ|fail)<;>conv=>whnf)
   ·have hb:(d.wait[k].at_==a)=false:=by simpa using hw
    repeat'((first|refine awz ?_|refine aaG k (cz.ds d.wait[k]) hix (by simp[hlt]) ?_|refine aaH ac ac ?_|fail)<;>conv=>whnf)
    refine a8.mk ⟨k,⟨ac,λi hi hki=>?_⟩,ac,?_,sbW⟩
    ·rcases Nat.eq_or_lt_of_le hki with e|e
     ·subst e;exact hw
     ·exact hall i hi e
    ·rw[hix];exact hds
theorem FZ(a b:List Int)(ha:a.length<=1048576):aN av 470 [.one (.sl (a.map eI)),.one (.sl (b.map eI))] (rB (decide (a=b))):=by
 by_cases hl:a.length=b.length
 ·have n1:(((a.map eI).length:Int) !=((b.map eI).length:Int))=false:=by simp[hl]
  refine pO func470 call470 ntmps470 results470 λS=>?_;conv=>whnf
  repeat'(first|refine awz ?_|fail)
  refine aaK (λk:Nat=>k<=a.length/\∀(j:Nat) (h1:j<a.length) (h2:j<b.length),j<k->a[j]=b[j]) (4::5::rg 11 15) (λk=>[(5,vI .i64 (k:Int))]) (λk=>[]) (λk=>a.length-k) 0 ⟨Nat.zero_le _,λj _ _ h=>by omega⟩ ?_ aaE (λk hk=>?_)<;>(conv=>whnf)
  ·exact whd
  ·obtain⟨hk,hall⟩:=hk;by_cases hlt:k<a.length
   ·have hlt2:k<b.length:=ac;have hc:decide ((k:Int)<((a.map eI).length:Int))=true:=by simp only[decide_eq_true_eq,List.length_map];omega
    by_cases he:a[k]=b[k]
    ·have hb:(a[k] !=b[k])=false:=by simpa using he
     repeat'(first|refine awz ?_|fail)
     (refine aaJ aM 6 8 aX aR ae ae ae rfl ?_;conv=>whnf)
     repeat'((first|refine awz ?_|refine aaM hlt ?_|refine aaM hlt2 ?_|refine aaH ac ac ?_|fail)<;>conv=>whnf)
     refine a8.mk ⟨k+1,⟨ac,λj h1 h2 hj=>?_⟩,ac,?_,aaE⟩
     ·rcases Nat.eq_or_lt_of_le (Nat.le_of_lt_succ hj)with e|e
      ·subst e;exact he
      ·exact hall j h1 h2 e
     ·exact hds
    ·have hb:(a[k] !=b[k])=true:=by simpa using he
     have e:decide (a=b)=false:=by
      rw[decide_eq_false_iff_not];intro e;subst e;exact he rfl
     rw[e];repeat'(first|refine awz ?_|fail)
     (refine aaJ aM 6 8 aX aR ae ae ae rfl ?_;conv=>whnf)
     repeat'((first|refine awz ?_|refine aaM hlt ?_|refine aaM hlt2 ?_|exact rZ|fail)<;>conv=>whnf)
   ·have hc:decide ((k:Int)<((a.map eI).length:Int))=false:=by simp only[decide_eq_false_iff_not,List.length_map];omega
    have e:decide (a=b)=true:=by
     rw[decide_eq_true_eq];exact List.ext_getElem hl λj h1 h2=>hall j h1 h2 ac
    rw[e];repeat'(first|refine awz ?_|exact rZ|fail)
 ·have n1:(((a.map eI).length:Int) !=((b.map eI).length:Int))=true:=by simp only[List.length_map,bne_iff_ne,ne_eq];omega
  have e:decide (a=b)=false:=by
   rw[decide_eq_false_iff_not];intro e;exact hl (by rw[e])
  rw[e];refine pO func470 call470 ntmps470 results470 λS=>?_;conv=>whnf
  repeat'(first|refine awz ?_|exact rZ|fail)
theorem FY(t:di)(a:Int)(h:fW t=true)(ha:aJ a 0 ((t.a.kept.length:Int)-1)=true):aN av 447 [.agg t.ds,pI a] (.val (.one (.sl ((iP t a).map dO)))):=by
 obtain⟨f1,f2,f3⟩:=eW h;have h40:=(dq f1).2.1;have n1:(!fW t)=false:=by rw[h];rfl
 have n2:(!aJ a 0 ((t.a.kept.length:Int)-1))=false:=by rw[ha];rfl
 have c1:=BK t.a a f1 ha;have c2:=BK t.b a f2 (by rw[<-f3];exact ha);have u1:=wl (oO t.a a);have u2:=wl (oO t.b a);unfold iP;cases e1:lL (oO t.a a)with
 |none=>
  rw[e1]at u1;cases e2:lL (oO t.b a)with
  |none=>
   rw[e2]at u2;refine pO func447 call447 ntmps447 results447 λS=>?_;conv=>whnf
   repeat'((first|refine awz ?_|refine cP (dX t) ?_|refine cP (eT t.a a h40) ?_|refine cP (c1) ?_|refine cP (c2) ?_|refine cP (u1) ?_|refine cP (u2) ?_|exact rZ|fail)<;>conv=>whnf)
  |some y=>
   rw[e2]at u2;refine pO func447 call447 ntmps447 results447 λS=>?_;conv=>whnf
   repeat'((first|refine awz ?_|refine cP (dX t) ?_|refine cP (eT t.a a h40) ?_|refine cP (c1) ?_|refine cP (c2) ?_|refine cP (u1) ?_|refine cP (u2) ?_|refine a7 aq ?_|exact rZ|fail)<;>conv=>whnf)
 |some x=>
  rw[e1]at u1;have hx:=eM (fC e1).1;cases e2:lL (oO t.b a)with
  |none=>
   rw[e2]at u2;refine pO func447 call447 ntmps447 results447 λS=>?_;conv=>whnf
   repeat'((first|refine awz ?_|refine cP (dX t) ?_|refine cP (eT t.a a h40) ?_|refine cP (c1) ?_|refine cP (c2) ?_|refine cP (u1) ?_|refine cP (u2) ?_|refine a7 aq ?_|exact rZ|fail)<;>conv=>whnf)
  |some y=>
   rw[e2]at u2;have sr:=FZ x y ac;by_cases hxy:x=y
   ·have hb:(x==y)=true:=by simpa using hxy
    have hd:decide (x=y)=true:=by simpa using hxy
    rw[hd]at sr;simp only[hb,if_true];refine pO func447 call447 ntmps447 results447 λS=>?_;conv=>whnf
    repeat'((first|refine awz ?_|refine cP (dX t) ?_|refine cP (eT t.a a h40) ?_|refine cP (c1) ?_|refine cP (c2) ?_|refine cP (u1) ?_|refine cP (u2) ?_|refine cP (sr) ?_|refine a7 aq ?_|exact rZ|fail)<;>conv=>whnf)
   ·have hb:(x==y)=false:=by simpa using hxy
    have hd:decide (x=y)=false:=by simpa using hxy
    rw[hd]at sr;simp only[hb,if_false,Bool.false_eq_true];refine pO func447 call447 ntmps447 results447 λS=>?_;conv=>whnf
    repeat'((first|refine awz ?_|refine cP (dX t) ?_|refine cP (eT t.a a h40) ?_|refine cP (c1) ?_|refine cP (c2) ?_|refine cP (u1) ?_|refine cP (u2) ?_|refine cP (sr) ?_|refine a7 aq ?_|exact rZ|fail)<;>conv=>whnf)
end
end Go.Proofs.YthgkdhnlehneeaaGreatDoor
