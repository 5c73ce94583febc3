/- WB4 -/
import Derived.Test.YthgkdhnlehneeaaGreatDoorAwx
import Derived.Test.YthgkdhnlehneeaaGreatDoorWA4
set_option maxHeartbeats 8000000
set_option linter.unusedVariables false
set_option linter.unusedSimpArgs false
set_option maxRecDepth 100000
namespace Go.Proofs.YthgkdhnlehneeaaGreatDoor
open Go.Proofs.Tryz
open Go.ChangeShapes Go.WideShapes Go.RowKit
variable {l:List eG}{k:Nat}
def tF:List (List Nat):=bC [0,1,129,12354,1056835,84676740,6510088389,486455648518,35601017745735,0x50c1084247188,0x2881872440810c5,0xb1430421091c620a,0xb1430421091c620a,0x34a2061c910204314b,0x30a2061c910204314b38d,0xb1430421091c620a3cd38c,0x40c38d3ca2061c910204314b,0x112c50c108424718828f34e310,0x49030e34f2881872440810c52d1,0x1344b1430421091c620a3cd38c412,0x51240c38d3ca2061c910204314b453,0x154d12c50c108424718828f34e310494,0x51240c38d3ca2061c910204314b453,0x174d12c50c108424718828f34e310494,0x59449030e34f2881872440810c52d14d5617,0x195d855344b1430421091c620a3cd38c412516,0x51240c38d3ca2061c910204314b453,0x1a59449030e34f2881872440810c52d14d561765b,0x71b6576154d12c50c108424718828f34e31049459a,0x1449030e34f2881872440810c52d14dd6965585d96dc,0x44b1430421091c620a3cd38c41e71b65761559a753494]
def tU:List (List Nat):=dW 27 [0,1,4,13,40,121,364,1093,3280,9841,29524,4340101,442867,974308,2391484,7174453,21523360,64570081,193710244,581130733,5336523525730,5340010310131,5113369324066,5144750383675,5224946424898,5507375961379,2540122436128]
def tG:List (List Nat):=bC [0,0,66,12417,1052803,84680772,6509830341,486455906566,35601001230663,35601001230663,0x24714308110620a,0xb2881840420c51c9,0x3091c50c204418828b,0xd2ca20610108314724c,0x38c24714308110620a2cd,0x81840420c51cf34b28930e,0x40e30928b34f1c50c2044188,0x112061010831473cd2ca24c390,0x49038c24a2cd3c7143081106211,0x134481840420c51cf34b28930e412,0x51240e30928b34f1c50c2044188453,0x51240e30928b34f1c50c2044188453,0x164d12061010831473cd2ca24c390494,0x154d12061010831473cd2ca24c3904945d6,0x6165d449038c24a2cd3c71430811062114d5,0x51240e30928b34f1c50c2044188453,0x51240e30928b34f1c50c2044188453,0x6934481840420c51cf34b28930e41251b,0x1c6d449038c24a2cd3c71430811062114da,0x195534481840420c51cf34b28930e41251759875a6dc,0x79c6da75859751240e30928b34f1c50c2044188453559,0x1449038c24a2cd3c71430811062114df6555d661d69b71e,0x4481840420c51cf34b28930e42079c6da7585975597d3494]
def tV:List (List Nat):=dW 29 [6,2,4,13,40,121,364,1093,42646,16402,29524,88573,265720,797161,2391484,7174453,21523360,64570081,193710244,581130733,67868514973264,67791805716442,67802266069645,67830160344853,67924303523680,5929276873900,2540122436128,4234699655014,0xac970cc4721]
theorem EX(x y:eG):aN av 453 [.agg x.ds,.agg y.ds] (rB (pZ x y)):=by
  refine pO func453 call453 ntmps453 results453 λS=>?_;conv=>whnf
  repeat'(first|refine awz ?_|refine tB ?_ ?_|(intro h;conv=>whnf))
  all_goals
    refine bE ?_;first
      |(simp_all[pZ];done)
      |(simp_all[pZ];omega)
theorem yo(x y:eG):aN av 456 [.agg x.ds,.agg y.ds] (rB (pZ x y)):=by
  refine pO func456 call456 ntmps456 results456 λS=>?_;conv=>whnf
  repeat'(first|refine awz ?_|refine tB ?_ ?_|(intro h;conv=>whnf))
  all_goals
    refine bE ?_;first
      |(simp_all[pZ];done)
      |(simp_all[pZ];omega)
def jV(l:List eG):Bool:=decide (l.length<=8)&&l.all kA&&hE pZ l&&fH u9 l
theorem E6(j:jr):gF j=(aJ j.index 0 2000&&tOk j.time&&(j.holder==0||ft j.holder)&&aJ j.epoch 0 1000&&aJ j.til 0 1001000&&jV j.opens):=by simp only[gF,jV,Bool.and_assoc]
theorem CB(h:¬l.length<=8):jV l=false:=by simp[jV,h]
theorem yg(hk:k<l.length)(h:cC kA pZ l k hk=false):jV l=false:=by
  rcases Bool.and_eq_false_iff.1 (pQ hk h)with h|h<;>simp only[jV,h,Bool.and_false,Bool.false_and]
theorem CA{j:Nat}(hj:j<k)(hk:k<l.length)(h:(l[j]'(ac)).id=l[k].id):jV l=false:=by
  have:=uM (R:=u9) hj hk (by simp[u9,h]);simp only[jV,this,Bool.and_false]
theorem CC(h:l.length<=8)(hc:(l.all kA&&hE pZ l)=true)(hd:fH u9 l=true):jV l=true:=by
  rw[Bool.and_eq_true]at hc;simp only[jV,h,hc.1,hc.2,hd,decide_true,Bool.and_self]
theorem Ka(hk:k<l.length)(h:decide (l[k].id∈(l.take k).map (·.id))=true):jV l=false:=by
  obtain⟨m,hm,e⟩:=List.mem_map.1 (of_decide_eq_true h);obtain⟨j,hj,rfl⟩:=List.getElem_of_mem hm;simp at hj e;exact CA (j:=j) ac hk e
theorem UU(hk:k<l.length)(h:decide (l[k].id∈(l.take k).map (·.id))=false){i:Nat}(hi:i<k):u9 (l[i]'(ac)) l[k]=false:=by
  have:=of_decide_eq_false h;simp only[u9,beq_eq_false_iff_ne,ne_eq];intro e;refine this (List.mem_map.2 ⟨l[i],?_,e⟩);rw[List.mem_take_iff_getElem];exact⟨i,ac,rfl⟩
theorem Vw(hlt:k<l.length):((l.take k).map (·.id))++[l[k].id]=(l.take (k+1)).map (·.id):=(ir (λm:eG=>m.id) hlt).symm
theorem UF{n:Int}(h:(!aJ n 1 20)=false):(Lit.int .i64 n).wf=true:=GB h ai ai
theorem ER(j:jr):aN av 391 [.agg j.ds] (rB (gF j)):=by
  rw[E6];refine pO func391 call391 ntmps391 results391 λS=>?_;conv=>whnf
  repeat'((first|refine awz ?_|refine abl rfl rfl ?_|refine cP (ba _ _ _) ?_|refine cP (dM _) ?_|refine cP (cO _) ?_|refine tB ?_ ?_|intro h)<;>conv=>whnf)
  all_goals first
    |(refine bE ?_;simp_all[tOk];done)
    |(refine bE ?_;rw[CB ari,Bool.and_false];done)
    |skip
  all_goals
    have h1:j.opens.length<=8:=ari;have hpre:(aJ j.index 0 2000&&tOk j.time&&(j.holder==0||ft j.holder)&&aJ j.epoch 0 1000&&aJ j.til 0 1001000)=true:=by simp_all[tOk]
    rw[hpre,Bool.true_and];clear hpre;refine aaK (λk:Nat=>k<=j.opens.length/\(∀(q:Nat) (hj:q<k) (hl:q<j.opens.length),cC kA pZ j.opens q hl=true)/\∀(i q:Nat) (hi:i<q) (hj:q<k) (hl:q<j.opens.length),u9 (j.opens[i]'(ac)) j.opens[q]=false) (2::4::5::rg 47 40) (λk=>[(47,vI .i64 (k:Int))]) (λk=>[(43,ji Tryz.prog 2 k (lN ((j.opens.take k).map (·.id)))),(1,.cells 52 (j.ds.map .d))]) (λk=>j.opens.length-k) 0 ⟨ac,ac,ac⟩ ?_ sbW (λk hR=>?_)<;>(conv=>whnf)
    · exact whd
    · obtain⟨hk,hall,hdup⟩:=hR;repeat'((first|refine awz ?_|refine aaJ aM 9 27 tF tU ae ae ae rfl ?_|refine aaO ari (λhlt=>?_)|refine aa3 ari ari (λhpv=>?_)|refine aaH (n:=_-_) ari ari ?_|refine aaH ari ari ?_|refine cP (w3 _) ?_|refine cP (dM _) ?_|refine cP (EX _ _) ?_|refine abt (id:=43) (N:=k) rfl rfl rfl rfl (UF aj) ?_|refine abq (id:=43) (N:=k) rfl ac rfl rfl rfl (UF aj) ?_|refine tB ?_ ?_|intro h)<;>conv=>whnf)
      all_goals first
        |(rw[yg (k:=k) ari (by first|(refine bX _ ?_;simp_all[kA,tOk];done)|(rw[bq _ ari];simp_all[kA,tOk];done)|(rw[bu _ ari];simp_all[kA,tOk];done)|(exfalso;assumption))];done)
        |(rw[Ka (k:=k) ari aj];done)
        | (refine a8.mk ⟨k + 1, ⟨ari, fU hall ari (by first | (refine bX _ ?_; simp_all [kA, tOk]; done) | (rw [bq _ ari]; simp_all [kA, tOk]; done) | (rw [bu _ ari]; simp_all [kA, tOk]; done) | (exfalso; assumption)), sH ari hdup fun i hi => UU ari aj hi⟩, ari, ?_, aaC (congrArg some (congrArg (fun l => ji Tryz.prog 2 (k + 1) (lN l)) (Vw ari))) sbW⟩
           exact hds)
        |(rw[CC h1 (iz hall ari) (wP ari hdup)])
theorem Gc(l:List eG):aN av 415 [.one (.sl (l.map eG.ds))] (rB (jV l)):=by
  refine pO func415 call415 ntmps415 results415 λS=>?_;conv=>whnf
  repeat'(first|refine awz ?_|refine tB ?_ ?_|(intro h;conv=>whnf))
  · rw[CB ari]
  · have h1:l.length<=8:=ari;clear h;refine aaK (λk:Nat=>k<=l.length/\(∀(j:Nat) (hj:j<k) (hl:j<l.length),cC kA pZ l j hl=true)/\∀(i j:Nat) (hi:i<j) (hj:j<k) (hl:j<l.length),u9 (l[i]'(ac)) l[j]=false) (2::3::4::rg 8 55) (λk=>[(3,vI .i64 (k:Int))]) (λk=>[]) (λk=>l.length-k) 0 ⟨ac,ac,ac⟩ ?_ aaE (λk hR=>?_)<;>(conv=>whnf)
    · exact whd
    · obtain⟨hk,hall,hdup⟩:=hR;repeat'((first|refine awz ?_|refine aaJ aM 6 29 tG tV ae ae ae rfl ?_|refine aaO ari (λhlt=>?_)|refine aa3 ari ari (λhpv=>?_)|refine aaH (n:=_-_) ari ari ?_|refine cP (Dx _) ?_|refine cP (db _) ?_|refine cP (yo _ _) ?_|refine tB ?_ ?_|intro h)<;>conv=>whnf)
      all_goals first
        |(rw[yg (k:=k) ari (by first|(refine bX _ ?_;simp_all[kA,tOk];done)|(rw[bq _ ari];simp_all[kA,tOk];done)|(rw[bu _ ari];simp_all[kA,tOk];done)|(exfalso;assumption))];done)
        |(rw[CC h1 (iz hall ari) (wP ari hdup)];done)
        |skip
      all_goals
        have hkl:k<l.length:=ari;have hch:cC kA pZ l k hkl=true:=(by first|(refine bX _ ?_;simp_all[kA,tOk];done)|(rw[bq _ ari];simp_all[kA,tOk];done)|(rw[bu _ ari];simp_all[kA,tOk];done)|(exfalso;assumption));refine aaK (λq:Nat=>q<=k/\∀(i:Nat) (hi:i<q) (hik:i<k),u9 (l[i]'(ac)) l[k]=false) (2::4::rg 47 16) (λq=>[(4,vI .i64 (q:Int))]) (λ_=>[]) (λq=>k-q) 0 ⟨ac,ac⟩ ?_ aaE (λq hQ=>?_)<;>(conv=>whnf)
        · exact whd
        · obtain⟨hq,hno⟩:=hQ;repeat'((first|refine awz ?_|refine aaJ aM 11 10 lG lI ae ae ae rfl ?_|refine aaO (k:=q) ari (λhqt=>?_)|refine aaO (k:=k) ari (λhlt=>?_)|refine aaH ari ari ?_|refine tB ?_ ?_|intro h)<;>conv=>whnf)
          all_goals first
            |(rw[CA (j:=q) (k:=k) ari ari (by simpa using h)];done)
            | (have hjq : ∀ hqk : q < k, u9 (l[q]'(ac)) l[k] = false := fun hqk => h
               refine a8.mk ⟨q+1,⟨ari,λi hi hik=>?_⟩,ari,?_,aaE⟩
               · by_cases hiq:i=q
                 · subst hiq;exact hjq hik
                 · exact hno i ac hik
               · exact hds)
            | (refine a8.mk ⟨k + 1, ⟨ari, fU hall ari hch, sH ari hdup fun i hi => hno i ari hi⟩, ari, ?_, aaE⟩
               exact hds)
theorem lY(j:jr):aN av 338 [.agg j.ds] (rB (gF j)):=by
  rw[E6];refine pO func338 call338 ntmps338 results338 λS=>?_;conv=>whnf
  repeat'((first|refine awz ?_|refine cP (aQ _ _ _) ?_|refine cP (db _) ?_|refine cP (CZ _) ?_|refine cP (Gc j.opens) ?_|refine tB ?_ ?_|intro h)<;>conv=>whnf)
  all_goals
    refine bE ?_;simp_all[tOk]
theorem H2(v:iK):aN av 289 [.agg v.ds] (rB (gF v.jobs)):=by
  refine pO func289 call289 ntmps289 results289 λS=>?_;conv=>whnf
  repeat'(first|refine awz ?_|(refine cP (ER v.jobs) ?_;conv=>whnf)|exact rr|fail)
theorem l0(v:iK):aN av 244 [.agg v.ds] (rB (gF v.jobs)):=by
  refine pO func244 call244 ntmps244 results244 λS=>?_;conv=>whnf
  repeat'(first|refine awz ?_|(refine cP (lY v.jobs) ?_;conv=>whnf)|exact rr|fail)
theorem EU(s:cr):aN av 201 [.agg s.ds] (rB (dG s)):=by
  refine pO func201 call201 ntmps201 results201 λS=>?_;conv=>whnf
  repeat'((first|refine awz ?_|refine cP (cO _) ?_|refine cP (ba _ _ _) ?_|refine cP (H2 s.view) ?_|refine cP (wZ s.op) ?_|refine aaW (p5 s.op op0) rfl rfl rfl rfl rfl ?_|refine tB ?_ ?_|intro h)<;>conv=>whnf)
  all_goals
    refine bE ?_;first
      |(simp_all[dG];done)
      |(simp_all[dG,aJ];omega)
      | (have hb := HK (x := s.seq) aj
         simp_all[dG];rw[Bool.eq_iff_iff];simp;omega)
theorem kb(s:cr):aN av 155 [.agg s.ds] (rB (dG s)):=by
  refine pO func155 call155 ntmps155 results155 λS=>?_;conv=>whnf
  repeat'((first|refine awz ?_|refine cP (dp _) ?_|refine cP (aQ _ _ _) ?_|refine cP (l0 s.view) ?_|refine cP (iQ s.op) ?_|refine aaW (p5 s.op op0) rfl rfl rfl rfl rfl ?_|refine tB ?_ ?_|intro h)<;>conv=>whnf)
  all_goals
    refine bE ?_;first
      |(simp_all[dG];done)
      |(simp_all[dG,aJ];omega)
      | (have hb := HK (x := s.seq) aj
         simp_all[dG];rw[Bool.eq_iff_iff];simp;omega)
end Go.Proofs.YthgkdhnlehneeaaGreatDoor
