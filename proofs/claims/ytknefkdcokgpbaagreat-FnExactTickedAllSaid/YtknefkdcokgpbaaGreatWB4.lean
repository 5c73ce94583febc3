/- WB4 -/
import Derived.Test.YtknefkdcokgpbaaGreatAwx
import Derived.Test.YtknefkdcokgpbaaGreatWA4
set_option maxHeartbeats 8000000
set_option linter.unusedVariables false
set_option linter.unusedSimpArgs false
set_option maxRecDepth 100000
namespace Go.Proofs.YtknefkdcokgpbaaGreat
open Go.Proofs.Tryz
open Go.ChangeShapes Go.WideShapes Go.RowKit
variable {l:List DDue}{k:Nat}
def re:List (List Nat):=bZ [0,1,129,12354,1056835,84676740,6510088389,486455648518,35601017745735,0x50c1084247188,0x2881872440810c5,0xb1430421091c620a,0xb1430421091c620a,0x34a2061c910204314b,0x30a2061c910204314b38d,0xb1430421091c620a3cd38c,0x40c38d3ca2061c910204314b,0x112c50c108424718828f34e310,0x49030e34f2881872440810c52d1,0x1344b1430421091c620a3cd38c412,0x51240c38d3ca2061c910204314b453,0x154d12c50c108424718828f34e310494,0x51240c38d3ca2061c910204314b453,0x174d12c50c108424718828f34e310494,0x59449030e34f2881872440810c52d14d5617,0x195d855344b1430421091c620a3cd38c412516,0x51240c38d3ca2061c910204314b453,0x1a59449030e34f2881872440810c52d14d561765b,0x71b6576154d12c50c108424718828f34e31049459a,0x1449030e34f2881872440810c52d14dd6965585d96dc,0x44b1430421091c620a3cd38c41e71b65761559a753494]
def ry:List (List Nat):=fB 27 [0,1,4,13,40,121,364,1093,3280,9841,29524,4340101,442867,974308,2391484,7174453,21523360,64570081,193710244,581130733,5336523525730,5340010310131,5113369324066,5144750383675,5224946424898,5507375961379,2540122436128]
def rf:List (List Nat):=bZ [0,0,66,12417,1052803,84680772,6509830341,486455906566,35601001230663,35601001230663,0x24714308110620a,0xb2881840420c51c9,0x3091c50c204418828b,0xd2ca20610108314724c,0x38c24714308110620a2cd,0x81840420c51cf34b28930e,0x40e30928b34f1c50c2044188,0x112061010831473cd2ca24c390,0x49038c24a2cd3c7143081106211,0x134481840420c51cf34b28930e412,0x51240e30928b34f1c50c2044188453,0x51240e30928b34f1c50c2044188453,0x164d12061010831473cd2ca24c390494,0x154d12061010831473cd2ca24c3904945d6,0x6165d449038c24a2cd3c71430811062114d5,0x51240e30928b34f1c50c2044188453,0x51240e30928b34f1c50c2044188453,0x6934481840420c51cf34b28930e41251b,0x1c6d449038c24a2cd3c71430811062114da,0x195534481840420c51cf34b28930e41251759875a6dc,0x79c6da75859751240e30928b34f1c50c2044188453559,0x1449038c24a2cd3c71430811062114df6555d661d69b71e,0x4481840420c51cf34b28930e42079c6da7585975597d3494]
def rz:List (List Nat):=fB 29 [6,2,4,13,40,121,364,1093,42646,16402,29524,88573,265720,797161,2391484,7174453,21523360,64570081,193710244,581130733,67868514973264,67791805716442,67802266069645,67830160344853,67924303523680,5929276873900,2540122436128,4234699655014,0xac970cc4721]
theorem B6(x y:DDue):aM av 485 [.agg x.ds,.agg y.ds] (rB (oX x y)):=by
  refine pO func485 call485 ntmps485 results485 λS=>?_;conv=>whnf
  repeat'(first|refine awz ?_|refine tB ?_ ?_|(intro h;conv=>whnf))
  all_goals
    refine bJ ?_;first
      |(simp_all[oX];done)
      |(simp_all[oX];omega)
theorem vo(x y:DDue):aM av 458 [.agg x.ds,.agg y.ds] (rB (oX x y)):=by
  refine pO func458 call458 ntmps458 results458 λS=>?_;conv=>whnf
  repeat'(first|refine awz ?_|refine tB ?_ ?_|(intro h;conv=>whnf))
  all_goals
    refine bJ ?_;first
      |(simp_all[oX];done)
      |(simp_all[oX];omega)
def jy(l:List DDue):Bool:=decide (l.length<=8)&&l.all jo&&jh oX l&&eT sK l
theorem Ca(j:DJobs):eE j=(aK j.index 0 2000&&tOk j.time&&(j.holder==0||d8 j.holder)&&aK j.epoch 0 1000&&aK j.til 0 1001000&&jy j.opens):=by simp only[eE,jy,Bool.and_assoc]
theorem zg(h:¬l.length<=8):jy l=false:=by simp[jy,h]
theorem vk(hk:k<l.length)(h:cu jo oX l k hk=false):jy l=false:=by
  rcases Bool.and_eq_false_iff.1 (oR hk h)with h|h<;>simp only[jy,h,Bool.and_false,Bool.false_and]
theorem zf{j:Nat}(hj:j<k)(hk:k<l.length)(h:(l[j]'(ac)).id=l[k].id):jy l=false:=by
  have:=sq (R:=sK) hj hk (by simp[sK,h]);simp only[jy,this,Bool.and_false]
theorem zh(h:l.length<=8)(hc:(l.all jo&&jh oX l)=true)(hd:eT sK l=true):jy l=true:=by
  rw[Bool.and_eq_true]at hc;simp only[jy,h,hc.1,hc.2,hd,decide_true,Bool.and_self]
theorem Hv(hk:k<l.length)(h:decide (l[k].id∈(l.take k).map (·.id))=true):jy l=false:=by
  obtain⟨m,hm,e⟩:=List.mem_map.1 (of_decide_eq_true h);obtain⟨j,hj,rfl⟩:=List.getElem_of_mem hm;simp at hj e;exact zf (j:=j) ac hk e
theorem RP(hk:k<l.length)(h:decide (l[k].id∈(l.take k).map (·.id))=false){i:Nat}(hi:i<k):sK (l[i]'(ac)) l[k]=false:=by
  have:=of_decide_eq_false h;simp only[sK,beq_eq_false_iff_ne,ne_eq];intro e;refine this (List.mem_map.2 ⟨l[i],?_,e⟩);rw[List.mem_take_iff_getElem];exact⟨i,ac,rfl⟩
theorem SV(hlt:k<l.length):((l.take k).map (·.id))++[l[k].id]=(l.take (k+1)).map (·.id):=(dn (λm:DDue=>m.id) hlt).symm
theorem RF{n:Int}(h:(!aK n 1 20)=false):(Lit.int .i64 n).wf=true:=Dx h ah ah
theorem BT(j:DJobs):aM av 468 [.agg j.ds] (rB (eE j)):=by
  rw[Ca];refine pO func468 call468 ntmps468 results468 λS=>?_;conv=>whnf
  repeat'((first|refine awz ?_|refine Zb rfl rfl ?_|refine cP (be _ _ _) ?_|refine cP (da _) ?_|refine cP (gx _) ?_|refine tB ?_ ?_|intro h)<;>conv=>whnf)
  all_goals first
    |(refine bJ ?_;simp_all[tOk];done)
    |(refine bJ ?_;rw[zg ari,Bool.and_false];done)
    |skip
  all_goals
    have h1:j.opens.length<=8:=ari;have hpre:(aK j.index 0 2000&&tOk j.time&&(j.holder==0||d8 j.holder)&&aK j.epoch 0 1000&&aK j.til 0 1001000)=true:=by simp_all[tOk]
    rw[hpre,Bool.true_and];clear hpre;refine X5 (λk:Nat=>k<=j.opens.length/\(∀(q:Nat) (hj:q<k) (hl:q<j.opens.length),cu jo oX j.opens q hl=true)/\∀(i q:Nat) (hi:i<q) (hj:q<k) (hl:q<j.opens.length),sK (j.opens[i]'(ac)) j.opens[q]=false) (2::4::5::rg 47 40) (λk=>[(47,vI .i64 (k:Int))]) (λk=>[(43,jc Tryz.prog 2 k (kU ((j.opens.take k).map (·.id)))),(1,.cells 90 (j.ds.map .d))]) (λk=>j.opens.length-k) 0 ⟨ac,ac,ac⟩ ?_ sbW (λk hR=>?_)<;>(conv=>whnf)
    · exact whd
    · obtain⟨hk,hall,hdup⟩:=hR;repeat'((first|refine awz ?_|refine X9 aN 9 27 re ry ae ae ae rfl ?_|refine Yc ari (λhlt=>?_)|refine YJ ari ari (λhpv=>?_)|refine X3 (n:=_-_) ari ari ?_|refine X3 ari ari ?_|refine cP (uc _) ?_|refine cP (da _) ?_|refine cP (B6 _ _) ?_|refine Zp (id:=43) (N:=k) rfl rfl rfl rfl (RF ai) ?_|refine Zk (id:=43) (N:=k) rfl ac rfl rfl rfl (RF ai) ?_|refine tB ?_ ?_|intro h)<;>conv=>whnf)
      all_goals first
        |(rw[vk (k:=k) ari (by first|(refine bU _ ?_;simp_all[jo,tOk];done)|(rw[bo _ ari];simp_all[jo,tOk];done)|(rw[br _ ari];simp_all[jo,tOk];done)|(exfalso;assumption))];done)
        |(rw[Hv (k:=k) ari ai];done)
        | (refine bd.mk ⟨k + 1, ⟨ari, fm hall ari (by first | (refine bU _ ?_; simp_all [jo, tOk]; done) | (rw [bo _ ari]; simp_all [jo, tOk]; done) | (rw [br _ ari]; simp_all [jo, tOk]; done) | (exfalso; assumption)), qG ari hdup fun i hi => RP ari ai hi⟩, ari, ?_, X0 (congrArg some (congrArg (fun l => jc Tryz.prog 2 (k + 1) (kU l)) (SV ari))) sbW⟩
           exact hds)
        |(rw[zh h1 (iy hall ari) (tX ari hdup)])
theorem C5(l:List DDue):aM av 407 [.one (.sl (l.map DDue.ds))] (rB (jy l)):=by
  refine pO func407 call407 ntmps407 results407 λS=>?_;conv=>whnf
  repeat'(first|refine awz ?_|refine tB ?_ ?_|(intro h;conv=>whnf))
  · rw[zg ari]
  · have h1:l.length<=8:=ari;clear h;refine X5 (λk:Nat=>k<=l.length/\(∀(j:Nat) (hj:j<k) (hl:j<l.length),cu jo oX l j hl=true)/\∀(i j:Nat) (hi:i<j) (hj:j<k) (hl:j<l.length),sK (l[i]'(ac)) l[j]=false) (2::3::4::rg 8 55) (λk=>[(3,vI .i64 (k:Int))]) (λk=>[]) (λk=>l.length-k) 0 ⟨ac,ac,ac⟩ ?_ X4 (λk hR=>?_)<;>(conv=>whnf)
    · exact whd
    · obtain⟨hk,hall,hdup⟩:=hR;repeat'((first|refine awz ?_|refine X9 aN 6 29 rf rz ae ae ae rfl ?_|refine Yc ari (λhlt=>?_)|refine YJ ari ari (λhpv=>?_)|refine X3 (n:=_-_) ari ari ?_|refine cP (z6 _) ?_|refine cP (ew _) ?_|refine cP (vo _ _) ?_|refine tB ?_ ?_|intro h)<;>conv=>whnf)
      all_goals first
        |(rw[vk (k:=k) ari (by first|(refine bU _ ?_;simp_all[jo,tOk];done)|(rw[bo _ ari];simp_all[jo,tOk];done)|(rw[br _ ari];simp_all[jo,tOk];done)|(exfalso;assumption))];done)
        |(rw[zh h1 (iy hall ari) (tX ari hdup)];done)
        |skip
      all_goals
        have hkl:k<l.length:=ari;have hch:cu jo oX l k hkl=true:=(by first|(refine bU _ ?_;simp_all[jo,tOk];done)|(rw[bo _ ari];simp_all[jo,tOk];done)|(rw[br _ ari];simp_all[jo,tOk];done)|(exfalso;assumption));refine X5 (λq:Nat=>q<=k/\∀(i:Nat) (hi:i<q) (hik:i<k),sK (l[i]'(ac)) l[k]=false) (2::4::rg 47 16) (λq=>[(4,vI .i64 (q:Int))]) (λ_=>[]) (λq=>k-q) 0 ⟨ac,ac⟩ ?_ X4 (λq hQ=>?_)<;>(conv=>whnf)
        · exact whd
        · obtain⟨hq,hno⟩:=hQ;repeat'((first|refine awz ?_|refine X9 aN 11 10 kN kQ ae ae ae rfl ?_|refine Yc (k:=q) ari (λhqt=>?_)|refine Yc (k:=k) ari (λhlt=>?_)|refine X3 ari ari ?_|refine tB ?_ ?_|intro h)<;>conv=>whnf)
          all_goals first
            |(rw[zf (j:=q) (k:=k) ari ari (by simpa using h)];done)
            | (have hjq : ∀ hqk : q < k, sK (l[q]'(ac)) l[k] = false := fun hqk => h
               refine bd.mk ⟨q+1,⟨ari,λi hi hik=>?_⟩,ari,?_,X4⟩
               · by_cases hiq:i=q
                 · subst hiq;exact hjq hik
                 · exact hno i ac hik
               · exact hds)
            | (refine bd.mk ⟨k + 1, ⟨ari, fm hall ari hch, qG ari hdup fun i hi => hno i ari hi⟩, ari, ?_, X4⟩
               exact hds)
theorem CU(j:DJobs):aM av 326 [.agg j.ds] (rB (eE j)):=by
  rw[Ca];refine pO func326 call326 ntmps326 results326 λS=>?_;conv=>whnf
  repeat'((first|refine awz ?_|refine cP (bg _ _ _) ?_|refine cP (ew _) ?_|refine cP (zA _) ?_|refine cP (C5 j.opens) ?_|refine tB ?_ ?_|intro h)<;>conv=>whnf)
  all_goals
    refine bJ ?_;simp_all[tOk]
theorem ub(v:DView):aM av 420 [.agg v.ds] (rB (eE v.jobs)):=by
  refine pO func420 call420 ntmps420 results420 λS=>?_;conv=>whnf
  repeat'(first|refine awz ?_|(refine cP (BT v.jobs) ?_;conv=>whnf)|exact rr|fail)
theorem ut(v:DView):aM av 231 [.agg v.ds] (rB (eE v.jobs)):=by
  refine pO func231 call231 ntmps231 results231 λS=>?_;conv=>whnf
  repeat'(first|refine awz ?_|(refine cP (CU v.jobs) ?_;conv=>whnf)|exact rr|fail)
theorem qb(s:DSched):aM av 355 [.agg s.ds] (rB (d9 s)):=by
  refine pO func355 call355 ntmps355 results355 λS=>?_;conv=>whnf
  repeat'((first|refine awz ?_|refine cP (gx _) ?_|refine cP (be _ _ _) ?_|refine cP (ub s.view) ?_|refine cP (qa s.op) ?_|refine YF (oZ s.op op0) rfl rfl rfl rfl rfl ?_|refine tB ?_ ?_|intro h)<;>conv=>whnf)
  all_goals
    refine bJ ?_;first
      |(simp_all[d9];done)
      |(simp_all[d9,aK];omega)
      | (have hb := EE (x := s.seq) ai
         simp_all[d9];rw[Bool.eq_iff_iff];simp;omega)
theorem qy(s:DSched):aM av 137 [.agg s.ds] (rB (d9 s)):=by
  refine pO func137 call137 ntmps137 results137 λS=>?_;conv=>whnf
  repeat'((first|refine awz ?_|refine cP (pz _) ?_|refine cP (bg _ _ _) ?_|refine cP (ut s.view) ?_|refine cP (lx s.op) ?_|refine YF (oZ s.op op0) rfl rfl rfl rfl rfl ?_|refine tB ?_ ?_|intro h)<;>conv=>whnf)
  all_goals
    refine bJ ?_;first
      |(simp_all[d9];done)
      |(simp_all[d9,aK];omega)
      | (have hb := EE (x := s.seq) ai
         simp_all[d9];rw[Bool.eq_iff_iff];simp;omega)
end Go.Proofs.YtknefkdcokgpbaaGreat
