/- WB6 -/
import Derived.Test.YthgkdhnlehneeaaGreatDoorAwx
import Derived.Test.YthgkdhnlehneeaaGreatDoorWB3
import Derived.Test.YthgkdhnlehneeaaGreatDoorWB4
set_option maxHeartbeats 8000000
set_option linter.unusedVariables false
set_option linter.unusedSimpArgs false
set_option maxRecDepth 100000
namespace Go.Proofs.YthgkdhnlehneeaaGreatDoor
open Go.Proofs.Tryz
open Go.ChangeShapes Go.WideShapes Go.RowKit
variable {b:Bool}{k:Nat}{c:bp}
def nJ:List (List Nat):=bC [0,1,129,12354,1056835,84676740,1056835,416645656903,17730751197510,0x91851c80c1084,0x2840810c81c5189,0xb24614720304210a,0x30a10204320714624b,0xa10204320714624d2cc,0x38c2cd24614720304210a,0xf2840810c81c518934b30e,0x40e30b3491851c80c108428f,0x113ca10204320714624d2cc390,0x3ca10204320714624d2cc392411,0x1345048e30b3491851c80c108428f,0x50f2840810c81c518934b30e490453,0x154d141238c2cd24614720304210a3d4,0x5943ca10204320714624d2cc3924114d5,0x143ca10204320714624d2cc3924114d7556,0x6165574d141238c2cd24614720304210a3d4]
def nL:List (List Nat):=dW 7 [0,1,4,13,1498,1579,688]
def u6:List (List Nat):=bC [0,1,129,12354,1056835,84676740,6510088389,486455648518,84676740,9731313861,692614078729,0x81840810c51cb24a,0x14304210c2892c7188,0xd2061cb24a3040810c5,0x3850c108430a24b1c620d,0xf3481872c928c10204314e,0x40e14304210c2892c718834f,0xe14304210c2892c71883513d0,0x4903d13481872c928c10204314e,0x133850c108430a24b1c620d44f412,0x51240f44d2061cb24a3040810c5393,0x154ce14304210c2892c71883513d0494,0x4ce14304210c2892c71883513d0496515,0x1755459240f44d2061cb24a3040810c5393]
def vq:List (List Nat):=dW 11 [0,1,4,13,40,170707,170950,171679,6439,13000,32683]
def rj:List (List Nat):=bC [0,1,0,8259,1060930,0,0,7,0,0x50810c41881c9,0x2891c81840c1085]
def rv:List (List Nat):=dW 9 [19458,19459,19448,19453,19480,19196,13850,14579,6560]
def pX:List (List Nat):=bC [0,1,0,8259,1060930,0,6,0,29064,2392455,0,11,0,0x50810c428718824c2cd,0x38d2cc2481872840c1085]
def qc:List (List Nat):=dW 13 [1594098,1594099,1594088,1594093,1594120,1539890,1540133,1537460,1538675,1545236,1121930,1180979,531440]
theorem Nj{a b:bK}:a=b↔(a.disk=b.disk/\a.state=b.state/\a.num=b.num/\a.last=b.last/\a.busy=b.busy):=by
  cases a;cases b;simp[bK.mk.injEq]
theorem Sy:bB fT=true:=by decide
theorem V2(s:bf):(bB s&&bB fT&&decide (s=fT))=decide (s=fT):=by
  by_cases h:s=fT
  · simp[h,Sy]
  · simp[h]
theorem sZ(s:bK)(hs:s.state.pairs.length<=9223372036854775806)(hj:s.state.jobs.length<=9223372036854775806):aN av 154 [.agg s.ds] (rB (fQ s)):=by
  refine pO func154 call154 ntmps154 results154 λS=>?_;conv=>whnf
  repeat'((first|refine awz ?_|refine aaJ aM 1 7 nJ nL ae ae ae rfl ?_|refine cP (dz s.disk) ?_|refine cP (CT) ?_|refine cP (Ax s.state fT hs ai hj) ?_|refine tB ?_ ?_|intro h)<;>conv=>whnf)
  all_goals
    refine bE ?_;try simp only[V2]at*
    rw[Bool.eq_iff_iff];simp[fQ,Nj];simp_all
theorem C1(s:bK)(up:Bool)(hs:s.state.pairs.length<=9223372036854775806)(hj:s.state.jobs.length<=9223372036854775806):aN av 96 [.agg s.ds,.one (dB up)] (rB (if up then storeOk s else fQ s)):=by
  refine pO func96 call96 ntmps96 results96 λS=>?_;conv=>whnf
  repeat'((first|refine awz ?_|refine cP (ip s hs) ?_|refine cP (sZ s hs hj) ?_|refine tB ?_ ?_|intro h)<;>conv=>whnf)
  all_goals
    refine bE ?_;simp_all
theorem H3(w:dD):aN av 287 [.agg w.ds] (rB (eL w)):=by
  refine pO func287 call287 ntmps287 results287 λS=>?_;conv=>whnf
  repeat'((first|refine awz ?_|refine cP (wZ w.op) ?_|refine cP (mA _) ?_|refine aaW (p5 w.op op0) rfl rfl rfl rfl rfl ?_|refine tB ?_ ?_|intro h)<;>conv=>whnf)
  all_goals
    refine bE ?_;simp_all[eL,op0]
def l13(k:Int):Int:=if k==1 then 1 else if k==2 then 2 else if k==3 then 3 else 0
theorem Nc(k:Int):aN av 247 [.one (dI k)] (.val (pI (l13 k))):=by
  refine pO func247 call247 ntmps247 results247 λS=>?_;conv=>whnf
  repeat'(first|refine awz ?_|refine tB ?_ ?_|(intro h;conv=>whnf))
  all_goals simp_all[l13]
theorem IO(w:dD):aN av 157 [.agg w.ds] (rB (eL w)):=by
  refine pO func157 call157 ntmps157 results157 λS=>?_;conv=>whnf
  repeat'((first|refine awz ?_|refine aaJ aM 3 11 u6 vq ae ae ae rfl ?_|refine cP (iQ w.op) ?_|refine cP (qG _) ?_|refine cP (Nc w.kind) ?_|refine aaW (p5 w.op op0) rfl rfl rfl rfl rfl ?_|refine tB ?_ ?_|intro h)<;>conv=>whnf)
  all_goals
    refine bE ?_;first
      |(simp_all[eL,op0,l13];done)
      |(by_cases k1:w.kind=1<;>by_cases k2:w.kind=2<;>by_cases k3:w.kind=3<;>simp_all[eL,op0,l13])
theorem EY(a b:Int):aN av 288 [.one (dI a),.one (dI b)] (rB ((a==0&&b==0)||(a==1&&aJ b 0 999))):=by
  refine pO func288 call288 ntmps288 results288 λS=>?_;conv=>whnf
  repeat'((first|refine awz ?_|refine cP (iY _) ?_|refine tB ?_ ?_|intro h)<;>conv=>whnf)
  all_goals
    refine bE ?_;simp_all
theorem LP(w:dD)(g:pz)(q l:Int):aN av 200 [.agg w.ds,.agg g.ds,.one (dI q),.one (dI l)] (rB (mR w g q l)):=by
  refine pO func200 call200 ntmps200 results200 λS=>?_;conv=>whnf
  repeat'((first|refine awz ?_|refine cP (ba _ _ _) ?_|refine cP (EY _ _) ?_|refine tB ?_ ?_|intro h)<;>conv=>whnf)
  all_goals
    refine bE ?_;first
      |(simp_all[mR];done)
      |(simp_all[mR];intros;omega)
theorem Ze(x:Int):aJ x 0 1=(x==0||x==1):=by
  rw[Bool.eq_iff_iff];simp[aJ];omega
theorem IP(w:dD)(g:pz)(q l:Int):aN av 158 [.agg w.ds,.agg g.ds,.one (dI q),.one (dI l)] (rB (mR w g q l)):=by
  refine pO func158 call158 ntmps158 results158 λS=>?_;conv=>whnf
  repeat'((first|refine awz ?_|refine cP (aQ _ _ _) ?_|refine cP (l6 _) ?_|refine tB ?_ ?_|intro h)<;>conv=>whnf)
  all_goals
    refine bE ?_;try simp only[Ze]at*
    first
      |(simp_all[mR];done)
      | (have e0 : aJ 0 0 999 = true := by decide
         rw[Bool.eq_iff_iff];simp_all[mR,aJ];omega)
theorem JS{α:Type}{l:List α}{d:α}(h:k<l.length):l.getD k d=l[k]:=by simp[List.getD_eq_getElem?_getD,h]
def clG(c:bp)(k:Nat):Bool:=mR (c.todo.getD k ⟨0,op0,0⟩) (c.gots.getD k ⟨0,0,0,0⟩) ((k:Int)+1) (im c.gots k)
theorem JG{l:Int}(h1:k<c.todo.length)(h2:k<c.gots.length)(hl:l=im c.gots k)(h:mR c.todo[k] c.gots[k] ((k:Int)+1) l=b):clG c k=b:=by
  rw[<-h,hl];simp only[clG,JS h1,JS h2]
theorem Ib(h2:k<c.gots.length):c.gots[k].index=im c.gots (k+1):=by
  simp only[im,JS h2]
theorem NY(h:((c.id==4||c.id==5)&&c.todo.all eL&&decide (c.todo.length<=12)&&decide (c.gots.length<=c.todo.length))=false):ci c=false:=by simp only[ci,h,Bool.false_and]
theorem EE(hk:k<c.gots.length)(h:clG c k=false):ci c=false:=by
  have:=UP (ok:=clG c) hk h;simp only[ci];unfold clG at this;rw[this];simp
theorem zw(h:((c.id==4||c.id==5)&&c.todo.all eL&&decide (c.todo.length<=12)&&decide (c.gots.length<=c.todo.length))=true)(ha:∀k,k<c.gots.length->clG c k=true)(hb:(c.last==im c.gots c.gots.length)=b):ci c=b:=by
  have:=K8 (ok:=clG c) ha;unfold clG at this;simp only[ci,h,this,hb,Bool.true_and]
theorem QK{p:Nat->Bool}(h:∀j,j<k->p j=true)(hk:p k=true):∀j,j<k+1->p j=true:=λj hj=>by
  rcases Nat.lt_succ_iff_lt_or_eq.1 hj with h1|h1
  · exact h j h1
  · rw[h1];exact hk
theorem H8(l:List dD)(hs:l.length<=9223372036854775806):aN av 199 [.one (.sl (l.map dD.ds))] (rB (l.all eL&&decide (l.length<=12))):=by
  refine pO func199 call199 ntmps199 results199 λS=>?_;conv=>whnf
  repeat'(first|refine awz ?_|fail)
  refine aaK (λk:Nat=>k<=l.length/\∀(j:Nat) (hj:j<k) (hl:j<l.length),eL l[j]=true) (2::4::rg 7 8) (λk=>[(7,vI .i64 (k:Int))]) (λ_=>[]) (λk=>l.length-k) 0 ⟨ac,ac⟩ ?_ aaE (λk hR=>?_)<;>(conv=>whnf)
  · exact whd
  · obtain⟨hk,hall⟩:=hR;repeat'((first|refine awz ?_|refine aaO ari (λhlt=>?_)|refine aaH ari ari ?_|refine cP (H3 l[k]) ?_|refine tB ?_ ?_|intro h)<;>conv=>whnf)
    all_goals first
      |(rw[q8 (k:=k) ari (by first|(simpa using h)|(exfalso;assumption)),Bool.false_and];done)
      | (refine a8.mk ⟨k + 1, ⟨ari, gJ hall ari ar⟩, ari, ?_, aaE⟩
         exact hds)
      |(rw[iM (p:=eL) hall ari,Bool.true_and];first|done|(refine bE ?_;simp;done)|(refine bE ?_;simp;omega))
def kv(c:bp):Bool:=(c.id==4||c.id==5)&&c.todo.all eL&&decide (c.todo.length<=12)&&decide (c.gots.length<=c.todo.length)
theorem OC(h:kv c=false):ci c=false:=NY h
theorem Uc(h:(!(c.todo.all eL&&decide (c.todo.length<=12)))=true):kv c=false:=by
  rw[Bool.not_eq_true']at h;rcases Bool.and_eq_false_iff.1 h with e|e<;>simp only[kv,e,Bool.and_false,Bool.false_and]
theorem oE(c:bp)(ht:c.todo.length<=9223372036854775806)(hg:c.gots.length<=9223372036854775806):aN av 135 [.agg c.ds] (rB (ci c)):=by
  refine pO func135 call135 ntmps135 results135 λS=>?_;conv=>whnf
  repeat'((first|refine awz ?_|refine cP (H8 c.todo ht) ?_|refine tB ?_ ?_|intro h)<;>conv=>whnf)
  all_goals first
    | (have hno : kv c = false := by (first | exact Uc aj | (simp_all [kv]; done) | (rw [← Bool.not_eq_true]; simp_all [kv]; done) | (rw [← Bool.not_eq_true]; simp_all [kv]; intros; omega) | (by_cases hw : c.todo.all eL = true <;> simp_all [kv] <;> intros <;> omega))
       rw[OC hno];done)
    |skip
  all_goals
    have hpre:kv c=true:=by(first|(simp_all[kv];done)|(simp_all[kv];omega))
    have hle:c.gots.length<=c.todo.length:=by simp only[kv,Bool.and_eq_true,decide_eq_true_iff]at hpre;exact hpre.2
    refine aaK (λg:Nat×Int=>g.1<=c.gots.length/\g.2=im c.gots g.1/\∀j,j<g.1->clG c j=true) (2::3::4::5::rg 32 19) (λg=>[(3,vI .i64 g.2),(32,vI .i64 (g.1:Int))]) (λ_=>[(1,.cells 62 (c.ds.map .d))]) (λg=>c.gots.length-g.1) (0,0) ⟨ac,rfl,ac⟩ ?_ sbW (λg hR=>?_)<;>(conv=>whnf)
    · exact whd
    · obtain⟨hk,hl,hall⟩:=hR;repeat'((first|refine awz ?_|refine aaJ aM 7 9 rj rv ae ae ae rfl ?_|refine aaO ari (λhlt=>?_)|refine aaH ari ari ?_|refine cP (LP c.todo[g.1] c.gots[g.1] _ _) ?_|refine tB ?_ ?_|intro h)<;>conv=>whnf)
      all_goals first
        |(rw[EE (k:=g.1) ari (JG ari ari hl (by first|(simpa using h)|(exfalso;assumption)))];done)
        | (refine a8.mk ⟨(g.1 + 1, c.gots[g.1].index), ⟨ari, Ib ari, QK hall (JG ari ari hl (by first | (simpa using h) | (exfalso; assumption)))⟩, ari, ?_, sbW⟩
           exact hds)
        | (have hkk : g.1 = c.gots.length := ari
           rw[zw hpre (λk hk'=>hall k ac) (by rw[<-hkk,<-hl])])
theorem fk(c:bp)(ht:c.todo.length<=9223372036854775806)(hg:c.gots.length<=9223372036854775806):aN av 98 [.agg c.ds] (rB (ci c)):=by
  refine pO func98 call98 ntmps98 results98 λS=>?_;conv=>whnf
  repeat'(first|refine awz ?_|refine tB ?_ ?_|(intro h;conv=>whnf))
  all_goals first
    | (have hno : kv c = false := by (first | (simp_all [kv]; done) | (rw [← Bool.not_eq_true]; simp_all [kv]; done) | (rw [← Bool.not_eq_true]; simp_all [kv]; intros; omega))
       rw[OC hno];done)
    |skip
  all_goals
    have hpre0:((c.id==4||c.id==5)&&decide (c.todo.length<=12)&&decide (c.gots.length<=c.todo.length))=true:=by(first|(simp_all;done)|(simp_all;omega))
    have hle:c.gots.length<=c.todo.length:=by simp only[Bool.and_eq_true,decide_eq_true_iff]at hpre0;exact hpre0.2
    refine aaK (λk:Nat=>k<=c.todo.length/\∀(j:Nat) (hj:j<k) (hl:j<c.todo.length),eL c.todo[j]=true) (2::3::rg 29 14) (λk=>[(3,vI .i64 (k:Int))]) (λ_=>[(1,.cells 62 (c.ds.map .d))]) (λk=>c.todo.length-k) 0 ⟨ac,ac⟩ ?_ sbW (λk hR=>?_)<;>(conv=>whnf)
    · exact whd
    · obtain⟨hk,hall⟩:=hR;repeat'((first|refine awz ?_|refine aaO ari (λhlt=>?_)|refine aaH ari ari ?_|refine cP (IO c.todo[k]) ?_|refine tB ?_ ?_|intro h)<;>conv=>whnf)
      all_goals first
        | (have hno:kv c=false:=by
             have:=q8 (p:=eL) (k:=k) ari (by first|(simpa using h)|(exfalso;assumption));simp only[kv,this,Bool.and_false,Bool.false_and]
           rw[OC hno];done)
        | (refine a8.mk ⟨k + 1, ⟨ari, gJ hall ari ar⟩, ari, ?_, sbW⟩
           exact hds)
        |skip
      have hpre:kv c=true:=by
        have e:=iM (p:=eL) hall ari;simp only[kv,e,Bool.and_true];exact hpre0
      refine aaK (λg:Nat×Int=>g.1<=c.gots.length/\g.2=im c.gots g.1/\∀j,j<g.1->clG c j=true) (2::4::5::rg 43 28) (λg=>[(4,vI .i64 g.2),(5,vI .i64 (g.1:Int))]) (λ_=>[(1,.cells 62 (c.ds.map .d))]) (λg=>c.gots.length-g.1) (0,0) ⟨ac,rfl,ac⟩ ?_ sbW (λg hR=>?_)<;>(conv=>whnf)
      · exact whd
      · obtain⟨hk,hl,hall⟩:=hR;repeat'((first|refine awz ?_|refine aaJ aM 12 13 pX qc ae ae ae rfl ?_|refine aaO ari (λhlt=>?_)|refine aaH ari ari ?_|refine cP (IP c.todo[g.1] c.gots[g.1] _ _) ?_|refine tB ?_ ?_|intro h)<;>conv=>whnf)
        all_goals first
          |(rw[EE (k:=g.1) ari (JG ari ari hl (by first|(simpa using h)|(exfalso;assumption)))];done)
          | (refine a8.mk ⟨(g.1 + 1, c.gots[g.1].index), ⟨ari, Ib ari, QK hall (JG ari ari hl (by first | (simpa using h) | assumption | (exfalso; assumption)))⟩, ari, ?_, sbW⟩
             exact hds)
          | (have hkk : g.1 = c.gots.length := ari
             rw[zw hpre (λk hk'=>hall k ac) (by rw[<-hkk,<-hl])])
end Go.Proofs.YthgkdhnlehneeaaGreatDoor
