/- WB6 -/
import Derived.Test.YtknefkdcokgpbaaGreatAwx
import Derived.Test.YtknefkdcokgpbaaGreatWB3
import Derived.Test.YtknefkdcokgpbaaGreatWB4
set_option maxHeartbeats 8000000
set_option linter.unusedVariables false
set_option linter.unusedSimpArgs false
set_option maxRecDepth 100000
namespace Go.Proofs.YtknefkdcokgpbaaGreat
open Go.Proofs.Tryz
open Go.ChangeShapes Go.WideShapes Go.RowKit
variable {b:Bool}{c:DClient}{k:Nat}
def mR:List (List Nat):=bZ [0,1,129,12354,1056835,84676740,1056835,416645656903,17730751197510,0x91851c80c1084,0x2840810c81c5189,0xb24614720304210a,0x30a10204320714624b,0xa10204320714624d2cc,0x38c2cd24614720304210a,0xf2840810c81c518934b30e,0x40e30b3491851c80c108428f,0x113ca10204320714624d2cc390,0x3ca10204320714624d2cc392411,0x1345048e30b3491851c80c108428f,0x50f2840810c81c518934b30e490453,0x154d141238c2cd24614720304210a3d4,0x5943ca10204320714624d2cc3924114d5,0x143ca10204320714624d2cc3924114d7556,0x6165574d141238c2cd24614720304210a3d4]
def mU:List (List Nat):=fB 7 [0,1,4,13,1498,1579,688]
def sJ:List (List Nat):=bZ [0,1,129,12354,1056835,84676740,6510088389,486455648518,84676740,9731313861,692614078729,0x81840810c51cb24a,0x14304210c2892c7188,0xd2061cb24a3040810c5,0x3850c108430a24b1c620d,0xf3481872c928c10204314e,0x40e14304210c2892c718834f,0xe14304210c2892c71883513d0,0x4903d13481872c928c10204314e,0x133850c108430a24b1c620d44f412,0x51240f44d2061cb24a3040810c5393,0x154ce14304210c2892c71883513d0494,0x4ce14304210c2892c71883513d0496515,0x1755459240f44d2061cb24a3040810c5393]
def sS:List (List Nat):=fB 11 [0,1,4,13,40,170707,170950,171679,6439,13000,32683]
def pZ:List (List Nat):=bZ [0,1,0,8259,1060930,0,0,7,0,0x50810c41881c9,0x2891c81840c1085]
def p5:List (List Nat):=fB 9 [19458,19459,19448,19453,19480,19196,13850,14579,6560]
def oW:List (List Nat):=bZ [0,1,0,8259,1060930,0,6,0,29064,2392455,0,11,0,0x50810c428718824c2cd,0x38d2cc2481872840c1085]
def o7:List (List Nat):=fB 13 [1594098,1594099,1594088,1594093,1594120,1539890,1540133,1537460,1538675,1545236,1121930,1180979,531440]
theorem Kl{a b:DStore}:a=b↔(a.disk=b.disk/\a.state=b.state/\a.num=b.num/\a.last=b.last/\a.busy=b.busy):=by
  cases a;cases b;simp[DStore.mk.injEq]
theorem OP:cn gV=true:=by decide
theorem TC(s:DState):(cn s&&cn gV&&decide (s=gV))=decide (s=gV):=by
  by_cases h:s=gV
  · simp[h,OP]
  · simp[h]
theorem qS(s:DStore)(hs:s.state.pairs.length<=9223372036854775806)(hj:s.state.jobs.length<=9223372036854775806):aM av 136 [.agg s.ds] (rB (fV s)):=by
  refine pO func136 call136 ntmps136 results136 λS=>?_;conv=>whnf
  repeat'((first|refine awz ?_|refine X9 aN 1 7 mR mU ae ae ae rfl ?_|refine cP (em s.disk) ?_|refine cP (zu) ?_|refine cP (xr s.state gV hs ah hj) ?_|refine tB ?_ ?_|intro h)<;>conv=>whnf)
  all_goals
    refine bJ ?_;try simp only[TC]at*
    rw[Bool.eq_iff_iff];simp[fV,Kl];simp_all
theorem zC(s:DStore)(up:Bool)(hs:s.state.pairs.length<=9223372036854775806)(hj:s.state.jobs.length<=9223372036854775806):aM av 64 [.agg s.ds,.one (dB up)] (rB (if up then storeOk s else fV s)):=by
  refine pO func64 call64 ntmps64 results64 λS=>?_;conv=>whnf
  repeat'((first|refine awz ?_|refine cP (nw s hs) ?_|refine cP (qS s hs hj) ?_|refine tB ?_ ?_|intro h)<;>conv=>whnf)
  all_goals
    refine bJ ?_;simp_all
theorem E3(w:DWant):aM av 417 [.agg w.ds] (rB (iC w)):=by
  refine pO func417 call417 ntmps417 results417 λS=>?_;conv=>whnf
  repeat'((first|refine awz ?_|refine cP (qa w.op) ?_|refine cP (kq _) ?_|refine YF (oZ w.op op0) rfl rfl rfl rfl rfl ?_|refine tB ?_ ?_|intro h)<;>conv=>whnf)
  all_goals
    refine bJ ?_;simp_all[iC,op0]
def l13(k:Int):Int:=if k==1 then 1 else if k==2 then 2 else if k==3 then 3 else 0
theorem Ke(k:Int):aM av 234 [.one (dI k)] (.val (pI (l13 k))):=by
  refine pO func234 call234 ntmps234 results234 λS=>?_;conv=>whnf
  repeat'(first|refine awz ?_|refine tB ?_ ?_|(intro h;conv=>whnf))
  all_goals simp_all[l13]
theorem FD(w:DWant):aM av 139 [.agg w.ds] (rB (iC w)):=by
  refine pO func139 call139 ntmps139 results139 λS=>?_;conv=>whnf
  repeat'((first|refine awz ?_|refine X9 aN 3 11 sJ sS ae ae ae rfl ?_|refine cP (lx w.op) ?_|refine cP (pB _) ?_|refine cP (Ke w.kind) ?_|refine YF (oZ w.op op0) rfl rfl rfl rfl rfl ?_|refine tB ?_ ?_|intro h)<;>conv=>whnf)
  all_goals
    refine bJ ?_;first
      |(simp_all[iC,op0,l13];done)
      |(by_cases k1:w.kind=1<;>by_cases k2:w.kind=2<;>by_cases k3:w.kind=3<;>simp_all[iC,op0,l13])
theorem B7(a b:Int):aM av 418 [.one (dI a),.one (dI b)] (rB ((a==0&&b==0)||(a==1&&aK b 0 999))):=by
  refine pO func418 call418 ntmps418 results418 λS=>?_;conv=>whnf
  repeat'((first|refine awz ?_|refine cP (iR _) ?_|refine tB ?_ ?_|intro h)<;>conv=>whnf)
  all_goals
    refine bJ ?_;simp_all
theorem I3(w:DWant)(g:DGot)(q l:Int):aM av 354 [.agg w.ds,.agg g.ds,.one (dI q),.one (dI l)] (rB (u9 w g q l)):=by
  refine pO func354 call354 ntmps354 results354 λS=>?_;conv=>whnf
  repeat'((first|refine awz ?_|refine cP (be _ _ _) ?_|refine cP (B7 _ _) ?_|refine tB ?_ ?_|intro h)<;>conv=>whnf)
  all_goals
    refine bJ ?_;first
      |(simp_all[u9];done)
      |(simp_all[u9];intros;omega)
theorem Wn(x:Int):aK x 0 1=(x==0||x==1):=by
  rw[Bool.eq_iff_iff];simp[aK];omega
theorem FE(w:DWant)(g:DGot)(q l:Int):aM av 140 [.agg w.ds,.agg g.ds,.one (dI q),.one (dI l)] (rB (u9 w g q l)):=by
  refine pO func140 call140 ntmps140 results140 λS=>?_;conv=>whnf
  repeat'((first|refine awz ?_|refine cP (bg _ _ _) ?_|refine cP (qD _) ?_|refine tB ?_ ?_|intro h)<;>conv=>whnf)
  all_goals
    refine bJ ?_;try simp only[Wn]at*
    first
      |(simp_all[u9];done)
      | (have e0 : aK 0 0 999 = true := by decide
         rw[Bool.eq_iff_iff];simp_all[u9,aK];omega)
theorem GS{α:Type}{l:List α}{d:α}(h:k<l.length):l.getD k d=l[k]:=by simp[List.getD_eq_getElem?_getD,h]
def clG(c:DClient)(k:Nat):Bool:=u9 (c.todo.getD k ⟨0,op0,0⟩) (c.gots.getD k ⟨0,0,0,0⟩) ((k:Int)+1) (ne c.gots k)
theorem GE{l:Int}(h1:k<c.todo.length)(h2:k<c.gots.length)(hl:l=ne c.gots k)(h:u9 c.todo[k] c.gots[k] ((k:Int)+1) l=b):clG c k=b:=by
  rw[<-h,hl];simp only[clG,GS h1,GS h2]
theorem Fb(h2:k<c.gots.length):c.gots[k].index=ne c.gots (k+1):=by
  simp only[ne,GS h2]
theorem Lg(h:((c.id==4||c.id==5)&&c.todo.all iC&&decide (c.todo.length<=12)&&decide (c.gots.length<=c.todo.length))=false):dp c=false:=by simp only[dp,h,Bool.false_and]
theorem Br(hk:k<c.gots.length)(h:clG c k=false):dp c=false:=by
  have:=RL (ok:=clG c) hk h;simp only[dp];unfold clG at this;rw[this];simp
theorem wD(h:((c.id==4||c.id==5)&&c.todo.all iC&&decide (c.todo.length<=12)&&decide (c.gots.length<=c.todo.length))=true)(ha:∀k,k<c.gots.length->clG c k=true)(hb:(c.last==ne c.gots c.gots.length)=b):dp c=b:=by
  have:=Ik (ok:=clG c) ha;unfold clG at this;simp only[dp,h,this,hb,Bool.true_and]
theorem Ng{p:Nat->Bool}(h:∀j,j<k->p j=true)(hk:p k=true):∀j,j<k+1->p j=true:=λj hj=>by
  rcases Nat.lt_succ_iff_lt_or_eq.1 hj with h1|h1
  · exact h j h1
  · rw[h1];exact hk
theorem E9(l:List DWant)(hs:l.length<=9223372036854775806):aM av 353 [.one (.sl (l.map DWant.ds))] (rB (l.all iC&&decide (l.length<=12))):=by
  refine pO func353 call353 ntmps353 results353 λS=>?_;conv=>whnf
  repeat'(first|refine awz ?_|fail)
  refine X5 (λk:Nat=>k<=l.length/\∀(j:Nat) (hj:j<k) (hl:j<l.length),iC l[j]=true) (2::4::rg 7 8) (λk=>[(7,vI .i64 (k:Int))]) (λ_=>[]) (λk=>l.length-k) 0 ⟨ac,ac⟩ ?_ X4 (λk hR=>?_)<;>(conv=>whnf)
  · exact whd
  · obtain⟨hk,hall⟩:=hR;repeat'((first|refine awz ?_|refine Yc ari (λhlt=>?_)|refine X3 ari ari ?_|refine cP (E3 l[k]) ?_|refine tB ?_ ?_|intro h)<;>conv=>whnf)
    all_goals first
      |(rw[pS (k:=k) ari (by first|(simpa using h)|(exfalso;assumption)),Bool.false_and];done)
      | (refine bd.mk ⟨k + 1, ⟨ari, gq hall ari aq⟩, ari, ?_, X4⟩
         exact hds)
      |(rw[iG (p:=iC) hall ari,Bool.true_and];first|done|(refine bJ ?_;simp;done)|(refine bJ ?_;simp;omega))
def jP(c:DClient):Bool:=(c.id==4||c.id==5)&&c.todo.all iC&&decide (c.todo.length<=12)&&decide (c.gots.length<=c.todo.length)
theorem L2(h:jP c=false):dp c=false:=Lg h
theorem QM(h:(!(c.todo.all iC&&decide (c.todo.length<=12)))=true):jP c=false:=by
  rw[Bool.not_eq_true']at h;rcases Bool.and_eq_false_iff.1 h with e|e<;>simp only[jP,e,Bool.and_false,Bool.false_and]
theorem lI(c:DClient)(ht:c.todo.length<=9223372036854775806)(hg:c.gots.length<=9223372036854775806):aM av 276 [.agg c.ds] (rB (dp c)):=by
  refine pO func276 call276 ntmps276 results276 λS=>?_;conv=>whnf
  repeat'((first|refine awz ?_|refine cP (E9 c.todo ht) ?_|refine tB ?_ ?_|intro h)<;>conv=>whnf)
  all_goals first
    | (have hno : jP c = false := by (first | exact QM ai | (simp_all [jP]; done) | (rw [← Bool.not_eq_true]; simp_all [jP]; done) | (rw [← Bool.not_eq_true]; simp_all [jP]; intros; omega) | (by_cases hw : c.todo.all iC = true <;> simp_all [jP] <;> intros <;> omega))
       rw[L2 hno];done)
    |skip
  all_goals
    have hpre:jP c=true:=by(first|(simp_all[jP];done)|(simp_all[jP];omega))
    have hle:c.gots.length<=c.todo.length:=by simp only[jP,Bool.and_eq_true,decide_eq_true_iff]at hpre;exact hpre.2
    refine X5 (λg:Nat×Int=>g.1<=c.gots.length/\g.2=ne c.gots g.1/\∀j,j<g.1->clG c j=true) (2::3::4::5::rg 32 19) (λg=>[(3,vI .i64 g.2),(32,vI .i64 (g.1:Int))]) (λ_=>[(1,.cells 99 (c.ds.map .d))]) (λg=>c.gots.length-g.1) (0,0) ⟨ac,rfl,ac⟩ ?_ sbW (λg hR=>?_)<;>(conv=>whnf)
    · exact whd
    · obtain⟨hk,hl,hall⟩:=hR;repeat'((first|refine awz ?_|refine X9 aN 7 9 pZ p5 ae ae ae rfl ?_|refine Yc ari (λhlt=>?_)|refine X3 ari ari ?_|refine cP (I3 c.todo[g.1] c.gots[g.1] _ _) ?_|refine tB ?_ ?_|intro h)<;>conv=>whnf)
      all_goals first
        |(rw[Br (k:=g.1) ari (GE ari ari hl (by first|(simpa using h)|(exfalso;assumption)))];done)
        | (refine bd.mk ⟨(g.1 + 1, c.gots[g.1].index), ⟨ari, Fb ari, Ng hall (GE ari ari hl (by first | (simpa using h) | (exfalso; assumption)))⟩, ari, ?_, sbW⟩
           exact hds)
        | (have hkk : g.1 = c.gots.length := ari
           rw[wD hpre (λk hk'=>hall k ac) (by rw[<-hkk,<-hl])])
theorem j3(c:DClient)(ht:c.todo.length<=9223372036854775806)(hg:c.gots.length<=9223372036854775806):aM av 66 [.agg c.ds] (rB (dp c)):=by
  refine pO func66 call66 ntmps66 results66 λS=>?_;conv=>whnf
  repeat'(first|refine awz ?_|refine tB ?_ ?_|(intro h;conv=>whnf))
  all_goals first
    | (have hno : jP c = false := by (first | (simp_all [jP]; done) | (rw [← Bool.not_eq_true]; simp_all [jP]; done) | (rw [← Bool.not_eq_true]; simp_all [jP]; intros; omega))
       rw[L2 hno];done)
    |skip
  all_goals
    have hpre0:((c.id==4||c.id==5)&&decide (c.todo.length<=12)&&decide (c.gots.length<=c.todo.length))=true:=by(first|(simp_all;done)|(simp_all;omega))
    have hle:c.gots.length<=c.todo.length:=by simp only[Bool.and_eq_true,decide_eq_true_iff]at hpre0;exact hpre0.2
    refine X5 (λk:Nat=>k<=c.todo.length/\∀(j:Nat) (hj:j<k) (hl:j<c.todo.length),iC c.todo[j]=true) (2::3::rg 29 14) (λk=>[(3,vI .i64 (k:Int))]) (λ_=>[(1,.cells 99 (c.ds.map .d))]) (λk=>c.todo.length-k) 0 ⟨ac,ac⟩ ?_ sbW (λk hR=>?_)<;>(conv=>whnf)
    · exact whd
    · obtain⟨hk,hall⟩:=hR;repeat'((first|refine awz ?_|refine Yc ari (λhlt=>?_)|refine X3 ari ari ?_|refine cP (FD c.todo[k]) ?_|refine tB ?_ ?_|intro h)<;>conv=>whnf)
      all_goals first
        | (have hno:jP c=false:=by
             have:=pS (p:=iC) (k:=k) ari (by first|(simpa using h)|(exfalso;assumption));simp only[jP,this,Bool.and_false,Bool.false_and]
           rw[L2 hno];done)
        | (refine bd.mk ⟨k + 1, ⟨ari, gq hall ari aq⟩, ari, ?_, sbW⟩
           exact hds)
        |skip
      have hpre:jP c=true:=by
        have e:=iG (p:=iC) hall ari;simp only[jP,e,Bool.and_true];exact hpre0
      refine X5 (λg:Nat×Int=>g.1<=c.gots.length/\g.2=ne c.gots g.1/\∀j,j<g.1->clG c j=true) (2::4::5::rg 43 28) (λg=>[(4,vI .i64 g.2),(5,vI .i64 (g.1:Int))]) (λ_=>[(1,.cells 99 (c.ds.map .d))]) (λg=>c.gots.length-g.1) (0,0) ⟨ac,rfl,ac⟩ ?_ sbW (λg hR=>?_)<;>(conv=>whnf)
      · exact whd
      · obtain⟨hk,hl,hall⟩:=hR;repeat'((first|refine awz ?_|refine X9 aN 12 13 oW o7 ae ae ae rfl ?_|refine Yc ari (λhlt=>?_)|refine X3 ari ari ?_|refine cP (FE c.todo[g.1] c.gots[g.1] _ _) ?_|refine tB ?_ ?_|intro h)<;>conv=>whnf)
        all_goals first
          |(rw[Br (k:=g.1) ari (GE ari ari hl (by first|(simpa using h)|(exfalso;assumption)))];done)
          | (refine bd.mk ⟨(g.1 + 1, c.gots[g.1].index), ⟨ari, Fb ari, Ng hall (GE ari ari hl (by first | (simpa using h) | assumption | (exfalso; assumption)))⟩, ari, ?_, sbW⟩
             exact hds)
          | (have hkk : g.1 = c.gots.length := ari
             rw[wD hpre (λk hk'=>hall k ac) (by rw[<-hkk,<-hl])])
end Go.Proofs.YtknefkdcokgpbaaGreat
