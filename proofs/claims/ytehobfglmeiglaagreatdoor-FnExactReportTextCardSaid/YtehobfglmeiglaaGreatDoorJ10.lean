/- J10 -/
import Derived.Test.YtehobfglmeiglaaGreatDoorJ09
import Derived.Test.YtehobfglmeiglaaGreatDoorJ08
set_option linter.unusedVariables false
set_option linter.unusedSimpArgs false
set_option maxRecDepth 100000
namespace Go.Proofs.YtehobfglmeiglaaGreatDoor
open Go.Proofs.Tryz
open Go.ChangeShapes Go.WideShapes Go.RowKit
def gz:List (List Nat):=bk [0,1,129,12354,1056835,84676740,1056835,416645656903,17730751197510,2560014318047364,181278753171460489,12845977467030348042,897045555741031948875,47521137471379338482380,4288735575005357318349066,293183549505679279592354574,20081519705366427266760327823,1365642509910857212984157848464,76856308401616789069458197521425,6253342968325639574771053470696079,420302552420489684782885030978978899,28314001861456074263765295688011785172,1898452381420072888874664982857379812565,110179792301716847927724613560953444595030,8484376297489341970054194503657943330759636]
def gB:List (List Nat):=bj 7 [0,1,4,13,1498,1579,688]
def l0:List (List Nat):=bk [0,1,129,12354,1056835,84676740,6510088389,486455648518,84676740,9731313861,692614078729,9332593195938001482,372412241764185567624,61988106853988610609349,4255074752124109987799565,294109435546166273008480590,20079365412702027437605159759,1115442315820822688641729237968,92557395712311800847789419934030,6237240827722640460953035062178834,421307422008374165536698229213385619,28312971324457482320480942509866681492,1635055259542523860996072423339808351509,127037440858952856457949213307312938963859]
def mr:List (List Nat):=bj 11 [0,1,4,13,40,170707,170950,171679,6439,13000,32683]
def jB:List (List Nat):=bk [0,1,0,8259,1060930,0,0,7,0,1416242985992649,182708602476957829]
def jM:List (List Nat):=bj 9 [19458,19459,19448,19453,19480,19196,13850,14579,6560]
def iL:List (List Nat):=bk [0,1,0,8259,1060930,0,6,0,29064,2392455,0,11,0,23760614502006025142989,4293456789134072521429125]
def iV:List (List Nat):=bj 13 [1594098,1594099,1594088,1594093,1594120,1539890,1540133,1537460,1538675,1545236,1121930,1180979,531440]
theorem zS{a b:DStore}:a=b↔(a.disk=b.disk/\a.state=b.state/\a.num=b.num/\a.last=b.last/\a.busy=b.busy):=by
  cases a;cases b;simp[DStore.mk.injEq]
theorem Dr:bH gM=true:=by decide
theorem GP(s:DState):(bH s&&bH gM&&decide (s=gM))=decide (s=gM):=by
  by_cases h:s=gM
  · simp[h,Dr]
  · simp[h]
theorem kB(s:DStore)(hs:s.state.pairs.length<=9223372036854775806)(hj:s.state.jobs.length<=9223372036854775806):aj av 120 [.agg s.ds] (rB (eM s)):=by
  refine ae ah func120 rfl call120 ntmps120 (MC results120) λS=>?_;conv=>whnf
  repeat'((first|refine aw0 ?_|refine aw1 ?_|refine aw2 ?_|refine aw3 ?_|refine aw4 ?_|refine aw5 ?_|refine aw6 ?_|refine aw7 ?_|refine aw8 ?_|refine bT ?_|refine bF ?_|refine AWP.drawK ah 1 7 gz gB Mp Mp Mp rfl ?_|refine cP (eG s.disk) ?_|refine cP (rl) ?_|refine cP (pQ s.state gM hs Mq hj) ?_|exact rr|refine And.intro rfl ?_|refine AB.mk (λh=>?_) (λh=>?_))<;>conv=>whnf)
  all_goals
    refine aG ?_
    try simp only[GP]at*
    rw[Bool.eq_iff_iff]
    simp[eM,zS]
    simp_all
theorem rq(s:DStore)(up:Bool)(hs:s.state.pairs.length<=9223372036854775806)(hj:s.state.jobs.length<=9223372036854775806):aj av 58 [.agg s.ds,.one (dB up)] (rB (if up then dH s else eM s)):=by
  refine ae ah func58 rfl call58 ntmps58 (MC results58) λS=>?_;conv=>whnf
  repeat'((first|refine aw0 ?_|refine aw1 ?_|refine aw2 ?_|refine aw3 ?_|refine aw4 ?_|refine aw5 ?_|refine aw6 ?_|refine aw7 ?_|refine aw8 ?_|refine bT ?_|refine bF ?_|refine cP (uc s hs) ?_|refine cP (kB s hs hj) ?_|exact rr|refine And.intro rfl ?_|refine AB.mk (λh=>?_) (λh=>?_))<;>conv=>whnf)
  all_goals
    refine aG ?_
    simp_all
theorem vT(w:DWant):aj av 288 [.agg w.ds] (rB (dy w)):=by
  refine ae ah func288 rfl call288 ntmps288 (MC results288) λS=>?_;conv=>whnf
  repeat'((first|refine aw0 ?_|refine aw1 ?_|refine aw2 ?_|refine aw3 ?_|refine aw4 ?_|refine aw5 ?_|refine aw6 ?_|refine aw7 ?_|refine aw8 ?_|refine bT ?_|refine bF ?_|refine cP (m7 w.op) ?_|refine cP (fR _) ?_|refine AOp.eqs (iQ w.op op0) rfl rfl rfl rfl rfl ?_|exact rr|refine And.intro rfl ?_|refine AB.mk (λh=>?_) (λh=>?_))<;>conv=>whnf)
  all_goals
    refine aG ?_
    simp_all[dy,op0]
def l13(k:Int):Int:=if k==1 then 1 else if k==2 then 2 else if k==3 then 3 else 0
theorem zM(k:Int):aj av 229 [.one (dI k)] (.val (pI (l13 k))):=by
  refine ae ah func229 rfl call229 ntmps229 (MC results229) λS=>?_;conv=>whnf
  repeat'((first|refine aw0 ?_|refine aw1 ?_|refine aw2 ?_|refine aw3 ?_|refine aw4 ?_|refine aw5 ?_|refine aw6 ?_|refine aw7 ?_|refine aw8 ?_|refine bT ?_|refine bF ?_|exact rr|refine And.intro rfl ?_|refine AB.mk (λh=>?_) (λh=>?_))<;>conv=>whnf)
  all_goals simp_all[l13]
theorem wv(w:DWant):aj av 123 [.agg w.ds] (rB (dy w)):=by
  refine ae ah func123 rfl call123 ntmps123 (MC results123) λS=>?_;conv=>whnf
  repeat'((first|refine aw0 ?_|refine aw1 ?_|refine aw2 ?_|refine aw3 ?_|refine aw4 ?_|refine aw5 ?_|refine aw6 ?_|refine aw7 ?_|refine aw8 ?_|refine bT ?_|refine bF ?_|refine AWP.drawK ah 3 11 l0 mr Mp Mp Mp rfl ?_|refine cP (nq w.op) ?_|refine cP (pV _) ?_|refine cP (zM w.kind) ?_|refine AOp.eqs (iQ w.op op0) rfl rfl rfl rfl rfl ?_|exact rr|refine And.intro rfl ?_|refine AB.mk (λh=>?_) (λh=>?_))<;>conv=>whnf)
  all_goals
    refine aG ?_
    first
      |(simp_all[dy,op0,l13];done)
      |(by_cases k1:w.kind=1<;>by_cases k2:w.kind=2<;>by_cases k3:w.kind=3<;>simp_all[dy,op0,l13])
theorem tk(a b:Int):aj av 289 [.one (dI a),.one (dI b)] (rB ((a==0&&b==0)||(a==1&&ai b 0 999))):=by
  refine ae ah func289 rfl call289 ntmps289 (MC results289) λS=>?_;conv=>whnf
  repeat'((first|refine aw0 ?_|refine aw1 ?_|refine aw2 ?_|refine aw3 ?_|refine aw4 ?_|refine aw5 ?_|refine aw6 ?_|refine aw7 ?_|refine aw8 ?_|refine bT ?_|refine bF ?_|refine cP (dw _) ?_|exact rr|refine And.intro rfl ?_|refine AB.mk (λh=>?_) (λh=>?_))<;>conv=>whnf)
  all_goals
    refine aG ?_
    simp_all
theorem y6(w:DWant)(g:DGot)(q l:Int):aj av 241 [.agg w.ds,.agg g.ds,.one (dI q),.one (dI l)] (rB (nR w g q l)):=by
  refine ae ah func241 rfl call241 ntmps241 (MC results241) λS=>?_;conv=>whnf
  repeat'((first|refine aw0 ?_|refine aw1 ?_|refine aw2 ?_|refine aw3 ?_|refine aw4 ?_|refine aw5 ?_|refine aw6 ?_|refine aw7 ?_|refine aw8 ?_|refine bT ?_|refine bF ?_|refine cP (aq _ _ _) ?_|refine cP (tk _ _) ?_|exact rr|refine And.intro rfl ?_|refine AB.mk (λh=>?_) (λh=>?_))<;>conv=>whnf)
  all_goals
    refine aG ?_
    first
      |(simp_all[nR];done)
      |(simp_all[nR];intros;omega)
theorem K0(x:Int):ai x 0 1=(x==0||x==1):=by
  rw[Bool.eq_iff_iff];simp[ai];omega
theorem ww(w:DWant)(g:DGot)(q l:Int):aj av 124 [.agg w.ds,.agg g.ds,.one (dI q),.one (dI l)] (rB (nR w g q l)):=by
  refine ae ah func124 rfl call124 ntmps124 (MC results124) λS=>?_;conv=>whnf
  repeat'((first|refine aw0 ?_|refine aw1 ?_|refine aw2 ?_|refine aw3 ?_|refine aw4 ?_|refine aw5 ?_|refine aw6 ?_|refine aw7 ?_|refine aw8 ?_|refine bT ?_|refine bF ?_|refine cP (aA _ _ _) ?_|refine cP (kb _) ?_|exact rr|refine And.intro rfl ?_|refine AB.mk (λh=>?_) (λh=>?_))<;>conv=>whnf)
  all_goals
    refine aG ?_
    try simp only[K0]at*
    first
      |(simp_all[nR];done)
      | (have e0 : ai 0 0 999 = true := by decide
         rw[Bool.eq_iff_iff]
         simp_all[nR,ai]
         omega)
theorem xr{α:Type}{l:List α}{k:Nat}{d:α}(h:k<l.length):l.getD k d=l[k]:=by simp[List.getD_eq_getElem?_getD,h]
def clG(c:DClient)(k:Nat):Bool:=nR (c.todo.getD k ⟨0,op0,0⟩) (c.gots.getD k ⟨0,0,0,0⟩) ((k:Int)+1) (fy c.gots k)
theorem xg{c:DClient}{k:Nat}{l:Int}{b:Bool}(h1:k<c.todo.length)(h2:k<c.gots.length)(hl:l=fy c.gots k)(h:nR c.todo[k] c.gots[k] ((k:Int)+1) l=b):clG c k=b:=by
  rw[<-h,hl]
  simp only[clG,xr h1,xr h2]
theorem vY{c:DClient}{k:Nat}(h2:k<c.gots.length):c.gots[k].index=fy c.gots (k+1):=by
  simp only[fy,xr h2]
theorem A0{c:DClient}(h:((c.id==4||c.id==5)&&c.todo.all dy&&decide (c.todo.length<=12)&&decide (c.gots.length<=c.todo.length))=false):bn c=false:=by simp only[bn,h,Bool.false_and]
theorem sN{c:DClient}{k:Nat}(hk:k<c.gots.length)(h:clG c k=false):bn c=false:=by
  have:=FF (ok:=clG c) hk h
  simp only[bn]
  unfold clG at this
  rw[this]
  simp
theorem o4{c:DClient}{b:Bool}(h:((c.id==4||c.id==5)&&c.todo.all dy&&decide (c.todo.length<=12)&&decide (c.gots.length<=c.todo.length))=true)(ha:∀k,k<c.gots.length->clG c k=true)(hb:(c.last==fy c.gots c.gots.length)=b):bn c=b:=by
  have:=Eb (ok:=clG c) ha
  unfold clG at this
  simp only[bn,h,this,hb,Bool.true_and]
theorem Cl{p:Nat->Bool}{k:Nat}(h:∀j,j<k->p j=true)(hk:p k=true):∀j,j<k+1->p j=true:=λj hj=>by
  rcases Nat.lt_succ_iff_lt_or_eq.1 hj with h1|h1
  · exact h j h1
  · rw[h1];exact hk
theorem vW(l:List DWant)(hs:l.length<=9223372036854775806):aj av 240 [.one (.sl (l.map DWant.ds))] (rB (l.all dy&&decide (l.length<=12))):=by
  refine ae ah func240 rfl call240 ntmps240 (MC results240) λS=>?_;conv=>whnf
  repeat'((first|refine aw0 ?_|refine aw1 ?_|refine aw2 ?_|refine aw3 ?_|refine aw4 ?_|refine aw5 ?_|refine aw6 ?_|refine aw7 ?_|refine aw8 ?_|refine bT ?_|refine bF ?_|exact rr|refine And.intro rfl ?_|refine AB.mk (λh=>?_) (λh=>?_))<;>conv=>whnf)
  refine AWP.loopS (λk:Nat=>k<=l.length/\∀(j:Nat) (hj:j<k) (hl:j<l.length),dy l[j]=true) [2,4,7,8,9,10,11,12,13,14] (λk=>[(7,vI .i64 (k:Int))]) (λ_=>[]) (λk=>l.length-k) 0 ⟨by omega,by omega⟩ ?_ ak.nil (λk hR=>?_)<;>(conv=>whnf)
  · exact whd
  · obtain⟨hk,hall⟩:=hR
    repeat'((first|refine aw0 ?_|refine aw1 ?_|refine aw2 ?_|refine aw3 ?_|refine aw4 ?_|refine aw5 ?_|refine aw6 ?_|refine aw7 ?_|refine aw8 ?_|refine bT ?_|refine bF ?_|refine AIx.mapF ari (λhlt=>?_)|refine AW.i64 ari ari ?_|refine cP (vT l[k]) ?_|exact rr|refine And.intro rfl ?_|refine AB.mk (λh=>?_) (λh=>?_))<;>conv=>whnf)
    all_goals first
      |(rw[jt (k:=k) ari (by first|(simpa using h)|(exfalso;assumption)),Bool.false_and];done)
      | (refine aB.mk ⟨k + 1, ⟨ari, cu hall ari Mw⟩, ari, ?_, ak.nil⟩
         exact hds)
      |(rw[dl (p:=dy) hall ari,Bool.true_and];first|done|(refine aG ?_;simp;done)|(refine aG ?_;simp;omega))
def et(c:DClient):Bool:=(c.id==4||c.id==5)&&c.todo.all dy&&decide (c.todo.length<=12)&&decide (c.gots.length<=c.todo.length)
theorem Br{c:DClient}(h:et c=false):bn c=false:=A0 h
theorem EY{c:DClient}(h:(!(c.todo.all dy&&decide (c.todo.length<=12)))=true):et c=false:=by
  rw[Bool.not_eq_true']at h
  rcases Bool.and_eq_false_iff.1 h with e|e<;>simp only[et,e,Bool.and_false,Bool.false_and]
theorem gW(c:DClient)(ht:c.todo.length<=9223372036854775806)(hg:c.gots.length<=9223372036854775806):aj av 153 [.agg c.ds] (rB (bn c)):=by
  refine ae ah func153 rfl call153 ntmps153 (MC results153) λS=>?_;conv=>whnf
  repeat'((first|refine aw0 ?_|refine aw1 ?_|refine aw2 ?_|refine aw3 ?_|refine aw4 ?_|refine aw5 ?_|refine aw6 ?_|refine aw7 ?_|refine aw8 ?_|refine bT ?_|refine bF ?_|refine cP (vW c.todo ht) ?_|exact rr|refine And.intro rfl ?_|refine AB.mk (λh=>?_) (λh=>?_))<;>conv=>whnf)
  all_goals first
    | (have hno : et c = false := by (first | exact EY Mt | (simp_all [et]; done) | (rw [← Bool.not_eq_true]; simp_all [et]; done) | (rw [← Bool.not_eq_true]; simp_all [et]; intros; omega) | (by_cases hw : c.todo.all dy = true <;> simp_all [et] <;> intros <;> omega))
       rw[Br hno];done)
    |skip
  all_goals
    have hpre:et c=true:=by(first|(simp_all[et];done)|(simp_all[et];omega))
    have hle:c.gots.length<=c.todo.length:=by simp only[et,Bool.and_eq_true,decide_eq_true_iff]at hpre;exact hpre.2
    refine AWP.loopS (λg:Nat×Int=>g.1<=c.gots.length/\g.2=fy c.gots g.1/\∀j,j<g.1->clG c j=true) [2,3,4,5,32,33,34,35,36,37,38,39,40,41,42,43,44,45,46,47,48,49,50] (λg=>[(3,vI .i64 g.2),(32,vI .i64 (g.1:Int))]) (λ_=>[(1,.cells 100 (c.ds.map .d))]) (λg=>c.gots.length-g.1) (0,0) ⟨by omega,rfl,by omega⟩ ?_ (ak.cons rfl ak.nil) (λg hR=>?_)<;>(conv=>whnf)
    · exact whd
    · obtain⟨hk,hl,hall⟩:=hR
      repeat'((first|refine aw0 ?_|refine aw1 ?_|refine aw2 ?_|refine aw3 ?_|refine aw4 ?_|refine aw5 ?_|refine aw6 ?_|refine aw7 ?_|refine aw8 ?_|refine bT ?_|refine bF ?_|refine AWP.drawK ah 7 9 jB jM Mp Mp Mp rfl ?_|refine AIx.mapF ari (λhlt=>?_)|refine AW.i64 ari ari ?_|refine cP (y6 c.todo[g.1] c.gots[g.1] _ _) ?_|exact rr|refine And.intro rfl ?_|refine AB.mk (λh=>?_) (λh=>?_))<;>conv=>whnf)
      all_goals first
        |(rw[sN (k:=g.1) ari (xg ari ari hl (by first|(simpa using h)|(exfalso;assumption)))];done)
        | (refine aB.mk ⟨(g.1 + 1, c.gots[g.1].index), ⟨ari, vY ari, Cl hall (xg ari ari hl (by first | (simpa using h) | (exfalso; assumption)))⟩, ari, ?_, ak.cons rfl ak.nil⟩
           exact hds)
        | (have hkk : g.1 = c.gots.length := ari
           rw[o4 hpre (λk hk'=>hall k Mo) (by rw[<-hkk,<-hl])])
theorem ia(c:DClient)(ht:c.todo.length<=9223372036854775806)(hg:c.gots.length<=9223372036854775806):aj av 60 [.agg c.ds] (rB (bn c)):=by
  refine ae ah func60 rfl call60 ntmps60 (MC results60) λS=>?_;conv=>whnf
  repeat'((first|refine aw0 ?_|refine aw1 ?_|refine aw2 ?_|refine aw3 ?_|refine aw4 ?_|refine aw5 ?_|refine aw6 ?_|refine aw7 ?_|refine aw8 ?_|refine bT ?_|refine bF ?_|exact rr|refine And.intro rfl ?_|refine AB.mk (λh=>?_) (λh=>?_))<;>conv=>whnf)
  all_goals first
    | (have hno : et c = false := by (first | (simp_all [et]; done) | (rw [← Bool.not_eq_true]; simp_all [et]; done) | (rw [← Bool.not_eq_true]; simp_all [et]; intros; omega))
       rw[Br hno];done)
    |skip
  all_goals
    have hpre0:((c.id==4||c.id==5)&&decide (c.todo.length<=12)&&decide (c.gots.length<=c.todo.length))=true:=by(first|(simp_all;done)|(simp_all;omega))
    have hle:c.gots.length<=c.todo.length:=by simp only[Bool.and_eq_true,decide_eq_true_iff]at hpre0;exact hpre0.2
    refine AWP.loopS (λk:Nat=>k<=c.todo.length/\∀(j:Nat) (hj:j<k) (hl:j<c.todo.length),dy c.todo[j]=true) [2,3,29,30,31,32,33,34,35,36,37,38,39,40,41,42] (λk=>[(3,vI .i64 (k:Int))]) (λ_=>[(1,.cells 100 (c.ds.map .d))]) (λk=>c.todo.length-k) 0 ⟨by omega,by omega⟩ ?_ (ak.cons rfl ak.nil) (λk hR=>?_)<;>(conv=>whnf)
    · exact whd
    · obtain⟨hk,hall⟩:=hR
      repeat'((first|refine aw0 ?_|refine aw1 ?_|refine aw2 ?_|refine aw3 ?_|refine aw4 ?_|refine aw5 ?_|refine aw6 ?_|refine aw7 ?_|refine aw8 ?_|refine bT ?_|refine bF ?_|refine AIx.mapF ari (λhlt=>?_)|refine AW.i64 ari ari ?_|refine cP (wv c.todo[k]) ?_|exact rr|refine And.intro rfl ?_|refine AB.mk (λh=>?_) (λh=>?_))<;>conv=>whnf)
      all_goals first
        | (have hno:et c=false:=by
             have:=jt (p:=dy) (k:=k) ari (by first|(simpa using h)|(exfalso;assumption))
             simp only[et,this,Bool.and_false,Bool.false_and]
           rw[Br hno];done)
        | (refine aB.mk ⟨k + 1, ⟨ari, cu hall ari Mw⟩, ari, ?_, ak.cons rfl ak.nil⟩
           exact hds)
        |skip
      have hpre:et c=true:=by
        have e:=dl (p:=dy) hall ari
        simp only[et,e,Bool.and_true]
        exact hpre0
      refine AWP.loopS (λg:Nat×Int=>g.1<=c.gots.length/\g.2=fy c.gots g.1/\∀j,j<g.1->clG c j=true) [2,4,5,43,44,45,46,47,48,49,50,51,52,53,54,55,56,57,58,59,60,61,62,63,64,65,66,67,68,69,70] (λg=>[(4,vI .i64 g.2),(5,vI .i64 (g.1:Int))]) (λ_=>[(1,.cells 100 (c.ds.map .d))]) (λg=>c.gots.length-g.1) (0,0) ⟨by omega,rfl,by omega⟩ ?_ (ak.cons rfl ak.nil) (λg hR=>?_)<;>(conv=>whnf)
      · exact whd
      · obtain⟨hk,hl,hall⟩:=hR
        repeat'((first|refine aw0 ?_|refine aw1 ?_|refine aw2 ?_|refine aw3 ?_|refine aw4 ?_|refine aw5 ?_|refine aw6 ?_|refine aw7 ?_|refine aw8 ?_|refine bT ?_|refine bF ?_|refine AWP.drawK ah 12 13 iL iV Mp Mp Mp rfl ?_|refine AIx.mapF ari (λhlt=>?_)|refine AW.i64 ari ari ?_|refine cP (ww c.todo[g.1] c.gots[g.1] _ _) ?_|exact rr|refine And.intro rfl ?_|refine AB.mk (λh=>?_) (λh=>?_))<;>conv=>whnf)
        all_goals first
          |(rw[sN (k:=g.1) ari (xg ari ari hl (by first|(simpa using h)|(exfalso;assumption)))];done)
          | (refine aB.mk ⟨(g.1 + 1, c.gots[g.1].index), ⟨ari, vY ari, Cl hall (xg ari ari hl (by first | (simpa using h) | assumption | (exfalso; assumption)))⟩, ari, ?_, ak.cons rfl ak.nil⟩
             exact hds)
          | (have hkk : g.1 = c.gots.length := ari
             rw[o4 hpre (λk hk'=>hall k Mo) (by rw[<-hkk,<-hl])])
end Go.Proofs.YtehobfglmeiglaaGreatDoor
namespace Go.Proofs.YtehobfglmeiglaaGreatDoor
open Go.Proofs.Tryz
open Go.ChangeShapes Go.WideShapes Go.RowKit
def kP:List (List Nat):=bk [0,1,0,8259,1060930,0,0,391,33222,2384328,90639551170638217]
def lk:List (List Nat):=bj 10 [58824,58825,58814,58819,58846,1700,728,1214,3401,9962]
def xp:DEntry:=⟨0,0,0,0,⟨0,0,0,0,0⟩⟩
theorem bJ{b:DBook}(h:bd b=true):(0<=b.base/\b.base<=2000)/\tOk b.time=true/\b.entries.length<=20/\ch b.entries=true:=by
  simp only[bd,Bool.and_eq_true,ai,decide_eq_true_eq]at h
  obtain⟨⟨⟨⟨⟨h1,h2⟩,_⟩,h4⟩,h5⟩,_⟩:=h
  exact⟨h1,h2,h4,h5⟩
theorem ot{b:DBook}(h:bd b=true){k:Nat}(hk:k<b.entries.length):bu b.entries[k]=true:=by
  have h5:=(bJ h).2.2.2
  simp only[ch,Bool.and_eq_true]at h5
  exact mV h5.1.2 hk
theorem AI{b:DBook}(h:bd b=true){e:DEntry}{r:List DEntry}(he:b.entries=e::r):e.index=b.base+1:=by
  simp only[bd,Bool.and_eq_true]at h
  have h6:=h.2
  rw[he]at h6
  simp only[Bool.and_eq_true,beq_iff_eq]at h6
  exact h6.1
theorem FU{l:List DEntry}(hk:0<l.length):∃r,l=l[0]::r:=by
  cases l with
  |nil=>simp at hk
  |cons e r=>exact⟨r,rfl⟩
theorem jw{b:DBook}(h:bd b=true):∀(k:Nat) (hk:k<b.entries.length),b.entries[k].index=b.base+1+k:=by
  intro k
  induction k with
  |zero=>
    intro hk
    obtain⟨r,hr⟩:=FU hk
    have:=AI h hr
    omega
  |succ k ih=>
    intro hk
    have h5:=(bJ h).2.2.2
    simp only[ch,Bool.and_eq_true]at h5
    have:=lN h5.2 hk
    simp only[g9,Bool.and_eq_true,beq_iff_eq]at this
    have:=ih Mo
    omega
theorem co{b:DBook}(h:bd b=true):b.base<=bO b/\bO b<=2000:=by
  have h1:=(bJ h).1
  refine⟨by unfold bO;omega,?_⟩
  rcases Nat.eq_zero_or_pos b.entries.length with h0|h0
  · unfold bO;omega
  · have h2:=jw h (b.entries.length-1) Mo
    have h3:=gd (ot h (k:=b.entries.length-1) Mo)
    have h4:=h3.2.2
    simp only[ai,Bool.and_eq_true,decide_eq_true_eq]at h4
    unfold bO
    omega
theorem GA{l:List DEntry}:∀{c m:Int},(∀(k:Nat) (hk:k<l.length),l[k].index=c+k)->l.filter (λe=>decide (e.index<m))=l.take (m-c).toNat:=by
  induction l with
  |nil=>intro c m _;simp
  |cons e r ih=>
    intro c m h
    have h0:=h 0 Mr
    have hr:=ih (c:=c+1) (m:=m) λk hk=>by
      have:=h (k+1) (by simpa using hk)
      simp only[List.getElem_cons_succ]at this
      omega
    simp only[List.getElem_cons_zero]at h0
    by_cases hm:e.index<m
    · rw[List.filter_cons_of_pos (by simpa using hm),hr]
      have:(m-c).toNat=(m-(c+1)).toNat+1:=by omega
      rw[this,List.take_succ_cons]
    · rw[List.filter_cons_of_neg (by simpa using hm),hr]
      have e1:(m-c).toNat=0:=by omega
      have e2:(m-(c+1)).toNat=0:=by omega
      rw[e1,e2];simp
def f8(b:DBook)(lo hi:Int):List DEntry:=b.entries.filter λe=>ai e.index lo hi
theorem nO{l:List DEntry}{p q:DEntry->Bool}(h:∀e∈l,p e=q e):l.filter p=l.filter q:=by
  induction l with
  |nil=>rfl
  |cons e r ih=>
    have h0:=h e Mr
    have hr:=ih λx hx=>h x (List.mem_cons_of_mem _ hx)
    cases hp:p e with
    |true=>rw[List.filter_cons_of_pos hp,List.filter_cons_of_pos (by rw[<-h0,hp]),hr]
    |false=>rw[List.filter_cons_of_neg (by simp[hp]),List.filter_cons_of_neg (by simp[<-h0,hp]),hr]
theorem Gj{b:DBook}(h:bd b=true)(i:Int):f8 b (b.base+1) i=iP b i:=by
  have h1:f8 b (b.base+1) i=b.entries.filter λe=>decide (e.index<i+1):=nO λe he=>by
    obtain⟨k,hk,rfl⟩:=List.getElem_of_mem he
    have:=jw h k hk
    rw[Bool.eq_iff_iff]
    simp[ai]
    omega
  rw[h1,GA (c:=b.base+1) (jw h)]
  unfold iP
  congr 1
  omega
theorem Bq{b:DBook}(h:bd b=true)(d:Int):f8 b (d+1) 2000=cY b d:=nO λe he=>by
  obtain⟨k,hk,rfl⟩:=List.getElem_of_mem he
  have h3:=(gd (ot h hk)).2.2
  rw[Bool.eq_iff_iff]
  simp[ai]at h3⊢
  omega
theorem gn(b:DBook)(h:bd b=true):aj av 166 [.agg b.ds] (.val (pI (bO b))):=by
  have hp:=bJ h
  have hq:=co h
  refine ae ah func166 rfl call166 ntmps166 (MC results166) λS=>?_;conv=>whnf
  repeat'((first|refine aw0 ?_|refine aw1 ?_|refine aw2 ?_|refine aw3 ?_|refine aw4 ?_|refine aw5 ?_|refine aw6 ?_|refine aw7 ?_|refine aw8 ?_|refine bT ?_|refine bF ?_|refine AW.i64 ari ari ?_|exact rr|refine And.intro rfl ?_|refine AB.mk (λh=>?_) (λh=>?_))<;>conv=>whnf)
  all_goals simp[bO]
theorem nv(b:DBook)(h:bd b=true):aj av 129 [.agg b.ds] (.val (pI (bO b))):=by
  have hp:=bJ h
  have hq:=co h
  refine ae ah func129 rfl call129 ntmps129 (MC results129) λS=>?_;conv=>whnf
  repeat'((first|refine aw0 ?_|refine aw1 ?_|refine aw2 ?_|refine aw3 ?_|refine aw4 ?_|refine aw5 ?_|refine aw6 ?_|refine aw7 ?_|refine aw8 ?_|refine bT ?_|refine bF ?_|refine AW.i64 ari ari ?_|exact rr|refine And.intro rfl ?_|refine AB.mk (λh=>?_) (λh=>?_))<;>conv=>whnf)
  all_goals simp[bO]
def xN(b:DBook)(i:Int):Int:=(b.entries.getD (i-b.base-1).toNat xp).time
theorem ru(b:DBook)(i:Int)(h:bd b=true)(h1:b.base+1<=i)(h2:i<=bO b):aj av 277 [.agg b.ds,.one (dI i)] (.val (pI (xN b i))):=by
  have hp:=bJ h
  have hq:=co h
  obtain⟨k,hk⟩:∃k:Nat,i-b.base-1=k:=⟨(i-b.base-1).toNat,by omega⟩
  have hkl:k<b.entries.length:=by unfold bO at h2;omega
  refine ae ah func277 rfl call277 ntmps277 (MC results277) λS=>?_;conv=>whnf
  repeat'((first|refine aw0 ?_|refine aw1 ?_|refine aw2 ?_|refine aw3 ?_|refine aw4 ?_|refine aw5 ?_|refine aw6 ?_|refine aw7 ?_|refine aw8 ?_|refine bT ?_|refine bF ?_|refine AW.i64 Mo Mo ?_|refine AIx.at k (DEntry.ds (b.entries[k]'hkl)) hk (by simp[hkl]) ?_|exact rr|refine And.intro rfl ?_|refine AB.mk (λh=>?_) (λh=>?_))<;>conv=>whnf)
  · exfalso;simp at h;omega
  · have e:(i-b.base-1).toNat=k:=by omega
    simp only[xN,e,List.getD_eq_getElem?_getD,List.getElem?_eq_getElem hkl,Option.getD_some]
theorem EA(e:DEntry):aj av 302 [.agg e.ds] (.val (.agg (bb e).ds)):=by
  refine ae ah func302 rfl call302 ntmps302 (MC results302) λS=>?_;conv=>whnf
  repeat'((first|refine aw0 ?_|refine aw1 ?_|refine aw2 ?_|refine aw3 ?_|refine aw4 ?_|refine aw5 ?_|refine aw6 ?_|refine aw7 ?_|refine aw8 ?_|refine bT ?_|refine bF ?_|refine cP (fu e) ?_|exact rr|refine And.intro rfl ?_|refine AB.mk (λh=>?_) (λh=>?_))<;>conv=>whnf)
  all_goals
    simp_all[bb,DAck.ds]
theorem zF(e:DEntry):aj av 276 [.agg e.ds] (.val (.agg (bb e).ds)):=by
  refine ae ah func276 rfl call276 ntmps276 (MC results276) λS=>?_;conv=>whnf
  repeat'((first|refine aw0 ?_|refine aw1 ?_|refine aw2 ?_|refine aw3 ?_|refine aw4 ?_|refine aw5 ?_|refine aw6 ?_|refine aw7 ?_|refine aw8 ?_|refine bT ?_|refine bF ?_|refine cP (fA e) ?_|exact rr|refine And.intro rfl ?_|refine AB.mk (λh=>?_) (λh=>?_))<;>conv=>whnf)
  all_goals
    simp_all[bb,DAck.ds]
theorem Et{l:List DEntry}{p:DEntry->Bool}{k:Nat}(hk:k<l.length)(h:p l[k]=true):(l.take (k+1)).filter p=(l.take k).filter p++[l[k]]:=by
  rw[List.take_succ_eq_append_getElem hk,List.filter_append,List.filter_cons_of_pos h,List.filter_nil]
theorem FO{l:List DEntry}{p:DEntry->Bool}{k:Nat}(hk:k<l.length)(h:p l[k]=false):(l.take (k+1)).filter p=(l.take k).filter p:=by
  rw[List.take_succ_eq_append_getElem hk,List.filter_append,List.filter_cons_of_neg (by simp[h]),List.filter_nil,List.append_nil]
theorem Es{l:List DEntry}{p:DEntry->Bool}{k:Nat}:((l.take k).filter p).length<=l.length:=Nat.le_trans (List.length_filter_le ..) Mv
theorem j9(b:DBook)(lo hi:Int)(h20:b.entries.length<=20):aj av 275 [.agg b.ds,.one (dI lo),.one (dI hi)] (.val (.one (.sl ((f8 b lo hi).map DEntry.ds)))):=by
  refine ae ah func275 rfl call275 ntmps275 (MC results275) λS=>?_;conv=>whnf
  repeat'((first|refine aw0 ?_|refine aw1 ?_|refine aw2 ?_|refine aw3 ?_|refine aw4 ?_|refine aw5 ?_|refine aw6 ?_|refine aw7 ?_|refine aw8 ?_|refine bT ?_|refine bF ?_|exact rr|refine And.intro rfl ?_|refine AB.mk (λh=>?_) (λh=>?_))<;>conv=>whnf)
  refine AWP.loopS (λk:Nat=>k<=b.entries.length) (9::[7,8,10,11,12,13,14,15,16,17,18,19,20,21,22,23,24,25,26,27,28,29,30,31,32,33]) (λk=>[(7,.one (.own 9)),(8,vI .i64 (k:Int))]) (λk=>[(9,.row 306 9 (((b.entries.take k).filter λe=>ai e.index lo hi).map DEntry.ds)),(3,.cells 78 (b.ds.map .d))]) (λk=>b.entries.length-k) 0 Mo ?_ (ak.cons rfl (ak.cons rfl ak.nil)) (λk hk=>?_)<;>(conv=>whnf)
  · exact whd
  · have hfl:((b.entries.take k).filter λe=>ai e.index lo hi).length<=b.entries.length:=Es
    repeat'((first|refine aw0 ?_|refine aw1 ?_|refine aw2 ?_|refine aw3 ?_|refine aw4 ?_|refine aw5 ?_|refine aw6 ?_|refine aw7 ?_|refine aw8 ?_|refine bT ?_|refine bF ?_|refine AIx.mapF ari (λhlt=>?_)|refine AW.i64 ari ari ?_|refine cP (aA _ _ _) ?_|refine ce (λx hx=>by obtain⟨y,_,rfl⟩:=List.mem_map.1 hx;rfl) ?_|refine dJ Mz ?_|exact rr|refine And.intro rfl ?_|refine AB.mk (λh=>?_) (λh=>?_))<;>conv=>whnf)
    all_goals first
      | (refine aB.mk ⟨k + 1, ari, ari, ?_, ak.cons (congrArg some (congrArg (AO.row 306 9) (by rw [Et ari Mt]; simp only [List.map_append, List.map_cons, List.map_nil]; rfl))) (ak.cons rfl ak.nil)⟩
         exact hds)
      | (refine aB.mk ⟨k + 1, ari, ari, ?_, ak.cons (congrArg some (congrArg (AO.row 306 9) (by rw [FO ari Mt]))) (ak.cons rfl ak.nil)⟩
         exact hds)
      | (have hkk : k = b.entries.length := ari
         subst hkk
         simp only[List.take_length,f8])
theorem H6{P:List DEntry}{l:List DAck}(hl:P.length=l.length){k:Nat}(hk:k<P.length)(h:(l[k]'(by omega) !=bb P[k])=true):decide (l=P.map bb)=false:=decide_eq_false λe=>by
  subst e
  simp at h
theorem FC{P:List DEntry}{l:List DAck}(hl:P.length=l.length)(h:∀(j:Nat) (h1:j<P.length),l[j]'(by omega)=bb P[j]):decide (l=P.map bb)=true:=decide_eq_true (List.ext_getElem (by simp[hl]) λj h1 h2=>by
  simp at h2
  rw[h j h2];simp)
theorem Fe{P:List DEntry}{l:List DAck}{k:Nat}{hl:P.length=l.length}(h:∀(j:Nat) (hj:j<k) (h1:j<P.length),l[j]'(by omega)=bb P[j]){h1:k<P.length}(hk:l[k]'(by omega)=bb P[k]):∀(j:Nat) (hj:j<k+1) (h1:j<P.length),l[j]'(by omega)=bb P[j]:=λj hj h1=>by
  rcases Nat.lt_succ_iff_lt_or_eq.1 hj with h2|h2
  · exact h j h2 h1
  · subst h2;exact hk
theorem uj(n:DLogNode)(hb:bd n.book=true)(hd:n.book.base<=n.durable/\n.durable<=bO n.book)(ho:n.owe.length<=9223372036854775806):aj av 216 [.agg n.ds] (rB (decide (n.owe=(cY n.book n.durable).map bb))):=by
  have hp:=bJ hb
  have hq:=co hb
  have h20:=hp.2.2.1
  rw[<-Bq hb]
  have hlen:(f8 n.book (n.durable+1) 2000).length<=20:=Nat.le_trans (List.length_filter_le ..) h20
  refine ae ah func216 rfl call216 ntmps216 (MC results216) λS=>?_;conv=>whnf
  repeat'((first|refine aw0 ?_|refine aw1 ?_|refine aw2 ?_|refine aw3 ?_|refine aw4 ?_|refine aw5 ?_|refine aw6 ?_|refine aw7 ?_|refine aw8 ?_|refine bT ?_|refine bF ?_|refine AW.i64 Mo Mo ?_|refine cP (j9 n.book _ _ h20) ?_|exact rr|refine And.intro rfl ?_|refine AB.mk (λh=>?_) (λh=>?_))<;>conv=>whnf)
  · have hne:(f8 n.book (n.durable+1) 2000).length≠n.owe.length:=Mu
    rw[decide_eq_false λe=>hne (by rw[e,List.length_map])]
  · have hln:(f8 n.book (n.durable+1) 2000).length=n.owe.length:=Mu
    clear h
    refine AWP.loopS (λk:Nat=>k<=(f8 n.book (n.durable+1) 2000).length/\∀(j:Nat) (hj:j<k) (h1:j<(f8 n.book (n.durable+1) 2000).length),n.owe[j]'(by omega)=bb (f8 n.book (n.durable+1) 2000)[j]) [2,4,17,18,19,20,21,22,23,24,25,26,27,28,29,30,31,32,33] (λk=>[(4,vI .i64 (k:Int))]) (λ_=>[(1,.cells 81 (n.ds.map .d))]) (λk=>(f8 n.book (n.durable+1) 2000).length-k) 0 ⟨by omega,by omega⟩ ?_ (ak.cons rfl ak.nil) (λk hR=>?_)<;>(conv=>whnf)
    · exact whd
    · obtain⟨hk,hall⟩:=hR
      repeat'((first|refine aw0 ?_|refine aw1 ?_|refine aw2 ?_|refine aw3 ?_|refine aw4 ?_|refine aw5 ?_|refine aw6 ?_|refine aw7 ?_|refine aw8 ?_|refine bT ?_|refine bF ?_|refine AWP.drawK ah 7 10 kP lk Mp Mp Mp rfl ?_|refine AIx.mapF ari (λhlt=>?_)|refine AIx.mapF (l:=n.owe) (by clear hall;simp only[List.length_map,decide_eq_true_eq]at*;omega) (λhlt=>?_)|refine AW.i64 ari ari ?_|refine cP (zF _) ?_|refine AOp.eqs (qq _ _) rfl rfl rfl rfl rfl ?_|exact rr|refine And.intro rfl ?_|refine AB.mk (λh=>?_) (λh=>?_))<;>conv=>whnf)
      all_goals first
        |(rw[H6 hln (k:=k) ari (by first|(simpa using h)|(exfalso;assumption))];done)
        | (refine aB.mk ⟨k + 1, ⟨ari, Fe (hl := hln) (h1 := ari) hall (by simpa using h)⟩, ari, ?_, ak.cons rfl ak.nil⟩
           exact hds)
        | (have hkk : k = (f8 n.book (n.durable + 1) 2000).length := ari
           rw[FC hln λj h1=>hall j Mo h1])
theorem rN{a b:DHead}:a=b↔(a.num=b.num/\a.base=b.base/\a.time=b.time/\a.seen=b.seen):=by
  cases a;cases b;simp[DHead.mk.injEq]
theorem eC(a b:DHead)(ha:a.seen.length<=9223372036854775806):aj av 254 [.agg a.ds,.agg b.ds] (rB (decide (a=b))):=by
  refine ae ah func254 rfl call254 ntmps254 (MC results254) λS=>?_;conv=>whnf
  repeat'((first|refine aw0 ?_|refine aw1 ?_|refine aw2 ?_|refine aw3 ?_|refine aw4 ?_|refine aw5 ?_|refine aw6 ?_|refine aw7 ?_|refine aw8 ?_|refine bT ?_|refine bF ?_|refine cP (cO a.seen b.seen ha) ?_|exact rr|refine And.intro rfl ?_|refine AB.mk (λh=>?_) (λh=>?_))<;>conv=>whnf)
  all_goals
    refine aG ?_
    rw[Bool.eq_iff_iff]
    simp only[decide_eq_true_iff,rN]
    simp_all
theorem fe(a b:DHead)(ha:a.seen.length<=9223372036854775806):aj av 217 [.agg a.ds,.agg b.ds] (rB (decide (a=b))):=by
  refine ae ah func217 rfl call217 ntmps217 (MC results217) λS=>?_;conv=>whnf
  repeat'((first|refine aw0 ?_|refine aw1 ?_|refine aw2 ?_|refine aw3 ?_|refine aw4 ?_|refine aw5 ?_|refine aw6 ?_|refine aw7 ?_|refine aw8 ?_|refine bT ?_|refine bF ?_|refine cP (ic a.seen b.seen ha) ?_|exact rr|refine And.intro rfl ?_|refine AB.mk (λh=>?_) (λh=>?_))<;>conv=>whnf)
  all_goals
    refine aG ?_
    rw[Bool.eq_iff_iff]
    simp only[decide_eq_true_iff,rN]
    simp_all
theorem BS{a b:DBook}:a=b↔(a.base=b.base/\a.time=b.time/\a.entries=b.entries):=by
  cases a;cases b;simp[DBook.mk.injEq]
theorem qQ(a b:DBook)(ha:a.entries.length<=9223372036854775806):aj av 255 [.agg a.ds,.agg b.ds] (rB (decide (a=b))):=by
  refine ae ah func255 rfl call255 ntmps255 (MC results255) λS=>?_;conv=>whnf
  repeat'((first|refine aw0 ?_|refine aw1 ?_|refine aw2 ?_|refine aw3 ?_|refine aw4 ?_|refine aw5 ?_|refine aw6 ?_|refine aw7 ?_|refine aw8 ?_|refine bT ?_|refine bF ?_|refine cP (rv a.entries b.entries ha) ?_|exact rr|refine And.intro rfl ?_|refine AB.mk (λh=>?_) (λh=>?_))<;>conv=>whnf)
  all_goals
    refine aG ?_
    rw[Bool.eq_iff_iff]
    simp only[decide_eq_true_iff,BS]
    simp_all
theorem fg(a:DHead):aj av 220 [.agg a.ds] (rB (decide (a=kv))):=by
  refine ae ah func220 rfl call220 ntmps220 (MC results220) λS=>?_;conv=>whnf
  repeat'((first|refine aw0 ?_|refine aw1 ?_|refine aw2 ?_|refine aw3 ?_|refine aw4 ?_|refine aw5 ?_|refine aw6 ?_|refine aw7 ?_|refine aw8 ?_|refine bT ?_|refine bF ?_|exact rr|refine And.intro rfl ?_|refine AB.mk (λh=>?_) (λh=>?_))<;>conv=>whnf)
  all_goals
    refine aG ?_
    rw[Bool.eq_iff_iff]
    simp only[decide_eq_true_iff,rN]
    simp_all[kv]
theorem FH{a b:DDisk}:a=b↔(a.kept=b.kept/\a.wait=b.wait):=by
  cases a;cases b;simp[DDisk.mk.injEq]
theorem g0(a b:DDisk)(h1:a.kept.length<=9223372036854775806)(h2:∀y∈a.kept,y.length<=9223372036854775806)(h3:a.wait.length<=9223372036854775806)(h4:∀y∈a.wait,y.row.length<=9223372036854775806):aj av 253 [.agg a.ds,.agg b.ds] (rB (decide (a=b))):=by
  refine ae ah func253 rfl call253 ntmps253 (MC results253) λS=>?_;conv=>whnf
  repeat'((first|refine aw0 ?_|refine aw1 ?_|refine aw2 ?_|refine aw3 ?_|refine aw4 ?_|refine aw5 ?_|refine aw6 ?_|refine aw7 ?_|refine aw8 ?_|refine bT ?_|refine bF ?_|refine cP (ut a.kept b.kept h1 h2) ?_|refine cP (pW a.wait b.wait h3 h4) ?_|exact rr|refine And.intro rfl ?_|refine AB.mk (λh=>?_) (λh=>?_))<;>conv=>whnf)
  all_goals
    refine aG ?_
    rw[Bool.eq_iff_iff]
    simp only[decide_eq_true_iff,FH]
    simp_all
end Go.Proofs.YtehobfglmeiglaaGreatDoor
