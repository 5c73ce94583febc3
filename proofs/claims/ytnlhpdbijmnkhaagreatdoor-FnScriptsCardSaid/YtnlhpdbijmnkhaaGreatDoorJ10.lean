/- J10 -/
import Derived.Test.YtnlhpdbijmnkhaaGreatDoorJ08
import Derived.Test.YtnlhpdbijmnkhaaGreatDoorJ02
import Derived.Test.YtnlhpdbijmnkhaaGreatDoorJ07
import Derived.RangeFuncNested
import Derived.RangeFuncBound
import Derived.RangeFuncCalls
import Derived.RangeFuncLeaves
import Derived.Shelf.Abstract
import Derived.Shelf.RegionOpen
import Derived.WalkKit
import Derived.OwnWalkIn
import Derived.TacticsInMore
import Derived.LoopNIn
import Derived.LoopIn
import Derived.Maps.AppendAt
import Derived.Test.YtnlhpdbijmnkhaaGreatDoorJ04
set_option linter.unusedVariables false
set_option linter.unusedSimpArgs false
set_option maxRecDepth 100000
namespace Go.Proofs.YtnlhpdbijmnkhaaGreatDoor
open Go.Proofs.Tryz
open Go.ChangeShapes Go.WideShapes Go.RowKit
def f9:List (List Nat):=cX [0,1,129,12354,1056835,84676740,1056835,416645656903,17730751197510,2560014318047364,181278753171460489,12845977467030348042,897045555741031948875,47521137471379338482380,4288735575005357318349066,293183549505679279592354574,20081519705366427266760327823,1365642509910857212984157848464,76856308401616789069458197521425,6253342968325639574771053470696079,420302552420489684782885030978978899,28314001861456074263765295688011785172,1898452381420072888874664982857379812565,110179792301716847927724613560953444595030,8484376297489341970054194503657943330759636]
def gc:List (List Nat):=dQ 7 [0,1,4,13,1498,1579,688]
def kM:List (List Nat):=cX [0,1,129,12354,1056835,84676740,6510088389,486455648518,84676740,9731313861,692614078729,9332593195938001482,372412241764185567624,61988106853988610609349,4255074752124109987799565,294109435546166273008480590,20079365412702027437605159759,1115442315820822688641729237968,92557395712311800847789419934030,6237240827722640460953035062178834,421307422008374165536698229213385619,28312971324457482320480942509866681492,1635055259542523860996072423339808351509,127037440858952856457949213307312938963859]
def kU:List (List Nat):=dQ 11 [0,1,4,13,40,170707,170950,171679,6439,13000,32683]
def ia:List (List Nat):=cX [0,1,0,8259,1060930,0,6,0,29064,2392455,0,11,0,23760614502006025142989,4293456789134072521429125]
def ii:List (List Nat):=dQ 13 [1594098,1594099,1594088,1594093,1594120,1539890,1540133,1537460,1538675,1545236,1121930,1180979,531440]
theorem CX{a b:DStore}:a=b↔(a.disk=b.disk/\a.state=b.state/\a.num=b.num/\a.last=b.last/\a.busy=b.busy):=by
  cases a;cases b;simp[DStore.mk.injEq]
theorem A5:cv fG=true:=by decide
theorem Fw(s:DState):(cv s&&cv fG&&decide (s=fG))=decide (s=fG):=by
  by_cases h:s=fG
  · simp[h,A5]
  · simp[h]
theorem jI(s:DStore)(hs:s.state.pairs.length<=9223372036854775806)(hj:s.state.jobs.length<=9223372036854775806):an av 67 [.agg s.ds] (rB (fZ s)):=by
  refine ai aj func67 rfl call67 ntmps67 (IG results67) λS=>?_;conv=>whnf
  repeat'((first|refine aw0 ?_|refine aw1 ?_|refine aw2 ?_|refine aw3 ?_|refine aw4 ?_|refine aw5 ?_|refine aw6 ?_|refine aw7 ?_|refine aw8 ?_|refine bT ?_|refine bF ?_|refine AWP.drawK aj 1 7 f9 gc Iw Iw Iw rfl ?_|refine cP (cC s.disk) ?_|refine cP (pc) ?_|refine cP (nL s.state fG hs Ix hj) ?_|exact rr|refine And.intro rfl ?_|refine AB.mk (λh=>?_) (λh=>?_))<;>conv=>whnf)
  all_goals
    refine bK ?_
    try simp only[Fw]at*
    rw[Bool.eq_iff_iff]
    simp[fZ,CX]
    simp_all
theorem pm(s:DStore)(up:Bool)(hs:s.state.pairs.length<=9223372036854775806)(hj:s.state.jobs.length<=9223372036854775806):an av 47 [.agg s.ds,.one (dB up)] (rB (if up then l3 s else fZ s)):=by
  refine ai aj func47 rfl call47 ntmps47 (IG results47) λS=>?_;conv=>whnf
  repeat'((first|refine aw0 ?_|refine aw1 ?_|refine aw2 ?_|refine aw3 ?_|refine aw4 ?_|refine aw5 ?_|refine aw6 ?_|refine aw7 ?_|refine aw8 ?_|refine bT ?_|refine bF ?_|refine cP (rZ s hs) ?_|refine cP (jI s hs hj) ?_|exact rr|refine And.intro rfl ?_|refine AB.mk (λh=>?_) (λh=>?_))<;>conv=>whnf)
  all_goals
    refine bK ?_
    simp_all
def l13(k:Int):Int:=if k==1 then 1 else if k==2 then 2 else if k==3 then 3 else 0
theorem xB(k:Int):an av 83 [.one (dI k)] (.val (pI (l13 k))):=by
  refine ai aj func83 rfl call83 ntmps83 (IG results83) λS=>?_;conv=>whnf
  repeat'((first|refine aw0 ?_|refine aw1 ?_|refine aw2 ?_|refine aw3 ?_|refine aw4 ?_|refine aw5 ?_|refine aw6 ?_|refine aw7 ?_|refine aw8 ?_|refine bT ?_|refine bF ?_|exact rr|refine And.intro rfl ?_|refine AB.mk (λh=>?_) (λh=>?_))<;>conv=>whnf)
  all_goals simp_all[l13]
theorem ui(w:DWant):an av 57 [.agg w.ds] (rB (gX w)):=by
  refine ai aj func57 rfl call57 ntmps57 (IG results57) λS=>?_;conv=>whnf
  repeat'((first|refine aw0 ?_|refine aw1 ?_|refine aw2 ?_|refine aw3 ?_|refine aw4 ?_|refine aw5 ?_|refine aw6 ?_|refine aw7 ?_|refine aw8 ?_|refine bT ?_|refine bF ?_|refine AWP.drawK aj 3 11 kM kU Iw Iw Iw rfl ?_|refine cP (nJ w.op) ?_|refine cP (xD _) ?_|refine cP (xB w.kind) ?_|refine AOp.eqs (qT w.op op0) rfl rfl rfl rfl rfl ?_|exact rr|refine And.intro rfl ?_|refine AB.mk (λh=>?_) (λh=>?_))<;>conv=>whnf)
  all_goals
    refine bK ?_
    first
      |(simp_all[gX,op0,l13];done)
      |(by_cases k1:w.kind=1<;>by_cases k2:w.kind=2<;>by_cases k3:w.kind=3<;>simp_all[gX,op0,l13])
theorem Hm(x:Int):ac x 0 1=(x==0||x==1):=by
  rw[Bool.eq_iff_iff];simp[ac];omega
theorem uk(w:DWant)(g:DGot)(q l:Int):an av 58 [.agg w.ds,.agg g.ds,.one (dI q),.one (dI l)] (rB (tP w g q l)):=by
  refine ai aj func58 rfl call58 ntmps58 (IG results58) λS=>?_;conv=>whnf
  repeat'((first|refine aw0 ?_|refine aw1 ?_|refine aw2 ?_|refine aw3 ?_|refine aw4 ?_|refine aw5 ?_|refine aw6 ?_|refine aw7 ?_|refine aw8 ?_|refine bT ?_|refine bF ?_|refine cP (aI _ _ _) ?_|refine cP (sk _) ?_|exact rr|refine And.intro rfl ?_|refine AB.mk (λh=>?_) (λh=>?_))<;>conv=>whnf)
  all_goals
    refine bK ?_
    try simp only[Hm]at*
    first
      |(simp_all[tP];done)
      | (have e0 : ac 0 0 999 = true := by decide
         rw[Bool.eq_iff_iff]
         simp_all[tP,ac]
         omega)
theorem va{α:Type}{l:List α}{k:Nat}{d:α}(h:k<l.length):l.getD k d=l[k]:=by simp[List.getD_eq_getElem?_getD,h]
def clG(c:DClient)(k:Nat):Bool:=tP (c.todo.getD k ⟨0,op0,0⟩) (c.gots.getD k ⟨0,0,0,0⟩) ((k:Int)+1) (k9 c.gots k)
theorem BO{c:DClient}{k:Nat}{l:Int}{b:Bool}(h1:k<c.todo.length)(h2:k<c.gots.length)(hl:l=k9 c.gots k)(h:tP c.todo[k] c.gots[k] ((k:Int)+1) l=b):clG c k=b:=by
  rw[<-h,hl]
  simp only[clG,va h1,va h2]
theorem Au{c:DClient}{k:Nat}(h2:k<c.gots.length):c.gots[k].index=k9 c.gots (k+1):=by
  simp only[k9,va h2]
theorem yl{c:DClient}(h:((c.id==4||c.id==5)&&c.todo.all gX&&decide (c.todo.length<=12)&&decide (c.gots.length<=c.todo.length))=false):cj c=false:=by simp only[cj,h,Bool.false_and]
theorem ym{c:DClient}{k:Nat}(hk:k<c.gots.length)(h:clG c k=false):cj c=false:=by
  have:=C5 (ok:=clG c) hk h
  simp only[cj]
  unfold clG at this
  rw[this]
  simp
theorem uU{c:DClient}{b:Bool}(h:((c.id==4||c.id==5)&&c.todo.all gX&&decide (c.todo.length<=12)&&decide (c.gots.length<=c.todo.length))=true)(ha:∀k,k<c.gots.length->clG c k=true)(hb:(c.last==k9 c.gots c.gots.length)=b):cj c=b:=by
  have:=BK (ok:=clG c) ha
  unfold clG at this
  simp only[cj,h,this,hb,Bool.true_and]
theorem D1{p:Nat->Bool}{k:Nat}(h:∀j,j<k->p j=true)(hk:p k=true):∀j,j<k+1->p j=true:=λj hj=>by
  rcases Nat.lt_succ_iff_lt_or_eq.1 hj with h1|h1
  · exact h j h1
  · rw[h1];exact hk
def ni(c:DClient):Bool:=(c.id==4||c.id==5)&&c.todo.all gX&&decide (c.todo.length<=12)&&decide (c.gots.length<=c.todo.length)
theorem Cy{c:DClient}(h:ni c=false):cj c=false:=yl h
theorem cM(c:DClient)(ht:c.todo.length<=9223372036854775806)(hg:c.gots.length<=9223372036854775806):an av 40 [.agg c.ds] (rB (cj c)):=by
  refine ai aj func40 rfl call40 ntmps40 (IG results40) λS=>?_;conv=>whnf
  repeat'((first|refine aw0 ?_|refine aw1 ?_|refine aw2 ?_|refine aw3 ?_|refine aw4 ?_|refine aw5 ?_|refine aw6 ?_|refine aw7 ?_|refine aw8 ?_|refine bT ?_|refine bF ?_|exact rr|refine And.intro rfl ?_|refine AB.mk (λh=>?_) (λh=>?_))<;>conv=>whnf)
  all_goals first
    | (have hno : ni c = false := by (first | (simp_all [ni]; done) | (rw [← Bool.not_eq_true]; simp_all [ni]; done) | (rw [← Bool.not_eq_true]; simp_all [ni]; intros; omega))
       rw[Cy hno];done)
    |skip
  all_goals
    have hpre0:((c.id==4||c.id==5)&&decide (c.todo.length<=12)&&decide (c.gots.length<=c.todo.length))=true:=by(first|(simp_all;done)|(simp_all;omega))
    have hle:c.gots.length<=c.todo.length:=by simp only[Bool.and_eq_true,decide_eq_true_iff]at hpre0;exact hpre0.2
    refine AWP.loopS (λk:Nat=>k<=c.todo.length/\∀(j:Nat) (hj:j<k) (hl:j<c.todo.length),gX c.todo[j]=true) [2,3,29,30,31,32,33,34,35,36,37,38,39,40,41,42] (λk=>[(3,vI .i64 (k:Int))]) (λ_=>[(1,.cells 62 (c.ds.map .d))]) (λk=>c.todo.length-k) 0 ⟨by omega,by omega⟩ ?_ (ae.cons rfl ae.nil) (λk hR=>?_)<;>(conv=>whnf)
    · exact whd
    · obtain⟨hk,hall⟩:=hR
      repeat'((first|refine aw0 ?_|refine aw1 ?_|refine aw2 ?_|refine aw3 ?_|refine aw4 ?_|refine aw5 ?_|refine aw6 ?_|refine aw7 ?_|refine aw8 ?_|refine bT ?_|refine bF ?_|refine AIx.mapF ari (λhlt=>?_)|refine AW.i64 ari ari ?_|refine cP (ui c.todo[k]) ?_|exact rr|refine And.intro rfl ?_|refine AB.mk (λh=>?_) (λh=>?_))<;>conv=>whnf)
      all_goals first
        | (have hno:ni c=false:=by
             have:=kD (p:=gX) (k:=k) ari (by first|(simpa using h)|(exfalso;assumption))
             simp only[ni,this,Bool.and_false,Bool.false_and]
           rw[Cy hno];done)
        | (refine aN.mk ⟨k + 1, ⟨ari, gq hall ari (by simp_all)⟩, ari, ?_, ae.cons rfl ae.nil⟩
           exact hds)
        |skip
      have hpre:ni c=true:=by
        have e:=iV (p:=gX) hall ari
        simp only[ni,e,Bool.and_true]
        exact hpre0
      refine AWP.loopS (λg:Nat×Int=>g.1<=c.gots.length/\g.2=k9 c.gots g.1/\∀j,j<g.1->clG c j=true) [2,4,5,43,44,45,46,47,48,49,50,51,52,53,54,55,56,57,58,59,60,61,62,63,64,65,66,67,68,69,70] (λg=>[(4,vI .i64 g.2),(5,vI .i64 (g.1:Int))]) (λ_=>[(1,.cells 62 (c.ds.map .d))]) (λg=>c.gots.length-g.1) (0,0) ⟨by omega,rfl,by omega⟩ ?_ (ae.cons rfl ae.nil) (λg hR=>?_)<;>(conv=>whnf)
      · exact whd
      · obtain⟨hk,hl,hall⟩:=hR
        repeat'((first|refine aw0 ?_|refine aw1 ?_|refine aw2 ?_|refine aw3 ?_|refine aw4 ?_|refine aw5 ?_|refine aw6 ?_|refine aw7 ?_|refine aw8 ?_|refine bT ?_|refine bF ?_|refine AWP.drawK aj 12 13 ia ii Iw Iw Iw rfl ?_|refine AIx.mapF ari (λhlt=>?_)|refine AW.i64 ari ari ?_|refine cP (uk c.todo[g.1] c.gots[g.1] _ _) ?_|exact rr|refine And.intro rfl ?_|refine AB.mk (λh=>?_) (λh=>?_))<;>conv=>whnf)
        all_goals first
          |(rw[ym (k:=g.1) ari (BO ari ari hl (by first|(simpa using h)|(exfalso;assumption)))];done)
          | (refine aN.mk ⟨(g.1 + 1, c.gots[g.1].index), ⟨ari, Au ari, D1 hall (BO ari ari hl (by first | (simpa using h) | assumption | (exfalso; assumption)))⟩, ari, ?_, ae.cons rfl ae.nil⟩
             exact hds)
          | (have hkk : g.1 = c.gots.length := ari
             rw[uU hpre (λk hk'=>hall k Iv) (by rw[<-hkk,<-hl])])
end Go.Proofs.YtnlhpdbijmnkhaaGreatDoor
namespace Go.Proofs.YtnlhpdbijmnkhaaGreatDoor
open Go.Proofs.Tryz
open Go.ChangeShapes Go.WideShapes Go.RowKit
def jU:List (List Nat):=cX [0,1,0,8259,1060930,0,0,391,33222,2384328,90639551170638217]
def ke:List (List Nat):=dQ 10 [58824,58825,58814,58819,58846,1700,728,1214,3401,9962]
def BW:DEntry:=⟨0,0,0,0,⟨0,0,0,0,0⟩⟩
theorem dh{b:DBook}(h:cg b=true):(0<=b.base/\b.base<=2000)/\tOk b.time=true/\b.entries.length<=20/\cB b.entries=true:=by
  simp only[cg,Bool.and_eq_true,ac,decide_eq_true_eq]at h
  obtain⟨⟨⟨⟨⟨h1,h2⟩,_⟩,h4⟩,h5⟩,_⟩:=h
  exact⟨h1,h2,h4,h5⟩
theorem qN{b:DBook}(h:cg b=true){k:Nat}(hk:k<b.entries.length):ca b.entries[k]=true:=by
  have h5:=(dh h).2.2.2
  simp only[cB,Bool.and_eq_true]at h5
  exact lK h5.1.2 hk
theorem yh{b:DBook}(h:cg b=true){e:DEntry}{r:List DEntry}(he:b.entries=e::r):e.index=b.base+1:=by
  simp only[cg,Bool.and_eq_true]at h
  have h6:=h.2
  rw[he]at h6
  simp only[Bool.and_eq_true,beq_iff_eq]at h6
  exact h6.1
theorem De{l:List DEntry}(hk:0<l.length):∃r,l=l[0]::r:=by
  cases l with
  |nil=>simp at hk
  |cons e r=>exact⟨r,rfl⟩
theorem mD{b:DBook}(h:cg b=true):∀(k:Nat) (hk:k<b.entries.length),b.entries[k].index=b.base+1+k:=by
  intro k
  induction k with
  |zero=>
    intro hk
    obtain⟨r,hr⟩:=De hk
    have:=yh h hr
    omega
  |succ k ih=>
    intro hk
    have h5:=(dh h).2.2.2
    simp only[cB,Bool.and_eq_true]at h5
    have:=kA h5.2 hk
    simp only[nv,Bool.and_eq_true,beq_iff_eq]at this
    have:=ih Iv
    omega
theorem hE{b:DBook}(h:cg b=true):b.base<=er b/\er b<=2000:=by
  have h1:=(dh h).1
  refine⟨by unfold er;omega,?_⟩
  rcases Nat.eq_zero_or_pos b.entries.length with h0|h0
  · unfold er;omega
  · have h2:=mD h (b.entries.length-1) Iv
    have h3:=iW (qN h (k:=b.entries.length-1) Iv)
    have h4:=h3.2.2
    simp only[ac,Bool.and_eq_true,decide_eq_true_eq]at h4
    unfold er
    omega
theorem D4{l:List DEntry}:∀{c m:Int},(∀(k:Nat) (hk:k<l.length),l[k].index=c+k)->l.filter (λe=>decide (e.index<m))=l.take (m-c).toNat:=by
  induction l with
  |nil=>intro c m _;simp
  |cons e r ih=>
    intro c m h
    have h0:=h 0 Iy
    have hr:=ih (c:=c+1) (m:=m) λk hk=>by
      have:=h (k+1) (by simpa using hk)
      simp only[List.getElem_cons_succ]at this
      omega
    simp only[List.getElem_cons_zero]at h0
    by_cases hm:e.index<m
    · rw[List.filter_cons_of_pos (by simpa using hm),hr]
      have:(m-c).toNat=(m-(c+1)).toNat+1:=by omega
      rw[this,List.take_succ_cons]
    · rw[List.filter_cons_of_neg (by simpa using hm),hr]
      have e1:(m-c).toNat=0:=by omega
      have e2:(m-(c+1)).toNat=0:=by omega
      rw[e1,e2];simp
def fK(b:DBook)(lo hi:Int):List DEntry:=b.entries.filter λe=>ac e.index lo hi
theorem mm{l:List DEntry}{p q:DEntry->Bool}(h:∀e∈l,p e=q e):l.filter p=l.filter q:=by
  induction l with
  |nil=>rfl
  |cons e r ih=>
    have h0:=h e Iy
    have hr:=ih λx hx=>h x (List.mem_cons_of_mem _ hx)
    cases hp:p e with
    |true=>rw[List.filter_cons_of_pos hp,List.filter_cons_of_pos (by rw[<-h0,hp]),hr]
    |false=>rw[List.filter_cons_of_neg (by simp[hp]),List.filter_cons_of_neg (by simp[<-h0,hp]),hr]
theorem Dz{b:DBook}(h:cg b=true)(i:Int):fK b (b.base+1) i=BV b i:=by
  have h1:fK b (b.base+1) i=b.entries.filter λe=>decide (e.index<i+1):=mm λe he=>by
    obtain⟨k,hk,rfl⟩:=List.getElem_of_mem he
    have:=mD h k hk
    rw[Bool.eq_iff_iff]
    simp[ac]
    omega
  rw[h1,D4 (c:=b.base+1) (mD h)]
  unfold BV
  congr 1
  omega
theorem yX{b:DBook}(h:cg b=true)(d:Int):fK b (d+1) 2000=fq b d:=mm λe he=>by
  obtain⟨k,hk,rfl⟩:=List.getElem_of_mem he
  have h3:=(iW (qN h hk)).2.2
  rw[Bool.eq_iff_iff]
  simp[ac]at h3⊢
  omega
theorem uo(b:DBook)(h:cg b=true):an av 95 [.agg b.ds] (.val (pI (er b))):=by
  have hp:=dh h
  have hq:=hE h
  refine ai aj func95 rfl call95 ntmps95 (IG results95) λS=>?_;conv=>whnf
  repeat'((first|refine aw0 ?_|refine aw1 ?_|refine aw2 ?_|refine aw3 ?_|refine aw4 ?_|refine aw5 ?_|refine aw6 ?_|refine aw7 ?_|refine aw8 ?_|refine bT ?_|refine bF ?_|refine AW.i64 ari ari ?_|exact rr|refine And.intro rfl ?_|refine AB.mk (λh=>?_) (λh=>?_))<;>conv=>whnf)
  all_goals simp[er]
def vK(b:DBook)(i:Int):Int:=(b.entries.getD (i-b.base-1).toNat BW).time
theorem pn(b:DBook)(i:Int)(h:cg b=true)(h1:b.base+1<=i)(h2:i<=er b):an av 129 [.agg b.ds,.one (dI i)] (.val (pI (vK b i))):=by
  have hp:=dh h
  have hq:=hE h
  obtain⟨k,hk⟩:∃k:Nat,i-b.base-1=k:=⟨(i-b.base-1).toNat,by omega⟩
  have hkl:k<b.entries.length:=by unfold er at h2;omega
  refine ai aj func129 rfl call129 ntmps129 (IG results129) λS=>?_;conv=>whnf
  repeat'((first|refine aw0 ?_|refine aw1 ?_|refine aw2 ?_|refine aw3 ?_|refine aw4 ?_|refine aw5 ?_|refine aw6 ?_|refine aw7 ?_|refine aw8 ?_|refine bT ?_|refine bF ?_|refine AW.i64 Iv Iv ?_|refine AIx.at k (DEntry.ds (b.entries[k]'hkl)) hk (by simp[hkl]) ?_|exact rr|refine And.intro rfl ?_|refine AB.mk (λh=>?_) (λh=>?_))<;>conv=>whnf)
  · exfalso;simp at h;omega
  · have e:(i-b.base-1).toNat=k:=by omega
    simp only[vK,e,List.getD_eq_getElem?_getD,List.getElem?_eq_getElem hkl,Option.getD_some]
theorem xl(e:DEntry):an av 128 [.agg e.ds] (.val (.agg (fg e).ds)):=by
  refine ai aj func128 rfl call128 ntmps128 (IG results128) λS=>?_;conv=>whnf
  repeat'((first|refine aw0 ?_|refine aw1 ?_|refine aw2 ?_|refine aw3 ?_|refine aw4 ?_|refine aw5 ?_|refine aw6 ?_|refine aw7 ?_|refine aw8 ?_|refine bT ?_|refine bF ?_|refine cP (eY e) ?_|exact rr|refine And.intro rfl ?_|refine AB.mk (λh=>?_) (λh=>?_))<;>conv=>whnf)
  all_goals
    simp_all[fg,DAck.ds]
theorem B6{l:List DEntry}{p:DEntry->Bool}{k:Nat}(hk:k<l.length)(h:p l[k]=true):(l.take (k+1)).filter p=(l.take k).filter p++[l[k]]:=by
  rw[List.take_succ_eq_append_getElem hk,List.filter_append,List.filter_cons_of_pos h,List.filter_nil]
theorem C9{l:List DEntry}{p:DEntry->Bool}{k:Nat}(hk:k<l.length)(h:p l[k]=false):(l.take (k+1)).filter p=(l.take k).filter p:=by
  rw[List.take_succ_eq_append_getElem hk,List.filter_append,List.filter_cons_of_neg (by simp[h]),List.filter_nil,List.append_nil]
theorem B5{l:List DEntry}{p:DEntry->Bool}{k:Nat}:((l.take k).filter p).length<=l.length:=Nat.le_trans (List.length_filter_le ..) IB
theorem jp(b:DBook)(lo hi:Int)(h20:b.entries.length<=20):an av 127 [.agg b.ds,.one (dI lo),.one (dI hi)] (.val (.one (.sl ((fK b lo hi).map DEntry.ds)))):=by
  refine ai aj func127 rfl call127 ntmps127 (IG results127) λS=>?_;conv=>whnf
  repeat'((first|refine aw0 ?_|refine aw1 ?_|refine aw2 ?_|refine aw3 ?_|refine aw4 ?_|refine aw5 ?_|refine aw6 ?_|refine aw7 ?_|refine aw8 ?_|refine bT ?_|refine bF ?_|exact rr|refine And.intro rfl ?_|refine AB.mk (λh=>?_) (λh=>?_))<;>conv=>whnf)
  refine AWP.loopS (λk:Nat=>k<=b.entries.length) (9::[7,8,10,11,12,13,14,15,16,17,18,19,20,21,22,23,24,25,26,27,28,29,30,31,32,33]) (λk=>[(7,.one (.own 9)),(8,vI .i64 (k:Int))]) (λk=>[(9,.row 201 9 (((b.entries.take k).filter λe=>ac e.index lo hi).map DEntry.ds)),(3,.cells 38 (b.ds.map .d))]) (λk=>b.entries.length-k) 0 Iv ?_ (ae.cons rfl (ae.cons rfl ae.nil)) (λk hk=>?_)<;>(conv=>whnf)
  · exact whd
  · have hfl:((b.entries.take k).filter λe=>ac e.index lo hi).length<=b.entries.length:=B5
    repeat'((first|refine aw0 ?_|refine aw1 ?_|refine aw2 ?_|refine aw3 ?_|refine aw4 ?_|refine aw5 ?_|refine aw6 ?_|refine aw7 ?_|refine aw8 ?_|refine bT ?_|refine bF ?_|refine AIx.mapF ari (λhlt=>?_)|refine AW.i64 ari ari ?_|refine cP (aI _ _ _) ?_|refine ba (λx hx=>by obtain⟨y,_,rfl⟩:=List.mem_map.1 hx;rfl) ?_|refine bo IF ?_|exact rr|refine And.intro rfl ?_|refine AB.mk (λh=>?_) (λh=>?_))<;>conv=>whnf)
    all_goals first
      | (refine aN.mk ⟨k + 1, ari, ari, ?_, ae.cons (congrArg some (congrArg (AO.row 201 9) (by rw [B6 ari Iz]; simp only [List.map_append, List.map_cons, List.map_nil]; rfl))) (ae.cons rfl ae.nil)⟩
         exact hds)
      | (refine aN.mk ⟨k + 1, ari, ari, ?_, ae.cons (congrArg some (congrArg (AO.row 201 9) (by rw [C9 ari Iz]))) (ae.cons rfl ae.nil)⟩
         exact hds)
      | (have hkk : k = b.entries.length := ari
         subst hkk
         simp only[List.take_length,fK])
theorem EY{P:List DEntry}{l:List DAck}(hl:P.length=l.length){k:Nat}(hk:k<P.length)(h:(l[k]'(by omega) !=fg P[k])=true):decide (l=P.map fg)=false:=decide_eq_false λe=>by
  subst e
  simp at h
theorem C3{P:List DEntry}{l:List DAck}(hl:P.length=l.length)(h:∀(j:Nat) (h1:j<P.length),l[j]'(by omega)=fg P[j]):decide (l=P.map fg)=true:=decide_eq_true (List.ext_getElem (by simp[hl]) λj h1 h2=>by
  simp at h2
  rw[h j h2];simp)
theorem CR{P:List DEntry}{l:List DAck}{k:Nat}{hl:P.length=l.length}(h:∀(j:Nat) (hj:j<k) (h1:j<P.length),l[j]'(by omega)=fg P[j]){h1:k<P.length}(hk:l[k]'(by omega)=fg P[k]):∀(j:Nat) (hj:j<k+1) (h1:j<P.length),l[j]'(by omega)=fg P[j]:=λj hj h1=>by
  rcases Nat.lt_succ_iff_lt_or_eq.1 hj with h2|h2
  · exact h j h2 h1
  · subst h2;exact hk
theorem sg(n:DLogNode)(hb:cg n.book=true)(hd:n.book.base<=n.durable/\n.durable<=er n.book)(ho:n.owe.length<=9223372036854775806):an av 96 [.agg n.ds] (rB (decide (n.owe=(fq n.book n.durable).map fg))):=by
  have hp:=dh hb
  have hq:=hE hb
  have h20:=hp.2.2.1
  rw[<-yX hb]
  have hlen:(fK n.book (n.durable+1) 2000).length<=20:=Nat.le_trans (List.length_filter_le ..) h20
  refine ai aj func96 rfl call96 ntmps96 (IG results96) λS=>?_;conv=>whnf
  repeat'((first|refine aw0 ?_|refine aw1 ?_|refine aw2 ?_|refine aw3 ?_|refine aw4 ?_|refine aw5 ?_|refine aw6 ?_|refine aw7 ?_|refine aw8 ?_|refine bT ?_|refine bF ?_|refine AW.i64 Iv Iv ?_|refine cP (jp n.book _ _ h20) ?_|exact rr|refine And.intro rfl ?_|refine AB.mk (λh=>?_) (λh=>?_))<;>conv=>whnf)
  · have hne:(fK n.book (n.durable+1) 2000).length≠n.owe.length:=ID
    rw[decide_eq_false λe=>hne (by rw[e,List.length_map])]
  · have hln:(fK n.book (n.durable+1) 2000).length=n.owe.length:=ID
    clear h
    refine AWP.loopS (λk:Nat=>k<=(fK n.book (n.durable+1) 2000).length/\∀(j:Nat) (hj:j<k) (h1:j<(fK n.book (n.durable+1) 2000).length),n.owe[j]'(by omega)=fg (fK n.book (n.durable+1) 2000)[j]) [2,4,17,18,19,20,21,22,23,24,25,26,27,28,29,30,31,32,33] (λk=>[(4,vI .i64 (k:Int))]) (λ_=>[(1,.cells 41 (n.ds.map .d))]) (λk=>(fK n.book (n.durable+1) 2000).length-k) 0 ⟨by omega,by omega⟩ ?_ (ae.cons rfl ae.nil) (λk hR=>?_)<;>(conv=>whnf)
    · exact whd
    · obtain⟨hk,hall⟩:=hR
      repeat'((first|refine aw0 ?_|refine aw1 ?_|refine aw2 ?_|refine aw3 ?_|refine aw4 ?_|refine aw5 ?_|refine aw6 ?_|refine aw7 ?_|refine aw8 ?_|refine bT ?_|refine bF ?_|refine AWP.drawK aj 7 10 jU ke Iw Iw Iw rfl ?_|refine AIx.mapF ari (λhlt=>?_)|refine AIx.mapF (l:=n.owe) (by clear hall;simp only[List.length_map,decide_eq_true_eq]at*;omega) (λhlt=>?_)|refine AW.i64 ari ari ?_|refine cP (xl _) ?_|refine AOp.eqs (AE _ _) rfl rfl rfl rfl rfl ?_|exact rr|refine And.intro rfl ?_|refine AB.mk (λh=>?_) (λh=>?_))<;>conv=>whnf)
      all_goals first
        |(rw[EY hln (k:=k) ari (by first|(simpa using h)|(exfalso;assumption))];done)
        | (refine aN.mk ⟨k + 1, ⟨ari, CR (hl := hln) (h1 := ari) hall (by simpa using h)⟩, ari, ?_, ae.cons rfl ae.nil⟩
           exact hds)
        | (have hkk : k = (fK n.book (n.durable + 1) 2000).length := ari
           rw[C3 hln λj h1=>hall j Iv h1])
theorem zw{a b:DHead}:a=b↔(a.num=b.num/\a.base=b.base/\a.time=b.time/\a.seen=b.seen):=by
  cases a;cases b;simp[DHead.mk.injEq]
theorem eG(a b:DHead)(ha:a.seen.length<=9223372036854775806):an av 97 [.agg a.ds,.agg b.ds] (rB (decide (a=b))):=by
  refine ai aj func97 rfl call97 ntmps97 (IG results97) λS=>?_;conv=>whnf
  repeat'((first|refine aw0 ?_|refine aw1 ?_|refine aw2 ?_|refine aw3 ?_|refine aw4 ?_|refine aw5 ?_|refine aw6 ?_|refine aw7 ?_|refine aw8 ?_|refine bT ?_|refine bF ?_|refine cP (gI a.seen b.seen ha) ?_|exact rr|refine And.intro rfl ?_|refine AB.mk (λh=>?_) (λh=>?_))<;>conv=>whnf)
  all_goals
    refine bK ?_
    rw[Bool.eq_iff_iff]
    simp only[decide_eq_true_iff,zw]
    simp_all
theorem C6{a b:DBook}:a=b↔(a.base=b.base/\a.time=b.time/\a.entries=b.entries):=by
  cases a;cases b;simp[DBook.mk.injEq]
theorem eH(a:DHead):an av 100 [.agg a.ds] (rB (decide (a=eL))):=by
  refine ai aj func100 rfl call100 ntmps100 (IG results100) λS=>?_;conv=>whnf
  repeat'((first|refine aw0 ?_|refine aw1 ?_|refine aw2 ?_|refine aw3 ?_|refine aw4 ?_|refine aw5 ?_|refine aw6 ?_|refine aw7 ?_|refine aw8 ?_|refine bT ?_|refine bF ?_|exact rr|refine And.intro rfl ?_|refine AB.mk (λh=>?_) (λh=>?_))<;>conv=>whnf)
  all_goals
    refine bK ?_
    rw[Bool.eq_iff_iff]
    simp only[decide_eq_true_iff,zw]
    simp_all[eL]
end Go.Proofs.YtnlhpdbijmnkhaaGreatDoor
namespace Go.Proofs.YtnlhpdbijmnkhaaGreatDoor
open Go.Proofs.Tryz
open Go.ChangeShapes Go.WideShapes Go.RowKit
def jV:List (List Nat):=cX [0,1,129,12354,0,0,6,0,29064,1134768026845575,0,12864277808390344836]
def kf:List (List Nat):=dQ 11 [137700,137701,137704,137713,137618,122714,122957,120284,121499,127939,59048]
def jW:List (List Nat):=cX [0,1,129,0,4,0,6,454,33159,0,348045206026,3477390936682303749,891282945137324073027,61613317297253055217996,61613317297253055217996,311902252276487849558862,313778539262838596778864769]
def kg:List (List Nat):=dQ 16 [177120,177121,177124,58832,58859,39608,39851,40580,42767,19682,29537,88573,265720,10363099,32683621,11957422]
def l9:List (List Nat):=cX [0,1,129,12354,12354,1318979,4328796549,486506500228,13265141784903,2564411225022531,180992954169053641,12846258869076758730,180992954169053641,15152101878290452682,1044601217194554323533,180992954169053641,18610866392110993610,1265962146079068942928,61643244241572623809819474207761,6253342968646612939663330639098508,208670669043823421316907952234890323,28314001861476616795539653203079991498,1884907940883966248012842449817758143701,127036007146039858029436393339887821271702,8483413557665557517948716269031472085939543,494117307255086448119078571165026390822458840]
def mb:List (List Nat):=dQ 18 [0,1,4,661,67,148,364,1093,3280,9841,386918572,386977621,373573498,374104939,375699262,14319382,28668289,71715010]
def ma:List (List Nat):=cX [0,1,129,0,4,324,24837,0,8,848968016749128,182435784024662083,12736470503747260938,897119605715636850891,12736470503747260938,12736470503747260938,1118480534600151470283,76372997838154148119183,273860148148388040230638544,66793074800348938976694370366542,3584997738418217364984844423078669,419664783318470256266126788995322059]
def mc:List (List Nat):=dQ 18 [19656,19657,19660,17522,17549,17630,17873,2186,4373,9841,29524,385914739,386091886,125862943,4694395,9477364,23826271,65278669]
def rt(n:DLogNode)(i:Int):DHead:=⟨n.head.num+1,i,vK n.book i,(bu n.head.seen (fK n.book (n.book.base+1) i)).1⟩
theorem sf(n:DLogNode)(i:Int)(hb:cg n.book=true)(hn:0<=n.head.num/\n.head.num<=2000)(h1:n.book.base+1<=i)(h2:i<=er n.book):an av 98 [.agg n.ds,.one (dI i)] (.val (.agg (rt n i).ds)):=by
  have hp:=dh hb
  have hq:=hE hb
  have h20:=hp.2.2.1
  refine ai aj func98 rfl call98 ntmps98 (IG results98) λS=>?_;conv=>whnf
  repeat'((first|refine aw0 ?_|refine aw1 ?_|refine aw2 ?_|refine aw3 ?_|refine aw4 ?_|refine aw5 ?_|refine aw6 ?_|refine aw7 ?_|refine aw8 ?_|refine bT ?_|refine bF ?_|refine AWP.drawK aj 1 11 jV kf Iw Iw Iw rfl ?_|refine AW.i64 Iv Iv ?_|refine cP (pn n.book i hb h1 h2) ?_|exact rr|refine And.intro rfl ?_|refine AB.mk (λh=>?_) (λh=>?_))<;>conv=>whnf)
  refine AWP.drawSO aj 2 16 jW kg 15 13 Iw Iw Iw rfl ⟨_,rfl,rfl,rfl,rfl⟩ rfl rfl rfl rfl ?_;conv=>whnf
  repeat'((first|refine aw0 ?_|refine aw1 ?_|refine aw2 ?_|refine aw3 ?_|refine aw4 ?_|refine aw5 ?_|refine aw6 ?_|refine aw7 ?_|refine aw8 ?_|refine bT ?_|refine bF ?_|refine AW.i64 Iv Iv ?_|refine cP (jp n.book _ _ h20) ?_|refine cP (gJ n.head.seen (fK n.book (n.book.base+1) i)) ?_|exact rr|refine And.intro rfl ?_|refine AB.mk (λh=>?_) (λh=>?_))<;>conv=>whnf)
  refine⟨_,_,_,_,_,?o1,rfl,rfl,rfl,rfl,?hst,?hk⟩
  case hst=>
    conv=>whnf
  conv=>whnf
  refine⟨rfl,?_,?_⟩
  · repeat'(first|exact trivial|exact⟨rfl,rfl⟩|(refine⟨?_,?_⟩)|((first|refine aw0 ?_|refine aw1 ?_|refine aw2 ?_|refine aw3 ?_|refine aw4 ?_|refine aw5 ?_|refine aw6 ?_|refine aw7 ?_|refine aw8 ?_|refine bT ?_|refine bF ?_)<;>conv=>whnf)|(conv=>whnf))
  conv=>whnf
  repeat'((first|refine aw0 ?_|refine aw1 ?_|refine aw2 ?_|refine aw3 ?_|refine aw4 ?_|refine aw5 ?_|refine aw6 ?_|refine aw7 ?_|refine aw8 ?_|refine bT ?_|refine bF ?_|exact rr|refine And.intro rfl ?_|refine AB.mk (λh=>?_) (λh=>?_))<;>conv=>whnf)
  all_goals rfl
theorem Dy{α:Type}[BEq α][LawfulBEq α][DecidableEq α](x:α×Bool)(s:α):(x==(s,true))=(x.2&&decide (x.1=s)):=by
  obtain⟨a,b⟩:=x
  cases b<;>(rw[Bool.eq_iff_iff];simp[Prod.mk.injEq])
def mp(n:DLogNode):Bool:=re n.two&&kW n.head&&cg n.book&&n.book.base==n.head.base&&n.book.time==n.head.time
def iq(n:DLogNode):Bool:=(bu n.head.seen n.book.entries).2&&decide ((bu n.head.seen n.book.entries).1=n.seen)&&ac n.durable n.book.base (er n.book)
theorem pC{α:Type}[BEq α][LawfulBEq α][DecidableEq α](a b:α):(a==b)=decide (a=b):=by
  rw[Bool.eq_iff_iff];simp
theorem nt(n:DLogNode):lg n=(mp n&&iq n&&decide (n.owe=(fq n.book n.durable).map fg)&&je n):=by
  simp only[lg,mp,iq,Dy,Bool.and_assoc,pC n.owe]
theorem E7{n:DLogNode}(h:mp n=true):re n.two=true/\kW n.head=true/\cg n.book=true/\n.book.base=n.head.base/\n.book.time=n.head.time:=by
  simp only[mp,Bool.and_eq_true,beq_iff_eq]at h
  exact⟨h.1.1.1.1,h.1.1.1.2,h.1.1.2,h.1.2,h.2⟩
theorem wz{h:DHead}(hh:kW h=true):(0<=h.num/\h.num<=2000)/\(0<=h.base/\h.base<=2000)/\bn h.seen=true:=by
  simp only[kW,Bool.and_eq_true,ac,decide_eq_true_eq]at hh
  exact⟨by omega,by omega,hh.1.2⟩
theorem Dm{n:DLogNode}(h:mp n=false):lg n=false:=by simp only[nt,h,Bool.false_and]
theorem vr{n:DLogNode}(h:iq n=false):lg n=false:=by simp only[nt,h,Bool.false_and,Bool.and_false]
theorem Dn{n:DLogNode}(h:decide (n.owe=(fq n.book n.durable).map fg)=false):lg n=false:=by simp only[nt,h,Bool.false_and,Bool.and_false]
theorem Do{n:DLogNode}{b:Bool}(h1:mp n=true)(h2:iq n=true)(h3:decide (n.owe=(fq n.book n.durable).map fg)=true)(h:b=je n):b=lg n:=by simp only[nt,h1,h2,h3,h,Bool.true_and]
theorem yr{n:DLogNode}(h:(!ac n.durable n.book.base (er n.book))=false):n.book.base<=n.durable/\n.durable<=er n.book:=by
  simpa[ac]using h
theorem Hq{n:DLogNode}(h:(!(bu n.head.seen n.book.entries).snd)=true):iq n=false:=by
  rw[Bool.not_eq_true']at h;simp only[iq,h,Bool.false_and]
theorem Hr{n:DLogNode}(h:(!decide ((bu n.head.seen n.book.entries).fst=n.seen))=true):iq n=false:=by
  rw[Bool.not_eq_true']at h;simp only[iq,h,Bool.false_and,Bool.and_false]
theorem Hs{n:DLogNode}(h:(!ac n.durable n.book.base (er n.book))=true):iq n=false:=by
  rw[Bool.not_eq_true']at h;simp only[iq,h,Bool.and_false]
theorem Ht{n:DLogNode}(h1:(!(bu n.head.seen n.book.entries).snd)=false)(h2:(!decide ((bu n.head.seen n.book.entries).fst=n.seen))=false)(h3:(!ac n.durable n.book.base (er n.book))=false):iq n=true:=by
  rw[Bool.not_eq_false']at h1 h2 h3;simp only[iq,h1,h2,h3,Bool.and_self]
theorem yU{s:List DMark}{l:List DEntry}(h:bn s=true):(bu s l).1.length<=4:=by
  unfold bu
  simp only[h,Bool.not_true,Bool.false_eq_true,if_false]
  split
  · exact eF h
  · cases hf:bV s l with
    |none=>exact eF h
    |some c=>exact eF (ot h hf)
theorem wY{n:DLogNode}(h:(!n.more)=true):decide (n.nxt=eL)=je n:=by
  rw[Bool.not_eq_true']at h;simp only[je,h,Bool.false_eq_true,if_false,pC n.nxt]
theorem oX{n:DLogNode}(hb:cg n.book=true):rt n n.nxt.base=ny n:=by
  simp only[rt,ny,Dz hb,vK,BW]
theorem tU{n:DLogNode}(hm:(!n.more)=false):je n=(ac n.nxt.base (n.head.base+1) n.durable&&decide (n.nxt=ny n)):=by
  rw[Bool.not_eq_false']at hm;simp only[je,hm,if_true,pC n.nxt]
theorem zz{n:DLogNode}(hbb:n.book.base=n.head.base)(h:ac n.nxt.base (n.head.base+1) n.durable=true):n.book.base+1<=n.nxt.base:=by
  simp only[ac,Bool.and_eq_true,decide_eq_true_eq]at h;omega
theorem zy{n:DLogNode}(h3:(!ac n.durable n.book.base (er n.book))=false)(h:ac n.nxt.base (n.head.base+1) n.durable=true):n.nxt.base<=er n.book:=by
  have:=yr h3
  simp only[ac,Bool.and_eq_true,decide_eq_true_eq]at h;omega
set_option maxHeartbeats 2000000 in
theorem xn(n:DLogNode)(hhs:n.head.seen.length<=9223372036854775806)(ho:n.owe.length<=9223372036854775806)(hs:n.seen.length<=9223372036854775806)(hx:n.nxt.seen.length<=9223372036854775806):an av 64 [.agg n.ds] (rB (lg n)):=by
  refine ai aj func64 rfl call64 ntmps64 (IG results64) λS=>?_;conv=>whnf
  repeat'((first|refine aw0 ?_|refine aw1 ?_|refine aw2 ?_|refine aw3 ?_|refine aw4 ?_|refine aw5 ?_|refine aw6 ?_|refine aw7 ?_|refine aw8 ?_|refine bT ?_|refine bF ?_|refine cP (uc n.two) ?_|refine cP (lX n.head hhs) ?_|refine cP (ub n.book) ?_|refine cP (gJ n.head.seen n.book.entries) ?_|exact rr|refine And.intro rfl ?_|refine AB.mk (λh=>?_) (λh=>?_))<;>conv=>whnf)
  all_goals first
    | (have hno : mp n = false := by simp_all [mp]
       rw[Dm hno];done)
    |skip
  have h1:mp n=true:=by simp_all[mp]
  obtain⟨hk,hh,hb,hbb,htt⟩:=E7 h1
  have hq:=wz hh
  have hp:=dh hb
  have hl:=hE hb
  have hsv:(bu n.head.seen n.book.entries).1.length<=9223372036854775806:=Nat.le_trans (yU hq.2.2) Ix
  repeat'((first|refine aw0 ?_|refine aw1 ?_|refine aw2 ?_|refine aw3 ?_|refine aw4 ?_|refine aw5 ?_|refine aw6 ?_|refine aw7 ?_|refine aw8 ?_|refine bT ?_|refine bF ?_|refine AWP.drawK aj 4 18 l9 mb Iw Iw Iw rfl ?_|refine cP (gI (bu n.head.seen n.book.entries).1 n.seen hsv) ?_|refine cP (uo n.book hb) ?_|refine cP (aI _ _ _) ?_|refine cP (sg n hb (yr Iz) ho) ?_|exact rr|refine And.intro rfl ?_|refine AB.mk (λh=>?_) (λh=>?_))<;>conv=>whnf)
  all_goals first
    |(rw[vr (Hq h)];done)
    |(rw[vr (Hr h)];done)
    |(rw[vr (Hs h)];done)
    |(rw[Dn (by rwa[Bool.not_eq_true']at h)];done)
    |skip
  all_goals
    have h2:iq n=true:=Ht Iz Iz Iz
    have h3:decide (n.owe=(fq n.book n.durable).map fg)=true:=by
      have:(!decide (n.owe=List.map fg (fq n.book n.durable)))=false:=by assumption
      rwa[Bool.not_eq_false']at this
    repeat'((first|refine aw0 ?_|refine aw1 ?_|refine aw2 ?_|refine aw3 ?_|refine aw4 ?_|refine aw5 ?_|refine aw6 ?_|refine aw7 ?_|refine aw8 ?_|refine bT ?_|refine bF ?_|refine AWP.drawK aj 8 18 ma mc Iw Iw Iw rfl ?_|refine AW.i64 Iv Iv ?_|refine cP (aI _ _ _) ?_|refine cP (eG n.nxt eL hx) ?_|refine cP (sf n n.nxt.base hb hq.1 (zz hbb Iz) (zy Iz Iz)) ?_|refine cP (eG n.nxt (rt n n.nxt.base) hx) ?_|exact rr|refine And.intro rfl ?_|refine AB.mk (λh=>?_) (λh=>?_))<;>conv=>whnf)
    all_goals
      refine bK (Do h1 h2 h3 ?_)
      first
        |exact wY Iz
        |(rw[tU Iz,oX hb];simp_all;done)
        |(rw[tU Iz,<-oX hb];simp_all;done)
end Go.Proofs.YtnlhpdbijmnkhaaGreatDoor
namespace Go.Proofs.YtnlhpdbijmnkhaaGreatDoor
open Go.Proofs.Tryz
open Go.ChangeShapes Go.WideShapes Go.RowKit
theorem Fg{a b:DTwo}:a=b↔(a.a=b.a/\a.b=b.b):=by
  cases a;cases b;simp[DTwo.mk.injEq]
theorem E6{a b:DLogNode}:a=b↔(a.two.a=b.two.a/\a.two.b=b.two.b/\a.head=b.head/\a.nxt=b.nxt/\a.more=b.more/\a.book=b.book/\a.seen=b.seen/\a.durable=b.durable/\a.owe=b.owe):=by
  cases a;cases b
  simp[DLogNode.mk.injEq,Fg,and_assoc]
structure vM (n:DLogNode):Prop where
  a1:n.two.a.kept.length<=9223372036854775806
  a2:∀y∈n.two.a.kept,y.length<=9223372036854775806
  a3:n.two.a.wait.length<=9223372036854775806
  a4:∀y∈n.two.a.wait,y.row.length<=9223372036854775806
  b1:n.two.b.kept.length<=9223372036854775806
  b2:∀y∈n.two.b.kept,y.length<=9223372036854775806
  b3:n.two.b.wait.length<=9223372036854775806
  b4:∀y∈n.two.b.wait,y.row.length<=9223372036854775806
  head:n.head.seen.length<=9223372036854775806
  nxt:n.nxt.seen.length<=9223372036854775806
  book:n.book.entries.length<=9223372036854775806
  seen:n.seen.length<=9223372036854775806
  owe:n.owe.length<=9223372036854775806
end Go.Proofs.YtnlhpdbijmnkhaaGreatDoor
namespace Go.Proofs.YtnlhpdbijmnkhaaGreatDoor
open Go.Proofs.Tryz
open Go.RowKit Go.Shelf
attribute [local go_sem] Oper.semAt_some
def Hp(e:DEntry):Array Value:= #[.int .i64 e.index,.int .i64 e.time,.int .i64 e.client,.int .i64 e.seq,.int .i64 e.op.kind,.int .i64 e.op.a,.int .i64 e.op.b,.int .i64 e.op.c,.int .i64 e.op.d]
def f0(n₀ Bb Bd:Nat)(W W':World):Prop:=W.heap.size<=W'.heap.size/\∀k,(k<n₀\/k=Bb\/k=Bd)->W'.heap[k]? =W.heap[k]?
theorem f0.refl{n₀ Bb Bd:Nat}(W:World):f0 n₀ Bb Bd W W:=⟨Nat.le_refl _,λ_ _=>rfl⟩
theorem f0.trans{n₀ Bb Bd:Nat}{A B C:World}(h:f0 n₀ Bb Bd A B)(h':f0 n₀ Bb Bd B C):f0 n₀ Bb Bd A C:=⟨Nat.le_trans h.1 h'.1,λk hk=>(h'.2 k hk).trans (h.2 k hk)⟩
theorem f0.cell{n₀ Bb Bd:Nat}{W W':World}(h:f0 n₀ Bb Bd W W'){p:Addr}(hk:p.block<n₀\/p.block=Bb\/p.block=Bd):W'.cell? p=W.cell? p:=by
  unfold World.cell?
  rw[h.2 _ hk]
theorem f0.alloc{n₀ Bb Bd:Nat}(W:World)(o:Obj)(h0:n₀<=W.heap.size)(hb:Bb<W.heap.size)(hd:Bd<W.heap.size):f0 n₀ Bb Bd W (W.alloc o):=
  ⟨by simp,λk hk=>Below.heap_alloc _ _ k Iv⟩
def xT(n₀:Nat)(W:World)(A:Option Addr)(es:List DEntry):Prop:=es=[]\/∃b off,A=some ⟨b,off,none⟩/\b<n₀/\∀(k:Nat) (hk:k<es.length) (j:Nat) (u:Value),(Hp es[k])[j]? =some u->W.cell? ⟨b,off+k*9+j,none⟩=some u
theorem xT.keep{n₀ Bb Bd:Nat}{W W':World}{A:Option Addr}{es:List DEntry}(h:f0 n₀ Bb Bd W W'):xT n₀ W A es->xT n₀ W' A es
  | .inl e=> .inl e
  | .inr ⟨b,off,e,hb,hc⟩=> .inr ⟨b,off,e,hb,λk hk j u hu=>(h.cell (p:=⟨b,off+k*9+j,none⟩) (.inl hb)).trans (hc k hk j u hu)⟩
end Go.Proofs.YtnlhpdbijmnkhaaGreatDoor
namespace Go.Proofs.YtnlhpdbijmnkhaaGreatDoor
open Go.Proofs.Tryz
open Go.RowKit Go.Shelf
attribute [local go_sem] Oper.semAt_some
end Go.Proofs.YtnlhpdbijmnkhaaGreatDoor
namespace Go.Proofs.YtnlhpdbijmnkhaaGreatDoor
open Go.Proofs.Tryz
open Go.ChangeShapes Go.WideShapes Go.RowKit
def jX:List (List Nat):=cX [0,1,129,12354,1056835,84676740,6510088389,84676740,8657572037,623894601992,44534549721417,8161371489609486858,897119627842150478151,23834383477096543715980,4288656024833317761716421,291667597250045180727304974,20081514614155416735135838543,291667597250045180727304974,22557394692726177284934086991,1524001813995025305843882574738,102855721278592827465972037997523,22910051626216530735801266114426909844,1898517696975061238680915954552189768657,82097130143209461235461938158615105709334]
def kj:List (List Nat):=dQ 21 [0,1,4,13,40,175081,175324,2065,4252,10813,30496,88573,265720,797161,2391484,10338387493,10352736400,121965709,251105872,638526361,1800787828]
def jY:List (List Nat):=cX [0,1,0,3,259,20676,2165850309,486456451138,35322986508615,2564408003268744,182404656231371209,2564408003268744,218433453250335177,15152101672098210316,1046997409135756341837,215524456379084714064794382,20081529298861424947812921931,721816682996689648454794003344]
def km:List (List Nat):=dQ 15 [720,721,8,17,44,125,364,1093,3280,14181601,14201284,167305,344452,875893,2470216]
theorem po{w:DWorld}(h:w.up.length=6){k:Nat}(hk:k<6):(w.up.map eB)[k]? =some [dB (iG w k)]:=by
  have hl:k<w.up.length:=by omega
  rw[List.getElem?_map,List.getElem?_eq_getElem hl]
  simp[iG,List.getD_eq_getElem?_getD,hl]
theorem E5{w:DWorld}(h:(((w.up.map eB).length:Int) !=6)=false):w.up.length=6:=by
  simp at h;omega
theorem uq{n:DLogNode}(h:DLogNode.small 1048576 n):vM n:=by
  obtain⟨⟨⟨h1,h2,h3,h4⟩,g1,g2,g3,g4⟩,k1,k2,k3,k4,k5⟩:=h
  simp only[DHead.small,DBook.small]at k1 k2 k3
  exact⟨by omega,λy hy=>by have:=h2 y hy;omega,by omega,λy hy=>by have:y.row.length<=1048576:=h4 y hy;omega,by omega,λy hy=>by have:=g2 y hy;omega,by omega,λy hy=>by have:y.row.length<=1048576:=g4 y hy;omega,by omega,by omega,by omega,by omega,by omega⟩
def ld(two:DTwo):DLogNode:=⟨two,eL,eL,false,⟨0,0,[]⟩,[],0,[]⟩
theorem yJ(n:DLogNode):lS n=(gr n.two&&decide (n=ld n.two)):=by
  show(gr n.two&&(n==ld n.two))=_
  rw[pC]
theorem mu(n:DLogNode):an av 65 [.agg n.ds] (rB (lS n)):=by
  rw[yJ]
  refine ai aj func65 rfl call65 ntmps65 (IG results65) λS=>?_;conv=>whnf
  repeat'((first|refine aw0 ?_|refine aw1 ?_|refine aw2 ?_|refine aw3 ?_|refine aw4 ?_|refine aw5 ?_|refine aw6 ?_|refine aw7 ?_|refine aw8 ?_|refine bT ?_|refine bF ?_|refine cP (fw n.two) ?_|refine cP (eH n.head) ?_|refine cP (eH n.nxt) ?_|exact rr|refine And.intro rfl ?_|refine AB.mk (λh=>?_) (λh=>?_))<;>conv=>whnf)
  all_goals
    refine bK ?_
    rw[Bool.eq_iff_iff]
    simp only[decide_eq_true_iff,Bool.and_eq_true,E6,ld,C6]
    simp_all
theorem ul(n:DLogNode)(up:Bool)(hs:vM n):an av 46 [.agg n.ds,.one (dB up)] (rB (if up then lg n else lS n)):=by
  refine ai aj func46 rfl call46 ntmps46 (IG results46) λS=>?_;conv=>whnf
  repeat'((first|refine aw0 ?_|refine aw1 ?_|refine aw2 ?_|refine aw3 ?_|refine aw4 ?_|refine aw5 ?_|refine aw6 ?_|refine aw7 ?_|refine aw8 ?_|refine bT ?_|refine bF ?_|refine cP (xn n hs.head hs.owe hs.seen hs.nxt) ?_|refine cP (mu n) ?_|exact rr|refine And.intro rfl ?_|refine AB.mk (λh=>?_) (λh=>?_))<;>conv=>whnf)
  all_goals
    refine bK ?_
    simp_all
theorem Hg{w:DWorld}(h:(((w.up.map eB).length:Int) !=6)=true):¬w.up.length=6:=by
  simp at h;omega
theorem E3{w:DWorld}(h:(((w.clocks.map eI).length:Int) !=6)=true):¬w.clocks.length=6:=by
  simp at h;omega
theorem Hn{w:DWorld}(h:(((w.clocks.map eI).length:Int) !=6)=false):w.clocks.length=6:=by
  simp at h;omega
theorem jy(w:DWorld):l6 w=(fi w.clocks&&decide (w.up.length=6)&&mq w.net&&(iG w 4&&iG w 5&&cj w.ann&&w.ann.id==4&&cj w.bob&&w.bob.id==5)&&(dw w.left 2 (iG w 2)&&dw w.right 3 (iG w 3))&&(if iG w 0 then lg w.log else lS w.log)&&(if iG w 1 then l3 w.store else fZ w.store)):=by
  simp only[l6,Bool.and_assoc]
theorem Cp{b:Bool}(h:(!b)=true):b=false:=by rwa[Bool.not_eq_true']at h
theorem rx{b:Bool}(h:(!b)=false):b=true:=by rwa[Bool.not_eq_false']at h
theorem r5(w:DWorld)(hs:DWorld.small 1048576 w):an av 29 [.agg w.ds] (rB (l6 w)):=by
  obtain⟨s1,⟨_,s2⟩,s3,s4,s5,s6,s7,s8⟩:=hs
  simp only[DState.small,DSched.small,DView.small,DJobs.small,DClient.small]at s2 s3 s4 s5 s6
  refine ai aj func29 rfl call29 ntmps29 (IG results29) λS=>?_;conv=>whnf
  repeat'((first|refine aw0 ?_|refine aw1 ?_|refine aw2 ?_|refine aw3 ?_|refine aw4 ?_|refine aw5 ?_|refine aw6 ?_|refine aw7 ?_|refine aw8 ?_|refine bT ?_|refine bF ?_|refine AIx.at 4 _ rfl (po (E5 Iz) Ix) ?_|refine AIx.at 5 _ rfl (po (E5 Iz) Ix) ?_|exact rr|refine And.intro rfl ?_|refine AB.mk (λh=>?_) (λh=>?_))<;>conv=>whnf)
  all_goals first
    | (have hno := Hg h
       refine bK ?_
       rw[jy]
       simp only[hno,decide_false,Bool.and_false,Bool.false_and];done)
    | (have hno := E3 h
       refine bK ?_
       rw[jy]
       simp only[fi,hno,decide_false,Bool.and_false,Bool.false_and];done)
    | (refine bK ?_
       rw[jy]
       simp only[Cp h,Bool.and_false,Bool.false_and];done)
    |skip
  have h6:w.up.length=6:=E5 Iz
  have hc6:w.clocks.length=6:=Hn Iz
  have u4:iG w 4=true:=by
    have:(!iG w 4)=false:=by assumption
    exact rx this
  have u5:iG w 5=true:=rx h
  repeat'((first|refine aw0 ?_|refine aw1 ?_|refine aw2 ?_|refine aw3 ?_|refine aw4 ?_|refine aw5 ?_|refine aw6 ?_|refine aw7 ?_|refine aw8 ?_|refine bT ?_|refine bF ?_|refine AWP.drawK aj 3 21 jX kj Iw Iw Iw rfl ?_|refine AWP.drawK aj 5 15 jY km Iw Iw Iw rfl ?_|refine AIx.at 0 _ rfl (po h6 Ix) ?_|refine AIx.at 1 _ rfl (po h6 Ix) ?_|refine AIx.at 2 _ rfl (po h6 Ix) ?_|refine AIx.at 3 _ rfl (po h6 Ix) ?_|refine AIx.at 4 _ rfl (po h6 Ix) ?_|refine AIx.at 5 _ rfl (po h6 Ix) ?_|refine cP (nN w.clocks hc6) ?_|refine cP (ul w.log _ (uq s1)) ?_|refine cP (pm w.store _ Iv Iv) ?_|refine cP (gM w.left _ _) ?_|refine cP (gM w.right _ _) ?_|refine cP (cM w.ann Iv Iv) ?_|refine cP (cM w.bob Iv Iv) ?_|refine cP (xq w.net) ?_|exact rr|refine And.intro rfl ?_|refine AB.mk (λh=>?_) (λh=>?_))<;>conv=>whnf)
  all_goals
    refine bK ?_
    rw[jy]
    simp only[h6,u4,u5,decide_true,Bool.true_and,Bool.and_true]
    first
      |(simp only[Cp h,Bool.false_and,Bool.and_false];done)
      | (have e := Cp h
         rw[e]
         simp only[Bool.and_false,Bool.false_and];done)
      |(simp_all;done)
      | (have b1 : fi w.clocks = true := rx Iz
         have b2:(if iG w 0=true then lg w.log else lS w.log)=true:=rx Iz
         have b3:(if iG w 1=true then l3 w.store else fZ w.store)=true:=rx Iz
         have b4:dw w.left 2 (iG w 2)=true:=rx Iz
         have b5:dw w.right 3 (iG w 3)=true:=rx Iz
         have b6:cj w.ann=true:=by assumption
         have b7:(w.ann.id==4)=true:=by assumption
         have b8:cj w.bob=true:=by assumption
         have b9:(w.bob.id==5)=true:=by assumption
         simp only[b1,b2,b3,b4,b5,b6,b7,b8,b9,Bool.and_true,Bool.true_and])
end Go.Proofs.YtnlhpdbijmnkhaaGreatDoor
