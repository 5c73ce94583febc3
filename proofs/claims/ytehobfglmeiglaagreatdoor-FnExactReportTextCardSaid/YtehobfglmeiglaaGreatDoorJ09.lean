/- J09 -/
import Derived.Test.YtehobfglmeiglaaGreatDoorJ08
import Derived.Test.YtehobfglmeiglaaGreatDoorJ02
set_option linter.unusedVariables false
set_option linter.unusedSimpArgs false
set_option maxRecDepth 100000
namespace Go.Proofs.YtehobfglmeiglaaGreatDoor
open Go.Proofs.Tryz
open Go.ChangeShapes Go.WideShapes Go.RowKit
def kM:List (List Nat):=bk [0,1,0,8259,1060930,84414660,0,7,26666395521543]
def lh:List (List Nat):=bj 8 [5850,5851,5840,5845,5872,5953,728,1457]
def iJ:List (List Nat):=bk [0,0,66,12417,0,0,326,29061,17663105454471]
def iT:List (List Nat):=bj 8 [6486,6482,6484,6493,566,242,404,1133]
def jy:List (List Nat):=bk [0,0,66,12417,0,0,326,29061,17663105454471]
def jJ:List (List Nat):=bj 8 [6486,6482,6484,6493,566,242,404,1133]
theorem wG{s:DState}(h:(ai s.index 0 2000&&tOk s.time&&bG s.pairs&&bo s.jobs&&gi s.lease)=false):bH s=false:=by simp only[bH,h,Bool.false_and]
theorem wH{s:DState}{k:Nat}(hk:k<s.jobs.length)(h:decide (s.jobs[k].fired<=s.index)=false):bH s=false:=by
  have:=jt (p:=λj:DJob=>decide (j.fired<=s.index)) hk h
  simp only[bH,this,Bool.and_false]
theorem rx{s:DState}(h:(ai s.index 0 2000&&tOk s.time&&bG s.pairs&&bo s.jobs&&gi s.lease)=true)(hj:s.jobs.all (λj=>decide (j.fired<=s.index))=true):bH s=true:=by simp only[bH,h,hj,Bool.and_self]
theorem Cb{l:List DJob}(h:bo l=true):l.length<=8:=by
  simp only[bo,Bool.and_eq_true,decide_eq_true_eq]at h
  exact h.1.1.1
theorem fw(s:DState)(hs:s.pairs.length<=9223372036854775806):aj av 257 [.agg s.ds] (rB (bH s)):=by
  refine ae ah func257 rfl call257 ntmps257 (MC results257) λS=>?_;conv=>whnf
  repeat'((first|refine aw0 ?_|refine aw1 ?_|refine aw2 ?_|refine aw3 ?_|refine aw4 ?_|refine aw5 ?_|refine aw6 ?_|refine aw7 ?_|refine aw8 ?_|refine bT ?_|refine bF ?_|refine cP (aq _ _ _) ?_|refine cP (bm _) ?_|refine cP (fv s.pairs hs) ?_|refine cP (gl s.jobs) ?_|refine cP (td s.lease) ?_|exact rr|refine And.intro rfl ?_|refine AB.mk (λh=>?_) (λh=>?_))<;>conv=>whnf)
  all_goals first
    |(rw[wG (by first|(simp_all[tOk];done)|(exfalso;assumption))];done)
    |skip
  have hyes:(ai s.index 0 2000&&tOk s.time&&bG s.pairs&&bo s.jobs&&gi s.lease)=true:=by simp_all[tOk]
  have h8:s.jobs.length<=8:=Cb Mw
  refine AWP.loopS (λk:Nat=>k<=s.jobs.length/\∀(j:Nat) (hj:j<k) (hl:j<s.jobs.length),decide (s.jobs[j].fired<=s.index)=true) [2,4,36,37,38,39,40,41,42,43,44,45] (λk=>[(36,vI .i64 (k:Int))]) (λ_=>[(1,.cells 86 (s.ds.map .d))]) (λk=>s.jobs.length-k) 0 ⟨by omega,by omega⟩ ?_ (ak.cons rfl ak.nil) (λk hR=>?_)<;>(conv=>whnf)
  · exact whd
  · obtain⟨hk,hall⟩:=hR
    repeat'(first|((first|refine aw0 ?_|refine aw1 ?_|refine aw2 ?_|refine aw3 ?_|refine aw4 ?_|refine aw5 ?_|refine aw6 ?_|refine aw7 ?_|refine aw8 ?_|refine bT ?_|refine bF ?_)<;>conv=>whnf)|(exact(trivial:True))|((first|refine AIx.mapF ari (λhlt=>?_)|refine AW.i64 ari ari ?_|exact rr|refine And.intro rfl ?_|refine AB.mk (λh=>?_) (λh=>?_))<;>conv=>whnf))
    all_goals first
      |(rw[wH (k:=k) ari MA];done)
      | (refine aB.mk ⟨k + 1, ⟨ari, cu (p := fun j : DJob => decide (j.fired ≤ s.index)) hall ari Mw⟩, ari, ?_, ak.cons rfl ak.nil⟩
         exact hds)
      |(rw[rx hyes (dl (p:=λj:DJob=>decide (j.fired<=s.index)) hall ari)])
theorem fC(s:DState)(hs:s.pairs.length<=9223372036854775806):aj av 222 [.agg s.ds] (rB (bH s)):=by
  refine ae ah func222 rfl call222 ntmps222 (MC results222) λS=>?_;conv=>whnf
  repeat'((first|refine aw0 ?_|refine aw1 ?_|refine aw2 ?_|refine aw3 ?_|refine aw4 ?_|refine aw5 ?_|refine aw6 ?_|refine aw7 ?_|refine aw8 ?_|refine bT ?_|refine bF ?_|refine cP (aA _ _ _) ?_|refine cP (uk _) ?_|refine cP (fB s.pairs) ?_|refine cP (eJ s.jobs) ?_|refine cP (t8 s.lease) ?_|exact rr|refine And.intro rfl ?_|refine AB.mk (λh=>?_) (λh=>?_))<;>conv=>whnf)
  all_goals first
    |(rw[wG (by first|(simp_all[tOk];done)|(exfalso;assumption))];done)
    |skip
  have hyes:(ai s.index 0 2000&&tOk s.time&&bG s.pairs&&bo s.jobs&&gi s.lease)=true:=by simp_all[tOk]
  have h8:s.jobs.length<=8:=Cb Mw
  refine AWP.loopS (λk:Nat=>k<=s.jobs.length/\∀(j:Nat) (hj:j<k) (hl:j<s.jobs.length),decide (s.jobs[j].fired<=s.index)=true) [2,3,32,33,34,35,36,37,38,39,40,41,42,43,44,45,46,47] (λk=>[(3,vI .i64 (k:Int))]) (λ_=>[(1,.cells 86 (s.ds.map .d))]) (λk=>s.jobs.length-k) 0 ⟨by omega,by omega⟩ ?_ (ak.cons rfl ak.nil) (λk hR=>?_)<;>(conv=>whnf)
  · exact whd
  · obtain⟨hk,hall⟩:=hR
    repeat'((first|refine aw0 ?_|refine aw1 ?_|refine aw2 ?_|refine aw3 ?_|refine aw4 ?_|refine aw5 ?_|refine aw6 ?_|refine aw7 ?_|refine aw8 ?_|refine bT ?_|refine bF ?_|refine AWP.drawK ah 6 8 kM lh Mp Mp Mp rfl ?_|refine AIx.mapF ari (λhlt=>?_)|refine AW.i64 ari ari ?_|exact rr|refine And.intro rfl ?_|refine AB.mk (λh=>?_) (λh=>?_))<;>conv=>whnf)
    all_goals first
      |(rw[wH (k:=k) ari MA];done)
      | (refine aB.mk ⟨k + 1, ⟨ari, cu (p := fun j : DJob => decide (j.fired ≤ s.index)) hall ari Mw⟩, ari, ?_, ak.cons rfl ak.nil⟩
         exact hds)
      |(rw[rx hyes (dl (p:=λj:DJob=>decide (j.fired<=s.index)) hall ari)])
theorem pi(a b:List DPair)(ha:a.length<=9223372036854775806)(hb:b.length<=9223372036854775806):aj av 259 [.one (.sl (a.map DPair.ds)),.one (.sl (b.map DPair.ds))] (rB (bG a&&bG b&&decide (a=b))):=by
  refine ae ah func259 rfl call259 ntmps259 (MC results259) λS=>?_;conv=>whnf
  repeat'((first|refine aw0 ?_|refine aw1 ?_|refine aw2 ?_|refine aw3 ?_|refine aw4 ?_|refine aw5 ?_|refine aw6 ?_|refine aw7 ?_|refine aw8 ?_|refine bT ?_|refine bF ?_|refine cP (fv a ha) ?_|refine cP (fv b hb) ?_|refine cP (ur a b ha) ?_|exact rr|refine And.intro rfl ?_|refine AB.mk (λh=>?_) (λh=>?_))<;>conv=>whnf)
  all_goals
    refine aG ?_
    simp_all
theorem qR(a b:List DJob)(ha:a.length<=9223372036854775806):aj av 260 [.one (.sl (a.map DJob.ds)),.one (.sl (b.map DJob.ds))] (rB (bo a&&bo b&&decide (a=b))):=by
  refine ae ah func260 rfl call260 ntmps260 (MC results260) λS=>?_;conv=>whnf
  repeat'((first|refine aw0 ?_|refine aw1 ?_|refine aw2 ?_|refine aw3 ?_|refine aw4 ?_|refine aw5 ?_|refine aw6 ?_|refine aw7 ?_|refine aw8 ?_|refine bT ?_|refine bF ?_|refine cP (gl a) ?_|refine cP (gl b) ?_|refine cP (wC a b ha) ?_|exact rr|refine And.intro rfl ?_|refine AB.mk (λh=>?_) (λh=>?_))<;>conv=>whnf)
  all_goals
    refine aG ?_
    simp_all
theorem pP(a b:List DPair)(ha:a.length<=9223372036854775806):aj av 282 [.one (.sl (a.map DPair.ds)),.one (.sl (b.map DPair.ds))] (rB (bG a&&bG b&&decide (a=b))):=by
  refine ae ah func282 rfl call282 ntmps282 (MC results282) λS=>?_;conv=>whnf
  repeat'((first|refine aw0 ?_|refine aw1 ?_|refine aw2 ?_|refine aw3 ?_|refine aw4 ?_|refine aw5 ?_|refine aw6 ?_|refine aw7 ?_|refine aw8 ?_|refine bT ?_|refine bF ?_|refine cP (fB a) ?_|refine cP (fB b) ?_|exact rr|refine And.intro rfl ?_|refine AB.mk (λh=>?_) (λh=>?_))<;>conv=>whnf)
  · refine aG ?_
    have e:bG a=false:=by simp_all
    rw[e];rfl
  · refine aG ?_
    have e:bG b=false:=by simp_all
    rw[e,Bool.and_false];rfl
  · rw[fY Mu,Bool.and_false]
  · have hlen:a.length=b.length:=Mu
    have ea:bG a=true:=by simp_all
    have eb:bG b=true:=by simp_all
    rw[ea,eb]
    refine AWP.loopS (λk:Nat=>k<=a.length/\∀(j:Nat) (hj:j<k) (h1:j<a.length) (h2:j<b.length),a[j]=b[j]) [4,5,21,22,23,24,25,26,27,28,29,30,31,32,33,34,35] (λk=>[(5,vI .i64 (k:Int))]) (λ_=>[]) (λk=>a.length-k) 0 ⟨by omega,by omega⟩ ?_ ak.nil (λk hR=>?_)<;>(conv=>whnf)
    · exact whd
    · obtain⟨hk,hall⟩:=hR
      repeat'((first|refine aw0 ?_|refine aw1 ?_|refine aw2 ?_|refine aw3 ?_|refine aw4 ?_|refine aw5 ?_|refine aw6 ?_|refine aw7 ?_|refine aw8 ?_|refine bT ?_|refine bF ?_|refine AWP.drawK ah 6 8 iJ iT Mp Mp Mp rfl ?_|refine AIx.mapF ari (λhlt=>?_)|refine AW.i64 ari ari ?_|refine il.eqs (j6 _ _) rfl rfl rfl rfl rfl ?_|refine AOp.eqs (j6 _ _) rfl rfl rfl rfl rfl ?_|exact rr|refine And.intro rfl ?_|refine AB.mk (λh=>?_) (λh=>?_))<;>conv=>whnf)
      all_goals first
        |(rw[kx (k:=k) ari ari (by first|(simpa using h)|(exfalso;assumption)),Bool.and_false];done)
        | (refine aB.mk ⟨k + 1, ⟨ari, d8 hall fun h1 h2 => by simpa using h⟩, ari, ?_, ak.nil⟩
           exact hds)
        | (have hkk : k = a.length := ari
           rw[fX hlen λj h1 h2=>hall j Mo h1 h2];rfl)
theorem rn(a b:List DJob)(ha:a.length<=9223372036854775806):aj av 283 [.one (.sl (a.map DJob.ds)),.one (.sl (b.map DJob.ds))] (rB (bo a&&bo b&&decide (a=b))):=by
  refine ae ah func283 rfl call283 ntmps283 (MC results283) λS=>?_;conv=>whnf
  repeat'((first|refine aw0 ?_|refine aw1 ?_|refine aw2 ?_|refine aw3 ?_|refine aw4 ?_|refine aw5 ?_|refine aw6 ?_|refine aw7 ?_|refine aw8 ?_|refine bT ?_|refine bF ?_|refine cP (eJ a) ?_|refine cP (eJ b) ?_|exact rr|refine And.intro rfl ?_|refine AB.mk (λh=>?_) (λh=>?_))<;>conv=>whnf)
  · refine aG ?_
    have e:bo a=false:=by simp_all
    rw[e];rfl
  · refine aG ?_
    have e:bo b=false:=by simp_all
    rw[e,Bool.and_false];rfl
  · rw[fY Mu,Bool.and_false]
  · have hlen:a.length=b.length:=Mu
    have ea:bo a=true:=by simp_all
    have eb:bo b=true:=by simp_all
    rw[ea,eb]
    refine AWP.loopS (λk:Nat=>k<=a.length/\∀(j:Nat) (hj:j<k) (h1:j<a.length) (h2:j<b.length),a[j]=b[j]) [4,5,21,22,23,24,25,26,27,28,29,30,31,32,33,34,35] (λk=>[(5,vI .i64 (k:Int))]) (λ_=>[]) (λk=>a.length-k) 0 ⟨by omega,by omega⟩ ?_ ak.nil (λk hR=>?_)<;>(conv=>whnf)
    · exact whd
    · obtain⟨hk,hall⟩:=hR
      repeat'((first|refine aw0 ?_|refine aw1 ?_|refine aw2 ?_|refine aw3 ?_|refine aw4 ?_|refine aw5 ?_|refine aw6 ?_|refine aw7 ?_|refine aw8 ?_|refine bT ?_|refine bF ?_|refine AWP.drawK ah 6 8 jy jJ Mp Mp Mp rfl ?_|refine AIx.mapF ari (λhlt=>?_)|refine AW.i64 ari ari ?_|refine il.eqs (nf _ _) rfl rfl rfl rfl rfl ?_|refine AOp.eqs (nf _ _) rfl rfl rfl rfl rfl ?_|exact rr|refine And.intro rfl ?_|refine AB.mk (λh=>?_) (λh=>?_))<;>conv=>whnf)
      all_goals first
        |(rw[kx (k:=k) ari ari (by first|(simpa using h)|(exfalso;assumption)),Bool.and_false];done)
        | (refine aB.mk ⟨k + 1, ⟨ari, d8 hall fun h1 h2 => by simpa using h⟩, ari, ?_, ak.nil⟩
           exact hds)
        | (have hkk : k = a.length := ari
           rw[fX hlen λj h1 h2=>hall j Mo h1 h2];rfl)
theorem cQ{s:DState}(h:bH s=true):bG s.pairs=true/\bo s.jobs=true:=by
  simp only[bH,Bool.and_eq_true]at h
  exact⟨h.1.1.1.2,h.1.1.2⟩
theorem pj(a b:DState)(ha:a.pairs.length<=9223372036854775806)(hb:b.pairs.length<=9223372036854775806)(hj:a.jobs.length<=9223372036854775806):aj av 160 [.agg a.ds,.agg b.ds] (rB (bH a&&bH b&&decide (a=b))):=by
  refine ae ah func160 rfl call160 ntmps160 (MC results160) λS=>?_;conv=>whnf
  repeat'((first|refine aw0 ?_|refine aw1 ?_|refine aw2 ?_|refine aw3 ?_|refine aw4 ?_|refine aw5 ?_|refine aw6 ?_|refine aw7 ?_|refine aw8 ?_|refine bT ?_|refine bF ?_|refine cP (fw a ha) ?_|refine cP (fw b hb) ?_|refine cP (pi a.pairs b.pairs ha hb) ?_|refine cP (qR a.jobs b.jobs hj) ?_|refine AOp.eqs (gT a.lease b.lease) rfl rfl rfl rfl rfl ?_|exact rr|refine And.intro rfl ?_|refine AB.mk (λh=>?_) (λh=>?_))<;>conv=>whnf)
  all_goals
    refine aG ?_
    obtain⟨i1,t1,p1,j1,l1⟩:=a
    obtain⟨i2,t2,p2,j2,l2⟩:=b
    first
      | (have q1 := cQ (s := ⟨i1, t1, p1, j1, l1⟩) Mt
         have q2:=cQ (s:=⟨i2,t2,p2,j2,l2⟩) Mt
         simp_all[DState.mk.injEq];done)
      | (have q1 := cQ (s := ⟨i1, t1, p1, j1, l1⟩) Mt
         have q2:=cQ (s:=⟨i2,t2,p2,j2,l2⟩) Mt
         simp_all[DState.mk.injEq];rw[Bool.eq_iff_iff];simp;done)
      |(simp_all[DState.mk.injEq];done)
      |(simp_all[DState.mk.injEq];rw[Bool.eq_iff_iff];simp;done)
theorem pQ(a b:DState)(ha:a.pairs.length<=9223372036854775806)(hb:b.pairs.length<=9223372036854775806)(hj:a.jobs.length<=9223372036854775806):aj av 224 [.agg a.ds,.agg b.ds] (rB (bH a&&bH b&&decide (a=b))):=by
  refine ae ah func224 rfl call224 ntmps224 (MC results224) λS=>?_;conv=>whnf
  repeat'((first|refine aw0 ?_|refine aw1 ?_|refine aw2 ?_|refine aw3 ?_|refine aw4 ?_|refine aw5 ?_|refine aw6 ?_|refine aw7 ?_|refine aw8 ?_|refine bT ?_|refine bF ?_|refine cP (fC a ha) ?_|refine cP (fC b hb) ?_|refine cP (pP a.pairs b.pairs ha) ?_|refine cP (rn a.jobs b.jobs hj) ?_|refine AOp.eqs (gT a.lease b.lease) rfl rfl rfl rfl rfl ?_|exact rr|refine And.intro rfl ?_|refine AB.mk (λh=>?_) (λh=>?_))<;>conv=>whnf)
  all_goals
    refine aG ?_
    obtain⟨i1,t1,p1,j1,l1⟩:=a
    obtain⟨i2,t2,p2,j2,l2⟩:=b
    first
      | (have q1 := cQ (s := ⟨i1, t1, p1, j1, l1⟩) Mt
         have q2:=cQ (s:=⟨i2,t2,p2,j2,l2⟩) Mt
         simp_all[DState.mk.injEq];done)
      | (have q1 := cQ (s := ⟨i1, t1, p1, j1, l1⟩) Mt
         have q2:=cQ (s:=⟨i2,t2,p2,j2,l2⟩) Mt
         simp_all[DState.mk.injEq];rw[Bool.eq_iff_iff];simp;done)
      |(simp_all[DState.mk.injEq];done)
      |(simp_all[DState.mk.injEq];rw[Bool.eq_iff_iff];simp;done)
theorem rl:aj av 225 [] (.val (.agg gM.ds)):=by
  refine ae ah func225 rfl call225 ntmps225 (MC results225) λS=>?_;conv=>whnf
  repeat'((first|refine aw0 ?_|refine aw1 ?_|refine aw2 ?_|refine aw3 ?_|refine aw4 ?_|refine aw5 ?_|refine aw6 ?_|refine aw7 ?_|refine aw8 ?_|refine bT ?_|refine bF ?_|exact rr|refine And.intro rfl ?_|refine AB.mk (λh=>?_) (λh=>?_))<;>conv=>whnf)
  all_goals rfl
theorem wL{s:DStore}{b:Bool}(h:(ns s.disk&&bH s.state&&ai s.num 0 1000000000&&ai s.last 0 s.state.index&&((s.num==0)==(s.last==0))&&(s.busy==0||(decide (s.num<1000000000)&&decide (s.last<s.busy)&&decide (s.busy<=s.state.index))))=b):b=dH s:=h.symm
theorem th(s:DStore)(hs:s.state.pairs.length<=9223372036854775806):aj av 158 [.agg s.ds] (rB (dH s)):=by
  refine ae ah func158 rfl call158 ntmps158 (MC results158) λS=>?_;conv=>whnf
  repeat'((first|refine aw0 ?_|refine aw1 ?_|refine aw2 ?_|refine aw3 ?_|refine aw4 ?_|refine aw5 ?_|refine aw6 ?_|refine aw7 ?_|refine aw8 ?_|refine bT ?_|refine bF ?_|refine cP (tg s.disk) ?_|refine cP (fw s.state hs) ?_|refine cP (aq _ _ _) ?_|exact rr|refine And.intro rfl ?_|refine AB.mk (λh=>?_) (λh=>?_))<;>conv=>whnf)
  all_goals
    refine aG (wL ?_)
    first
      |(simp_all;done)
      |(simp_all;omega)
theorem uc(s:DStore)(hs:s.state.pairs.length<=9223372036854775806):aj av 119 [.agg s.ds] (rB (dH s)):=by
  refine ae ah func119 rfl call119 ntmps119 (MC results119) λS=>?_;conv=>whnf
  repeat'((first|refine aw0 ?_|refine aw1 ?_|refine aw2 ?_|refine aw3 ?_|refine aw4 ?_|refine aw5 ?_|refine aw6 ?_|refine aw7 ?_|refine aw8 ?_|refine bT ?_|refine bF ?_|refine AW.i64 (by simp_all[ai,bH];omega) (by simp_all[ai,bH];omega) ?_|refine cP (ub s.disk) ?_|refine cP (fC s.state hs) ?_|refine cP (aA _ _ _) ?_|exact rr|refine And.intro rfl ?_|refine AB.mk (λh=>?_) (λh=>?_))<;>conv=>whnf)
  all_goals
    refine aG (wL ?_)
    first
      |(simp_all;done)
      |(simp_all;omega)
      |(simp_all[ai];rw[Bool.eq_iff_iff];simp;omega)
end Go.Proofs.YtehobfglmeiglaaGreatDoor
namespace Go.Proofs.YtehobfglmeiglaaGreatDoor
open Go.Proofs.Tryz
open Go.ChangeShapes Go.WideShapes Go.RowKit
def kN:List (List Nat):=bk [0,1,129,12354,1056835,84676740,6510088389,486455648518,35601017745735,1420639959544200,182422663955222725,12773057508086145546,12773057508086145546,970905742326030938443,3674598465663765430186893,214296344793583010436666252,20043448135544716623136174411,1360593728809283051758193795856,92553623897107378771643345949393,6252930518153901924192488793883666,421307180612201082523824880478368851,28313975464645083054128267548695790740,421307180612201082523824880478368851,30972431456214914799935881669256479892,7776324311549306545480028705690995791844887,565665440792314898885167755628818958089528598,421307180612201082523824880478368851,2406791985042823201691274050742470225704287041115,166190669982267733666810070155792670210451560809882,7589595446454492208365568010425794255677587611031260,411214222190821752199510526821617712340966917935543444]
def li:List (List Nat):=bj 27 [0,1,4,13,40,121,364,1093,3280,9841,29524,4340101,442867,974308,2391484,7174453,21523360,64570081,193710244,581130733,5336523525730,5340010310131,5113369324066,5144750383675,5224946424898,5507375961379,2540122436128]
def kO:List (List Nat):=bk [0,0,66,12417,1052803,84680772,6509830341,486455906566,35601001230663,35601001230663,164122109978632714,12864558999848899017,895947530576690971275,62214096053295717315148,4288581010608110333633229,156574859254327662432785166,20081510041707290985360540040,1356899553734770709485945406352,92556059859101783530825705349649,6252694090949133134287064896955410,421307336513768724428412551479985235,421307336513768724428412551479985235,29643188329088893724478127479572726932,115973981525213093280048416437421598131670,8484542429884486294578280036455145361446101,421307336513768724428412551479985235,421307336513768724428412551479985235,2237446419982627661829974766124422735131,154770370026833647458333021132891313214682,9478136593377203285270784258858039974432863023376092,728993587567459518691010934350707305400695727828841817,31086994452182876006794359805922655292521215753823303454,1679760286856737015412416772989889414138560113444105565332]
def lj:List (List Nat):=bj 29 [6,2,4,13,40,121,364,1093,42646,16402,29524,88573,265720,797161,2391484,7174453,21523360,64570081,193710244,581130733,67868514973264,67791805716442,67802266069645,67830160344853,67924303523680,5929276873900,2540122436128,4234699655014,11860297140001]
def jz:List (List Nat):=bk [0,0,66,12417,1052803,0,0,391,33222,2384328,90925286754906505]
def jK:List (List Nat):=bj 10 [58812,58808,58810,58819,58846,1700,728,1214,3401,9962]
theorem tj(x y:DDue):aj av 344 [.agg x.ds,.agg y.ds] (rB (iO x y)):=by
  refine ae ah func344 rfl call344 ntmps344 (MC results344) λS=>?_;conv=>whnf
  repeat'((first|refine aw0 ?_|refine aw1 ?_|refine aw2 ?_|refine aw3 ?_|refine aw4 ?_|refine aw5 ?_|refine aw6 ?_|refine aw7 ?_|refine aw8 ?_|refine bT ?_|refine bF ?_|exact rr|refine And.intro rfl ?_|refine AB.mk (λh=>?_) (λh=>?_))<;>conv=>whnf)
  all_goals
    refine aG ?_
    first
      |(simp_all[iO];done)
      |(simp_all[iO];omega)
theorem n5(x y:DDue):aj av 343 [.agg x.ds,.agg y.ds] (rB (iO x y)):=by
  refine ae ah func343 rfl call343 ntmps343 (MC results343) λS=>?_;conv=>whnf
  repeat'((first|refine aw0 ?_|refine aw1 ?_|refine aw2 ?_|refine aw3 ?_|refine aw4 ?_|refine aw5 ?_|refine aw6 ?_|refine aw7 ?_|refine aw8 ?_|refine bT ?_|refine bF ?_|exact rr|refine And.intro rfl ?_|refine AB.mk (λh=>?_) (λh=>?_))<;>conv=>whnf)
  all_goals
    refine aG ?_
    first
      |(simp_all[iO];done)
      |(simp_all[iO];omega)
def d6(l:List DDue):Bool:=decide (l.length<=8)&&l.all eW&&gc iO l&&bW mg l
theorem tq(j:DJobs):g6 j=(ai j.index 0 2000&&tOk j.time&&(j.holder==0||dm j.holder)&&ai j.epoch 0 1000&&ai j.til 0 1001000&&d6 j.opens):=by simp only[g6,d6,Bool.and_assoc]
theorem rb{l:List DDue}(h:¬l.length<=8):d6 l=false:=by simp[d6,h]
theorem nZ{l:List DDue}{k:Nat}(hk:k<l.length)(h:aQ eW iO l k hk=false):d6 l=false:=by
  rcases Bool.and_eq_false_iff.1 (iG hk h)with h|h<;>simp only[d6,h,Bool.and_false,Bool.false_and]
theorem ra{l:List DDue}{j k:Nat}(hj:j<k)(hk:k<l.length)(h:(l[j]'(by omega)).id=l[k].id):d6 l=false:=by
  have:=lO (R:=mg) hj hk (by simp[mg,h])
  simp only[d6,this,Bool.and_false]
theorem rc{l:List DDue}(h:l.length<=8)(hc:(l.all eW&&gc iO l)=true)(hd:bW mg l=true):d6 l=true:=by
  rw[Bool.and_eq_true]at hc
  simp only[d6,h,hc.1,hc.2,hd,decide_true,Bool.and_self]
theorem xG{l:List DDue}{k:Nat}(hk:k<l.length)(h:decide (l[k].id∈(l.take k).map (·.id))=true):d6 l=false:=by
  obtain⟨m,hm,e⟩:=List.mem_map.1 (of_decide_eq_true h)
  obtain⟨j,hj,rfl⟩:=List.getElem_of_mem hm
  simp at hj e
  exact ra (j:=j) Mo hk e
theorem FI{l:List DDue}{k:Nat}(hk:k<l.length)(h:decide (l[k].id∈(l.take k).map (·.id))=false){i:Nat}(hi:i<k):mg (l[i]'(by omega)) l[k]=false:=by
  have:=of_decide_eq_false h
  simp only[mg,beq_eq_false_iff_ne,ne_eq]
  intro e
  refine this (List.mem_map.2 ⟨l[i],?_,e⟩)
  rw[List.mem_take_iff_getElem]
  exact⟨i,by omega,rfl⟩
theorem Gz{l:List DDue}{k:Nat}(hlt:k<l.length):((l.take k).map (·.id))++[l[k].id]=(l.take (k+1)).map (·.id):=(em (λm:DDue=>m.id) hlt).symm
theorem FA{n:Int}(h:(!ai n 1 20)=false):(Lit.int .i64 n).wf=true:=uF h Mq Mq
set_option maxHeartbeats 4000000 in
theorem tc(j:DJobs):aj av 328 [.agg j.ds] (rB (g6 j)):=by
  rw[tq]
  refine ae ah func328 rfl call328 ntmps328 (MC results328) λS=>?_;conv=>whnf
  repeat'((first|refine aw0 ?_|refine aw1 ?_|refine aw2 ?_|refine aw3 ?_|refine aw4 ?_|refine aw5 ?_|refine aw6 ?_|refine aw7 ?_|refine aw8 ?_|refine bT ?_|refine bF ?_|refine AOp.makeSet rfl rfl ?_|refine cP (aq _ _ _) ?_|refine cP (bm _) ?_|refine cP (aU _) ?_|exact rr|refine And.intro rfl ?_|refine AB.mk (λh=>?_) (λh=>?_))<;>conv=>whnf)
  all_goals first
    |(refine aG ?_;simp_all[tOk];done)
    |(refine aG ?_;rw[rb ari,Bool.and_false];done)
    |skip
  all_goals
    have h1:j.opens.length<=8:=ari
    have hpre:(ai j.index 0 2000&&tOk j.time&&(j.holder==0||dm j.holder)&&ai j.epoch 0 1000&&ai j.til 0 1001000)=true:=by simp_all[tOk]
    rw[hpre,Bool.true_and]
    clear hpre
    refine AWP.loopS (λk:Nat=>k<=j.opens.length/\(∀(q:Nat) (hj:q<k) (hl:q<j.opens.length),aQ eW iO j.opens q hl=true)/\∀(i q:Nat) (hi:i<q) (hj:q<k) (hl:q<j.opens.length),mg (j.opens[i]'(by omega)) j.opens[q]=false) [2,4,5,47,48,49,50,51,52,53,54,55,56,57,58,59,60,61,62,63,64,65,66,67,68,69,70,71,72,73,74,75,76,77,78,79,80,81,82,83,84,85,86] (λk=>[(47,vI .i64 (k:Int))]) (λk=>[(43,dF Tryz.prog 2 k (fk ((j.opens.take k).map (·.id)))),(1,.cells 91 (j.ds.map .d))]) (λk=>j.opens.length-k) 0 ⟨by omega,by omega,by omega⟩ ?_ (ak.cons rfl (ak.cons rfl ak.nil)) (λk hR=>?_)<;>(conv=>whnf)
    · exact whd
    · obtain⟨hk,hall,hdup⟩:=hR
      repeat'((first|refine aw0 ?_|refine aw1 ?_|refine aw2 ?_|refine aw3 ?_|refine aw4 ?_|refine aw5 ?_|refine aw6 ?_|refine aw7 ?_|refine aw8 ?_|refine bT ?_|refine bF ?_|refine AWP.drawK ah 9 27 kN li Mp Mp Mp rfl ?_|refine AIx.mapF ari (λhlt=>?_)|refine AIx.mapP ari ari (λhpv=>?_)|refine AW.i64 (n:=_-_) ari ari ?_|refine AW.i64 ari ari ?_|refine cP (m8 _) ?_|refine cP (bm _) ?_|refine cP (tj _ _) ?_|refine il.lookSet (id:=43) (N:=k) rfl rfl rfl rfl (FA Mt) ?_|refine AOp.lookSet (id:=43) (N:=k) rfl rfl rfl rfl (FA Mt) ?_|refine AOp.putSet (id:=43) (N:=k) rfl Mo rfl rfl rfl (FA Mt) ?_|exact rr|refine And.intro rfl ?_|refine AB.mk (λh=>?_) (λh=>?_))<;>conv=>whnf)
      all_goals first
        |(rw[nZ (k:=k) ari (by first|(refine aL _ ?_;simp_all[eW,tOk];done)|(rw[aC _ ari];simp_all[eW,tOk];done)|(rw[aD _ ari];simp_all[eW,tOk];done)|(exfalso;assumption))];done)
        |(rw[xG (k:=k) ari Mt];done)
        | (refine aB.mk ⟨k + 1, ⟨ari, cc hall ari (by first | (refine aL _ ?_; simp_all [eW, tOk]; done) | (rw [aC _ ari]; simp_all [eW, tOk]; done) | (rw [aD _ ari]; simp_all [eW, tOk]; done) | (exfalso; assumption)), kj ari hdup fun i hi => FI ari Mt hi⟩, ari, ?_, ak.cons (congrArg some (congrArg (fun l => dF Tryz.prog 2 (k + 1) (fk l)) (Gz ari))) (ak.cons rfl ak.nil)⟩
           exact hds)
        |(rw[rc h1 (dd hall ari) (mY ari hdup)])
set_option maxHeartbeats 4000000 in
theorem uh(l:List DDue):aj av 325 [.one (.sl (l.map DDue.ds))] (rB (d6 l)):=by
  refine ae ah func325 rfl call325 ntmps325 (MC results325) λS=>?_;conv=>whnf
  repeat'((first|refine aw0 ?_|refine aw1 ?_|refine aw2 ?_|refine aw3 ?_|refine aw4 ?_|refine aw5 ?_|refine aw6 ?_|refine aw7 ?_|refine aw8 ?_|refine bT ?_|refine bF ?_|exact rr|refine And.intro rfl ?_|refine AB.mk (λh=>?_) (λh=>?_))<;>conv=>whnf)
  · rw[rb ari]
  · have h1:l.length<=8:=ari
    clear h
    refine AWP.loopS (λk:Nat=>k<=l.length/\(∀(j:Nat) (hj:j<k) (hl:j<l.length),aQ eW iO l j hl=true)/\∀(i j:Nat) (hi:i<j) (hj:j<k) (hl:j<l.length),mg (l[i]'(by omega)) l[j]=false) [2,3,4,8,9,10,11,12,13,14,15,16,17,18,19,20,21,22,23,24,25,26,27,28,29,30,31,32,33,34,35,36,37,38,39,40,41,42,43,44,45,46,47,48,49,50,51,52,53,54,55,56,57,58,59,60,61,62] (λk=>[(3,vI .i64 (k:Int))]) (λk=>[]) (λk=>l.length-k) 0 ⟨by omega,by omega,by omega⟩ ?_ ak.nil (λk hR=>?_)<;>(conv=>whnf)
    · exact whd
    · obtain⟨hk,hall,hdup⟩:=hR
      repeat'((first|refine aw0 ?_|refine aw1 ?_|refine aw2 ?_|refine aw3 ?_|refine aw4 ?_|refine aw5 ?_|refine aw6 ?_|refine aw7 ?_|refine aw8 ?_|refine bT ?_|refine bF ?_|refine AWP.drawK ah 6 29 kO lj Mp Mp Mp rfl ?_|refine AIx.mapF ari (λhlt=>?_)|refine AIx.mapP ari ari (λhpv=>?_)|refine AW.i64 (n:=_-_) ari ari ?_|refine AW.i64 ari ari ?_|refine cP (rP _) ?_|refine cP (bL _) ?_|refine cP (n5 _ _) ?_|exact rr|refine And.intro rfl ?_|refine AB.mk (λh=>?_) (λh=>?_))<;>conv=>whnf)
      all_goals first
        |(rw[nZ (k:=k) ari (by first|(refine aL _ ?_;simp_all[eW,tOk];done)|(rw[aC _ ari];simp_all[eW,tOk];done)|(rw[aD _ ari];simp_all[eW,tOk];done)|(exfalso;assumption))];done)
        |(rw[rc h1 (dd hall ari) (mY ari hdup)];done)
        |skip
      all_goals
        have hkl:k<l.length:=ari
        have hch:aQ eW iO l k hkl=true:=(by first|(refine aL _ ?_;simp_all[eW,tOk];done)|(rw[aC _ ari];simp_all[eW,tOk];done)|(rw[aD _ ari];simp_all[eW,tOk];done)|(exfalso;assumption))
        refine AWP.loopS (λq:Nat=>q<=k/\∀(i:Nat) (hi:i<q) (hik:i<k),mg (l[i]'(by omega)) l[k]=false) [2,4,47,48,49,50,51,52,53,54,55,56,57,58,59,60,61,62] (λq=>[(4,vI .i64 (q:Int))]) (λ_=>[]) (λq=>k-q) 0 ⟨by omega,by omega⟩ ?_ ak.nil (λq hQ=>?_)<;>(conv=>whnf)
        · exact whd
        · obtain⟨hq,hno⟩:=hQ
          repeat'((first|refine aw0 ?_|refine aw1 ?_|refine aw2 ?_|refine aw3 ?_|refine aw4 ?_|refine aw5 ?_|refine aw6 ?_|refine aw7 ?_|refine aw8 ?_|refine bT ?_|refine bF ?_|refine AWP.drawK ah 11 10 jz jK Mp Mp Mp rfl ?_|refine AIx.mapF (k:=q) ari (λhqt=>?_)|refine AIx.mapF (k:=k) ari (λhlt=>?_)|refine AW.i64 ari ari ?_|exact rr|refine And.intro rfl ?_|refine AB.mk (λh=>?_) (λh=>?_))<;>conv=>whnf)
          all_goals first
            |(rw[ra (j:=q) (k:=k) ari ari (by simpa using h)];done)
            | (have hjq : ∀ hqk : q < k, mg (l[q]'(by omega)) l[k] = false := fun hqk => h
               refine aB.mk ⟨q+1,⟨ari,λi hi hik=>?_⟩,ari,?_,ak.nil⟩
               · by_cases hiq:i=q
                 · subst hiq;exact hjq hik
                 · exact hno i Mo hik
               · exact hds)
            | (refine aB.mk ⟨k + 1, ⟨ari, cc hall ari hch, kj ari hdup fun i hi => hno i ari hi⟩, ari, ?_, ak.nil⟩
               exact hds)
theorem t7(j:DJobs):aj av 284 [.agg j.ds] (rB (g6 j)):=by
  rw[tq]
  refine ae ah func284 rfl call284 ntmps284 (MC results284) λS=>?_;conv=>whnf
  repeat'((first|refine aw0 ?_|refine aw1 ?_|refine aw2 ?_|refine aw3 ?_|refine aw4 ?_|refine aw5 ?_|refine aw6 ?_|refine aw7 ?_|refine aw8 ?_|refine bT ?_|refine bF ?_|refine cP (aA _ _ _) ?_|refine cP (bL _) ?_|refine cP (ro _) ?_|refine cP (uh j.opens) ?_|exact rr|refine And.intro rfl ?_|refine AB.mk (λh=>?_) (λh=>?_))<;>conv=>whnf)
  all_goals
    refine aG ?_
    simp_all[tOk]
theorem vR(v:DView):aj av 290 [.agg v.ds] (rB (g6 v.jobs)):=by
  refine ae ah func290 rfl call290 ntmps290 (MC results290) λS=>?_;conv=>whnf
  repeat'((first|refine aw0 ?_|refine aw1 ?_|refine aw2 ?_|refine aw3 ?_|refine aw4 ?_|refine aw5 ?_|refine aw6 ?_|refine aw7 ?_|refine aw8 ?_|refine bT ?_|refine bF ?_|refine cP (tc v.jobs) ?_|exact rr|refine And.intro rfl ?_|refine AB.mk (λh=>?_) (λh=>?_))<;>conv=>whnf)
theorem wu(v:DView):aj av 226 [.agg v.ds] (rB (g6 v.jobs)):=by
  refine ae ah func226 rfl call226 ntmps226 (MC results226) λS=>?_;conv=>whnf
  repeat'((first|refine aw0 ?_|refine aw1 ?_|refine aw2 ?_|refine aw3 ?_|refine aw4 ?_|refine aw5 ?_|refine aw6 ?_|refine aw7 ?_|refine aw8 ?_|refine bT ?_|refine bF ?_|refine cP (t7 v.jobs) ?_|exact rr|refine And.intro rfl ?_|refine AB.mk (λh=>?_) (λh=>?_))<;>conv=>whnf)
theorem tf(s:DSched):aj av 242 [.agg s.ds] (rB (ct s)):=by
  refine ae ah func242 rfl call242 ntmps242 (MC results242) λS=>?_;conv=>whnf
  repeat'((first|refine aw0 ?_|refine aw1 ?_|refine aw2 ?_|refine aw3 ?_|refine aw4 ?_|refine aw5 ?_|refine aw6 ?_|refine aw7 ?_|refine aw8 ?_|refine bT ?_|refine bF ?_|refine cP (aU _) ?_|refine cP (aq _ _ _) ?_|refine cP (vR s.view) ?_|refine cP (m7 s.op) ?_|refine AOp.eqs (iQ s.op op0) rfl rfl rfl rfl rfl ?_|exact rr|refine And.intro rfl ?_|refine AB.mk (λh=>?_) (λh=>?_))<;>conv=>whnf)
  all_goals
    refine aG ?_
    first
      |(simp_all[ct];done)
      |(simp_all[ct,ai];omega)
      | (have hb := vu (x := s.seq) Mt
         simp_all[ct];rw[Bool.eq_iff_iff];simp;omega)
theorem ua(s:DSched):aj av 121 [.agg s.ds] (rB (ct s)):=by
  refine ae ah func121 rfl call121 ntmps121 (MC results121) λS=>?_;conv=>whnf
  repeat'((first|refine aw0 ?_|refine aw1 ?_|refine aw2 ?_|refine aw3 ?_|refine aw4 ?_|refine aw5 ?_|refine aw6 ?_|refine aw7 ?_|refine aw8 ?_|refine bT ?_|refine bF ?_|refine cP (ca _) ?_|refine cP (aA _ _ _) ?_|refine cP (wu s.view) ?_|refine cP (nq s.op) ?_|refine AOp.eqs (iQ s.op op0) rfl rfl rfl rfl rfl ?_|exact rr|refine And.intro rfl ?_|refine AB.mk (λh=>?_) (λh=>?_))<;>conv=>whnf)
  all_goals
    refine aG ?_
    first
      |(simp_all[ct];done)
      |(simp_all[ct,ai];omega)
      | (have hb := vu (x := s.seq) Mt
         simp_all[ct];rw[Bool.eq_iff_iff];simp;omega)
end Go.Proofs.YtehobfglmeiglaaGreatDoor
namespace Go.Proofs.YtehobfglmeiglaaGreatDoor
open Go.Proofs.Tryz
open Go.ChangeShapes Go.WideShapes Go.RowKit
def jA:List (List Nat):=bk [0,1,0,3,0,0,1318982,416663998597]
def jL:List (List Nat):=bj 6 [720,721,656,665,566,242]
def iK:List (List Nat):=bk [0,1,129,12354,1056835,12354,5419311366,207267586309,35532366946371,2546539915919688,182418056579387593,12845115105294176778,12845115105294176778,970905447453977489995,3674597257867834505343885,215505270666383147350676364,11199800992597658428499096203,1360694127215502325577536770249]
def iU:List (List Nat):=bj 14 [0,1,4,499,526,229,364,1093,3280,9841,29524,4340101,442867,974308]
theorem qU(a b:DView)(ha:a.jobs.opens.length<=9223372036854775806):aj av 292 [.agg a.ds,.agg b.ds] (rB (decide (a=b))):=by
  refine ae ah func292 rfl call292 ntmps292 (MC results292) λS=>?_;conv=>whnf
  repeat'((first|refine aw0 ?_|refine aw1 ?_|refine aw2 ?_|refine aw3 ?_|refine aw4 ?_|refine aw5 ?_|refine aw6 ?_|refine aw7 ?_|refine aw8 ?_|refine bT ?_|refine bF ?_|exact rr|refine And.intro rfl ?_|refine AB.mk (λh=>?_) (λh=>?_))<;>conv=>whnf)
  refine AWP.drawSN ah 1 6 jA jL 4 1 4 Mp Mp Mp rfl ⟨_,rfl,rfl,rfl,rfl⟩ rfl rfl rfl rfl rfl ?_;conv=>whnf
  repeat'((first|refine aw0 ?_|refine aw1 ?_|refine aw2 ?_|refine aw3 ?_|refine aw4 ?_|refine aw5 ?_|refine aw6 ?_|refine aw7 ?_|refine aw8 ?_|refine bT ?_|refine bF ?_|exact rr|refine And.intro rfl ?_|refine AB.mk (λh=>?_) (λh=>?_))<;>conv=>whnf)
  refine⟨_,_,_,_,_,?o1,rfl,rfl,rfl,rfl,rfl,?hst,?hk⟩
  case hst=>
    conv=>whnf
  conv=>whnf
  refine⟨rfl,?_,?_⟩
  · repeat'(first|exact trivial|exact⟨rfl,rfl⟩|(refine⟨?_,?_⟩)|((first|refine aw0 ?_|refine aw1 ?_|refine aw2 ?_|refine aw3 ?_|refine aw4 ?_|refine aw5 ?_|refine aw6 ?_|refine aw7 ?_|refine aw8 ?_|refine bT ?_|refine bF ?_)<;>conv=>whnf)|(conv=>whnf))
  conv=>whnf
  repeat'((first|refine aw0 ?_|refine aw1 ?_|refine aw2 ?_|refine aw3 ?_|refine aw4 ?_|refine aw5 ?_|refine aw6 ?_|refine aw7 ?_|refine aw8 ?_|refine bT ?_|refine bF ?_|refine cP (wA a.jobs.opens b.jobs.opens ha) ?_|exact rr|refine And.intro rfl ?_|refine AB.mk (λh=>?_) (λh=>?_))<;>conv=>whnf)
  all_goals
    refine aG ?_
    obtain⟨⟨i1,t1,h1,e1,l1,o1⟩⟩:=a
    obtain⟨⟨i2,t2,h2,e2,l2,o2⟩⟩:=b
    simp_all[DView.mk.injEq,DJobs.mk.injEq]
theorem zK{a b:DSched}:a=b↔(a.id=b.id/\a.seq=b.seq/\a.view=b.view/\a.busy=b.busy/\a.op=b.op/\a.index=b.index):=by
  cases a;cases b;simp[DSched.mk.injEq]
theorem pr(a b:DSched)(ha:a.view.jobs.opens.length<=9223372036854775806):aj av 243 [.agg a.ds,.agg b.ds] (rB (decide (a=b))):=by
  refine ae ah func243 rfl call243 ntmps243 (MC results243) λS=>?_;conv=>whnf
  repeat'((first|refine aw0 ?_|refine aw1 ?_|refine aw2 ?_|refine aw3 ?_|refine aw4 ?_|refine aw5 ?_|refine aw6 ?_|refine aw7 ?_|refine aw8 ?_|refine bT ?_|refine bF ?_|refine cP (qU a.view b.view ha) ?_|refine AOp.eqs (iQ a.op b.op) rfl rfl rfl rfl rfl ?_|exact rr|refine And.intro rfl ?_|refine AB.mk (λh=>?_) (λh=>?_))<;>conv=>whnf)
  all_goals
    refine aG ?_
    rw[Bool.eq_iff_iff,decide_eq_true_iff,zK]
    simp_all
def jd(id:Int):DSched:=if dm id then oI id else oI 0
theorem qP(id:Int):aj av 244 [.one (dI id)] (.val (.agg (jd id).ds)):=by
  refine ae ah func244 rfl call244 ntmps244 (MC results244) λS=>?_;conv=>whnf
  repeat'((first|refine aw0 ?_|refine aw1 ?_|refine aw2 ?_|refine aw3 ?_|refine aw4 ?_|refine aw5 ?_|refine aw6 ?_|refine aw7 ?_|refine aw8 ?_|refine bT ?_|refine bF ?_|refine cP (aU _) ?_|exact rr|refine And.intro rfl ?_|refine AB.mk (λh=>?_) (λh=>?_))<;>conv=>whnf)
  all_goals simp_all[jd,oI,DSched.ds,op0]
theorem gh(s:DSched)(id:Int)(up:Bool)(hs:s.view.jobs.opens.length<=9223372036854775806):aj av 154 [.agg s.ds,.one (dI id),.one (dB up)] (rB (bQ s id up)):=by
  refine ae ah func154 rfl call154 ntmps154 (MC results154) λS=>?_;conv=>whnf
  repeat'((first|refine aw0 ?_|refine aw1 ?_|refine aw2 ?_|refine aw3 ?_|refine aw4 ?_|refine aw5 ?_|refine aw6 ?_|refine aw7 ?_|refine aw8 ?_|refine bT ?_|refine bF ?_|refine AWP.drawK ah 1 14 iK iU Mp Mp Mp rfl ?_|refine cP (tf s) ?_|refine cP (qP _) ?_|refine cP (pr s (jd id) hs) ?_|exact rr|refine And.intro rfl ?_|refine AB.mk (λh=>?_) (λh=>?_))<;>conv=>whnf)
  all_goals
    refine aG ?_
    first
      |(simp_all[bQ];done)
      | (have e : jd id = oI id := by simp_all [jd, ct]
         simp_all[bQ]
         rw[Bool.eq_iff_iff];simp;done)
theorem kA(s:DSched):aj av 122 [.agg s.ds] (rB (decide (s=oI s.id))):=by
  refine ae ah func122 rfl call122 ntmps122 (MC results122) λS=>?_;conv=>whnf
  repeat'((first|refine aw0 ?_|refine aw1 ?_|refine aw2 ?_|refine aw3 ?_|refine aw4 ?_|refine aw5 ?_|refine aw6 ?_|refine aw7 ?_|refine aw8 ?_|refine bT ?_|refine bF ?_|refine AOp.eqs (iQ s.op op0) rfl rfl rfl rfl rfl ?_|exact rr|refine And.intro rfl ?_|refine AB.mk (λh=>?_) (λh=>?_))<;>conv=>whnf)
  all_goals
    refine aG ?_
    obtain⟨i,q,⟨⟨a,b,c,d,e,l⟩⟩,u,o,x⟩:=s
    rw[Bool.eq_iff_iff,decide_eq_true_iff,zK]
    simp_all[oI,DView.mk.injEq,DJobs.mk.injEq]
theorem ij(s:DSched)(id:Int)(up:Bool):aj av 59 [.agg s.ds,.one (dI id),.one (dB up)] (rB (bQ s id up)):=by
  refine ae ah func59 rfl call59 ntmps59 (MC results59) λS=>?_;conv=>whnf
  repeat'((first|refine aw0 ?_|refine aw1 ?_|refine aw2 ?_|refine aw3 ?_|refine aw4 ?_|refine aw5 ?_|refine aw6 ?_|refine aw7 ?_|refine aw8 ?_|refine bT ?_|refine bF ?_|refine cP (ua s) ?_|refine cP (kA s) ?_|exact rr|refine And.intro rfl ?_|refine AB.mk (λh=>?_) (λh=>?_))<;>conv=>whnf)
  all_goals
    refine aG ?_
    first
      |(simp_all[bQ];done)
      |(simp_all[bQ];rw[Bool.eq_iff_iff];simp;done)
end Go.Proofs.YtehobfglmeiglaaGreatDoor
