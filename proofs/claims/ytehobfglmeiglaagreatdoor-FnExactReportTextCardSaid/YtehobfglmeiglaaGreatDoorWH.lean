/- WH -/
import Derived.Test.YtehobfglmeiglaaGreatDoorWG
import Derived.Test.YtehobfglmeiglaaGreatDoorJ06
set_option linter.unusedVariables false
set_option linter.unusedSimpArgs false
set_option maxRecDepth 100000
namespace Go.Proofs.YtehobfglmeiglaaGreatDoor
open Go.Proofs.Tryz
open Go.ChangeShapes Go.WideShapes Go.RowKit
def cK:List (List Nat):=bk [0,0,66,12417,0,0,326,29061,17663105454471]
def cM:List (List Nat):=bj 8 [6486,6482,6484,6493,566,242,404,1133]
def cV:List (List Nat):=bk [0,0,66,12417,0,0,326,29061,17663105454471]
def cZ:List (List Nat):=bj 8 [6486,6482,6484,6493,566,242,404,1133]
def cC:List (List Nat):=bk [0,0,66,12417,0,0,326,29061,17663105454471]
def cE:List (List Nat):=bj 8 [6486,6482,6484,6493,566,242,404,1133]
def cL:List (List Nat):=bk [0,0,66,12417,0,0,326,29061,17663105454471]
def cN:List (List Nat):=bj 8 [6486,6482,6484,6493,566,242,404,1133]
def cX:List (List Nat):=bk [0,0,66,12417,0,0,326,29061,17663105454471]
def da:List (List Nat):=bj 8 [6486,6482,6484,6493,566,242,404,1133]
def cW:List (List Nat):=bk [0,0,66,12417,0,0,326,29061,17663105454471]
def c9:List (List Nat):=bj 8 [6486,6482,6484,6493,566,242,404,1133]
def dY:List (List Nat):=bk [0,0,66,12417,0,0,326,29061,17663105454471]
def d3:List (List Nat):=bj 8 [6486,6482,6484,6493,566,242,404,1133]
def k6:List (List Nat):=bk [0,0,66,12417,0,0,326,29061,17663105454471]
def lz:List (List Nat):=bj 8 [6486,6482,6484,6493,566,242,404,1133]
theorem fY{α:Type}[DecidableEq α]{a b:List α}(h:¬a.length=b.length):decide (a=b)=false:=decide_eq_false λe=>h (by rw[e])
theorem kx{α:Type}[DecidableEq α]{a b:List α}{k:Nat}(h1:k<a.length)(h2:k<b.length)(h:a[k]≠b[k]):decide (a=b)=false:=decide_eq_false λe=>h (by subst e;rfl)
theorem fX{α:Type}[DecidableEq α]{a b:List α}(hl:a.length=b.length)(h:∀(j:Nat) (h1:j<a.length) (h2:j<b.length),a[j]=b[j]):decide (a=b)=true:=decide_eq_true (List.ext_getElem hl h)
theorem d8{α:Type}{a b:List α}{k:Nat}(h:∀(j:Nat) (hj:j<k) (h1:j<a.length) (h2:j<b.length),a[j]=b[j])(hk:∀(h1:k<a.length) (h2:k<b.length),a[k]=b[k]):∀(j:Nat) (hj:j<k+1) (h1:j<a.length) (h2:j<b.length),a[j]=b[j]:=by
  intro j hj h1 h2
  by_cases hjk:j=k
  · subst hjk;exact hk h1 h2
  · exact h j Mo h1 h2
theorem uq(a b:List DMark)(ha:a.length<=9223372036854775806):aj av 298 [.one (.sl (a.map DMark.ds)),.one (.sl (b.map DMark.ds))] (rB (decide (a=b))):=by
  refine ae ah func298 rfl call298 ntmps298 (MC results298) λS=>?_;conv=>whnf
  repeat'((first|refine aw0 ?_|refine aw1 ?_|refine aw2 ?_|refine aw3 ?_|refine aw4 ?_|refine aw5 ?_|refine aw6 ?_|refine aw7 ?_|refine aw8 ?_|refine bT ?_|refine bF ?_|exact rr|refine And.intro rfl ?_|refine AB.mk (λh=>?_) (λh=>?_))<;>conv=>whnf)
  · rw[fY Mu]
  · have hlen:a.length=b.length:=Mu
    clear h
    refine AWP.loopS (λk:Nat=>k<=a.length/\∀(j:Nat) (hj:j<k) (h1:j<a.length) (h2:j<b.length),a[j]=b[j]) [4,5,13,14,15,16,17,18,19,20,21,22,23,24,25] (λk=>[(13,vI .i64 (k:Int))]) (λ_=>[]) (λk=>a.length-k) 0 ⟨by omega,by omega⟩ ?_ ak.nil (λk hR=>?_)<;>(conv=>whnf)
    · exact whd
    · obtain⟨hk,hall⟩:=hR
      repeat'((first|refine aw0 ?_|refine aw1 ?_|refine aw2 ?_|refine aw3 ?_|refine aw4 ?_|refine aw5 ?_|refine aw6 ?_|refine aw7 ?_|refine aw8 ?_|refine bT ?_|refine bF ?_|refine AWP.drawK ah 6 8 cK cM Mp Mp Mp rfl ?_|refine AIx.mapF ari (λhlt=>?_)|refine AW.i64 ari ari ?_|refine il.eqs (j5 _ _) rfl rfl rfl rfl rfl ?_|refine AOp.eqs (j5 _ _) rfl rfl rfl rfl rfl ?_|exact rr|refine And.intro rfl ?_|refine AB.mk (λh=>?_) (λh=>?_))<;>conv=>whnf)
      all_goals first
        |(rw[kx (k:=k) ari ari Mw];done)
        | (refine aB.mk ⟨k + 1, ⟨ari, d8 hall fun h1 h2 => by simpa using h⟩, ari, ?_, ak.nil⟩
           exact hds)
        | (have hkk : k = a.length := ari
           rw[fX hlen λj h1 h2=>hall j Mo h1 h2])
theorem nw(a b:List DAck)(ha:a.length<=9223372036854775806):aj av 251 [.one (.sl (a.map DAck.ds)),.one (.sl (b.map DAck.ds))] (rB (decide (a=b))):=by
  refine ae ah func251 rfl call251 ntmps251 (MC results251) λS=>?_;conv=>whnf
  repeat'((first|refine aw0 ?_|refine aw1 ?_|refine aw2 ?_|refine aw3 ?_|refine aw4 ?_|refine aw5 ?_|refine aw6 ?_|refine aw7 ?_|refine aw8 ?_|refine bT ?_|refine bF ?_|exact rr|refine And.intro rfl ?_|refine AB.mk (λh=>?_) (λh=>?_))<;>conv=>whnf)
  · rw[fY Mu]
  · have hlen:a.length=b.length:=Mu
    clear h
    refine AWP.loopS (λk:Nat=>k<=a.length/\∀(j:Nat) (hj:j<k) (h1:j<a.length) (h2:j<b.length),a[j]=b[j]) [4,5,13,14,15,16,17,18,19,20,21,22,23,24,25] (λk=>[(13,vI .i64 (k:Int))]) (λ_=>[]) (λk=>a.length-k) 0 ⟨by omega,by omega⟩ ?_ ak.nil (λk hR=>?_)<;>(conv=>whnf)
    · exact whd
    · obtain⟨hk,hall⟩:=hR
      repeat'((first|refine aw0 ?_|refine aw1 ?_|refine aw2 ?_|refine aw3 ?_|refine aw4 ?_|refine aw5 ?_|refine aw6 ?_|refine aw7 ?_|refine aw8 ?_|refine bT ?_|refine bF ?_|refine AWP.drawK ah 6 8 cV cZ Mp Mp Mp rfl ?_|refine AIx.mapF ari (λhlt=>?_)|refine AW.i64 ari ari ?_|refine il.eqs (qq _ _) rfl rfl rfl rfl rfl ?_|refine AOp.eqs (qq _ _) rfl rfl rfl rfl rfl ?_|exact rr|refine And.intro rfl ?_|refine AB.mk (λh=>?_) (λh=>?_))<;>conv=>whnf)
      all_goals first
        |(rw[kx (k:=k) ari ari Mw];done)
        | (refine aB.mk ⟨k + 1, ⟨ari, d8 hall fun h1 h2 => by simpa using h⟩, ari, ?_, ak.nil⟩
           exact hds)
        | (have hkk : k = a.length := ari
           rw[fX hlen λj h1 h2=>hall j Mo h1 h2])
theorem rv(a b:List DEntry)(ha:a.length<=9223372036854775806):aj av 307 [.one (.sl (a.map DEntry.ds)),.one (.sl (b.map DEntry.ds))] (rB (decide (a=b))):=by
  refine ae ah func307 rfl call307 ntmps307 (MC results307) λS=>?_;conv=>whnf
  repeat'((first|refine aw0 ?_|refine aw1 ?_|refine aw2 ?_|refine aw3 ?_|refine aw4 ?_|refine aw5 ?_|refine aw6 ?_|refine aw7 ?_|refine aw8 ?_|refine bT ?_|refine bF ?_|exact rr|refine And.intro rfl ?_|refine AB.mk (λh=>?_) (λh=>?_))<;>conv=>whnf)
  · rw[fY Mu]
  · have hlen:a.length=b.length:=Mu
    clear h
    refine AWP.loopS (λk:Nat=>k<=a.length/\∀(j:Nat) (hj:j<k) (h1:j<a.length) (h2:j<b.length),a[j]=b[j]) [4,5,13,14,15,16,17,18,19,20,21,22,23,24,25] (λk=>[(13,vI .i64 (k:Int))]) (λ_=>[]) (λk=>a.length-k) 0 ⟨by omega,by omega⟩ ?_ ak.nil (λk hR=>?_)<;>(conv=>whnf)
    · exact whd
    · obtain⟨hk,hall⟩:=hR
      repeat'((first|refine aw0 ?_|refine aw1 ?_|refine aw2 ?_|refine aw3 ?_|refine aw4 ?_|refine aw5 ?_|refine aw6 ?_|refine aw7 ?_|refine aw8 ?_|refine bT ?_|refine bF ?_|refine AWP.drawK ah 6 8 cC cE Mp Mp Mp rfl ?_|refine AIx.mapF ari (λhlt=>?_)|refine AW.i64 ari ari ?_|refine il.eqs (q3 _ _) rfl rfl rfl rfl rfl ?_|refine AOp.eqs (q3 _ _) rfl rfl rfl rfl rfl ?_|exact rr|refine And.intro rfl ?_|refine AB.mk (λh=>?_) (λh=>?_))<;>conv=>whnf)
      all_goals first
        |(rw[kx (k:=k) ari ari Mw];done)
        | (refine aB.mk ⟨k + 1, ⟨ari, d8 hall fun h1 h2 => by simpa using h⟩, ari, ?_, ak.nil⟩
           exact hds)
        | (have hkk : k = a.length := ari
           rw[fX hlen λj h1 h2=>hall j Mo h1 h2])
theorem ur(a b:List DPair)(ha:a.length<=9223372036854775806):aj av 311 [.one (.sl (a.map DPair.ds)),.one (.sl (b.map DPair.ds))] (rB (decide (a=b))):=by
  refine ae ah func311 rfl call311 ntmps311 (MC results311) λS=>?_;conv=>whnf
  repeat'((first|refine aw0 ?_|refine aw1 ?_|refine aw2 ?_|refine aw3 ?_|refine aw4 ?_|refine aw5 ?_|refine aw6 ?_|refine aw7 ?_|refine aw8 ?_|refine bT ?_|refine bF ?_|exact rr|refine And.intro rfl ?_|refine AB.mk (λh=>?_) (λh=>?_))<;>conv=>whnf)
  · rw[fY Mu]
  · have hlen:a.length=b.length:=Mu
    clear h
    refine AWP.loopS (λk:Nat=>k<=a.length/\∀(j:Nat) (hj:j<k) (h1:j<a.length) (h2:j<b.length),a[j]=b[j]) [4,5,13,14,15,16,17,18,19,20,21,22,23,24,25] (λk=>[(13,vI .i64 (k:Int))]) (λ_=>[]) (λk=>a.length-k) 0 ⟨by omega,by omega⟩ ?_ ak.nil (λk hR=>?_)<;>(conv=>whnf)
    · exact whd
    · obtain⟨hk,hall⟩:=hR
      repeat'((first|refine aw0 ?_|refine aw1 ?_|refine aw2 ?_|refine aw3 ?_|refine aw4 ?_|refine aw5 ?_|refine aw6 ?_|refine aw7 ?_|refine aw8 ?_|refine bT ?_|refine bF ?_|refine AWP.drawK ah 6 8 cL cN Mp Mp Mp rfl ?_|refine AIx.mapF ari (λhlt=>?_)|refine AW.i64 ari ari ?_|refine il.eqs (j6 _ _) rfl rfl rfl rfl rfl ?_|refine AOp.eqs (j6 _ _) rfl rfl rfl rfl rfl ?_|exact rr|refine And.intro rfl ?_|refine AB.mk (λh=>?_) (λh=>?_))<;>conv=>whnf)
      all_goals first
        |(rw[kx (k:=k) ari ari Mw];done)
        | (refine aB.mk ⟨k + 1, ⟨ari, d8 hall fun h1 h2 => by simpa using h⟩, ari, ?_, ak.nil⟩
           exact hds)
        | (have hkk : k = a.length := ari
           rw[fX hlen λj h1 h2=>hall j Mo h1 h2])
theorem wC(a b:List DJob)(ha:a.length<=9223372036854775806):aj av 312 [.one (.sl (a.map DJob.ds)),.one (.sl (b.map DJob.ds))] (rB (decide (a=b))):=by
  refine ae ah func312 rfl call312 ntmps312 (MC results312) λS=>?_;conv=>whnf
  repeat'((first|refine aw0 ?_|refine aw1 ?_|refine aw2 ?_|refine aw3 ?_|refine aw4 ?_|refine aw5 ?_|refine aw6 ?_|refine aw7 ?_|refine aw8 ?_|refine bT ?_|refine bF ?_|exact rr|refine And.intro rfl ?_|refine AB.mk (λh=>?_) (λh=>?_))<;>conv=>whnf)
  · rw[fY Mu]
  · have hlen:a.length=b.length:=Mu
    clear h
    refine AWP.loopS (λk:Nat=>k<=a.length/\∀(j:Nat) (hj:j<k) (h1:j<a.length) (h2:j<b.length),a[j]=b[j]) [4,5,13,14,15,16,17,18,19,20,21,22,23,24,25] (λk=>[(13,vI .i64 (k:Int))]) (λ_=>[]) (λk=>a.length-k) 0 ⟨by omega,by omega⟩ ?_ ak.nil (λk hR=>?_)<;>(conv=>whnf)
    · exact whd
    · obtain⟨hk,hall⟩:=hR
      repeat'((first|refine aw0 ?_|refine aw1 ?_|refine aw2 ?_|refine aw3 ?_|refine aw4 ?_|refine aw5 ?_|refine aw6 ?_|refine aw7 ?_|refine aw8 ?_|refine bT ?_|refine bF ?_|refine AWP.drawK ah 6 8 cX da Mp Mp Mp rfl ?_|refine AIx.mapF ari (λhlt=>?_)|refine AW.i64 ari ari ?_|refine il.eqs (nf _ _) rfl rfl rfl rfl rfl ?_|refine AOp.eqs (nf _ _) rfl rfl rfl rfl rfl ?_|exact rr|refine And.intro rfl ?_|refine AB.mk (λh=>?_) (λh=>?_))<;>conv=>whnf)
      all_goals first
        |(rw[kx (k:=k) ari ari Mw];done)
        | (refine aB.mk ⟨k + 1, ⟨ari, d8 hall fun h1 h2 => by simpa using h⟩, ari, ?_, ak.nil⟩
           exact hds)
        | (have hkk : k = a.length := ari
           rw[fX hlen λj h1 h2=>hall j Mo h1 h2])
theorem wA(a b:List DDue)(ha:a.length<=9223372036854775806):aj av 330 [.one (.sl (a.map DDue.ds)),.one (.sl (b.map DDue.ds))] (rB (decide (a=b))):=by
  refine ae ah func330 rfl call330 ntmps330 (MC results330) λS=>?_;conv=>whnf
  repeat'((first|refine aw0 ?_|refine aw1 ?_|refine aw2 ?_|refine aw3 ?_|refine aw4 ?_|refine aw5 ?_|refine aw6 ?_|refine aw7 ?_|refine aw8 ?_|refine bT ?_|refine bF ?_|exact rr|refine And.intro rfl ?_|refine AB.mk (λh=>?_) (λh=>?_))<;>conv=>whnf)
  · rw[fY Mu]
  · have hlen:a.length=b.length:=Mu
    clear h
    refine AWP.loopS (λk:Nat=>k<=a.length/\∀(j:Nat) (hj:j<k) (h1:j<a.length) (h2:j<b.length),a[j]=b[j]) [4,5,13,14,15,16,17,18,19,20,21,22,23,24,25] (λk=>[(13,vI .i64 (k:Int))]) (λ_=>[]) (λk=>a.length-k) 0 ⟨by omega,by omega⟩ ?_ ak.nil (λk hR=>?_)<;>(conv=>whnf)
    · exact whd
    · obtain⟨hk,hall⟩:=hR
      repeat'((first|refine aw0 ?_|refine aw1 ?_|refine aw2 ?_|refine aw3 ?_|refine aw4 ?_|refine aw5 ?_|refine aw6 ?_|refine aw7 ?_|refine aw8 ?_|refine bT ?_|refine bF ?_|refine AWP.drawK ah 6 8 cW c9 Mp Mp Mp rfl ?_|refine AIx.mapF ari (λhlt=>?_)|refine AW.i64 ari ari ?_|refine il.eqs (v7 _ _) rfl rfl rfl rfl rfl ?_|refine AOp.eqs (v7 _ _) rfl rfl rfl rfl rfl ?_|exact rr|refine And.intro rfl ?_|refine AB.mk (λh=>?_) (λh=>?_))<;>conv=>whnf)
      all_goals first
        |(rw[kx (k:=k) ari ari Mw];done)
        | (refine aB.mk ⟨k + 1, ⟨ari, d8 hall fun h1 h2 => by simpa using h⟩, ari, ?_, ak.nil⟩
           exact hds)
        | (have hkk : k = a.length := ari
           rw[fX hlen λj h1 h2=>hall j Mo h1 h2])
theorem wB(a b:List Int)(ha:a.length<=9223372036854775806):aj av 335 [.one (.sl (a.map eI)),.one (.sl (b.map eI))] (rB (decide (a=b))):=by
  refine ae ah func335 rfl call335 ntmps335 (MC results335) λS=>?_;conv=>whnf
  repeat'((first|refine aw0 ?_|refine aw1 ?_|refine aw2 ?_|refine aw3 ?_|refine aw4 ?_|refine aw5 ?_|refine aw6 ?_|refine aw7 ?_|refine aw8 ?_|refine bT ?_|refine bF ?_|exact rr|refine And.intro rfl ?_|refine AB.mk (λh=>?_) (λh=>?_))<;>conv=>whnf)
  · rw[fY Mu]
  · have hlen:a.length=b.length:=Mu
    clear h
    refine AWP.loopS (λk:Nat=>k<=a.length/\∀(j:Nat) (hj:j<k) (h1:j<a.length) (h2:j<b.length),a[j]=b[j]) [4,5,13,14,15,16,17,18,19,20,21,22,23,24,25] (λk=>[(13,vI .i64 (k:Int))]) (λ_=>[]) (λk=>a.length-k) 0 ⟨by omega,by omega⟩ ?_ ak.nil (λk hR=>?_)<;>(conv=>whnf)
    · exact whd
    · obtain⟨hk,hall⟩:=hR
      repeat'((first|refine aw0 ?_|refine aw1 ?_|refine aw2 ?_|refine aw3 ?_|refine aw4 ?_|refine aw5 ?_|refine aw6 ?_|refine aw7 ?_|refine aw8 ?_|refine bT ?_|refine bF ?_|refine AWP.drawK ah 6 8 dY d3 Mp Mp Mp rfl ?_|refine AIx.mapF ari (λhlt=>?_)|refine AW.i64 ari ari ?_|exact rr|refine And.intro rfl ?_|refine AB.mk (λh=>?_) (λh=>?_))<;>conv=>whnf)
      all_goals first
        |(rw[kx (k:=k) ari ari Mw];done)
        | (refine aB.mk ⟨k + 1, ⟨ari, d8 hall fun h1 h2 => by simpa using h⟩, ari, ?_, ak.nil⟩
           exact hds)
        | (have hkk : k = a.length := ari
           rw[fX hlen λj h1 h2=>hall j Mo h1 h2])
theorem ic(a b:List DMark)(ha:a.length<=9223372036854775806):aj av 215 [.one (.sl (a.map DMark.ds)),.one (.sl (b.map DMark.ds))] (rB (decide (a=b))):=by
  refine ae ah func215 rfl call215 ntmps215 (MC results215) λS=>?_;conv=>whnf
  repeat'((first|refine aw0 ?_|refine aw1 ?_|refine aw2 ?_|refine aw3 ?_|refine aw4 ?_|refine aw5 ?_|refine aw6 ?_|refine aw7 ?_|refine aw8 ?_|refine bT ?_|refine bF ?_|exact rr|refine And.intro rfl ?_|refine AB.mk (λh=>?_) (λh=>?_))<;>conv=>whnf)
  · rw[fY Mu]
  · have hlen:a.length=b.length:=Mu
    clear h
    refine AWP.loopS (λk:Nat=>k<=a.length/\∀(j:Nat) (hj:j<k) (h1:j<a.length) (h2:j<b.length),a[j]=b[j]) [4,5,11,12,13,14,15,16,17,18,19,20,21,22,23,24,25] (λk=>[(5,vI .i64 (k:Int))]) (λ_=>[]) (λk=>a.length-k) 0 ⟨by omega,by omega⟩ ?_ ak.nil (λk hR=>?_)<;>(conv=>whnf)
    · exact whd
    · obtain⟨hk,hall⟩:=hR
      repeat'((first|refine aw0 ?_|refine aw1 ?_|refine aw2 ?_|refine aw3 ?_|refine aw4 ?_|refine aw5 ?_|refine aw6 ?_|refine aw7 ?_|refine aw8 ?_|refine bT ?_|refine bF ?_|refine AWP.drawK ah 6 8 k6 lz Mp Mp Mp rfl ?_|refine AIx.mapF ari (λhlt=>?_)|refine AW.i64 ari ari ?_|refine il.eqs (j5 _ _) rfl rfl rfl rfl rfl ?_|refine AOp.eqs (j5 _ _) rfl rfl rfl rfl rfl ?_|exact rr|refine And.intro rfl ?_|refine AB.mk (λh=>?_) (λh=>?_))<;>conv=>whnf)
      all_goals first
        |(rw[kx (k:=k) ari ari Mw];done)
        | (refine aB.mk ⟨k + 1, ⟨ari, d8 hall fun h1 h2 => by simpa using h⟩, ari, ?_, ak.nil⟩
           exact hds)
        | (have hkk : k = a.length := ari
           rw[fX hlen λj h1 h2=>hall j Mo h1 h2])
theorem cO(a b:List DMark)(ha:a.length<=9223372036854775806):aj av 249 [.one (.sl (a.map DMark.ds)),.one (.sl (b.map DMark.ds))] (rB (decide (a=b))):=by
  refine ae ah func249 rfl call249 ntmps249 (MC results249) λS=>?_;conv=>whnf
  repeat'((first|refine aw0 ?_|refine aw1 ?_|refine aw2 ?_|refine aw3 ?_|refine aw4 ?_|refine aw5 ?_|refine aw6 ?_|refine aw7 ?_|refine aw8 ?_|refine bT ?_|refine bF ?_|refine cP (uq a b ha) ?_|exact rr|refine And.intro rfl ?_|refine AB.mk (λh=>?_) (λh=>?_))<;>conv=>whnf)
theorem jU(a b:List Int)(ha:a.length<=9223372036854775806):aj av 304 [.one (dIs a),.one (dIs b)] (rB (decide (a=b))):=by
  refine ae ah func304 rfl call304 ntmps304 (MC results304) λS=>?_;conv=>whnf
  repeat'((first|refine aw0 ?_|refine aw1 ?_|refine aw2 ?_|refine aw3 ?_|refine aw4 ?_|refine aw5 ?_|refine aw6 ?_|refine aw7 ?_|refine aw8 ?_|refine bT ?_|refine bF ?_|refine cP (wB a b ha) ?_|exact rr|refine And.intro rfl ?_|refine AB.mk (λh=>?_) (λh=>?_))<;>conv=>whnf)
theorem pt(x y:DWrite)(hx:x.row.length<=9223372036854775806):aj av 306 [.agg x.ds,.agg y.ds] (rB (decide (x=y))):=by
  obtain⟨a,r⟩:=x
  obtain⟨b,q⟩:=y
  refine ae ah func306 rfl call306 ntmps306 (MC results306) λS=>?_;conv=>whnf
  repeat'((first|refine aw0 ?_|refine aw1 ?_|refine aw2 ?_|refine aw3 ?_|refine aw4 ?_|refine aw5 ?_|refine aw6 ?_|refine aw7 ?_|refine aw8 ?_|refine bT ?_|refine bF ?_|refine cP (jU r q hx) ?_|exact rr|refine And.intro rfl ?_|refine AB.mk (λh=>?_) (λh=>?_))<;>conv=>whnf)
  all_goals
    refine congrArg (λb=>AP.val (AP1.one (dB b))) ?_
    simp_all[DWrite.mk.injEq]
theorem ut(a b:List (List Int))(ha:a.length<=9223372036854775806)(hr:∀y∈a,y.length<=9223372036854775806):aj av 303 [.one (.sl (a.map fW)),.one (.sl (b.map fW)),.one (.pv (.func (.func 304) #[] #[]))] (rB (decide (a=b))):=by
  refine ae ah func303 rfl call303 ntmps303 (MC results303) λS=>?_;conv=>whnf
  repeat'((first|refine aw0 ?_|refine aw1 ?_|refine aw2 ?_|refine aw3 ?_|refine aw4 ?_|refine aw5 ?_|refine aw6 ?_|refine aw7 ?_|refine aw8 ?_|refine bT ?_|refine bF ?_|exact rr|refine And.intro rfl ?_|refine AB.mk (λh=>?_) (λh=>?_))<;>conv=>whnf)
  · rw[fY Mu]
  · have hlen:a.length=b.length:=Mu
    clear h
    refine AWP.loopS (λk:Nat=>k<=a.length/\∀(j:Nat) (hj:j<k) (h1:j<a.length) (h2:j<b.length),a[j]=b[j]) [6,7,8,9,17,18,19,20,21,22,23,24,25,26,27,28,29,30,31] (λk=>[(17,vI .i64 (k:Int))]) (λ_=>[]) (λk=>a.length-k) 0 ⟨by omega,by omega⟩ ?_ ak.nil (λk hR=>?_)<;>(conv=>whnf)
    · exact whd
    · obtain⟨hk,hall⟩:=hR
      repeat'((first|refine aw0 ?_|refine aw1 ?_|refine aw2 ?_|refine aw3 ?_|refine aw4 ?_|refine aw5 ?_|refine aw6 ?_|refine aw7 ?_|refine aw8 ?_|refine bT ?_|refine bF ?_|refine AIx.mapF ari (λhlt=>?_)|refine AW.i64 ari ari ?_|refine cP (jU _ _ (hr _ (List.getElem_mem ari))) ?_|exact rr|refine And.intro rfl ?_|refine AB.mk (λh=>?_) (λh=>?_))<;>conv=>whnf)
      all_goals first
        |(rw[kx (k:=k) ari ari Mw];done)
        | (refine aB.mk ⟨k + 1, ⟨ari, d8 hall fun h1 h2 => by simpa using h⟩, ari, ?_, ak.nil⟩
           exact hds)
        | (have hkk : k = a.length := ari
           rw[fX hlen λj h1 h2=>hall j Mo h1 h2])
theorem pW(a b:List (DWrite))(ha:a.length<=9223372036854775806)(hr:∀y∈a,y.row.length<=9223372036854775806):aj av 305 [.one (.sl (a.map DWrite.ds)),.one (.sl (b.map DWrite.ds)),.one (.pv (.func (.func 306) #[] #[]))] (rB (decide (a=b))):=by
  refine ae ah func305 rfl call305 ntmps305 (MC results305) λS=>?_;conv=>whnf
  repeat'((first|refine aw0 ?_|refine aw1 ?_|refine aw2 ?_|refine aw3 ?_|refine aw4 ?_|refine aw5 ?_|refine aw6 ?_|refine aw7 ?_|refine aw8 ?_|refine bT ?_|refine bF ?_|exact rr|refine And.intro rfl ?_|refine AB.mk (λh=>?_) (λh=>?_))<;>conv=>whnf)
  · rw[fY Mu]
  · have hlen:a.length=b.length:=Mu
    clear h
    refine AWP.loopS (λk:Nat=>k<=a.length/\∀(j:Nat) (hj:j<k) (h1:j<a.length) (h2:j<b.length),a[j]=b[j]) [6,7,8,9,17,18,19,20,21,22,23,24,25,26,27,28,29,30,31] (λk=>[(17,vI .i64 (k:Int))]) (λ_=>[]) (λk=>a.length-k) 0 ⟨by omega,by omega⟩ ?_ ak.nil (λk hR=>?_)<;>(conv=>whnf)
    · exact whd
    · obtain⟨hk,hall⟩:=hR
      repeat'((first|refine aw0 ?_|refine aw1 ?_|refine aw2 ?_|refine aw3 ?_|refine aw4 ?_|refine aw5 ?_|refine aw6 ?_|refine aw7 ?_|refine aw8 ?_|refine bT ?_|refine bF ?_|refine AIx.mapF ari (λhlt=>?_)|refine AW.i64 ari ari ?_|refine cP (pt _ _ (hr _ (List.getElem_mem ari))) ?_|exact rr|refine And.intro rfl ?_|refine AB.mk (λh=>?_) (λh=>?_))<;>conv=>whnf)
      all_goals first
        |(rw[kx (k:=k) ari ari Mw];done)
        | (refine aB.mk ⟨k + 1, ⟨ari, d8 hall fun h1 h2 => by simpa using h⟩, ari, ?_, ak.nil⟩
           exact hds)
        | (have hkk : k = a.length := ari
           rw[fX hlen λj h1 h2=>hall j Mo h1 h2])
end Go.Proofs.YtehobfglmeiglaaGreatDoor
