/- AvJ7 -/
import Derived.Test.YtnlhpdbijmnkhaaGreatDoorAvJ6
import Derived.Test.YtnlhpdbijmnkhaaGreatDoorAvJS
import Derived.Test.YtnlhpdbijmnkhaaGreatDoorJ23
set_option linter.unusedVariables false
set_option linter.unusedSimpArgs false
set_option maxRecDepth 100000
namespace Go.Proofs.YtnlhpdbijmnkhaaGreatDoor
open Go.Proofs.Tryz
open Go.RowKit
def fa(w:List UInt8):List Int:=(w.take 121).map λb=>(b.toNat:Int)-48
def cR(s:Sc):Sc:=if s.cur=[]then{s.next with bad:=true}else s.next
theorem Sc.ok.fates{s:Sc}(h:s.ok):(cR s).ok:=by
 have:=h.next
 unfold cR
 split<;>exact this
theorem B2(s:Sc)(hd:s.ws=[]):a6 av 55 [.one (.ref 1000 0 0 0)] [(1000,s.o)] [(1000,s.o)] [1000] (.val (.one .nil)):=by
 obtain⟨ws,bad,at_⟩:=s
 simp only at hd
 subst hd
 refine aL aj func55 rfl call55 ntmps55 (IG results55) rfl λS pv=>?_;conv=>whnf
 repeat'((first|refine aw0 ?_|refine aw1 ?_|refine aw2 ?_|refine aw3 ?_|refine aw4 ?_|refine aw5 ?_|refine aw6 ?_|refine aw7 ?_|refine aw8 ?_|refine bT ?_|refine bF ?_|exact rr|refine And.intro rfl ?_|refine AB.mk (λh=>?_) (λh=>?_))<;>conv=>whnf)
theorem B3(s:Sc)(hs:s.ok)(hd:s.ws≠ []):a6 av 55 [.one (.ref 1000 0 0 0)] [(1000,s.o)] [(1000,(cR s).o),(12,.row 2 1 ((fa s.cur).map eI))] [1000] (.val (.one (.own 12))):=by
 have wm:=dD s hs
 have hcl:=hs.cur
 have hemp:s.ws.isEmpty=false:=by
  cases h:s.ws with
  |nil=>exact absurd h hd
  |cons w r=>rfl
 obtain⟨ws1,b1,a1⟩:∃ws1 b1 a1,s.next=⟨ws1,b1,a1⟩:=⟨_,_,_,rfl⟩
 obtain⟨a1,hs1⟩:=a1
 rw[hs1]at wm
 generalize hw:s.cur=w at*
 have e:cR s=⟨ws1,if w=[]then true else b1,a1⟩:=by
  unfold cR;rw[hs1,hw];split<;>rfl
 rw[e]
 have fin:∀k,k<=w.length->k<=121->¬(k<w.length/\k<=120)->w.take k=w.take 121:=by
  intro k h1 h2 h3
  by_cases h4:k=121
  ·subst h4;rfl
  ·have:k=w.length:=by omega
   subst this
   rw[List.take_length,List.take_of_length_le Iv]
 by_cases hnil:w=[]
 ·have hst:((⟨w.toArray⟩:ByteArray).toList==(⟨#[]⟩:ByteArray).toList)=true:=by rw[hnil];exact(bi [] []).trans Iy
  rw[if_pos hnil]
  refine aL aj func55 rfl call55 ntmps55 (IG results55) rfl λS pv=>?_;conv=>whnf
  repeat'((first|refine aw0 ?_|refine aw1 ?_|refine aw2 ?_|refine aw3 ?_|refine aw4 ?_|refine aw5 ?_|refine aw6 ?_|refine aw7 ?_|refine aw8 ?_|refine bT ?_|refine bF ?_|refine aa.upd wm 1000 rfl rfl rfl ?_|exact rr|refine And.intro rfl ?_|refine AB.mk (λh=>?_) (λh=>?_))<;>conv=>whnf)
  subst hnil
  refine AWP.unroll 1 ?_
  conv=>whnf
  repeat'((first|refine aw0 ?_|refine aw1 ?_|refine aw2 ?_|refine aw3 ?_|refine aw4 ?_|refine aw5 ?_|refine aw6 ?_|refine aw7 ?_|refine aw8 ?_|refine bT ?_|refine bF ?_|refine AB.ofF Ix ?_|exact rr|refine And.intro rfl ?_|refine AB.mk (λh=>?_) (λh=>?_))<;>conv=>whnf)
 ·have hst:((⟨w.toArray⟩:ByteArray).toList==(⟨#[]⟩:ByteArray).toList)=false:=by
   have:=bi w []
   rw[decide_eq_false hnil]at this
   exact this
  rw[if_neg hnil]
  refine aL aj func55 rfl call55 ntmps55 (IG results55) rfl λS pv=>?_;conv=>whnf
  repeat'((first|refine aw0 ?_|refine aw1 ?_|refine aw2 ?_|refine aw3 ?_|refine aw4 ?_|refine aw5 ?_|refine aw6 ?_|refine aw7 ?_|refine aw8 ?_|refine bT ?_|refine bF ?_|refine aa.upd wm 1000 rfl rfl rfl ?_|exact rr|refine And.intro rfl ?_|refine AB.mk (λh=>?_) (λh=>?_))<;>conv=>whnf)
  refine AWP.loopS (λk:Nat=>k<=w.length/\k<=121) (12::[4,5,18,19,20,21,22,23,24,25,26,27,28,29,30,31,32,33,34,35]) (λk=>[(4,.one (.own 12)),(5,vI .i64 (k:Int))]) (λk=>[(9999,.frame (bD [1000]) pv),(1000,(⟨ws1,b1,a1⟩:Sc).o),(12,.row 2 1 (((w.take k).map λb=>(b.toNat:Int)-48).map eI))]) (λk=>w.length-k) 0 ⟨by omega,by omega⟩ ?_ (ae.cons rfl (ae.cons rfl (ae.cons rfl ae.nil))) (λk hR=>?_)<;>(conv=>whnf)
  ·repeat'(first|exact trivial|(refine And.intro rfl ?_;conv=>whnf))
  ·obtain⟨hk,hk1⟩:=hR
   repeat'(first|((first|refine aw0 ?_|refine aw1 ?_|refine aw2 ?_|refine aw3 ?_|refine aw4 ?_|refine aw5 ?_|refine aw6 ?_|refine aw7 ?_|refine aw8 ?_|refine bT ?_|refine bF ?_)<;>conv=>whnf)|(have hlt:k<w.length:=(by simp only[cO,decide_eq_true_eq,decide_eq_false_iff_not,beq_iff_eq,beq_eq_false_iff_ne,List.length_map,Bool.not_eq_true',Bool.not_eq_false',ne_eq]at*;omega);have hb:w[k].toNat<=255:=(by have:=w[k].toNat_lt;omega);refine⟨k,w[k]'hlt,rfl,DR hlt,?_⟩;conv=>whnf)|((first|refine AW.i64 (by simp only[cO,decide_eq_true_eq,decide_eq_false_iff_not,beq_iff_eq,beq_eq_false_iff_ne,List.length_map,Bool.not_eq_true',Bool.not_eq_false',ne_eq]at*;omega) (by simp only[cO,decide_eq_true_eq,decide_eq_false_iff_not,beq_iff_eq,beq_eq_false_iff_ne,List.length_map,Bool.not_eq_true',Bool.not_eq_false',ne_eq]at*;omega) ?_|refine all_len (by simp[eI]) ?_|refine za (by simp only[List.length_map,List.length_take,List.length_cons,List.length_nil];omega) ?_|exact rr|refine And.intro rfl ?_|refine AB.mk (λh=>?_) (λh=>?_))<;>conv=>whnf))
   ·have hk2:k<=120:=ari
    have hrow:((w.take k).map λb=>(b.toNat:Int)-48).map eI++[[dI ((w[k].toNat:Int)-48)]]=((w.take (k+1)).map λb=>(b.toNat:Int)-48).map eI:=by
     rw[<-List.take_append_getElem hlt,List.map_append,List.map_append];rfl
    refine aN.mk ⟨k+1,⟨hlt,by omega⟩,by omega,?_,ae.cons rfl (ae.cons rfl (ae.cons (congrArg some (congrArg (AO.row 2 1) hrow)) ae.nil))⟩
    exact hds
   ·have e2:=fin k hk hk1 (by simp only[cO,decide_eq_true_eq,decide_eq_false_iff_not]at*;omega)
    rw[e2]
    repeat'((first|refine aw0 ?_|refine aw1 ?_|refine aw2 ?_|refine aw3 ?_|refine aw4 ?_|refine aw5 ?_|refine aw6 ?_|refine aw7 ?_|refine aw8 ?_|exact rr|refine And.intro rfl ?_|refine AB.mk (λh=>?_) (λh=>?_))<;>conv=>whnf)
   ·have e2:=fin k hk hk1 (by simp only[cO,decide_eq_true_eq,decide_eq_false_iff_not]at*;omega)
    rw[e2]
    repeat'((first|refine aw0 ?_|refine aw1 ?_|refine aw2 ?_|refine aw3 ?_|refine aw4 ?_|refine aw5 ?_|refine aw6 ?_|refine aw7 ?_|refine aw8 ?_|exact rr|refine And.intro rfl ?_|refine AB.mk (λh=>?_) (λh=>?_))<;>conv=>whnf)
end Go.Proofs.YtnlhpdbijmnkhaaGreatDoor
namespace Go.Proofs.YtnlhpdbijmnkhaaGreatDoor
open Go.Proofs.Tryz
open Go.RowKit
theorem Cb{l:List (List UInt8)}{x:List UInt8}:∀{k:Int},il l x=k->0<=k->l[k.toNat]? =some x:=by
 induction l with
 |nil=>intro k h h0;unfold il at h;omega
 |cons y r ih=>
  intro k h h0
  unfold il at h
  split at h
  ·rename_i e;subst h;simp[e]
  ·split at h
   ·omega
   ·have:=ih (k:=k-1) Iv (by have:=pF r x;omega)
    have e:k.toNat=(k-1).toNat+1:=by have:=pF r x;omega
    rw[e,List.getElem?_cons_succ];exact this
def oC(w:List UInt8):Int:=il bh w
theorem Df(l:List (List UInt8))(x:List UInt8):il l x<l.length:=by
 induction l with
 |nil=>show(-1:Int)<0;omega
 |cons y r ih=>unfold il;rw[List.length_cons];split;omega;split<;>omega
theorem mW(w:List UInt8): -1<=oC w/\oC w<=11:=by
 have h1:=pF bh w
 have h2:=Df bh w
 exact⟨h1,by have:bh.length=12:=rfl;unfold oC;omega⟩
theorem cZ{w:List UInt8}{k:Int}(h:1<=k/\k<=11):oC w=k↔ay k=w:=by
 constructor
 ·intro e
  have:=Cb e Iv
  unfold ay
  rw[List.getD_eq_getElem?_getD,this];rfl
 ·rintro rfl
  rcases cq h.1 h.2 with rfl|rfl|rfl|rfl|rfl|rfl|rfl|rfl|rfl|rfl|rfl<;>decide
def aJ(w:List UInt8):Int:=if oC w<1 then 0 else oC w
theorem kY(w:List UInt8):0<=aJ w/\aJ w<=11:=by
 have:=mW w
 unfold aJ
 split<;>omega
theorem aF{w:List UInt8}{k:Nat}(hk:k<=11)(hno:∀j:Nat,k<j->j<=11->ay j≠w)(he:k=0\/ay k=w):aJ w=k:=by
 have hr:=mW w
 unfold aJ
 by_cases h0:k=0
 ·subst h0
  rw[if_pos]
  ·rfl
  ·refine Classical.byContradiction λh=>?_
   exact hno (oC w).toNat Iv Iv (by rw[Int.toNat_of_nonneg Iv];exact(cZ Iv).1 rfl)
 ·have h1:ay k=w:=by rcases he with h|h;exact absurd h h0;exact h
  have h2:oC w=k:=(cZ Iv).2 h1
  rw[h2,if_neg Iv]
structure StR where
 a:Int
 b:Int
 c:Int
 s:Sc
noncomputable def Fu (s:Sc):StR:=⟨(bE s).1,0,0,(bE s).2⟩
noncomputable def Ee (s:Sc):StR:=⟨(aC s).1,0,0,(aC s).2⟩
noncomputable def xg (s:Sc):StR:=⟨(aC s).1,(bE (aC s).2).1,0,(bE (aC s).2).2⟩
noncomputable def tY (s:Sc):StR:=⟨(aC s).1,(aC (aC s).2).1,0,(aC (aC s).2).2⟩
noncomputable def Ef (s:Sc):StR:=⟨(bE s).1,(bE (bE s).2).1,(bE (bE (bE s).2).2).1,(bE (bE (bE s).2).2).2⟩
noncomputable def aH (k:Int) (s:Sc):StR:=
 if k=1\/k=7\/k=8 then Fu s else if k=2\/k=6 then Ee s else if k=3\/k=4 then xg s else if k=9\/k=10 then tY s else if k=11 then Ef s else⟨0,0,0,s⟩
theorem DS(s:Sc)(hs:s.ok)(hkd:aJ s.cur=0):a6 av 32 [.one (.ref 1000 0 0 0)] [(1000,s.o)] [(1000,(aH 0 s.next).s.o)] [1000] (.val (.agg [.d (dI 0),.d (dI (aH 0 s.next).a),.d (dI (aH 0 s.next).b),.d (dI (aH 0 s.next).c),.nil])):=by
 have wm:=dD s hs
 have h0:=hs.next
 have h1:=h0.num
 have h2:=h1.num
 have g1:=h0.node
 refine aL aj func32 rfl call32 ntmps32 (IG results32) rfl λS pv=>?_;conv=>whnf
 repeat'((first|refine aw0 ?_|refine aw1 ?_|refine aw2 ?_|refine aw3 ?_|refine aw4 ?_|refine aw5 ?_|refine aw6 ?_|refine aw7 ?_|refine aw8 ?_|refine bT ?_|refine bF ?_|refine aa.upd wm 1000 rfl rfl rfl ?_|exact rr|refine And.intro rfl ?_|refine AB.mk (λh=>?_) (λh=>?_))<;>conv=>whnf)
 refine AWP.loopS (λk:Nat=>k<=11/\∀j:Nat,k<j->j<=11->ay j≠s.cur) [8,9,10,11,12,13,14,15,16,17,18,19,20,21] (λk=>[]) (λk=>[(9999,.frame (bD [1000]) pv),(1000,s.next.o),(2,.cells 81 [.d (dI 0),.d (dI 0),.d (dI 0),.d (dI 0),.nil]),(4,.cells 81 [.d (dI (k:Int)),.d (dI 0),.d (dI 0),.d (dI 0),.nil])]) (λk=>k) 11 ⟨by omega,λj h1 h2=>by omega⟩ ?_ (ae.cons rfl (ae.cons rfl (ae.cons rfl (ae.cons rfl ae.nil)))) (λk hR=>?_)<;>(conv=>whnf)
 ·repeat'(first|exact trivial|(refine And.intro rfl ?_;conv=>whnf))
 ·obtain⟨hk,hno⟩:=hR
  repeat'((first|refine aw0 ?_|refine aw1 ?_|refine aw2 ?_|refine aw3 ?_|refine aw4 ?_|refine aw5 ?_|refine aw6 ?_|refine aw7 ?_|refine aw8 ?_|refine bT ?_|refine bF ?_|refine And.intro rfl ?_)<;>conv=>whnf)
  refine AB.mk (λh=>?_) (λh=>?_)<;>(conv=>whnf)
  ·repeat'((first|refine aw0 ?_|refine aw1 ?_|refine aw2 ?_|refine aw3 ?_|refine aw4 ?_|refine aw5 ?_|refine aw6 ?_|refine aw7 ?_|refine aw8 ?_|refine bT ?_|refine bF ?_|refine aa.pure (aP (k:Int) ari ari) rfl ?_|refine And.intro rfl ?_)<;>conv=>whnf)
   refine AB.mk (λh2=>?_) (λh2=>?_)<;>(conv=>whnf)
   ·have hk1:1<=k:=ari
    have hne:ay k≠s.cur:=by rw[bi]at h2;simpa using h2
    repeat'((first|refine aw0 ?_|refine aw1 ?_|refine aw2 ?_|refine aw3 ?_|refine aw4 ?_|refine aw5 ?_|refine aw6 ?_|refine aw7 ?_|refine aw8 ?_|refine bT ?_|refine bF ?_|refine AW.as ((k-1:Nat):Int) (by rw[aA Iv Iv];omega) ?_|refine And.intro rfl ?_)<;>conv=>whnf)
    refine aN.mk ⟨k-1,⟨by omega,λj h1 h2=>?_⟩,by omega,?_,ae.cons rfl (ae.cons rfl (ae.cons rfl (ae.cons rfl ae.nil)))⟩
    ·by_cases hjk:j=k
     ·subst hjk;exact hne
     ·exact hno j Iv h2
    ·exact hds
   ·have heq:ay k=s.cur:=by rw[bi]at h2;simpa using h2
    have hkk:k=0:=by have:=aF hk hno (.inr heq);omega
    subst hkk
    clear h h2 hno
    repeat'(first|((first|refine aw0 ?_|refine aw1 ?_|refine aw2 ?_|refine aw3 ?_|refine aw4 ?_|refine aw5 ?_|refine aw6 ?_|refine aw7 ?_|refine aw8 ?_|refine bT ?_|refine bF ?_|refine AB.ofT Ix ?_|refine AB.ofF Ix ?_|refine aa.upd (ak _ h0) 1000 rfl rfl rfl ?_|refine aa.upd (ak _ h1) 1000 rfl rfl rfl ?_|refine aa.upd (ak _ h2) 1000 rfl rfl rfl ?_|refine aa.upd (aS _ h0) 1000 rfl rfl rfl ?_|refine aa.upd (ak _ g1) 1000 rfl rfl rfl ?_|refine aa.upd (aS _ g1) 1000 rfl rfl rfl ?_)<;>conv=>whnf)|(exact trivial)|(refine And.intro rfl ?_;conv=>whnf))
  ·have hkk:k=0:=by have:=aF hk hno (.inl ari);omega
   subst hkk
   clear hno
   repeat'(first|((first|refine aw0 ?_|refine aw1 ?_|refine aw2 ?_|refine aw3 ?_|refine aw4 ?_|refine aw5 ?_|refine aw6 ?_|refine aw7 ?_|refine aw8 ?_|refine bT ?_|refine bF ?_|refine AB.ofT Ix ?_|refine AB.ofF Ix ?_|refine aa.upd (ak _ h0) 1000 rfl rfl rfl ?_|refine aa.upd (ak _ h1) 1000 rfl rfl rfl ?_|refine aa.upd (ak _ h2) 1000 rfl rfl rfl ?_|refine aa.upd (aS _ h0) 1000 rfl rfl rfl ?_|refine aa.upd (ak _ g1) 1000 rfl rfl rfl ?_|refine aa.upd (aS _ g1) 1000 rfl rfl rfl ?_)<;>conv=>whnf)|(exact trivial)|(refine And.intro rfl ?_;conv=>whnf))
theorem DT(s:Sc)(hs:s.ok)(hkd:aJ s.cur=1):a6 av 32 [.one (.ref 1000 0 0 0)] [(1000,s.o)] [(1000,(aH 1 s.next).s.o)] [1000] (.val (.agg [.d (dI 1),.d (dI (aH 1 s.next).a),.d (dI (aH 1 s.next).b),.d (dI (aH 1 s.next).c),.nil])):=by
 have wm:=dD s hs
 have h0:=hs.next
 have h1:=h0.num
 have h2:=h1.num
 have g1:=h0.node
 refine aL aj func32 rfl call32 ntmps32 (IG results32) rfl λS pv=>?_;conv=>whnf
 repeat'((first|refine aw0 ?_|refine aw1 ?_|refine aw2 ?_|refine aw3 ?_|refine aw4 ?_|refine aw5 ?_|refine aw6 ?_|refine aw7 ?_|refine aw8 ?_|refine bT ?_|refine bF ?_|refine aa.upd wm 1000 rfl rfl rfl ?_|exact rr|refine And.intro rfl ?_|refine AB.mk (λh=>?_) (λh=>?_))<;>conv=>whnf)
 refine AWP.loopS (λk:Nat=>k<=11/\∀j:Nat,k<j->j<=11->ay j≠s.cur) [8,9,10,11,12,13,14,15,16,17,18,19,20,21] (λk=>[]) (λk=>[(9999,.frame (bD [1000]) pv),(1000,s.next.o),(2,.cells 81 [.d (dI 0),.d (dI 0),.d (dI 0),.d (dI 0),.nil]),(4,.cells 81 [.d (dI (k:Int)),.d (dI 0),.d (dI 0),.d (dI 0),.nil])]) (λk=>k) 11 ⟨by omega,λj h1 h2=>by omega⟩ ?_ (ae.cons rfl (ae.cons rfl (ae.cons rfl (ae.cons rfl ae.nil)))) (λk hR=>?_)<;>(conv=>whnf)
 ·repeat'(first|exact trivial|(refine And.intro rfl ?_;conv=>whnf))
 ·obtain⟨hk,hno⟩:=hR
  repeat'((first|refine aw0 ?_|refine aw1 ?_|refine aw2 ?_|refine aw3 ?_|refine aw4 ?_|refine aw5 ?_|refine aw6 ?_|refine aw7 ?_|refine aw8 ?_|refine bT ?_|refine bF ?_|refine And.intro rfl ?_)<;>conv=>whnf)
  refine AB.mk (λh=>?_) (λh=>?_)<;>(conv=>whnf)
  ·repeat'((first|refine aw0 ?_|refine aw1 ?_|refine aw2 ?_|refine aw3 ?_|refine aw4 ?_|refine aw5 ?_|refine aw6 ?_|refine aw7 ?_|refine aw8 ?_|refine bT ?_|refine bF ?_|refine aa.pure (aP (k:Int) ari ari) rfl ?_|refine And.intro rfl ?_)<;>conv=>whnf)
   refine AB.mk (λh2=>?_) (λh2=>?_)<;>(conv=>whnf)
   ·have hk1:1<=k:=ari
    have hne:ay k≠s.cur:=by rw[bi]at h2;simpa using h2
    repeat'((first|refine aw0 ?_|refine aw1 ?_|refine aw2 ?_|refine aw3 ?_|refine aw4 ?_|refine aw5 ?_|refine aw6 ?_|refine aw7 ?_|refine aw8 ?_|refine bT ?_|refine bF ?_|refine AW.as ((k-1:Nat):Int) (by rw[aA Iv Iv];omega) ?_|refine And.intro rfl ?_)<;>conv=>whnf)
    refine aN.mk ⟨k-1,⟨by omega,λj h1 h2=>?_⟩,by omega,?_,ae.cons rfl (ae.cons rfl (ae.cons rfl (ae.cons rfl ae.nil)))⟩
    ·by_cases hjk:j=k
     ·subst hjk;exact hne
     ·exact hno j Iv h2
    ·exact hds
   ·have heq:ay k=s.cur:=by rw[bi]at h2;simpa using h2
    have hkk:k=1:=by have:=aF hk hno (.inr heq);omega
    subst hkk
    clear h h2 hno
    repeat'(first|((first|refine aw0 ?_|refine aw1 ?_|refine aw2 ?_|refine aw3 ?_|refine aw4 ?_|refine aw5 ?_|refine aw6 ?_|refine aw7 ?_|refine aw8 ?_|refine bT ?_|refine bF ?_|refine AB.ofT Ix ?_|refine AB.ofF Ix ?_|refine aa.upd (ak _ h0) 1000 rfl rfl rfl ?_|refine aa.upd (ak _ h1) 1000 rfl rfl rfl ?_|refine aa.upd (ak _ h2) 1000 rfl rfl rfl ?_|refine aa.upd (aS _ h0) 1000 rfl rfl rfl ?_|refine aa.upd (ak _ g1) 1000 rfl rfl rfl ?_|refine aa.upd (aS _ g1) 1000 rfl rfl rfl ?_)<;>conv=>whnf)|(exact trivial)|(refine And.intro rfl ?_;conv=>whnf))
  ·have hkk:k=1:=by have:=aF hk hno (.inl ari);omega
   subst hkk
   clear hno
   repeat'(first|((first|refine aw0 ?_|refine aw1 ?_|refine aw2 ?_|refine aw3 ?_|refine aw4 ?_|refine aw5 ?_|refine aw6 ?_|refine aw7 ?_|refine aw8 ?_|refine bT ?_|refine bF ?_|refine AB.ofT Ix ?_|refine AB.ofF Ix ?_|refine aa.upd (ak _ h0) 1000 rfl rfl rfl ?_|refine aa.upd (ak _ h1) 1000 rfl rfl rfl ?_|refine aa.upd (ak _ h2) 1000 rfl rfl rfl ?_|refine aa.upd (aS _ h0) 1000 rfl rfl rfl ?_|refine aa.upd (ak _ g1) 1000 rfl rfl rfl ?_|refine aa.upd (aS _ g1) 1000 rfl rfl rfl ?_)<;>conv=>whnf)|(exact trivial)|(refine And.intro rfl ?_;conv=>whnf))
theorem DU(s:Sc)(hs:s.ok)(hkd:aJ s.cur=2):a6 av 32 [.one (.ref 1000 0 0 0)] [(1000,s.o)] [(1000,(aH 2 s.next).s.o)] [1000] (.val (.agg [.d (dI 2),.d (dI (aH 2 s.next).a),.d (dI (aH 2 s.next).b),.d (dI (aH 2 s.next).c),.nil])):=by
 have wm:=dD s hs
 have h0:=hs.next
 have h1:=h0.num
 have h2:=h1.num
 have g1:=h0.node
 refine aL aj func32 rfl call32 ntmps32 (IG results32) rfl λS pv=>?_;conv=>whnf
 repeat'((first|refine aw0 ?_|refine aw1 ?_|refine aw2 ?_|refine aw3 ?_|refine aw4 ?_|refine aw5 ?_|refine aw6 ?_|refine aw7 ?_|refine aw8 ?_|refine bT ?_|refine bF ?_|refine aa.upd wm 1000 rfl rfl rfl ?_|exact rr|refine And.intro rfl ?_|refine AB.mk (λh=>?_) (λh=>?_))<;>conv=>whnf)
 refine AWP.loopS (λk:Nat=>k<=11/\∀j:Nat,k<j->j<=11->ay j≠s.cur) [8,9,10,11,12,13,14,15,16,17,18,19,20,21] (λk=>[]) (λk=>[(9999,.frame (bD [1000]) pv),(1000,s.next.o),(2,.cells 81 [.d (dI 0),.d (dI 0),.d (dI 0),.d (dI 0),.nil]),(4,.cells 81 [.d (dI (k:Int)),.d (dI 0),.d (dI 0),.d (dI 0),.nil])]) (λk=>k) 11 ⟨by omega,λj h1 h2=>by omega⟩ ?_ (ae.cons rfl (ae.cons rfl (ae.cons rfl (ae.cons rfl ae.nil)))) (λk hR=>?_)<;>(conv=>whnf)
 ·repeat'(first|exact trivial|(refine And.intro rfl ?_;conv=>whnf))
 ·obtain⟨hk,hno⟩:=hR
  repeat'((first|refine aw0 ?_|refine aw1 ?_|refine aw2 ?_|refine aw3 ?_|refine aw4 ?_|refine aw5 ?_|refine aw6 ?_|refine aw7 ?_|refine aw8 ?_|refine bT ?_|refine bF ?_|refine And.intro rfl ?_)<;>conv=>whnf)
  refine AB.mk (λh=>?_) (λh=>?_)<;>(conv=>whnf)
  ·repeat'((first|refine aw0 ?_|refine aw1 ?_|refine aw2 ?_|refine aw3 ?_|refine aw4 ?_|refine aw5 ?_|refine aw6 ?_|refine aw7 ?_|refine aw8 ?_|refine bT ?_|refine bF ?_|refine aa.pure (aP (k:Int) ari ari) rfl ?_|refine And.intro rfl ?_)<;>conv=>whnf)
   refine AB.mk (λh2=>?_) (λh2=>?_)<;>(conv=>whnf)
   ·have hk1:1<=k:=ari
    have hne:ay k≠s.cur:=by rw[bi]at h2;simpa using h2
    repeat'((first|refine aw0 ?_|refine aw1 ?_|refine aw2 ?_|refine aw3 ?_|refine aw4 ?_|refine aw5 ?_|refine aw6 ?_|refine aw7 ?_|refine aw8 ?_|refine bT ?_|refine bF ?_|refine AW.as ((k-1:Nat):Int) (by rw[aA Iv Iv];omega) ?_|refine And.intro rfl ?_)<;>conv=>whnf)
    refine aN.mk ⟨k-1,⟨by omega,λj h1 h2=>?_⟩,by omega,?_,ae.cons rfl (ae.cons rfl (ae.cons rfl (ae.cons rfl ae.nil)))⟩
    ·by_cases hjk:j=k
     ·subst hjk;exact hne
     ·exact hno j Iv h2
    ·exact hds
   ·have heq:ay k=s.cur:=by rw[bi]at h2;simpa using h2
    have hkk:k=2:=by have:=aF hk hno (.inr heq);omega
    subst hkk
    clear h h2 hno
    repeat'(first|((first|refine aw0 ?_|refine aw1 ?_|refine aw2 ?_|refine aw3 ?_|refine aw4 ?_|refine aw5 ?_|refine aw6 ?_|refine aw7 ?_|refine aw8 ?_|refine bT ?_|refine bF ?_|refine AB.ofT Ix ?_|refine AB.ofF Ix ?_|refine aa.upd (ak _ h0) 1000 rfl rfl rfl ?_|refine aa.upd (ak _ h1) 1000 rfl rfl rfl ?_|refine aa.upd (ak _ h2) 1000 rfl rfl rfl ?_|refine aa.upd (aS _ h0) 1000 rfl rfl rfl ?_|refine aa.upd (ak _ g1) 1000 rfl rfl rfl ?_|refine aa.upd (aS _ g1) 1000 rfl rfl rfl ?_)<;>conv=>whnf)|(exact trivial)|(refine And.intro rfl ?_;conv=>whnf))
  ·have hkk:k=2:=by have:=aF hk hno (.inl ari);omega
   subst hkk
   clear hno
   repeat'(first|((first|refine aw0 ?_|refine aw1 ?_|refine aw2 ?_|refine aw3 ?_|refine aw4 ?_|refine aw5 ?_|refine aw6 ?_|refine aw7 ?_|refine aw8 ?_|refine bT ?_|refine bF ?_|refine AB.ofT Ix ?_|refine AB.ofF Ix ?_|refine aa.upd (ak _ h0) 1000 rfl rfl rfl ?_|refine aa.upd (ak _ h1) 1000 rfl rfl rfl ?_|refine aa.upd (ak _ h2) 1000 rfl rfl rfl ?_|refine aa.upd (aS _ h0) 1000 rfl rfl rfl ?_|refine aa.upd (ak _ g1) 1000 rfl rfl rfl ?_|refine aa.upd (aS _ g1) 1000 rfl rfl rfl ?_)<;>conv=>whnf)|(exact trivial)|(refine And.intro rfl ?_;conv=>whnf))
theorem DV(s:Sc)(hs:s.ok)(hkd:aJ s.cur=3):a6 av 32 [.one (.ref 1000 0 0 0)] [(1000,s.o)] [(1000,(aH 3 s.next).s.o)] [1000] (.val (.agg [.d (dI 3),.d (dI (aH 3 s.next).a),.d (dI (aH 3 s.next).b),.d (dI (aH 3 s.next).c),.nil])):=by
 have wm:=dD s hs
 have h0:=hs.next
 have h1:=h0.num
 have h2:=h1.num
 have g1:=h0.node
 refine aL aj func32 rfl call32 ntmps32 (IG results32) rfl λS pv=>?_;conv=>whnf
 repeat'((first|refine aw0 ?_|refine aw1 ?_|refine aw2 ?_|refine aw3 ?_|refine aw4 ?_|refine aw5 ?_|refine aw6 ?_|refine aw7 ?_|refine aw8 ?_|refine bT ?_|refine bF ?_|refine aa.upd wm 1000 rfl rfl rfl ?_|exact rr|refine And.intro rfl ?_|refine AB.mk (λh=>?_) (λh=>?_))<;>conv=>whnf)
 refine AWP.loopS (λk:Nat=>k<=11/\∀j:Nat,k<j->j<=11->ay j≠s.cur) [8,9,10,11,12,13,14,15,16,17,18,19,20,21] (λk=>[]) (λk=>[(9999,.frame (bD [1000]) pv),(1000,s.next.o),(2,.cells 81 [.d (dI 0),.d (dI 0),.d (dI 0),.d (dI 0),.nil]),(4,.cells 81 [.d (dI (k:Int)),.d (dI 0),.d (dI 0),.d (dI 0),.nil])]) (λk=>k) 11 ⟨by omega,λj h1 h2=>by omega⟩ ?_ (ae.cons rfl (ae.cons rfl (ae.cons rfl (ae.cons rfl ae.nil)))) (λk hR=>?_)<;>(conv=>whnf)
 ·repeat'(first|exact trivial|(refine And.intro rfl ?_;conv=>whnf))
 ·obtain⟨hk,hno⟩:=hR
  repeat'((first|refine aw0 ?_|refine aw1 ?_|refine aw2 ?_|refine aw3 ?_|refine aw4 ?_|refine aw5 ?_|refine aw6 ?_|refine aw7 ?_|refine aw8 ?_|refine bT ?_|refine bF ?_|refine And.intro rfl ?_)<;>conv=>whnf)
  refine AB.mk (λh=>?_) (λh=>?_)<;>(conv=>whnf)
  ·repeat'((first|refine aw0 ?_|refine aw1 ?_|refine aw2 ?_|refine aw3 ?_|refine aw4 ?_|refine aw5 ?_|refine aw6 ?_|refine aw7 ?_|refine aw8 ?_|refine bT ?_|refine bF ?_|refine aa.pure (aP (k:Int) ari ari) rfl ?_|refine And.intro rfl ?_)<;>conv=>whnf)
   refine AB.mk (λh2=>?_) (λh2=>?_)<;>(conv=>whnf)
   ·have hk1:1<=k:=ari
    have hne:ay k≠s.cur:=by rw[bi]at h2;simpa using h2
    repeat'((first|refine aw0 ?_|refine aw1 ?_|refine aw2 ?_|refine aw3 ?_|refine aw4 ?_|refine aw5 ?_|refine aw6 ?_|refine aw7 ?_|refine aw8 ?_|refine bT ?_|refine bF ?_|refine AW.as ((k-1:Nat):Int) (by rw[aA Iv Iv];omega) ?_|refine And.intro rfl ?_)<;>conv=>whnf)
    refine aN.mk ⟨k-1,⟨by omega,λj h1 h2=>?_⟩,by omega,?_,ae.cons rfl (ae.cons rfl (ae.cons rfl (ae.cons rfl ae.nil)))⟩
    ·by_cases hjk:j=k
     ·subst hjk;exact hne
     ·exact hno j Iv h2
    ·exact hds
   ·have heq:ay k=s.cur:=by rw[bi]at h2;simpa using h2
    have hkk:k=3:=by have:=aF hk hno (.inr heq);omega
    subst hkk
    clear h h2 hno
    repeat'(first|((first|refine aw0 ?_|refine aw1 ?_|refine aw2 ?_|refine aw3 ?_|refine aw4 ?_|refine aw5 ?_|refine aw6 ?_|refine aw7 ?_|refine aw8 ?_|refine bT ?_|refine bF ?_|refine AB.ofT Ix ?_|refine AB.ofF Ix ?_|refine aa.upd (ak _ h0) 1000 rfl rfl rfl ?_|refine aa.upd (ak _ h1) 1000 rfl rfl rfl ?_|refine aa.upd (ak _ h2) 1000 rfl rfl rfl ?_|refine aa.upd (aS _ h0) 1000 rfl rfl rfl ?_|refine aa.upd (ak _ g1) 1000 rfl rfl rfl ?_|refine aa.upd (aS _ g1) 1000 rfl rfl rfl ?_)<;>conv=>whnf)|(exact trivial)|(refine And.intro rfl ?_;conv=>whnf))
  ·have hkk:k=3:=by have:=aF hk hno (.inl ari);omega
   subst hkk
   clear hno
   repeat'(first|((first|refine aw0 ?_|refine aw1 ?_|refine aw2 ?_|refine aw3 ?_|refine aw4 ?_|refine aw5 ?_|refine aw6 ?_|refine aw7 ?_|refine aw8 ?_|refine bT ?_|refine bF ?_|refine AB.ofT Ix ?_|refine AB.ofF Ix ?_|refine aa.upd (ak _ h0) 1000 rfl rfl rfl ?_|refine aa.upd (ak _ h1) 1000 rfl rfl rfl ?_|refine aa.upd (ak _ h2) 1000 rfl rfl rfl ?_|refine aa.upd (aS _ h0) 1000 rfl rfl rfl ?_|refine aa.upd (ak _ g1) 1000 rfl rfl rfl ?_|refine aa.upd (aS _ g1) 1000 rfl rfl rfl ?_)<;>conv=>whnf)|(exact trivial)|(refine And.intro rfl ?_;conv=>whnf))
theorem DW(s:Sc)(hs:s.ok)(hkd:aJ s.cur=4):a6 av 32 [.one (.ref 1000 0 0 0)] [(1000,s.o)] [(1000,(aH 4 s.next).s.o)] [1000] (.val (.agg [.d (dI 4),.d (dI (aH 4 s.next).a),.d (dI (aH 4 s.next).b),.d (dI (aH 4 s.next).c),.nil])):=by
 have wm:=dD s hs
 have h0:=hs.next
 have h1:=h0.num
 have h2:=h1.num
 have g1:=h0.node
 refine aL aj func32 rfl call32 ntmps32 (IG results32) rfl λS pv=>?_;conv=>whnf
 repeat'((first|refine aw0 ?_|refine aw1 ?_|refine aw2 ?_|refine aw3 ?_|refine aw4 ?_|refine aw5 ?_|refine aw6 ?_|refine aw7 ?_|refine aw8 ?_|refine bT ?_|refine bF ?_|refine aa.upd wm 1000 rfl rfl rfl ?_|exact rr|refine And.intro rfl ?_|refine AB.mk (λh=>?_) (λh=>?_))<;>conv=>whnf)
 refine AWP.loopS (λk:Nat=>k<=11/\∀j:Nat,k<j->j<=11->ay j≠s.cur) [8,9,10,11,12,13,14,15,16,17,18,19,20,21] (λk=>[]) (λk=>[(9999,.frame (bD [1000]) pv),(1000,s.next.o),(2,.cells 81 [.d (dI 0),.d (dI 0),.d (dI 0),.d (dI 0),.nil]),(4,.cells 81 [.d (dI (k:Int)),.d (dI 0),.d (dI 0),.d (dI 0),.nil])]) (λk=>k) 11 ⟨by omega,λj h1 h2=>by omega⟩ ?_ (ae.cons rfl (ae.cons rfl (ae.cons rfl (ae.cons rfl ae.nil)))) (λk hR=>?_)<;>(conv=>whnf)
 ·repeat'(first|exact trivial|(refine And.intro rfl ?_;conv=>whnf))
 ·obtain⟨hk,hno⟩:=hR
  repeat'((first|refine aw0 ?_|refine aw1 ?_|refine aw2 ?_|refine aw3 ?_|refine aw4 ?_|refine aw5 ?_|refine aw6 ?_|refine aw7 ?_|refine aw8 ?_|refine bT ?_|refine bF ?_|refine And.intro rfl ?_)<;>conv=>whnf)
  refine AB.mk (λh=>?_) (λh=>?_)<;>(conv=>whnf)
  ·repeat'((first|refine aw0 ?_|refine aw1 ?_|refine aw2 ?_|refine aw3 ?_|refine aw4 ?_|refine aw5 ?_|refine aw6 ?_|refine aw7 ?_|refine aw8 ?_|refine bT ?_|refine bF ?_|refine aa.pure (aP (k:Int) ari ari) rfl ?_|refine And.intro rfl ?_)<;>conv=>whnf)
   refine AB.mk (λh2=>?_) (λh2=>?_)<;>(conv=>whnf)
   ·have hk1:1<=k:=ari
    have hne:ay k≠s.cur:=by rw[bi]at h2;simpa using h2
    repeat'((first|refine aw0 ?_|refine aw1 ?_|refine aw2 ?_|refine aw3 ?_|refine aw4 ?_|refine aw5 ?_|refine aw6 ?_|refine aw7 ?_|refine aw8 ?_|refine bT ?_|refine bF ?_|refine AW.as ((k-1:Nat):Int) (by rw[aA Iv Iv];omega) ?_|refine And.intro rfl ?_)<;>conv=>whnf)
    refine aN.mk ⟨k-1,⟨by omega,λj h1 h2=>?_⟩,by omega,?_,ae.cons rfl (ae.cons rfl (ae.cons rfl (ae.cons rfl ae.nil)))⟩
    ·by_cases hjk:j=k
     ·subst hjk;exact hne
     ·exact hno j Iv h2
    ·exact hds
   ·have heq:ay k=s.cur:=by rw[bi]at h2;simpa using h2
    have hkk:k=4:=by have:=aF hk hno (.inr heq);omega
    subst hkk
    clear h h2 hno
    repeat'(first|((first|refine aw0 ?_|refine aw1 ?_|refine aw2 ?_|refine aw3 ?_|refine aw4 ?_|refine aw5 ?_|refine aw6 ?_|refine aw7 ?_|refine aw8 ?_|refine bT ?_|refine bF ?_|refine AB.ofT Ix ?_|refine AB.ofF Ix ?_|refine aa.upd (ak _ h0) 1000 rfl rfl rfl ?_|refine aa.upd (ak _ h1) 1000 rfl rfl rfl ?_|refine aa.upd (ak _ h2) 1000 rfl rfl rfl ?_|refine aa.upd (aS _ h0) 1000 rfl rfl rfl ?_|refine aa.upd (ak _ g1) 1000 rfl rfl rfl ?_|refine aa.upd (aS _ g1) 1000 rfl rfl rfl ?_)<;>conv=>whnf)|(exact trivial)|(refine And.intro rfl ?_;conv=>whnf))
  ·have hkk:k=4:=by have:=aF hk hno (.inl ari);omega
   subst hkk
   clear hno
   repeat'(first|((first|refine aw0 ?_|refine aw1 ?_|refine aw2 ?_|refine aw3 ?_|refine aw4 ?_|refine aw5 ?_|refine aw6 ?_|refine aw7 ?_|refine aw8 ?_|refine bT ?_|refine bF ?_|refine AB.ofT Ix ?_|refine AB.ofF Ix ?_|refine aa.upd (ak _ h0) 1000 rfl rfl rfl ?_|refine aa.upd (ak _ h1) 1000 rfl rfl rfl ?_|refine aa.upd (ak _ h2) 1000 rfl rfl rfl ?_|refine aa.upd (aS _ h0) 1000 rfl rfl rfl ?_|refine aa.upd (ak _ g1) 1000 rfl rfl rfl ?_|refine aa.upd (aS _ g1) 1000 rfl rfl rfl ?_)<;>conv=>whnf)|(exact trivial)|(refine And.intro rfl ?_;conv=>whnf))
theorem DX(s:Sc)(hs:s.ok)(hkd:aJ s.cur=6):a6 av 32 [.one (.ref 1000 0 0 0)] [(1000,s.o)] [(1000,(aH 6 s.next).s.o)] [1000] (.val (.agg [.d (dI 6),.d (dI (aH 6 s.next).a),.d (dI (aH 6 s.next).b),.d (dI (aH 6 s.next).c),.nil])):=by
 have wm:=dD s hs
 have h0:=hs.next
 have h1:=h0.num
 have h2:=h1.num
 have g1:=h0.node
 refine aL aj func32 rfl call32 ntmps32 (IG results32) rfl λS pv=>?_;conv=>whnf
 repeat'((first|refine aw0 ?_|refine aw1 ?_|refine aw2 ?_|refine aw3 ?_|refine aw4 ?_|refine aw5 ?_|refine aw6 ?_|refine aw7 ?_|refine aw8 ?_|refine bT ?_|refine bF ?_|refine aa.upd wm 1000 rfl rfl rfl ?_|exact rr|refine And.intro rfl ?_|refine AB.mk (λh=>?_) (λh=>?_))<;>conv=>whnf)
 refine AWP.loopS (λk:Nat=>k<=11/\∀j:Nat,k<j->j<=11->ay j≠s.cur) [8,9,10,11,12,13,14,15,16,17,18,19,20,21] (λk=>[]) (λk=>[(9999,.frame (bD [1000]) pv),(1000,s.next.o),(2,.cells 81 [.d (dI 0),.d (dI 0),.d (dI 0),.d (dI 0),.nil]),(4,.cells 81 [.d (dI (k:Int)),.d (dI 0),.d (dI 0),.d (dI 0),.nil])]) (λk=>k) 11 ⟨by omega,λj h1 h2=>by omega⟩ ?_ (ae.cons rfl (ae.cons rfl (ae.cons rfl (ae.cons rfl ae.nil)))) (λk hR=>?_)<;>(conv=>whnf)
 ·repeat'(first|exact trivial|(refine And.intro rfl ?_;conv=>whnf))
 ·obtain⟨hk,hno⟩:=hR
  repeat'((first|refine aw0 ?_|refine aw1 ?_|refine aw2 ?_|refine aw3 ?_|refine aw4 ?_|refine aw5 ?_|refine aw6 ?_|refine aw7 ?_|refine aw8 ?_|refine bT ?_|refine bF ?_|refine And.intro rfl ?_)<;>conv=>whnf)
  refine AB.mk (λh=>?_) (λh=>?_)<;>(conv=>whnf)
  ·repeat'((first|refine aw0 ?_|refine aw1 ?_|refine aw2 ?_|refine aw3 ?_|refine aw4 ?_|refine aw5 ?_|refine aw6 ?_|refine aw7 ?_|refine aw8 ?_|refine bT ?_|refine bF ?_|refine aa.pure (aP (k:Int) ari ari) rfl ?_|refine And.intro rfl ?_)<;>conv=>whnf)
   refine AB.mk (λh2=>?_) (λh2=>?_)<;>(conv=>whnf)
   ·have hk1:1<=k:=ari
    have hne:ay k≠s.cur:=by rw[bi]at h2;simpa using h2
    repeat'((first|refine aw0 ?_|refine aw1 ?_|refine aw2 ?_|refine aw3 ?_|refine aw4 ?_|refine aw5 ?_|refine aw6 ?_|refine aw7 ?_|refine aw8 ?_|refine bT ?_|refine bF ?_|refine AW.as ((k-1:Nat):Int) (by rw[aA Iv Iv];omega) ?_|refine And.intro rfl ?_)<;>conv=>whnf)
    refine aN.mk ⟨k-1,⟨by omega,λj h1 h2=>?_⟩,by omega,?_,ae.cons rfl (ae.cons rfl (ae.cons rfl (ae.cons rfl ae.nil)))⟩
    ·by_cases hjk:j=k
     ·subst hjk;exact hne
     ·exact hno j Iv h2
    ·exact hds
   ·have heq:ay k=s.cur:=by rw[bi]at h2;simpa using h2
    have hkk:k=6:=by have:=aF hk hno (.inr heq);omega
    subst hkk
    clear h h2 hno
    repeat'(first|((first|refine aw0 ?_|refine aw1 ?_|refine aw2 ?_|refine aw3 ?_|refine aw4 ?_|refine aw5 ?_|refine aw6 ?_|refine aw7 ?_|refine aw8 ?_|refine bT ?_|refine bF ?_|refine AB.ofT Ix ?_|refine AB.ofF Ix ?_|refine aa.upd (ak _ h0) 1000 rfl rfl rfl ?_|refine aa.upd (ak _ h1) 1000 rfl rfl rfl ?_|refine aa.upd (ak _ h2) 1000 rfl rfl rfl ?_|refine aa.upd (aS _ h0) 1000 rfl rfl rfl ?_|refine aa.upd (ak _ g1) 1000 rfl rfl rfl ?_|refine aa.upd (aS _ g1) 1000 rfl rfl rfl ?_)<;>conv=>whnf)|(exact trivial)|(refine And.intro rfl ?_;conv=>whnf))
  ·have hkk:k=6:=by have:=aF hk hno (.inl ari);omega
   subst hkk
   clear hno
   repeat'(first|((first|refine aw0 ?_|refine aw1 ?_|refine aw2 ?_|refine aw3 ?_|refine aw4 ?_|refine aw5 ?_|refine aw6 ?_|refine aw7 ?_|refine aw8 ?_|refine bT ?_|refine bF ?_|refine AB.ofT Ix ?_|refine AB.ofF Ix ?_|refine aa.upd (ak _ h0) 1000 rfl rfl rfl ?_|refine aa.upd (ak _ h1) 1000 rfl rfl rfl ?_|refine aa.upd (ak _ h2) 1000 rfl rfl rfl ?_|refine aa.upd (aS _ h0) 1000 rfl rfl rfl ?_|refine aa.upd (ak _ g1) 1000 rfl rfl rfl ?_|refine aa.upd (aS _ g1) 1000 rfl rfl rfl ?_)<;>conv=>whnf)|(exact trivial)|(refine And.intro rfl ?_;conv=>whnf))
theorem DY(s:Sc)(hs:s.ok)(hkd:aJ s.cur=7):a6 av 32 [.one (.ref 1000 0 0 0)] [(1000,s.o)] [(1000,(aH 7 s.next).s.o)] [1000] (.val (.agg [.d (dI 7),.d (dI (aH 7 s.next).a),.d (dI (aH 7 s.next).b),.d (dI (aH 7 s.next).c),.nil])):=by
 have wm:=dD s hs
 have h0:=hs.next
 have h1:=h0.num
 have h2:=h1.num
 have g1:=h0.node
 refine aL aj func32 rfl call32 ntmps32 (IG results32) rfl λS pv=>?_;conv=>whnf
 repeat'((first|refine aw0 ?_|refine aw1 ?_|refine aw2 ?_|refine aw3 ?_|refine aw4 ?_|refine aw5 ?_|refine aw6 ?_|refine aw7 ?_|refine aw8 ?_|refine bT ?_|refine bF ?_|refine aa.upd wm 1000 rfl rfl rfl ?_|exact rr|refine And.intro rfl ?_|refine AB.mk (λh=>?_) (λh=>?_))<;>conv=>whnf)
 refine AWP.loopS (λk:Nat=>k<=11/\∀j:Nat,k<j->j<=11->ay j≠s.cur) [8,9,10,11,12,13,14,15,16,17,18,19,20,21] (λk=>[]) (λk=>[(9999,.frame (bD [1000]) pv),(1000,s.next.o),(2,.cells 81 [.d (dI 0),.d (dI 0),.d (dI 0),.d (dI 0),.nil]),(4,.cells 81 [.d (dI (k:Int)),.d (dI 0),.d (dI 0),.d (dI 0),.nil])]) (λk=>k) 11 ⟨by omega,λj h1 h2=>by omega⟩ ?_ (ae.cons rfl (ae.cons rfl (ae.cons rfl (ae.cons rfl ae.nil)))) (λk hR=>?_)<;>(conv=>whnf)
 ·repeat'(first|exact trivial|(refine And.intro rfl ?_;conv=>whnf))
 ·obtain⟨hk,hno⟩:=hR
  repeat'((first|refine aw0 ?_|refine aw1 ?_|refine aw2 ?_|refine aw3 ?_|refine aw4 ?_|refine aw5 ?_|refine aw6 ?_|refine aw7 ?_|refine aw8 ?_|refine bT ?_|refine bF ?_|refine And.intro rfl ?_)<;>conv=>whnf)
  refine AB.mk (λh=>?_) (λh=>?_)<;>(conv=>whnf)
  ·repeat'((first|refine aw0 ?_|refine aw1 ?_|refine aw2 ?_|refine aw3 ?_|refine aw4 ?_|refine aw5 ?_|refine aw6 ?_|refine aw7 ?_|refine aw8 ?_|refine bT ?_|refine bF ?_|refine aa.pure (aP (k:Int) ari ari) rfl ?_|refine And.intro rfl ?_)<;>conv=>whnf)
   refine AB.mk (λh2=>?_) (λh2=>?_)<;>(conv=>whnf)
   ·have hk1:1<=k:=ari
    have hne:ay k≠s.cur:=by rw[bi]at h2;simpa using h2
    repeat'((first|refine aw0 ?_|refine aw1 ?_|refine aw2 ?_|refine aw3 ?_|refine aw4 ?_|refine aw5 ?_|refine aw6 ?_|refine aw7 ?_|refine aw8 ?_|refine bT ?_|refine bF ?_|refine AW.as ((k-1:Nat):Int) (by rw[aA Iv Iv];omega) ?_|refine And.intro rfl ?_)<;>conv=>whnf)
    refine aN.mk ⟨k-1,⟨by omega,λj h1 h2=>?_⟩,by omega,?_,ae.cons rfl (ae.cons rfl (ae.cons rfl (ae.cons rfl ae.nil)))⟩
    ·by_cases hjk:j=k
     ·subst hjk;exact hne
     ·exact hno j Iv h2
    ·exact hds
   ·have heq:ay k=s.cur:=by rw[bi]at h2;simpa using h2
    have hkk:k=7:=by have:=aF hk hno (.inr heq);omega
    subst hkk
    clear h h2 hno
    repeat'(first|((first|refine aw0 ?_|refine aw1 ?_|refine aw2 ?_|refine aw3 ?_|refine aw4 ?_|refine aw5 ?_|refine aw6 ?_|refine aw7 ?_|refine aw8 ?_|refine bT ?_|refine bF ?_|refine AB.ofT Ix ?_|refine AB.ofF Ix ?_|refine aa.upd (ak _ h0) 1000 rfl rfl rfl ?_|refine aa.upd (ak _ h1) 1000 rfl rfl rfl ?_|refine aa.upd (ak _ h2) 1000 rfl rfl rfl ?_|refine aa.upd (aS _ h0) 1000 rfl rfl rfl ?_|refine aa.upd (ak _ g1) 1000 rfl rfl rfl ?_|refine aa.upd (aS _ g1) 1000 rfl rfl rfl ?_)<;>conv=>whnf)|(exact trivial)|(refine And.intro rfl ?_;conv=>whnf))
  ·have hkk:k=7:=by have:=aF hk hno (.inl ari);omega
   subst hkk
   clear hno
   repeat'(first|((first|refine aw0 ?_|refine aw1 ?_|refine aw2 ?_|refine aw3 ?_|refine aw4 ?_|refine aw5 ?_|refine aw6 ?_|refine aw7 ?_|refine aw8 ?_|refine bT ?_|refine bF ?_|refine AB.ofT Ix ?_|refine AB.ofF Ix ?_|refine aa.upd (ak _ h0) 1000 rfl rfl rfl ?_|refine aa.upd (ak _ h1) 1000 rfl rfl rfl ?_|refine aa.upd (ak _ h2) 1000 rfl rfl rfl ?_|refine aa.upd (aS _ h0) 1000 rfl rfl rfl ?_|refine aa.upd (ak _ g1) 1000 rfl rfl rfl ?_|refine aa.upd (aS _ g1) 1000 rfl rfl rfl ?_)<;>conv=>whnf)|(exact trivial)|(refine And.intro rfl ?_;conv=>whnf))
theorem DZ(s:Sc)(hs:s.ok)(hkd:aJ s.cur=8):a6 av 32 [.one (.ref 1000 0 0 0)] [(1000,s.o)] [(1000,(aH 8 s.next).s.o)] [1000] (.val (.agg [.d (dI 8),.d (dI (aH 8 s.next).a),.d (dI (aH 8 s.next).b),.d (dI (aH 8 s.next).c),.nil])):=by
 have wm:=dD s hs
 have h0:=hs.next
 have h1:=h0.num
 have h2:=h1.num
 have g1:=h0.node
 refine aL aj func32 rfl call32 ntmps32 (IG results32) rfl λS pv=>?_;conv=>whnf
 repeat'((first|refine aw0 ?_|refine aw1 ?_|refine aw2 ?_|refine aw3 ?_|refine aw4 ?_|refine aw5 ?_|refine aw6 ?_|refine aw7 ?_|refine aw8 ?_|refine bT ?_|refine bF ?_|refine aa.upd wm 1000 rfl rfl rfl ?_|exact rr|refine And.intro rfl ?_|refine AB.mk (λh=>?_) (λh=>?_))<;>conv=>whnf)
 refine AWP.loopS (λk:Nat=>k<=11/\∀j:Nat,k<j->j<=11->ay j≠s.cur) [8,9,10,11,12,13,14,15,16,17,18,19,20,21] (λk=>[]) (λk=>[(9999,.frame (bD [1000]) pv),(1000,s.next.o),(2,.cells 81 [.d (dI 0),.d (dI 0),.d (dI 0),.d (dI 0),.nil]),(4,.cells 81 [.d (dI (k:Int)),.d (dI 0),.d (dI 0),.d (dI 0),.nil])]) (λk=>k) 11 ⟨by omega,λj h1 h2=>by omega⟩ ?_ (ae.cons rfl (ae.cons rfl (ae.cons rfl (ae.cons rfl ae.nil)))) (λk hR=>?_)<;>(conv=>whnf)
 ·repeat'(first|exact trivial|(refine And.intro rfl ?_;conv=>whnf))
 ·obtain⟨hk,hno⟩:=hR
  repeat'((first|refine aw0 ?_|refine aw1 ?_|refine aw2 ?_|refine aw3 ?_|refine aw4 ?_|refine aw5 ?_|refine aw6 ?_|refine aw7 ?_|refine aw8 ?_|refine bT ?_|refine bF ?_|refine And.intro rfl ?_)<;>conv=>whnf)
  refine AB.mk (λh=>?_) (λh=>?_)<;>(conv=>whnf)
  ·repeat'((first|refine aw0 ?_|refine aw1 ?_|refine aw2 ?_|refine aw3 ?_|refine aw4 ?_|refine aw5 ?_|refine aw6 ?_|refine aw7 ?_|refine aw8 ?_|refine bT ?_|refine bF ?_|refine aa.pure (aP (k:Int) ari ari) rfl ?_|refine And.intro rfl ?_)<;>conv=>whnf)
   refine AB.mk (λh2=>?_) (λh2=>?_)<;>(conv=>whnf)
   ·have hk1:1<=k:=ari
    have hne:ay k≠s.cur:=by rw[bi]at h2;simpa using h2
    repeat'((first|refine aw0 ?_|refine aw1 ?_|refine aw2 ?_|refine aw3 ?_|refine aw4 ?_|refine aw5 ?_|refine aw6 ?_|refine aw7 ?_|refine aw8 ?_|refine bT ?_|refine bF ?_|refine AW.as ((k-1:Nat):Int) (by rw[aA Iv Iv];omega) ?_|refine And.intro rfl ?_)<;>conv=>whnf)
    refine aN.mk ⟨k-1,⟨by omega,λj h1 h2=>?_⟩,by omega,?_,ae.cons rfl (ae.cons rfl (ae.cons rfl (ae.cons rfl ae.nil)))⟩
    ·by_cases hjk:j=k
     ·subst hjk;exact hne
     ·exact hno j Iv h2
    ·exact hds
   ·have heq:ay k=s.cur:=by rw[bi]at h2;simpa using h2
    have hkk:k=8:=by have:=aF hk hno (.inr heq);omega
    subst hkk
    clear h h2 hno
    repeat'(first|((first|refine aw0 ?_|refine aw1 ?_|refine aw2 ?_|refine aw3 ?_|refine aw4 ?_|refine aw5 ?_|refine aw6 ?_|refine aw7 ?_|refine aw8 ?_|refine bT ?_|refine bF ?_|refine AB.ofT Ix ?_|refine AB.ofF Ix ?_|refine aa.upd (ak _ h0) 1000 rfl rfl rfl ?_|refine aa.upd (ak _ h1) 1000 rfl rfl rfl ?_|refine aa.upd (ak _ h2) 1000 rfl rfl rfl ?_|refine aa.upd (aS _ h0) 1000 rfl rfl rfl ?_|refine aa.upd (ak _ g1) 1000 rfl rfl rfl ?_|refine aa.upd (aS _ g1) 1000 rfl rfl rfl ?_)<;>conv=>whnf)|(exact trivial)|(refine And.intro rfl ?_;conv=>whnf))
  ·have hkk:k=8:=by have:=aF hk hno (.inl ari);omega
   subst hkk
   clear hno
   repeat'(first|((first|refine aw0 ?_|refine aw1 ?_|refine aw2 ?_|refine aw3 ?_|refine aw4 ?_|refine aw5 ?_|refine aw6 ?_|refine aw7 ?_|refine aw8 ?_|refine bT ?_|refine bF ?_|refine AB.ofT Ix ?_|refine AB.ofF Ix ?_|refine aa.upd (ak _ h0) 1000 rfl rfl rfl ?_|refine aa.upd (ak _ h1) 1000 rfl rfl rfl ?_|refine aa.upd (ak _ h2) 1000 rfl rfl rfl ?_|refine aa.upd (aS _ h0) 1000 rfl rfl rfl ?_|refine aa.upd (ak _ g1) 1000 rfl rfl rfl ?_|refine aa.upd (aS _ g1) 1000 rfl rfl rfl ?_)<;>conv=>whnf)|(exact trivial)|(refine And.intro rfl ?_;conv=>whnf))
theorem D0(s:Sc)(hs:s.ok)(hkd:aJ s.cur=9):a6 av 32 [.one (.ref 1000 0 0 0)] [(1000,s.o)] [(1000,(aH 9 s.next).s.o)] [1000] (.val (.agg [.d (dI 9),.d (dI (aH 9 s.next).a),.d (dI (aH 9 s.next).b),.d (dI (aH 9 s.next).c),.nil])):=by
 have wm:=dD s hs
 have h0:=hs.next
 have h1:=h0.num
 have h2:=h1.num
 have g1:=h0.node
 refine aL aj func32 rfl call32 ntmps32 (IG results32) rfl λS pv=>?_;conv=>whnf
 repeat'((first|refine aw0 ?_|refine aw1 ?_|refine aw2 ?_|refine aw3 ?_|refine aw4 ?_|refine aw5 ?_|refine aw6 ?_|refine aw7 ?_|refine aw8 ?_|refine bT ?_|refine bF ?_|refine aa.upd wm 1000 rfl rfl rfl ?_|exact rr|refine And.intro rfl ?_|refine AB.mk (λh=>?_) (λh=>?_))<;>conv=>whnf)
 refine AWP.loopS (λk:Nat=>k<=11/\∀j:Nat,k<j->j<=11->ay j≠s.cur) [8,9,10,11,12,13,14,15,16,17,18,19,20,21] (λk=>[]) (λk=>[(9999,.frame (bD [1000]) pv),(1000,s.next.o),(2,.cells 81 [.d (dI 0),.d (dI 0),.d (dI 0),.d (dI 0),.nil]),(4,.cells 81 [.d (dI (k:Int)),.d (dI 0),.d (dI 0),.d (dI 0),.nil])]) (λk=>k) 11 ⟨by omega,λj h1 h2=>by omega⟩ ?_ (ae.cons rfl (ae.cons rfl (ae.cons rfl (ae.cons rfl ae.nil)))) (λk hR=>?_)<;>(conv=>whnf)
 ·repeat'(first|exact trivial|(refine And.intro rfl ?_;conv=>whnf))
 ·obtain⟨hk,hno⟩:=hR
  repeat'((first|refine aw0 ?_|refine aw1 ?_|refine aw2 ?_|refine aw3 ?_|refine aw4 ?_|refine aw5 ?_|refine aw6 ?_|refine aw7 ?_|refine aw8 ?_|refine bT ?_|refine bF ?_|refine And.intro rfl ?_)<;>conv=>whnf)
  refine AB.mk (λh=>?_) (λh=>?_)<;>(conv=>whnf)
  ·repeat'((first|refine aw0 ?_|refine aw1 ?_|refine aw2 ?_|refine aw3 ?_|refine aw4 ?_|refine aw5 ?_|refine aw6 ?_|refine aw7 ?_|refine aw8 ?_|refine bT ?_|refine bF ?_|refine aa.pure (aP (k:Int) ari ari) rfl ?_|refine And.intro rfl ?_)<;>conv=>whnf)
   refine AB.mk (λh2=>?_) (λh2=>?_)<;>(conv=>whnf)
   ·have hk1:1<=k:=ari
    have hne:ay k≠s.cur:=by rw[bi]at h2;simpa using h2
    repeat'((first|refine aw0 ?_|refine aw1 ?_|refine aw2 ?_|refine aw3 ?_|refine aw4 ?_|refine aw5 ?_|refine aw6 ?_|refine aw7 ?_|refine aw8 ?_|refine bT ?_|refine bF ?_|refine AW.as ((k-1:Nat):Int) (by rw[aA Iv Iv];omega) ?_|refine And.intro rfl ?_)<;>conv=>whnf)
    refine aN.mk ⟨k-1,⟨by omega,λj h1 h2=>?_⟩,by omega,?_,ae.cons rfl (ae.cons rfl (ae.cons rfl (ae.cons rfl ae.nil)))⟩
    ·by_cases hjk:j=k
     ·subst hjk;exact hne
     ·exact hno j Iv h2
    ·exact hds
   ·have heq:ay k=s.cur:=by rw[bi]at h2;simpa using h2
    have hkk:k=9:=by have:=aF hk hno (.inr heq);omega
    subst hkk
    clear h h2 hno
    repeat'(first|((first|refine aw0 ?_|refine aw1 ?_|refine aw2 ?_|refine aw3 ?_|refine aw4 ?_|refine aw5 ?_|refine aw6 ?_|refine aw7 ?_|refine aw8 ?_|refine bT ?_|refine bF ?_|refine AB.ofT Ix ?_|refine AB.ofF Ix ?_|refine aa.upd (ak _ h0) 1000 rfl rfl rfl ?_|refine aa.upd (ak _ h1) 1000 rfl rfl rfl ?_|refine aa.upd (ak _ h2) 1000 rfl rfl rfl ?_|refine aa.upd (aS _ h0) 1000 rfl rfl rfl ?_|refine aa.upd (ak _ g1) 1000 rfl rfl rfl ?_|refine aa.upd (aS _ g1) 1000 rfl rfl rfl ?_)<;>conv=>whnf)|(exact trivial)|(refine And.intro rfl ?_;conv=>whnf))
  ·have hkk:k=9:=by have:=aF hk hno (.inl ari);omega
   subst hkk
   clear hno
   repeat'(first|((first|refine aw0 ?_|refine aw1 ?_|refine aw2 ?_|refine aw3 ?_|refine aw4 ?_|refine aw5 ?_|refine aw6 ?_|refine aw7 ?_|refine aw8 ?_|refine bT ?_|refine bF ?_|refine AB.ofT Ix ?_|refine AB.ofF Ix ?_|refine aa.upd (ak _ h0) 1000 rfl rfl rfl ?_|refine aa.upd (ak _ h1) 1000 rfl rfl rfl ?_|refine aa.upd (ak _ h2) 1000 rfl rfl rfl ?_|refine aa.upd (aS _ h0) 1000 rfl rfl rfl ?_|refine aa.upd (ak _ g1) 1000 rfl rfl rfl ?_|refine aa.upd (aS _ g1) 1000 rfl rfl rfl ?_)<;>conv=>whnf)|(exact trivial)|(refine And.intro rfl ?_;conv=>whnf))
theorem CT(s:Sc)(hs:s.ok)(hkd:aJ s.cur=10):a6 av 32 [.one (.ref 1000 0 0 0)] [(1000,s.o)] [(1000,(aH 10 s.next).s.o)] [1000] (.val (.agg [.d (dI 10),.d (dI (aH 10 s.next).a),.d (dI (aH 10 s.next).b),.d (dI (aH 10 s.next).c),.nil])):=by
 have wm:=dD s hs
 have h0:=hs.next
 have h1:=h0.num
 have h2:=h1.num
 have g1:=h0.node
 refine aL aj func32 rfl call32 ntmps32 (IG results32) rfl λS pv=>?_;conv=>whnf
 repeat'((first|refine aw0 ?_|refine aw1 ?_|refine aw2 ?_|refine aw3 ?_|refine aw4 ?_|refine aw5 ?_|refine aw6 ?_|refine aw7 ?_|refine aw8 ?_|refine bT ?_|refine bF ?_|refine aa.upd wm 1000 rfl rfl rfl ?_|exact rr|refine And.intro rfl ?_|refine AB.mk (λh=>?_) (λh=>?_))<;>conv=>whnf)
 refine AWP.loopS (λk:Nat=>k<=11/\∀j:Nat,k<j->j<=11->ay j≠s.cur) [8,9,10,11,12,13,14,15,16,17,18,19,20,21] (λk=>[]) (λk=>[(9999,.frame (bD [1000]) pv),(1000,s.next.o),(2,.cells 81 [.d (dI 0),.d (dI 0),.d (dI 0),.d (dI 0),.nil]),(4,.cells 81 [.d (dI (k:Int)),.d (dI 0),.d (dI 0),.d (dI 0),.nil])]) (λk=>k) 11 ⟨by omega,λj h1 h2=>by omega⟩ ?_ (ae.cons rfl (ae.cons rfl (ae.cons rfl (ae.cons rfl ae.nil)))) (λk hR=>?_)<;>(conv=>whnf)
 ·repeat'(first|exact trivial|(refine And.intro rfl ?_;conv=>whnf))
 ·obtain⟨hk,hno⟩:=hR
  repeat'((first|refine aw0 ?_|refine aw1 ?_|refine aw2 ?_|refine aw3 ?_|refine aw4 ?_|refine aw5 ?_|refine aw6 ?_|refine aw7 ?_|refine aw8 ?_|refine bT ?_|refine bF ?_|refine And.intro rfl ?_)<;>conv=>whnf)
  refine AB.mk (λh=>?_) (λh=>?_)<;>(conv=>whnf)
  ·repeat'((first|refine aw0 ?_|refine aw1 ?_|refine aw2 ?_|refine aw3 ?_|refine aw4 ?_|refine aw5 ?_|refine aw6 ?_|refine aw7 ?_|refine aw8 ?_|refine bT ?_|refine bF ?_|refine aa.pure (aP (k:Int) ari ari) rfl ?_|refine And.intro rfl ?_)<;>conv=>whnf)
   refine AB.mk (λh2=>?_) (λh2=>?_)<;>(conv=>whnf)
   ·have hk1:1<=k:=ari
    have hne:ay k≠s.cur:=by rw[bi]at h2;simpa using h2
    repeat'((first|refine aw0 ?_|refine aw1 ?_|refine aw2 ?_|refine aw3 ?_|refine aw4 ?_|refine aw5 ?_|refine aw6 ?_|refine aw7 ?_|refine aw8 ?_|refine bT ?_|refine bF ?_|refine AW.as ((k-1:Nat):Int) (by rw[aA Iv Iv];omega) ?_|refine And.intro rfl ?_)<;>conv=>whnf)
    refine aN.mk ⟨k-1,⟨by omega,λj h1 h2=>?_⟩,by omega,?_,ae.cons rfl (ae.cons rfl (ae.cons rfl (ae.cons rfl ae.nil)))⟩
    ·by_cases hjk:j=k
     ·subst hjk;exact hne
     ·exact hno j Iv h2
    ·exact hds
   ·have heq:ay k=s.cur:=by rw[bi]at h2;simpa using h2
    have hkk:k=10:=by have:=aF hk hno (.inr heq);omega
    subst hkk
    clear h h2 hno
    repeat'(first|((first|refine aw0 ?_|refine aw1 ?_|refine aw2 ?_|refine aw3 ?_|refine aw4 ?_|refine aw5 ?_|refine aw6 ?_|refine aw7 ?_|refine aw8 ?_|refine bT ?_|refine bF ?_|refine AB.ofT Ix ?_|refine AB.ofF Ix ?_|refine aa.upd (ak _ h0) 1000 rfl rfl rfl ?_|refine aa.upd (ak _ h1) 1000 rfl rfl rfl ?_|refine aa.upd (ak _ h2) 1000 rfl rfl rfl ?_|refine aa.upd (aS _ h0) 1000 rfl rfl rfl ?_|refine aa.upd (ak _ g1) 1000 rfl rfl rfl ?_|refine aa.upd (aS _ g1) 1000 rfl rfl rfl ?_)<;>conv=>whnf)|(exact trivial)|(refine And.intro rfl ?_;conv=>whnf))
  ·have hkk:k=10:=by have:=aF hk hno (.inl ari);omega
   subst hkk
   clear hno
   repeat'(first|((first|refine aw0 ?_|refine aw1 ?_|refine aw2 ?_|refine aw3 ?_|refine aw4 ?_|refine aw5 ?_|refine aw6 ?_|refine aw7 ?_|refine aw8 ?_|refine bT ?_|refine bF ?_|refine AB.ofT Ix ?_|refine AB.ofF Ix ?_|refine aa.upd (ak _ h0) 1000 rfl rfl rfl ?_|refine aa.upd (ak _ h1) 1000 rfl rfl rfl ?_|refine aa.upd (ak _ h2) 1000 rfl rfl rfl ?_|refine aa.upd (aS _ h0) 1000 rfl rfl rfl ?_|refine aa.upd (ak _ g1) 1000 rfl rfl rfl ?_|refine aa.upd (aS _ g1) 1000 rfl rfl rfl ?_)<;>conv=>whnf)|(exact trivial)|(refine And.intro rfl ?_;conv=>whnf))
theorem CU(s:Sc)(hs:s.ok)(hkd:aJ s.cur=11):a6 av 32 [.one (.ref 1000 0 0 0)] [(1000,s.o)] [(1000,(aH 11 s.next).s.o)] [1000] (.val (.agg [.d (dI 11),.d (dI (aH 11 s.next).a),.d (dI (aH 11 s.next).b),.d (dI (aH 11 s.next).c),.nil])):=by
 have wm:=dD s hs
 have h0:=hs.next
 have h1:=h0.num
 have h2:=h1.num
 have g1:=h0.node
 refine aL aj func32 rfl call32 ntmps32 (IG results32) rfl λS pv=>?_;conv=>whnf
 repeat'((first|refine aw0 ?_|refine aw1 ?_|refine aw2 ?_|refine aw3 ?_|refine aw4 ?_|refine aw5 ?_|refine aw6 ?_|refine aw7 ?_|refine aw8 ?_|refine bT ?_|refine bF ?_|refine aa.upd wm 1000 rfl rfl rfl ?_|exact rr|refine And.intro rfl ?_|refine AB.mk (λh=>?_) (λh=>?_))<;>conv=>whnf)
 refine AWP.loopS (λk:Nat=>k<=11/\∀j:Nat,k<j->j<=11->ay j≠s.cur) [8,9,10,11,12,13,14,15,16,17,18,19,20,21] (λk=>[]) (λk=>[(9999,.frame (bD [1000]) pv),(1000,s.next.o),(2,.cells 81 [.d (dI 0),.d (dI 0),.d (dI 0),.d (dI 0),.nil]),(4,.cells 81 [.d (dI (k:Int)),.d (dI 0),.d (dI 0),.d (dI 0),.nil])]) (λk=>k) 11 ⟨by omega,λj h1 h2=>by omega⟩ ?_ (ae.cons rfl (ae.cons rfl (ae.cons rfl (ae.cons rfl ae.nil)))) (λk hR=>?_)<;>(conv=>whnf)
 ·repeat'(first|exact trivial|(refine And.intro rfl ?_;conv=>whnf))
 ·obtain⟨hk,hno⟩:=hR
  repeat'((first|refine aw0 ?_|refine aw1 ?_|refine aw2 ?_|refine aw3 ?_|refine aw4 ?_|refine aw5 ?_|refine aw6 ?_|refine aw7 ?_|refine aw8 ?_|refine bT ?_|refine bF ?_|refine And.intro rfl ?_)<;>conv=>whnf)
  refine AB.mk (λh=>?_) (λh=>?_)<;>(conv=>whnf)
  ·repeat'((first|refine aw0 ?_|refine aw1 ?_|refine aw2 ?_|refine aw3 ?_|refine aw4 ?_|refine aw5 ?_|refine aw6 ?_|refine aw7 ?_|refine aw8 ?_|refine bT ?_|refine bF ?_|refine aa.pure (aP (k:Int) ari ari) rfl ?_|refine And.intro rfl ?_)<;>conv=>whnf)
   refine AB.mk (λh2=>?_) (λh2=>?_)<;>(conv=>whnf)
   ·have hk1:1<=k:=ari
    have hne:ay k≠s.cur:=by rw[bi]at h2;simpa using h2
    repeat'((first|refine aw0 ?_|refine aw1 ?_|refine aw2 ?_|refine aw3 ?_|refine aw4 ?_|refine aw5 ?_|refine aw6 ?_|refine aw7 ?_|refine aw8 ?_|refine bT ?_|refine bF ?_|refine AW.as ((k-1:Nat):Int) (by rw[aA Iv Iv];omega) ?_|refine And.intro rfl ?_)<;>conv=>whnf)
    refine aN.mk ⟨k-1,⟨by omega,λj h1 h2=>?_⟩,by omega,?_,ae.cons rfl (ae.cons rfl (ae.cons rfl (ae.cons rfl ae.nil)))⟩
    ·by_cases hjk:j=k
     ·subst hjk;exact hne
     ·exact hno j Iv h2
    ·exact hds
   ·have heq:ay k=s.cur:=by rw[bi]at h2;simpa using h2
    have hkk:k=11:=by have:=aF hk hno (.inr heq);omega
    subst hkk
    clear h h2 hno
    repeat'(first|((first|refine aw0 ?_|refine aw1 ?_|refine aw2 ?_|refine aw3 ?_|refine aw4 ?_|refine aw5 ?_|refine aw6 ?_|refine aw7 ?_|refine aw8 ?_|refine bT ?_|refine bF ?_|refine AB.ofT Ix ?_|refine AB.ofF Ix ?_|refine aa.upd (ak _ h0) 1000 rfl rfl rfl ?_|refine aa.upd (ak _ h1) 1000 rfl rfl rfl ?_|refine aa.upd (ak _ h2) 1000 rfl rfl rfl ?_|refine aa.upd (aS _ h0) 1000 rfl rfl rfl ?_|refine aa.upd (ak _ g1) 1000 rfl rfl rfl ?_|refine aa.upd (aS _ g1) 1000 rfl rfl rfl ?_)<;>conv=>whnf)|(exact trivial)|(refine And.intro rfl ?_;conv=>whnf))
  ·have hkk:k=11:=by have:=aF hk hno (.inl ari);omega
   subst hkk
   clear hno
   repeat'(first|((first|refine aw0 ?_|refine aw1 ?_|refine aw2 ?_|refine aw3 ?_|refine aw4 ?_|refine aw5 ?_|refine aw6 ?_|refine aw7 ?_|refine aw8 ?_|refine bT ?_|refine bF ?_|refine AB.ofT Ix ?_|refine AB.ofF Ix ?_|refine aa.upd (ak _ h0) 1000 rfl rfl rfl ?_|refine aa.upd (ak _ h1) 1000 rfl rfl rfl ?_|refine aa.upd (ak _ h2) 1000 rfl rfl rfl ?_|refine aa.upd (aS _ h0) 1000 rfl rfl rfl ?_|refine aa.upd (ak _ g1) 1000 rfl rfl rfl ?_|refine aa.upd (aS _ g1) 1000 rfl rfl rfl ?_)<;>conv=>whnf)|(exact trivial)|(refine And.intro rfl ?_;conv=>whnf))
theorem CV(s:Sc)(hs:s.ok)(hkd:aJ s.cur=5)(hd:(aC s.next).2.ws=[]):a6 av 32 [.one (.ref 1000 0 0 0)] [(1000,s.o)] [(1000,(aC s.next).2.o)] [1000] (.val (.agg [.d (dI 5),.d (dI (aC s.next).1),.d (dI 0),.d (dI 0),.nil])):=by
 have wm:=dD s hs
 have h0:=hs.next
 have h1:=h0.num
 have h2:=h1.num
 have g1:=h0.node
 have fm:=B2 _ hd
 refine aL aj func32 rfl call32 ntmps32 (IG results32) rfl λS pv=>?_;conv=>whnf
 repeat'((first|refine aw0 ?_|refine aw1 ?_|refine aw2 ?_|refine aw3 ?_|refine aw4 ?_|refine aw5 ?_|refine aw6 ?_|refine aw7 ?_|refine aw8 ?_|refine bT ?_|refine bF ?_|refine aa.upd wm 1000 rfl rfl rfl ?_|exact rr|refine And.intro rfl ?_|refine AB.mk (λh=>?_) (λh=>?_))<;>conv=>whnf)
 refine AWP.loopS (λk:Nat=>k<=11/\∀j:Nat,k<j->j<=11->ay j≠s.cur) [8,9,10,11,12,13,14,15,16,17,18,19,20,21] (λk=>[]) (λk=>[(9999,.frame (bD [1000]) pv),(1000,s.next.o),(2,.cells 81 [.d (dI 0),.d (dI 0),.d (dI 0),.d (dI 0),.nil]),(4,.cells 81 [.d (dI (k:Int)),.d (dI 0),.d (dI 0),.d (dI 0),.nil])]) (λk=>k) 11 ⟨by omega,λj h1 h2=>by omega⟩ ?_ (ae.cons rfl (ae.cons rfl (ae.cons rfl (ae.cons rfl ae.nil)))) (λk hR=>?_)<;>(conv=>whnf)
 ·repeat'(first|exact trivial|(refine And.intro rfl ?_;conv=>whnf))
 ·obtain⟨hk,hno⟩:=hR
  repeat'((first|refine aw0 ?_|refine aw1 ?_|refine aw2 ?_|refine aw3 ?_|refine aw4 ?_|refine aw5 ?_|refine aw6 ?_|refine aw7 ?_|refine aw8 ?_|refine bT ?_|refine bF ?_|refine And.intro rfl ?_)<;>conv=>whnf)
  refine AB.mk (λh=>?_) (λh=>?_)<;>(conv=>whnf)
  ·repeat'((first|refine aw0 ?_|refine aw1 ?_|refine aw2 ?_|refine aw3 ?_|refine aw4 ?_|refine aw5 ?_|refine aw6 ?_|refine aw7 ?_|refine aw8 ?_|refine bT ?_|refine bF ?_|refine aa.pure (aP (k:Int) ari ari) rfl ?_|refine And.intro rfl ?_)<;>conv=>whnf)
   refine AB.mk (λh2=>?_) (λh2=>?_)<;>(conv=>whnf)
   ·have hk1:1<=k:=ari
    have hne:ay k≠s.cur:=by rw[bi]at h2;simpa using h2
    repeat'((first|refine aw0 ?_|refine aw1 ?_|refine aw2 ?_|refine aw3 ?_|refine aw4 ?_|refine aw5 ?_|refine aw6 ?_|refine aw7 ?_|refine aw8 ?_|refine bT ?_|refine bF ?_|refine AW.as ((k-1:Nat):Int) (by rw[aA Iv Iv];omega) ?_|refine And.intro rfl ?_)<;>conv=>whnf)
    refine aN.mk ⟨k-1,⟨by omega,λj h1 h2=>?_⟩,by omega,?_,ae.cons rfl (ae.cons rfl (ae.cons rfl (ae.cons rfl ae.nil)))⟩
    ·by_cases hjk:j=k
     ·subst hjk;exact hne
     ·exact hno j Iv h2
    ·exact hds
   ·have heq:ay k=s.cur:=by rw[bi]at h2;simpa using h2
    have hkk:k=5:=by have:=aF hk hno (.inr heq);omega
    subst hkk
    clear h h2 hno
    repeat'(first|((first|refine aw0 ?_|refine aw1 ?_|refine aw2 ?_|refine aw3 ?_|refine aw4 ?_|refine aw5 ?_|refine aw6 ?_|refine aw7 ?_|refine aw8 ?_|refine bT ?_|refine bF ?_|refine AB.ofT Ix ?_|refine AB.ofF Ix ?_|refine aa.upd (ak _ h0) 1000 rfl rfl rfl ?_|refine aa.upd (ak _ h1) 1000 rfl rfl rfl ?_|refine aa.upd (ak _ h2) 1000 rfl rfl rfl ?_|refine aa.upd (aS _ h0) 1000 rfl rfl rfl ?_|refine aa.upd (ak _ g1) 1000 rfl rfl rfl ?_|refine aa.upd (aS _ g1) 1000 rfl rfl rfl ?_|refine aa.upd fm 1000 rfl rfl rfl ?_)<;>conv=>whnf)|(exact trivial)|(refine And.intro rfl ?_;conv=>whnf))
  ·have hkk:k=5:=by have:=aF hk hno (.inl ari);omega
   subst hkk
   clear hno
   repeat'(first|((first|refine aw0 ?_|refine aw1 ?_|refine aw2 ?_|refine aw3 ?_|refine aw4 ?_|refine aw5 ?_|refine aw6 ?_|refine aw7 ?_|refine aw8 ?_|refine bT ?_|refine bF ?_|refine AB.ofT Ix ?_|refine AB.ofF Ix ?_|refine aa.upd (ak _ h0) 1000 rfl rfl rfl ?_|refine aa.upd (ak _ h1) 1000 rfl rfl rfl ?_|refine aa.upd (ak _ h2) 1000 rfl rfl rfl ?_|refine aa.upd (aS _ h0) 1000 rfl rfl rfl ?_|refine aa.upd (ak _ g1) 1000 rfl rfl rfl ?_|refine aa.upd (aS _ g1) 1000 rfl rfl rfl ?_|refine aa.upd fm 1000 rfl rfl rfl ?_)<;>conv=>whnf)|(exact trivial)|(refine And.intro rfl ?_;conv=>whnf))
theorem CW(s:Sc)(hs:s.ok)(hkd:aJ s.cur=5)(hd:(aC s.next).2.ws≠ []):a6 av 32 [.one (.ref 1000 0 0 0)] [(1000,s.o)] [(1000,(cR (aC s.next).2).o),(900,.row 2 1 ((fa (aC s.next).2.cur).map eI))] [1000] (.val (.agg [.d (dI 5),.d (dI (aC s.next).1),.d (dI 0),.d (dI 0),.own 900])):=by
 have wm:=dD s hs
 have h0:=hs.next
 have h1:=h0.num
 have h2:=h1.num
 have g1:=h0.node
 have fm:=B3 _ g1 hd
 refine aL aj func32 rfl call32 ntmps32 (IG results32) rfl λS pv=>?_;conv=>whnf
 repeat'((first|refine aw0 ?_|refine aw1 ?_|refine aw2 ?_|refine aw3 ?_|refine aw4 ?_|refine aw5 ?_|refine aw6 ?_|refine aw7 ?_|refine aw8 ?_|refine bT ?_|refine bF ?_|refine aa.upd wm 1000 rfl rfl rfl ?_|exact rr|refine And.intro rfl ?_|refine AB.mk (λh=>?_) (λh=>?_))<;>conv=>whnf)
 refine AWP.loopS (λk:Nat=>k<=11/\∀j:Nat,k<j->j<=11->ay j≠s.cur) [8,9,10,11,12,13,14,15,16,17,18,19,20,21] (λk=>[]) (λk=>[(9999,.frame (bD [1000]) pv),(1000,s.next.o),(2,.cells 81 [.d (dI 0),.d (dI 0),.d (dI 0),.d (dI 0),.nil]),(4,.cells 81 [.d (dI (k:Int)),.d (dI 0),.d (dI 0),.d (dI 0),.nil])]) (λk=>k) 11 ⟨by omega,λj h1 h2=>by omega⟩ ?_ (ae.cons rfl (ae.cons rfl (ae.cons rfl (ae.cons rfl ae.nil)))) (λk hR=>?_)<;>(conv=>whnf)
 ·repeat'(first|exact trivial|(refine And.intro rfl ?_;conv=>whnf))
 ·obtain⟨hk,hno⟩:=hR
  repeat'((first|refine aw0 ?_|refine aw1 ?_|refine aw2 ?_|refine aw3 ?_|refine aw4 ?_|refine aw5 ?_|refine aw6 ?_|refine aw7 ?_|refine aw8 ?_|refine bT ?_|refine bF ?_|refine And.intro rfl ?_)<;>conv=>whnf)
  refine AB.mk (λh=>?_) (λh=>?_)<;>(conv=>whnf)
  ·repeat'((first|refine aw0 ?_|refine aw1 ?_|refine aw2 ?_|refine aw3 ?_|refine aw4 ?_|refine aw5 ?_|refine aw6 ?_|refine aw7 ?_|refine aw8 ?_|refine bT ?_|refine bF ?_|refine aa.pure (aP (k:Int) ari ari) rfl ?_|refine And.intro rfl ?_)<;>conv=>whnf)
   refine AB.mk (λh2=>?_) (λh2=>?_)<;>(conv=>whnf)
   ·have hk1:1<=k:=ari
    have hne:ay k≠s.cur:=by rw[bi]at h2;simpa using h2
    repeat'((first|refine aw0 ?_|refine aw1 ?_|refine aw2 ?_|refine aw3 ?_|refine aw4 ?_|refine aw5 ?_|refine aw6 ?_|refine aw7 ?_|refine aw8 ?_|refine bT ?_|refine bF ?_|refine AW.as ((k-1:Nat):Int) (by rw[aA Iv Iv];omega) ?_|refine And.intro rfl ?_)<;>conv=>whnf)
    refine aN.mk ⟨k-1,⟨by omega,λj h1 h2=>?_⟩,by omega,?_,ae.cons rfl (ae.cons rfl (ae.cons rfl (ae.cons rfl ae.nil)))⟩
    ·by_cases hjk:j=k
     ·subst hjk;exact hne
     ·exact hno j Iv h2
    ·exact hds
   ·have heq:ay k=s.cur:=by rw[bi]at h2;simpa using h2
    have hkk:k=5:=by have:=aF hk hno (.inr heq);omega
    subst hkk
    clear h h2 hno
    repeat'(first|((first|refine aw0 ?_|refine aw1 ?_|refine aw2 ?_|refine aw3 ?_|refine aw4 ?_|refine aw5 ?_|refine aw6 ?_|refine aw7 ?_|refine aw8 ?_|refine bT ?_|refine bF ?_|refine AB.ofT Ix ?_|refine AB.ofF Ix ?_|refine aa.upd (ak _ h0) 1000 rfl rfl rfl ?_|refine aa.upd (ak _ h1) 1000 rfl rfl rfl ?_|refine aa.upd (ak _ h2) 1000 rfl rfl rfl ?_|refine aa.upd (aS _ h0) 1000 rfl rfl rfl ?_|refine aa.upd (ak _ g1) 1000 rfl rfl rfl ?_|refine aa.upd (aS _ g1) 1000 rfl rfl rfl ?_)<;>conv=>whnf)|(refine aa.meth fm [(1000,1000),(12,900)] rfl rfl ?_;(conv=>whnf);refine And.intro rfl ?_;conv=>whnf)|(exact trivial)|(refine And.intro rfl ?_;conv=>whnf))
  ·have hkk:k=5:=by have:=aF hk hno (.inl ari);omega
   subst hkk
   clear hno
   repeat'(first|((first|refine aw0 ?_|refine aw1 ?_|refine aw2 ?_|refine aw3 ?_|refine aw4 ?_|refine aw5 ?_|refine aw6 ?_|refine aw7 ?_|refine aw8 ?_|refine bT ?_|refine bF ?_|refine AB.ofT Ix ?_|refine AB.ofF Ix ?_|refine aa.upd (ak _ h0) 1000 rfl rfl rfl ?_|refine aa.upd (ak _ h1) 1000 rfl rfl rfl ?_|refine aa.upd (ak _ h2) 1000 rfl rfl rfl ?_|refine aa.upd (aS _ h0) 1000 rfl rfl rfl ?_|refine aa.upd (ak _ g1) 1000 rfl rfl rfl ?_|refine aa.upd (aS _ g1) 1000 rfl rfl rfl ?_)<;>conv=>whnf)|(refine aa.meth fm [(1000,1000),(12,900)] rfl rfl ?_;(conv=>whnf);refine And.intro rfl ?_;conv=>whnf)|(exact trivial)|(refine And.intro rfl ?_;conv=>whnf))
end Go.Proofs.YtnlhpdbijmnkhaaGreatDoor
namespace Go.Proofs.YtnlhpdbijmnkhaaGreatDoor
open Go.Proofs.Tryz
open Go.RowKit
abbrev y7:DStep:=⟨0,0,0,0,[]⟩
abbrev iD(k a b c:Int)(f:AC):AA:= .agg [.d (dI k),.d (dI a),.d (dI b),.d (dI c),f]
theorem bJ(l:List UInt8)(k a b c:Int)(t:Sc)(sm:a6 av 32 [.one (.ref 1000 0 0 0)] [(1000,y5 l)] [(1000,t.o)] [1000] (.val (iD k a b c .nil))):
  a6 av 18 [.one (.d (dL l))] [] [] [] (if t.over&&ar ⟨k,a,b,c,[]⟩then .tup [iD k a b c .nil,.one (.d (dB true))]else .tup [iD 0 0 0 0 .nil,.one (.d (dB false))]):=by
 have vm:=Cv t
 have hov:t.over=(t.ws.isEmpty&& !t.bad):=rfl
 rw[<-hov]at vm
 clear hov
 cases h1:t.over with
 |false=>
  have h1':(!t.over)=true:=by rw[h1];rfl
  simp only[Bool.false_and,Bool.false_eq_true,if_false]
  refine aL aj func18 rfl call18 ntmps18 (IG results18) rfl λS pv=>?_;conv=>whnf
  repeat'((first|refine aw0 ?_|refine aw1 ?_|refine aw2 ?_|refine aw3 ?_|refine aw4 ?_|refine aw5 ?_|refine aw6 ?_|refine aw7 ?_|refine aw8 ?_|refine bT ?_|refine bF ?_|refine aa.upd sm 8 rfl rfl rfl ?_|refine aa.upd vm 8 rfl rfl rfl ?_|exact rr|refine And.intro rfl ?_|refine AB.mk (λh=>?_) (λh=>?_))<;>conv=>whnf)
 |true=>
  have h1':(!t.over)=false:=by rw[h1];rfl
  cases h2:ar ⟨k,a,b,c,[]⟩with
  |false=>
   have h2':(!ar ⟨k,a,b,c,[]⟩)=true:=by rw[h2];rfl
   simp only[Bool.and_false,Bool.false_eq_true,if_false]
   refine aL aj func18 rfl call18 ntmps18 (IG results18) rfl λS pv=>?_;conv=>whnf
   repeat'((first|refine aw0 ?_|refine aw1 ?_|refine aw2 ?_|refine aw3 ?_|refine aw4 ?_|refine aw5 ?_|refine aw6 ?_|refine aw7 ?_|refine aw8 ?_|refine bT ?_|refine bF ?_|refine aa.upd sm 8 rfl rfl rfl ?_|refine aa.upd vm 8 rfl rfl rfl ?_|refine aa.pure (bP ⟨k,a,b,c,[]⟩) rfl ?_|exact rr|refine And.intro rfl ?_|refine AB.mk (λh=>?_) (λh=>?_))<;>conv=>whnf)
  |true=>
   have h2':(!ar ⟨k,a,b,c,[]⟩)=false:=by rw[h2];rfl
   simp only[Bool.and_self,if_true]
   refine aL aj func18 rfl call18 ntmps18 (IG results18) rfl λS pv=>?_;conv=>whnf
   repeat'((first|refine aw0 ?_|refine aw1 ?_|refine aw2 ?_|refine aw3 ?_|refine aw4 ?_|refine aw5 ?_|refine aw6 ?_|refine aw7 ?_|refine aw8 ?_|refine bT ?_|refine bF ?_|refine aa.upd sm 8 rfl rfl rfl ?_|refine aa.upd vm 8 rfl rfl rfl ?_|refine aa.pure (bP ⟨k,a,b,c,[]⟩) rfl ?_|exact rr|refine And.intro rfl ?_|refine AB.mk (λh=>?_) (λh=>?_))<;>conv=>whnf)
theorem vJ(l:List UInt8)(k a b c:Int)(f:List Int)(t:Sc)(sm:a6 av 32 [.one (.ref 1000 0 0 0)] [(1000,y5 l)] [(1000,t.o),(900,.row 2 1 (f.map eI))] [1000] (.val (iD k a b c (.own 900)))):
  (t.over=true->ar ⟨k,a,b,c,f⟩=true->a6 av 18 [.one (.d (dL l))] [] [(901,.row 2 1 (f.map eI))] [] (.tup [iD k a b c (.own 901),.one (.d (dB true))]))/\
  ((t.over&&ar ⟨k,a,b,c,f⟩)=false->a6 av 18 [.one (.d (dL l))] [] [] [] (.tup [iD 0 0 0 0 .nil,.one (.d (dB false))])):=by
 have vm:=Cv t
 have hov:t.over=(t.ws.isEmpty&& !t.bad):=rfl
 rw[<-hov]at vm
 clear hov
 refine⟨λh1 h2=>?_,λh=>?_⟩
 ·have h1':(!t.over)=false:=by rw[h1];rfl
  have h2':(!ar ⟨k,a,b,c,f⟩)=false:=by rw[h2];rfl
  refine aL aj func18 rfl call18 ntmps18 (IG results18) rfl λS pv=>?_;conv=>whnf
  repeat'(first|((first|refine aw0 ?_|refine aw1 ?_|refine aw2 ?_|refine aw3 ?_|refine aw4 ?_|refine aw5 ?_|refine aw6 ?_|refine aw7 ?_|refine aw8 ?_|refine bT ?_|refine bF ?_)<;>conv=>whnf)|(refine aa.meth sm [(1000,8),(900,901)] rfl rfl ?_;(conv=>whnf);refine And.intro rfl ?_;conv=>whnf)|((first|refine aa.upd vm 8 rfl rfl rfl ?_|refine aa.scalar (bP ⟨k,a,b,c,f⟩) rfl rfl ?_|exact rr|refine And.intro rfl ?_|refine AB.mk (λh=>?_) (λh=>?_))<;>conv=>whnf))
 ·cases h1:t.over with
  |false=>
   have h1':(!t.over)=true:=by rw[h1];rfl
   refine aL aj func18 rfl call18 ntmps18 (IG results18) rfl λS pv=>?_;conv=>whnf
   repeat'(first|((first|refine aw0 ?_|refine aw1 ?_|refine aw2 ?_|refine aw3 ?_|refine aw4 ?_|refine aw5 ?_|refine aw6 ?_|refine aw7 ?_|refine aw8 ?_|refine bT ?_|refine bF ?_)<;>conv=>whnf)|(refine aa.meth sm [(1000,8),(900,901)] rfl rfl ?_;(conv=>whnf);refine And.intro rfl ?_;conv=>whnf)|((first|refine aa.upd vm 8 rfl rfl rfl ?_|exact rr|refine And.intro rfl ?_|refine AB.mk (λh=>?_) (λh=>?_))<;>conv=>whnf))
  |true=>
   have h2:ar ⟨k,a,b,c,f⟩=false:=by rw[h1]at h;simpa using h
   have h1':(!t.over)=false:=by rw[h1];rfl
   have h2':(!ar ⟨k,a,b,c,f⟩)=true:=by rw[h2];rfl
   refine aL aj func18 rfl call18 ntmps18 (IG results18) rfl λS pv=>?_;conv=>whnf
   repeat'(first|((first|refine aw0 ?_|refine aw1 ?_|refine aw2 ?_|refine aw3 ?_|refine aw4 ?_|refine aw5 ?_|refine aw6 ?_|refine aw7 ?_|refine aw8 ?_|refine bT ?_|refine bF ?_)<;>conv=>whnf)|(refine aa.meth sm [(1000,8),(900,901)] rfl rfl ?_;(conv=>whnf);refine And.intro rfl ?_;conv=>whnf)|((first|refine aa.upd vm 8 rfl rfl rfl ?_|refine aa.scalar (bP ⟨k,a,b,c,f⟩) rfl rfl ?_|exact rr|refine And.intro rfl ?_|refine AB.mk (λh=>?_) (λh=>?_))<;>conv=>whnf))
end Go.Proofs.YtnlhpdbijmnkhaaGreatDoor
namespace Go.Proofs.YtnlhpdbijmnkhaaGreatDoor
open Go.Proofs.Tryz
open Go.RowKit
def stA(k:Int)(ws:List (List UInt8)):Int:=if k=1\/k=7\/k=8\/k=11 then Cq (ws.getD 1 [])else dl (ws.getD 1 [])
def stB (k : Int) (ws : List (List UInt8)) : Int := if k = 3 ∨ k = 4 ∨ k = 11 then atN ws 2 else if k = 9 ∨ k = 10 then (match ws[2]? with
 |some w=>dl w
 |none=> -1)else 0
def stC(k:Int)(ws:List (List UInt8)):Int:=if k=11 then atN ws 3 else 0
def stF (k : Int) (ws : List (List UInt8)) : List Int := if k = 5 then (match ws[2]? with
 |some w=>w.map λb=>(b.toNat:Int)-48
 |none=>[])else []
def eD(k:Int)(ws:List (List UInt8)):DStep:=⟨k,stA k ws,stB k ws,stC k ws,stF k ws⟩
def aq(l:List UInt8):DStep×Bool:=if 160<l.length then(y7,false)else if oC ((aQ 32 l).getD 0 [])<1\/(aQ 32 l).length<2 then(y7,false)else if ap (eD (oC ((aQ 32 l).getD 0 [])) (aQ 32 l))=l then(eD (oC ((aQ 32 l).getD 0 [])) (aQ 32 l),true)else(y7,false)
end Go.Proofs.YtnlhpdbijmnkhaaGreatDoor
namespace Go.Proofs.YtnlhpdbijmnkhaaGreatDoor
open Go.Proofs.Tryz
open Go.RowKit
noncomputable def cE (w0:List UInt8) (s:Sc):DStep×Sc:=
 if aJ w0=5 then(if(aC s).2.ws=[]then(⟨5,(aC s).1,0,0,[]⟩,(aC s).2)else(⟨5,(aC s).1,0,0,fa (aC s).2.cur⟩,cR (aC s).2))
 else(⟨aJ w0,(aH (aJ w0) s).a,(aH (aJ w0) s).b,(aH (aJ w0) s).c,[]⟩,(aH (aJ w0) s).s)
noncomputable def bk (l:List UInt8):DStep×Bool:=
 if(cE (Sc.start l).cur (Sc.start l).next).2.over&&ar (cE (Sc.start l).cur (Sc.start l).next).1 then((cE (Sc.start l).cur (Sc.start l).next).1,true)else(y7,false)
theorem rJ{s:Sc}{x:Int}{r:List (List UInt8)}(hb:s.bad=false)(hw:s.ws=Lib.itoa x::r)(h0:0<=x/\x<=1000000000):(bE s).1=x/\(bE s).2.bad=false/\(bE s).2.ws=r:=by
 have h:=r6 hw (oZ h0.1 h0.2)
 refine⟨by rw[h.1];omega,by rw[h.2,hb],by rw[xy,hw];rfl⟩
theorem nD{s:Sc}{x:Int}{r:List (List UInt8)}(hb:s.bad=false)(hw:s.ws=bA x::r)(h0:0<=x/\x<=5):(aC s).1=x/\(aC s).2.bad=false/\(aC s).2.ws=r:=by
 have hn:=(aM h0).1
 have h:=pf hw (by rw[hn];exact h0.1)
 refine⟨by rw[h.1,hn],by rw[h.2,hb],by rw[uj,hw];rfl⟩
theorem rz{s:Sc}(h:(bE s).2.bad=false):s.bad=false/\s.ws=Lib.itoa (bE s).1::(bE s).2.ws:=by
 obtain⟨hb,w,r,v,hw,hv⟩:=AT h
 have g:=r6 hw hv
 refine⟨hb,?_⟩
 rw[xy,g.1,hw,im,<-(tW.1 hv).1];rfl
theorem lT{s:Sc}(h:(aC s).2.bad=false):s.bad=false/\s.ws=bA (aC s).1::(aC s).2.ws:=by
 obtain⟨hb,w,r,hw,hv⟩:=y0 h
 have g:=pf hw hv
 refine⟨hb,?_⟩
 rw[uj,g.1,hw,w4 hv];rfl
theorem B0(w:List UInt8):fr (w.map λb=>(b.toNat:Int)-48)=w:=by
 unfold fr
 rw[List.map_map]
 conv=>rhs;rw[<-List.map_id w]
 refine List.map_congr_left λb _=>?_
 simp only[Function.comp,id]
 rw[show(48+((b.toNat:Int)-48)).toNat=b.toNat by omega]
 exact UInt8.ofNat_toNat
theorem eW{f:List Int}(h:bL f=true):f.length<=120/\∀x∈f,0<=x/\x<=2:=by
 simp only[bL,Bool.and_eq_true,decide_eq_true_eq,List.all_eq_true]at h
 exact⟨h.1,λx hx=>by have:=h.2 x hx;simpa[em]using this⟩
theorem w5{f:List Int}(h:bL f=true):(fr f).map (λb=>(b.toNat:Int)-48)=f:=by
 unfold fr
 rw[List.map_map]
 conv=>rhs;rw[<-List.map_id f]
 refine List.map_congr_left λx hx=>?_
 have:=(eW h).2 x hx
 have:x=0\/x=1\/x=2:=by omega
 rcases this with rfl|rfl|rfl<;>decide
theorem BZ{f:List Int}(h:bL f=true):(32:UInt8)∉fr f:=by
 intro hm
 obtain⟨x,hx,he⟩:=List.mem_map.1 hm
 have:=(eW h).2 x hx
 have:x=0\/x=1\/x=2:=by omega
 rcases this with rfl|rfl|rfl<;>exact absurd he Ix
theorem gi{k:Int}(h:1<=k/\k<=11):(32:UInt8)∉ay k:=by
 rcases cq h.1 h.2 with rfl|rfl|rfl|rfl|rfl|rfl|rfl|rfl|rfl|rfl|rfl<;>decide
inductive pW:DStep->Prop
 |num (k a:Int) (hk:k=1\/k=7\/k=8) (ha:0<=a/\a<=1000000000):pW ⟨k,a,0,0,[]⟩
 |node (k a:Int) (hk:k=2\/k=6) (ha:0<=a/\a<=5):pW ⟨k,a,0,0,[]⟩
 |time (k a b:Int) (hk:k=3\/k=4) (ha:0<=a/\a<=5) (hb:0<=b/\b<=1000000000):pW ⟨k,a,b,0,[]⟩
 |cut (k a b:Int) (hk:k=9\/k=10) (ha:0<=a/\a<=5) (hb:0<=b/\b<=5):pW ⟨k,a,b,0,[]⟩
 |rot (a b c:Int) (ha:0<=a/\a<=1000000000) (hb:0<=b/\b<=1000000000) (hc:0<=c/\c<=1000000000):pW ⟨11,a,b,c,[]⟩
 |fall (a:Int) (f:List Int) (ha:0<=a/\a<=5) (hf:bL f=true):pW ⟨5,a,0,0,f⟩
theorem iF{x:DStep}(h:ar x=true):pW x:=by
 have hF:=aW h
 obtain⟨k,a,b,c,f⟩:=x
 simp only at hF
 have hc:k≠11->c=0:=by
  intro hk
  have h2:=h
  simp only[ar,dP,Bool.and_eq_true,Bool.not_eq_true',Bool.and_eq_false_iff,decide_eq_false_iff_not]at h2
  have h3:=h2.1.2
  rcases h3 with h3|h3
  ·omega
  ·simp[hk]at h3
 have hs:dO ⟨k,a,b,c,f⟩=true:=by
  simp only[ar,Bool.and_eq_true]at h
  exact h.2
 clear h
 obtain⟨hk,ha,hb,hcc,hf,hf5⟩:=hF
 rcases cq hk.1 hk.2 with rfl|rfl|rfl|rfl|rfl|rfl|rfl|rfl|rfl|rfl|rfl
 all_goals simp[dO,em]at hs
 all_goals simp at hc hf5
 all_goals subst_vars
 ·exact .num 1 a (.inl rfl) ha
 ·obtain rfl:b=0:=by omega
  exact .node 2 a (.inl rfl) Iv
 ·exact .time 3 a b (.inl rfl) Iv hb
 ·exact .time 4 a b (.inr rfl) Iv hb
 ·obtain rfl:b=0:=by omega
  exact .fall a f Iv hf
 ·obtain rfl:b=0:=by omega
  exact .node 6 a (.inr rfl) Iv
 ·exact .num 7 a (.inr (.inl rfl)) ha
 ·exact .num 8 a (.inr (.inr rfl)) ha
 ·exact .cut 9 a b (.inl rfl) Iv Iv
 ·exact .cut 10 a b (.inr rfl) Iv Iv
 ·exact .rot a b c ha hb hcc
end Go.Proofs.YtnlhpdbijmnkhaaGreatDoor
namespace Go.Proofs.YtnlhpdbijmnkhaaGreatDoor
open Go.Proofs.Tryz
open Go.RowKit
theorem xz{w0:List UInt8}(hk:aJ w0=0)(s:Sc):cE w0 s=(⟨0,0,0,0,[]⟩,s):=by
 unfold cE;rw[hk];simp[aH]
theorem r8{w0:List UInt8}{k:Int}(hk:aJ w0=k)(h:k=1\/k=7\/k=8)(s:Sc):cE w0 s=(⟨k,(bE s).1,0,0,[]⟩,(bE s).2):=by
 unfold cE;rw[hk];rcases h with rfl|rfl|rfl<;>simp[aH,Fu]
theorem pg{w0:List UInt8}{k:Int}(hk:aJ w0=k)(h:k=2\/k=6)(s:Sc):cE w0 s=(⟨k,(aC s).1,0,0,[]⟩,(aC s).2):=by
 unfold cE;rw[hk];rcases h with rfl|rfl<;>simp[aH,Ee]
theorem ph{w0:List UInt8}{k:Int}(hk:aJ w0=k)(h:k=3\/k=4)(s:Sc):cE w0 s=(⟨k,(aC s).1,(bE (aC s).2).1,0,[]⟩,(bE (aC s).2).2):=by
 unfold cE;rw[hk];rcases h with rfl|rfl<;>simp[aH,xg]
theorem r7{w0:List UInt8}{k:Int}(hk:aJ w0=k)(h:k=9\/k=10)(s:Sc):cE w0 s=(⟨k,(aC s).1,(aC (aC s).2).1,0,[]⟩,(aC (aC s).2).2):=by
 unfold cE;rw[hk];rcases h with rfl|rfl<;>simp[aH,tY]
theorem r9{w0:List UInt8}(hk:aJ w0=11)(s:Sc):cE w0 s=(⟨11,(bE s).1,(bE (bE s).2).1,(bE (bE (bE s).2).2).1,[]⟩,(bE (bE (bE s).2).2).2):=by
 unfold cE;rw[hk];simp[aH,Ef]
theorem gK{w0:List UInt8}(hk:aJ w0=5)(s:Sc):cE w0 s=if(aC s).2.ws=[]then(⟨5,(aC s).1,0,0,[]⟩,(aC s).2)else(⟨5,(aC s).1,0,0,fa (aC s).2.cur⟩,cR (aC s).2):=by
 unfold cE;rw[hk];simp
theorem mY{k:Int}(a:Int)(h:k=1\/k=7\/k=8):au ⟨k,a,0,0,[]⟩=[ay k,Lib.itoa a]:=by
 rcases h with rfl|rfl|rfl<;>simp[au]
theorem fS{k:Int}(a:Int)(h:k=2\/k=6):au ⟨k,a,0,0,[]⟩=[ay k,bA a]:=by
 rcases h with rfl|rfl<;>simp[au]
theorem jt{k:Int}(a b:Int)(h:k=3\/k=4):au ⟨k,a,b,0,[]⟩=[ay k,bA a,Lib.itoa b]:=by
 rcases h with rfl|rfl<;>simp[au]
theorem mX{k:Int}(a b:Int)(h:k=9\/k=10):au ⟨k,a,b,0,[]⟩=[ay k,bA a,bA b]:=by
 rcases h with rfl|rfl<;>simp[au]
theorem mZ(a b c:Int):au ⟨11,a,b,c,[]⟩=[ay 11,Lib.itoa a,Lib.itoa b,Lib.itoa c]:=by simp[au]
theorem gO(a:Int)(f:List Int):au ⟨5,a,0,0,f⟩=ay 5::bA a::(if f=[]then []else [fr f]):=by simp[au]
theorem d4{l w0:List UInt8}{r:List (List UInt8)}(hw:aQ 32 l=w0::r):(Sc.start l).cur=w0/\(Sc.start l).next.bad=false/\(Sc.start l).next.ws=r:=by
 unfold Sc.start;rw[hw];exact⟨rfl,rfl,rfl⟩
theorem cY{k:Int}(h:1<=k/\k<=11):aJ (ay k)=k:=by
 have:=(cZ h).2 rfl
 unfold aJ;rw[this,if_neg Iv]
theorem s0{w:List UInt8}{k:Int}(hk:aJ w=k)(h:1<=k):ay k=w:=by
 have hr:=mW w
 unfold aJ at hk
 split at hk
 ·omega
 ·exact(cZ ⟨h,by omega⟩).1 hk
theorem iY{y:DStep×Sc}{x:DStep}(h1:y.1=x)(hb:y.2.bad=false)(hw:y.2.ws=[])(hok:ar x=true):(if y.2.over&&ar y.1 then(y.1,true)else(y7,false))=(x,true):=by
 rw[h1,hok];simp[Sc.over,hb,hw]
theorem sK{f:List Int}(h:bL f=true):fa (fr f)=f:=by
 have hl:(fr f).length<=121:=by rw[ic];have:=(eW h).1;omega
 unfold fa
 rw[List.take_of_length_le hl,w5 h]
theorem zA{s:Sc}{w:List UInt8}{r:List (List UInt8)}(hw:s.ws=w::r):s.next.bad=s.bad/\s.next.ws=r:=by
 unfold Sc.next;rw[hw];exact⟨rfl,rfl⟩
theorem q4{x:DStep}{l:List UInt8}(h:ar x=true)(hw:aQ 32 l=au x):bk l=(x,true):=by
 have hF:=iF h
 unfold bk
 cases hF with
 |num k a hk ha=>
  rw[mY a hk]at hw
  obtain⟨h1,h2,h3⟩:=d4 hw
  have r1:=rJ h2 h3 ha
  rw[h1,r8 (cY Iv) hk]
  exact iY (by rw[r1.1]) r1.2.1 r1.2.2 h
 |node k a hk ha=>
  rw[fS a hk]at hw
  obtain⟨h1,h2,h3⟩:=d4 hw
  have r1:=nD h2 h3 ha
  rw[h1,pg (cY Iv) hk]
  exact iY (by rw[r1.1]) r1.2.1 r1.2.2 h
 |time k a b hk ha hb=>
  rw[jt a b hk]at hw
  obtain⟨h1,h2,h3⟩:=d4 hw
  have r1:=nD h2 h3 ha
  have r2:=rJ r1.2.1 r1.2.2 hb
  rw[h1,ph (cY Iv) hk]
  exact iY (by rw[r1.1,r2.1]) r2.2.1 r2.2.2 h
 |cut k a b hk ha hb=>
  rw[mX a b hk]at hw
  obtain⟨h1,h2,h3⟩:=d4 hw
  have r1:=nD h2 h3 ha
  have r2:=nD r1.2.1 r1.2.2 hb
  rw[h1,r7 (cY Iv) hk]
  exact iY (by rw[r1.1,r2.1]) r2.2.1 r2.2.2 h
 |rot a b c ha hb hc=>
  rw[mZ a b c]at hw
  obtain⟨h1,h2,h3⟩:=d4 hw
  have r1:=rJ h2 h3 ha
  have r2:=rJ r1.2.1 r1.2.2 hb
  have r3:=rJ r2.2.1 r2.2.2 hc
  rw[h1,r9 (cY Iv)]
  exact iY (by rw[r1.1,r2.1,r3.1]) r3.2.1 r3.2.2 h
 |fall a f ha hf=>
  rw[gO a f]at hw
  obtain⟨h1,h2,h3⟩:=d4 hw
  have r1:=nD h2 h3 ha
  rw[h1,gK (cY Iv)]
  by_cases hfn:f=[]
  ·subst hfn
   rw[if_pos rfl]at r1
   rw[if_pos r1.2.2]
   exact iY (by rw[r1.1]) r1.2.1 r1.2.2 h
  ·rw[if_neg hfn]at r1
   have hcur:(aC (Sc.start l).next).2.cur=fr f:=by unfold Sc.cur;rw[r1.2.2];rfl
   have hne:fr f≠ []:=by
    intro e
    have:=ic f
    rw[e]at this
    exact hfn (List.eq_nil_of_length_eq_zero this.symm)
   rw[if_neg (show¬(aC (Sc.start l).next).2.ws=[]by rw[r1.2.2];simp)]
   refine iY (y:=(⟨5,(aC (Sc.start l).next).1,0,0,fa (aC (Sc.start l).next).2.cur⟩,cR (aC (Sc.start l).next).2)) (by rw[r1.1,hcur,sK hf]) ?_ ?_ h
   ·show(cR (aC (Sc.start l).next).2).bad=false
    unfold cR
    rw[hcur,if_neg hne]
    exact(zA r1.2.2).1.trans r1.2.1
   ·show(cR (aC (Sc.start l).next).2).ws=[]
    unfold cR
    rw[hcur,if_neg hne]
    exact(zA r1.2.2).2
theorem Dw{s:Sc}(h:s.over=true):s.bad=false/\s.ws=[]:=by
 simp only[Sc.over,Bool.and_eq_true,Bool.not_eq_true',List.isEmpty_iff]at h
 exact⟨h.2,h.1⟩
theorem wK{l:List UInt8}(h:(bk l).2=true):∃x,bk l=(x,true)/\ar x=true/\aQ 32 l=au x:=by
 obtain⟨w0,r,hw⟩:=eJ (c:=32) (s:=l)
 obtain⟨h1,h2,h3⟩:=d4 hw
 unfold bk at h⊢
 rw[h1]at h⊢
 rw[hw]
 generalize (Sc.start l).next=s at*
 split at h
 ·rename_i hc
  rw[if_pos hc]
  refine⟨_,rfl,?_⟩
  rw[Bool.and_eq_true]at hc
  obtain⟨hov,hok⟩:=hc
  refine⟨hok,?_⟩
  obtain⟨tb,tw⟩:=Dw hov
  clear hov h
  have hr:=kY w0
  generalize hk:aJ w0=k at hr
  by_cases k0:k=0
  ·subst k0
   rw[xz hk]at hok
   have hok:ar ⟨0,0,0,0,[]⟩=true:=hok
   exact absurd hok Ix
  have hkw:=s0 hk Iv
  rcases cq (k:=k) Iv Iv with e|e|e|e|e|e|e|e|e|e|e
  case inl|inr.inr.inr.inr.inr.inr.inl|inr.inr.inr.inr.inr.inr.inr.inl=>
   rw[r8 hk Iv]at tb tw⊢
   have g:=rz tb
   rw[mY _ Iv,hkw,<-h3,g.2,tw]
  case inr.inl|inr.inr.inr.inr.inr.inl=>
   rw[pg hk Iv]at tb tw⊢
   have g:=lT tb
   rw[fS _ Iv,hkw,<-h3,g.2,tw]
  case inr.inr.inl|inr.inr.inr.inl=>
   rw[ph hk Iv]at tb tw⊢
   have g:=rz tb
   have g1:=lT g.1
   rw[jt _ _ Iv,hkw,<-h3,g1.2,g.2,tw]
  case inr.inr.inr.inr.inr.inr.inr.inr.inl|inr.inr.inr.inr.inr.inr.inr.inr.inr.inl=>
   rw[r7 hk Iv]at tb tw⊢
   have g:=lT tb
   have g1:=lT g.1
   rw[mX _ _ Iv,hkw,<-h3,g1.2,g.2,tw]
  case inr.inr.inr.inr.inr.inr.inr.inr.inr.inr=>
   subst e
   rw[r9 hk]at tb tw⊢
   have g:=rz tb
   have g1:=rz g.1
   have g2:=rz g1.1
   rw[mZ,hkw,<-h3,g2.2,g1.2,g.2,tw]
  case inr.inr.inr.inr.inl=>
   subst e
   rw[gK hk]at tb tw hok⊢
   split at tb
   ·rename_i hn
    rw[if_pos hn]
    have g:=lT tb
    rw[gO,if_pos rfl,hkw,<-h3,g.2,hn]
   ·rename_i hn
    rw[if_neg hn]at tw hok⊢
    simp only at tb tw hok⊢
    obtain⟨ws1,b1,a1⟩:∃ws1 b1 a1,(aC s).2=⟨ws1,b1,a1⟩:=⟨_,_,_,rfl⟩
    obtain⟨a1,e2⟩:=a1
    cases ws1 with
    |nil=>exact absurd (by rw[e2]) hn
    |cons v ws1=>
     have hcur:(aC s).2.cur=v:=by rw[e2];rfl
     have hv:v≠ []:=by
      rintro rfl
      rw[cR,if_pos hcur]at tb
      cases tb
     rw[cR,if_neg (by rw[hcur];exact hv),e2]at tb tw
     have hb1:b1=false:=tb
     have hw1:ws1=[]:=tw
     have g:=lT (s:=s) (by rw[e2];exact hb1)
     have hfl:=(eW (aW hok).2.2.2.2.1).1
     have hlen:v.length<=121:=by
      simp only[hcur,fa,List.length_map,List.length_take]at hfl
      omega
     have hfo:fa v=v.map λb=>(b.toNat:Int)-48:=by unfold fa;rw[List.take_of_length_le hlen]
     rw[hcur,hfo,gO,if_neg (by simpa using hv),B0,hkw,<-h3,g.2,e2,hw1]
 ·cases h
end Go.Proofs.YtnlhpdbijmnkhaaGreatDoor
namespace Go.Proofs.YtnlhpdbijmnkhaaGreatDoor
open Go.Proofs.Tryz
open Go.RowKit
theorem nR{x:DStep}(h:ar x=true):∀w∈au x,(32:UInt8)∉w:=by
 have hF:=iF h
 cases hF with
 |num k a hk ha=>
  rw[mY a hk]
  intro w hw
  simp only[List.mem_cons,List.not_mem_nil,or_false]at hw
  rcases hw with rfl|rfl
  ·exact gi Iv
  ·exact iu ha.1
 |node k a hk ha=>
  rw[fS a hk]
  intro w hw
  simp only[List.mem_cons,List.not_mem_nil,or_false]at hw
  rcases hw with rfl|rfl
  ·exact gi Iv
  ·exact(aM ha).2.1
 |time k a b hk ha hb=>
  rw[jt a b hk]
  intro w hw
  simp only[List.mem_cons,List.not_mem_nil,or_false]at hw
  rcases hw with rfl|rfl|rfl
  ·exact gi Iv
  ·exact(aM ha).2.1
  ·exact iu hb.1
 |cut k a b hk ha hb=>
  rw[mX a b hk]
  intro w hw
  simp only[List.mem_cons,List.not_mem_nil,or_false]at hw
  rcases hw with rfl|rfl|rfl
  ·exact gi Iv
  ·exact(aM ha).2.1
  ·exact(aM hb).2.1
 |rot a b c ha hb hc=>
  rw[mZ a b c]
  intro w hw
  simp only[List.mem_cons,List.not_mem_nil,or_false]at hw
  rcases hw with rfl|rfl|rfl|rfl
  ·exact gi Iv
  ·exact iu ha.1
  ·exact iu hb.1
  ·exact iu hc.1
 |fall a f ha hf=>
  rw[gO a f]
  intro w hw
  split at hw
  ·simp only[List.mem_cons,List.not_mem_nil,or_false]at hw
   rcases hw with rfl|rfl
   ·exact gi Iv
   ·exact(aM ha).2.1
  ·simp only[List.mem_cons,List.not_mem_nil,or_false]at hw
   rcases hw with rfl|rfl|rfl
   ·exact gi Iv
   ·exact(aM ha).2.1
   ·exact BZ hf
theorem fV{k:Int}(h:1<=k/\k<=11):(ay k).length<=5:=by
 rcases cq h.1 h.2 with rfl|rfl|rfl|rfl|rfl|rfl|rfl|rfl|rfl|rfl|rfl<;>decide
theorem q9{x:Int}(h:0<=x/\x<=1000000000):(Lib.itoa x).length<=10:=Cd h.1 Iv Iv
theorem mw{x:DStep}(h:ar x=true):(aU 32 (au x)).length<=160:=by
 have hF:=iF h
 cases hF with
 |num k a hk ha=>
  rw[mY a hk]
  have a1:=fV (k:=k) Iv
  have a2:=q9 ha
  simp only[aU,List.length_append,List.length_cons]
  omega
 |node k a hk ha=>
  rw[fS a hk]
  have a1:=fV (k:=k) Iv
  have a2:=(aM ha).2.2
  simp only[aU,List.length_append,List.length_cons]
  omega
 |time k a b hk ha hb=>
  rw[jt a b hk]
  have a1:=fV (k:=k) Iv
  have a2:=(aM ha).2.2
  have a3:=q9 hb
  simp only[aU,List.length_append,List.length_cons]
  omega
 |cut k a b hk ha hb=>
  rw[mX a b hk]
  have a1:=fV (k:=k) Iv
  have a2:=(aM ha).2.2
  have a3:=(aM hb).2.2
  simp only[aU,List.length_append,List.length_cons]
  omega
 |rot a b c ha hb hc=>
  rw[mZ a b c]
  have a1:=fV (k:=11) Iv
  have a2:=q9 ha
  have a3:=q9 hb
  have a4:=q9 hc
  simp only[aU,List.length_append,List.length_cons]
  omega
 |fall a f ha hf=>
  rw[gO a f]
  have a1:=fV (k:=5) Iv
  have a2:=(aM ha).2.2
  have a3:=ic f
  have a4:=(eW hf).1
  split
  ·simp only[aU,List.length_append,List.length_cons]
   omega
  ·simp only[aU,List.length_append,List.length_cons]
   omega
theorem iv{x:Int}(h:0<=x/\x<=1000000000):Cq (Lib.itoa x)=x:=by
 rw[Cr (oZ h.1 h.2)];omega
theorem sV{x:DStep}(h:ar x=true):oC ((au x).getD 0 [])=x.kind/\1<=x.kind/\¬(au x).length<2/\eD x.kind (au x)=x:=by
 have hF:=iF h
 cases hF with
 |num k a hk ha=>
  rw[mY a hk]
  refine⟨(cZ (k:=k) Iv).2 rfl,show 1<=k by omega,by simp,?_⟩
  rcases hk with rfl|rfl|rfl<;>simp[eD,stA,stB,stC,stF,iv ha]
 |node k a hk ha=>
  rw[fS a hk]
  refine⟨(cZ (k:=k) Iv).2 rfl,show 1<=k by omega,by simp,?_⟩
  rcases hk with rfl|rfl<;>simp[eD,stA,stB,stC,stF,(aM ha).1]
 |time k a b hk ha hb=>
  rw[jt a b hk]
  refine⟨(cZ (k:=k) Iv).2 rfl,show 1<=k by omega,by simp,?_⟩
  rcases hk with rfl|rfl<;>simp[eD,stA,stB,stC,stF,atN,iv hb,(aM ha).1]
 |cut k a b hk ha hb=>
  rw[mX a b hk]
  refine⟨(cZ (k:=k) Iv).2 rfl,show 1<=k by omega,by simp,?_⟩
  rcases hk with rfl|rfl<;>simp[eD,stA,stB,stC,stF,(aM hb).1,(aM ha).1]
 |rot a b c ha hb hc=>
  rw[mZ a b c]
  refine⟨(cZ (k:=11) Iv).2 rfl,show(1:Int)<=11 by omega,by simp,?_⟩
  simp[eD,stA,stB,stC,stF,atN,iv ha,iv hb,iv hc]
 |fall a f ha hf=>
  rw[gO a f]
  refine⟨(cZ (k:=5) Iv).2 rfl,show(1:Int)<=5 by omega,by split<;>simp,?_⟩
  split
  ·rename_i e;subst e;simp[eD,stA,stB,stC,stF,(aM ha).1]
  ·simp only[eD,stA,stB,stC,stF]
   simp[(aM ha).1]
   exact w5 hf
theorem dp{x:DStep}(h:ar x=true):ap x=aU 32 (au x):=by
 unfold ap;rw[if_pos h,xQ]
theorem nQ(x:DStep):au x≠ []:=by simp[au]
theorem eE{x:DStep}{l:List UInt8}(h:ar x=true)(hw:aQ 32 l=au x):aq l=(x,true):=by
 have hj:aU 32 (au x)=l:=by rw[<-hw];exact ge 32 l
 have h160:=mw h
 rw[hj]at h160
 obtain⟨h1,h2,h3,h4⟩:=sV h
 unfold aq
 rw[hw,h1,if_neg Iv,if_neg Iv,h4,if_pos (by rw[dp h,hj])]
theorem lw{l:List UInt8}(h:(aq l).2=true):∃x,aq l=(x,true)/\ar x=true/\aQ 32 l=au x:=by
 unfold aq at h⊢
 split at h
 ·cases h
 ·rename_i c1
  rw[if_neg c1]
  split at h
  ·cases h
  ·rename_i c2
   rw[if_neg c2]
   split at h
   ·rename_i c3
    rw[if_pos c3]
    refine⟨_,rfl,?_⟩
    generalize eD (oC ((aQ 32 l).getD 0 [])) (aQ 32 l)=x at c3
    cases hok:ar x with
    |false=>
     exfalso
     have e:=fH.2 hok
     rw[c3]at e
     subst e
     exact c2 (.inr Ix)
    |true=>
     refine⟨rfl,?_⟩
     rw[<-c3,dp hok,m0 (nQ x) (nR hok)]
   ·cases h
theorem B8{l:List UInt8}(h:¬(bk l).2=true):bk l=(y7,false):=by
 unfold bk at h⊢
 split
 ·rename_i c;rw[if_pos c]at h;exact absurd rfl h
 ·rfl
theorem xu{l:List UInt8}(h:¬(aq l).2=true):aq l=(y7,false):=by
 unfold aq at h⊢
 split
 ·rfl
 ·rename_i c1
  rw[if_neg c1]at h
  split
  ·rfl
  ·rename_i c2
   rw[if_neg c2]at h
   split
   ·rename_i c;rw[if_pos c]at h;exact absurd rfl h
   ·rfl
theorem xL(l:List UInt8):bk l=aq l:=by
 by_cases hi:(bk l).2=true
 ·obtain⟨x,e,ok,hw⟩:=wK hi
  rw[e,eE ok hw]
 ·by_cases hs:(aq l).2=true
  ·obtain⟨x,e,ok,hw⟩:=lw hs
   rw[e,q4 ok hw]
  ·rw[B8 hi,xu hs]
end Go.Proofs.YtnlhpdbijmnkhaaGreatDoor
namespace Go.Proofs.YtnlhpdbijmnkhaaGreatDoor
open Go.Proofs.Tryz
open Go.RowKit
def uB(l:List UInt8)(y:DStep×Bool):Prop:=y.1.fates=[]/\a6 av 18 [.one (.d (dL l))] [] [] [] (.tup [iD y.1.kind y.1.a y.1.b y.1.c .nil,.one (.d (dB y.2))])
def uC(l:List UInt8)(y:DStep×Bool):Prop:=y.2=true/\y.1.fates.length<=120/\a6 av 18 [.one (.d (dL l))] [] [(901,.row 2 1 (y.1.fates.map eI))] [] (.tup [iD y.1.kind y.1.a y.1.b y.1.c (.own 901),.one (.d (dB true))])
theorem bQ{l:List UInt8}{k a b c:Int}{t:Sc}(e:cE (Sc.start l).cur (Sc.start l).next=(⟨k,a,b,c,[]⟩,t))
  (m:a6 av 18 [.one (.d (dL l))] [] [] [] (if t.over&&ar ⟨k,a,b,c,[]⟩then .tup [iD k a b c .nil,.one (.d (dB true))]else .tup [iD 0 0 0 0 .nil,.one (.d (dB false))])):uB l (bk l)\/uC l (bk l):=by
 refine .inl ?_
 unfold bk
 rw[e]
 simp only
 split
 ·rename_i h;rw[if_pos h]at m;exact⟨rfl,m⟩
 ·rename_i h;rw[if_neg h]at m;exact⟨rfl,m⟩
theorem xG{l:List UInt8}{k a b c:Int}{f:List Int}{t:Sc}(e:cE (Sc.start l).cur (Sc.start l).next=(⟨k,a,b,c,f⟩,t))
  (m : (t.over = true → ar ⟨k, a, b, c, f⟩ = true → a6 av 18 [.one (.d (dL l))] [] [(901, .row 2 1 (f.map eI))] [] (.tup [iD k a b c (.own 901), .one (.d (dB true))])) ∧
  ((t.over&&ar ⟨k,a,b,c,f⟩)=false->a6 av 18 [.one (.d (dL l))] [] [] [] (.tup [iD 0 0 0 0 .nil,.one (.d (dB false))]))):uB l (bk l)\/uC l (bk l):=by
 unfold bk
 rw[e]
 simp only
 split
 ·rename_i h
  rw[Bool.and_eq_true]at h
  exact .inr ⟨rfl,(eW (aW h.2).2.2.2.2.1).1,m.1 h.1 h.2⟩
 ·rename_i h
  exact .inl ⟨rfl,m.2 (by simpa using h)⟩
theorem bN{w0:List UInt8}{k:Int}(hk:aJ w0=k)(h:k≠5)(s:Sc):cE w0 s=(⟨k,(aH k s).a,(aH k s).b,(aH k s).c,[]⟩,(aH k s).s):=by
 unfold cE;rw[hk,if_neg h]
theorem wL(l:List UInt8)(hl:l.length<=2000000):uB l (bk l)\/uC l (bk l):=by
 have h0:=CQ hl
 have hr:=kY (Sc.start l).cur
 generalize hk:aJ (Sc.start l).cur=k at hr
 by_cases k0:k=0
 ·subst k0
  have sm:=DS _ h0 hk
  rw[dy]at sm
  exact bQ (bN hk Iv _) (bJ l _ _ _ _ _ sm)
 rcases cq (k:=k) Iv Iv with rfl|rfl|rfl|rfl|rfl|rfl|rfl|rfl|rfl|rfl|rfl
 case inr.inr.inr.inr.inl=>
  by_cases hd:(aC (Sc.start l).next).2.ws=[]
  ·have sm:=CV _ h0 hk hd
   rw[dy]at sm
   exact bQ (by rw[gK hk,if_pos hd]) (bJ l _ _ _ _ _ sm)
  ·have sm:=CW _ h0 hk hd
   rw[dy]at sm
   exact xG (by rw[gK hk,if_neg hd]) (vJ l _ _ _ _ _ _ sm)
 ·have sm:=DT _ h0 hk
  rw[dy]at sm
  exact bQ (bN hk Iv _) (bJ l _ _ _ _ _ sm)
 ·have sm:=DU _ h0 hk
  rw[dy]at sm
  exact bQ (bN hk Iv _) (bJ l _ _ _ _ _ sm)
 ·have sm:=DV _ h0 hk
  rw[dy]at sm
  exact bQ (bN hk Iv _) (bJ l _ _ _ _ _ sm)
 ·have sm:=DW _ h0 hk
  rw[dy]at sm
  exact bQ (bN hk Iv _) (bJ l _ _ _ _ _ sm)
 ·have sm:=DX _ h0 hk
  rw[dy]at sm
  exact bQ (bN hk Iv _) (bJ l _ _ _ _ _ sm)
 ·have sm:=DY _ h0 hk
  rw[dy]at sm
  exact bQ (bN hk Iv _) (bJ l _ _ _ _ _ sm)
 ·have sm:=DZ _ h0 hk
  rw[dy]at sm
  exact bQ (bN hk Iv _) (bJ l _ _ _ _ _ sm)
 ·have sm:=D0 _ h0 hk
  rw[dy]at sm
  exact bQ (bN hk Iv _) (bJ l _ _ _ _ _ sm)
 ·have sm:=CT _ h0 hk
  rw[dy]at sm
  exact bQ (bN hk Iv _) (bJ l _ _ _ _ _ sm)
 ·have sm:=CU _ h0 hk
  rw[dy]at sm
  exact bQ (bN hk Iv _) (bJ l _ _ _ _ _ sm)
end Go.Proofs.YtnlhpdbijmnkhaaGreatDoor
