/- J23 -/
import Derived.Test.YtehobfglmeiglaaGreatDoorWR
set_option linter.unusedVariables false
set_option linter.unusedSimpArgs false
set_option maxRecDepth 100000
namespace Go.Proofs.YtehobfglmeiglaaGreatDoor
open Go.Proofs.Tryz
open Go.ChangeShapes Go.WideShapes Go.RowKit
def iN:List (List Nat):=bk [0,1,129,0,4,324,0,7,0,9,649,0,12,221274373,911571296176105138479885,294128918731193309141147715]
def iX:List (List Nat):=bj 14 [4782942,4782943,4782946,1593620,1593647,1593728,4777136,4777865,4612382,4618943,4638626,177146,354293,885383]
theorem wo(b:DBook)(h:bd b=true):aj av 62 [.agg b.ds] (.val (pI (bO b))):=by
 have hn:(!bd b)=false:=by rw[h];rfl
 refine ae ah func62 rfl call62 ntmps62 (MC results62) λS=>?_;conv=>whnf
 repeat'((first|refine aw0 ?_|refine aw1 ?_|refine aw2 ?_|refine aw3 ?_|refine aw4 ?_|refine aw5 ?_|refine aw6 ?_|refine aw7 ?_|refine aw8 ?_|refine bT ?_|refine bF ?_|refine cP (np b) ?_|refine cP (nv b h) ?_|exact rr|refine And.intro rfl ?_|refine AB.mk (λh=>?_) (λh=>?_))<;>conv=>whnf)
theorem B2(n:DLogNode):aj av 164 [.agg n.ds] (.val (pI (n.book.base))):=by
 refine ae ah func164 rfl call164 ntmps164 (MC results164) λS=>?_;conv=>whnf
 repeat'((first|refine aw0 ?_|refine aw1 ?_|refine aw2 ?_|refine aw3 ?_|refine aw4 ?_|refine aw5 ?_|refine aw6 ?_|refine aw7 ?_|refine aw8 ?_|refine bT ?_|refine bF ?_|refine cP (dV _) ?_|exact rr|refine And.intro rfl ?_|refine AB.mk (λh=>?_) (λh=>?_))<;>conv=>whnf)
 all_goals simp
theorem B4(n:DLogNode):aj av 167 [.agg n.ds] (.val (pI (n.durable))):=by
 refine ae ah func167 rfl call167 ntmps167 (MC results167) λS=>?_;conv=>whnf
 repeat'((first|refine aw0 ?_|refine aw1 ?_|refine aw2 ?_|refine aw3 ?_|refine aw4 ?_|refine aw5 ?_|refine aw6 ?_|refine aw7 ?_|refine aw8 ?_|refine bT ?_|refine bF ?_|refine cP (dV _) ?_|exact rr|refine And.intro rfl ?_|refine AB.mk (λh=>?_) (λh=>?_))<;>conv=>whnf)
 all_goals simp
theorem B5(n:DLogNode):aj av 168 [.agg n.ds] (.val (pI (n.owe.length))):=by
 refine ae ah func168 rfl call168 ntmps168 (MC results168) λS=>?_;conv=>whnf
 repeat'((first|refine aw0 ?_|refine aw1 ?_|refine aw2 ?_|refine aw3 ?_|refine aw4 ?_|refine aw5 ?_|refine aw6 ?_|refine aw7 ?_|refine aw8 ?_|refine bT ?_|refine bF ?_|refine cP (dV _) ?_|exact rr|refine And.intro rfl ?_|refine AB.mk (λh=>?_) (λh=>?_))<;>conv=>whnf)
 all_goals simp
theorem B6(n:DLogNode):aj av 169 [.agg n.ds] (.val (pI (xd n.more))):=by
 refine ae ah func169 rfl call169 ntmps169 (MC results169) λS=>?_;conv=>whnf
 repeat'((first|refine aw0 ?_|refine aw1 ?_|refine aw2 ?_|refine aw3 ?_|refine aw4 ?_|refine aw5 ?_|refine aw6 ?_|refine aw7 ?_|refine aw8 ?_|refine bT ?_|refine bF ?_|refine cP (dV _) ?_|exact rr|refine And.intro rfl ?_|refine AB.mk (λh=>?_) (λh=>?_))<;>conv=>whnf)
 all_goals simp
theorem B3(n:DLogNode)(h:bd n.book=true):aj av 165 [.agg n.ds] (.val (pI (bO n.book))):=by
 refine ae ah func165 rfl call165 ntmps165 (MC results165) λS=>?_;conv=>whnf
 repeat'((first|refine aw0 ?_|refine aw1 ?_|refine aw2 ?_|refine aw3 ?_|refine aw4 ?_|refine aw5 ?_|refine aw6 ?_|refine aw7 ?_|refine aw8 ?_|refine bT ?_|refine bF ?_|refine cP (gn n.book h) ?_|exact rr|refine And.intro rfl ?_|refine AB.mk (λh=>?_) (λh=>?_))<;>conv=>whnf)
def xz(n:DLogNode):List Int:=[n.book.base,bO n.book,n.durable,n.owe.length,xd n.more]
theorem zC(n:DLogNode)(h:bd n.book=true):bC av 163 [.agg n.ds,.one (.sl [pF 164,pF 165,pF 167,pF 168,pF 169])] (.one (.sl ((xz n).map eI))):=by
 refine aE ah func163 rfl call163 ntmps163 (MC results163) λS=>?_;conv=>whnf
 repeat'((first|refine aw0 ?_|refine aw1 ?_|refine aw2 ?_|refine aw3 ?_|refine aw4 ?_|refine aw5 ?_|refine aw6 ?_|refine aw7 ?_|refine aw8 ?_|refine bT ?_|refine bF ?_|exact rr|refine And.intro rfl ?_|refine AB.mk (λh=>?_) (λh=>?_))<;>conv=>whnf)
 refine AWP.unroll 6 ?_
 conv=>whnf
 repeat'((first|refine aw0 ?_|refine aw1 ?_|refine aw2 ?_|refine aw3 ?_|refine aw4 ?_|refine aw5 ?_|refine aw6 ?_|refine aw7 ?_|refine aw8 ?_|refine bT ?_|refine bF ?_|refine AIx.at 0 _ rfl rfl ?_|refine AIx.at 1 _ rfl rfl ?_|refine AIx.at 2 _ rfl rfl ?_|refine AIx.at 3 _ rfl rfl ?_|refine AIx.at 4 _ rfl rfl ?_|refine AIx.at 5 _ rfl rfl ?_|refine AIx.at 6 _ rfl rfl ?_|refine cP (B2 n) ?_|refine cP (B3 n h) ?_|refine cP (B4 n) ?_|refine cP (B5 n) ?_|refine cP (B6 n) ?_|refine AW.i64 Mq Mq ?_|refine And.intro Mq ?_|refine And.intro Mr ?_|exact rr|refine And.intro rfl ?_|refine AB.mk (λh=>?_) (λh=>?_))<;>conv=>whnf)
 exact⟨_,_,(xz n).map eI,Nat.le_refl _,Fam.blank (lo:=S.w0.heap.size) (hi:=S.w0.heap.size) rfl,rfl,(λy hy=>by obtain⟨a,_,rfl⟩:=List.mem_map.1 hy;rfl),rfl⟩
def aM(w:DWorld):List Int:=if ay w&&br w 0 then xz w.log else []
theorem tz{w:DWorld}(h:ay w=true)(h0:br w 0=true):bd w.log.book=true:=by
 have:=wT h h0
 rw[gH]at this
 simp only[Bool.and_eq_true]at this
 exact(xA this.1.1.1).2.2.1
theorem pg(w:DWorld)(hs:DWorld.small 1048576 w):bC av 90 [.agg w.ds] (.one (.sl ((aM w).map eI))):=by
 cases h:(ay w&&br w 0)with
 |false=>
  have hn:(!(ay w&&br w 0))=true:=by rw[h];rfl
  have e:aM w=[]:=by simp[aM,h]
  rw[e]
  refine aE ah func90 rfl call90 ntmps90 (MC results90) λS=>?_;conv=>whnf
  repeat'((first|refine aw0 ?_|refine aw1 ?_|refine aw2 ?_|refine aw3 ?_|refine aw4 ?_|refine aw5 ?_|refine aw6 ?_|refine aw7 ?_|refine aw8 ?_|refine bT ?_|refine bF ?_|refine cP (bE w 0 Mq hs) ?_|exact rr|refine And.intro rfl ?_|refine AB.mk (λh=>?_) (λh=>?_))<;>conv=>whnf)
  all_goals rfl
 |true=>
  have hn:(!(ay w&&br w 0))=false:=by rw[h];rfl
  have e:aM w=xz w.log:=by simp[aM,h]
  rw[e]
  rw[Bool.and_eq_true]at h
  have hb:=tz h.1 h.2
  refine aE ah func90 rfl call90 ntmps90 (MC results90) λS=>?_;conv=>whnf
  repeat'((first|refine aw0 ?_|refine aw1 ?_|refine aw2 ?_|refine aw3 ?_|refine aw4 ?_|refine aw5 ?_|refine aw6 ?_|refine aw7 ?_|refine aw8 ?_|refine bT ?_|refine bF ?_|refine cP (bE w 0 Mq hs) ?_|exact rr|refine And.intro rfl ?_|refine AB.mk (λh=>?_) (λh=>?_))<;>conv=>whnf)
  refine aa.fresh (zC w.log hb) rfl rfl λR lo hi a b F=>?_
  conv=>whnf
  repeat'((first|refine aw0 ?_|refine aw1 ?_|refine aw2 ?_|refine aw3 ?_|refine aw4 ?_|refine aw5 ?_|refine aw6 ?_|refine aw7 ?_|refine aw8 ?_|refine bT ?_|refine bF ?_|exact rr|refine And.intro rfl ?_|refine AB.mk (λh=>?_) (λh=>?_))<;>conv=>whnf)
  exact⟨lo,hi,_,a,F,rfl⟩
theorem pN(w:DWorld)(hs:DWorld.small 1048576 w):aj av 17 [.agg w.ds] (.val (.one (.sl ((aM w).map eI)))):=by
 cases hw:ay w with
 |false=>
  have hn:(!ay w)=true:=by rw[hw];rfl
  have e:aM w=[]:=by simp[aM,hw]
  rw[e]
  refine ae ah func17 rfl call17 ntmps17 (MC results17) λS=>?_;conv=>whnf
  repeat'((first|refine aw0 ?_|refine aw1 ?_|refine aw2 ?_|refine aw3 ?_|refine aw4 ?_|refine aw5 ?_|refine aw6 ?_|refine aw7 ?_|refine aw8 ?_|refine bT ?_|refine bF ?_|refine cP (aF w hs) ?_|exact rr|refine And.intro rfl ?_|refine AB.mk (λh=>?_) (λh=>?_))<;>conv=>whnf)
  all_goals rfl
 |true=>
  have hn:(!ay w)=false:=by rw[hw];rfl
  have h6:=p4 hw
  cases hu:br w 0 with
  |false=>
   have hn2:(!br w 0)=true:=by rw[hu];rfl
   have e:aM w=[]:=by simp[aM,hu]
   rw[e]
   refine ae ah func17 rfl call17 ntmps17 (MC results17) λS=>?_;conv=>whnf
   repeat'((first|refine aw0 ?_|refine aw1 ?_|refine aw2 ?_|refine aw3 ?_|refine aw4 ?_|refine aw5 ?_|refine aw6 ?_|refine aw7 ?_|refine aw8 ?_|refine bT ?_|refine bF ?_|refine cP (aF w hs) ?_|refine AIx.at 0 _ rfl (bI h6 Mq) ?_|refine AIx.at 1 _ rfl (bI h6 Mq) ?_|exact rr|refine And.intro rfl ?_|refine AB.mk (λh=>?_) (λh=>?_))<;>conv=>whnf)
   all_goals rfl
  |true=>
   have hn2:(!br w 0)=false:=by rw[hu];rfl
   have hb:=tz hw hu
   have e:aM w=xz w.log:=by simp[aM,hw,hu]
   rw[e]
   refine ae ah func17 rfl call17 ntmps17 (MC results17) λS=>?_;conv=>whnf
   repeat'((first|refine aw0 ?_|refine aw1 ?_|refine aw2 ?_|refine aw3 ?_|refine aw4 ?_|refine aw5 ?_|refine aw6 ?_|refine aw7 ?_|refine aw8 ?_|refine bT ?_|refine bF ?_|refine cP (aF w hs) ?_|refine AIx.at 0 _ rfl (bI h6 Mq) ?_|refine AIx.at 1 _ rfl (bI h6 Mq) ?_|exact rr|refine And.intro rfl ?_|refine AB.mk (λh=>?_) (λh=>?_))<;>conv=>whnf)
   (refine AWP.drawK ah 4 14 iN iX Mp Mp Mp rfl ?_;conv=>whnf)
   repeat'((first|refine aw0 ?_|refine aw1 ?_|refine aw2 ?_|refine aw3 ?_|refine aw4 ?_|refine aw5 ?_|refine aw6 ?_|refine aw7 ?_|refine aw8 ?_|refine bT ?_|refine bF ?_|refine cP (wo w.log.book hb) ?_|refine cP (go _) ?_|exact rr|refine And.intro rfl ?_|refine AB.mk (λh=>?_) (λh=>?_))<;>conv=>whnf)
   all_goals(simp only[List.length_map];rfl)
end Go.Proofs.YtehobfglmeiglaaGreatDoor
namespace Go.Proofs.YtehobfglmeiglaaGreatDoor
open Go.Proofs.Tryz
open Go.ChangeShapes Go.WideShapes Go.RowKit
def dO:List (List Nat):=bk [0,1,0,3,259,0,6,454,33159,0,10,2325278261406892746,897173367646591930434]
def dP:List (List Nat):=bj 11 [177138,177139,176912,176921,176948,157706,157949,158678,160865,19682,39365]
theorem y4(b o:Nat)(w:World):Calls av.P 261 #[.pointer (some ⟨b,o,none⟩)] w λe w'=>e= .returned (.pointer (some ⟨b,o+31,none⟩))/\w'=w:=by
 show Calls Tryz.prog 261 _ w _
 go_enter Tryz.func261,Tryz.ntmps261
 go_wp2
 go_ret
 exact⟨rfl,rfl⟩
theorem y5(b o:Nat)(w:World):Calls av.P 262 #[.pointer (some ⟨b,o,none⟩)] w λe w'=>e= .returned (.pointer (some ⟨b,o+46,none⟩))/\w'=w:=by
 show Calls Tryz.prog 262 _ w _
 go_enter Tryz.func262,Tryz.ntmps262
 go_wp2
 go_ret
 exact⟨rfl,rfl⟩
theorem qV:aj av 184 [pI 2] (.val (.one (.pv (.func (.func 261) #[] #[])))):=by
 refine ae ah func184 rfl call184 ntmps184 (MC results184) λS=>?_;conv=>whnf
 repeat'((first|refine aw0 ?_|refine aw1 ?_|refine aw2 ?_|refine aw3 ?_|refine aw4 ?_|refine aw5 ?_|refine aw6 ?_|refine aw7 ?_|refine aw8 ?_|refine bT ?_|refine bF ?_|exact rr|refine And.intro rfl ?_|refine AB.mk (λh=>?_) (λh=>?_))<;>conv=>whnf)
theorem qW:aj av 184 [pI 3] (.val (.one (.pv (.func (.func 262) #[] #[])))):=by
 refine ae ah func184 rfl call184 ntmps184 (MC results184) λS=>?_;conv=>whnf
 repeat'((first|refine aw0 ?_|refine aw1 ?_|refine aw2 ?_|refine aw3 ?_|refine aw4 ?_|refine aw5 ?_|refine aw6 ?_|refine aw7 ?_|refine aw8 ?_|refine bT ?_|refine bF ?_|exact rr|refine And.intro rfl ?_|refine AB.mk (λh=>?_) (λh=>?_))<;>conv=>whnf)
theorem B7(s:DSched):aj av 185 [.agg s.ds] (.val (pI (s.seq))):=by
 refine ae ah func185 rfl call185 ntmps185 (MC results185) λS=>?_;conv=>whnf
 repeat'((first|refine aw0 ?_|refine aw1 ?_|refine aw2 ?_|refine aw3 ?_|refine aw4 ?_|refine aw5 ?_|refine aw6 ?_|refine aw7 ?_|refine aw8 ?_|refine bT ?_|refine bF ?_|refine cP (dV _) ?_|exact rr|refine And.intro rfl ?_|refine AB.mk (λh=>?_) (λh=>?_))<;>conv=>whnf)
theorem B8(s:DSched):aj av 186 [.agg s.ds] (.val (pI (xd s.busy))):=by
 refine ae ah func186 rfl call186 ntmps186 (MC results186) λS=>?_;conv=>whnf
 repeat'((first|refine aw0 ?_|refine aw1 ?_|refine aw2 ?_|refine aw3 ?_|refine aw4 ?_|refine aw5 ?_|refine aw6 ?_|refine aw7 ?_|refine aw8 ?_|refine bT ?_|refine bF ?_|refine cP (dV _) ?_|exact rr|refine And.intro rfl ?_|refine AB.mk (λh=>?_) (λh=>?_))<;>conv=>whnf)
theorem B9(s:DSched):aj av 187 [.agg s.ds] (.val (pI (s.view.jobs.index))):=by
 refine ae ah func187 rfl call187 ntmps187 (MC results187) λS=>?_;conv=>whnf
 repeat'((first|refine aw0 ?_|refine aw1 ?_|refine aw2 ?_|refine aw3 ?_|refine aw4 ?_|refine aw5 ?_|refine aw6 ?_|refine aw7 ?_|refine aw8 ?_|refine bT ?_|refine bF ?_|refine cP (dV _) ?_|exact rr|refine And.intro rfl ?_|refine AB.mk (λh=>?_) (λh=>?_))<;>conv=>whnf)
theorem Ca(s:DSched):aj av 188 [.agg s.ds] (.val (pI (s.index))):=by
 refine ae ah func188 rfl call188 ntmps188 (MC results188) λS=>?_;conv=>whnf
 repeat'((first|refine aw0 ?_|refine aw1 ?_|refine aw2 ?_|refine aw3 ?_|refine aw4 ?_|refine aw5 ?_|refine aw6 ?_|refine aw7 ?_|refine aw8 ?_|refine bT ?_|refine bF ?_|refine cP (dV _) ?_|exact rr|refine And.intro rfl ?_|refine AB.mk (λh=>?_) (λh=>?_))<;>conv=>whnf)
def fD(s:DSched):List Int:=[s.seq,xd s.busy,s.view.jobs.index,s.index]
theorem n3(s:DSched):bC av 183 [.agg s.ds,.one (.sl [pF 185,pF 186,pF 187,pF 188])] (.one (.sl ((fD s).map eI))):=by
 refine aE ah func183 rfl call183 ntmps183 (MC results183) λS=>?_;conv=>whnf
 repeat'((first|refine aw0 ?_|refine aw1 ?_|refine aw2 ?_|refine aw3 ?_|refine aw4 ?_|refine aw5 ?_|refine aw6 ?_|refine aw7 ?_|refine aw8 ?_|refine bT ?_|refine bF ?_|exact rr|refine And.intro rfl ?_|refine AB.mk (λh=>?_) (λh=>?_))<;>conv=>whnf)
 refine AWP.unroll 5 ?_
 conv=>whnf
 repeat'((first|refine aw0 ?_|refine aw1 ?_|refine aw2 ?_|refine aw3 ?_|refine aw4 ?_|refine aw5 ?_|refine aw6 ?_|refine aw7 ?_|refine aw8 ?_|refine bT ?_|refine bF ?_|refine AIx.at 0 _ rfl rfl ?_|refine AIx.at 1 _ rfl rfl ?_|refine AIx.at 2 _ rfl rfl ?_|refine AIx.at 3 _ rfl rfl ?_|refine AIx.at 4 _ rfl rfl ?_|refine AIx.at 5 _ rfl rfl ?_|refine AIx.at 6 _ rfl rfl ?_|refine cP (B7 s) ?_|refine cP (B8 s) ?_|refine cP (B9 s) ?_|refine cP (Ca s) ?_|refine AW.i64 Mq Mq ?_|refine And.intro Mq ?_|refine And.intro Mr ?_|exact rr|refine And.intro rfl ?_|refine AB.mk (λh=>?_) (λh=>?_))<;>conv=>whnf)
 exact⟨_,_,(fD s).map eI,Nat.le_refl _,Fam.blank (lo:=S.w0.heap.size) (hi:=S.w0.heap.size) rfl,rfl,(λy hy=>by obtain⟨a,_,rfl⟩:=List.mem_map.1 hy;rfl),rfl⟩
def ar(w:DWorld)(n:Int):List Int:=if n=2 then(if ay w&&br w 2 then fD w.left else [])else if n=3 then(if ay w&&br w 3 then fD w.right else [])else []
theorem ud{n:Int}(h2:n≠2)(h3:n≠3):dm n=false:=by simp[dm,h2,h3]
theorem e8(w:DWorld)(n:Int)(hs:DWorld.small 1048576 w):bC av 92 [.agg w.ds,pI n] (.one (.sl ((ar w n).map eI))):=by
 by_cases h2:n=2
 ·subst h2
  cases h:(ay w&&br w 2)with
  |false=>
   have hn:(!(ay w&&br w 2))=true:=by rw[h];rfl
   have e:ar w 2=[]:=by simp[ar,h]
   rw[e]
   refine aE ah func92 rfl call92 ntmps92 (MC results92) λS=>?_;conv=>whnf
   repeat'((first|refine aw0 ?_|refine aw1 ?_|refine aw2 ?_|refine aw3 ?_|refine aw4 ?_|refine aw5 ?_|refine aw6 ?_|refine aw7 ?_|refine aw8 ?_|refine bT ?_|refine bF ?_|refine cP (aU 2) ?_|refine cP (bE w 2 Mq hs) ?_|exact rr|refine And.intro rfl ?_|refine AB.mk (λh=>?_) (λh=>?_))<;>conv=>whnf)
   all_goals rfl
  |true=>
   have hn:(!(ay w&&br w 2))=false:=by rw[h];rfl
   have e:ar w 2=fD w.left:=by simp[ar,h]
   rw[e]
   refine aE ah func92 rfl call92 ntmps92 (MC results92) λS=>?_;conv=>whnf
   repeat'((first|refine aw0 ?_|refine aw1 ?_|refine aw2 ?_|refine aw3 ?_|refine aw4 ?_|refine aw5 ?_|refine aw6 ?_|refine aw7 ?_|refine aw8 ?_|refine bT ?_|refine bF ?_|refine cP (aU 2) ?_|refine cP (bE w 2 Mq hs) ?_|refine cP (qV) ?_|refine aa.refOff 31 call261 y4 ?_|exact rr|refine And.intro rfl ?_|refine AB.mk (λh=>?_) (λh=>?_))<;>conv=>whnf)
   refine aa.fresh (n3 w.left) rfl rfl λR lo hi a b F=>?_
   conv=>whnf
   repeat'((first|refine aw0 ?_|refine aw1 ?_|refine aw2 ?_|refine aw3 ?_|refine aw4 ?_|refine aw5 ?_|refine aw6 ?_|refine aw7 ?_|refine aw8 ?_|refine bT ?_|refine bF ?_|exact rr|refine And.intro rfl ?_|refine AB.mk (λh=>?_) (λh=>?_))<;>conv=>whnf)
   exact⟨lo,hi,_,a,F,rfl⟩
 ·by_cases h3:n=3
  ·subst h3
   cases h:(ay w&&br w 3)with
   |false=>
    have hn:(!(ay w&&br w 3))=true:=by rw[h];rfl
    have e:ar w 3=[]:=by simp[ar,h]
    rw[e]
    refine aE ah func92 rfl call92 ntmps92 (MC results92) λS=>?_;conv=>whnf
    repeat'((first|refine aw0 ?_|refine aw1 ?_|refine aw2 ?_|refine aw3 ?_|refine aw4 ?_|refine aw5 ?_|refine aw6 ?_|refine aw7 ?_|refine aw8 ?_|refine bT ?_|refine bF ?_|refine cP (aU 3) ?_|refine cP (bE w 3 Mq hs) ?_|exact rr|refine And.intro rfl ?_|refine AB.mk (λh=>?_) (λh=>?_))<;>conv=>whnf)
    all_goals rfl
   |true=>
    have hn:(!(ay w&&br w 3))=false:=by rw[h];rfl
    have e:ar w 3=fD w.right:=by simp[ar,h]
    rw[e]
    refine aE ah func92 rfl call92 ntmps92 (MC results92) λS=>?_;conv=>whnf
    repeat'((first|refine aw0 ?_|refine aw1 ?_|refine aw2 ?_|refine aw3 ?_|refine aw4 ?_|refine aw5 ?_|refine aw6 ?_|refine aw7 ?_|refine aw8 ?_|refine bT ?_|refine bF ?_|refine cP (aU 3) ?_|refine cP (bE w 3 Mq hs) ?_|refine cP (qW) ?_|refine aa.refOff 46 call262 y5 ?_|exact rr|refine And.intro rfl ?_|refine AB.mk (λh=>?_) (λh=>?_))<;>conv=>whnf)
    refine aa.fresh (n3 w.right) rfl rfl λR lo hi a b F=>?_
    conv=>whnf
    repeat'((first|refine aw0 ?_|refine aw1 ?_|refine aw2 ?_|refine aw3 ?_|refine aw4 ?_|refine aw5 ?_|refine aw6 ?_|refine aw7 ?_|refine aw8 ?_|refine bT ?_|refine bF ?_|exact rr|refine And.intro rfl ?_|refine AB.mk (λh=>?_) (λh=>?_))<;>conv=>whnf)
    exact⟨lo,hi,_,a,F,rfl⟩
  ·have hn:(!dm n)=true:=by rw[ud h2 h3];rfl
   have e:ar w n=[]:=by simp[ar,h2,h3]
   rw[e]
   refine aE ah func92 rfl call92 ntmps92 (MC results92) λS=>?_;conv=>whnf
   repeat'((first|refine aw0 ?_|refine aw1 ?_|refine aw2 ?_|refine aw3 ?_|refine aw4 ?_|refine aw5 ?_|refine aw6 ?_|refine aw7 ?_|refine aw8 ?_|refine bT ?_|refine bF ?_|refine cP (aU n) ?_|exact rr|refine And.intro rfl ?_|refine AB.mk (λh=>?_) (λh=>?_))<;>conv=>whnf)
   all_goals rfl
theorem fd(w:DWorld)(n:Int)(hs:DWorld.small 1048576 w):aj av 19 [.agg w.ds,pI n] (.val (.one (.sl ((ar w n).map eI)))):=by
 by_cases h2:n=2
 ·subst h2
  cases h:(ay w&&br w 2)with
  |false=>
   have hn:(!(ay w&&br w 2))=true:=by rw[h];rfl
   have e:ar w 2=[]:=by simp[ar,h]
   rw[e]
   refine ae ah func19 rfl call19 ntmps19 (MC results19) λS=>?_;conv=>whnf
   repeat'((first|refine aw0 ?_|refine aw1 ?_|refine aw2 ?_|refine aw3 ?_|refine aw4 ?_|refine aw5 ?_|refine aw6 ?_|refine aw7 ?_|refine aw8 ?_|refine bT ?_|refine bF ?_|refine cP (ca 2) ?_|refine cP (ig w 2 Mq hs) ?_|exact rr|refine And.intro rfl ?_|refine AB.mk (λh=>?_) (λh=>?_))<;>conv=>whnf)
   all_goals rfl
  |true=>
   have hn:(!(ay w&&br w 2))=false:=by rw[h];rfl
   have e:ar w 2=fD w.left:=by simp[ar,h]
   rw[e]
   refine ae ah func19 rfl call19 ntmps19 (MC results19) λS=>?_;conv=>whnf
   repeat'((first|refine aw0 ?_|refine aw1 ?_|refine aw2 ?_|refine aw3 ?_|refine aw4 ?_|refine aw5 ?_|refine aw6 ?_|refine aw7 ?_|refine aw8 ?_|refine bT ?_|refine bF ?_|refine cP (ca 2) ?_|refine cP (ig w 2 Mq hs) ?_|exact rr|refine And.intro rfl ?_|refine AB.mk (λh=>?_) (λh=>?_))<;>conv=>whnf)
   (refine AWP.drawK ah 6 11 dO dP Mp Mp Mp rfl ?_;conv=>whnf)
   repeat'((first|refine aw0 ?_|refine aw1 ?_|refine aw2 ?_|refine aw3 ?_|refine aw4 ?_|refine aw5 ?_|refine aw6 ?_|refine aw7 ?_|refine aw8 ?_|refine bT ?_|refine bF ?_|refine cP (go _) ?_|exact rr|refine And.intro rfl ?_|refine AB.mk (λh=>?_) (λh=>?_))<;>conv=>whnf)
   all_goals rfl
   all_goals rfl
 ·by_cases h3:n=3
  ·subst h3
   cases h:(ay w&&br w 3)with
   |false=>
    have hn:(!(ay w&&br w 3))=true:=by rw[h];rfl
    have e:ar w 3=[]:=by simp[ar,h]
    rw[e]
    refine ae ah func19 rfl call19 ntmps19 (MC results19) λS=>?_;conv=>whnf
    repeat'((first|refine aw0 ?_|refine aw1 ?_|refine aw2 ?_|refine aw3 ?_|refine aw4 ?_|refine aw5 ?_|refine aw6 ?_|refine aw7 ?_|refine aw8 ?_|refine bT ?_|refine bF ?_|refine cP (ca 3) ?_|refine cP (ig w 3 Mq hs) ?_|exact rr|refine And.intro rfl ?_|refine AB.mk (λh=>?_) (λh=>?_))<;>conv=>whnf)
    all_goals rfl
   |true=>
    have hn:(!(ay w&&br w 3))=false:=by rw[h];rfl
    have e:ar w 3=fD w.right:=by simp[ar,h]
    rw[e]
    refine ae ah func19 rfl call19 ntmps19 (MC results19) λS=>?_;conv=>whnf
    repeat'((first|refine aw0 ?_|refine aw1 ?_|refine aw2 ?_|refine aw3 ?_|refine aw4 ?_|refine aw5 ?_|refine aw6 ?_|refine aw7 ?_|refine aw8 ?_|refine bT ?_|refine bF ?_|refine cP (ca 3) ?_|refine cP (ig w 3 Mq hs) ?_|exact rr|refine And.intro rfl ?_|refine AB.mk (λh=>?_) (λh=>?_))<;>conv=>whnf)
    (refine AWP.drawK ah 6 11 dO dP Mp Mp Mp rfl ?_;conv=>whnf)
    repeat'((first|refine aw0 ?_|refine aw1 ?_|refine aw2 ?_|refine aw3 ?_|refine aw4 ?_|refine aw5 ?_|refine aw6 ?_|refine aw7 ?_|refine aw8 ?_|refine bT ?_|refine bF ?_|refine cP (go _) ?_|exact rr|refine And.intro rfl ?_|refine AB.mk (λh=>?_) (λh=>?_))<;>conv=>whnf)
    all_goals rfl
  ·have hn:(!dm n)=true:=by rw[ud h2 h3];rfl
   have e:ar w n=[]:=by simp[ar,h2,h3]
   rw[e]
   refine ae ah func19 rfl call19 ntmps19 (MC results19) λS=>?_;conv=>whnf
   repeat'((first|refine aw0 ?_|refine aw1 ?_|refine aw2 ?_|refine aw3 ?_|refine aw4 ?_|refine aw5 ?_|refine aw6 ?_|refine aw7 ?_|refine aw8 ?_|refine bT ?_|refine bF ?_|refine cP (ca n) ?_|exact rr|refine And.intro rfl ?_|refine AB.mk (λh=>?_) (λh=>?_))<;>conv=>whnf)
   all_goals rfl
end Go.Proofs.YtehobfglmeiglaaGreatDoor
