/- J22 -/
import Derived.Test.YtehobfglmeiglaaGreatDoorJ21
import Derived.Test.YtehobfglmeiglaaGreatDoorAvEnv
import Derived.Test.YtehobfglmeiglaaGreatDoorJ03
import Derived.Test.YtehobfglmeiglaaGreatDoorJ20
import Derived.Test.YtehobfglmeiglaaGreatDoorShelf
set_option linter.unusedVariables false
set_option linter.unusedSimpArgs false
set_option maxRecDepth 100000
namespace Go.Proofs.YtehobfglmeiglaaGreatDoor
open Go.Proofs.Tryz
open Go.RowKit
abbrev AG:AO:= .cells 133 [.d (.pv (.pointer none)),.nil]
abbrev sM(id row:Nat):AO:= .cells 133 [.ref id 0 0 0,.own row]
abbrev yn(xs:List (List AD)):AO:= .row 5 1 xs
theorem xl:eN av 89 [.one (.ref 1000 0 0 0)] [(1000,AG)] [(1000,.cells 133 [.ref 1000 0 0 0,.nil])] [1000] (.tup []):=by
 refine eN.of_upd (id:=1000) call89 rfl λZ w ρ us hws ho hl hr=>?_
 obtain⟨b,cs,hp,hg,hcl,hc⟩:=ho
 obtain⟨u,rfl⟩:=List.length_eq_one_iff.1 hl
 obtain⟨b',hb',rfl⟩:=tU (hr 0 _ _ rfl rfl)
 rw[hp]at hb'
 injection hb' with hb'
 subst hb'
 match cs,hcl with
 |[u0,u1],_=>
  have h0:u0= .pointer none:=xI (hc 0 _ _ rfl rfl)
  have h1:=hc 1 _ _ rfl rfl
  subst h0
  have:=ku b w (by rw[Lib.cell_of_heap hg];rfl) (by simp[World.shape?,hg]) (Lib.frozen_of_heap hg 0)
  refine this.mono ?_
  rintro e w' ⟨rfl,rfl⟩
  refine⟨_,b,rfl,by rw[hp];rfl,Lib.grownBy_setCell w b 0 _,⟨b,_,hp,ow hg,rfl,λi c u hx hu=>?_⟩,.tup _ [] rfl Mr⟩
  match i with
  |0=>simp at hx hu;subst hx hu;exact⟨b,by rw[hp];rfl,rfl⟩
  |1=>simp at hx hu;subst hx hu;exact h1
  |i+2=>simp at hx
theorem xm(xs:List (List AD)):eN av 89 [.one (.ref 1000 0 0 0)] [(1000,sM 1000 1001),(1001,yn xs)] [(1000,sM 1000 1001),(1001,yn xs)] [1000,1001] (.tup []):=by
 refine eN.of_same call89 λZ w ρ us hws hl hr=>?_
 obtain⟨b,cs,hp,hg,hcl,hc⟩:=hws.obj 1000 _ rfl
 obtain⟨u,rfl⟩:=List.length_eq_one_iff.1 hl
 obtain⟨b',hb',rfl⟩:=tU (hr 0 _ _ rfl rfl)
 rw[hp]at hb'
 injection hb' with hb'
 subst hb'
 match cs,hcl with
 |[u0,u1],_=>
  obtain⟨b2,hb2,h0⟩:=hc 0 _ _ rfl rfl
  rw[hp]at hb2
  injection hb2 with hb2
  subst hb2
  subst h0
  refine(lP b w (by rw[Lib.cell_of_heap hg];rfl)).mono ?_
  rintro e w' ⟨rfl,rfl⟩
  exact⟨_,rfl,⟨rfl,rfl,rfl,Nat.le_refl _,λ_ _ _=>rfl⟩,.tup _ [] rfl Mr⟩
theorem mN(s:ByteArray)(hs:s.size<=140737488355328):eN av 33 [.one (.ref 1000 0 0 0),.one (.d (dS s))] [(1000,AG)] [(1000,sM 1000 14),(14,yn (bq s))] [1000] (.tup [.one (.d (dI s.size)),.one (.d (.pv .nilIface))]):=by
 refine tE ah func33 rfl call33 ntmps33 (MC results33) rfl λS pv=>?_;conv=>whnf
 repeat'((first|refine aw0 ?_|refine aw1 ?_|refine aw2 ?_|refine aw3 ?_|refine aw4 ?_|refine aw5 ?_|refine aw6 ?_|refine aw7 ?_|refine aw8 ?_|refine aa.meth xl [(1000,1000)] rfl rfl ?_|refine And.intro hs ?_|refine bT ?_|refine bF ?_|exact rr|refine And.intro rfl ?_|refine AB.mk (λh=>?_) (λh=>?_))<;>conv=>whnf)
theorem bA(xs:List (List AD))(s:ByteArray)(hs:xs.length+s.size<=140737488355328):eN av 33 [.one (.ref 1000 0 0 0),.one (.d (dS s))] [(1000,sM 1000 1001),(1001,yn xs)] [(1000,sM 1000 1001),(1001,yn (xs++bq s))] [1000] (.tup [.one (.d (dI s.size)),.one (.d (.pv .nilIface))]):=by
 refine tE ah func33 rfl call33 ntmps33 (MC results33) rfl λS pv=>?_;conv=>whnf
 repeat'((first|refine aw0 ?_|refine aw1 ?_|refine aw2 ?_|refine aw3 ?_|refine aw4 ?_|refine aw5 ?_|refine aw6 ?_|refine aw7 ?_|refine aw8 ?_|refine aa.meth (xm xs) [(1000,1000),(1001,1001)] rfl rfl ?_|refine And.intro hs ?_|refine bT ?_|refine bF ?_|exact rr|refine And.intro rfl ?_|refine AB.mk (λh=>?_) (λh=>?_))<;>conv=>whnf)
end Go.Proofs.YtehobfglmeiglaaGreatDoor
namespace Go.Proofs.YtehobfglmeiglaaGreatDoor
open Go.Proofs.Tryz
open Go.RowKit
theorem s9(w:World)(g n:Nat):w.grownBy (w.drew.freeze ⟨g,0,none⟩ n) (some g):=by
 by_cases hn:n=0
 ·subst hn;exact⟨rfl,rfl,rfl,Nat.le_refl _,λ_ _ _=>rfl⟩
 ·have e:w.drew.freeze ⟨g,0,none⟩ n={w.drew with heap:=w.heap.modify g fun| .cells c elem (lo,hi)=> .cells c elem (if lo==hi then(0,0+n)else(min lo 0,max hi (0+n)))|o=>o}:=by
   unfold World.freeze;rw[if_neg hn];rfl
  rw[e]
  refine⟨rfl,rfl,rfl,by simp,λk hk hne=>?_⟩
  have:g≠k:=λe=>hne (by rw[e])
  simp[Array.getElem?_modify,this]
set_option maxHeartbeats 1000000 in
theorem By(b g cap:Nat)(l:List UInt8)(u0:Value)(w:World)(h0:l≠ [])(hbk:w.heap[b]? =some (.cells #[u0,.slice (some ⟨g,0,none⟩) l.length cap] 133 (0,0)))
  (hown:w.ownsRow 0 5 1 (.slice (some ⟨g,0,none⟩) l.length cap) l.length (Lib.byteCells l)):
  Calls Tryz.prog 36 #[.pointer (some ⟨b,0,none⟩)] w λe w'=>e= .returned (.string ⟨l.toArray⟩)/\w'=w.drew.freeze ⟨g,0,none⟩ l.length:=by
 have hl0:l.length≠0:=by simpa using h0
 have h2:=hown.2
 rcases h2 with⟨h3,_⟩|⟨g',cap',cur,hv,_,hg,hnc,hcm,hcs,htake⟩
 ·cases h3
 injection hv with hv1 hv2 hv3
 injection hv1 with hv1
 injection hv1 with hv1
 subst hv1 hv3
 have mixed:Tryz.prog.follows .mixedOrders=true:=by kernel_rfl
 have c1:w.drew.cell? ⟨b,1,none⟩=some (.slice (some ⟨g,0,none⟩) l.length cap):=by
  have:w.drew.heap[b]? =_:=hbk
  rw[Lib.cell_of_heap this];rfl
 have hSD:(Builtin.unsafeSliceData_ #[131] 190 #[.slice (some ⟨g,0,none⟩) l.length cap]).run Tryz.prog w.drew= .ok (.pointer (some ⟨g,0,none⟩)) w.drew:=Lib.run_unsafeSliceData_row _ _ _ _ _ _ Mo
 have hUS:(Builtin.unsafeString_ #[190,3] 9 #[.pointer (some ⟨g,0,none⟩),.int .i64 l.length]).run Tryz.prog w.drew= .ok (.string ⟨l.toArray⟩) (w.drew.freeze ⟨g,0,none⟩ l.length):=by
  refine Lib.run_unsafeString_row w.drew 190 3 9 5 underlying190 Mp g cur.size (by have hg':w.drew.heap[g]? =_:=hg;simp[World.shape?,hg']) l h0 (by simp at hcs;omega) (by unfold maxLen at hcm;omega) ?_
  intro j x hx
  exact hown.cells (g:=g) rfl j (.int .u8 x.toNat) (by simp[Lib.byteCells,hx])
 go_enter Tryz.func36,Tryz.ntmps36
 go_wp2
 go_region_o
 all_goals(go_wp2;go_ret;exact⟨rfl,rfl⟩)
theorem Ds(l:List UInt8)(h0:l≠ []):eN av 36 [.one (.ref 1000 0 0 0)] [(1000,sM 1000 1001),(1001,yn (bq ⟨l.toArray⟩))] [(1000,.cells 133 [.ref 1000 0 0 0,.dead]),(1001,.frame [] [])] [] (.val (.one (.d (dL l)))):=by
 refine eN.of_gone (id:=1001) (o:=yn (bq ⟨l.toArray⟩)) call36 rfl λZ w ρ us hws hl hr=>?_
 obtain⟨b,cs,hp,hg,hcl,hc⟩:=hws.obj 1000 _ rfl
 obtain⟨ux,hs0,hxl,hxx,hxu,hown,hxd⟩:=hws.obj 1001 _ rfl
 obtain⟨u,rfl⟩:=List.length_eq_one_iff.1 hl
 obtain⟨b',hb',rfl⟩:=tU (hr 0 _ _ rfl rfl)
 rw[hp]at hb'
 injection hb' with hb'
 subst hb'
 match cs,hcl with
 |[u0,u1],_=>
  have h1:u1=ρ 1001:=(hc 1 _ _ rfl rfl).1
  subst h1
  have hlen:(bq ⟨l.toArray⟩).length=l.length:=by simp[bq]
  have hux:ux.flatten=Lib.byteCells l:=by
   have:ux=l.map λb=>[Value.int .u8 b.toNat]:=by
    apply List.ext_getElem?
    intro i
    rw[List.getElem?_map]
    cases hd:l[i]? with
    |none=>rw[List.getElem?_eq_none];rfl;rw[hxl,hlen];exact List.getElem?_eq_none_iff.1 hd
    |some n=>
     have hlt:i<ux.length:=by rw[hxl,hlen];exact(List.getElem?_eq_some_iff.1 hd).1
     rw[List.getElem?_eq_getElem hlt]
     have hx:(bq ⟨l.toArray⟩)[i]? =some [.pv (.int .u8 n.toNat)]:=by simp[bq,hd]
     have hu:=hxu ux[i] (List.getElem_mem hlt)
     obtain⟨y,hy⟩:=List.length_eq_one_iff.1 hu
     have:=xI (hxd i 0 _ _ _ y hx (List.getElem?_eq_getElem hlt) rfl (by rw[hy];rfl))
     simp[hy,this]
   rw[this]
   exact sV (λb:UInt8=>Value.int .u8 b.toNat) l
  rw[hux,hlen]at hown
  have hl0:l.length≠0:=by simpa using h0
  rcases hown.2 with⟨_,hn⟩|⟨g,cap,cur,hv,_⟩
  ·exact absurd hn hl0
  ·rw[hv]at hg hown
   refine(By b g cap l u0 w h0 hg hown).mono ?_
   rintro e w' ⟨rfl,rfl⟩
   refine⟨_,rfl,?_,λρ'=> .one _ _ (show bl Z _ (.pv _) _ from .pv _ rfl)⟩
   rw[hv]
   exact s9 w g l.length
end Go.Proofs.YtehobfglmeiglaaGreatDoor
