/- AvJ5 -/
import Derived.Test.YtnlhpdbijmnkhaaGreatDoorAvJ4
import Derived.Test.YtnlhpdbijmnkhaaGreatDoorAvEnv
import Derived.Test.YtnlhpdbijmnkhaaGreatDoorJ03
import Derived.Test.YtnlhpdbijmnkhaaGreatDoorJ20
import Derived.Test.YtnlhpdbijmnkhaaGreatDoorShelf
import Derived.Test.YtnlhpdbijmnkhaaGreatDoorWords
import Derived.Test.YtnlhpdbijmnkhaaGreatDoorJ22
import Derived.Test.YtnlhpdbijmnkhaaGreatDoorShelfB
import Derived.Defers
import Derived.Lib.BufferOwn
import Derived.Lib.Hide
import Derived.Lib.AtoiErrMem
import Derived.LoopN
set_option linter.unusedVariables false
set_option linter.unusedSimpArgs false
set_option maxRecDepth 100000
namespace Go.Proofs.YtnlhpdbijmnkhaaGreatDoor
open Go.Proofs.Tryz
open Go.RowKit
abbrev qL:AO:= .cells 91 [.d (.pv (.pointer none)),.nil]
abbrev qM(id row:Nat):AO:= .cells 91 [.ref id 0 0 0,.own row]
abbrev we(xs:List (List AD)):AO:= .row 5 1 xs
theorem uW:a6 av 30 [.one (.ref 1000 0 0 0)] [(1000,qL)] [(1000,.cells 91 [.ref 1000 0 0 0,.nil])] [1000] (.tup []):=by
 refine a6.of_upd (id:=1000) call30 rfl λZ w ρ us hws ho hl hr=>?_
 obtain⟨b,cs,hp,hg,hcl,hc⟩:=ho
 obtain⟨u,rfl⟩:=List.length_eq_one_iff.1 hl
 obtain⟨b',hb',rfl⟩:=lm (hr 0 _ _ rfl rfl)
 rw[hp]at hb'
 injection hb' with hb'
 subst hb'
 match cs,hcl with
 |[u0,u1],_=>
  have h0:u0= .pointer none:=mU (hc 0 _ _ rfl rfl)
  have h1:=hc 1 _ _ rfl rfl
  subst h0
  have:=jB b w (by rw[Lib.cell_of_heap hg];rfl) (by simp[World.shape?,hg]) (Lib.frozen_of_heap hg 0)
  refine this.mono ?_
  rintro e w' ⟨rfl,rfl⟩
  refine⟨_,b,rfl,by rw[hp];rfl,Lib.grownBy_setCell w b 0 _,⟨b,_,hp,cp hg,rfl,λi c u hx hu=>?_⟩,.tup _ [] rfl Iy⟩
  match i with
  |0=>simp at hx hu;subst hx hu;exact⟨b,by rw[hp];rfl,rfl⟩
  |1=>simp at hx hu;subst hx hu;exact h1
  |i+2=>simp at hx
theorem uX(xs:List (List AD)):a6 av 30 [.one (.ref 1000 0 0 0)] [(1000,qM 1000 1001),(1001,we xs)] [(1000,qM 1000 1001),(1001,we xs)] [1000,1001] (.tup []):=by
 refine a6.of_same call30 λZ w ρ us hws hl hr=>?_
 obtain⟨b,cs,hp,hg,hcl,hc⟩:=hws.obj 1000 _ rfl
 obtain⟨u,rfl⟩:=List.length_eq_one_iff.1 hl
 obtain⟨b',hb',rfl⟩:=lm (hr 0 _ _ rfl rfl)
 rw[hp]at hb'
 injection hb' with hb'
 subst hb'
 match cs,hcl with
 |[u0,u1],_=>
  obtain⟨b2,hb2,h0⟩:=hc 0 _ _ rfl rfl
  rw[hp]at hb2
  injection hb2 with hb2
  subst hb2
  subst h0
  refine(kF b w (by rw[Lib.cell_of_heap hg];rfl)).mono ?_
  rintro e w' ⟨rfl,rfl⟩
  exact⟨_,rfl,⟨rfl,rfl,rfl,Nat.le_refl _,λ_ _ _=>rfl⟩,.tup _ [] rfl Iy⟩
theorem sD(s:ByteArray)(hs:s.size<=140737488355328):a6 av 15 [.one (.ref 1000 0 0 0),.one (.d (dS s))] [(1000,qL)] [(1000,qM 1000 14),(14,we (cD s))] [1000] (.tup [.one (.d (dI s.size)),.one (.d (.pv .nilIface))]):=by
 refine aL aj func15 rfl call15 ntmps15 (IG results15) rfl λS pv=>?_;conv=>whnf
 repeat'((first|refine aw0 ?_|refine aw1 ?_|refine aw2 ?_|refine aw3 ?_|refine aw4 ?_|refine aw5 ?_|refine aw6 ?_|refine aw7 ?_|refine aw8 ?_|refine aa.meth uW [(1000,1000)] rfl rfl ?_|refine And.intro hs ?_|refine bT ?_|refine bF ?_|exact rr|refine And.intro rfl ?_|refine AB.mk (λh=>?_) (λh=>?_))<;>conv=>whnf)
theorem sE(xs:List (List AD))(s:ByteArray)(hs:xs.length+s.size<=140737488355328):a6 av 15 [.one (.ref 1000 0 0 0),.one (.d (dS s))] [(1000,qM 1000 1001),(1001,we xs)] [(1000,qM 1000 1001),(1001,we (xs++cD s))] [1000] (.tup [.one (.d (dI s.size)),.one (.d (.pv .nilIface))]):=by
 refine aL aj func15 rfl call15 ntmps15 (IG results15) rfl λS pv=>?_;conv=>whnf
 repeat'((first|refine aw0 ?_|refine aw1 ?_|refine aw2 ?_|refine aw3 ?_|refine aw4 ?_|refine aw5 ?_|refine aw6 ?_|refine aw7 ?_|refine aw8 ?_|refine aa.meth (uX xs) [(1000,1000),(1001,1001)] rfl rfl ?_|refine And.intro hs ?_|refine bT ?_|refine bF ?_|exact rr|refine And.intro rfl ?_|refine AB.mk (λh=>?_) (λh=>?_))<;>conv=>whnf)
end Go.Proofs.YtnlhpdbijmnkhaaGreatDoor
namespace Go.Proofs.YtnlhpdbijmnkhaaGreatDoor
open Go.Proofs.Tryz
open Go.RowKit
theorem qZ(w:World)(g n:Nat):w.grownBy (w.drew.freeze ⟨g,0,none⟩ n) (some g):=by
 by_cases hn:n=0
 ·subst hn;exact⟨rfl,rfl,rfl,Nat.le_refl _,λ_ _ _=>rfl⟩
 ·have e:w.drew.freeze ⟨g,0,none⟩ n={w.drew with heap:=w.heap.modify g fun| .cells c elem (lo,hi)=> .cells c elem (if lo==hi then(0,0+n)else(min lo 0,max hi (0+n)))|o=>o}:=by
   unfold World.freeze;rw[if_neg hn];rfl
  rw[e]
  refine⟨rfl,rfl,rfl,by simp,λk hk hne=>?_⟩
  have:g≠k:=λe=>hne (by rw[e])
  simp[Array.getElem?_modify,this]
set_option maxHeartbeats 1000000 in
theorem y9(b g cap:Nat)(l:List UInt8)(u0:Value)(w:World)(h0:l≠ [])(hbk:w.heap[b]? =some (.cells #[u0,.slice (some ⟨g,0,none⟩) l.length cap] 91 (0,0)))
  (hown:w.ownsRow 0 5 1 (.slice (some ⟨g,0,none⟩) l.length cap) l.length (Lib.byteCells l)):
  Calls Tryz.prog 16 #[.pointer (some ⟨b,0,none⟩)] w λe w'=>e= .returned (.string ⟨l.toArray⟩)/\w'=w.drew.freeze ⟨g,0,none⟩ l.length:=by
 have hl0:l.length≠0:=by simpa using h0
 have h2:=hown.2
 rcases h2 with⟨h3,_⟩|⟨g',cap',cur,hv,_,hg,hnc,hcm,hcs,htake⟩
 ·cases h3
 injection hv with hv1 hv2 hv3
 injection hv1 with hv1
 injection hv1 with hv1
 subst hv1 hv3
 have mixed:Tryz.prog.follows .mixedOrders=true:=by kernel_rfl
 have c1:w.drew.cell? ⟨b,1,none⟩=some (.slice (some ⟨g,0,none⟩) l.length cap):=by
  have:w.drew.heap[b]? =_:=hbk
  rw[Lib.cell_of_heap this];rfl
 have hSD:(Builtin.unsafeSliceData_ #[22] 114 #[.slice (some ⟨g,0,none⟩) l.length cap]).run Tryz.prog w.drew= .ok (.pointer (some ⟨g,0,none⟩)) w.drew:=Lib.run_unsafeSliceData_row _ _ _ _ _ _ Iv
 have hUS:(Builtin.unsafeString_ #[114,3] 9 #[.pointer (some ⟨g,0,none⟩),.int .i64 l.length]).run Tryz.prog w.drew= .ok (.string ⟨l.toArray⟩) (w.drew.freeze ⟨g,0,none⟩ l.length):=by
  refine Lib.run_unsafeString_row w.drew 114 3 9 5 underlying114 Iw g cur.size (by have hg':w.drew.heap[g]? =_:=hg;simp[World.shape?,hg']) l h0 (by simp at hcs;omega) (by unfold maxLen at hcm;omega) ?_
  intro j x hx
  exact hown.cells (g:=g) rfl j (.int .u8 x.toNat) (by simp[Lib.byteCells,hx])
 go_enter Tryz.func16,Tryz.ntmps16
 go_wp2
 go_region_o
 all_goals(go_wp2;go_ret;exact⟨rfl,rfl⟩)
set_option maxHeartbeats 1000000 in
theorem y8(b:Nat)(u0:Value)(w:World)(hbk:w.heap[b]? =some (.cells #[u0,.slice none 0 0] 91 (0,0))):
  Calls Tryz.prog 16 #[.pointer (some ⟨b,0,none⟩)] w λe w'=>e= .returned (.string ⟨#[]⟩)/\w'=w.drew:=by
 have mixed:Tryz.prog.follows .mixedOrders=true:=by kernel_rfl
 have c1:w.drew.cell? ⟨b,1,none⟩=some (.slice none 0 0):=by
  have:w.drew.heap[b]? =_:=hbk
  rw[Lib.cell_of_heap this];rfl
 have hSD:(Builtin.unsafeSliceData_ #[22] 114 #[.slice none 0 0]).run Tryz.prog w.drew= .ok (.pointer none) w.drew:=rfl
 have hUS:(Builtin.unsafeString_ #[114,3] 9 #[.pointer none,.int .i64 0]).run Tryz.prog w.drew= .ok (.string ⟨#[]⟩) w.drew:=Lib.run_unsafeString_none _ _ _ _ _
 go_enter Tryz.func16,Tryz.ntmps16
 go_wp2
 go_region_o
 all_goals(go_wp2;go_ret;exact⟨rfl,rfl⟩)
theorem A9:a6 av 16 [.one (.ref 1000 0 0 0)] [(1000,qL)] [(1000,qL)] [1000] (.val (.one (.d (dL [])))):=by
 refine a6.of_same call16 λZ w ρ us hws hl hr=>?_
 obtain⟨b,cs,hp,hg,hcl,hc⟩:=hws.obj 1000 _ rfl
 obtain⟨u,rfl⟩:=List.length_eq_one_iff.1 hl
 obtain⟨b',hb',rfl⟩:=lm (hr 0 _ _ rfl rfl)
 rw[hp]at hb'
 injection hb' with hb'
 subst hb'
 match cs,hcl with
 |[u0,u1],_=>
  have h1:u1= .slice none 0 0:=hc 1 _ _ rfl rfl
  subst h1
  refine(y8 b u0 w hg).mono ?_
  rintro e w' ⟨rfl,rfl⟩
  exact⟨_,rfl,⟨rfl,rfl,rfl,Nat.le_refl _,λ_ _ _=>rfl⟩,.one _ _ (show bj Z _ (.pv _) _ from .pv _ rfl)⟩
theorem Ba(l:List UInt8)(h0:l≠ []):a6 av 16 [.one (.ref 1000 0 0 0)] [(1000,qM 1000 1001),(1001,we (cD ⟨l.toArray⟩))] [(1000,.cells 91 [.ref 1000 0 0 0,.dead]),(1001,.frame [] [])] [] (.val (.one (.d (dL l)))):=by
 refine a6.of_gone (id:=1001) (o:=we (cD ⟨l.toArray⟩)) call16 rfl λZ w ρ us hws hl hr=>?_
 obtain⟨b,cs,hp,hg,hcl,hc⟩:=hws.obj 1000 _ rfl
 obtain⟨ux,hs0,hxl,hxx,hxu,hown,hxd⟩:=hws.obj 1001 _ rfl
 obtain⟨u,rfl⟩:=List.length_eq_one_iff.1 hl
 obtain⟨b',hb',rfl⟩:=lm (hr 0 _ _ rfl rfl)
 rw[hp]at hb'
 injection hb' with hb'
 subst hb'
 match cs,hcl with
 |[u0,u1],_=>
  have h1:u1=ρ 1001:=(hc 1 _ _ rfl rfl).1
  subst h1
  have hlen:(cD ⟨l.toArray⟩).length=l.length:=by simp[cD]
  have hux:ux.flatten=Lib.byteCells l:=by
   have:ux=l.map λb=>[Value.int .u8 b.toNat]:=by
    apply List.ext_getElem?
    intro i
    rw[List.getElem?_map]
    cases hd:l[i]? with
    |none=>rw[List.getElem?_eq_none];rfl;rw[hxl,hlen];exact List.getElem?_eq_none_iff.1 hd
    |some n=>
     have hlt:i<ux.length:=by rw[hxl,hlen];exact(List.getElem?_eq_some_iff.1 hd).1
     rw[List.getElem?_eq_getElem hlt]
     have hx:(cD ⟨l.toArray⟩)[i]? =some [.pv (.int .u8 n.toNat)]:=by simp[cD,hd]
     have hu:=hxu ux[i] (List.getElem_mem hlt)
     obtain⟨y,hy⟩:=List.length_eq_one_iff.1 hu
     have:=mU (hxd i 0 _ _ _ y hx (List.getElem?_eq_getElem hlt) rfl (by rw[hy];rfl))
     simp[hy,this]
   rw[this]
   exact qW (λb:UInt8=>Value.int .u8 b.toNat) l
  rw[hux,hlen]at hown
  have hl0:l.length≠0:=by simpa using h0
  rcases hown.2 with⟨_,hn⟩|⟨g,cap,cur,hv,_⟩
  ·exact absurd hn hl0
  ·rw[hv]at hg hown
   refine(y9 b g cap l u0 w h0 hg hown).mono ?_
   rintro e w' ⟨rfl,rfl⟩
   refine⟨_,rfl,?_,λρ'=> .one _ _ (show bj Z _ (.pv _) _ from .pv _ rfl)⟩
   rw[hv]
   exact qZ w g l.length
end Go.Proofs.YtnlhpdbijmnkhaaGreatDoor
namespace Go.Proofs.YtnlhpdbijmnkhaaGreatDoor
open Go.Proofs.Tryz
open Go.RowKit
theorem an.plainT{E:aE}(he:E.Ok){f:FuncId}{args:List AP1}{vs:List Value}(enter:∀(us:Array Value) w,(callFunc f us).run E.P w= .ok (.enter f us) w)(hp:args.all AP1.isPl=true)(hv:∀v∈vs,v.oneCell'=true)
  (h:∀w,E.W w->Calls E.P f (args.map AP1.pl).toArray w λe w'=>e= .returned (.tuple vs.toArray)/\Below w.heap.size w w'):an E f args (.tup (vs.map λv=> .one (.pv v))):=by
 refine⟨enter,λZ w us hz hg hl hr=>?_⟩
 have:us=args.map AP1.pl:=by
  apply List.ext_getElem?
  intro i
  rw[List.getElem?_map]
  cases hd:args[i]? with
  |none=>rw[List.getElem?_eq_none];rfl;rw[hl];exact List.getElem?_eq_none_iff.1 hd
  |some d=>
   have hlt:i<us.length:=by rw[hl];exact(List.getElem?_eq_some_iff.1 hd).1
   rw[List.getElem?_eq_getElem hlt]
   have hp:d.isPl=true:=List.all_eq_true.1 hp d (List.mem_of_getElem? hd)
   simp[zH hp (hr i d us[i] hd (List.getElem?_eq_getElem hlt))]
 subst this
 refine(h w (Dd he hg)).mono ?_
 rintro e w' ⟨rfl,hb⟩
 refine⟨_,Z,rfl,hb,λ_ h=>h,λ_ h=> .inl h,vs,rfl,by simp,λi p u hp hu=>?_⟩
 rw[List.getElem?_map,hu]at hp
 injection hp with hp
 subst hp
 exact .pv _ (hv _ (List.mem_of_getElem? hu))
theorem ng(w:World)(n:Nat):Below w.heap.size w (w.drewN n):=by
 induction n with
 |zero=>exact Below.refl _ _
 |succ n ih=>exact ih.drew
theorem tE(c:UInt8)(w:List UInt8)(ws:List (List UInt8))(h:c∉w)(hs:(aU c (w::ws)).length<4294967281)(W:World)(m:Int)(hm:W.cell? ⟨0,0,none⟩=some (.int .i64 m)):
  Calls Tryz.prog 17 #[.string ⟨(aU c (w::ws)).toArray⟩,.string ⟨#[c]⟩] W λe w'=>e= .returned (.tuple #[.string ⟨w.toArray⟩,.string ⟨(aU c ws).toArray⟩,.bool (!ws.isEmpty)])/\∃n,w'=W.drewN n:=by
 have:=Tryz.strings_Cut ⟨(aU c (w::ws)).toArray⟩ ⟨#[c]⟩ m W (by simpa[ByteArray.size]using hs) hm
 simp only[List.toList_toArray]at this
 rw[Af h]at this
 exact this
end Go.Proofs.YtnlhpdbijmnkhaaGreatDoor
namespace Go.Proofs.YtnlhpdbijmnkhaaGreatDoor
open Go.Proofs.Tryz
open Go.RowKit
theorem qO{w:World}{o:Obj}{b i:Nat}{v:Value}(hb:b<w.heap.size)(h:w.cell? ⟨b,i,none⟩=some v):(w.alloc o).cell? ⟨b,i,none⟩=some v:=
 (World.cell?_of_block (a:=⟨b,i,none⟩) ((ck w o none).block b hb Iy)).trans h
theorem D6(N b:Nat)(n:Int)(u:FrameMode)(w:World)(h0:w.cell? ⟨N,0,none⟩=some (.pointer (some ⟨b,0,none⟩)))(h3:w.cell? ⟨b,3,none⟩=some (.int .i64 n))(hz:w.frozen? ⟨b,3,none⟩=false):
  CallsD Tryz.prog 77 #[.pointer (some ⟨N,0,none⟩)] u w λe u' w'=>u'=u/\(e= .returned (.tuple #[])/\w'=w.setCell ⟨b,3,none⟩ (.int .i64 (wrap64 (n+1)))):=by
 go_enter_d Tryz.func77,Tryz.ntmps77
 go_wp2
 go_end0
 exact⟨rfl,rfl⟩
theorem Bh(b:Nat)(u0 u3:Value)(u2:Bool)(w:World)(hg:w.heap[b]? =some (.cells #[u0,.bool true,.bool u2,u3] 117 (0,0))):
  Calls Tryz.prog 52 #[.pointer (some ⟨b,0,none⟩)] w λe w'=>e= .returned (.string ⟨#[]⟩)/\w.grownBy w' (some b)/\w'.heap[b]? =some (.cells #[u0,.bool true,.bool true,u3] 117 (0,0)):=by
 have hlt:b<w.heap.size:=(Array.getElem?_eq_some_iff.1 hg).1
 have h1:w.cell? ⟨b,1,none⟩=some (.bool true):=by rw[Lib.cell_of_heap hg];rfl
 have h2:w.cell? ⟨b,2,none⟩=some (.bool u2):=by rw[Lib.cell_of_heap hg];rfl
 have hz:=Lib.frozen_of_heap hg 2
 have hne:¬b=w.heap.size:=by omega
 have hne':¬w.heap.size=b:=by omega
 have hg0:=Lib.hid hg
 clear hg
 go_enter Tryz.func52,Tryz.ntmps52
 go_wp2
 go_ret
 have hg:=hg0.out
 exact⟨rfl,Lib.grownBy_trans (Lib.grownBy_setCell w b 2 _) (ck _ _ _),by
  rw[Below.heap_alloc _ _ b (by simpa[World.setCell]using hlt)]
  exact cp (us:=[u0,.bool true,.bool u2,u3]) hg⟩
theorem Bi(b:Nat)(x:List UInt8)(ws:List (List UInt8))(n:Int)(u2:Value)(w:World)(hx:32∉x)(hs:(aU 32 (x::ws)).length<4294967281)(h00:∃m,w.cell? ⟨0,0,none⟩=some (.int .i64 m))
  (hg:w.heap[b]? =some (.cells #[.string ⟨(aU 32 (x::ws)).toArray⟩,.bool false,u2,.int .i64 n] 117 (0,0))):
  Calls Tryz.prog 52 #[.pointer (some ⟨b,0,none⟩)] w λe w'=>e= .returned (.string ⟨x.toArray⟩)/\w.grownBy w' (some b)/\w'.heap[b]? =some (.cells #[.string ⟨(aU 32 ws).toArray⟩,.bool ws.isEmpty,u2,.int .i64 (wrap64 (n+1))] 117 (0,0)):=by
 obtain⟨m,h00⟩:=h00
 have hlt:b<w.heap.size:=(Array.getElem?_eq_some_iff.1 hg).1
 have h0:w.cell? ⟨b,0,none⟩=some (.string ⟨(aU 32 (x::ws)).toArray⟩):=by rw[Lib.cell_of_heap hg];rfl
 have h1:w.cell? ⟨b,1,none⟩=some (.bool false):=by rw[Lib.cell_of_heap hg];rfl
 have hg0:=Lib.hid hg
 clear hg
 have hmf:∀(fn:Fn) (first cap:Array Value) (w:World),(Instr.makeFunc fn first cap).run Tryz.prog w= .ok (.func fn first cap) w:=λ_ _ _ _=>rfl
 have mixed:Tryz.prog.follows .mixedOrders=true:=by kernel_rfl
 have hne:¬b=w.heap.size:=by omega
 have hne':¬w.heap.size=b:=by omega
 have hp:0<w.heap.size:=by omega
 have hp0:¬0=w.heap.size:=by omega
 go_enter_defers Tryz.func52,Tryz.ntmps52
 go_wp2_with (go_at_call 17;refine(tE 32 x ws hx hs _ m (qO hp h00)).mono ?_;rintro e w' ⟨rfl,k,rfl⟩)
 have hgW:((w.alloc (.cells #[.pointer (some ⟨b,0,none⟩)] 115)).drewN k).heap[b]? =some (.cells #[.string ⟨(aU 32 (x::ws)).toArray⟩,.bool false,u2,.int .i64 n] 117 (0,0)):=(Below.heap_alloc w _ b hlt).trans hg0.out
 have hgN:((w.alloc (.cells #[.pointer (some ⟨b,0,none⟩)] 115)).drewN k).heap[w.heap.size]? =some (.cells #[.pointer (some ⟨b,0,none⟩)] 115 (0,0)):=by show(w.heap.push _)[w.heap.size]? =_;rw[Array.getElem?_push_size]
 have hgr:w.grownBy ((w.alloc (.cells #[.pointer (some ⟨b,0,none⟩)] 115)).drewN k) (some b):=⟨rfl,rfl,rfl,(by show w.heap.size<=(w.heap.push _).size;rw[Array.size_push];omega),λj hj _=>Below.heap_alloc w _ j hj⟩
 generalize (w.alloc (.cells #[.pointer (some ⟨b,0,none⟩)] 115)).drewN k=W at*
 generalize w.heap.size=N at*
 have d0:W.cell? ⟨b,0,none⟩=some (.string ⟨(aU 32 (x::ws)).toArray⟩):=by rw[Lib.cell_of_heap hgW];rfl
 have d1:W.cell? ⟨b,1,none⟩=some (.bool false):=by rw[Lib.cell_of_heap hgW];rfl
 have d3:W.cell? ⟨b,3,none⟩=some (.int .i64 n):=by rw[Lib.cell_of_heap hgW];rfl
 have dN:W.cell? ⟨N,0,none⟩=some (.pointer (some ⟨b,0,none⟩)):=by rw[Lib.cell_of_heap hgN];rfl
 have e0:=Lib.frozen_of_heap hgW 0
 have e1:=Lib.frozen_of_heap hgW 1
 have e3:=Lib.frozen_of_heap hgW 3
 have hgW0:=Lib.hid hgW
 have hgr0:=Lib.hid hgr
 clear hgW hgN hgr
 go_wp2
 go_region_o
 all_goals
  go_wp2
  refine leaves_cons (f:=77) (args:= #[.pointer (some ⟨N,0,none⟩)]) Iy (by simp[go_sem]) ?_
  have k1:∀(a:Addr) (u v:Value),a≠⟨b,0,none⟩->a≠⟨b,1,none⟩->((W.setCell ⟨b,0,none⟩ u).setCell ⟨b,1,none⟩ v).cell? a=W.cell? a:=λa u v h1 h2=>
   (World.cell?_setCell_other _ ⟨b,1,none⟩ a v (λe=>h2 e.symm)).trans (World.cell?_setCell_other W ⟨b,0,none⟩ a u (λe=>h1 e.symm))
  refine(D6 N b n .returning (((W.setCell ⟨b,0,none⟩ (.string ⟨(aU 32 ws).toArray⟩)).setCell ⟨b,1,none⟩ (.bool ws.isEmpty)).drew) ?q1 ?q2 ?q3).mono ?_
  case q1=>exact(k1 ⟨N,0,none⟩ _ _ (by simp[hne']) (by simp[hne'])).trans dN
  case q2=>exact(k1 ⟨b,3,none⟩ _ _ Iy Iy).trans d3
  case q3=>simp[e3]
  rintro e u' w'' ⟨rfl,rfl,rfl⟩
  have hgW:=hgW0.out
  have hgr:=hgr0.out
  refine⟨_,results_tmp rfl _ _ _,rfl,?_,?_⟩
  ·refine Lib.grownBy_setB (Lib.grownBy_trans (Lib.grownBy_setB (Lib.grownBy_setB hgr 0 (.string ⟨(aU 32 ws).toArray⟩)) 1 (.bool ws.isEmpty)) ?_) 3 _
   exact⟨rfl,rfl,rfl,Nat.le_refl _,λ_ _ _=>rfl⟩
  ·have a0:W.heap[b]? =some (.cells [.string ⟨(aU 32 (x::ws)).toArray⟩,.bool false,u2,.int .i64 n].toArray 117 (0,0)):=hgW
   have a1:=cp (i:=1) (v:= .bool ws.isEmpty) (cp (i:=0) (v:= .string ⟨(aU 32 ws).toArray⟩) a0)
   exact cp (w:=((W.setCell ⟨b,0,none⟩ (.string ⟨(aU 32 ws).toArray⟩)).setCell ⟨b,1,none⟩ (.bool ws.isEmpty)).drew) (b:=b) (i:=3) (t:=117) (us:=[.string ⟨(aU 32 ws).toArray⟩,.bool ws.isEmpty,u2,.int .i64 n]) a1
structure Sc where
 ws:List (List UInt8)
 bad:Bool
 at_:Int
def Sc.ok(s:Sc):Prop:=(∀w∈s.ws,(32:UInt8)∉w)/\(aU 32 s.ws).length<=2000000
abbrev Sc.o(s:Sc):AO:= .cells 117 [.d (dL (aU 32 s.ws)),.d (dB s.ws.isEmpty),.d (dB s.bad),.d (dI s.at_)]
def Sc.next(s:Sc):Sc:=match s.ws with
 |[]=>{s with bad:=true}
 |_::r=>{s with ws:=r,at_:=wrap64 (s.at_+1)}
def Sc.cur(s:Sc):List UInt8:=s.ws.headD []
theorem rc{c:UInt8}{w:List UInt8}{ws:List (List UInt8)}:(aU c ws).length<=(aU c (w::ws)).length:=by
 cases ws with
 |nil=>simp[aU]
 |cons v ws=>simp only[aU,List.length_append,List.length_cons];omega
theorem yH{c:UInt8}{w:List UInt8}{ws:List (List UInt8)}:w.length<=(aU c (w::ws)).length:=by
 cases ws with
 |nil=>simp[aU]
 |cons v ws=>simp only[aU,List.length_append,List.length_cons];omega
theorem Sc.ok.next{s:Sc}(h:s.ok):s.next.ok:=by
 obtain⟨ws,bad,at_⟩:=s
 obtain⟨h1,h2⟩:=h
 cases ws with
 |nil=>exact⟨h1,h2⟩
 |cons w ws=>exact⟨λx hx=>h1 x (List.mem_cons_of_mem _ hx),Nat.le_trans rc h2⟩
theorem Sc.ok.cur{s:Sc}(h:s.ok):s.cur.length<=2000000:=by
 obtain⟨ws,bad,at_⟩:=s
 obtain⟨h1,h2⟩:=h
 cases ws with
 |nil=>exact Nat.zero_le _
 |cons w ws=>exact Nat.le_trans yH h2
theorem dD(s:Sc)(hs:s.ok):a6 av 52 [.one (.ref 1000 0 0 0)] [(1000,s.o)] [(1000,s.next.o)] [1000] (.val (.one (.d (dL s.cur)))):=by
 refine a6.of_upd (id:=1000) (o:=s.o) (o':=s.next.o) call52 rfl λZ w ρ us hws ho hl hr=>?_
 obtain⟨ws,bad,n⟩:=s
 obtain⟨hno,hsz⟩:=hs
 obtain⟨b,cs,hp,hg,hcl,hc⟩:=ho
 obtain⟨u,rfl⟩:=List.length_eq_one_iff.1 hl
 obtain⟨b',hb',rfl⟩:=lm (hr 0 _ _ rfl rfl)
 rw[hp]at hb'
 injection hb' with hb'
 subst hb'
 match cs,hcl with
 |[u0,u1,u2,u3],_=>
  have h0:u0=_:=mU (hc 0 _ _ rfl rfl)
  have h1:u1=_:=mU (hc 1 _ _ rfl rfl)
  have h2:u2=_:=mU (hc 2 _ _ rfl rfl)
  have h3:u3=_:=mU (hc 3 _ _ rfl rfl)
  subst h0 h1 h2 h3
  have fin:∀(w':World) (t:Sc),w'.heap[b]? =some (.cells #[.string ⟨(aU 32 t.ws).toArray⟩,.bool t.ws.isEmpty,.bool t.bad,.int .i64 t.at_] 117 (0,0))->bB Z w' ρ 1000 t.o:=by
   intro w' t h
   refine⟨b,[.string ⟨(aU 32 t.ws).toArray⟩,.bool t.ws.isEmpty,.bool t.bad,.int .i64 t.at_],hp,h,rfl,λi c u hx hu=>?_⟩
   match i with
   |0=>simp at hx hu;subst hx hu;exact .pv _ rfl
   |1=>simp at hx hu;subst hx hu;exact .pv _ rfl
   |2=>simp at hx hu;subst hx hu;exact .pv _ rfl
   |3=>simp at hx hu;subst hx hu;exact .pv _ rfl
   |i+4=>simp at hx
  cases ws with
  |nil=>
   refine(Bh b _ _ bad w hg).mono ?_
   rintro e w' ⟨rfl,hgr,hh⟩
   exact⟨_,b,rfl,by rw[hp];rfl,hgr,fin w' ⟨[],true,n⟩ hh,.one _ _ (show bj Z _ (.pv _) _ from .pv _ rfl)⟩
  |cons x ws=>
   have hW:=Dd aj hws.g
   refine(Bi b x ws n _ w (hno x Iy) (by simp only at hsz;omega) hW.2 hg).mono ?_
   rintro e w' ⟨rfl,hgr,hh⟩
   exact⟨_,b,rfl,by rw[hp];rfl,hgr,fin w' ⟨ws,bad,wrap64 (n+1)⟩ hh,.one _ _ (show bj Z _ (.pv _) _ from .pv _ rfl)⟩
end Go.Proofs.YtnlhpdbijmnkhaaGreatDoor
namespace Go.Proofs.YtnlhpdbijmnkhaaGreatDoor
open Go.Proofs.Tryz
open Go.RowKit
theorem cO(w:List UInt8):(⟨w.toArray⟩:ByteArray).size=w.length:=by simp[ByteArray.size]
theorem DR{w:List UInt8}{k:Nat}(hk:k<w.length):(⟨w.toArray⟩:ByteArray)[k]? =some w[k]:=by
 rw[getElem?_pos _ k (by rw[cO];exact hk)]
 rfl
theorem bi(a b:List UInt8):((⟨a.toArray⟩:ByteArray).toList==(⟨b.toArray⟩:ByteArray).toList)=decide (a=b):=by
 rw[ByteArray.toList_eq,ByteArray.toList_eq]
 by_cases h:a=b
 ·subst h;simp
 ·simp[h]
theorem xf{b:Bool}(h:b=true->False):AP.val (AP1.one (AD.pv (Value.bool false)))=rB b:=by cases b;rfl;exact(h rfl).elim
theorem E9{b:Bool}(h:b=true):AP.val (AP1.one (AD.pv (Value.bool true)))=rB b:=by rw[h]
theorem Fi{b:UInt8}{n:Nat}(h:((b.toNat:Int)==(n:Int))=true):b.toNat=n:=by
 have:(b.toNat:Int)=(n:Int):=by simpa only[beq_iff_eq]using h
 omega
theorem all_take{α:Type}{p:α->Bool}{l:List α}{k:Nat}(hk:k<l.length)(h:(l.take k).all p=true)(h2:p l[k]=true):(l.take (k+1)).all p=true:=by
 rw[<-List.take_append_getElem hk,List.all_append,h];simp[h2]
theorem tQ(w:List UInt8)(m:Nat)(hw:w.length<=2000000)(hm:m<=1000):an av 78 [pL w,pI m] (rB (nk w m)):=by
 refine ai aj func78 rfl call78 ntmps78 (IG results78) λS=>?_;conv=>whnf
 repeat'(first|((first|refine aw0 ?_|refine aw1 ?_|refine aw2 ?_|refine aw3 ?_|refine aw4 ?_|refine aw5 ?_|refine aw6 ?_|refine aw7 ?_|refine aw8 ?_|refine bT ?_|refine bF ?_)<;>conv=>whnf)|(have hlt:0<w.length:=(by simp only[cO,decide_eq_true_eq,decide_eq_false_iff_not,beq_iff_eq,beq_eq_false_iff_ne,List.length_map,Bool.not_eq_true',Bool.not_eq_false',ne_eq]at*;omega);refine⟨0,w[0]'hlt,rfl,DR hlt,?_⟩;conv=>whnf)|((first|exact rr|refine And.intro rfl ?_|refine AB.mk (λh=>?_) (λh=>?_))<;>conv=>whnf))
 ·refine xf λh0=>?_
  exact(dF.1 h0).1 (List.length_eq_zero_iff.1 (by simp only[cO,beq_iff_eq]at h;omega))
 ·refine xf λh0=>?_
  have:=(dF.1 h0).2.1
  simp only[cO,decide_eq_true_eq]at h
  omega
 ·refine xf λh0=>?_
  have hl:1<w.length:=(by simp only[cO,decide_eq_true_eq,decide_eq_false_iff_not,beq_iff_eq,beq_eq_false_iff_ne,List.length_map,Bool.not_eq_true',Bool.not_eq_false',ne_eq]at*;omega)
  have h3:=(dF.1 h0).2.2.1
  have h4:=Fi (n:=48) h
  rcases h3 with h3|h3
  ·omega
  ·apply h3
   rw[List.head?_eq_getElem?,List.getElem?_eq_getElem Iv]
   exact congrArg some (UInt8.toNat_inj.1 h4)
 all_goals
  have h1:w≠ []:=by
   have:0<w.length:=(by simp only[cO,decide_eq_true_eq,decide_eq_false_iff_not,beq_iff_eq,beq_eq_false_iff_ne,List.length_map,Bool.not_eq_true',Bool.not_eq_false',ne_eq]at*;omega)
   exact List.length_pos_iff.1 this
  have h2:w.length<=m:=(by simp only[cO,decide_eq_true_eq,decide_eq_false_iff_not,beq_iff_eq,beq_eq_false_iff_ne,List.length_map,Bool.not_eq_true',Bool.not_eq_false',ne_eq]at*;omega)
  have h3:w.length<=1\/w.head?≠some 48:=by
   by_cases hl:w.length<=1
   ·exact .inl hl
   ·refine .inr λe=>?_
    rw[List.head?_eq_getElem?,List.getElem?_eq_getElem Iv]at e
    injection e with e
    first
     |(rw[e]at h;revert h;decide)
     |(simp only[cO,decide_eq_false_iff_not]at h;omega)
  have no:∀(k:Nat) (hk:k<w.length),gd w[k]=false->nk w m=true->False:=λk hk h h0=>by
   have:=(List.all_eq_true.1 (dF.1 h0).2.2.2) _ (List.getElem_mem hk)
   rw[h]at this;cases this
  clear h
  refine AWP.loopS (λk:Nat=>k<=w.length/\(w.take k).all gd=true) [4,5,25,26,27,28,29,30,31,32,33,34,35,36,37,38,39,40] (λk=>[(5,vI .i64 (k:Int))]) (λk=>[]) (λk=>w.length-k) 0 ⟨by omega,rfl⟩ ?_ ae.nil (λk hR=>?_)<;>(conv=>whnf)
  ·repeat'(first|exact trivial|(refine And.intro rfl ?_;conv=>whnf))
  ·obtain⟨hk,hall⟩:=hR
   repeat'(first|((first|refine aw0 ?_|refine aw1 ?_|refine aw2 ?_|refine aw3 ?_|refine aw4 ?_|refine aw5 ?_|refine aw6 ?_|refine aw7 ?_|refine aw8 ?_|refine bT ?_|refine bF ?_)<;>conv=>whnf)|(have hlt:k<w.length:=(by simp only[cO,decide_eq_true_eq,decide_eq_false_iff_not,beq_iff_eq,beq_eq_false_iff_ne,List.length_map,Bool.not_eq_true',Bool.not_eq_false',ne_eq]at*;omega);refine⟨k,w[k]'hlt,rfl,DR hlt,?_⟩;conv=>whnf)|((first|refine AW.i64 (by simp only[cO,decide_eq_true_eq,decide_eq_false_iff_not,beq_iff_eq,beq_eq_false_iff_ne,List.length_map,Bool.not_eq_true',Bool.not_eq_false',ne_eq]at*;omega) (by simp only[cO,decide_eq_true_eq,decide_eq_false_iff_not,beq_iff_eq,beq_eq_false_iff_ne,List.length_map,Bool.not_eq_true',Bool.not_eq_false',ne_eq]at*;omega) ?_|exact rr|refine And.intro rfl ?_|refine AB.mk (λh=>?_) (λh=>?_))<;>conv=>whnf))
   ·have hlt:k<w.length:=(by simp only[cO,decide_eq_true_eq,decide_eq_false_iff_not,beq_iff_eq,beq_eq_false_iff_ne,List.length_map,Bool.not_eq_true',Bool.not_eq_false',ne_eq]at*;omega)
    refine xf (no k hlt ?_)
    simp only[gd,Bool.and_eq_false_iff,decide_eq_false_iff_not,UInt8.le_iff_toNat_le]
    have:=h
    simp only[decide_eq_true_eq]at this
    left
    simp
    omega
   ·have hlt:k<w.length:=(by simp only[cO,decide_eq_true_eq,decide_eq_false_iff_not,beq_iff_eq,beq_eq_false_iff_ne,List.length_map,Bool.not_eq_true',Bool.not_eq_false',ne_eq]at*;omega)
    refine xf (no k hlt ?_)
    simp only[gd,Bool.and_eq_false_iff,decide_eq_false_iff_not,UInt8.le_iff_toNat_le]
    have:=h
    simp only[decide_eq_true_eq]at this
    right
    simp
    omega
   ·have hlt:k<w.length:=(by simp only[cO,decide_eq_true_eq,decide_eq_false_iff_not,beq_iff_eq,beq_eq_false_iff_ne,List.length_map,Bool.not_eq_true',Bool.not_eq_false',ne_eq]at*;omega)
    refine aN.mk ⟨k+1,⟨hlt,all_take hlt hall (dt.2 ?_)⟩,by omega,?_,ae.nil⟩
    ·simp only[decide_eq_false_iff_not]at*;omega
    ·exact hds
   ·have:k=w.length:=(by simp only[cO,decide_eq_true_eq,decide_eq_false_iff_not,beq_iff_eq,beq_eq_false_iff_ne,List.length_map,Bool.not_eq_true',Bool.not_eq_false',ne_eq]at*;omega)
    subst this
    rw[List.take_length]at hall
    exact E9 (dF.2 ⟨h1,h2,h3,hall⟩)
theorem yW(w:List UInt8)(h:nk w 10=true):an av 79 [pL w,pI 10,pI 64] (.tup [.one (dI (dJ w)),.one (.pv .nilIface)]):=by
 refine an.plainT aj (vs:=[.int .i64 (dJ w),.nilIface]) call79 rfl (by simp[Value.oneCell']) λW hW=>?_
 have hl:=(dF.1 h).2.1
 refine(Tryz.strconv_ParseInt_10_at64_ok ⟨w.toArray⟩ (by rw[cO];omega) (dJ w) (by simpa using vC h) W).mono ?_
 rintro e w' ⟨rfl,hw⟩
 refine⟨rfl,?_⟩
 rcases hw with rfl|⟨t,rfl⟩
 ·exact Below.refl _ _
 ·exact Lib.bytesWorld_below _ _ _
def il:List (List UInt8)->List UInt8->Int
 |[],_=> -1
 |y::r,x=>if y=x then 0 else if il r x= -1 then-1 else il r x+1
def sO(l:List (List UInt8))(x:List UInt8)(k:Nat):Int:=if il (l.drop k) x= -1 then-1 else il (l.drop k) x+k
theorem pF(l:List (List UInt8))(x:List UInt8): -1<=il l x:=by
 induction l with
 |nil=>exact Int.le_refl _
 |cons y r ih=>unfold il;split;decide;split<;>omega
theorem As(l:List (List UInt8))(x:List UInt8):sO l x 0=il l x:=by
 unfold sO
 rw[List.drop_zero]
 split<;>omega
theorem Ca{l:List (List UInt8)}{x:List UInt8}{k:Nat}(hk:k<l.length)(h:l[k]=x):sO l x k=k:=by
 unfold sO
 rw[List.drop_eq_getElem_cons hk,il,if_pos h,if_neg Ix]
 omega
theorem Ar{l:List (List UInt8)}{x:List UInt8}{k:Nat}(hk:k<l.length)(h:l[k]≠x):sO l x k=sO l x (k+1):=by
 unfold sO
 have:=pF (l.drop (k+1)) x
 rw[List.drop_eq_getElem_cons hk,il,if_neg h]
 by_cases h2:il (l.drop (k+1)) x= -1
 ·rw[if_pos h2,if_pos h2];rfl
 ·rw[if_neg h2,if_neg h2,if_neg Iv]
  omega
theorem B9{l:List (List UInt8)}{x:List UInt8}:sO l x l.length= -1:=by
 unfold sO
 rw[List.drop_length];rfl
abbrev dSs(l:List (List UInt8)):AD:= .sl (l.map eS)
theorem Dg(l:List (List UInt8))(x:List UInt8)(hl:l.length<=9223372036854775800):an av 112 [.one (dSs l),pL x] (rI (il l x)):=by
 refine ai aj func112 rfl call112 ntmps112 (IG results112) λS=>?_;conv=>whnf
 repeat'((first|refine aw0 ?_|refine aw1 ?_|refine aw2 ?_|refine aw3 ?_|refine aw4 ?_|refine aw5 ?_|refine aw6 ?_|refine aw7 ?_|refine aw8 ?_|refine bT ?_|refine bF ?_|exact rr|refine And.intro rfl ?_|refine AB.mk (λh=>?_) (λh=>?_))<;>conv=>whnf)
 refine AWP.loopS (λk:Nat=>k<=l.length/\sO l x k=il l x) [5,9,10,11,12,13,14,15,16,17,18] (λk=>[(8,vI .i64 (k:Int))]) (λk=>[]) (λk=>l.length-k) 0 ⟨by omega,As l x⟩ ?_ ae.nil (λk hR=>?_)<;>(conv=>whnf)
 ·repeat'(first|exact trivial|(refine And.intro rfl ?_;conv=>whnf))
 ·obtain⟨hk,hix⟩:=hR
  repeat'((first|refine aw0 ?_|refine aw1 ?_|refine aw2 ?_|refine aw3 ?_|refine aw4 ?_|refine aw5 ?_|refine aw6 ?_|refine aw7 ?_|refine aw8 ?_|refine bT ?_|refine bF ?_|refine AIx.mapF ari (λhlt=>?_)|refine AW.i64 ari ari ?_|exact rr|refine And.intro rfl ?_|refine AB.mk (λh=>?_) (λh=>?_))<;>conv=>whnf)
  ·have hx:x=l[k]:=by simpa[bi]using h
   rw[<-hix,Ca hlt hx.symm]
  ·have hx:x≠l[k]:=by simpa[bi]using h
   refine aN.mk ⟨k+1,⟨hlt,(Ar hlt hx.symm).symm.trans hix⟩,by omega,?_,ae.nil⟩
   exact hds
  ·have:k=l.length:=ari
   subst this
   rw[<-hix,B9]
def vw:List (List UInt8):=[[108,111,103],[115,116,111,114,101],[108,101,102,116],[114,105,103,104,116],[97,110,110],[98,111,98]]
def dl(w:List UInt8):Int:=il vw w
theorem vj:an av 39 [] (.val (.one (dSs vw))):=by
 refine ai aj func39 rfl call39 ntmps39 (IG results39) λS=>?_;conv=>whnf
 repeat'((first|refine aw0 ?_|refine aw1 ?_|refine aw2 ?_|refine aw3 ?_|refine aw4 ?_|refine aw5 ?_|refine aw6 ?_|refine aw7 ?_|refine aw8 ?_|exact rr|refine And.intro rfl ?_|refine AB.mk (λh=>?_) (λh=>?_))<;>conv=>whnf)
 rfl
theorem Ap(w:List UInt8):an av 80 [pL w] (rI (dl w)):=by
 refine ai aj func80 rfl call80 ntmps80 (IG results80) λS=>?_;conv=>whnf
 repeat'((first|refine aw0 ?_|refine aw1 ?_|refine aw2 ?_|refine aw3 ?_|refine aw4 ?_|refine aw5 ?_|refine aw6 ?_|refine aw7 ?_|refine aw8 ?_|refine aa.pure vj rfl ?_|refine aa.pure (Dg vw w Ix) rfl ?_|exact rr|refine And.intro rfl ?_|refine AB.mk (λh=>?_) (λh=>?_))<;>conv=>whnf)
 rfl
end Go.Proofs.YtnlhpdbijmnkhaaGreatDoor
namespace Go.Proofs.YtnlhpdbijmnkhaaGreatDoor
open Go.Proofs.Tryz
open Go.RowKit
def jn(s:Sc):Int×Sc:=if nk s.cur 10 then(dJ s.cur,{s.next with bad:=s.next.bad||decide ((dJ s.cur:Int)>1000000000)})else(0,{s.next with bad:=true})
theorem xx:∃f:Sc->Int×Sc,∀s,f s=jn s:=⟨jn,λ_=>rfl⟩
noncomputable def bE:Sc->Int×Sc:=Classical.choose xx
theorem iB(s:Sc):bE s=jn s:=Classical.choose_spec xx s
theorem Sc.ok.num{s:Sc}(h:s.ok):(bE s).2.ok:=by
 have:=h.next
 rw[iB]
 unfold jn
 split<;>exact this
def aC(s:Sc):Int×Sc:=(dl s.cur,{s.next with bad:=s.next.bad||decide (dl s.cur<0)})
theorem Sc.ok.node{s:Sc}(h:s.ok):(aC s).2.ok:=h.next
theorem ak(s:Sc)(hs:s.ok):a6 av 53 [.one (.ref 1000 0 0 0)] [(1000,s.o)] [(1000,(bE s).2.o)] [1000] (.val (.one (.d (dI (bE s).1)))):=by
 have wm:=dD s hs
 have hd:∀h:nk s.cur 10=true,(dJ s.cur:Int)<10000000000:=λh=>by have:=ry h;omega
 have hcl:=hs.cur
 obtain⟨ws1,b1,a1⟩:∃ws1 b1 a1,s.next=⟨ws1,b1,a1⟩:=⟨_,_,_,rfl⟩
 obtain⟨a1,hs1⟩:=a1
 rw[hs1]at wm
 cases hdig:nk s.cur 10 with
 |false=>
  have e:bE s=(0,⟨ws1,true,a1⟩):=by rw[iB];unfold jn;rw[hdig,hs1];rfl
  have hn:(!nk s.cur 10)=true:=by rw[hdig];rfl
  rw[e]
  refine aL aj func53 rfl call53 ntmps53 (IG results53) rfl λS pv=>?_;conv=>whnf
  repeat'((first|refine aw0 ?_|refine aw1 ?_|refine aw2 ?_|refine aw3 ?_|refine aw4 ?_|refine aw5 ?_|refine aw6 ?_|refine aw7 ?_|refine aw8 ?_|refine bT ?_|refine bF ?_|refine aa.upd wm 1000 rfl rfl rfl ?_|refine aa.pure (tQ s.cur 10 hcl Iv) rfl ?_|exact rr|refine And.intro rfl ?_|refine AB.mk (λh=>?_) (λh=>?_))<;>conv=>whnf)
 |true=>
  have e:bE s=((dJ s.cur:Int),(⟨ws1,b1||decide ((dJ s.cur:Int)>1000000000),a1⟩:Sc)):=by rw[iB];unfold jn;rw[hdig,hs1];rfl
  have hn:(!nk s.cur 10)=false:=by rw[hdig];rfl
  rw[e]
  cases b1
  all_goals
   refine aL aj func53 rfl call53 ntmps53 (IG results53) rfl λS pv=>?_;conv=>whnf
   repeat'((first|refine aw0 ?_|refine aw1 ?_|refine aw2 ?_|refine aw3 ?_|refine aw4 ?_|refine aw5 ?_|refine aw6 ?_|refine aw7 ?_|refine aw8 ?_|refine bT ?_|refine bF ?_|refine aa.upd wm 1000 rfl rfl rfl ?_|refine aa.pure (tQ s.cur 10 hcl Iv) rfl ?_|refine aa.pure (yW s.cur hdig) rfl ?_|exact rr|refine And.intro rfl ?_|refine AB.mk (λh=>?_) (λh=>?_))<;>conv=>whnf)
theorem aS(s:Sc)(hs:s.ok):a6 av 54 [.one (.ref 1000 0 0 0)] [(1000,s.o)] [(1000,(aC s).2.o)] [1000] (.val (.one (.d (dI (aC s).1)))):=by
 have wm:=dD s hs
 obtain⟨ws1,b1,a1⟩:∃ws1 b1 a1,s.next=⟨ws1,b1,a1⟩:=⟨_,_,_,rfl⟩
 obtain⟨a1,hs1⟩:=a1
 rw[hs1]at wm
 have e:aC s=(dl s.cur,⟨ws1,b1||decide (dl s.cur<0),a1⟩):=by unfold aC;rw[hs1]
 rw[e]
 cases b1
 all_goals
  refine aL aj func54 rfl call54 ntmps54 (IG results54) rfl λS pv=>?_;conv=>whnf
  repeat'((first|refine aw0 ?_|refine aw1 ?_|refine aw2 ?_|refine aw3 ?_|refine aw4 ?_|refine aw5 ?_|refine aw6 ?_|refine aw7 ?_|refine aw8 ?_|refine bT ?_|refine bF ?_|refine aa.upd wm 1000 rfl rfl rfl ?_|refine aa.pure (Ap s.cur) rfl ?_|exact rr|refine And.intro rfl ?_|refine AB.mk (λh=>?_) (λh=>?_))<;>conv=>whnf)
theorem Cv(s:Sc):a6 av 33 [.one (.ref 1000 0 0 0)] [(1000,s.o)] [(1000,s.o)] [1000] (.val (.one (.d (dB (s.ws.isEmpty&& !s.bad))))):=by
 obtain⟨ws,bad,at_⟩:=s
 cases h:ws.isEmpty
 all_goals
  simp only[Sc.o,h]
  refine aL aj func33 rfl call33 ntmps33 (IG results33) rfl λS pv=>?_;conv=>whnf
  repeat'((first|refine aw0 ?_|refine aw1 ?_|refine aw2 ?_|refine aw3 ?_|refine aw4 ?_|refine aw5 ?_|refine aw6 ?_|refine aw7 ?_|refine aw8 ?_|refine bT ?_|refine bF ?_|exact rr|refine And.intro rfl ?_|refine AB.mk (λh=>?_) (λh=>?_))<;>conv=>whnf)
end Go.Proofs.YtnlhpdbijmnkhaaGreatDoor
namespace Go.Proofs.YtnlhpdbijmnkhaaGreatDoor
open Go.Proofs.Tryz
open Go.RowKit
noncomputable def DN (s:Sc):Nat->Sc
 |0=>s
 |n+1=>(bE (DN s n)).2
noncomputable def nAt (s:Sc) (n:Nat):Int:=(bE (DN s n)).1
theorem Sc.ok.at_{s:Sc}(h:s.ok):∀n,(DN s n).ok
 |0=>h
 |n+1=>(Sc.ok.at_ h n).num
def mT(w:List UInt8):Int:=if nC 1=w then 1 else if nC 2=w then 2 else if nC 3=w then 3 else if nC 4=w then 4 else if nC 5=w then 5 else 0
noncomputable def zB (s:Sc) (n j:Nat):Int:=if j<n then nAt s j else 0
noncomputable def Fx (s:Sc):DOp×Sc:=if mT s.cur=0 then(⟨0,0,0,0,0⟩,{s.next with bad:=true})else
 (⟨mT s.cur,zB s.next (nB (mT s.cur)) 0,zB s.next (nB (mT s.cur)) 1,zB s.next (nB (mT s.cur)) 2,zB s.next (nB (mT s.cur)) 3⟩,DN s.next (nB (mT s.cur)))
theorem Sc.ok.op{s:Sc}(h:s.ok):(Fx s).2.ok:=by
 unfold Fx
 split
 ·exact h.next
 ·exact h.next.at_ _
abbrev DOp.cs(o:DOp):List AC:=[.d (dI o.kind),.d (dI o.a),.d (dI o.b),.d (dI o.c),.d (dI o.d)]
end Go.Proofs.YtnlhpdbijmnkhaaGreatDoor
