/- AvFX -/
import Derived.Test.YthgkdhnlehneeaaGreatDoorAvFC
import Derived.Test.YthgkdhnlehneeaaGreatDoorAwx
import Derived.Test.YthgkdhnlehneeaaGreatDoorAvFO
import Derived.Test.YthgkdhnlehneeaaGreatDoorText1
import Derived.Test.YthgkdhnlehneeaaGreatDoorAvQ
import Derived.Test.YthgkdhnlehneeaaGreatDoorBuilder
import Derived.Test.YthgkdhnlehneeaaGreatDoorShelf
import Derived.Test.YthgkdhnlehneeaaGreatDoorAvFQ
import Derived.Test.YthgkdhnlehneeaaGreatDoorAvTR
import Derived.Test.YthgkdhnlehneeaaGreatDoorShelfB
import Derived.Defers
import Derived.Lib.BufferOwn
import Derived.Lib.Hide
import Derived.Lib.AtoiErrMem
import Derived.LoopN
import Derived.Laws.Cover3
import Derived.Test.YthgkdhnlehneeaaGreatDoorWC2
import Derived.Test.YthgkdhnlehneeaaGreatDoorAvDT
import Derived.Test.YthgkdhnlehneeaaGreatDoorAvLD
import Derived.Test.YthgkdhnlehneeaaGreatDoorWA4
import Derived.Test.YthgkdhnlehneeaaGreatDoorWB7
import Derived.Test.YthgkdhnlehneeaaGreatDoorKC
set_option maxHeartbeats 8000000
set_option linter.unusedVariables false
set_option linter.unusedSimpArgs false
set_option maxRecDepth 100000
open List (getElem?_eq_getElem length_map)
open Bool (and_eq_true not_eq_false' not_eq_true')
namespace Go.Proofs.YthgkdhnlehneeaaGreatDoor
section
open Go.RowKit
def SL(lo hi:Nat)(cs ds:List AD):Prop:=
 cs.length=ds.length/\∃Q:Nat->Nat->Prop,(∀i b,Q i b->lo<=b/\b<hi)/\(∀i j b,Q i b->Q j b->i=j)/\∀(i:Nat) c d,cs[i]? =some c->ds[i]? =some d->∀(Z:Nat->Prop) (w:World) (u:Value),co Z w c u->nD w (λb=>Q i b/\Z b) d u
theorem SL.fam{lo hi:Nat}{cs ds:List AD}(h:SL lo hi cs ds):Fam lo hi cs ds:=by
 obtain⟨hl,Q,q,eQ,rQ⟩:=h;refine⟨hl,λZ w us hu hr=>⟨by rw[hu,hl],λi b=>Q i b/\Z b,λi b h=>⟨(q i b h.1).1,(q i b h.1).2,h.2⟩,λi j b h h'=>eQ i j b h.1 h'.1,λi a u ha hx=>?_⟩⟩;have hi:i<cs.length:=by rw[hl];exact(List.getElem?_eq_some_iff.1 ha).1
 exact rQ i cs[i] a (List.getElem?_eq_getElem hi) ha Z w u (hr i _ u (List.getElem?_eq_getElem hi) hx)
theorem SL.set{lo hi:Nat}{cs ds:List AD}(h:SL lo hi cs ds)(k:Nat){d:AD}(hb:d.isBl=true):SL lo hi (cs.set k d) (ds.set k d):=by
 obtain⟨hl,Q,q,eQ,rQ⟩:=h;refine⟨by simp[hl],λi b=>i≠k/\Q i b,λi b h=>q i b h.2,λi j b h h'=>eQ i j b h.2 h'.2,λi c a hc ha Z w u hr=>?_⟩;rw[List.getElem?_set]at hc ha;by_cases hk:k=i
 ·rw[if_pos hk]at hc ha;split at hc
  ·split at ha
   ·injection hc with hc
    injection ha with ha
    subst hc ha;exact QA hb hr
   ·cases ha
  ·cases hc
 ·rw[if_neg hk]at hc ha;exact(rQ i c a hc ha Z w u hr).mono λb hb=>⟨⟨λe=>hk e.symm,hb.1⟩,hb.2⟩
section
variable {E:bx} {S:bZ}
end
end
section
open Go.Proofs.Tryz
open Go.RowKit
variable {b:Bool}{k:Nat}
abbrev NQ:AO:= .cells 97 [.d (.pv (.pointer none)),.nil]
abbrev Ey(id row:Nat):AO:= .cells 97 [.ref id 0 0 0,.own row]
abbrev La(xs:List (List AD)):AO:= .row 5 1 xs
theorem JK:dd av 89 [.one (.ref 1000 0 0 0)] [(1000,NQ)] [(1000,.cells 97 [.ref 1000 0 0 0,.nil])] [1000] (.tup []):=by
 refine abO (id:=1000) call89 rfl λZ w ρ us hws ho hl hr=>?_;obtain⟨b,cs,hp,hg,hcl,hc⟩:=ho;obtain⟨u,rfl⟩:=List.length_eq_one_iff.1 hl;obtain⟨b',hb',rfl⟩:=FI (hr 0 _ _ rfl rfl);rw[hp]at hb';injection hb' with hb'
 subst hb';match cs,hcl with
 |[u0,u1],_=>
  have h0:u0= .pointer none:=Ki (hc 0 _ _ rfl rfl);have h1:=hc 1 _ _ rfl rfl;subst h0;have:=sO b w (by rw[Lib.cell_of_heap hg];rfl) (by simp[World.shape?,hg]) (Lib.frozen_of_heap hg 0);refine this.mono ?_;rintro e w' ⟨rfl,rfl⟩;refine⟨_,b,rfl,by rw[hp];rfl,Lib.grownBy_setCell w b 0 _,⟨b,_,hp,yL hg,rfl,λi c u hx hu=>?_⟩,.tup _ [] rfl ah⟩;match i with
  |0=>simp at hx hu;subst hx hu;exact⟨b,by rw[hp];rfl,rfl⟩
  |1=>simp at hx hu;subst hx hu;exact h1
  |i+2=>simp at hx
theorem JL(xs:List (List AD)):dd av 89 [.one (.ref 1000 0 0 0)] [(1000,Ey 1000 1001),(1001,La xs)] [(1000,Ey 1000 1001),(1001,La xs)] [1000,1001] (.tup []):=by
 refine abI call89 λZ w ρ us hws hl hr=>?_;obtain⟨b,cs,hp,hg,hcl,hc⟩:=hws.obj 1000 _ rfl;obtain⟨u,rfl⟩:=List.length_eq_one_iff.1 hl;obtain⟨b',hb',rfl⟩:=FI (hr 0 _ _ rfl rfl);rw[hp]at hb';injection hb' with hb'
 subst hb';match cs,hcl with
 |[u0,u1],_=>
  obtain⟨b2,hb2,h0⟩:=hc 0 _ _ rfl rfl;rw[hp]at hb2;injection hb2 with hb2
  subst hb2;subst h0;refine(uO b w (by rw[Lib.cell_of_heap hg];rfl)).mono ?_;rintro e w' ⟨rfl,rfl⟩;exact⟨_,rfl,⟨rfl,rfl,rfl,Nat.le_refl _,λ_ _ _=>rfl⟩,.tup _ [] rfl ah⟩
theorem wC(s:ByteArray)(hs:s.size<=140737488355328):dd av 23 [.one (.ref 1000 0 0 0),.one (.d (dS s))] [(1000,NQ)] [(1000,Ey 1000 14),(14,La (dY s))] [1000] (.tup [.one (.d (dI s.size)),.one (.d (.pv .nilIface))]):=by
 refine cH aM func23 rfl call23 ntmps23 (ace results23) rfl λS pv=>?_;conv=>whnf
 repeat'((first|refine awz ?_|refine aaI JK [(1000,1000)] rfl rfl ?_|refine And.intro hs ?_|exact rr|fail)<;>conv=>whnf)
theorem eD(xs:List (List AD))(s:ByteArray)(hs:xs.length+s.size<=140737488355328):dd av 23 [.one (.ref 1000 0 0 0),.one (.d (dS s))] [(1000,Ey 1000 1001),(1001,La xs)] [(1000,Ey 1000 1001),(1001,La (xs++dY s))] [1000] (.tup [.one (.d (dI s.size)),.one (.d (.pv .nilIface))]):=by
 refine cH aM func23 rfl call23 ntmps23 (ace results23) rfl λS pv=>?_;conv=>whnf
 repeat'((first|refine awz ?_|refine aaI (JL xs) [(1000,1000),(1001,1001)] rfl rfl ?_|refine And.intro hs ?_|exact rr|fail)<;>conv=>whnf)
theorem EP(w:World)(g n:Nat):w.grownBy (w.drew.freeze ⟨g,0,none⟩ n) (some g):=by
 by_cases hn:n=0
 ·subst hn;exact⟨rfl,rfl,rfl,Nat.le_refl _,λ_ _ _=>rfl⟩
 ·have e:w.drew.freeze ⟨g,0,none⟩ n={w.drew with heap:=w.heap.modify g fun| .cells c elem (lo,hi)=> .cells c elem (if lo==hi then(0,0+n)else(min lo 0,max hi (0+n)))|o=>o}:=by
   unfold World.freeze;rw[if_neg hn];rfl
  rw[e];refine⟨rfl,rfl,rfl,by simp,λk hk hne=>?_⟩;have:g≠k:=λe=>hne (by rw[e]);simp[Array.getElem?_modify,this]
theorem Pu(b g cap:Nat)(l:List UInt8)(u0:Value)(w:World)(h0:l≠ [])(hbk:w.heap[b]? =some (.cells #[u0,.slice (some ⟨g,0,none⟩) l.length cap] 97 (0,0)))
  (hown:w.ownsRow 0 5 1 (.slice (some ⟨g,0,none⟩) l.length cap) l.length (Lib.byteCells l)):
  Calls Tryz.prog 26 #[.pointer (some ⟨b,0,none⟩)] w λe w'=>e= .returned (.string ⟨l.toArray⟩)/\w'=w.drew.freeze ⟨g,0,none⟩ l.length:=by
 have hl0:l.length≠0:=by simpa using h0
 have h2:=hown.2;rcases h2 with⟨h3,_⟩|⟨g',cap',cur,hv,_,hg,hnc,hcm,hcs,htake⟩
 ·cases h3
 injection hv with hv1 hv2 hv3
 injection hv1 with hv1
 injection hv1 with hv1
 subst hv1 hv3;have mixed:Tryz.prog.follows .mixedOrders=true:=ae;have c1:w.drew.cell? ⟨b,1,none⟩=some (.slice (some ⟨g,0,none⟩) l.length cap):=by
  have:w.drew.heap[b]? =_:=hbk;rw[Lib.cell_of_heap this];rfl
 have hSD:(Builtin.unsafeSliceData_ #[22] 156 #[.slice (some ⟨g,0,none⟩) l.length cap]).run Tryz.prog w.drew= .ok (.pointer (some ⟨g,0,none⟩)) w.drew:=Lib.run_unsafeSliceData_row _ _ _ _ _ _ ac;have hUS:(Builtin.unsafeString_ #[156,3] 9 #[.pointer (some ⟨g,0,none⟩),.int .i64 l.length]).run Tryz.prog w.drew= .ok (.string ⟨l.toArray⟩) (w.drew.freeze ⟨g,0,none⟩ l.length):=by
  refine Lib.run_unsafeString_row w.drew 156 3 9 5 underlying156 ae g cur.size (by have hg':w.drew.heap[g]? =_:=hg;simp[World.shape?,hg']) l h0 (by simp at hcs;omega) (by unfold maxLen at hcm;omega) ?_;intro j x hx;exact hown.cells (g:=g) rfl j (.int .u8 x.toNat) (by simp[Lib.byteCells,hx])
 go_enter Tryz.func26,Tryz.ntmps26
 go_wp2
 go_region_o
 all_goals(go_wp2;go_ret;exact⟨rfl,rfl⟩)
theorem Sz(l:List UInt8)(h0:l≠ []):dd av 26 [.one (.ref 1000 0 0 0)] [(1000,Ey 1000 1001),(1001,La (dY ⟨l.toArray⟩))] [(1000,.cells 97 [.ref 1000 0 0 0,.dead]),(1001,.frame [] [])] [] (.val (.one (.d (dL l)))):=by
 refine abH (id:=1001) (o:=La (dY ⟨l.toArray⟩)) call26 rfl λZ w ρ us hws hl hr=>?_;obtain⟨b,cs,hp,hg,hcl,hc⟩:=hws.obj 1000 _ rfl;obtain⟨ux,hs0,hxl,hxx,hxu,hown,hxd⟩:=hws.obj 1001 _ rfl;obtain⟨u,rfl⟩:=List.length_eq_one_iff.1 hl;obtain⟨b',hb',rfl⟩:=FI (hr 0 _ _ rfl rfl);rw[hp]at hb';injection hb' with hb'
 subst hb';match cs,hcl with
 |[u0,u1],_=>
  have h1:u1=ρ 1001:=(hc 1 _ _ rfl rfl).1;subst h1;have hlen:(dY ⟨l.toArray⟩).length=l.length:=by simp[dY]
  have hux:ux.flatten=Lib.byteCells l:=by
   have:ux=l.map λb=>[Value.int .u8 b.toNat]:=by
    apply List.ext_getElem?;intro i;rw[List.getElem?_map];cases hd:l[i]? with
    |none=>rw[List.getElem?_eq_none];rfl;rw[hxl,hlen];exact List.getElem?_eq_none_iff.1 hd
    |some n=>
     have hlt:i<ux.length:=by rw[hxl,hlen];exact(List.getElem?_eq_some_iff.1 hd).1
     rw[getElem?_eq_getElem hlt];have hx:(dY ⟨l.toArray⟩)[i]? =some [.pv (.int .u8 n.toNat)]:=by simp[dY,hd]
     have hu:=hxu ux[i] (List.getElem_mem hlt);obtain⟨y,hy⟩:=List.length_eq_one_iff.1 hu;have:=Ki (hxd i 0 _ _ _ y hx (getElem?_eq_getElem hlt) rfl (by rw[hy];rfl));simp[hy,this]
   rw[this];exact EK (λb:UInt8=>Value.int .u8 b.toNat) l
  rw[hux,hlen]at hown;have hl0:l.length≠0:=by simpa using h0
  rcases hown.2 with⟨_,hn⟩|⟨g,cap,cur,hv,_⟩
  ·exact absurd hn hl0
  ·rw[hv]at hg hown;refine(Pu b g cap l u0 w h0 hg hown).mono ?_;rintro e w' ⟨rfl,rfl⟩;refine⟨_,rfl,?_,λρ'=> .one _ _ (show co Z _ (.pv _) _ from .pv _ rfl)⟩;rw[hv];exact EP w g l.length
theorem abP{E:bx}(he:E.Ok){f:FuncId}{args:List AP1}{vs:List Value}(enter:∀(us:Array Value) w,(callFunc f us).run E.P w= .ok (.enter f us) w)(hp:args.all AP1.isPl=true)(hv:∀v∈vs,v.oneCell'=true)
  (h:∀w,E.W w->Calls E.P f (args.map AP1.pl).toArray w λe w'=>e= .returned (.tuple vs.toArray)/\Below w.heap.size w w'):aN E f args (.tup (vs.map λv=> .one (.pv v))):=by
 refine⟨enter,λZ w us hz hg hl hr=>?_⟩;have:us=args.map AP1.pl:=by
  apply List.ext_getElem?;intro i;rw[List.getElem?_map];cases hd:args[i]? with
  |none=>rw[List.getElem?_eq_none];rfl;rw[hl];exact List.getElem?_eq_none_iff.1 hd
  |some d=>
   have hlt:i<us.length:=by rw[hl];exact(List.getElem?_eq_some_iff.1 hd).1
   rw[getElem?_eq_getElem hlt];have hp:d.isPl=true:=List.all_eq_true.1 hp d (List.mem_of_getElem? hd);simp[Kh hp (hr i d us[i] hd (getElem?_eq_getElem hlt))]
 subst this;refine(h w (WI he hg)).mono ?_;rintro e w' ⟨rfl,hb⟩;refine⟨_,Z,rfl,hb,λ_ h=>h,λ_ h=> .inl h,vs,rfl,by simp,λi p u hp hu=>?_⟩;rw[List.getElem?_map,hu]at hp;injection hp with hp
 subst hp;exact .pv _ (hv _ (List.mem_of_getElem? hu))
theorem JD(w:World)(n:Nat):Below w.heap.size w (w.drewN n):=by
 induction n with
 |zero=>exact Below.refl _ _
 |succ n ih=>exact ih.drew
theorem fD(w:List UInt8):(⟨w.toArray⟩:ByteArray).size=w.length:=by simp[ByteArray.size]
theorem WV{w:List UInt8}(hk:k<w.length):(⟨w.toArray⟩:ByteArray)[k]? =some w[k]:=by
 rw[getElem?_pos _ k (by rw[fD];exact hk)];rfl
theorem Ms(h:b=true->False):AP.val (AP1.one (AD.pv (Value.bool false)))=rB b:=by cases b;rfl;exact(h rfl).elim
theorem WR(h:b=true):AP.val (AP1.one (AD.pv (Value.bool true)))=rB b:=by rw[h]
theorem W8{b:UInt8}{n:Nat}(h:((b.toNat:Int)==(n:Int))=true):b.toNat=n:=by
 have:(b.toNat:Int)=(n:Int):=by simpa only[beq_iff_eq]using h
 omega
theorem K9{α:Type}{p:α->Bool}{l:List α}(hk:k<l.length)(h:(l.take k).all p=true)(h2:p l[k]=true):(l.take (k+1)).all p=true:=by
 rw[<-List.take_append_getElem hk,List.all_append,h];simp[h2]
theorem H5(w:List UInt8)(m:Nat)(hw:w.length<=2000000)(hm:m<=1000):aN av 92 [pL w,pI m] (rB (xB w m)):=by
 refine pO func92 call92 ntmps92 results92 λS=>?_;conv=>whnf
 repeat'(first|refine awz ?_|(have hlt:0<w.length:=(by simp only[fD,decide_eq_true_eq,decide_eq_false_iff_not,beq_iff_eq,beq_eq_false_iff_ne,length_map,not_eq_true',not_eq_false',ne_eq]at*;omega);refine⟨0,w[0]'hlt,rfl,WV hlt,?_⟩;conv=>whnf)|refine tB ?_ ?_|(intro h;conv=>whnf))
 ·refine Ms λh0=>?_;exact(iW.1 h0).1 (List.length_eq_zero_iff.1 (by simp only[fD,beq_iff_eq]at h;omega))
 ·refine Ms λh0=>?_;have:=(iW.1 h0).2.1;simp only[fD,decide_eq_true_eq]at h;omega
 ·refine Ms λh0=>?_;have hl:1<w.length:=(by simp only[fD,decide_eq_true_eq,decide_eq_false_iff_not,beq_iff_eq,beq_eq_false_iff_ne,length_map,not_eq_true',not_eq_false',ne_eq]at*;omega);have h3:=(iW.1 h0).2.2.1;have h4:=W8 (n:=48) h;rcases h3 with h3|h3
  ·omega
  ·apply h3;rw[List.head?_eq_getElem?,getElem?_eq_getElem ac];exact congrArg some (UInt8.toNat_inj.1 h4)
 all_goals
  have h1:w≠ []:=by
   have:0<w.length:=(by simp only[fD,decide_eq_true_eq,decide_eq_false_iff_not,beq_iff_eq,beq_eq_false_iff_ne,length_map,not_eq_true',not_eq_false',ne_eq]at*;omega);exact List.length_pos_iff.1 this
  have h2:w.length<=m:=(by simp only[fD,decide_eq_true_eq,decide_eq_false_iff_not,beq_iff_eq,beq_eq_false_iff_ne,length_map,not_eq_true',not_eq_false',ne_eq]at*;omega);have h3:w.length<=1\/w.head?≠some 48:=by
   by_cases hl:w.length<=1
   ·exact .inl hl
   ·refine .inr λe=>?_;rw[List.head?_eq_getElem?,getElem?_eq_getElem ac]at e;injection e with e
    first
     |(rw[e]at h;revert h;decide)
     |(simp only[fD,decide_eq_false_iff_not]at h;omega)
  have no:∀(k:Nat) (hk:k<w.length),sQ w[k]=false->xB w m=true->False:=λk hk h h0=>by
   have:=(List.all_eq_true.1 (iW.1 h0).2.2.2) _ (List.getElem_mem hk);rw[h]at this;cases this
  clear h;refine aaK (λk:Nat=>k<=w.length/\(w.take k).all sQ=true) (4::5::rg 25 16) (λk=>[(5,vI .i64 (k:Int))]) (λk=>[]) (λk=>w.length-k) 0 ⟨ac,rfl⟩ ?_ aaE (λk hR=>?_)<;>(conv=>whnf)
  ·repeat'(first|exact trivial|(refine And.intro rfl ?_;conv=>whnf)|fail)
  ·obtain⟨hk,hall⟩:=hR;repeat'(first|refine awz ?_|(have hlt:k<w.length:=(by simp only[fD,decide_eq_true_eq,decide_eq_false_iff_not,beq_iff_eq,beq_eq_false_iff_ne,length_map,not_eq_true',not_eq_false',ne_eq]at*;omega);refine⟨k,w[k]'hlt,rfl,WV hlt,?_⟩;conv=>whnf)|(refine aaH (by simp only[fD,decide_eq_true_eq,decide_eq_false_iff_not,beq_iff_eq,beq_eq_false_iff_ne,length_map,not_eq_true',not_eq_false',ne_eq]at*;omega) (by simp only[fD,decide_eq_true_eq,decide_eq_false_iff_not,beq_iff_eq,beq_eq_false_iff_ne,length_map,not_eq_true',not_eq_false',ne_eq]at*;omega) ?_;conv=>whnf)|refine tB ?_ ?_|(intro h;conv=>whnf))
   ·have hlt:k<w.length:=(by simp only[fD,decide_eq_true_eq,decide_eq_false_iff_not,beq_iff_eq,beq_eq_false_iff_ne,length_map,not_eq_true',not_eq_false',ne_eq]at*;omega);refine Ms (no k hlt ?_);simp only[sQ,Bool.and_eq_false_iff,decide_eq_false_iff_not,UInt8.le_iff_toNat_le];have:=h;simp only[decide_eq_true_eq]at this;left;simp;omega
   ·have hlt:k<w.length:=(by simp only[fD,decide_eq_true_eq,decide_eq_false_iff_not,beq_iff_eq,beq_eq_false_iff_ne,length_map,not_eq_true',not_eq_false',ne_eq]at*;omega);refine Ms (no k hlt ?_);simp only[sQ,Bool.and_eq_false_iff,decide_eq_false_iff_not,UInt8.le_iff_toNat_le];have:=h;simp only[decide_eq_true_eq]at this;right;simp;omega
   ·have hlt:k<w.length:=(by simp only[fD,decide_eq_true_eq,decide_eq_false_iff_not,beq_iff_eq,beq_eq_false_iff_ne,length_map,not_eq_true',not_eq_false',ne_eq]at*;omega);refine a8.mk ⟨k+1,⟨hlt,K9 hlt hall (kE.2 ?_)⟩,ac,?_,aaE⟩
    ·simp only[decide_eq_false_iff_not]at*;omega
    ·exact hds
   ·have:k=w.length:=(by simp only[fD,decide_eq_true_eq,decide_eq_false_iff_not,beq_iff_eq,beq_eq_false_iff_ne,length_map,not_eq_true',not_eq_false',ne_eq]at*;omega);subst this;rw[List.take_length]at hall;exact WR (iW.2 ⟨h1,h2,h3,hall⟩)
theorem OA(w:List UInt8)(h:xB w 10=true):aN av 93 [pL w,pI 10,pI 64] (.tup [.one (dI (vR w)),.one (.pv .nilIface)]):=by
 refine abP aM (vs:=[.int .i64 (vR w),.nilIface]) call93 rfl (by simp[Value.oneCell']) λW hW=>?_;have hl:=(iW.1 h).2.1;refine(Tryz.strconv_ParseInt_10_at64_ok ⟨w.toArray⟩ (by rw[fD];omega) (vR w) (by simpa using Ke h) W).mono ?_;rintro e w' ⟨rfl,hw⟩;refine⟨rfl,?_⟩;rcases hw with rfl|⟨t,rfl⟩
 ·exact Below.refl _ _
 ·exact Lib.bytesWorld_below _ _ _
abbrev dSs(l:List (List UInt8)):AD:= .sl (l.map eS)
def T2:List (List UInt8):=[[108,111,103],[115,116,111,114,101],[108,101,102,116],[114,105,103,104,116],[97,110,110],[98,111,98]]
end
open Go.RowKit
theorem yH(l:List UInt8)(a b:Nat):(⟨l.toArray⟩:ByteArray).extract a b=⟨((l.take b).drop a).toArray⟩:=by
 rw[Lib.extract_eq];simp only[List.toList_toArray];rw[List.drop_take]
theorem Gt{l:List UInt8}{f i:Nat}(hf:f<=i)(hi:i<l.length):l.drop f=(l.take i).drop f++l[i]::l.drop (i+1):=by
 conv=>lhs;rw[<-List.take_append_drop i l]
 rw[List.drop_append_of_le_length (by rw[List.length_take];omega),List.drop_eq_getElem_cons hi]
theorem AW.u8{n:Int}{K:Int->Prop}(h0:0<=n)(h1:n<=255)(h:K n):AW .u8 n K:=⟨n,by rw[IntKind.wrap_u8];omega,h⟩
theorem TJ(n:Nat):Lib.itoa (n:Int)=Lib.decDigits n:=by
 unfold Lib.itoa;rw[if_neg ac];rfl
section
section
variable {E:bx}
abbrev GP:AD:= .pv (.slice none 0 0)
def PM(E:bx)(st:ASt)(rs:List ResultVar):Prop:=
 match rs with
 |[.tmp t]=>aTm st.tm t λv=>v= .one .nil
 |_=>False
def Zt(E:bx)(rs:List ResultVar):Exit->ASt->Prop
 | .ret,st=>PM E st rs
 | .normal,st=>PM E st rs
 |_,_=>False
theorem xd(he:E.Ok){f:FuncId}{fn:Func}{c:Code}{n:Nat}{rs:List ResultVar}{args:List AP1}(hf:E.P.funcs[f]? =some fn)(hb:fn.body=some c)
  (enter:∀(us:Array Value) w,(callFunc f us).run E.P w= .ok (.enter f us) w) (hn:fn.ntmps=n) (hrs:fn.results.toList=rs)
  (h:∀S,BW args n λtm=>AWP E S c (Zt E rs) ⟨tm,[]⟩):aN E f args (.val (.one GP)):=by
 refine⟨enter,λZ w us hz hg hl hr=>?_⟩;subst hn hrs;obtain⟨hle,hk⟩:=ng (h ⟨w,λ_=>False,Z⟩);have hs:Sim E.W ⟨w,λ_=>False,Z⟩ Z (λ_=>undef) ⟨args.map AP1.v++List.replicate (fn.ntmps-args.length) (.one .und),[]⟩ {tmps:=us.toArray++Array.replicate (fn.ntmps-us.toArray.size) undef,defers:=[]} w:=by
  refine⟨⟨rfl,rfl,rfl,Nat.le_refl _,λ_ _ _=>rfl,hz,λid o b ho _=>(by cases ho),λi j oi oj b hi _ _ _ _=>(by cases hi),λid o ho=>(by cases ho),kj.nil,hg,λb hb=>hb,λb hb=> .inl hb⟩,by simp[hl],λi x v hx hv=>?_,rfl⟩;simp only at hx hv;have hv':(us++List.replicate (fn.ntmps-us.length) undef)[i]? =some v:=by
   have:=hv;rw[<-Array.getElem?_toList]at this;simpa using this
  by_cases hi:i<us.length
  ·rw[List.getElem?_append_left (by simpa[hl]using hi),List.getElem?_map]at hx;obtain⟨p,hp,rfl⟩:=Option.map_eq_some_iff.1 hx;rw[List.getElem?_append_left hi]at hv';exact(hr i p v hp hv').v
  ·rw[List.getElem?_append_right al]at hx;rw[List.getElem?_append_right ac]at hv';have e1:=List.eq_of_mem_replicate (List.mem_of_getElem? hx);have e2:=List.eq_of_mem_replicate (List.mem_of_getElem? hv');subst e1 e2;exact .one _ _ (show fp Z w (λ_=>undef) .und undef from rfl)
 refine calls_of_wp hf hb (wp_mono (hk.run _ w ⟨Z,_,hs⟩) λe a' w' h'=>?_);obtain⟨st',⟨Z',ρ',hs'⟩,hk'⟩:=h';have key:∀(v:Value),cu Z' w' ρ' (.one .nil) v->v= .slice none 0 0:=λv hv=>by cases hv with|one _ _ hv=>exact hv
 have fin:PM E st' fn.results.toList->a'.defers=[]/\∃v,(results fn a'.tmps).run E.P w'= .ok v w'/\∃v0 Z',Ending.returned v= .returned v0/\Below w.heap.size w w'/\(∀b,Z b->Z' b)/\(∀b,Z' b->Z b\/(w.heap.size<=b/\b<w'.heap.size))/\xr Z' w' (.val (.one GP)) v0:=by
  intro hr;have hv:(results fn a'.tmps).run E.P w'= .ok (.slice none 0 0) w':=by
   unfold PM at hr;split at hr
   ·rename_i t hrs;obtain⟨x,hx,rfl⟩:=jU hr;have hlt:t<a'.tmps.size:=by rw[hs'.len];exact(List.getElem?_eq_some_iff.1 hx).1
    have:=key _ (hs'.tm t _ _ hx (Array.getElem?_eq_getElem hlt));have e:results fn a'.tmps=(do let vs<-fn.results.mapM (fJ a'.tmps);pure (if h:vs.size=1 then vs[0]else .tuple vs)):=rfl;rw[e,Sem.run_bind,Array.mapM_eq_mapM_toList,Sem.run_map,hrs,List.mapM_cons,Sem.run_bind];simp[fJ,hlt,this]
   ·exact hr.elim
  refine⟨hs'.df,_,hv,_,λb=>Z b,rfl,⟨hs'.ws.os,hs'.ws.tape,hs'.ws.output,hs'.ws.size,λb hb=>hs'.ws.old b hb (λh=>h)⟩,λb hb=>hb,λb hb=> .inl hb,(show co _ _ GP _ from .pv _ rfl)⟩
 cases e with
 |normal=>exact fin hk'
 |ret=>exact fin hk'
 |_=>exact hk'.elim
def Xm(v:AV)(b:Bool):Prop:=(v= .one (.d GP)/\b=true)\/(v= .one .nil/\b=true)\/(∃x y xs,v= .one (.d (.sl ((x::y)::xs)))/\b=false)
theorem aaT{S:bZ}{o:Oper}{st:ASt}{K:ASt->Prop}{t e:TypeId}{x:Operand}{p:TypeId}(b:Bool)(ho:o.op= .binOp .eql t x (.const (.slice none 0 0)) p)(ht:E.P.underlying t=some (.slice e))
  (hx:aEv st x λv=>Xm v b) (hk:fa st o.dst (vB b) K):AOp E S o st K:=by
 refine .reads λZ ρ a w hsim=>?_;obtain⟨v,hv,hx⟩:=bz hsim hx;have key:∃A l c,a.eval x= .slice A l c/\A.isNone=b:=by
  rcases hx with⟨rfl,rfl⟩|⟨rfl,rfl⟩|⟨y,ys,xs,rfl,rfl⟩
  ·cases hv with|one _ _ hv=>
    have:a.eval x= .slice none 0 0:=Ki hv;exact⟨_,_,_,this,rfl⟩
  ·cases hv with|one _ _ hv=>exact⟨_,_,_,hv,rfl⟩
  ·cases hv with|one _ _ hv=>
    have hv:co Z w (.sl ((y::ys)::xs)) (a.eval x):=hv;generalize a.eval x=u at hv;cases hv with
    |sl _ A cap s us h1 h2 h3 h4 h5 h6 h7=>
     refine⟨_,_,_,rfl,?_⟩;rcases h6 with h6|⟨b,off,rfl,_⟩
     ·exfalso;have hs:s=ys.length+1:=(h4 (y::ys) ah).symm;match us,h3 with
      |u::r,_=>
       have:=h5 u ah;rw[List.flatten_cons,List.append_eq_nil_iff]at h6;rw[h6.1,hs]at this;simp at this
     ·rfl
 obtain⟨A,l,c,e1,e2⟩:=key;refine⟨_,.bool b,cQ rfl,?_,hk⟩;have hb:(binOp .eql t (.slice A l c) (.slice none 0 0)).run E.P w= .ok (.bool b) w:=by
  simp only[binOp];simp[run_equal_slice_nil w t e A l c ht,e2]
 have hc:a.eval (.const (.slice none 0 0))= .slice none 0 0:=rfl;simp[execOp,ho,e1,hc,eqGuard_at_slice,hb]
end
end
section
open Go.Proofs.Tryz
variable {w:List UInt8}
def Ox(ws:List (List UInt8)):Bool:=ws.all λw=>xB w 9
def Ab(ws:List (List UInt8)):List Int:=ws.map λw=>(vR w:Int)
theorem US{m n:Nat}(h:m<=n)(hd:xB w m=true):xB w n=true:=by
 obtain⟨a,b,c,d⟩:=iW.1 hd;exact iW.2 ⟨a,ac,c,d⟩
theorem WM(hd:xB w 9=true):(vR w:Int)<1000000000:=by
 obtain⟨a,b,c,d⟩:=iW.1 hd;have h1:=Qu _ d;have h2:10^w.length<=10^9:=Nat.pow_le_pow_right ac b;omega
theorem J5(ws:List (List UInt8))(hl:ws.length<=1000000)(hw:∀w∈ws,w.length<=2000000)(hok:Ox ws=true):dd av 29 [.one (.d (dSs ws))] [] [(9,.row 2 1 ((Ab ws).map eI))] [] (.tup [.one (.own 9),.one (.d (dB true))]):=by
 refine cH aM func29 rfl call29 ntmps29 (ace results29) rfl λS pv=>?_;conv=>whnf
 repeat'(first|refine awz ?_|fail)
 refine aaK (λk:Nat=>k<=ws.length/\(ws.take k).all (λw=>xB w 9)=true) (9::[2,3,4,6,7,8,12,13,14,15,16,17,18,19,20,21,22,23,24,25,26,27,28]) (λk=>[(4,.one (.own 9)),(12,vI .i64 (k:Int))]) (λk=>[(9999,.frame (dC []) pv),(9,.row 2 1 ((Ab (ws.take k)).map eI))]) (λk=>ws.length-k) 0 ⟨ac,rfl⟩ ?_ sbW (λk hR=>?_)<;>(conv=>whnf)
 ·repeat'(first|exact trivial|(refine And.intro rfl ?_;conv=>whnf)|fail)
 ·obtain⟨hk,hall⟩:=hR;by_cases hlt:k<ws.length
  ·have h1:decide ((k:Int)<((ws.map eS).length:Int))=true:=by simp[hlt]
   have hwl:=hw ws[k] (List.getElem_mem hlt);have hnl:((Ab (ws.take k)).map eI).length=k:=by simp[Ab];omega
   cases hd:xB ws[k] 9 with
   |false=>
    have h2:=H5 ws[k] 9 hwl ac;rw[hd]at h2;have h3:xB ws[k] 9=true:=List.all_eq_true.1 hok _ (List.getElem_mem hlt);rw[hd]at h3;cases h3
   |true=>
    have h2:=H5 ws[k] 9 hwl ac;rw[hd]at h2;have h3:=OA ws[k] (US ac hd);have h4:=WM hd;repeat'((first|refine awz ?_|refine aaM hlt ?_|refine aaB h2 rfl ?_|refine aaB h3 rfl ?_|refine KM (by rw[hnl];simp only[List.length_cons,List.length_nil];omega) ?_|refine aaH ac ac ?_|fail)<;>conv=>whnf)
    have hrow:(Ab (ws.take k)).map eI++[[dI (vR ws[k]:Int)]]=(Ab (ws.take (k+1))).map eI:=by
     unfold Ab;rw[<-List.take_append_getElem hlt,List.map_append,List.map_append];rfl
    refine a8.mk ⟨k+1,⟨hlt,K9 hlt hall hd⟩,ac,?_,aaC rfl (aaC (congrArg some (congrArg (AO.row 2 1) hrow)) aaE)⟩;exact hds
  ·have hkl:k=ws.length:=ac;subst hkl;have h1:decide ((ws.length:Int)<((ws.map eS).length:Int))=false:=ah;rw[List.take_length];repeat'(first|refine awz ?_|exact rr|fail)
end
open Go.ChangeShapes Go.WideShapes
section
open Go.Proofs.Tryz
variable {w:aP}
theorem A2(h:aZ w=true):w.up.length=6:=by
 rw[gT]at h;simp only[Bool.and_eq_true,decide_eq_true_eq]at h;exact h.1.1.1.1.1.2
theorem Jd(h:aZ w=true)(h0:cq w 0=true):logOk w.log=true:=by
 rw[gT]at h;simp only[Bool.and_eq_true,h0,if_true]at h;exact h.1.2
theorem C7(h:aZ w=true)(h1:cq w 1=true):storeOk w.store=true:=by
 rw[gT]at h;simp only[Bool.and_eq_true,h1,if_true]at h;exact h.2
theorem L2{n:aS}(h:logOk n=true):0<=n.durable/\n.durable<=2000:=by
 rw[nS]at h;simp only[Bool.and_eq_true]at h;obtain⟨⟨⟨h1,h2⟩,_⟩,_⟩:=h;have hb:=(J0 h1).2.2.1;have hl:=gx hb;have hp:=(fb hb).1;simp only[nT,Bool.and_eq_true,aJ,decide_eq_true_eq]at h2;omega
theorem Nk{s:bK}(h:storeOk s=true):0<=s.state.index/\s.state.index<=2000:=by
 simp only[storeOk,bB,Bool.and_eq_true,aJ,decide_eq_true_eq]at h;omega
theorem eX(w:aP)(k:Nat)(hk:k<6)(hs:aaN 1048576 w):aN av 38 [.agg w.ds,.one (dI (k:Int))] (rB (aZ w&&cq w k)):=by
 have hn:aJ (k:Int) 0 5=true:=by simp[aJ];omega
 refine pO func38 call38 ntmps38 results38 λS=>?_;conv=>whnf
 repeat'((first|refine awz ?_|refine cP (dA w hs) ?_|refine cP (w6 _) ?_|refine aaG k _ rfl (e9 (A2 aj) hk) ?_|refine tB ?_ ?_|intro h)<;>conv=>whnf)
 all_goals
  refine bE ?_;simp_all
theorem oT(w:aP)(k:Nat)(hk:k<6)(hs:aaN 1048576 w):aN av 104 [.agg w.ds,.one (dI (k:Int))] (rB (aZ w&&cq w k)):=by
 have hn:aJ (k:Int) 0 5=true:=by simp[aJ];omega
 refine pO func104 call104 ntmps104 results104 λS=>?_;conv=>whnf
 repeat'((first|refine awz ?_|refine cP (bd w hs) ?_|refine cP (sA _) ?_|refine aaG k _ rfl (e9 (A2 aj) hk) ?_|refine tB ?_ ?_|intro h)<;>conv=>whnf)
 all_goals
  refine bE ?_;simp_all
end
open Go.Proofs.Tryz
def JE(b:Bool):Int:=if b then 1 else 0
theorem jE(b:Bool):aN av 46 [.one (dB b)] (.val (pI (JE b))):=by
 cases b
 ·refine pO func46 call46 ntmps46 results46 λS=>?_;conv=>whnf
  repeat'(first|refine awz ?_|fail)
  rfl
 ·refine pO func46 call46 ntmps46 results46 λS=>?_;conv=>whnf
  repeat'(first|refine awz ?_|fail)
  rfl
theorem nx(b:Bool):aN av 101 [.one (dB b)] (.val (pI (JE b))):=by
 cases b
 ·refine pO func101 call101 ntmps101 results101 λS=>?_;conv=>whnf
  repeat'(first|refine awz ?_|fail)
  rfl
 ·refine pO func101 call101 ntmps101 results101 λS=>?_;conv=>whnf
  repeat'(first|refine awz ?_|fail)
  rfl
theorem abc{E:bx}{S:bZ}{f:FuncId}{id k s off:Nat}{st:ASt}{K:AV->ASt->Prop}(d:Nat)(enter:∀(us:Array Value) w,(callFunc f us).run E.P w= .ok (.enter f us) w)
  (h:∀b o w,Calls E.P f #[.pointer (some ⟨b,o,none⟩)] w λe w'=>e= .returned (.pointer (some ⟨b,o+d,none⟩))/\w'=w) (hk:K (.one (.ref id k s (off+d))) st):aI E S f [.one (.ref id k s off)] st K:=by
 refine⟨enter,λZ ρ a w us hs hl hr=>?_⟩;match us,hl with
 |[v],_=>
  have:=hr 0 _ v rfl rfl;cases this with
  |one _ _ hv=>
   obtain⟨b,hb,rfl⟩:=hv;refine(h b (k*s+off) w).mono ?_;rintro e w' ⟨rfl,rfl⟩;exact⟨_,_,st,Z,ρ,rfl,hs,.one (.ref id k s (off+d)) _ (show fp Z w' ρ (.ref id k s (off+d)) _ from⟨b,hb,by rw[Nat.add_assoc]⟩),hk⟩
section
variable {c:List Int}
def eZ(l:List Int):Int:=if bQ l&&decide (l.length≠0)&&aJ (l.getD 0 0) 1 9 then l.getD 0 0 else 0
theorem Ia(l:List Int):0<=eZ l/\eZ l<=9:=by
 unfold eZ;split
 ·rename_i h;simp only[aJ,Bool.and_eq_true,decide_eq_true_eq]at h;omega
 ·omega
theorem nw(l:List Int):aN av 105 [.one (dIs l)] (.val (pI (eZ l))):=by
 cases hr:bQ l with
 |false=>
  have hn:(!bQ l)=true:=by rw[hr];rfl
  have e:eZ l=0:=by simp[eZ,hr]
  rw[e];refine pO func105 call105 ntmps105 results105 λS=>?_;conv=>whnf
  repeat'(first|refine awz ?_|(refine cP (cM l) ?_;conv=>whnf)|exact rr|fail)
 |true=>
  have hn:(!bQ l)=false:=by rw[hr];rfl
  rcases l with _|⟨x,r⟩
  ·have e:eZ []=0:=by simp[eZ]
   rw[e];refine pO func105 call105 ntmps105 results105 λS=>?_;conv=>whnf
   repeat'(first|refine awz ?_|(refine cP (cM []) ?_;conv=>whnf)|exact rr|fail)
  ·have h0:((((x::r).map eI).length:Int)==0)=false:=al;cases hb:aJ x 1 9 with
   |false=>
    have hn2:(!aJ x 1 9)=true:=by rw[hb];rfl
    have e:eZ (x::r)=0:=by simp[eZ,hb]
    rw[e];refine pO func105 call105 ntmps105 results105 λS=>?_;conv=>whnf
    repeat'((first|refine awz ?_|refine cP (cM (x::r)) ?_|refine aaG 0 _ rfl rfl ?_|refine cP (aQ _ _ _) ?_|exact rr|fail)<;>conv=>whnf)
   |true=>
    have hn2:(!aJ x 1 9)=false:=by rw[hb];rfl
    have e:eZ (x::r)=x:=by simp[eZ,hb,hr]
    rw[e];refine pO func105 call105 ntmps105 results105 λS=>?_;conv=>whnf
    repeat'((first|refine awz ?_|refine cP (cM (x::r)) ?_|refine aaG 0 _ rfl rfl ?_|refine cP (aQ _ _ _) ?_|exact rr|fail)<;>conv=>whnf)
theorem H1(l:List Int):aN av 71 [.one (dIs l)] (.val (pI (eZ l))):=by
 rcases l with _|⟨x,r⟩
 ·have e:eZ []=0:=by simp[eZ]
  rw[e];refine pO func71 call71 ntmps71 results71 λS=>?_;conv=>whnf
  repeat'(first|refine awz ?_|exact rr|fail)
 ·have h0:((((x::r).map eI).length:Int)==0)=false:=al;cases hr:bQ (x::r)with
  |false=>
   have hn:(!bQ (x::r))=true:=by rw[hr];rfl
   have e:eZ (x::r)=0:=by simp[eZ,hr]
   rw[e];refine pO func71 call71 ntmps71 results71 λS=>?_;conv=>whnf
   repeat'(first|refine awz ?_|(refine cP (iu (x::r)) ?_;conv=>whnf)|exact rr|fail)
  |true=>
   have hn:(!bQ (x::r))=false:=by rw[hr];rfl
   cases hb:aJ x 1 9 with
   |false=>
    have hn2:(!aJ x 1 9)=true:=by rw[hb];rfl
    have e:eZ (x::r)=0:=by simp[eZ,hb]
    rw[e];refine pO func71 call71 ntmps71 results71 λS=>?_;conv=>whnf
    repeat'((first|refine awz ?_|refine cP (iu (x::r)) ?_|refine aaG 0 _ rfl rfl ?_|refine cP (ba _ _ _) ?_|exact rr|fail)<;>conv=>whnf)
   |true=>
    have hn2:(!aJ x 1 9)=false:=by rw[hb];rfl
    have e:eZ (x::r)=x:=by simp[eZ,hb,hr]
    rw[e];refine pO func71 call71 ntmps71 results71 λS=>?_;conv=>whnf
    repeat'((first|refine awz ?_|refine cP (iu (x::r)) ?_|refine aaG 0 _ rfl rfl ?_|refine cP (ba _ _ _) ?_|exact rr|fail)<;>conv=>whnf)
def NV(c:List Int)(m:cX):List Int:=c.set (eZ m.row).toNat (c.getD (eZ m.row).toNat 0+1)
def jz(l:List cX):List Int:=l.foldl NV (List.replicate 10 0)
theorem uP(l:List cX){k:Nat}(hk:k<l.length):jz (l.take (k+1))=NV (jz (l.take k)) l[k]:=by
 unfold jz;rw[sI hk,List.foldl_append];rfl
theorem Tf(c:List Int)(m:cX):(NV c m).length=c.length:=by simp[NV]
theorem Te{n:Int}(hc:∀x∈c,0<=x/\x<=n)(m:cX)(hn:0<=n):∀x∈NV c m,0<=x/\x<=n+1:=by
 intro x hx;rcases List.mem_or_eq_of_mem_set hx with hx|rfl
 ·have:=hc x hx;omega
 ·rw[List.getD_eq_getElem?_getD];cases h:c[(eZ m.row).toNat]? with
  |none=>simp;omega
  |some y=>have:=hc y (List.mem_of_getElem? h);simp;omega
theorem ic(l:List cX):∀k,k<=l.length->(jz (l.take k)).length=10/\∀x∈jz (l.take k),0<=x/\x<=(k:Int)
 |0,_=>by
  refine⟨rfl,λx hx=>?_⟩;have:=List.eq_of_mem_replicate (show x∈List.replicate 10 (0:Int)from hx);omega
 |k+1,hk=>by
  obtain⟨h1,h2⟩:=ic l k ac;rw[uP l ac];refine⟨by rw[Tf,h1],λx hx=>?_⟩;have:=Te h2 l[k] ac x hx;omega
theorem Tp{n:Nat}{l r:List Int}:Fam n n (l.map eI++r.map eI).flatten (l.map eI++r.map eI).flatten:=aaU (by simp[AD.isBl,eI])
def Dg(n:ee):List Int:=jz n.flight++[(n.cuts.length:Int)]
def cy(w:aP):List Int:=if aZ w then Dg w.net else []
theorem BR{w:aP}(h:aZ w=true):w.net.flight.length<=60/\w.net.cuts.length<=15:=by
 rw[gT]at h;simp only[Bool.and_eq_true,dT,decide_eq_true_eq]at h;omega
theorem JJ(h:c.length=10){k:Int}(h0:0<=k)(h9:k<=9):(c.map eI)[k.toNat]? =some (eI (c.getD k.toNat 0)):=by
 have hl:k.toNat<c.length:=ac;rw[List.getElem?_map,List.getElem?_eq_getElem hl,List.getD_eq_getElem?_getD,List.getElem?_eq_getElem hl];rfl
theorem PZ{m:cX}:(c.map eI).set (eZ m.row).toNat (eI (c.getD (eZ m.row).toNat 0+1))=(NV c m).map eI:=by
 unfold NV;rw[List.map_set]
theorem rF(w:aP)(hs:aaN 1048576 w):jt av 16 [.agg w.ds] (.one (.sl ((cy w).map eI))):=by
 cases hw:aZ w with
 |false=>
  have hn:(!aZ w)=true:=by rw[hw];rfl
  have e:cy w=[]:=by simp[cy,hw]
  rw[e];refine ew aM func16 rfl call16 ntmps16 (ace results16) λS=>?_;conv=>whnf
  repeat'(first|refine awz ?_|(refine cP (dA w hs) ?_;conv=>whnf)|fail)
  all_goals rfl
 |true=>
  have hn:(!aZ w)=false:=by rw[hw];rfl
  have e:cy w=Dg w.net:=by simp[cy,hw]
  have hN:=BR hw;rw[e];refine ew aM func16 rfl call16 ntmps16 (ace results16) λS=>?_;conv=>whnf
  repeat'(first|refine awz ?_|(refine cP (dA w hs) ?_;conv=>whnf)|fail)
  refine⟨10,rfl,rfl,by decide,by decide,?_⟩;conv=>whnf
  repeat'(first|refine awz ?_|fail)
  refine aaK (λk:Nat=>k<=w.net.flight.length) (9::[5,14,15,16,17,18,19,20,21,22,23,24,25,26]) (λk=>[(3,.one (.own 9)),(14,vI .i64 (k:Int))]) (λk=>[(9997,sR S.w0.heap.size S.w0.heap.size),(1,.cells 70 (w.ds.map .d)),(9,.row 2 1 ((jz (w.net.flight.take k)).map eI))]) (λk=>w.net.flight.length-k) 0 ac ?_ (aaC rfl (aaC rfl (aaC (congrArg some (congrArg (AO.row 2 1) (show List.replicate 10 [dI 0]=(jz (w.net.flight.take 0)).map eI from rfl))) aaE))) (λk hR=>?_)<;>(conv=>whnf)
  ·exact whd
  ·by_cases hlt:k<w.net.flight.length
   ·have hc:=ic w.net.flight k ac;have hr:=Ia (w.net.flight[k]).row;have hv:0<=(jz (w.net.flight.take k)).getD (eZ (w.net.flight[k]).row).toNat 0/\(jz (w.net.flight.take k)).getD (eZ (w.net.flight[k]).row).toNat 0<=60:=by
     have hl:(eZ (w.net.flight[k]).row).toNat<(jz (w.net.flight.take k)).length:=ac;rw[List.getD_eq_getElem?_getD,List.getElem?_eq_getElem hl];have:=hc.2 _ (List.getElem_mem hl);simp only[Option.getD_some];omega
    have hk:eZ (w.net.flight[k]).row=(((eZ (w.net.flight[k]).row).toNat:Nat):Int):=ac;have ht:decide ((k:Int)<((w.net.flight.map cX.ds).length:Int))=true:=al;repeat'((first|refine awz ?_|refine aaM hlt ?_|refine cP (H1 _) ?_|refine aaG _ _ hk (JJ hc.1 hr.1 hr.2) ?_|refine aaG _ _ rfl (JJ hc.1 hr.1 hr.2) ?_|refine aaH ac ac ?_|fail)<;>conv=>whnf)
    refine a8.mk ⟨k+1,hlt,ac,?_,aaC rfl (aaC rfl (aaC (congrArg some (congrArg (AO.row 2 1) (by rw[uP _ hlt];exact PZ))) aaE))⟩;exact hds
   ·have e:k=w.net.flight.length:=ac;subst e;have ht:decide ((w.net.flight.length:Int)<((w.net.flight.map cX.ds).length:Int))=false:=ah;have hc:=(ic w.net.flight w.net.flight.length (Nat.le_refl _)).1;rw[List.take_length]at hc;rw[List.take_length];repeat'(first|refine awz ?_|(refine And.intro (by simp[hc]) ?_;conv=>whnf)|fail)
    exact⟨_,_,(Dg w.net).map eI,Nat.le_refl _,by rw[Dg,List.map_append];simp only[List.length_map];exact Tp (r:=[(w.net.cuts.length:Int)]),by simp[Dg],(λy hy=>by obtain⟨a,_,rfl⟩:=List.mem_map.1 hy;rfl),rfl⟩
theorem At(w:aP)(hs:aaN 1048576 w):aN av 35 [.agg w.ds] (.val (.one (.sl ((cy w).map eI)))):=by
 cases hw:aZ w with
 |false=>
  have hn:(!aZ w)=true:=by rw[hw];rfl
  have e:cy w=[]:=by simp[cy,hw]
  rw[e];refine pO func35 call35 ntmps35 results35 λS=>?_;conv=>whnf
  repeat'(first|refine awz ?_|(refine cP (bd w hs) ?_;conv=>whnf)|fail)
  all_goals rfl
 |true=>
  have hn:(!aZ w)=false:=by rw[hw];rfl
  have e:cy w=Dg w.net:=by simp[cy,hw]
  have hN:=BR hw;rw[e];refine pO func35 call35 ntmps35 results35 λS=>?_;conv=>whnf
  repeat'(first|refine awz ?_|(refine cP (bd w hs) ?_;conv=>whnf)|fail)
  refine⟨10,rfl,rfl,by decide,by decide,?_⟩;conv=>whnf
  repeat'(first|refine awz ?_|fail)
  refine aaK (λk:Nat=>k<=w.net.flight.length) (10::[4,5,11,12,13,14,15,16,17,18,19,20,21,22,23,24,25,26,27,28,29,30,31,32,33,34]) (λk=>[(3,.one (.own 10)),(4,vI .i64 (k:Int))]) (λk=>[(1,.cells 70 (w.ds.map .d)),(10,.row 2 1 ((jz (w.net.flight.take k)).map eI))]) (λk=>w.net.flight.length-k) 0 ac ?_ (aaC rfl (aaC (congrArg some (congrArg (AO.row 2 1) (show List.replicate 10 [dI 0]=(jz (w.net.flight.take 0)).map eI from rfl))) aaE)) (λk hR=>?_)<;>(conv=>whnf)
  ·exact whd
  ·by_cases hlt:k<w.net.flight.length
   ·have hc:=ic w.net.flight k ac;have hr:=Ia (w.net.flight[k]).row;have hv:0<=(jz (w.net.flight.take k)).getD (eZ (w.net.flight[k]).row).toNat 0/\(jz (w.net.flight.take k)).getD (eZ (w.net.flight[k]).row).toNat 0<=60:=by
     have hl:(eZ (w.net.flight[k]).row).toNat<(jz (w.net.flight.take k)).length:=ac;rw[List.getD_eq_getElem?_getD,List.getElem?_eq_getElem hl];have:=hc.2 _ (List.getElem_mem hl);simp only[Option.getD_some];omega
    have hk:eZ (w.net.flight[k]).row=(((eZ (w.net.flight[k]).row).toNat:Nat):Int):=ac;have ht:decide ((k:Int)<((w.net.flight.map cX.ds).length:Int))=true:=al;repeat'((first|refine awz ?_|refine aaM hlt ?_|refine cP (nw _) ?_|refine aaG _ _ hk (JJ hc.1 hr.1 hr.2) ?_|refine aaG _ _ rfl (JJ hc.1 hr.1 hr.2) ?_|refine aaH ac ac ?_|fail)<;>conv=>whnf)
    refine a8.mk ⟨k+1,hlt,ac,?_,(aaC rfl (aaC (congrArg some (congrArg (AO.row 2 1) (by rw[uP _ hlt];exact PZ))) aaE))⟩;exact hds
   ·have e:k=w.net.flight.length:=ac;subst e;have ht:decide ((w.net.flight.length:Int)<((w.net.flight.map cX.ds).length:Int))=false:=ah;have hc:=(ic w.net.flight w.net.flight.length (Nat.le_refl _)).1;rw[List.take_length]at hc;rw[List.take_length];repeat'(first|refine awz ?_|(refine And.intro (by simp[hc]) ?_;conv=>whnf)|fail)
    all_goals(simp[Dg];rfl)
end
section
variable {s:Nat}{α:Type}
def ig:List (List Nat):=bC [0,1,129,12354,12354,1318979,4328796549,486506500228,35461415067975,12354,12354,168300747,13070241930,904124445388,0x2471460c108420e30b28d,0x30423cd28b30e2041851c9]
def ij:List (List Nat):=dW 14 [0,1,4,4763947,4763353,4763434,4763650,4764379,4766566,137767,59035,98401,275548,806989]
def kz:List (List Nat):=bC [0,0,0,131,16578,1319108,0,0,456,37383,2650633,0x1840c214b2481ca,0xc2872092c5083106,0x13461030852c920728c,0x38c2872092c5083106341]
def kB:List (List Nat):=dW 13 [1594320,176438,176426,176432,176459,176540,5102,2186,3644,10205,29888,88574,265721]
theorem z6{l:List α}{enc:α->List AD}(h:∀a,(enc a).length=s):∀y∈l.map enc,y.length=s:=λy hy=>by
 obtain⟨a,_,rfl⟩:=List.mem_map.1 hy;exact h a
theorem JY{l:List α}{enc:α->List AD}{a b:Nat}(h:∀a,(enc a).length=s):∀y∈((l.map enc).take b).drop a,y.length=s:=λy hy=>
 z6 h y (List.mem_of_mem_take (List.mem_of_mem_drop hy))
def opK(out:List eG)(d:Int):Nat->Nat
 |0=>0
 |k+1=>if(out.getD k ⟨0,0⟩).due>d then opK out d k else k+1
theorem T3(out:List eG)(d:Int):∀k,opK out d k<=k
 |0=>Nat.le_refl _
 |k+1=>by
  simp only[opK];split
  ·exact Nat.le_succ_of_le (T3 out d k)
  ·exact Nat.le_refl _
def yf(out:List eG)(j:bo):List eG:=(out.take (opK out j.due out.length)++[⟨j.id,j.due⟩])++out.drop (opK out j.due out.length)
def mT(l:List bo):List eG:=l.foldl (λout j=>if j.fired>0 then out else yf out j) []
theorem yR(l:List bo){k:Nat}(hk:k<l.length):mT (l.take (k+1))=if l[k].fired>0 then mT (l.take k)else yf (mT (l.take k)) l[k]:=by
 unfold mT;rw[sI hk,List.foldl_append];rfl
theorem Ip(out:List eG)(j:bo):(yf out j).length=out.length+1:=by
 have:=T3 out j.due out.length;simp[yf];omega
theorem Bz(l:List bo):∀k,k<=l.length->(mT (l.take k)).length<=k
 |0,_=>by simp[mT]
 |k+1,hk=>by
  have h:=Bz l k ac;rw[yR l ac];split
  ·omega
  ·rw[Ip];omega
theorem N9{l:List bo}(h:bO l=true):l.length<=8:=by
 simp only[bO,Bool.and_eq_true,decide_eq_true_eq]at h;omega
theorem ab4{n:Int}{K:Int->Prop}(c:Int)(e:n=c)(h1: -9223372036854775808<=c)(h2:c<=9223372036854775807)(hk:K c):AW .i64 n K:=by
 subst e;exact aaH h1 h2 hk
theorem JV(out:List eG)(d:bo)(j:Nat)(hj:opK out d.due out.length=j):
  (([]++((out.map eG.ds).take j).drop 0)++[[dI d.id,dI d.due]])++((out.map eG.ds).take (out.map eG.ds).length).drop j=(yf out d).map eG.ds:=by
 subst hj;simp[yf,List.map_append,List.map_take,List.map_drop];exact⟨rfl,by rw[List.take_of_length_le ah]⟩
theorem wh(l:List bo)(h:bO l=true):aN av 102 [.one (.sl (l.map bo.ds))] (.val (.one (.sl ((mT l).map eG.ds)))):=by
 have hn:(!bO l)=false:=by rw[h];rfl
 have h8:=N9 h;refine pO func102 call102 ntmps102 results102 λS=>?_;conv=>whnf
 repeat'((first|refine aw0 ?_|refine awx ?_|refine cP (fh l) ?_|fail)<;>conv=>whnf)
 refine AWP.freeze 7 212 2 [] rfl ?_;conv=>whnf
 refine aaK (λk:Nat=>k<=l.length) (3::4::5::6::rg 12 56) (λk=>[(3,.one (.d (.sl ((mT (l.take k)).map eG.ds)))),(4,vI .i64 (k:Int))]) (λ_=>[]) (λk=>l.length-k) 0 ac ?_ aaE (λk hR=>?_)<;>(conv=>whnf)
 ·exact whd
 ·by_cases hlt:k<l.length
  ·have hlen:=Bz l k ac;have hc:decide ((k:Int)<((l.map bo.ds).length:Int))=true:=al;have hsn:=yR l hlt;generalize hout:mT (l.take k)=out at hlen hsn⊢;cases hf:decide (l[k].fired>0)with
   |true=>
    rw[if_pos (of_decide_eq_true hf)]at hsn;repeat'((first|refine aw0 ?_|refine awx ?_|refine aaM hlt ?_|refine aaH ac ac ?_|fail)<;>conv=>whnf)
    refine a8.mk ⟨k+1,hlt,ac,?_,aaE⟩;simp only[hsn];exact hds
   |false=>
    rw[if_neg (of_decide_eq_false hf)]at hsn;repeat'((first|refine aw0 ?_|refine awx ?_|refine aaM hlt ?_|fail)<;>conv=>whnf)
    have hm:(out.map eG.ds).length=out.length:=ah;refine aaK (λj:Nat=>j<=(out.map eG.ds).length/\opK out l[k].due out.length=opK out l[k].due j) (5::rg 26 18) (λj=>[(5,vI .i64 (j:Int))]) (λ_=>[]) (λj=>j) (out.map eG.ds).length ⟨Nat.le_refl _,by rw[hm]⟩ ?_ aaE (λj hJ=>?_)<;>(conv=>whnf)
    ·exact whd
    ·obtain⟨hj,hk⟩:=hJ;rcases j with _|m
     ·have b1:decide (((0:Nat):Int)>0)=false:=rfl;have hk0:opK out l[k].due out.length=0:=hk;repeat'(first|(refine aw0 ?_;conv=>whnf)|fail)
      (refine aaJ aM 9 14 ig ij ae ae ae rfl ?_;conv=>whnf)
      repeat'((first|refine aw0 ?_|refine awx ?_|refine⟨0,0,rfl,rfl,Nat.zero_le _,hj,z6 (λ_=>rfl),?_⟩|refine aW (JY (λ_=>rfl)) ?_|refine a7 ax ?_|refine And.intro rfl ?_|fail)<;>conv=>whnf)
      (refine aaJ aM 12 13 kz kB ae ae ae rfl ?_;conv=>whnf)
      repeat'((first|refine AWP.freeze 44 212 2 ((yf out l[k]).map eG.ds) (congrArg (AO.row 212 2) (JV out l[k] 0 hk0)) ?_|refine awx ?_|refine⟨0,(out.map eG.ds).length,rfl,rfl,hj,Nat.le_refl _,z6 (λ_=>rfl),?_⟩|refine aW (JY (λ_=>rfl)) ?_|refine aW ah ?_|refine a7 ax ?_|refine aaM hlt ?_|refine aaH ac ac ?_|refine And.intro rfl ?_|fail)<;>conv=>whnf)
      refine a8.mk ⟨k+1,hlt,ac,?_,aaE⟩;simp only[hsn];exact hds
     ·have b1:decide (((m+1:Nat):Int)>0)=true:=ax;have hmo:m<out.length:=ac;have hget:out.getD m ⟨0,0⟩=out[m]:=by simp[List.getD_eq_getElem?_getD,hmo]
      cases b2:decide (out[m].due>l[k].due)with
      |true=>
       have hk2:opK out l[k].due out.length=opK out l[k].due m:=by
        rw[hk];simp only[opK,hget];rw[if_pos (of_decide_eq_true b2)]
       repeat'(first|(refine aw0 ?_;conv=>whnf)|fail)
       (refine aaJ aM 9 14 ig ij ae ae ae rfl ?_;conv=>whnf)
       repeat'((first|refine awx ?_|refine aaM hmo ?_|refine aaM hlt ?_|refine ab4 (m:Int) ac ac ac ?_|refine And.intro rfl ?_|fail)<;>conv=>whnf)
       refine a8.mk ⟨m,⟨ac,hk2⟩,ac,?_,aaE⟩;exact hds
      |false=>
       have hk2:opK out l[k].due out.length=m+1:=by
        rw[hk];simp only[opK,hget];rw[if_neg (of_decide_eq_false b2)]
       repeat'(first|(refine aw0 ?_;conv=>whnf)|fail)
       (refine aaJ aM 9 14 ig ij ae ae ae rfl ?_;conv=>whnf)
       repeat'((first|refine aw0 ?_|refine awx ?_|refine aaM hmo ?_|refine aaM hlt ?_|refine ab4 (m:Int) ac ac ac ?_|refine And.intro rfl ?_|fail)<;>conv=>whnf)
       repeat'((first|refine aw0 ?_|refine⟨0,(m+1),rfl,rfl,Nat.zero_le _,hj,z6 (λ_=>rfl),?_⟩|refine aW (JY (λ_=>rfl)) ?_|refine a7 ax ?_|fail)<;>conv=>whnf)
       (refine aaJ aM 12 13 kz kB ae ae ae rfl ?_;conv=>whnf)
       repeat'((first|refine AWP.freeze 44 212 2 ((yf out l[k]).map eG.ds) (congrArg (AO.row 212 2) (JV out l[k] (m+1) hk2)) ?_|refine awx ?_|refine⟨(m+1),(out.map eG.ds).length,rfl,rfl,hj,Nat.le_refl _,z6 (λ_=>rfl),?_⟩|refine aW (JY (λ_=>rfl)) ?_|refine aW ah ?_|refine a7 ax ?_|refine aaM hlt ?_|refine aaH ac ac ?_|refine And.intro rfl ?_|fail)<;>conv=>whnf)
       refine a8.mk ⟨k+1,hlt,ac,?_,aaE⟩;simp only[hsn];exact hds
  ·have hc:decide ((k:Int)<((l.map bo.ds).length:Int))=false:=by simp[show k=l.length by omega]
   have e:l.take k=l:=List.take_of_length_le ac;repeat'((first|refine aw0 ?_|refine awx ?_|fail)<;>conv=>whnf)
   all_goals rw[e]
end
section
variable {w:aP}{c:bp}{s:cr}{n:ee}
structure iS (w:aP):Prop where
 clocks:cY w.clocks=true
 ul:w.up.length=6
 net:dT w.net=true
 u4:cq w 4=true
 u5:cq w 5=true
 ann:ci w.ann=true
 annId:w.ann.id=4
 bob:ci w.bob=true
 bobId:w.bob.id=5
 left:cV w.left 2 (cq w 2)=true
 right:cV w.right 3 (cq w 3)=true
 log:(if cq w 0 then logOk w.log else jh w.log)=true
 store:(if cq w 1 then storeOk w.store else fQ w.store)=true
theorem wB(h:aZ w=true):iS w:=by
 simp only[aZ,and_eq_true,decide_eq_true_eq,beq_iff_eq]at h;obtain⟨⟨⟨⟨⟨⟨⟨⟨⟨⟨⟨⟨h1,h2⟩,h3⟩,h4⟩,h5⟩,h6⟩,h7⟩,h8⟩,h9⟩,ha⟩,hb⟩,hc⟩,hd⟩:=h;exact⟨h1,h2,h3,h4,h5,h6,h7,h8,h9,ha,hb,hc,hd⟩
theorem iS.ok(h:iS w):aZ w=true:=by
 simp only[aZ,and_eq_true,decide_eq_true_eq,beq_iff_eq];exact⟨⟨⟨⟨⟨⟨⟨⟨⟨⟨⟨⟨h.clocks,h.ul⟩,h.net⟩,h.u4⟩,h.u5⟩,h.ann⟩,h.annId⟩,h.bob⟩,h.bobId⟩,h.left⟩,h.right⟩,h.log⟩,h.store⟩
theorem iS.logOk(h:iS w)(hu:cq w 0=true):logOk w.log=true:=by have:=h.log;rwa[if_pos hu]at this
theorem iS.storeOk(h:iS w)(hu:cq w 1=true):storeOk w.store=true:=by have:=h.store;rwa[if_pos hu]at this
theorem oC{id:Int}{up:Bool}(h:cV s id up=true):dG s=true/\s.id=id:=by
 simp only[cV,and_eq_true,beq_iff_eq]at h;exact h.1
theorem P7{id:Int}(h:dG s=true)(hi:s.id=id):cV s id true=true:=by simp[cV,h,hi]
theorem iS.withNet(h:iS w)(hn:dT n=true):iS {w with net:=n}:={h with net:=hn}
theorem iS.withClocks(h:iS w){l:List Int}(hl:cY l=true):iS {w with clocks:=l}:={h with clocks:=hl}
theorem iS.withLog(h:iS w){l:aS}(hu:cq w 0=true)(hl:Go.Proofs.YthgkdhnlehneeaaGreatDoor.logOk l=true):iS {w with log:=l}:=
 {h with log:=by show(if cq w 0 then _ else _)=true;rw[if_pos hu];exact hl}
theorem iS.withStore(h:iS w){l:bK}(hu:cq w 1=true)(hl:Go.Proofs.YthgkdhnlehneeaaGreatDoor.storeOk l=true):iS {w with store:=l}:=
 {h with store:=by show(if cq w 1 then _ else _)=true;rw[if_pos hu];exact hl}
theorem iS.withLeft(h:iS w)(hu:cq w 2=true)(hs:dG s=true)(hi:s.id=2):iS {w with left:=s}:=
 {h with left:=by show cV s 2 (cq w 2)=true;rw[hu];exact P7 hs hi}
theorem iS.withRight(h:iS w)(hu:cq w 3=true)(hs:dG s=true)(hi:s.id=3):iS {w with right:=s}:=
 {h with right:=by show cV s 3 (cq w 3)=true;rw[hu];exact P7 hs hi}
theorem iS.withAnn(h:iS w)(hc:ci c=true)(hi:c.id=4):iS {w with ann:=c}:={h with ann:=hc,annId:=hi}
theorem iS.withBob(h:iS w)(hc:ci c=true)(hi:c.id=5):iS {w with bob:=c}:={h with bob:=hc,bobId:=hi}
theorem W9{l:List Bool}{n k:Nat}(hl:l.length=6)(hn:n<=3):(l.set n false).getD k false=if n=k then false else l.getD k false:=by
 rw[List.getD_eq_getElem?_getD,List.getElem?_set];split
 ·rename_i h;subst h;rw[if_pos ac];rfl
 ·rw[List.getD_eq_getElem?_getD]
theorem iS.fell{v:aP}{n:Nat}(h:iS w)(hn:n<=3)(hup:v.up=w.up.set n false)(hc:v.clocks=w.clocks)(hnet:v.net=w.net)(ha:v.ann=w.ann)(hb:v.bob=w.bob)
  (h0:if n=0 then jh v.log=true else v.log=w.log) (h1:if n=1 then fQ v.store=true else v.store=w.store)
  (h2:if n=2 then v.left=gj 2 else v.left=w.left) (h3:if n=3 then v.right=gj 3 else v.right=w.right):iS v:=by
 have hu:∀k,cq v k=if n=k then false else cq w k:=λk=>by
  unfold cq;rw[hup];exact W9 h.ul hn
 refine⟨by rw[hc];exact h.clocks,by rw[hup];simpa using h.ul,by rw[hnet];exact h.net,by rw[hu,if_neg ac];exact h.u4,by rw[hu,if_neg ac];exact h.u5,by rw[ha];exact h.ann,by rw[ha];exact h.annId,by rw[hb];exact h.bob,by rw[hb];exact h.bobId,?_,?_,?_,?_⟩
 ·rw[hu];by_cases e:n=2
  ·rw[if_pos e]at h2;rw[h2,if_pos e];rfl
  ·rw[if_neg e]at h2;rw[h2,if_neg e];exact h.left
 ·rw[hu];by_cases e:n=3
  ·rw[if_pos e]at h3;rw[h3,if_pos e];rfl
  ·rw[if_neg e]at h3;rw[h3,if_neg e];exact h.right
 ·rw[hu];by_cases e:n=0
  ·rw[if_pos e]at h0;rw[if_pos e];exact h0
  ·rw[if_neg e]at h0;rw[h0,if_neg e];exact h.log
 ·rw[hu];by_cases e:n=1
  ·rw[if_pos e]at h1;rw[if_pos e];exact h1
  ·rw[if_neg e]at h1;rw[h1,if_neg e];exact h.store
theorem oY{t:di}(h:fW t=true):aa7 1048576 t:=⟨eF (eW h).1,eF (eW h).2.1⟩
theorem L1{n:aS}(h:logOk n=true):aa0 1048576 n:=by
 have f:=Vb h;have hh:=(cI f.head).2.2.2.2.1;have h1:=eO hh;have h2:=eO f.seenOk;have h3:=(bY f.book).2.2.2.1;have h4:n.owe.length<=n.book.entries.length:=by rw[f.owe,List.length_map];exact List.length_filter_le _ _
 have h5:n.nxt.seen.length<=4:=by
  have hn:=f.nxt;unfold fY at hn;split at hn
  ·simp only[and_eq_true,beq_iff_eq]at hn;rw[hn.2];exact rY hh
  ·rw[beq_iff_eq]at hn;rw[hn];simp[fw]
 exact⟨oY (il f.two).1,by unfold aaV;omega,by unfold aaV;omega,by unfold aa9;omega,ac,ac⟩
theorem GN{n:aS}(h:jh n=true):aa0 1048576 n:=by
 simp only[jh,and_eq_true,beq_iff_eq]at h;rw[h.2];exact⟨oY h.1,by simp[aaV,fw],by simp[aaV,fw],by simp[aa9],by simp,by simp⟩
theorem Hc{s:bf}(h:bB s=true):aa2 1048576 s:=by
 obtain⟨_,_,h3,h4,_⟩:=cK h;have:=jm h3;have:=(dF h4).1;exact⟨ac,ac⟩
theorem f7{s:bK}(h:storeOk s=true):aa6 1048576 s:=
 ⟨eF (by have:=(KK h).disk;simp only[dw,and_eq_true]at this;exact this.1),Hc (KK h).state⟩
theorem Dn{s:bK}(h:fQ s=true):aa6 1048576 s:=by
 simp only[fQ,and_eq_true,beq_iff_eq]at h;rw[h.2];exact⟨eF h.1,by simp[aa2,fT]⟩
theorem yn(h:dG s=true):aaX 1048576 s:=by
 have:=(M5 h).jobs;simp only[gF,and_eq_true,decide_eq_true_eq]at this;have:=this.1.1.1.2;show s.view.jobs.opens.length<=_;omega
theorem kR(h:ci c=true):aaR 1048576 c:=by
 have f:=Tg h;have:=f.len;have:=f.gl;exact⟨ac,ac⟩
theorem fj(h:dT n=true):aa5 1048576 n:=by
 obtain⟨h1,h2,h3,_,_⟩:=dQ h;refine⟨ac,λm hm=>?_,ac⟩;have:=h3 m hm;simp only[iO,and_eq_true]at this;have:=eM this.2;show m.row.length<=_;omega
theorem cn(h:aZ w=true):aaN 1048576 w:=by
 have f:=wB h;have hc:=f.clocks;simp only[cY,and_eq_true,decide_eq_true_eq]at hc;refine⟨?_,?_,yn (oC f.left).1,yn (oC f.right).1,kR f.ann,kR f.bob,fj f.net,ac,by have:=f.ul;omega⟩
 ·have:=f.log;split at this
  ·exact L1 this
  ·exact GN this
 ·have:=f.store;split at this
  ·exact f7 this
  ·exact Dn this
end
section
variable {xs:List (List AD)}
theorem alW{s:Nat}(h:∀x∈xs,x.length=s:=by first|(intro y hy;obtain⟨a,_,rfl⟩:=List.mem_map.1 hy;rfl)|(simp;done)):∀x∈xs,x.length=s:=h
theorem WG{n:Nat}(h:∀x∈xs,x.all AD.isBl=true:=by(intro y hy;obtain⟨a,_,rfl⟩:=List.mem_map.1 hy;rfl)):Fam n n xs.flatten xs.flatten:=aaU (P8 h)
theorem IR(l:List Int)(hs:l.length<=1048576):jt av 121 [.one (.sl (l.map eI))] (.one (.sl (l.map eI))):=by
 refine ew aM func121 rfl call121 ntmps121 (ace results121) λS=>?_;conv=>whnf
 repeat'((first|refine awz ?_|refine a7 aq ?_|refine aW alW ?_|fail)<;>conv=>whnf)
 exact⟨_,_,l.map eI,Nat.le_refl _,WG (n:=S.w0.heap.size),rfl,alW,rfl⟩
end
def mc(x:aP)(n:Nat):Option aP:=
 if cq x n then none else match n with
 |0=>(iw x.log).map λl=>{x with log:=l,up:=x.up.set 0 true}
 |1=>(gi x.store).map λs=>{x with store:=s,up:=x.up.set 1 true}
 |n=>some {x with up:=x.up.set n true}
theorem UB{l:List Bool}{n k:Nat}(hl:l.length=6)(hn:n<=3):(l.set n true).getD k false=if n=k then true else l.getD k false:=by
 rw[List.getD_eq_getElem?_getD,List.getElem?_set];split
 ·rename_i h;subst h;rw[if_pos ac];rfl
 ·rw[List.getD_eq_getElem?_getD]
theorem sg{x y:aP}{n:Nat}(hn:n<=3)(hw:aZ x=true)(h:mc x n=some y):aZ y=true:=by
 unfold mc at h;split at h
 ·cases h
 ·rw[gT]at hw⊢;simp only[Bool.and_eq_true,decide_eq_true_eq,cq]at hw⊢;obtain⟨⟨⟨⟨⟨⟨c1,c2⟩,c3⟩,⟨⟨⟨⟨⟨u4,u5⟩,a1⟩,a2⟩,b1⟩,b2⟩⟩,⟨s1,s2⟩⟩,l1⟩,l2⟩:=hw;split at h
  ·cases hr:iw x.log with
   |none=>rw[hr]at h;cases h
   |some l=>
    rw[hr]at h;injection h with h
    subst h;have hl:=MC hr;simp only[UB c2 hn,List.length_set];exact⟨⟨⟨⟨⟨⟨c1,c2⟩,c3⟩,⟨⟨⟨⟨⟨u4,u5⟩,a1⟩,a2⟩,b1⟩,b2⟩⟩,⟨s1,s2⟩⟩,hl⟩,l2⟩
  ·cases hr:gi x.store with
   |none=>rw[hr]at h;cases h
   |some l=>
    rw[hr]at h;injection h with h
    subst h;have hl:=GS hr;simp only[UB c2 hn,List.length_set];exact⟨⟨⟨⟨⟨⟨c1,c2⟩,c3⟩,⟨⟨⟨⟨⟨u4,u5⟩,a1⟩,a2⟩,b1⟩,b2⟩⟩,⟨s1,s2⟩⟩,l1⟩,hl⟩
  ·injection h with h
   subst h;rename_i h0 h1;have e0:n≠0:=h0;have e1:n≠1:=h1;simp only[UB c2 hn,List.length_set,if_neg e0,if_neg e1];refine⟨⟨⟨⟨⟨⟨c1,c2⟩,c3⟩,⟨⟨⟨⟨⟨?_,?_⟩,a1⟩,a2⟩,b1⟩,b2⟩⟩,⟨?_,?_⟩⟩,l1⟩,l2⟩
   ·rw[if_neg ac];exact u4
   ·rw[if_neg ac];exact u5
   ·unfold cV at s1⊢;split
    ·simp_all
    ·exact s1
   ·unfold cV at s2⊢;split
    ·simp_all
    ·exact s2
def uJ:List (List Nat):=bC [0,1,0,3,0,324,6,7,8,33346,0x289207185103081,0xa2481c61440c204a28b]
def uK:List (List Nat):=bC [0,1,0,3,0,324,6,7,0,9,0,714,12,13,14,968,16,62530,0x49140f38d30b289207185103081,0x124503ce34c2ca2481c61440c2052493]
def uL:List (List Nat):=bC [0,1,2,0,4,197,387,0x7185103081187]
def o9:List (List Nat):=bC [0,1,0,3,0,324,6,7,0,9,0,714,12,13,0,15,0,1104,18,19,20,86920,22,87490,0x61759551349140f38d30b289207185103081,0x185d65544d24503ce34c2ca2481c61440c2058619]
theorem wv(x:bH)(hs:aaV 1048576 x):jt av 174 [.agg x.ds] (.agg x.ds):=by
 have h1:x.seen.length<=1048576:=hs;refine lR aM func174 rfl call174 ntmps174 (ace results174) λS=>?_;conv=>whnf
 repeat'((first|refine awz ?_|refine a7 aq ?_|refine aW alW ?_|refine abo bls ?_|fail)<;>conv=>whnf)
 exact⟨_,_,_,⟨Nat.le_refl S.w0.heap.size,trivial,trivial⟩,(aaU (lo:=S.w0.heap.size) (hi:=S.w0.heap.size) (ds:=[dI x.num,dI x.base,dI x.time]) rfl),rfl⟩
theorem Dk(x:cr)(hs:aaX 1048576 x):jt av 118 [.agg x.ds] (.agg x.ds):=by
 have h1:x.view.jobs.opens.length<=1048576:=hs;refine lR aM func118 rfl call118 ntmps118 (ace results118) λS=>?_;conv=>whnf
 repeat'((first|refine awz ?_|refine a7 aq ?_|refine aW alW ?_|refine abo bls ?_|fail)<;>conv=>whnf)
 exact⟨_,_,_,⟨Nat.le_refl S.w0.heap.size,trivial,trivial⟩,(aaU (lo:=S.w0.heap.size) (hi:=S.w0.heap.size) (ds:=[dI x.id,dI x.seq,dI x.view.jobs.index,dI x.view.jobs.time,dI x.view.jobs.holder,dI x.view.jobs.epoch,dI x.view.jobs.til,dB x.busy,dI x.op.kind,dI x.op.a,dI x.op.b,dI x.op.c,dI x.op.d,dI x.index]) rfl),rfl⟩
theorem BN(x:bp)(hs:aaR 1048576 x):jt av 119 [.agg x.ds] (.agg x.ds):=by
 obtain⟨h1,h2⟩:=(show x.todo.length<=1048576/\x.gots.length<=1048576 from hs);refine lR aM func119 rfl call119 ntmps119 (ace results119) λS=>?_;conv=>whnf
 repeat'((first|refine awz ?_|refine a7 aq ?_|refine aW alW ?_|refine abo bls ?_|fail)<;>conv=>whnf)
 exact⟨_,_,_,⟨Nat.le_refl S.w0.heap.size,trivial,trivial⟩,(aaU (lo:=S.w0.heap.size) (hi:=S.w0.heap.size) (ds:=[dI x.id,dI x.last]) rfl),rfl⟩
theorem BO(x:bD)(hs:aaY 1048576 x):jt av 175 [.agg x.ds] (.agg x.ds):=by
 obtain⟨h1,h2,h3,h4⟩:=(show x.kept.length<=1048576/\(∀y∈x.kept,y.length<=1048576)/\x.wait.length<=1048576/\(∀y∈x.wait,abg 1048576 y)from hs);refine lR aM func175 rfl call175 ntmps175 (ace results175) λS=>?_;conv=>whnf
 repeat'(first|refine awz ?_|fail)
 refine aa1 3 0 23 67 1 ai ?_;conv=>whnf
 repeat'(first|refine awz ?_|fail)
 refine aaK (λg:Nat×Nat×List (List AD)=>g.1<=x.kept.length/\g.2.2.length=g.1/\S.w0.heap.size<=g.2.1/\Fam S.w0.heap.size g.2.1 g.2.2.flatten ((x.kept.take g.1).map dO).flatten) (4::rg 7 18) (λg=>[(4,vI .i64 (g.1:Int))]) (λg=>[(9997,sR S.w0.heap.size g.2.1),(1,.cells 30 (x.ds.map .d)),(2,.cells 30 [.nil,.nil]),(3,.cells 30 [.own 23,.nil]),(23,.row 67 1 g.2.2)]) (λg=>x.kept.length-g.1) (0,S.w0.heap.size,[]) ⟨Nat.zero_le _,rfl,Nat.le_refl _,aaU rfl⟩ ?_ sbW (λg hR=>?_)<;>(conv=>whnf)
 ·exact whd
 ·obtain⟨k,m,cs⟩:=g;obtain⟨hk,hcs,hm,hF⟩:=hR;simp only at hk hcs hm hF;repeat'(first|refine awz ?_|refine tW ?_ ?_|(intro h;conv=>whnf))
  ·have hlt:k<x.kept.length:=ari;(refine aaL aM 5 (tkc [0,2,3,4,5,6] (.two 1 (onc [7,8,9] (.take 10 (.one 11 .done))) 7 (.two 1 (.one 8 (.one 9 (.take 10 (.one 11 .done)))) 8 (.one 1 (.one 9 (.take 10 (.one 11 .done))))))) [(1,9980)] uJ ae ae ae ae (λRz=>?_);(conv=>whnf);intro bp0 up0;(conv=>whnf))
   repeat'((first|refine awz ?_|refine aaM hlt ?_|refine aaS (IR _ (h2 _ (List.getElem_mem hlt))) rfl rfl λR lo hi a1 a2 F=>?_|refine a7 (by simp only[hcs,List.length_cons,List.length_nil];omega) ?_|refine aaH ari ari ?_|refine tW ?_ ?_|fail)<;>conv=>whnf)
   all_goals
    have a1:m<=lo:=a1;refine a8.mk ⟨(k+1,hi,cs++[[.x (R 0)]]),⟨by simp only;omega,by simp[hcs],by simp only;omega,?_⟩,by simp only;omega,?_,sbW⟩
    ·simp only;rw[ir dO ac];exact hF.flat_set F ac ac ac
    ·exact hds
  ·have e:k=x.kept.length:=ari;subst e;rw[List.take_length]at hF;refine aa1 3 1 49 256 2 ai ?_;conv=>whnf
   repeat'(first|refine awz ?_|fail)
   refine aaK (λg:Nat×Nat×List (List AD)=>g.1<=x.wait.length/\g.2.2.length=g.1/\m<=g.2.1/\Fam m g.2.1 g.2.2.flatten ((x.wait.take g.1).map cz.ds).flatten) (5::rg 25 26) (λg=>[(5,vI .i64 (g.1:Int))]) (λg=>[(9997,sR S.w0.heap.size g.2.1),(1,.cells 30 (x.ds.map .d)),(2,.cells 30 [.nil,.nil]),(3,.cells 30 [.own 23,.own 49]),(23,.row 67 1 cs),(49,.row 256 2 g.2.2)]) (λg=>x.wait.length-g.1) (0,m,[]) ⟨Nat.zero_le _,rfl,Nat.le_refl _,aaU rfl⟩ ?_ sbW (λg hR=>?_)<;>(conv=>whnf)
   ·exact whd
   ·obtain⟨j,m2,cs2⟩:=g;obtain⟨hk2,hcs2,hm2,hF2⟩:=hR;simp only at hk2 hcs2 hm2 hF2;repeat'(first|refine awz ?_|refine tW ?_ ?_|(intro h;conv=>whnf))
    ·have hlt:j<x.wait.length:=ari;(refine aaL aM 9 (tkc [0,2,3,4,5,6,7,8,9,10,11,12,13] (.two 1 (onc [14,15,16,17] (.take 18 (.one 19 .done))) 14 (.two 1 (onc [15,16,17] (.take 18 (.one 19 .done))) 15 (.two 1 (.one 16 (.one 17 (.take 18 (.one 19 .done)))) 16 (.one 1 (.one 17 (.take 18 (.one 19 .done)))))))) [(1,9980)] uK ae ae ae ae (λRz=>?_);(conv=>whnf);intro bp0 up0;(conv=>whnf))
     repeat'((first|refine awz ?_|refine aaM hlt ?_|refine aaS (IR _ (h4 _ (List.getElem_mem hlt))) rfl rfl λR lo hi a1 a2 F=>?_|refine a7 (by simp only[hcs2,List.length_cons,List.length_nil];omega) ?_|refine aaH ari ari ?_|refine tW ?_ ?_|fail)<;>conv=>whnf)
     all_goals
      have a1:m2<=lo:=a1;refine a8.mk ⟨(j+1,hi,cs2++[[dI x.wait[j].at_,.x (R 0)]]),⟨by simp only;omega,by simp[hcs2],by simp only;omega,?_⟩,by simp only;omega,?_,sbW⟩
      ·simp only;rw[ir cz.ds ac];exact hF2.flat_set (Fam.app (aaU (lo:=lo) (hi:=lo) (ds:=[dI x.wait[j].at_]) rfl) F ac ac ac) ac ac ac
      ·exact hds
    ·have e:j=x.wait.length:=ari;subst e;rw[List.take_length]at hF2;repeat'((first|refine A5.fam hF (by simp[hcs]) alW ?_|refine A5.fam hF2 (by simp[hcs2]) alW ?_|fail)<;>conv=>whnf)
     exact⟨S.w0.heap.size,S.w0.heap.size,[],⟨Nat.le_refl _,⟨.inl (Nat.le_refl _),.inl hm,trivial⟩,Nat.le_refl _,⟨.inl (Nat.le_refl _),trivial⟩,hm,trivial,trivial⟩,aaU rfl,rfl⟩
theorem IW(x:di)(hs:aa7 1048576 x):jt av 173 [.agg x.ds] (.agg x.ds):=by
 refine lR aM func173 rfl call173 ntmps173 (ace results173) λS=>?_;conv=>whnf
 repeat'(first|refine awz ?_|fail)
 (refine aaL aM 1 (tkc [0,1,3,4] (onc [2,5,6,7] .done)) [(1,9980)] uL ae ae ae ae (λRz=>?_);(conv=>whnf);intro bp0 up0;(conv=>whnf))
 repeat'((first|refine awz ?_|refine aaS (BO x.a hs.1) rfl rfl λR1 l1 e1 a1 b1 F1=>?_|refine aaS (BO x.b hs.2) rfl rfl λR2 l2 e2 a2 b2 F2=>?_|fail)<;>conv=>whnf)
 exact⟨_,_,_,⟨(by omega:S.w0.heap.size<=l1),trivial,trivial⟩,(Fam.app F1 F2 ac ac ac),rfl⟩
theorem G5(x:aS)(hs:aa0 1048576 x):jt av 116 [.agg x.ds] (.agg x.ds):=by
 obtain⟨h1,h2,h3,h4,h5,h6⟩:=(show aa7 1048576 x.two/\aaV 1048576 x.head/\aaV 1048576 x.nxt/\x.book.entries.length<=1048576/\x.seen.length<=1048576/\x.owe.length<=1048576 from hs);refine lR aM func116 rfl call116 ntmps116 (ace results116) λS=>?_;conv=>whnf
 repeat'((first|refine awz ?_|refine aaS (IW x.two h1) rfl rfl λR1 l1 e1 a1 b1 F1=>?_|refine aaS (wv x.head h2) rfl rfl λR2 l2 e2 a2 b2 F2=>?_|refine aaS (wv x.nxt h3) rfl rfl λR3 l3 e3 a3 b3 F3=>?_|refine a7 aq ?_|refine aW alW ?_|refine abo bls ?_|fail)<;>conv=>whnf)
 exact⟨_,_,_,⟨(by omega:S.w0.heap.size<=l1),trivial,trivial⟩,(Fam.app (Fam.app (Fam.app F1 F2 ac ac ac) F3 ac ac ac) (aaU (lo:=e3) (hi:=e3) (ds:=[dB x.more,dI x.book.base,dI x.book.time,dI x.durable]) rfl) ac ac ac),rfl⟩
theorem Dl(x:bK)(hs:aa6 1048576 x):jt av 117 [.agg x.ds] (.agg x.ds):=by
 obtain⟨h1,h2,h3⟩:=(show aaY 1048576 x.disk/\x.state.pairs.length<=1048576/\x.state.jobs.length<=1048576 from hs);refine lR aM func117 rfl call117 ntmps117 (ace results117) λS=>?_;conv=>whnf
 repeat'((first|refine awz ?_|refine aaS (BO x.disk h1) rfl rfl λR1 l1 e1 a1 b1 F1=>?_|refine a7 aq ?_|refine aW alW ?_|refine abo bls ?_|fail)<;>conv=>whnf)
 exact⟨_,_,_,⟨(by omega:S.w0.heap.size<=l1),trivial,trivial⟩,(Fam.app F1 (aaU (lo:=e1) (hi:=e1) (ds:=[dI x.state.index,dI x.state.time,dI x.state.lease.holder,dI x.state.lease.epoch,dI x.state.lease.til,dI x.num,dI x.last,dI x.busy]) rfl) ac ac ac),rfl⟩
theorem Va(l:List UInt8)(hl:l.length<=2000000):aN av 10 [pL l] (.val (.one (dSs (dv 10 l).dropLast))):=by
 refine pO func10 call10 ntmps10 results10 λS=>?_;conv=>whnf
 repeat'(first|refine awz ?_|fail)
 refine aaK (λs:Nat×Nat×List (List UInt8)=>s.1<=l.length/\s.2.2.length<=s.1/\s.2.1<=s.1/\(10:UInt8)∉(l.take s.1).drop s.2.1/\s.2.2++dv 10 (l.drop s.2.1)=dv 10 l) (6::[3,4,5,7,8,9,10,11,12,13,14,15,16,17,18,19,20,21,22,23,24,25]) (λs=>[(3,.one (.own 6)),(4,vI .i64 (s.2.1:Int)),(5,vI .i64 (s.1:Int))]) (λs=>[(6,.row 9 1 (s.2.2.map eS))]) (λs=>l.length-s.1) (0,0,[]) ⟨by simp,by simp,by simp,by simp,by simp⟩ ?_ sbW (λs hR=>?_)<;>(conv=>whnf)
 ·repeat'(first|exact trivial|(refine And.intro rfl ?_;conv=>whnf)|fail)
 ·obtain⟨i,f,d⟩:=s;obtain⟨hi,hd,hf,a2,a3⟩:=hR;simp only at hi hd hf a2 a3;repeat'(first|(refine awz ?_;conv=>whnf)|(have hlt:i<l.length:=(by simp only[fD,decide_eq_true_eq,decide_eq_false_iff_not,beq_iff_eq,beq_eq_false_iff_ne,List.length_map,Bool.not_eq_true',Bool.not_eq_false',ne_eq]at*;omega);refine⟨i,l[i]'hlt,rfl,WV hlt,?_⟩;conv=>whnf)|((first|refine⟨f,i,rfl,rfl,hf,(by rw[fD];exact hi),?_⟩|refine aaH (by simp only[fD,decide_eq_true_eq,decide_eq_false_iff_not,beq_iff_eq,beq_eq_false_iff_ne,List.length_map,Bool.not_eq_true',Bool.not_eq_false',ne_eq]at*;omega) (by simp only[fD,decide_eq_true_eq,decide_eq_false_iff_not,beq_iff_eq,beq_eq_false_iff_ne,List.length_map,Bool.not_eq_true',Bool.not_eq_false',ne_eq]at*;omega) ?_|refine KM (by simp only[List.length_map,List.length_cons,List.length_nil];omega) ?_|refine tB ?_ ?_|intro h)<;>conv=>whnf))
  all_goals try simp only[fD,decide_eq_true_eq,decide_eq_false_iff_not,beq_iff_eq,beq_eq_false_iff_ne,ne_eq]at*
  ·have hlt2:i<l.length:=ac;have hc:l[i]=10:=UInt8.toNat_inj.1 (by have:=h;simp at this⊢;omega);have hrow:d.map eS++[[AD.pv (.string ((⟨l.toArray⟩:ByteArray).extract f i))]]=(d++[(l.take i).drop f]).map eS:=by rw[yH];simp[eS]
   have hw:dv 10 (l.drop f)=(l.take i).drop f::dv 10 (l.drop (i+1)):=by
    rw[Gt hf hlt2,hc,nB a2]
   refine a8.mk ⟨(i+1,i+1,d++[(l.take i).drop f]),⟨by simp only;omega,by simp;omega,Nat.le_refl _,?_,?_⟩,by simp only;omega,?_,aaC (congrArg some (congrArg (AO.row 9 1) hrow)) aaE⟩
   ·rw[List.drop_eq_nil_of_le ax];simp
   ·rw[<-a3,hw];simp
   ·exact hds
  ·have hlt2:i<l.length:=ac;have hc:l[i]≠10:=λe=>h (by rw[e];rfl);refine a8.mk ⟨(i+1,f,d),⟨by simp only;omega,by simp only;omega,by simp only;omega,?_,a3⟩,by simp only;omega,?_,sbW⟩
   ·simp only;rw[<-List.take_append_getElem hlt2,List.drop_append_of_le_length (by rw[List.length_take];omega)];simp only[List.mem_append,List.mem_singleton,not_or];exact⟨a2,λe=>hc e.symm⟩
   ·exact hds
  ·have hie:i=l.length:=ac;subst hie;rw[List.take_length]at a2;rw[xp a2]at a3;rw[<-a3];simp
end Go.Proofs.YthgkdhnlehneeaaGreatDoor
