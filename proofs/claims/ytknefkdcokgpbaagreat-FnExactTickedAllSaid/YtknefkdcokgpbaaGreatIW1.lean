/- IW1 -/
import Derived.Test.YtknefkdcokgpbaaGreatWC2
import Derived.Test.YtknefkdcokgpbaaGreatAvVC
import Derived.Test.YtknefkdcokgpbaaGreatWCp
import Derived.Test.YtknefkdcokgpbaaGreatAvFX
import Derived.Test.YtknefkdcokgpbaaGreatMkA
set_option maxHeartbeats 8000000
set_option linter.unusedVariables false
set_option linter.unusedSimpArgs false
set_option maxRecDepth 100000
namespace Go.Proofs.YtknefkdcokgpbaaGreat
open Go.Proofs.Tryz
open Go.ChangeShapes Go.WideShapes Go.RowKit
theorem sV(l:List Int)(h:cE l=true):aM av 491 [.one (.sl (l.map eI))] (.val (pI (lT l))):=by
 obtain⟨hl,hx⟩:=gZ h;refine pO func491 call491 ntmps491 results491 λS=>?_;conv=>whnf
 repeat'(first|refine awz ?_|fail)
 refine X5 (λk:Nat=>k<=l.length) (3::5::rg 8 11) (λk=>[(3,vI .i64 (lT (l.take k))),(8,vI .i64 (k:Int))]) (λk=>[]) (λk=>l.length-k) 0 ac ?_ X4 (λk hR=>?_)<;>(conv=>whnf)
 ·exact whd
 ·by_cases hlt:k<l.length
  ·have hr:=pE hx k hR;have hr2:=pE hx (k+1) hlt;have hxk:=hx _ (List.getElem_mem hlt);have hs:=FZ hlt;have hc:decide ((k:Int)<((l.map eI).length:Int))=true:=al;unfold qH at hs;repeat'((first|refine awz ?_|refine Yg hlt ?_|refine And.intro ah ?_|refine X3 ac ac ?_|fail)<;>conv=>whnf)
   refine bd.mk ⟨k+1,hlt,ac,?_,X4⟩;rw[hs];exact hds
  ·have e:k=l.length:=ac;subst e;have hc:decide ((l.length:Int)<((l.map eI).length:Int))=false:=aj;rw[List.take_length];repeat'(first|refine awz ?_|exact rZ|fail)
theorem lc(l:List Int)(hl:l.length<=1048576):aM av 181 [.one (.sl (l.map eI))] (.val (.one (.sl (l.map eI)))):=by
 refine pO func181 call181 ntmps181 results181 λS=>?_;conv=>whnf
 repeat'((first|refine awz ?_|refine aI (by first|(intro y hy;obtain⟨a,_,rfl⟩:=List.mem_map.1 hy;rfl)|(simp;done)) ?_|refine aJ am ?_|exact rZ|fail)<;>conv=>whnf)
theorem IT(l:List Int):aM av 492 [.one (.sl (l.map eI))] (v8 (iW l)):=by
 by_cases hn:l=[]
 ·subst hn;have e:iW []=none:=pH (.inr (.inl rfl));rw[e];unfold v8;refine pO func492 call492 ntmps492 results492 λS=>?_;conv=>whnf
  repeat'(first|refine awz ?_|exact rZ|fail)
 ·have n2:(((l.map eI).length:Int)==0)=false:=by simp[hn]
  have hpos:0<l.length:=List.length_pos_iff.2 hn;have ro:=js l;cases hr:cE l with
  |false=>
   rw[hr]at ro;rw[pH (.inl hr)];unfold v8;refine pO func492 call492 ntmps492 results492 λS=>?_;conv=>whnf
   repeat'(first|refine awz ?_|(refine cP (ro) ?_;conv=>whnf)|exact rZ|fail)
  |true=>
   rw[hr]at ro;have h48:=dM hr;have hd:cE l.dropLast=true:=yk hr aj (λx hx=>List.dropLast_subset _ hx);have hcut:((l.map eI).take (l.length-1)).drop 0=l.dropLast.map eI:=by rw[List.drop_zero,<-List.map_take,List.dropLast_eq_take]
   have hlast:(l.map eI)[l.length-1]? =some (eI (l.getLastD 0)):=by
    rw[List.getElem?_map,<-List.getLast?_eq_getElem?,List.getLast?_eq_some_getLast hn,List.getLastD_eq_getLast?,List.getLast?_eq_some_getLast hn];rfl
   have so:=sV l.dropLast hd;have cr:=lc l.dropLast al;by_cases hs:lT l.dropLast=l.getLastD 0
   ·have e:iW l=some l.dropLast:=by
     unfold iW;have e2:l.isEmpty=false:=by simpa using hn
     rw[hr,e2,hs];simp
    have n3:(lT l.dropLast !=l.getLastD 0)=false:=by simp[hs]
    rw[e];unfold v8;refine pO func492 call492 ntmps492 results492 λS=>?_;conv=>whnf
    repeat'((first|refine awz ?_|refine cP (ro) ?_|refine X3 an an ?_|fail)<;>conv=>whnf)
    (refine X9 aN 4 8 aW aU ae ae ae rfl ?_;conv=>whnf)
    repeat'((first|refine awz ?_|refine cP (so) ?_|refine cP (cr) ?_|refine X8 (l.length-1) _ an hlast ?_|(refine⟨0,l.length-1,rfl,(by show _=_;simp only[List.length_map];omega),Nat.zero_le _,aj,(by intro y hy;obtain⟨a,_,rfl⟩:=List.mem_map.1 hy;rfl),?_⟩;rw[hcut])|exact rZ|fail)<;>conv=>whnf)
   ·have n3:(lT l.dropLast !=l.getLastD 0)=true:=by simpa using hs
    rw[pH (.inr (.inr hs))];unfold v8;refine pO func492 call492 ntmps492 results492 λS=>?_;conv=>whnf
    repeat'((first|refine awz ?_|refine cP (ro) ?_|refine X3 an an ?_|fail)<;>conv=>whnf)
    (refine X9 aN 4 8 aW aU ae ae ae rfl ?_;conv=>whnf)
    repeat'((first|refine awz ?_|refine cP (so) ?_|refine X8 (l.length-1) _ an hlast ?_|(refine⟨0,l.length-1,rfl,(by show _=_;simp only[List.length_map];omega),Nat.zero_le _,aj,(by intro y hy;obtain⟨a,_,rfl⟩:=List.mem_map.1 hy;rfl),?_⟩;rw[hcut])|exact rZ|fail)<;>conv=>whnf)
theorem LL(l:List Int)(hl:l.length<=1048576):d5 av 181 [.one (.d (.sl (l.map eI)))] [] [(3,.row 2 1 (l.map eI))] [] (.val (.one (.own 3))):=by
 refine cR aN func181 rfl call181 ntmps181 (aaK results181) rfl λS pv=>?_;conv=>whnf
 repeat'((first|refine awz ?_|refine aI (by first|(intro y hy;obtain⟨a,_,rfl⟩:=List.mem_map.1 hy;rfl)|(simp;done)) ?_|refine aJ am ?_|exact rZ|fail)<;>conv=>whnf)
theorem LH(l:List Int)(h:cE l=true)(h48:l.length<48):aM av 479 [.one (.sl (l.map eI))] (.val (.one (.sl ((l++[lT l]).map eI)))):=by
 have ro:=js l;rw[h]at ro;have hc:(((l.map eI).length:Int)==48)=false:=al;refine pO func479 call479 ntmps479 results479 λS=>?_;conv=>whnf
 repeat'((first|refine awz ?_|refine cP (ro) ?_|refine Yb (LL l ac) [(3,903)] rfl rfl ?_|refine cP (sV l h) ?_|refine aJ am ?_|fail)<;>conv=>whnf)
 all_goals(simp;rfl)
theorem IY(k:List (List Int))(h1:k.length<=1048576)(h2:∀y∈k,y.length<=1048576):ce av 288 [.agg (⟨k,[]⟩:DDisk).ds] (.agg [.sl (k.map bM),.pv (.slice none 0 0)]):=by
 refine mz aN func288 rfl call288 ntmps288 (aaK results288) λS=>?_;conv=>whnf
 repeat'(first|refine awz ?_|(refine Yh (sW k ⟨h1,h2⟩) rfl rfl λR1 l1 e1 a1 b1 F1=>?_;conv=>whnf)|fail)
 refine YP 1 ?_;conv=>whnf
 repeat'(first|refine awz ?_|fail)
 refine⟨.inr rfl,l1,e1,a1,F1.fam⟩
section
variable {d:DDisk}{n:DNet}{s:DStore}{w:DWorld}{slot:Int}{m:Int×DState}{l:List DMsg}{k:Nat}
def dX(kind x lo hi:Int):List Int:=if aK x lo hi then [kind,x]else []
def ox(a:DAck):List Int:=if hH a then [2,a.client,a.seq,a.index,a.last]else []
def pV(a:vw):List Int:=if wA a then [1,a.client,a.seq]++opL a.op else []
def n9(a:rM):List Int:=if nZ a then [6,a.client,a.seq,a.key,a.least]else []
def mxI(a b:Int):Int:=if b>a then b else a
theorem T2{a b c:Int}:c<=mxI a b↔c<=a\/c<=b:=by unfold mxI;split<;>omega
def it(n:DNet)(m:DMsg):DNet:=if fM m&&decide (n.flight.length≠60)then⟨n.flight++[m],n.cuts⟩else n
theorem pw{m:DMsg}(h:fd n=true):fd (it n m)=true:=by
 unfold it;split
 ·rename_i hc;simp only[Bool.and_eq_true,decide_eq_true_eq]at hc;exact Ub h hc.1 hc.2
 ·exact h
def dA(n:DNet)(l:List DMsg):DNet:=l.foldl it n
theorem ln:∀{n:DNet},fd n=true->fd (dA n l)=true:=by
 induction l with
 |nil=>exact id
 |cons m r ih=>exact λh=>ih (pw h)
theorem zx(h:k<l.length):dA n (l.take (k+1))=it (dA n (l.take k)) l[k]:=by
 unfold dA;rw[List.take_succ_eq_append_getElem h,List.foldl_append];rfl
def K2(a:DAck):DMsg:=⟨0,a.client,ox a⟩
def fI(l:List DAck):List DMsg:=(l.filter hH).map K2
theorem r4(l:List DAck):(fI l).length<=l.length:=by rw[fI,List.length_map];exact List.length_filter_le ..
theorem wy{l:List DAck}(h:k<l.length):fI (l.take (k+1))=fI (l.take k)++(if hH l[k]then [K2 l[k]]else []):=by
 rw[fI,fI,List.take_succ_eq_append_getElem h,List.filter_append,List.map_append];congr 1;cases e:hH l[k]<;>simp[List.filter,e]
def cU(slot:Int)(rows:List (List Int)):List DWrite:=rows.mapIdx λi r=>⟨slot*4+(i:Int),r⟩
def dt(d:DDisk)(l:List DWrite):DDisk:=⟨d.kept,d.wait++l⟩
theorem ot{l:List DWrite}(h:k<l.length):dt d (l.take (k+1))=nG (dt d (l.take k)) l[k].at_ l[k].row:=by
 unfold dt nG;rw[List.take_succ_eq_append_getElem h,List.append_assoc]
def cb(d:DDisk)(slot:Int)(m:Int×DState):Option DDisk:=
 if eO m&&decide (d.wait.length+(aV m).length<=60)then some (dt d (cU slot (aV m)))else none
def eF(d:DDisk):Int:=if(eX d).1.isSome&&(eX d).2==0 then 1 else 0
def hI(s:DStore):DStore:=
 if s.busy !=0||decide (s.state.index<s.last+4)||decide (1000000000<=s.num)then s else
 match cb s.disk (eF s.disk) (s.num+1,s.state)with
 |none=>s
 |some d=>{s with disk:=d,busy:=s.state.index}
def xS(s:DStore):Bool:= !(s.busy !=0||decide (s.state.index<s.last+4)||decide (1000000000<=s.num))&&(cb s.disk (eF s.disk) (s.num+1,s.state)).isSome
def cY(s:DStore):DStore:=if s.busy=0 then s else{s with disk:=lE s.disk,num:=s.num+1,last:=s.busy,busy:=0}
theorem nz(hs:slot=0\/slot=1){l:List (List Int)}(hr:∀r∈l,cE r=true)(h4:l.length<=4)(h:dg d=true):∀k,k<=l.length->d.wait.length+k<=60->dg (dt d ((cU slot l).take k))=true
 |0,_,_=>by simpa[dt]using h
 |k+1,hk,hw=>by
  have hl:(cU slot l).length=l.length:=by simp[cU]
  have hlt:k<(cU slot l).length:=ac;rw[ot hlt];have e:(cU slot l)[k]=⟨slot*4+(k:Int),l[k]'(ac)⟩:=by simp[cU]
  rw[e];refine DY (nz hs hr h4 h k ac ac) ?_ ?_ (hr _ (List.getElem_mem _))
  ·simp only[dt,List.length_append,List.length_take];omega
  ·rcases hs with rfl|rfl<;>(simp only;omega)
theorem iV:∀r∈aV m,cE r=true:=by
 intro r hr;cases h:eO m with
 |false=>simp[aV,h]at hr
 |true=>
  obtain⟨k,hk,rfl⟩:=List.getElem_of_mem hr;rw[qA h hk];have:=nA h (p:=k) (by have:=(eR h).1;omega);exact Dy this.1 this.2
theorem Di(d:DDisk):eF d=0\/eF d=1:=by unfold eF;split<;>simp
theorem HP{t:DDisk}(h:dg d=true)(hs:slot=0\/slot=1)(e:cb d slot m=some t):dg t=true:=by
 unfold cb at e;split at e
 ·rename_i hc;simp only[Bool.and_eq_true,decide_eq_true_eq]at hc;cases e;have:=nz hs iV (by have:=eR hc.1;omega) h (aV m).length (Nat.le_refl _) hc.2;rwa[List.take_of_length_le (by simp[cU])]at this
 ·cases e
theorem NN(h:Al s):Al (hI s):=by
 unfold hI;split
 ·exact h
 ·rename_i hc;simp only[Bool.or_eq_true,bne_iff_ne,ne_eq,decide_eq_true_eq,not_or,Decidable.not_not,Int.not_lt,Int.not_le]at hc;split
  ·exact h
  ·rename_i d e;exact PG h (HP h.disk (Di _) e) hc.1.1 hc.1.2 hc.2
theorem tA(h:Al s):Al (cY s):=by
 unfold cY;split
 ·exact h
 ·rename_i hb;exact OQ h hb
def uK(j:DJobs)(g:Int):Option Int:=(j.opens.find? λd=>decide (d.due<=g)).map DDue.id
def cX(s:DSched)(now:Int):DSched:=
 if s.busy||decide (2000<=s.seq)||decide (s.view.jobs.index<s.index)then s else
 if s.view.jobs.holder==s.id&&decide (mxI s.view.jobs.time now<s.view.jobs.til)then
  match uK s.view.jobs (mxI s.view.jobs.time now)with
  |some i=>{s with seq:=s.seq+1,busy:=true,op:=⟨4,i,s.view.jobs.epoch,0,0⟩}
  |none=>s
 else if s.view.jobs.holder==0||decide (s.view.jobs.til<=mxI s.view.jobs.time now)then{s with seq:=s.seq+1,busy:=true,op:=⟨5,20,0,0,0⟩}
 else s
theorem PL{j:DJobs}{g i:Int}(h:eE j=true)(e:uK j g=some i):1<=i/\i<=20:=by
 unfold uK at e;obtain⟨d,hd,rfl⟩:=Option.map_eq_some_iff.1 e;simp only[eE,Bool.and_eq_true,decide_eq_true_eq,List.all_eq_true,aK]at h;have:=h.1.1.2 d (List.mem_of_find?_eq_some hd);simp only[jo,aK,Bool.and_eq_true,decide_eq_true_eq]at this;exact this.1
theorem jR{s:DSched}{now:Int}(f:Ak s):Ak (cX s now)/\(cX s now).id=s.id:=by
 have hq:=f.seq;have ok:∀o:DOp,¬(s.busy||decide (2000<=s.seq)||decide (s.view.jobs.index<s.index))=true->v7 o=true->o.kind=4\/o.kind=5->Ak {s with seq:=s.seq+1,busy:=true,op:=o}/\s.id=s.id:=λo h0 h1 h2=>by
  simp only[Bool.or_eq_true,decide_eq_true_eq,not_or,Int.not_le]at h0;exact⟨⟨f.id,by show 0<=s.seq+1/\s.seq+1<=2000;omega,f.jobs,f.index,λh=>(by cases h),λ_=>⟨by show s.seq+1≠0;omega,h1,h2⟩⟩,rfl⟩
 have he:0<=s.view.jobs.epoch/\s.view.jobs.epoch<=1000:=by
  have h:=f.jobs;simp only[eE,Bool.and_eq_true,decide_eq_true_eq,List.all_eq_true,aK]at h;exact h.1.1.1.1.1.2
 unfold cX;split
 ·exact⟨f,rfl⟩
 ·rename_i h0;split
  ·split
   ·rename_i i e;have:=PL f.jobs e;exact ok _ h0 (by simp[v7,aK];omega) (.inl rfl)
   ·exact⟨f,rfl⟩
  ·split
   ·exact ok _ h0 ah (.inr rfl)
   ·exact⟨f,rfl⟩
def fg(s:DSched):List DMsg:=⟨s.id,1,dX 8 s.id 2 3⟩::if s.busy then [⟨s.id,0,pV ⟨s.id,s.seq,s.op⟩⟩]else []
def fQ(c:DClient):List DMsg:=match c.todo[c.gots.length]? with
 |none=>[]
 |some w=>if w.kind=4 then [⟨c.id,1,n9 ⟨c.id,(c.gots.length:Int)+1,w.key,c.last⟩⟩]else [⟨c.id,0,pV ⟨c.id,(c.gots.length:Int)+1,w.op⟩⟩]
def xA(w:DWorld):DWorld:={w with log:=kH w.log,net:=dA w.net (fI w.log.owe)}
def tG(w:DWorld):DNet:=
 let n:=it w.net ⟨1,0,dX 3 (w.store.state.index+1) 1 2001⟩
 if(cY w.store).last>0 then it n ⟨1,0,dX 5 (cY w.store).last 1 2000⟩else n
def pF(w:DWorld):DWorld:={w with store:=hI (cY w.store),net:=tG w}
def dV(w:DWorld)(k:Nat):Int:=w.clocks.getD k 0
def dY(w:DWorld)(k:Nat):DWorld:=
 if eS w k then
  match k with
  |0=>xA w
  |1=>pF w
  |2=>{w with left:=cX w.left (dV w 2),net:=dA w.net (fg (cX w.left (dV w 2)))}
  |3=>{w with right:=cX w.right (dV w 3),net:=dA w.net (fg (cX w.right (dV w 3)))}
  |4=>{w with net:=dA w.net (fQ w.ann)}
  |5=>{w with net:=dA w.net (fQ w.bob)}
  |_=>w
 else w
def fi(w:DWorld):Nat->DWorld
 |0=>w
 |k+1=>dY (fi w k) k
theorem Kk(h:fd w.net=true):fd (tG w)=true:=by
 unfold tG;simp only;split
 ·exact pw (pw h)
 ·exact pw h
theorem Kt(h:dN w=true):dN (dY w k)=true:=by
 have f:=rK h;unfold dY;split
 ·rename_i hu;split
  ·exact((f.withLog hu (Do (Qq (f.logOk hu))).ok).withNet (ln f.net)).ok
  ·exact((f.withStore hu (NN (tA (zS (f.storeOk hu)))).ok).withNet (Kk f.net)).ok
  ·have hl:=nL f.left;have d:=jR (now:=dV w 2) (CZ hl.1);exact((f.withLeft hu d.1.ok (by rw[d.2];exact hl.2)).withNet (ln f.net)).ok
  ·have hl:=nL f.right;have d:=jR (now:=dV w 3) (CZ hl.1);exact((f.withRight hu d.1.ok (by rw[d.2];exact hl.2)).withNet (ln f.net)).ok
  ·exact(f.withNet (ln f.net)).ok
  ·exact(f.withNet (ln f.net)).ok
  ·exact h
 ·exact h
theorem nD(h:dN w=true):∀k,dN (fi w k)=true
 |0=>h
 |k+1=>Kt (nD h k)
theorem KE(h:w.up.length=6)(hk:k<6):(w.up.map eB)[k]? =some (eB (eS w k)):=by
 rw[List.getElem?_map,List.getElem?_eq_getElem ac,eS,List.getD_eq_getElem?_getD,List.getElem?_eq_getElem ac];rfl
theorem GG(f:lU w):w.clocks.length=6/\∀x∈w.clocks,tOk x=true:=by
 have h:=f.clocks;simp only[fp,Bool.and_eq_true,decide_eq_true_eq,List.all_eq_true]at h;exact h
theorem GF(f:lU w)(hk:k<6):(w.clocks.map eI)[k]? =some (eI (dV w k)):=by
 have hl:k<w.clocks.length:=by rw[(GG f).1];exact hk
 rw[List.getElem?_map,dV,List.getD_eq_getElem?_getD,List.getElem?_eq_getElem hl];rfl
theorem GH(f:lU w)(hk:k<6):tOk (dV w k)=true:=by
 have hl:k<w.clocks.length:=by rw[(GG f).1];exact hk
 rw[dV,List.getD_eq_getElem?_getD,List.getElem?_eq_getElem hl];exact(GG f).2 _ (List.getElem_mem hl)
end
end Go.Proofs.YtknefkdcokgpbaaGreat
