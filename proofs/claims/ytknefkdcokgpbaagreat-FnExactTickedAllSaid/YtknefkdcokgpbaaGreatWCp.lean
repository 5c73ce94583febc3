/- WCp -/
import Derived.Test.YtknefkdcokgpbaaGreatAvFO
import Derived.Test.YtknefkdcokgpbaaGreatWTo
import Derived.Test.YtknefkdcokgpbaaGreatWA4
import Derived.Test.YtknefkdcokgpbaaGreatAwx
set_option maxHeartbeats 8000000
set_option linter.unusedVariables false
set_option linter.unusedSimpArgs false
set_option maxRecDepth 100000
namespace Go.Proofs.YtknefkdcokgpbaaGreat
section
open Go.Proofs.Tryz
open Go.ChangeShapes Go.WideShapes Go.RowKit
variable {xs:List (List AD)}
theorem alW{s:Nat}(h:∀x∈xs,x.length=s:=by first|(intro y hy;obtain⟨a,_,rfl⟩:=List.mem_map.1 hy;rfl)|(simp;done)):∀x∈xs,x.length=s:=h
theorem BE{n:Nat}(h:∀x∈xs,x.all AD.isBl=true:=by(intro y hy;obtain⟨a,_,rfl⟩:=List.mem_map.1 hy;rfl)):Fam n n xs.flatten xs.flatten:=Ya (p7 h)
theorem la(l:List Int)(hs:l.length<=1048576):ce av 181 [.one (.sl (l.map eI))] (.one (.sl (l.map eI))):=by
 refine ck aN func181 rfl call181 ntmps181 (aaK results181) λS=>?_;conv=>whnf
 repeat'((first|refine awz ?_|refine aJ am ?_|refine aI alW ?_|fail)<;>conv=>whnf)
 exact⟨_,_,l.map eI,Nat.le_refl _,BE (n:=S.w0.heap.size),rfl,alW,rfl⟩
theorem yW(l:List DMark)(hs:l.length<=1048576):ce av 287 [.one (.sl (l.map DMark.ds))] (.one (.sl (l.map DMark.ds))):=by
 refine ck aN func287 rfl call287 ntmps287 (aaK results287) λS=>?_;conv=>whnf
 repeat'((first|refine awz ?_|refine aJ am ?_|refine aI alW ?_|fail)<;>conv=>whnf)
 exact⟨_,_,l.map DMark.ds,Nat.le_refl _,BE (n:=S.w0.heap.size),rfl,alW,rfl⟩
theorem GV(l:List DPair)(hs:l.length<=1048576):ce av 376 [.one (.sl (l.map DPair.ds))] (.one (.sl (l.map DPair.ds))):=by
 refine ck aN func376 rfl call376 ntmps376 (aaK results376) λS=>?_;conv=>whnf
 repeat'((first|refine awz ?_|refine aJ am ?_|refine aI alW ?_|fail)<;>conv=>whnf)
 exact⟨_,_,l.map DPair.ds,Nat.le_refl _,BE (n:=S.w0.heap.size),rfl,alW,rfl⟩
theorem IZ(l:List DJob)(hs:l.length<=1048576):ce av 377 [.one (.sl (l.map DJob.ds))] (.one (.sl (l.map DJob.ds))):=by
 refine ck aN func377 rfl call377 ntmps377 (aaK results377) λS=>?_;conv=>whnf
 repeat'((first|refine awz ?_|refine aJ am ?_|refine aI alW ?_|fail)<;>conv=>whnf)
 exact⟨_,_,l.map DJob.ds,Nat.le_refl _,BE (n:=S.w0.heap.size),rfl,alW,rfl⟩
theorem uw(l:List Int)(hs:l.length<=1048576):ce av 242 [.one (.sl (l.map eI))] (.one (.sl (l.map eI))):=by
 refine ck aN func242 rfl call242 ntmps242 (aaK results242) λS=>?_;conv=>whnf
 repeat'((first|refine awz ?_|refine aJ am ?_|refine aI alW ?_|fail)<;>conv=>whnf)
 exact⟨_,_,l.map eI,Nat.le_refl _,BE (n:=S.w0.heap.size),rfl,alW,rfl⟩
end
open Go.Proofs.Tryz
open Go.ChangeShapes Go.WideShapes Go.RowKit
def qY:List (List Nat):=bZ [0,1,0,3,0,5,6,28930,0x2071851030811c8]
def ke:List (List Nat):=bZ [0,1,0,3,0,5,6,452,8,29250,0x289207185103081,0xa2481c61440c204a28b]
def qZ:List (List Nat):=bZ [0,1,2,0,4,197,387,0x7185103081187]
def pR:List (List Nat):=bZ [0,1,0,3,0,5,0,7,8,2384130,0x28920718510308124a]
def pQ:List (List Nat):=bZ [0,1,0,3,0,0,6,453,33026,0x9207185103081209]
def qX:List (List Nat):=bZ [0,1,2,0,4,197,0,7,392,0,10,0,12,589,0,15,912,0,18,0,0,21,71060,0x5d344e2c9183,0x61759551349140f38d30b2892071851030815d8]
def oO:List (List Nat):=bZ [0,1,0,3,0,5,6,0,8,457,0,11,203976962,0xd30b28920718510308128d]
def oP:List (List Nat):=bZ [0,1,2,0,4,197,0,7,0,9,0,11,203981187,0xd30b28920718510308118d]
def oA:List (List Nat):=bZ [0,1,0,0,4,323,0,0,8,25159,0,11,3187074,0xd30b28920718510308128d]
def fJ:List (List Nat):=bZ [0,1,0,3,4,16706,6527398017,0x61440c2046187]
def oQ:List (List Nat):=bZ [0,1,2,0,4,197,0,7,392,0,10,587,0,13,782,0,16,977,0,19,1172,0,22,1367,0,0,26,100057,7988315155370371,0x1d71b69961759551349140f38d30b28920718510308171d]
theorem vR(x:DMsg)(hs:Yy 1048576 x):ce av 291 [.agg x.ds] (.agg x.ds):=by
 refine cL aN func291 rfl call291 ntmps291 (aaK results291) λS=>?_;conv=>whnf
 repeat'(first|refine awz ?_|fail)
 (refine X7 aN 1 (tkc [0,1,2,3,4,5] (onc [6,7,8] .done)) [(1,9980)] qY ae ae ae ae (λRz=>?_);(conv=>whnf);intro bp0 up0;(conv=>whnf))
 repeat'(first|refine awz ?_|(refine X6 (la x.row hs) rfl rfl λR1 l1 h1 a1 b1 F1=>?_;conv=>whnf)|fail)
 exact⟨_,_,_,⟨(by omega:S.w0.heap.size<=l1),trivial,trivial⟩,Fam.app (Ya (lo:=l1) (hi:=l1) (ds:=[dI x.frm,dI x.to_]) rfl) F1 ac ac ac,rfl⟩
theorem sW(l:(List (List Int)))(hs:l.length<=1048576/\∀y∈l,y.length<=1048576):ce av 375 [.one (.sl (l.map bM))] (.one (.sl (l.map bM))):=by
 have hl:l.length<=1048576:=hs.1;refine ck aN func375 rfl call375 ntmps375 (aaK results375) λS=>?_;conv=>whnf
 repeat'(first|refine awz ?_|(refine⟨l.length,by simp,(show 24*l.length<=_ by omega),ac,?_⟩;conv=>whnf)|fail)
 refine X5 (λg:Nat×Nat×List (List AD)=>g.1<=l.length/\g.2.2.length=g.1/\S.w0.heap.size<=g.2.1/\Fam S.w0.heap.size g.2.1 g.2.2.flatten ((l.take g.1).map bM).flatten) (8::[3,5,11,12,13,14,15,16,17,18,19,20]) (λg=>[(3,.one (.own 8)),(11,vI .i64 (g.1:Int))]) (λg=>[(9997,cH S.w0.heap.size g.2.1),(8,.row 62 1 g.2.2)]) (λg=>l.length-g.1) (0,S.w0.heap.size,[]) ⟨Nat.zero_le _,rfl,Nat.le_refl _,Ya rfl⟩ ?_ sbW (λg hR=>?_)<;>(conv=>whnf)
 ·exact whd
 ·obtain⟨k,m,cs⟩:=g;obtain⟨hk,hcs,hm,hF⟩:=hR;simp only at hk hcs hm hF;repeat'((first|refine awz ?_|refine Yc ari (λhlt=>?_)|refine X6 (la _ (hs.2 _ (List.getElem_mem hlt))) rfl rfl λR lo hi a1 a2 F=>?_|refine aJ (by simp only[hcs,List.length_cons,List.length_nil];omega) ?_|refine X3 ari ari ?_|refine tW ?_ ?_|intro h)<;>conv=>whnf)
  ·have a1:m<=lo:=a1;refine bd.mk ⟨(k+1,hi,cs++[bS R 0 (bM l[k])]),⟨by simp only;omega,by simp[hcs],by simp only;omega,?_⟩,by simp only;omega,?_,sbW⟩
   ·simp only;rw[dn bM ac];exact hF.flat_set F ac ac ac
   ·exact hds
  ·have:k=l.length:=ari;subst this;refine⟨_,m,l.map bM,Nat.le_refl _,?_,by simp[hcs],alW,rfl⟩;rw[List.take_length]at hF;exact hF
theorem jU(x:DDisk)(hs:Yp 1048576 x):ce av 288 [.agg x.ds] (.agg x.ds):=by
 obtain⟨h1,h2,h3,h4⟩:=(show x.kept.length<=1048576/\(∀y∈x.kept,y.length<=1048576)/\x.wait.length<=1048576/\(∀y∈x.wait,Yu 1048576 y)from hs);refine cL aN func288 rfl call288 ntmps288 (aaK results288) λS=>?_;conv=>whnf
 repeat'(first|refine awz ?_|(refine X6 (sW x.kept ⟨h1,h2⟩) rfl rfl λR1 l1 e1 a1 b1 F1=>?_;conv=>whnf)|fail)
 refine YG 3 1 26 336 2 ah ?_;conv=>whnf
 repeat'(first|refine awz ?_|fail)
 refine X5 (λg:Nat×Nat×List (List AD)=>g.1<=x.wait.length/\g.2.2.length=g.1/\e1<=g.2.1/\Fam e1 g.2.1 g.2.2.flatten ((x.wait.take g.1).map DWrite.ds).flatten) (5::rg 13 16) (λg=>[(13,vI .i64 (g.1:Int))]) (λg=>[(9997,cH S.w0.heap.size g.2.1),(1,.cells 69 (x.ds.map .d)),(2,.cells 69 [.nil,.nil]),(3,.cells 69 [.d (.x (R1 0)),.own 26]),(26,.row 336 2 g.2.2)]) (λg=>x.wait.length-g.1) (0,e1,[]) ⟨Nat.zero_le _,rfl,Nat.le_refl _,Ya rfl⟩ ?_ sbW (λg hR=>?_)<;>(conv=>whnf)
 ·exact whd
 ·obtain⟨k,m,cs⟩:=g;obtain⟨hk,hcs,hm,hF⟩:=hR;simp only at hk hcs hm hF;repeat'((first|refine awz ?_|refine Yc ari (λhlt=>?_)|refine tW ?_ ?_|intro h)<;>conv=>whnf)
  ·(refine X7 aN 5 (tkc [0,2,3,4,5] (.two 1 (onc [6,7,8,9] (.take 10 (.one 11 .done))) 6 (.two 1 (onc [7,8,9] (.take 10 (.one 11 .done))) 7 (.two 1 (.one 8 (.one 9 (.take 10 (.one 11 .done)))) 8 (.one 1 (.one 9 (.take 10 (.one 11 .done)))))))) [(5,9980)] ke ae ae ae ae (λRz=>?_);(conv=>whnf);intro bp0 up0;(conv=>whnf))
   repeat'((first|refine awz ?_|refine X6 (la _ (h4 _ (List.getElem_mem hlt))) rfl rfl λR lo hi a1 a2 F=>?_|refine aJ (by simp only[hcs,List.length_cons,List.length_nil];omega) ?_|refine X3 ari ari ?_|refine tW ?_ ?_|fail)<;>conv=>whnf)
   all_goals
    have a1:m<=lo:=a1;refine bd.mk ⟨(k+1,hi,cs++[[dI x.wait[k].at_,.x (R 0)]]),⟨by simp only;omega,by simp[hcs],by simp only;omega,?_⟩,by simp only;omega,?_,sbW⟩
    ·simp only;rw[dn DWrite.ds ac];exact hF.flat_set (Fam.app (Ya (lo:=lo) (hi:=lo) (ds:=[dI x.wait[k].at_]) rfl) F ac ac ac) ac ac ac
    ·exact hds
  ·have:k=x.wait.length:=ari;subst this;rw[List.take_length]at hF;repeat'(first|(refine j5.fam hF (by simp[hcs]) alW ?_;conv=>whnf)|fail)
   exact⟨_,_,_,⟨ac,⟨.inl (by simp only;omega),trivial⟩,ac,trivial,trivial⟩,F1,rfl⟩
theorem LM(x:DTwo)(hs:YA 1048576 x):ce av 284 [.agg x.ds] (.agg x.ds):=by
 refine cL aN func284 rfl call284 ntmps284 (aaK results284) λS=>?_;conv=>whnf
 repeat'(first|refine awz ?_|fail)
 (refine X7 aN 1 (tkc [0,1,3,4] (onc [2,5,6,7] .done)) [(1,9980)] qZ ae ae ae ae (λRz=>?_);(conv=>whnf);intro bp0 up0;(conv=>whnf))
 repeat'((first|refine awz ?_|refine X6 (jU x.a hs.1) rfl rfl λR1 l1 e1 a1 b1 F1=>?_|refine X6 (jU x.b hs.2) rfl rfl λR2 l2 e2 a2 b2 F2=>?_|fail)<;>conv=>whnf)
 exact⟨_,_,_,⟨(by omega:S.w0.heap.size<=l1),trivial,trivial⟩,(Fam.app F1 F2 ac ac ac),rfl⟩
theorem yV(x:DHead)(hs:Yo 1048576 x):ce av 285 [.agg x.ds] (.agg x.ds):=by
 have h1:x.seen.length<=1048576:=hs;refine cL aN func285 rfl call285 ntmps285 (aaK results285) λS=>?_;conv=>whnf
 repeat'(first|refine awz ?_|fail)
 (refine X7 aN 1 (tkc [0,1,2,3,4,5,6,7] (onc [8,9,10] .done)) [(1,9980)] pR ae ae ae ae (λRz=>?_);(conv=>whnf);intro bp0 up0;(conv=>whnf))
 repeat'(first|refine awz ?_|(refine X6 (yW x.seen h1) rfl rfl λR1 l1 e1 a1 b1 F1=>?_;conv=>whnf)|fail)
 exact⟨_,_,_,⟨(by omega:S.w0.heap.size<=l1),trivial,trivial⟩,(Fam.app (Ya (lo:=l1) (hi:=l1) (ds:=[dI x.num,dI x.base,dI x.time]) rfl) F1 ac ac ac),rfl⟩
theorem yU(x:DBook)(hs:Yx 1048576 x):ce av 286 [.agg x.ds] (.agg x.ds):=by
 have h1:x.entries.length<=1048576:=hs;refine cL aN func286 rfl call286 ntmps286 (aaK results286) λS=>?_;conv=>whnf
 repeat'(first|refine awz ?_|fail)
 (refine X7 aN 1 (tkc [0,1,2,3,5,6] (onc [4,7,8,9] .done)) [(1,9980)] pQ ae ae ae ae (λRz=>?_);(conv=>whnf);intro bp0 up0;(conv=>whnf))
 repeat'((first|refine awz ?_|refine aJ am ?_|refine aI alW ?_|refine YH bls ?_|fail)<;>conv=>whnf)
 all_goals exact⟨_,_,_,⟨Nat.le_refl S.w0.heap.size,trivial,trivial⟩,(Ya (lo:=S.w0.heap.size) (hi:=S.w0.heap.size) (ds:=[dI x.base,dI x.time]) rfl),rfl⟩
theorem B4(x:DLogNode)(hs:Yq 1048576 x):ce av 176 [.agg x.ds] (.agg x.ds):=by
 obtain⟨h1,h2,h3,h4,h5,h6⟩:=(show YA 1048576 x.two/\Yo 1048576 x.head/\Yo 1048576 x.nxt/\Yx 1048576 x.book/\x.seen.length<=1048576/\x.owe.length<=1048576 from hs);refine cL aN func176 rfl call176 ntmps176 (aaK results176) λS=>?_;conv=>whnf
 repeat'(first|refine awz ?_|fail)
 (refine X7 aN 1 (tkc [0,1,3,4,6,7,9,10,11,12,14,15,17,18,20,21] (.two 2 (.two 5 (.two 8 (.two 13 (.two 16 (onc [19,22,23,24] .done) 19 (onc [16,22,23,24] .done)) 19 (onc [13,16,22,23,24] .done)) 19 (onc [8,13,16,22,23,24] .done)) 19 (onc [5,8,13,16,22,23,24] .done)) 19 (onc [2,5,8,13,16,22,23,24] .done))) [(1,9980)] qX ae ae ae ae (λRz=>?_);(conv=>whnf);intro bp0 up0;(conv=>whnf))
 repeat'((first|refine awz ?_|refine X6 (LM x.two h1) rfl rfl λR1 l1 e1 a1 b1 F1=>?_|refine X6 (yV x.head h2) rfl rfl λR2 l2 e2 a2 b2 F2=>?_|refine X6 (yV x.nxt h3) rfl rfl λR3 l3 e3 a3 b3 F3=>?_|refine X6 (yU x.book h4) rfl rfl λR4 l4 e4 a4 b4 F4=>?_|refine X6 (yW x.seen h5) rfl rfl λR5 l5 e5 a5 b5 F5=>?_|refine aJ am ?_|refine aI alW ?_|refine YH bls ?_|refine tW ?_ ?_|fail)<;>conv=>whnf)
 all_goals exact⟨_,_,_,⟨(by omega:S.w0.heap.size<=l1),trivial,trivial⟩,(Fam.app (Fam.app (Fam.app (Fam.app (Fam.app (Fam.app F1 F2 ac ac ac) F3 ac ac ac) (Ya (lo:=e3) (hi:=e3) (ds:=[dB x.more]) rfl) ac ac ac) F4 ac ac ac) F5 ac ac ac) (Ya (lo:=e5) (hi:=e5) (ds:=[dI x.durable]) rfl) ac ac ac),rfl⟩
theorem GW(x:DState)(hs:Yt 1048576 x):ce av 289 [.agg x.ds] (.agg x.ds):=by
 obtain⟨h1,h2⟩:=(show x.pairs.length<=1048576/\x.jobs.length<=1048576 from hs);refine cL aN func289 rfl call289 ntmps289 (aaK results289) λS=>?_;conv=>whnf
 repeat'(first|refine awz ?_|fail)
 (refine X7 aN 1 (tkc [0,1,2,3,4,5,7,8,10,11] (onc [6,9,12,13] .done)) [(1,9980)] oO ae ae ae ae (λRz=>?_);(conv=>whnf);intro bp0 up0;(conv=>whnf))
 repeat'((first|refine awz ?_|refine X6 (GV x.pairs h1) rfl rfl λR1 l1 e1 a1 b1 F1=>?_|refine X6 (IZ x.jobs h2) rfl rfl λR2 l2 e2 a2 b2 F2=>?_|fail)<;>conv=>whnf)
 exact⟨_,_,_,⟨(by omega:S.w0.heap.size<=l1),trivial,trivial⟩,(Fam.app (Fam.app (Fam.app (Ya (lo:=l1) (hi:=l1) (ds:=[dI x.index,dI x.time]) rfl) F1 ac ac ac) F2 ac ac ac) (Ya (lo:=e2) (hi:=e2) (ds:=[dI x.lease.holder,dI x.lease.epoch,dI x.lease.til]) rfl) ac ac ac),rfl⟩
theorem qe(x:DStore)(hs:Yv 1048576 x):ce av 177 [.agg x.ds] (.agg x.ds):=by
 obtain⟨h1,h2⟩:=(show Yp 1048576 x.disk/\Yt 1048576 x.state from hs);refine cL aN func177 rfl call177 ntmps177 (aaK results177) λS=>?_;conv=>whnf
 repeat'(first|refine awz ?_|fail)
 (refine X7 aN 1 (tkc [0,1,3,4,6,7,8,9,10,11] (onc [2,5,12,13] .done)) [(1,9980)] oP ae ae ae ae (λRz=>?_);(conv=>whnf);intro bp0 up0;(conv=>whnf))
 repeat'((first|refine awz ?_|refine X6 (jU x.disk h1) rfl rfl λR1 l1 e1 a1 b1 F1=>?_|refine X6 (GW x.state h2) rfl rfl λR2 l2 e2 a2 b2 F2=>?_|fail)<;>conv=>whnf)
 exact⟨_,_,_,⟨(by omega:S.w0.heap.size<=l1),trivial,trivial⟩,(Fam.app (Fam.app F1 F2 ac ac ac) (Ya (lo:=e2) (hi:=e2) (ds:=[dI x.num,dI x.last,dI x.busy]) rfl) ac ac ac),rfl⟩
theorem I0(x:DView)(hs:YC 1048576 x):ce av 290 [.agg x.ds] (.agg x.ds):=by
 have h1:x.jobs.opens.length<=1048576:=hs;refine cL aN func290 rfl call290 ntmps290 (aaK results290) λS=>?_;conv=>whnf
 repeat'((first|refine awz ?_|refine aJ am ?_|refine aI alW ?_|refine YH bls ?_|fail)<;>conv=>whnf)
 exact⟨_,_,_,⟨Nat.le_refl S.w0.heap.size,trivial,trivial⟩,(Ya (lo:=S.w0.heap.size) (hi:=S.w0.heap.size) (ds:=[dI x.jobs.index,dI x.jobs.time,dI x.jobs.holder,dI x.jobs.epoch,dI x.jobs.til]) rfl),rfl⟩
theorem qd(x:DSched)(hs:Yr 1048576 x):ce av 178 [.agg x.ds] (.agg x.ds):=by
 refine cL aN func178 rfl call178 ntmps178 (aaK results178) λS=>?_;conv=>whnf
 repeat'(first|refine awz ?_|(refine X6 (I0 x.view hs) rfl rfl λR1 l1 e1 a1 b1 F1=>?_;conv=>whnf)|fail)
 exact⟨_,_,_,⟨(by omega:S.w0.heap.size<=l1),trivial,trivial⟩,(Fam.app (Fam.app (Ya (lo:=l1) (hi:=l1) (ds:=[dI x.id,dI x.seq]) rfl) F1 ac ac ac) (Ya (lo:=e1) (hi:=e1) (ds:=[dB x.busy,dI x.op.kind,dI x.op.a,dI x.op.b,dI x.op.c,dI x.op.d,dI x.index]) rfl) ac ac ac),rfl⟩
theorem vg(x:DClient)(hs:Ys 1048576 x):ce av 179 [.agg x.ds] (.agg x.ds):=by
 obtain⟨h1,h2⟩:=(show x.todo.length<=1048576/\x.gots.length<=1048576 from hs);refine cL aN func179 rfl call179 ntmps179 (aaK results179) λS=>?_;conv=>whnf
 repeat'(first|refine awz ?_|fail)
 (refine X7 aN 1 (tkc [0,1,3,4,7,8,10,11] (.two 2 (.two 5 (onc [6,9,12,13] .done) 6 (onc [5,9,12,13] .done)) 6 (onc [2,5,9,12,13] .done))) [(1,9980)] oA ae ae ae ae (λRz=>?_);(conv=>whnf);intro bp0 up0;(conv=>whnf))
 repeat'((first|refine awz ?_|refine aJ am ?_|refine aI alW ?_|refine YH bls ?_|refine tW ?_ ?_|fail)<;>conv=>whnf)
 all_goals exact⟨_,_,_,⟨Nat.le_refl S.w0.heap.size,trivial,trivial⟩,(Ya (lo:=S.w0.heap.size) (hi:=S.w0.heap.size) (ds:=[dI x.id,dI x.last]) rfl),rfl⟩
theorem B5(x:DNet)(hs:Yz 1048576 x):ce av 180 [.agg x.ds] (.agg x.ds):=by
 obtain⟨h1,h2,h3⟩:=(show x.flight.length<=1048576/\(∀y∈x.flight,Yy 1048576 y)/\x.cuts.length<=1048576 from hs);refine cL aN func180 rfl call180 ntmps180 (aaK results180) λS=>?_;conv=>whnf
 repeat'((first|refine awz ?_|refine aJ am ?_|refine aI alW ?_|fail)<;>conv=>whnf)
 refine YG 3 0 23 216 3 ah ?_;conv=>whnf
 repeat'(first|refine awz ?_|fail)
 refine X5 (λg:Nat×Nat×List (List AD)=>g.1<=x.flight.length/\g.2.2.length=g.1/\S.w0.heap.size<=g.2.1/\Fam S.w0.heap.size g.2.1 g.2.2.flatten ((x.flight.take g.1).map DMsg.ds).flatten) (5::rg 14 12) (λg=>[(14,vI .i64 (g.1:Int))]) (λg=>[(9997,cH S.w0.heap.size g.2.1),(1,.cells 103 (x.ds.map .d)),(2,.cells 103 [.nil,.nil]),(3,.cells 103 [.own 23,.own 6]),(6,.row 218 2 (x.cuts.map DLink.ds)),(23,.row 216 3 g.2.2)]) (λg=>x.flight.length-g.1) (0,S.w0.heap.size,[]) ⟨Nat.zero_le _,rfl,Nat.le_refl _,Ya rfl⟩ ?_ sbW (λg hR=>?_)<;>(conv=>whnf)
 ·exact whd
 ·obtain⟨k,m,cs⟩:=g;obtain⟨hk,hcs,hm,hF⟩:=hR;simp only at hk hcs hm hF;repeat'((first|refine awz ?_|refine Yc ari (λhlt=>?_)|refine tW ?_ ?_|intro h)<;>conv=>whnf)
  ·(refine X7 aN 5 (.take 0 (.take 2 (.two 1 (onc [3,4,5] (.take 6 (.one 7 .done))) 3 (.two 1 (.one 4 (.one 5 (.take 6 (.one 7 .done)))) 4 (.one 1 (.one 5 (.take 6 (.one 7 .done)))))))) [(5,9980)] fJ ae ae ae ae (λRz=>?_);(conv=>whnf);intro bp0 up0;(conv=>whnf))
   repeat'((first|refine awz ?_|refine X6 (vR _ (h2 _ (List.getElem_mem hlt))) rfl rfl λR lo hi a1 a2 F=>?_|refine aJ (by simp only[hcs,List.length_cons,List.length_nil];omega) ?_|refine X3 ari ari ?_|refine tW ?_ ?_|fail)<;>conv=>whnf)
   all_goals
    have a1:m<=lo:=a1;refine bd.mk ⟨(k+1,hi,cs++[bS R 0 (DMsg.ds x.flight[k])]),⟨by simp only;omega,by simp[hcs],by simp only;omega,?_⟩,by simp only;omega,?_,sbW⟩
    ·simp only;rw[dn DMsg.ds ac];exact hF.flat_set F ac ac ac
    ·exact hds
  ·have:k=x.flight.length:=ari;subst this;rw[List.take_length]at hF;repeat'((first|refine YH bls ?_|refine j5.fam hF (by simp[hcs]) alW ?_|fail)<;>conv=>whnf)
   exact⟨S.w0.heap.size,S.w0.heap.size,[],⟨Nat.le_refl _,⟨.inl (Nat.le_refl _),trivial⟩,Nat.le_refl _,trivial,trivial⟩,Ya rfl,rfl⟩
theorem GX(x:DWorld)(hs:Ym 1048576 x):ce av 86 [.agg x.ds] (.agg x.ds):=by
 obtain⟨h1,h2,h3,h4,h5,h6,h7,h8,h9⟩:=id hs;refine cL aN func86 rfl call86 ntmps86 (aaK results86) λS=>?_;conv=>whnf
 repeat'(first|refine awz ?_|fail)
 (refine X7 aN 1 (tkc [0,1,3,4,6,7,9,10,12,13,15,16,18,19,21,22,25,26] (.two 2 (.two 5 (.two 8 (.two 11 (.two 14 (.two 17 (.two 20 (.two 23 (onc [24,27,28,29] .done) 24 (onc [23,27,28,29] .done)) 24 (onc [20,23,27,28,29] .done)) 24 (onc [17,20,23,27,28,29] .done)) 24 (onc [14,17,20,23,27,28,29] .done)) 24 (onc [11,14,17,20,23,27,28,29] .done)) 24 (onc [8,11,14,17,20,23,27,28,29] .done)) 24 (onc [5,8,11,14,17,20,23,27,28,29] .done)) 24 (onc [2,5,8,11,14,17,20,23,27,28,29] .done))) [(1,9980)] oQ ae ae ae ae (λRz=>?_);(conv=>whnf);intro bp0 up0;(conv=>whnf))
 repeat'((first|refine awz ?_|refine X6 (B4 x.log h1) rfl rfl λR1 l1 e1 a1 b1 F1=>?_|refine X6 (qe x.store h2) rfl rfl λR2 l2 e2 a2 b2 F2=>?_|refine X6 (qd x.left h3) rfl rfl λR3 l3 e3 a3 b3 F3=>?_|refine X6 (qd x.right h4) rfl rfl λR4 l4 e4 a4 b4 F4=>?_|refine X6 (vg x.ann h5) rfl rfl λR5 l5 e5 a5 b5 F5=>?_|refine X6 (vg x.bob h6) rfl rfl λR6 l6 e6 a6 b6 F6=>?_|refine X6 (B5 x.net h7) rfl rfl λR7 l7 e7 a7 b7 F7=>?_|refine X6 (la x.clocks h8) rfl rfl λR8 l8 e8 a8 b8 F8=>?_|refine aJ am ?_|refine aI alW ?_|refine YH bls ?_|refine tW ?_ ?_|fail)<;>conv=>whnf)
 all_goals exact⟨_,_,_,⟨(by omega:S.w0.heap.size<=l1),trivial,trivial⟩,(Fam.app (Fam.app (Fam.app (Fam.app (Fam.app (Fam.app (Fam.app F1 F2 ac ac ac) F3 ac ac ac) F4 ac ac ac) F5 ac ac ac) F6 ac ac ac) F7 ac ac ac) F8 ac ac ac),rfl⟩
def sg:List (List Nat):=bZ [0,1,0,3,0,324,6,7,8,33346,0x289207185103081,0xa2481c61440c204a28b]
def si:List (List Nat):=bZ [0,1,0,3,0,324,6,7,0,9,0,714,12,13,14,968,16,62530,0x49140f38d30b289207185103081,0x124503ce34c2ca2481c61440c2052493]
def sj:List (List Nat):=bZ [0,1,2,0,4,197,387,0x7185103081187]
def oB:List (List Nat):=bZ [0,1,0,3,0,324,6,7,0,9,0,714,12,13,0,15,0,1104,18,19,20,86920,22,87490,0x61759551349140f38d30b289207185103081,0x185d65544d24503ce34c2ca2481c61440c2058619]
theorem tD(x:DHead)(hs:Yo 1048576 x):ce av 329 [.agg x.ds] (.agg x.ds):=by
 have h1:x.seen.length<=1048576:=hs;refine cL aN func329 rfl call329 ntmps329 (aaK results329) λS=>?_;conv=>whnf
 repeat'((first|refine awz ?_|refine aJ am ?_|refine aI alW ?_|refine YH bls ?_|fail)<;>conv=>whnf)
 exact⟨_,_,_,⟨Nat.le_refl S.w0.heap.size,trivial,trivial⟩,(Ya (lo:=S.w0.heap.size) (hi:=S.w0.heap.size) (ds:=[dI x.num,dI x.base,dI x.time]) rfl),rfl⟩
theorem qQ(x:DSched)(hs:Yr 1048576 x):ce av 239 [.agg x.ds] (.agg x.ds):=by
 have h1:x.view.jobs.opens.length<=1048576:=hs;refine cL aN func239 rfl call239 ntmps239 (aaK results239) λS=>?_;conv=>whnf
 repeat'((first|refine awz ?_|refine aJ am ?_|refine aI alW ?_|refine YH bls ?_|fail)<;>conv=>whnf)
 exact⟨_,_,_,⟨Nat.le_refl S.w0.heap.size,trivial,trivial⟩,(Ya (lo:=S.w0.heap.size) (hi:=S.w0.heap.size) (ds:=[dI x.id,dI x.seq,dI x.view.jobs.index,dI x.view.jobs.time,dI x.view.jobs.holder,dI x.view.jobs.epoch,dI x.view.jobs.til,dB x.busy,dI x.op.kind,dI x.op.a,dI x.op.b,dI x.op.c,dI x.op.d,dI x.index]) rfl),rfl⟩
theorem pA(x:DClient)(hs:Ys 1048576 x):ce av 240 [.agg x.ds] (.agg x.ds):=by
 obtain⟨h1,h2⟩:=(show x.todo.length<=1048576/\x.gots.length<=1048576 from hs);refine cL aN func240 rfl call240 ntmps240 (aaK results240) λS=>?_;conv=>whnf
 repeat'((first|refine awz ?_|refine aJ am ?_|refine aI alW ?_|refine YH bls ?_|fail)<;>conv=>whnf)
 exact⟨_,_,_,⟨Nat.le_refl S.w0.heap.size,trivial,trivial⟩,(Ya (lo:=S.w0.heap.size) (hi:=S.w0.heap.size) (ds:=[dI x.id,dI x.last]) rfl),rfl⟩
theorem yo(x:DDisk)(hs:Yp 1048576 x):ce av 330 [.agg x.ds] (.agg x.ds):=by
 obtain⟨h1,h2,h3,h4⟩:=(show x.kept.length<=1048576/\(∀y∈x.kept,y.length<=1048576)/\x.wait.length<=1048576/\(∀y∈x.wait,Yu 1048576 y)from hs);refine cL aN func330 rfl call330 ntmps330 (aaK results330) λS=>?_;conv=>whnf
 repeat'(first|refine awz ?_|fail)
 refine YG 3 0 23 62 1 ah ?_;conv=>whnf
 repeat'(first|refine awz ?_|fail)
 refine X5 (λg:Nat×Nat×List (List AD)=>g.1<=x.kept.length/\g.2.2.length=g.1/\S.w0.heap.size<=g.2.1/\Fam S.w0.heap.size g.2.1 g.2.2.flatten ((x.kept.take g.1).map bM).flatten) (4::rg 7 18) (λg=>[(4,vI .i64 (g.1:Int))]) (λg=>[(9997,cH S.w0.heap.size g.2.1),(1,.cells 69 (x.ds.map .d)),(2,.cells 69 [.nil,.nil]),(3,.cells 69 [.own 23,.nil]),(23,.row 62 1 g.2.2)]) (λg=>x.kept.length-g.1) (0,S.w0.heap.size,[]) ⟨Nat.zero_le _,rfl,Nat.le_refl _,Ya rfl⟩ ?_ sbW (λg hR=>?_)<;>(conv=>whnf)
 ·exact whd
 ·obtain⟨k,m,cs⟩:=g;obtain⟨hk,hcs,hm,hF⟩:=hR;simp only at hk hcs hm hF;repeat'(first|refine awz ?_|refine tW ?_ ?_|(intro h;conv=>whnf))
  ·have hlt:k<x.kept.length:=ari;(refine X7 aN 5 (tkc [0,2,3,4,5,6] (.two 1 (onc [7,8,9] (.take 10 (.one 11 .done))) 7 (.two 1 (.one 8 (.one 9 (.take 10 (.one 11 .done)))) 8 (.one 1 (.one 9 (.take 10 (.one 11 .done))))))) [(1,9980)] sg ae ae ae ae (λRz=>?_);(conv=>whnf);intro bp0 up0;(conv=>whnf))
   repeat'((first|refine awz ?_|refine Yg hlt ?_|refine X6 (uw _ (h2 _ (List.getElem_mem hlt))) rfl rfl λR lo hi a1 a2 F=>?_|refine aJ (by simp only[hcs,List.length_cons,List.length_nil];omega) ?_|refine X3 ari ari ?_|refine tW ?_ ?_|fail)<;>conv=>whnf)
   all_goals
    have a1:m<=lo:=a1;refine bd.mk ⟨(k+1,hi,cs++[[.x (R 0)]]),⟨by simp only;omega,by simp[hcs],by simp only;omega,?_⟩,by simp only;omega,?_,sbW⟩
    ·simp only;rw[dn bM ac];exact hF.flat_set F ac ac ac
    ·exact hds
  ·have e:k=x.kept.length:=ari;subst e;rw[List.take_length]at hF;refine YG 3 1 49 336 2 ah ?_;conv=>whnf
   repeat'(first|refine awz ?_|fail)
   refine X5 (λg:Nat×Nat×List (List AD)=>g.1<=x.wait.length/\g.2.2.length=g.1/\m<=g.2.1/\Fam m g.2.1 g.2.2.flatten ((x.wait.take g.1).map DWrite.ds).flatten) (5::rg 25 26) (λg=>[(5,vI .i64 (g.1:Int))]) (λg=>[(9997,cH S.w0.heap.size g.2.1),(1,.cells 69 (x.ds.map .d)),(2,.cells 69 [.nil,.nil]),(3,.cells 69 [.own 23,.own 49]),(23,.row 62 1 cs),(49,.row 336 2 g.2.2)]) (λg=>x.wait.length-g.1) (0,m,[]) ⟨Nat.zero_le _,rfl,Nat.le_refl _,Ya rfl⟩ ?_ sbW (λg hR=>?_)<;>(conv=>whnf)
   ·exact whd
   ·obtain⟨j,m2,cs2⟩:=g;obtain⟨hk2,hcs2,hm2,hF2⟩:=hR;simp only at hk2 hcs2 hm2 hF2;repeat'(first|refine awz ?_|refine tW ?_ ?_|(intro h;conv=>whnf))
    ·have hlt:j<x.wait.length:=ari;(refine X7 aN 9 (tkc [0,2,3,4,5,6,7,8,9,10,11,12,13] (.two 1 (onc [14,15,16,17] (.take 18 (.one 19 .done))) 14 (.two 1 (onc [15,16,17] (.take 18 (.one 19 .done))) 15 (.two 1 (.one 16 (.one 17 (.take 18 (.one 19 .done)))) 16 (.one 1 (.one 17 (.take 18 (.one 19 .done)))))))) [(1,9980)] si ae ae ae ae (λRz=>?_);(conv=>whnf);intro bp0 up0;(conv=>whnf))
     repeat'((first|refine awz ?_|refine Yg hlt ?_|refine X6 (uw _ (h4 _ (List.getElem_mem hlt))) rfl rfl λR lo hi a1 a2 F=>?_|refine aJ (by simp only[hcs2,List.length_cons,List.length_nil];omega) ?_|refine X3 ari ari ?_|refine tW ?_ ?_|fail)<;>conv=>whnf)
     all_goals
      have a1:m2<=lo:=a1;refine bd.mk ⟨(j+1,hi,cs2++[[dI x.wait[j].at_,.x (R 0)]]),⟨by simp only;omega,by simp[hcs2],by simp only;omega,?_⟩,by simp only;omega,?_,sbW⟩
      ·simp only;rw[dn DWrite.ds ac];exact hF2.flat_set (Fam.app (Ya (lo:=lo) (hi:=lo) (ds:=[dI x.wait[j].at_]) rfl) F ac ac ac) ac ac ac
      ·exact hds
    ·have e:j=x.wait.length:=ari;subst e;rw[List.take_length]at hF2;repeat'((first|refine j5.fam hF (by simp[hcs]) alW ?_|refine j5.fam hF2 (by simp[hcs2]) alW ?_|fail)<;>conv=>whnf)
     exact⟨S.w0.heap.size,S.w0.heap.size,[],⟨Nat.le_refl _,⟨.inl (Nat.le_refl _),.inl hm,trivial⟩,Nat.le_refl _,⟨.inl (Nat.le_refl _),trivial⟩,hm,trivial,trivial⟩,Ya rfl,rfl⟩
theorem FG(x:DTwo)(hs:YA 1048576 x):ce av 328 [.agg x.ds] (.agg x.ds):=by
 refine cL aN func328 rfl call328 ntmps328 (aaK results328) λS=>?_;conv=>whnf
 repeat'(first|refine awz ?_|fail)
 (refine X7 aN 1 (tkc [0,1,3,4] (onc [2,5,6,7] .done)) [(1,9980)] sj ae ae ae ae (λRz=>?_);(conv=>whnf);intro bp0 up0;(conv=>whnf))
 repeat'((first|refine awz ?_|refine X6 (yo x.a hs.1) rfl rfl λR1 l1 e1 a1 b1 F1=>?_|refine X6 (yo x.b hs.2) rfl rfl λR2 l2 e2 a2 b2 F2=>?_|fail)<;>conv=>whnf)
 exact⟨_,_,_,⟨(by omega:S.w0.heap.size<=l1),trivial,trivial⟩,(Fam.app F1 F2 ac ac ac),rfl⟩
theorem DZ(x:DLogNode)(hs:Yq 1048576 x):ce av 237 [.agg x.ds] (.agg x.ds):=by
 obtain⟨h1,h2,h3,h4,h5,h6⟩:=(show YA 1048576 x.two/\Yo 1048576 x.head/\Yo 1048576 x.nxt/\x.book.entries.length<=1048576/\x.seen.length<=1048576/\x.owe.length<=1048576 from hs);refine cL aN func237 rfl call237 ntmps237 (aaK results237) λS=>?_;conv=>whnf
 repeat'((first|refine awz ?_|refine X6 (FG x.two h1) rfl rfl λR1 l1 e1 a1 b1 F1=>?_|refine X6 (tD x.head h2) rfl rfl λR2 l2 e2 a2 b2 F2=>?_|refine X6 (tD x.nxt h3) rfl rfl λR3 l3 e3 a3 b3 F3=>?_|refine aJ am ?_|refine aI alW ?_|refine YH bls ?_|fail)<;>conv=>whnf)
 exact⟨_,_,_,⟨(by omega:S.w0.heap.size<=l1),trivial,trivial⟩,(Fam.app (Fam.app (Fam.app F1 F2 ac ac ac) F3 ac ac ac) (Ya (lo:=e3) (hi:=e3) (ds:=[dB x.more,dI x.book.base,dI x.book.time,dI x.durable]) rfl) ac ac ac),rfl⟩
theorem zR(x:DStore)(hs:Yv 1048576 x):ce av 238 [.agg x.ds] (.agg x.ds):=by
 obtain⟨h1,h2,h3⟩:=(show Yp 1048576 x.disk/\x.state.pairs.length<=1048576/\x.state.jobs.length<=1048576 from hs);refine cL aN func238 rfl call238 ntmps238 (aaK results238) λS=>?_;conv=>whnf
 repeat'((first|refine awz ?_|refine X6 (yo x.disk h1) rfl rfl λR1 l1 e1 a1 b1 F1=>?_|refine aJ am ?_|refine aI alW ?_|refine YH bls ?_|fail)<;>conv=>whnf)
 exact⟨_,_,_,⟨(by omega:S.w0.heap.size<=l1),trivial,trivial⟩,(Fam.app F1 (Ya (lo:=e1) (hi:=e1) (ds:=[dI x.state.index,dI x.state.time,dI x.state.lease.holder,dI x.state.lease.epoch,dI x.state.lease.til,dI x.num,dI x.last,dI x.busy]) rfl) ac ac ac),rfl⟩
theorem D0(x:DNet)(hs:Yz 1048576 x):ce av 241 [.agg x.ds] (.agg x.ds):=by
 obtain⟨h1,h2,h3⟩:=(show x.flight.length<=1048576/\(∀y∈x.flight,Yy 1048576 y)/\x.cuts.length<=1048576 from hs);refine cL aN func241 rfl call241 ntmps241 (aaK results241) λS=>?_;conv=>whnf
 repeat'((first|refine awz ?_|refine aJ am ?_|refine aI alW ?_|fail)<;>conv=>whnf)
 refine YG 3 0 40 216 3 ah ?_;conv=>whnf
 repeat'(first|refine awz ?_|fail)
 refine X5 (λg:Nat×Nat×List (List AD)=>g.1<=x.flight.length/\g.2.2.length=g.1/\S.w0.heap.size<=g.2.1/\Fam S.w0.heap.size g.2.1 g.2.2.flatten ((x.flight.take g.1).map DMsg.ds).flatten) (4::rg 10 32) (λg=>[(4,vI .i64 (g.1:Int))]) (λg=>[(9997,cH S.w0.heap.size g.2.1),(1,.cells 103 (x.ds.map .d)),(2,.cells 103 [.nil,.nil]),(3,.cells 103 [.own 40,.own 5]),(5,.row 218 2 (x.cuts.map DLink.ds)),(40,.row 216 3 g.2.2)]) (λg=>x.flight.length-g.1) (0,S.w0.heap.size,[]) ⟨Nat.zero_le _,rfl,Nat.le_refl _,Ya rfl⟩ ?_ sbW (λg hR=>?_)<;>(conv=>whnf)
 ·exact whd
 ·obtain⟨k,m,cs⟩:=g;obtain⟨hk,hcs,hm,hF⟩:=hR;simp only at hk hcs hm hF;repeat'(first|refine awz ?_|refine tW ?_ ?_|(intro h;conv=>whnf))
  ·have hlt:k<x.flight.length:=ari;(refine X7 aN 5 (tkc [0,2,3,4,5,6,7,8,9,10,11,12,13,14,15,16,17,18,19] (.two 1 (onc [20,21,22,23] (.take 24 (.one 25 .done))) 20 (.two 1 (onc [21,22,23] (.take 24 (.one 25 .done))) 21 (.two 1 (.one 22 (.one 23 (.take 24 (.one 25 .done)))) 22 (.one 1 (.one 23 (.take 24 (.one 25 .done)))))))) [(1,9980)] oB ae ae ae ae (λRz=>?_);(conv=>whnf);intro bp0 up0;(conv=>whnf))
   repeat'((first|refine awz ?_|refine Yg hlt ?_|refine X6 (uw _ (h2 _ (List.getElem_mem hlt))) rfl rfl λR lo hi a1 a2 F=>?_|refine aJ (by simp only[hcs,List.length_cons,List.length_nil];omega) ?_|refine X3 ari ari ?_|refine tW ?_ ?_|fail)<;>conv=>whnf)
   all_goals
    have a1:m<=lo:=a1;refine bd.mk ⟨(k+1,hi,cs++[[dI x.flight[k].frm,dI x.flight[k].to_,.x (R 0)]]),⟨by simp only;omega,by simp[hcs],by simp only;omega,?_⟩,by simp only;omega,?_,sbW⟩
    ·simp only;rw[dn DMsg.ds ac];exact hF.flat_set (Fam.app (Ya (lo:=lo) (hi:=lo) (ds:=[dI x.flight[k].frm,dI x.flight[k].to_]) rfl) F ac ac ac) ac ac ac
    ·exact hds
  ·have e:k=x.flight.length:=ari;subst e;rw[List.take_length]at hF;repeat'((first|refine YH bls ?_|refine j5.fam hF (by simp[hcs]) alW ?_|fail)<;>conv=>whnf)
   exact⟨S.w0.heap.size,S.w0.heap.size,[],⟨Nat.le_refl _,⟨.inl (Nat.le_refl _),trivial⟩,Nat.le_refl _,trivial,trivial⟩,Ya rfl,rfl⟩
end Go.Proofs.YtknefkdcokgpbaaGreat
