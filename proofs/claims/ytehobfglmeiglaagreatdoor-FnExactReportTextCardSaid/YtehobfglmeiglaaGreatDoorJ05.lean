/- J05 -/
import Derived.Test.YtehobfglmeiglaaGreatDoorAwx
import Derived.Test.YtehobfglmeiglaaGreatDoorJ04
import Derived.Test.YtehobfglmeiglaaGreatDoorJ02
set_option linter.unusedVariables false
set_option linter.unusedSimpArgs false
set_option maxRecDepth 100000
namespace Go.Proofs.YtehobfglmeiglaaGreatDoor
open Go.Proofs.Tryz
open Go.ChangeShapes Go.WideShapes Go.RowKit
section
variable {α:Type}
def cpG(enc:α->List AD)(z:List AD)(l:List α)(k:Nat):List (List AD):=(l.take k).map enc++List.replicate (l.length-k) z
theorem du(enc:α->List AD)(z:List AD)(l:List α):cpG enc z l 0=List.replicate l.length z:=by simp[cpG]
theorem bN(enc:α->List AD)(z:List AD)(l:List α):cpG enc z l l.length=l.map enc:=by simp[cpG]
theorem eO(enc:α->List AD)(z:List AD)(l:List α)(k:Nat)(hk:k<l.length):(cpG enc z l k).set k (enc l[k])=cpG enc z l (k+1):=by
  unfold cpG
  have h1:((l.take k).map enc).length=k:=by simp;omega
  rw[List.set_append_right _ _ Mo,h1,Nat.sub_self,em enc hk,List.append_assoc]
  congr 1
  rw[show l.length-k=(l.length-(k+1))+1 by omega,List.replicate_succ]
  rfl
theorem cm(enc:α->List AD)(z:List AD)(l:List α)(k:Nat)(hk:k<l.length):(cpG enc z l k)[k]? =some z:=by
  have h1:((l.take k).map enc).length=k:=by simp;omega
  unfold cpG
  rw[List.getElem?_append_right Mo,h1,List.getElem?_replicate,if_pos Mo]
theorem Ey{β:Type}{cs:List β}{k n:Nat}(z:β)(h:cs.length=k)(hk:k<n):(cs++List.replicate (n-k) z)[k]? =some z:=by
  rw[List.getElem?_append_right Mo,List.getElem?_replicate,if_pos Mo]
theorem A9{β:Type}{cs:List β}{k n:Nat}{x:β}(z:β)(h:cs.length=k)(hk:k<n):(cs++List.replicate (n-k) z).set k x=(cs++[x])++List.replicate (n-(k+1)) z:=by
  rw[List.set_append_right _ _ Mo,h,Nat.sub_self,show n-k=(n-(k+1))+1 by omega,List.replicate_succ,List.append_assoc]
  rfl
end
theorem ko(l:(List Int))(hs:l.length<=1048576):bC av 29 [.one (.sl (l.map eI))] (.one (.sl (l.map eI))):=by
  have hl:l.length<=1048576:=hs
  refine aE ah func29 rfl call29 ntmps29 (MC results29) λS=>?_;conv=>whnf
  repeat'((first|refine aw0 ?_|refine awx ?_|refine⟨l.length,by simp,by simp,(show 8*l.length<=_ by omega),by omega,?_⟩|exact rr|refine And.intro rfl ?_|refine AB.mk (λh=>?_) (λh=>?_))<;>conv=>whnf)
  refine AWP.loopS (λk:Nat=>k<=l.length) (7::[4,8,9,10,11,12,13,14,15,16,17,18,19,20]) (λk=>[(3,.one (.own 7)),(4,vI .i64 (k:Int))]) (λk=>[(9997,dR S.w0.heap.size S.w0.heap.size),(7,.row 2 1 (cpG eI [dI 0] l k))]) (λk=>l.length-k) 0 Mo ?_ (ak.cons rfl (ak.cons (congrArg some (congrArg (AO.row 2 1) (du eI [dI 0] l).symm)) ak.nil)) (λk hR=>?_)<;>(conv=>whnf)
  · exact whd
  · repeat'((first|refine aw0 ?_|refine awx ?_|refine AIx.mapF ari (λhlt=>?_)|refine AIx.at k _ rfl (cm eI [dI 0] l k hlt) ?_|refine AIx.at k _ rfl (cm eI [dI 0] l k ari) ?_|refine AW.i64 ari ari ?_|exact rr|refine And.intro rfl ?_|refine AB.mk (λh=>?_) (λh=>?_))<;>conv=>whnf)
    · refine aB.mk ⟨k+1,hlt,by omega,?_,ak.cons rfl (ak.cons (congrArg some (congrArg (AO.row 2 1) (eO eI [dI 0] l k hlt))) ak.nil)⟩
      exact hds
    · have:k=l.length:=ari
      subst this
      exact⟨_,_,l.map eI,Nat.le_refl _,by rw[bN];exact Fam.blank (lo:=S.w0.heap.size) (hi:=S.w0.heap.size) (by simp[AD.isBl,eI]),by rw[bN],(λy hy=>by obtain⟨a,_,rfl⟩:=List.mem_map.1 hy;rfl),rfl⟩
theorem z6(l:(List (List Int)))(hs:l.length<=1048576/\∀y∈l,y.length<=1048576):bC av 139 [.one (.sl (l.map fW))] (.one (.sl (l.map fW))):=by
  have hl:l.length<=1048576:=hs.1
  refine aE ah func139 rfl call139 ntmps139 (MC results139) λS=>?_;conv=>whnf
  repeat'((first|refine aw0 ?_|refine awx ?_|refine⟨l.length,by simp,by simp,(show 24*l.length<=_ by omega),by omega,?_⟩|exact rr|refine And.intro rfl ?_|refine AB.mk (λh=>?_) (λh=>?_))<;>conv=>whnf)
  refine AWP.loopS (λg:Nat×Nat×List (List AD)=>g.1<=l.length/\g.2.2.length=g.1/\S.w0.heap.size<=g.2.1/\Fam S.w0.heap.size g.2.1 g.2.2.flatten ((l.take g.1).map fW).flatten) (7::[4,8,9,10,11,12,13,14,15,16,17,18,19,20,21]) (λg=>[(3,.one (.own 7)),(4,vI .i64 (g.1:Int))]) (λg=>[(9997,dR S.w0.heap.size g.2.1),(7,.row 62 1 (g.2.2++List.replicate (l.length-g.1) [.sl []]))]) (λg=>l.length-g.1) (0,S.w0.heap.size,[]) ⟨Nat.zero_le _,rfl,Nat.le_refl _,Fam.blank rfl⟩ ?_ (ak.cons rfl (ak.cons rfl ak.nil)) (λg hR=>?_)<;>(conv=>whnf)
  · exact whd
  · obtain⟨k,m,cs⟩:=g
    obtain⟨hk,hcs,hm,hF⟩:=hR
    simp only at hk hcs hm hF
    repeat'((first|refine aw0 ?_|refine awx ?_|refine AIx.mapF ari (λhlt=>?_)|refine aa.fresh (ko _ (hs.2 _ (List.getElem_mem hlt))) rfl rfl λR lo hi a1 a2 F=>?_|refine AIx.at k _ rfl (Ey _ hcs ari) ?_|refine AW.i64 ari ari ?_|exact rr|refine And.intro rfl ?_|refine AB.mk (λh=>?_) (λh=>?_))<;>conv=>whnf)
    · have a1:m<=lo:=a1
      refine aB.mk ⟨(k+1,hi,cs++[iy R 0 (fW l[k])]),⟨by simp only;omega,by simp[hcs],by simp only;omega,?_⟩,by simp only;omega,?_,ak.cons rfl (ak.cons (congrArg some (congrArg (AO.row 62 1) (A9 _ hcs Mo))) ak.nil)⟩
      · simp only
        rw[em fW Mo]
        exact hF.flat_set F Mo Mo Mo
      · exact hds
    · have:k=l.length:=ari
      subst this
      refine⟨_,m,l.map fW,Nat.le_refl _,?_,by simp[hcs],(λy hy=>by obtain⟨a,_,rfl⟩:=List.mem_map.1 hy;rfl),rfl⟩
      simp only[Nat.sub_self,List.replicate_zero,List.append_nil]
      rw[List.take_length]at hF
      exact hF
theorem DJ(x:DWrite)(hs:DWrite.small 1048576 x):bC av 234 [.agg x.ds] (.agg x.ds):=by
  refine aE ah func234 rfl call234 ntmps234 (MC results234) λS=>?_;conv=>whnf
  repeat'((first|refine aw0 ?_|refine awx ?_|refine aa.fresh (ko x.row hs) rfl rfl λR1 l1 h1 a1 b1 F1=>?_|exact rr|refine And.intro rfl ?_|refine AB.mk (λh=>?_) (λh=>?_))<;>conv=>whnf)
  exact⟨_,_,_,(by omega:S.w0.heap.size<=S.w0.heap.size),(Fam.app (Fam.blank (lo:=S.w0.heap.size) (hi:=S.w0.heap.size) (ds:=[dI x.at_]) rfl) F1 Mo Mo Mo),rfl⟩
theorem BE(l:(List DWrite))(hs:l.length<=1048576/\∀y∈l,DWrite.small 1048576 y):bC av 140 [.one (.sl (l.map DWrite.ds))] (.one (.sl (l.map DWrite.ds))):=by
  have hl:l.length<=1048576:=hs.1
  refine aE ah func140 rfl call140 ntmps140 (MC results140) λS=>?_;conv=>whnf
  repeat'((first|refine aw0 ?_|refine awx ?_|refine⟨l.length,by simp,by simp,(show 32*l.length<=_ by omega),by omega,?_⟩|exact rr|refine And.intro rfl ?_|refine AB.mk (λh=>?_) (λh=>?_))<;>conv=>whnf)
  refine AWP.loopS (λg:Nat×Nat×List (List AD)=>g.1<=l.length/\g.2.2.length=g.1/\S.w0.heap.size<=g.2.1/\Fam S.w0.heap.size g.2.1 g.2.2.flatten ((l.take g.1).map DWrite.ds).flatten) (7::[4,8,9,10,11,12,13,14,15,16,17,18,19,20,21]) (λg=>[(3,.one (.own 7)),(4,vI .i64 (g.1:Int))]) (λg=>[(9997,dR S.w0.heap.size g.2.1),(7,.row 310 2 (g.2.2++List.replicate (l.length-g.1) [dI 0,.sl []]))]) (λg=>l.length-g.1) (0,S.w0.heap.size,[]) ⟨Nat.zero_le _,rfl,Nat.le_refl _,Fam.blank rfl⟩ ?_ (ak.cons rfl (ak.cons rfl ak.nil)) (λg hR=>?_)<;>(conv=>whnf)
  · exact whd
  · obtain⟨k,m,cs⟩:=g
    obtain⟨hk,hcs,hm,hF⟩:=hR
    simp only at hk hcs hm hF
    repeat'((first|refine aw0 ?_|refine awx ?_|refine AIx.mapF ari (λhlt=>?_)|refine aa.fresh (DJ _ (hs.2 _ (List.getElem_mem hlt))) rfl rfl λR lo hi a1 a2 F=>?_|refine AIx.at k _ rfl (Ey _ hcs ari) ?_|refine AW.i64 ari ari ?_|exact rr|refine And.intro rfl ?_|refine AB.mk (λh=>?_) (λh=>?_))<;>conv=>whnf)
    · have a1:m<=lo:=a1
      refine aB.mk ⟨(k+1,hi,cs++[iy R 0 (DWrite.ds l[k])]),⟨by simp only;omega,by simp[hcs],by simp only;omega,?_⟩,by simp only;omega,?_,ak.cons rfl (ak.cons (congrArg some (congrArg (AO.row 310 2) (A9 _ hcs Mo))) ak.nil)⟩
      · simp only
        rw[em DWrite.ds Mo]
        exact hF.flat_set F Mo Mo Mo
      · exact hds
    · have:k=l.length:=ari
      subst this
      refine⟨_,m,l.map DWrite.ds,Nat.le_refl _,?_,by simp[hcs],(λy hy=>by obtain⟨a,_,rfl⟩:=List.mem_map.1 hy;rfl),rfl⟩
      simp only[Nat.sub_self,List.replicate_zero,List.append_nil]
      rw[List.take_length]at hF
      exact hF
theorem uC(x:DDisk)(hs:DDisk.small 1048576 x):bC av 74 [.agg x.ds] (.agg x.ds):=by
  refine aE ah func74 rfl call74 ntmps74 (MC results74) λS=>?_;conv=>whnf
  repeat'((first|refine aw0 ?_|refine awx ?_|refine aa.fresh (z6 x.kept ⟨hs.1,hs.2.1⟩) rfl rfl λR1 l1 h1 a1 b1 F1=>?_|refine aa.fresh (BE x.wait ⟨hs.2.2.1,hs.2.2.2⟩) rfl rfl λR2 l2 h2 a2 b2 F2=>?_|exact rr|refine And.intro rfl ?_|refine AB.mk (λh=>?_) (λh=>?_))<;>conv=>whnf)
  exact⟨_,_,_,(by omega:S.w0.heap.size<=l1),(Fam.app F1 F2 Mo Mo Mo),rfl⟩
theorem GH(x:DTwo)(hs:DTwo.small 1048576 x):bC av 69 [.agg x.ds] (.agg x.ds):=by
  refine aE ah func69 rfl call69 ntmps69 (MC results69) λS=>?_;conv=>whnf
  repeat'((first|refine aw0 ?_|refine awx ?_|refine aa.fresh (uC x.a hs.1) rfl rfl λR1 l1 h1 a1 b1 F1=>?_|refine aa.fresh (uC x.b hs.2) rfl rfl λR2 l2 h2 a2 b2 F2=>?_|exact rr|refine And.intro rfl ?_|refine AB.mk (λh=>?_) (λh=>?_))<;>conv=>whnf)
  exact⟨_,_,_,(by omega:S.w0.heap.size<=l1),(Fam.app F1 F2 Mo Mo Mo),rfl⟩
theorem Fv(x:DMark):aj av 137 [.agg x.ds] (.val (.agg x.ds)):=by
  refine ae ah func137 rfl call137 ntmps137 (MC results137) λS=>?_;conv=>whnf
  repeat'((first|refine aw0 ?_|refine awx ?_|exact rr|refine And.intro rfl ?_|refine AB.mk (λh=>?_) (λh=>?_))<;>conv=>whnf)
  all_goals rfl
theorem wP(l:(List DMark))(hs:l.length<=1048576):bC av 72 [.one (.sl (l.map DMark.ds))] (.one (.sl (l.map DMark.ds))):=by
  have hl:l.length<=1048576:=hs
  refine aE ah func72 rfl call72 ntmps72 (MC results72) λS=>?_;conv=>whnf
  repeat'((first|refine aw0 ?_|refine awx ?_|refine⟨l.length,by simp,by simp,(show 24*l.length<=_ by omega),by omega,?_⟩|exact rr|refine And.intro rfl ?_|refine AB.mk (λh=>?_) (λh=>?_))<;>conv=>whnf)
  refine AWP.loopS (λk:Nat=>k<=l.length) (7::[4,8,9,10,11,12,13,14,15,16,17,18,19,20,21]) (λk=>[(3,.one (.own 7)),(4,vI .i64 (k:Int))]) (λk=>[(9997,dR S.w0.heap.size S.w0.heap.size),(7,.row 235 3 (cpG DMark.ds [dI 0,dI 0,dI 0] l k))]) (λk=>l.length-k) 0 Mo ?_ (ak.cons rfl (ak.cons (congrArg some (congrArg (AO.row 235 3) (du DMark.ds [dI 0,dI 0,dI 0] l).symm)) ak.nil)) (λk hR=>?_)<;>(conv=>whnf)
  · exact whd
  · repeat'((first|refine aw0 ?_|refine awx ?_|refine AIx.mapF ari (λhlt=>?_)|refine aa.pure (Fv _) rfl ?_|refine AIx.at k _ rfl (cm DMark.ds [dI 0,dI 0,dI 0] l k hlt) ?_|refine AIx.at k _ rfl (cm DMark.ds [dI 0,dI 0,dI 0] l k ari) ?_|refine AW.i64 ari ari ?_|exact rr|refine And.intro rfl ?_|refine AB.mk (λh=>?_) (λh=>?_))<;>conv=>whnf)
    · refine aB.mk ⟨k+1,hlt,by omega,?_,ak.cons rfl (ak.cons (congrArg some (congrArg (AO.row 235 3) (eO DMark.ds [dI 0,dI 0,dI 0] l k hlt))) ak.nil)⟩
      exact hds
    · have:k=l.length:=ari
      subst this
      exact⟨_,_,l.map DMark.ds,Nat.le_refl _,by rw[bN];exact Fam.blank (lo:=S.w0.heap.size) (hi:=S.w0.heap.size) (by simp[AD.isBl,DMark.ds]),by rw[bN],(λy hy=>by obtain⟨a,_,rfl⟩:=List.mem_map.1 hy;rfl),rfl⟩
theorem zZ(x:DHead)(hs:DHead.small 1048576 x):bC av 70 [.agg x.ds] (.agg x.ds):=by
  refine aE ah func70 rfl call70 ntmps70 (MC results70) λS=>?_;conv=>whnf
  repeat'((first|refine aw0 ?_|refine awx ?_|refine aa.fresh (wP x.seen hs) rfl rfl λR1 l1 h1 a1 b1 F1=>?_|exact rr|refine And.intro rfl ?_|refine AB.mk (λh=>?_) (λh=>?_))<;>conv=>whnf)
  exact⟨_,_,_,(by omega:S.w0.heap.size<=S.w0.heap.size),(Fam.app (Fam.blank (lo:=S.w0.heap.size) (hi:=S.w0.heap.size) (ds:=[dI x.num,dI x.base,dI x.time]) rfl) F1 Mo Mo Mo),rfl⟩
theorem BD(x:DOp):aj av 77 [.agg x.ds] (.val (.agg x.ds)):=by
  refine ae ah func77 rfl call77 ntmps77 (MC results77) λS=>?_;conv=>whnf
  repeat'((first|refine aw0 ?_|refine awx ?_|exact rr|refine And.intro rfl ?_|refine AB.mk (λh=>?_) (λh=>?_))<;>conv=>whnf)
  all_goals rfl
theorem DB(x:DEntry):aj av 233 [.agg x.ds] (.val (.agg x.ds)):=by
  refine ae ah func233 rfl call233 ntmps233 (MC results233) λS=>?_;conv=>whnf
  repeat'((first|refine aw0 ?_|refine awx ?_|refine aa.pure (BD x.op) rfl ?_|exact rr|refine And.intro rfl ?_|refine AB.mk (λh=>?_) (λh=>?_))<;>conv=>whnf)
  all_goals rfl
theorem BC(l:(List DEntry))(hs:l.length<=1048576):bC av 136 [.one (.sl (l.map DEntry.ds))] (.one (.sl (l.map DEntry.ds))):=by
  have hl:l.length<=1048576:=hs
  refine aE ah func136 rfl call136 ntmps136 (MC results136) λS=>?_;conv=>whnf
  repeat'((first|refine aw0 ?_|refine awx ?_|refine⟨l.length,by simp,by simp,(show 72*l.length<=_ by omega),by omega,?_⟩|exact rr|refine And.intro rfl ?_|refine AB.mk (λh=>?_) (λh=>?_))<;>conv=>whnf)
  refine AWP.loopS (λk:Nat=>k<=l.length) (7::[4,8,9,10,11,12,13,14,15,16,17,18,19,20,21]) (λk=>[(3,.one (.own 7)),(4,vI .i64 (k:Int))]) (λk=>[(9997,dR S.w0.heap.size S.w0.heap.size),(7,.row 306 9 (cpG DEntry.ds [dI 0,dI 0,dI 0,dI 0,dI 0,dI 0,dI 0,dI 0,dI 0] l k))]) (λk=>l.length-k) 0 Mo ?_ (ak.cons rfl (ak.cons (congrArg some (congrArg (AO.row 306 9) (du DEntry.ds [dI 0,dI 0,dI 0,dI 0,dI 0,dI 0,dI 0,dI 0,dI 0] l).symm)) ak.nil)) (λk hR=>?_)<;>(conv=>whnf)
  · exact whd
  · repeat'((first|refine aw0 ?_|refine awx ?_|refine AIx.mapF ari (λhlt=>?_)|refine aa.pure (DB _) rfl ?_|refine AIx.at k _ rfl (cm DEntry.ds [dI 0,dI 0,dI 0,dI 0,dI 0,dI 0,dI 0,dI 0,dI 0] l k hlt) ?_|refine AIx.at k _ rfl (cm DEntry.ds [dI 0,dI 0,dI 0,dI 0,dI 0,dI 0,dI 0,dI 0,dI 0] l k ari) ?_|refine AW.i64 ari ari ?_|exact rr|refine And.intro rfl ?_|refine AB.mk (λh=>?_) (λh=>?_))<;>conv=>whnf)
    · refine aB.mk ⟨k+1,hlt,by omega,?_,ak.cons rfl (ak.cons (congrArg some (congrArg (AO.row 306 9) (eO DEntry.ds [dI 0,dI 0,dI 0,dI 0,dI 0,dI 0,dI 0,dI 0,dI 0] l k hlt))) ak.nil)⟩
      exact hds
    · have:k=l.length:=ari
      subst this
      exact⟨_,_,l.map DEntry.ds,Nat.le_refl _,by rw[bN];exact Fam.blank (lo:=S.w0.heap.size) (hi:=S.w0.heap.size) (by simp[AD.isBl,DEntry.ds]),by rw[bN],(λy hy=>by obtain⟨a,_,rfl⟩:=List.mem_map.1 hy;rfl),rfl⟩
theorem Fp(x:DBook)(hs:DBook.small 1048576 x):bC av 71 [.agg x.ds] (.agg x.ds):=by
  refine aE ah func71 rfl call71 ntmps71 (MC results71) λS=>?_;conv=>whnf
  repeat'((first|refine aw0 ?_|refine awx ?_|refine aa.fresh (BC x.entries hs) rfl rfl λR1 l1 h1 a1 b1 F1=>?_|exact rr|refine And.intro rfl ?_|refine AB.mk (λh=>?_) (λh=>?_))<;>conv=>whnf)
  exact⟨_,_,_,(by omega:S.w0.heap.size<=S.w0.heap.size),(Fam.app (Fam.blank (lo:=S.w0.heap.size) (hi:=S.w0.heap.size) (ds:=[dI x.base,dI x.time]) rfl) F1 Mo Mo Mo),rfl⟩
theorem GB(x:DAck):aj av 138 [.agg x.ds] (.val (.agg x.ds)):=by
  refine ae ah func138 rfl call138 ntmps138 (MC results138) λS=>?_;conv=>whnf
  repeat'((first|refine aw0 ?_|refine awx ?_|exact rr|refine And.intro rfl ?_|refine AB.mk (λh=>?_) (λh=>?_))<;>conv=>whnf)
  all_goals rfl
theorem Fo(l:(List DAck))(hs:l.length<=1048576):bC av 73 [.one (.sl (l.map DAck.ds))] (.one (.sl (l.map DAck.ds))):=by
  have hl:l.length<=1048576:=hs
  refine aE ah func73 rfl call73 ntmps73 (MC results73) λS=>?_;conv=>whnf
  repeat'((first|refine aw0 ?_|refine awx ?_|refine⟨l.length,by simp,by simp,(show 32*l.length<=_ by omega),by omega,?_⟩|exact rr|refine And.intro rfl ?_|refine AB.mk (λh=>?_) (λh=>?_))<;>conv=>whnf)
  refine AWP.loopS (λk:Nat=>k<=l.length) (7::[4,8,9,10,11,12,13,14,15,16,17,18,19,20,21]) (λk=>[(3,.one (.own 7)),(4,vI .i64 (k:Int))]) (λk=>[(9997,dR S.w0.heap.size S.w0.heap.size),(7,.row 239 4 (cpG DAck.ds [dI 0,dI 0,dI 0,dI 0] l k))]) (λk=>l.length-k) 0 Mo ?_ (ak.cons rfl (ak.cons (congrArg some (congrArg (AO.row 239 4) (du DAck.ds [dI 0,dI 0,dI 0,dI 0] l).symm)) ak.nil)) (λk hR=>?_)<;>(conv=>whnf)
  · exact whd
  · repeat'((first|refine aw0 ?_|refine awx ?_|refine AIx.mapF ari (λhlt=>?_)|refine aa.pure (GB _) rfl ?_|refine AIx.at k _ rfl (cm DAck.ds [dI 0,dI 0,dI 0,dI 0] l k hlt) ?_|refine AIx.at k _ rfl (cm DAck.ds [dI 0,dI 0,dI 0,dI 0] l k ari) ?_|refine AW.i64 ari ari ?_|exact rr|refine And.intro rfl ?_|refine AB.mk (λh=>?_) (λh=>?_))<;>conv=>whnf)
    · refine aB.mk ⟨k+1,hlt,by omega,?_,ak.cons rfl (ak.cons (congrArg some (congrArg (AO.row 239 4) (eO DAck.ds [dI 0,dI 0,dI 0,dI 0] l k hlt))) ak.nil)⟩
      exact hds
    · have:k=l.length:=ari
      subst this
      exact⟨_,_,l.map DAck.ds,Nat.le_refl _,by rw[bN];exact Fam.blank (lo:=S.w0.heap.size) (hi:=S.w0.heap.size) (by simp[AD.isBl,DAck.ds]),by rw[bN],(λy hy=>by obtain⟨a,_,rfl⟩:=List.mem_map.1 hy;rfl),rfl⟩
theorem z7(x:DLogNode)(hs:DLogNode.small 1048576 x):bC av 24 [.agg x.ds] (.agg x.ds):=by
  refine aE ah func24 rfl call24 ntmps24 (MC results24) λS=>?_;conv=>whnf
  repeat'((first|refine aw0 ?_|refine awx ?_|refine aa.fresh (GH x.two hs.1) rfl rfl λR1 l1 h1 a1 b1 F1=>?_|refine aa.fresh (zZ x.head hs.2.1) rfl rfl λR2 l2 h2 a2 b2 F2=>?_|refine aa.fresh (zZ x.nxt hs.2.2.1) rfl rfl λR3 l3 h3 a3 b3 F3=>?_|refine aa.fresh (Fp x.book hs.2.2.2.1) rfl rfl λR4 l4 h4 a4 b4 F4=>?_|refine aa.fresh (wP x.seen hs.2.2.2.2.1) rfl rfl λR5 l5 h5 a5 b5 F5=>?_|refine aa.fresh (Fo x.owe hs.2.2.2.2.2) rfl rfl λR6 l6 h6 a6 b6 F6=>?_|exact rr|refine And.intro rfl ?_|refine AB.mk (λh=>?_) (λh=>?_))<;>conv=>whnf)
  exact⟨_,_,_,(by omega:S.w0.heap.size<=l1),(Fam.app (Fam.app (Fam.app (Fam.app (Fam.app (Fam.app (Fam.app F1 F2 Mo Mo Mo) F3 Mo Mo Mo) (Fam.blank (lo:=h3) (hi:=h3) (ds:=[dB x.more]) rfl) Mo Mo Mo) F4 Mo Mo Mo) F5 Mo Mo Mo) (Fam.blank (lo:=h5) (hi:=h5) (ds:=[dI x.durable]) rfl) Mo Mo Mo) F6 Mo Mo Mo),rfl⟩
theorem Fx(x:DPair):aj av 235 [.agg x.ds] (.val (.agg x.ds)):=by
  refine ae ah func235 rfl call235 ntmps235 (MC results235) λS=>?_;conv=>whnf
  repeat'((first|refine aw0 ?_|refine awx ?_|exact rr|refine And.intro rfl ?_|refine AB.mk (λh=>?_) (λh=>?_))<;>conv=>whnf)
  all_goals rfl
theorem DE(l:(List DPair))(hs:l.length<=1048576):bC av 141 [.one (.sl (l.map DPair.ds))] (.one (.sl (l.map DPair.ds))):=by
  have hl:l.length<=1048576:=hs
  refine aE ah func141 rfl call141 ntmps141 (MC results141) λS=>?_;conv=>whnf
  repeat'((first|refine aw0 ?_|refine awx ?_|refine⟨l.length,by simp,by simp,(show 16*l.length<=_ by omega),by omega,?_⟩|exact rr|refine And.intro rfl ?_|refine AB.mk (λh=>?_) (λh=>?_))<;>conv=>whnf)
  refine AWP.loopS (λk:Nat=>k<=l.length) (7::[4,8,9,10,11,12,13,14,15,16,17,18,19,20,21]) (λk=>[(3,.one (.own 7)),(4,vI .i64 (k:Int))]) (λk=>[(9997,dR S.w0.heap.size S.w0.heap.size),(7,.row 313 2 (cpG DPair.ds [dI 0,dI 0] l k))]) (λk=>l.length-k) 0 Mo ?_ (ak.cons rfl (ak.cons (congrArg some (congrArg (AO.row 313 2) (du DPair.ds [dI 0,dI 0] l).symm)) ak.nil)) (λk hR=>?_)<;>(conv=>whnf)
  · exact whd
  · repeat'((first|refine aw0 ?_|refine awx ?_|refine AIx.mapF ari (λhlt=>?_)|refine aa.pure (Fx _) rfl ?_|refine AIx.at k _ rfl (cm DPair.ds [dI 0,dI 0] l k hlt) ?_|refine AIx.at k _ rfl (cm DPair.ds [dI 0,dI 0] l k ari) ?_|refine AW.i64 ari ari ?_|exact rr|refine And.intro rfl ?_|refine AB.mk (λh=>?_) (λh=>?_))<;>conv=>whnf)
    · refine aB.mk ⟨k+1,hlt,by omega,?_,ak.cons rfl (ak.cons (congrArg some (congrArg (AO.row 313 2) (eO DPair.ds [dI 0,dI 0] l k hlt))) ak.nil)⟩
      exact hds
    · have:k=l.length:=ari
      subst this
      exact⟨_,_,l.map DPair.ds,Nat.le_refl _,by rw[bN];exact Fam.blank (lo:=S.w0.heap.size) (hi:=S.w0.heap.size) (by simp[AD.isBl,DPair.ds]),by rw[bN],(λy hy=>by obtain⟨a,_,rfl⟩:=List.mem_map.1 hy;rfl),rfl⟩
theorem GE(x:DJob):aj av 236 [.agg x.ds] (.val (.agg x.ds)):=by
  refine ae ah func236 rfl call236 ntmps236 (MC results236) λS=>?_;conv=>whnf
  repeat'((first|refine aw0 ?_|refine awx ?_|exact rr|refine And.intro rfl ?_|refine AB.mk (λh=>?_) (λh=>?_))<;>conv=>whnf)
  all_goals rfl
theorem Fs(l:(List DJob))(hs:l.length<=1048576):bC av 142 [.one (.sl (l.map DJob.ds))] (.one (.sl (l.map DJob.ds))):=by
  have hl:l.length<=1048576:=hs
  refine aE ah func142 rfl call142 ntmps142 (MC results142) λS=>?_;conv=>whnf
  repeat'((first|refine aw0 ?_|refine awx ?_|refine⟨l.length,by simp,by simp,(show 40*l.length<=_ by omega),by omega,?_⟩|exact rr|refine And.intro rfl ?_|refine AB.mk (λh=>?_) (λh=>?_))<;>conv=>whnf)
  refine AWP.loopS (λk:Nat=>k<=l.length) (7::[4,8,9,10,11,12,13,14,15,16,17,18,19,20,21]) (λk=>[(3,.one (.own 7)),(4,vI .i64 (k:Int))]) (λk=>[(9997,dR S.w0.heap.size S.w0.heap.size),(7,.row 228 5 (cpG DJob.ds [dI 0,dI 0,dI 0,dI 0,dI 0] l k))]) (λk=>l.length-k) 0 Mo ?_ (ak.cons rfl (ak.cons (congrArg some (congrArg (AO.row 228 5) (du DJob.ds [dI 0,dI 0,dI 0,dI 0,dI 0] l).symm)) ak.nil)) (λk hR=>?_)<;>(conv=>whnf)
  · exact whd
  · repeat'((first|refine aw0 ?_|refine awx ?_|refine AIx.mapF ari (λhlt=>?_)|refine aa.pure (GE _) rfl ?_|refine AIx.at k _ rfl (cm DJob.ds [dI 0,dI 0,dI 0,dI 0,dI 0] l k hlt) ?_|refine AIx.at k _ rfl (cm DJob.ds [dI 0,dI 0,dI 0,dI 0,dI 0] l k ari) ?_|refine AW.i64 ari ari ?_|exact rr|refine And.intro rfl ?_|refine AB.mk (λh=>?_) (λh=>?_))<;>conv=>whnf)
    · refine aB.mk ⟨k+1,hlt,by omega,?_,ak.cons rfl (ak.cons (congrArg some (congrArg (AO.row 228 5) (eO DJob.ds [dI 0,dI 0,dI 0,dI 0,dI 0] l k hlt))) ak.nil)⟩
      exact hds
    · have:k=l.length:=ari
      subst this
      exact⟨_,_,l.map DJob.ds,Nat.le_refl _,by rw[bN];exact Fam.blank (lo:=S.w0.heap.size) (hi:=S.w0.heap.size) (by simp[AD.isBl,DJob.ds]),by rw[bN],(λy hy=>by obtain⟨a,_,rfl⟩:=List.mem_map.1 hy;rfl),rfl⟩
theorem DC(x:DLease):aj av 143 [.agg x.ds] (.val (.agg x.ds)):=by
  refine ae ah func143 rfl call143 ntmps143 (MC results143) λS=>?_;conv=>whnf
  repeat'((first|refine aw0 ?_|refine awx ?_|exact rr|refine And.intro rfl ?_|refine AB.mk (λh=>?_) (λh=>?_))<;>conv=>whnf)
  all_goals rfl
theorem DF(x:DState)(hs:DState.small 1048576 x):bC av 75 [.agg x.ds] (.agg x.ds):=by
  refine aE ah func75 rfl call75 ntmps75 (MC results75) λS=>?_;conv=>whnf
  repeat'((first|refine aw0 ?_|refine awx ?_|refine aa.pure (DC x.lease) rfl ?_|refine aa.fresh (DE x.pairs hs.1) rfl rfl λR1 l1 h1 a1 b1 F1=>?_|refine aa.fresh (Fs x.jobs hs.2) rfl rfl λR2 l2 h2 a2 b2 F2=>?_|exact rr|refine And.intro rfl ?_|refine AB.mk (λh=>?_) (λh=>?_))<;>conv=>whnf)
  exact⟨_,_,_,(by omega:S.w0.heap.size<=S.w0.heap.size),(Fam.app (Fam.app (Fam.app (Fam.blank (lo:=S.w0.heap.size) (hi:=S.w0.heap.size) (ds:=[dI x.index,dI x.time]) rfl) F1 Mo Mo Mo) F2 Mo Mo Mo) (Fam.blank (lo:=h2) (hi:=h2) (ds:=[dI x.lease.holder,dI x.lease.epoch,dI x.lease.til]) rfl) Mo Mo Mo),rfl⟩
theorem DG(x:DStore)(hs:DStore.small 1048576 x):bC av 25 [.agg x.ds] (.agg x.ds):=by
  refine aE ah func25 rfl call25 ntmps25 (MC results25) λS=>?_;conv=>whnf
  repeat'((first|refine aw0 ?_|refine awx ?_|refine aa.fresh (uC x.disk hs.1) rfl rfl λR1 l1 h1 a1 b1 F1=>?_|refine aa.fresh (DF x.state hs.2) rfl rfl λR2 l2 h2 a2 b2 F2=>?_|exact rr|refine And.intro rfl ?_|refine AB.mk (λh=>?_) (λh=>?_))<;>conv=>whnf)
  exact⟨_,_,_,(by omega:S.w0.heap.size<=l1),(Fam.app (Fam.app F1 F2 Mo Mo Mo) (Fam.blank (lo:=h2) (hi:=h2) (ds:=[dI x.num,dI x.last,dI x.busy]) rfl) Mo Mo Mo),rfl⟩
theorem GC(x:DDue):aj av 287 [.agg x.ds] (.val (.agg x.ds)):=by
  refine ae ah func287 rfl call287 ntmps287 (MC results287) λS=>?_;conv=>whnf
  repeat'((first|refine aw0 ?_|refine awx ?_|exact rr|refine And.intro rfl ?_|refine AB.mk (λh=>?_) (λh=>?_))<;>conv=>whnf)
  all_goals rfl
theorem Fq(l:(List DDue))(hs:l.length<=1048576):bC av 237 [.one (.sl (l.map DDue.ds))] (.one (.sl (l.map DDue.ds))):=by
  have hl:l.length<=1048576:=hs
  refine aE ah func237 rfl call237 ntmps237 (MC results237) λS=>?_;conv=>whnf
  repeat'((first|refine aw0 ?_|refine awx ?_|refine⟨l.length,by simp,by simp,(show 16*l.length<=_ by omega),by omega,?_⟩|exact rr|refine And.intro rfl ?_|refine AB.mk (λh=>?_) (λh=>?_))<;>conv=>whnf)
  refine AWP.loopS (λk:Nat=>k<=l.length) (7::[4,8,9,10,11,12,13,14,15,16,17,18,19,20,21]) (λk=>[(3,.one (.own 7)),(4,vI .i64 (k:Int))]) (λk=>[(9997,dR S.w0.heap.size S.w0.heap.size),(7,.row 230 2 (cpG DDue.ds [dI 0,dI 0] l k))]) (λk=>l.length-k) 0 Mo ?_ (ak.cons rfl (ak.cons (congrArg some (congrArg (AO.row 230 2) (du DDue.ds [dI 0,dI 0] l).symm)) ak.nil)) (λk hR=>?_)<;>(conv=>whnf)
  · exact whd
  · repeat'((first|refine aw0 ?_|refine awx ?_|refine AIx.mapF ari (λhlt=>?_)|refine aa.pure (GC _) rfl ?_|refine AIx.at k _ rfl (cm DDue.ds [dI 0,dI 0] l k hlt) ?_|refine AIx.at k _ rfl (cm DDue.ds [dI 0,dI 0] l k ari) ?_|refine AW.i64 ari ari ?_|exact rr|refine And.intro rfl ?_|refine AB.mk (λh=>?_) (λh=>?_))<;>conv=>whnf)
    · refine aB.mk ⟨k+1,hlt,by omega,?_,ak.cons rfl (ak.cons (congrArg some (congrArg (AO.row 230 2) (eO DDue.ds [dI 0,dI 0] l k hlt))) ak.nil)⟩
      exact hds
    · have:k=l.length:=ari
      subst this
      exact⟨_,_,l.map DDue.ds,Nat.le_refl _,by rw[bN];exact Fam.blank (lo:=S.w0.heap.size) (hi:=S.w0.heap.size) (by simp[AD.isBl,DDue.ds]),by rw[bN],(λy hy=>by obtain⟨a,_,rfl⟩:=List.mem_map.1 hy;rfl),rfl⟩
theorem Ft(x:DJobs)(hs:DJobs.small 1048576 x):bC av 144 [.agg x.ds] (.agg x.ds):=by
  refine aE ah func144 rfl call144 ntmps144 (MC results144) λS=>?_;conv=>whnf
  repeat'((first|refine aw0 ?_|refine awx ?_|refine aa.fresh (Fq x.opens hs) rfl rfl λR1 l1 h1 a1 b1 F1=>?_|exact rr|refine And.intro rfl ?_|refine AB.mk (λh=>?_) (λh=>?_))<;>conv=>whnf)
  exact⟨_,_,_,(by omega:S.w0.heap.size<=S.w0.heap.size),(Fam.app (Fam.blank (lo:=S.w0.heap.size) (hi:=S.w0.heap.size) (ds:=[dI x.index,dI x.time,dI x.holder,dI x.epoch,dI x.til]) rfl) F1 Mo Mo Mo),rfl⟩
theorem Fy(x:DView)(hs:DView.small 1048576 x):bC av 76 [.agg x.ds] (.agg x.ds):=by
  refine aE ah func76 rfl call76 ntmps76 (MC results76) λS=>?_;conv=>whnf
  repeat'((first|refine aw0 ?_|refine awx ?_|refine aa.fresh (Ft x.jobs hs) rfl rfl λR1 l1 h1 a1 b1 F1=>?_|exact rr|refine And.intro rfl ?_|refine AB.mk (λh=>?_) (λh=>?_))<;>conv=>whnf)
  exact⟨_,_,_,(by omega:S.w0.heap.size<=l1),F1,rfl⟩
theorem wQ(x:DSched)(hs:DSched.small 1048576 x):bC av 26 [.agg x.ds] (.agg x.ds):=by
  refine aE ah func26 rfl call26 ntmps26 (MC results26) λS=>?_;conv=>whnf
  repeat'((first|refine aw0 ?_|refine awx ?_|refine aa.pure (BD x.op) rfl ?_|refine aa.fresh (Fy x.view hs) rfl rfl λR1 l1 h1 a1 b1 F1=>?_|exact rr|refine And.intro rfl ?_|refine AB.mk (λh=>?_) (λh=>?_))<;>conv=>whnf)
  exact⟨_,_,_,(by omega:S.w0.heap.size<=S.w0.heap.size),(Fam.app (Fam.app (Fam.blank (lo:=S.w0.heap.size) (hi:=S.w0.heap.size) (ds:=[dI x.id,dI x.seq]) rfl) F1 Mo Mo Mo) (Fam.blank (lo:=h1) (hi:=h1) (ds:=[dB x.busy,dI x.op.kind,dI x.op.a,dI x.op.b,dI x.op.c,dI x.op.d,dI x.index]) rfl) Mo Mo Mo),rfl⟩
theorem Fz(x:DWant):aj av 145 [.agg x.ds] (.val (.agg x.ds)):=by
  refine ae ah func145 rfl call145 ntmps145 (MC results145) λS=>?_;conv=>whnf
  repeat'((first|refine aw0 ?_|refine awx ?_|refine aa.pure (BD x.op) rfl ?_|exact rr|refine And.intro rfl ?_|refine AB.mk (λh=>?_) (λh=>?_))<;>conv=>whnf)
  all_goals rfl
theorem DH(l:(List DWant))(hs:l.length<=1048576):bC av 78 [.one (.sl (l.map DWant.ds))] (.one (.sl (l.map DWant.ds))):=by
  have hl:l.length<=1048576:=hs
  refine aE ah func78 rfl call78 ntmps78 (MC results78) λS=>?_;conv=>whnf
  repeat'((first|refine aw0 ?_|refine awx ?_|refine⟨l.length,by simp,by simp,(show 56*l.length<=_ by omega),by omega,?_⟩|exact rr|refine And.intro rfl ?_|refine AB.mk (λh=>?_) (λh=>?_))<;>conv=>whnf)
  refine AWP.loopS (λk:Nat=>k<=l.length) (7::[4,8,9,10,11,12,13,14,15,16,17,18,19,20,21]) (λk=>[(3,.one (.own 7)),(4,vI .i64 (k:Int))]) (λk=>[(9997,dR S.w0.heap.size S.w0.heap.size),(7,.row 217 7 (cpG DWant.ds [dI 0,dI 0,dI 0,dI 0,dI 0,dI 0,dI 0] l k))]) (λk=>l.length-k) 0 Mo ?_ (ak.cons rfl (ak.cons (congrArg some (congrArg (AO.row 217 7) (du DWant.ds [dI 0,dI 0,dI 0,dI 0,dI 0,dI 0,dI 0] l).symm)) ak.nil)) (λk hR=>?_)<;>(conv=>whnf)
  · exact whd
  · repeat'((first|refine aw0 ?_|refine awx ?_|refine AIx.mapF ari (λhlt=>?_)|refine aa.pure (Fz _) rfl ?_|refine AIx.at k _ rfl (cm DWant.ds [dI 0,dI 0,dI 0,dI 0,dI 0,dI 0,dI 0] l k hlt) ?_|refine AIx.at k _ rfl (cm DWant.ds [dI 0,dI 0,dI 0,dI 0,dI 0,dI 0,dI 0] l k ari) ?_|refine AW.i64 ari ari ?_|exact rr|refine And.intro rfl ?_|refine AB.mk (λh=>?_) (λh=>?_))<;>conv=>whnf)
    · refine aB.mk ⟨k+1,hlt,by omega,?_,ak.cons rfl (ak.cons (congrArg some (congrArg (AO.row 217 7) (eO DWant.ds [dI 0,dI 0,dI 0,dI 0,dI 0,dI 0,dI 0] l k hlt))) ak.nil)⟩
      exact hds
    · have:k=l.length:=ari
      subst this
      exact⟨_,_,l.map DWant.ds,Nat.le_refl _,by rw[bN];exact Fam.blank (lo:=S.w0.heap.size) (hi:=S.w0.heap.size) (by simp[AD.isBl,DWant.ds]),by rw[bN],(λy hy=>by obtain⟨a,_,rfl⟩:=List.mem_map.1 hy;rfl),rfl⟩
theorem GD(x:DGot):aj av 146 [.agg x.ds] (.val (.agg x.ds)):=by
  refine ae ah func146 rfl call146 ntmps146 (MC results146) λS=>?_;conv=>whnf
  repeat'((first|refine aw0 ?_|refine awx ?_|exact rr|refine And.intro rfl ?_|refine AB.mk (λh=>?_) (λh=>?_))<;>conv=>whnf)
  all_goals rfl
theorem Fr(l:(List DGot))(hs:l.length<=1048576):bC av 79 [.one (.sl (l.map DGot.ds))] (.one (.sl (l.map DGot.ds))):=by
  have hl:l.length<=1048576:=hs
  refine aE ah func79 rfl call79 ntmps79 (MC results79) λS=>?_;conv=>whnf
  repeat'((first|refine aw0 ?_|refine awx ?_|refine⟨l.length,by simp,by simp,(show 32*l.length<=_ by omega),by omega,?_⟩|exact rr|refine And.intro rfl ?_|refine AB.mk (λh=>?_) (λh=>?_))<;>conv=>whnf)
  refine AWP.loopS (λk:Nat=>k<=l.length) (7::[4,8,9,10,11,12,13,14,15,16,17,18,19,20,21]) (λk=>[(3,.one (.own 7)),(4,vI .i64 (k:Int))]) (λk=>[(9997,dR S.w0.heap.size S.w0.heap.size),(7,.row 220 4 (cpG DGot.ds [dI 0,dI 0,dI 0,dI 0] l k))]) (λk=>l.length-k) 0 Mo ?_ (ak.cons rfl (ak.cons (congrArg some (congrArg (AO.row 220 4) (du DGot.ds [dI 0,dI 0,dI 0,dI 0] l).symm)) ak.nil)) (λk hR=>?_)<;>(conv=>whnf)
  · exact whd
  · repeat'((first|refine aw0 ?_|refine awx ?_|refine AIx.mapF ari (λhlt=>?_)|refine aa.pure (GD _) rfl ?_|refine AIx.at k _ rfl (cm DGot.ds [dI 0,dI 0,dI 0,dI 0] l k hlt) ?_|refine AIx.at k _ rfl (cm DGot.ds [dI 0,dI 0,dI 0,dI 0] l k ari) ?_|refine AW.i64 ari ari ?_|exact rr|refine And.intro rfl ?_|refine AB.mk (λh=>?_) (λh=>?_))<;>conv=>whnf)
    · refine aB.mk ⟨k+1,hlt,by omega,?_,ak.cons rfl (ak.cons (congrArg some (congrArg (AO.row 220 4) (eO DGot.ds [dI 0,dI 0,dI 0,dI 0] l k hlt))) ak.nil)⟩
      exact hds
    · have:k=l.length:=ari
      subst this
      exact⟨_,_,l.map DGot.ds,Nat.le_refl _,by rw[bN];exact Fam.blank (lo:=S.w0.heap.size) (hi:=S.w0.heap.size) (by simp[AD.isBl,DGot.ds]),by rw[bN],(λy hy=>by obtain⟨a,_,rfl⟩:=List.mem_map.1 hy;rfl),rfl⟩
theorem uB(x:DClient)(hs:DClient.small 1048576 x):bC av 27 [.agg x.ds] (.agg x.ds):=by
  refine aE ah func27 rfl call27 ntmps27 (MC results27) λS=>?_;conv=>whnf
  repeat'((first|refine aw0 ?_|refine awx ?_|refine aa.fresh (DH x.todo hs.1) rfl rfl λR1 l1 h1 a1 b1 F1=>?_|refine aa.fresh (Fr x.gots hs.2) rfl rfl λR2 l2 h2 a2 b2 F2=>?_|exact rr|refine And.intro rfl ?_|refine AB.mk (λh=>?_) (λh=>?_))<;>conv=>whnf)
  exact⟨_,_,_,(by omega:S.w0.heap.size<=S.w0.heap.size),(Fam.app (Fam.app (Fam.app (Fam.blank (lo:=S.w0.heap.size) (hi:=S.w0.heap.size) (ds:=[dI x.id]) rfl) F1 Mo Mo Mo) F2 Mo Mo Mo) (Fam.blank (lo:=h2) (hi:=h2) (ds:=[dI x.last]) rfl) Mo Mo Mo),rfl⟩
theorem GF(x:DMsg)(hs:DMsg.small 1048576 x):bC av 147 [.agg x.ds] (.agg x.ds):=by
  refine aE ah func147 rfl call147 ntmps147 (MC results147) λS=>?_;conv=>whnf
  repeat'((first|refine aw0 ?_|refine awx ?_|refine aa.fresh (ko x.row hs) rfl rfl λR1 l1 h1 a1 b1 F1=>?_|exact rr|refine And.intro rfl ?_|refine AB.mk (λh=>?_) (λh=>?_))<;>conv=>whnf)
  exact⟨_,_,_,(by omega:S.w0.heap.size<=S.w0.heap.size),(Fam.app (Fam.blank (lo:=S.w0.heap.size) (hi:=S.w0.heap.size) (ds:=[dI x.frm,dI x.to_]) rfl) F1 Mo Mo Mo),rfl⟩
theorem Fw(l:(List DMsg))(hs:l.length<=1048576/\∀y∈l,DMsg.small 1048576 y):bC av 80 [.one (.sl (l.map DMsg.ds))] (.one (.sl (l.map DMsg.ds))):=by
  have hl:l.length<=1048576:=hs.1
  refine aE ah func80 rfl call80 ntmps80 (MC results80) λS=>?_;conv=>whnf
  repeat'((first|refine aw0 ?_|refine awx ?_|refine⟨l.length,by simp,by simp,(show 40*l.length<=_ by omega),by omega,?_⟩|exact rr|refine And.intro rfl ?_|refine AB.mk (λh=>?_) (λh=>?_))<;>conv=>whnf)
  refine AWP.loopS (λg:Nat×Nat×List (List AD)=>g.1<=l.length/\g.2.2.length=g.1/\S.w0.heap.size<=g.2.1/\Fam S.w0.heap.size g.2.1 g.2.2.flatten ((l.take g.1).map DMsg.ds).flatten) (7::[4,8,9,10,11,12,13,14,15,16,17,18,19,20,21]) (λg=>[(3,.one (.own 7)),(4,vI .i64 (g.1:Int))]) (λg=>[(9997,dR S.w0.heap.size g.2.1),(7,.row 172 3 (g.2.2++List.replicate (l.length-g.1) [dI 0,dI 0,.sl []]))]) (λg=>l.length-g.1) (0,S.w0.heap.size,[]) ⟨Nat.zero_le _,rfl,Nat.le_refl _,Fam.blank rfl⟩ ?_ (ak.cons rfl (ak.cons rfl ak.nil)) (λg hR=>?_)<;>(conv=>whnf)
  · exact whd
  · obtain⟨k,m,cs⟩:=g
    obtain⟨hk,hcs,hm,hF⟩:=hR
    simp only at hk hcs hm hF
    repeat'((first|refine aw0 ?_|refine awx ?_|refine AIx.mapF ari (λhlt=>?_)|refine aa.fresh (GF _ (hs.2 _ (List.getElem_mem hlt))) rfl rfl λR lo hi a1 a2 F=>?_|refine AIx.at k _ rfl (Ey _ hcs ari) ?_|refine AW.i64 ari ari ?_|exact rr|refine And.intro rfl ?_|refine AB.mk (λh=>?_) (λh=>?_))<;>conv=>whnf)
    · have a1:m<=lo:=a1
      refine aB.mk ⟨(k+1,hi,cs++[iy R 0 (DMsg.ds l[k])]),⟨by simp only;omega,by simp[hcs],by simp only;omega,?_⟩,by simp only;omega,?_,ak.cons rfl (ak.cons (congrArg some (congrArg (AO.row 172 3) (A9 _ hcs Mo))) ak.nil)⟩
      · simp only
        rw[em DMsg.ds Mo]
        exact hF.flat_set F Mo Mo Mo
      · exact hds
    · have:k=l.length:=ari
      subst this
      refine⟨_,m,l.map DMsg.ds,Nat.le_refl _,?_,by simp[hcs],(λy hy=>by obtain⟨a,_,rfl⟩:=List.mem_map.1 hy;rfl),rfl⟩
      simp only[Nat.sub_self,List.replicate_zero,List.append_nil]
      rw[List.take_length]at hF
      exact hF
theorem Fu(x:DLink):aj av 148 [.agg x.ds] (.val (.agg x.ds)):=by
  refine ae ah func148 rfl call148 ntmps148 (MC results148) λS=>?_;conv=>whnf
  repeat'((first|refine aw0 ?_|refine awx ?_|exact rr|refine And.intro rfl ?_|refine AB.mk (λh=>?_) (λh=>?_))<;>conv=>whnf)
  all_goals rfl
theorem DD(l:(List DLink))(hs:l.length<=1048576):bC av 81 [.one (.sl (l.map DLink.ds))] (.one (.sl (l.map DLink.ds))):=by
  have hl:l.length<=1048576:=hs
  refine aE ah func81 rfl call81 ntmps81 (MC results81) λS=>?_;conv=>whnf
  repeat'((first|refine aw0 ?_|refine awx ?_|refine⟨l.length,by simp,by simp,(show 16*l.length<=_ by omega),by omega,?_⟩|exact rr|refine And.intro rfl ?_|refine AB.mk (λh=>?_) (λh=>?_))<;>conv=>whnf)
  refine AWP.loopS (λk:Nat=>k<=l.length) (7::[4,8,9,10,11,12,13,14,15,16,17,18,19,20,21]) (λk=>[(3,.one (.own 7)),(4,vI .i64 (k:Int))]) (λk=>[(9997,dR S.w0.heap.size S.w0.heap.size),(7,.row 223 2 (cpG DLink.ds [dI 0,dI 0] l k))]) (λk=>l.length-k) 0 Mo ?_ (ak.cons rfl (ak.cons (congrArg some (congrArg (AO.row 223 2) (du DLink.ds [dI 0,dI 0] l).symm)) ak.nil)) (λk hR=>?_)<;>(conv=>whnf)
  · exact whd
  · repeat'((first|refine aw0 ?_|refine awx ?_|refine AIx.mapF ari (λhlt=>?_)|refine aa.pure (Fu _) rfl ?_|refine AIx.at k _ rfl (cm DLink.ds [dI 0,dI 0] l k hlt) ?_|refine AIx.at k _ rfl (cm DLink.ds [dI 0,dI 0] l k ari) ?_|refine AW.i64 ari ari ?_|exact rr|refine And.intro rfl ?_|refine AB.mk (λh=>?_) (λh=>?_))<;>conv=>whnf)
    · refine aB.mk ⟨k+1,hlt,by omega,?_,ak.cons rfl (ak.cons (congrArg some (congrArg (AO.row 223 2) (eO DLink.ds [dI 0,dI 0] l k hlt))) ak.nil)⟩
      exact hds
    · have:k=l.length:=ari
      subst this
      exact⟨_,_,l.map DLink.ds,Nat.le_refl _,by rw[bN];exact Fam.blank (lo:=S.w0.heap.size) (hi:=S.w0.heap.size) (by simp[AD.isBl,DLink.ds]),by rw[bN],(λy hy=>by obtain⟨a,_,rfl⟩:=List.mem_map.1 hy;rfl),rfl⟩
theorem GG(x:DNet)(hs:DNet.small 1048576 x):bC av 28 [.agg x.ds] (.agg x.ds):=by
  refine aE ah func28 rfl call28 ntmps28 (MC results28) λS=>?_;conv=>whnf
  repeat'((first|refine aw0 ?_|refine awx ?_|refine aa.fresh (Fw x.flight ⟨hs.1,hs.2.1⟩) rfl rfl λR1 l1 h1 a1 b1 F1=>?_|refine aa.fresh (DD x.cuts hs.2.2) rfl rfl λR2 l2 h2 a2 b2 F2=>?_|exact rr|refine And.intro rfl ?_|refine AB.mk (λh=>?_) (λh=>?_))<;>conv=>whnf)
  exact⟨_,_,_,(by omega:S.w0.heap.size<=l1),(Fam.app F1 F2 Mo Mo Mo),rfl⟩
theorem DA(l:(List Bool))(hs:l.length<=1048576):bC av 30 [.one (.sl (l.map eB))] (.one (.sl (l.map eB))):=by
  have hl:l.length<=1048576:=hs
  refine aE ah func30 rfl call30 ntmps30 (MC results30) λS=>?_;conv=>whnf
  repeat'((first|refine aw0 ?_|refine awx ?_|refine⟨l.length,by simp,by simp,(show 1*l.length<=_ by omega),by omega,?_⟩|exact rr|refine And.intro rfl ?_|refine AB.mk (λh=>?_) (λh=>?_))<;>conv=>whnf)
  refine AWP.loopS (λk:Nat=>k<=l.length) (7::[4,8,9,10,11,12,13,14,15,16,17,18,19,20]) (λk=>[(3,.one (.own 7)),(4,vI .i64 (k:Int))]) (λk=>[(9997,dR S.w0.heap.size S.w0.heap.size),(7,.row 4 1 (cpG eB [dB false] l k))]) (λk=>l.length-k) 0 Mo ?_ (ak.cons rfl (ak.cons (congrArg some (congrArg (AO.row 4 1) (du eB [dB false] l).symm)) ak.nil)) (λk hR=>?_)<;>(conv=>whnf)
  · exact whd
  · repeat'((first|refine aw0 ?_|refine awx ?_|refine AIx.mapF ari (λhlt=>?_)|refine AIx.at k _ rfl (cm eB [dB false] l k hlt) ?_|refine AIx.at k _ rfl (cm eB [dB false] l k ari) ?_|refine AW.i64 ari ari ?_|exact rr|refine And.intro rfl ?_|refine AB.mk (λh=>?_) (λh=>?_))<;>conv=>whnf)
    · refine aB.mk ⟨k+1,hlt,by omega,?_,ak.cons rfl (ak.cons (congrArg some (congrArg (AO.row 4 1) (eO eB [dB false] l k hlt))) ak.nil)⟩
      exact hds
    · have:k=l.length:=ari
      subst this
      exact⟨_,_,l.map eB,Nat.le_refl _,by rw[bN];exact Fam.blank (lo:=S.w0.heap.size) (hi:=S.w0.heap.size) (by simp[AD.isBl,eB]),by rw[bN],(λy hy=>by obtain⟨a,_,rfl⟩:=List.mem_map.1 hy;rfl),rfl⟩
theorem DI(x:DWorld)(hs:DWorld.small 1048576 x):bC av 6 [.agg x.ds] (.agg x.ds):=by
  refine aE ah func6 rfl call6 ntmps6 (MC results6) λS=>?_;conv=>whnf
  repeat'((first|refine aw0 ?_|refine awx ?_|refine aa.fresh (z7 x.log hs.1) rfl rfl λR1 l1 h1 a1 b1 F1=>?_|refine aa.fresh (DG x.store hs.2.1) rfl rfl λR2 l2 h2 a2 b2 F2=>?_|refine aa.fresh (wQ x.left hs.2.2.1) rfl rfl λR3 l3 h3 a3 b3 F3=>?_|refine aa.fresh (wQ x.right hs.2.2.2.1) rfl rfl λR4 l4 h4 a4 b4 F4=>?_|refine aa.fresh (uB x.ann hs.2.2.2.2.1) rfl rfl λR5 l5 h5 a5 b5 F5=>?_|refine aa.fresh (uB x.bob hs.2.2.2.2.2.1) rfl rfl λR6 l6 h6 a6 b6 F6=>?_|refine aa.fresh (GG x.net hs.2.2.2.2.2.2.1) rfl rfl λR7 l7 h7 a7 b7 F7=>?_|refine aa.fresh (ko x.clocks hs.2.2.2.2.2.2.2.1) rfl rfl λR8 l8 h8 a8 b8 F8=>?_|refine aa.fresh (DA x.up hs.2.2.2.2.2.2.2.2) rfl rfl λR9 l9 h9 a9 b9 F9=>?_|exact rr|refine And.intro rfl ?_|refine AB.mk (λh=>?_) (λh=>?_))<;>conv=>whnf)
  exact⟨_,_,_,(by omega:S.w0.heap.size<=l1),(Fam.app (Fam.app (Fam.app (Fam.app (Fam.app (Fam.app (Fam.app (Fam.app F1 F2 Mo Mo Mo) F3 Mo Mo Mo) F4 Mo Mo Mo) F5 Mo Mo Mo) F6 Mo Mo Mo) F7 Mo Mo Mo) F8 Mo Mo Mo) F9 Mo Mo Mo),rfl⟩
theorem wR(x:DWorld)(hs:DWorld.small 1048576 x):aj av 6 [.agg x.ds] (.val (.agg x.ds)):=(DI x hs).pcall
end Go.Proofs.YtehobfglmeiglaaGreatDoor
namespace Go.Proofs.YtehobfglmeiglaaGreatDoor
open Go.Proofs.Tryz
open Go.ChangeShapes Go.WideShapes Go.RowKit
def jE:List (List Nat):=bk [0,0,66,12417,0,0,326,29061,17663105454471]
def jP:List (List Nat):=bj 8 [6486,6482,6484,6493,566,242,404,1133]
def iM:List (List Nat):=bk [0,0,66,12417,0,0,326,29061,17663105454471,2564478936555588]
def iW:List (List Nat):=bj 8 [6486,6482,6484,6493,566,242,404,1133]
def jF:List (List Nat):=bk [0,0,66,12417,0,0,326,29061,17663105454471,2564478936555588]
def jQ:List (List Nat):=bj 8 [6486,6482,6484,6493,566,242,404,1133]
def kX:List (List Nat):=bk [0,0,66,12417,0,0,326,29061,17663105454471,2564478936555588]
def lw:List (List Nat):=bj 8 [6486,6482,6484,6493,566,242,404,1133]
def jD:List (List Nat):=bk [0,0,66,12417,0,0,326,29061,17663105454471,2564478936555588]
def jO:List (List Nat):=bj 8 [6486,6482,6484,6493,566,242,404,1133]
def ma:List (List Nat):=bk [0,0,66,12417,0,0,326,29061,17663105454471,2564478936555588]
def ms:List (List Nat):=bj 8 [6486,6482,6484,6493,566,242,404,1133]
def kY:List (List Nat):=bk [0,0,66,12417,0,0,326,29061,17663105454471,2564478936555588]
def lx:List (List Nat):=bj 8 [6486,6482,6484,6493,566,242,404,1133]
def me:List (List Nat):=bk [0,0,66,12417,0,0,326,29061,17663105454471,2564478936555588]
def mv:List (List Nat):=bj 8 [6486,6482,6484,6493,566,242,404,1133]
def mb:List (List Nat):=bk [0,0,66,12417,0,0,326,29061,17663105454471,2564478936555588]
def mt:List (List Nat):=bj 8 [6486,6482,6484,6493,566,242,404,1133]
def kZ:List (List Nat):=bk [0,0,66,12417,0,0,326,29061,17663105454471,2564478936555588]
def ly:List (List Nat):=bj 8 [6486,6482,6484,6493,566,242,404,1133]
def mc:List (List Nat):=bk [0,0,66,12417,0,0,326,29061,17663105454471,2564478936555588]
def mu:List (List Nat):=bj 8 [6486,6482,6484,6493,566,242,404,1133]
def mf:List (List Nat):=bk [0,0,66,12417,0,0,326,29061,17663105454471,2564478936555588]
def mw:List (List Nat):=bj 8 [6486,6482,6484,6493,566,242,404,1133]
def kW:List (List Nat):=bk [0,0,66,12417,0,0,326,29061,17663105454471,2564478936555588]
def lu:List (List Nat):=bj 8 [6486,6482,6484,6493,566,242,404,1133]
def kV:List (List Nat):=bk [0,0,66,12417,0,0,326,29061,17663105454471]
def lr:List (List Nat):=bj 8 [6486,6482,6484,6493,566,242,404,1133]
theorem neI(x:Int):(x !=x)=false:=by simp
theorem neB(x:Bool):(!(x==x))=false:=by simp
theorem gA(l:(List Int))(hs:l.length<=1048576):aj av 42 [.one (.sl (l.map eI)),.one (.sl (l.map eI))] (rB true):=by
  have hl:l.length<=1048576:=hs
  refine ae ah func42 rfl call42 ntmps42 (MC results42) λS=>?_;conv=>whnf
  have h0:(((l.map eI).length:Int) !=((l.map eI).length:Int))=false:=neI _
  repeat'((first|refine aw0 ?_|refine awx ?_|exact rr|refine And.intro rfl ?_|refine AB.mk (λh=>?_) (λh=>?_))<;>conv=>whnf)
  refine AWP.loopS (λk:Nat=>k<=l.length) [4,5,11,12,13,14,15,16,17,18,19,20,21,22,23,24,25] (λk=>[(5,vI .i64 (k:Int))]) (λk=>[]) (λk=>l.length-k) 0 Mo ?_ ak.nil (λk hR=>?_)<;>(conv=>whnf)
  · exact whd
  · repeat'((first|refine aw0 ?_|refine awx ?_|exact rr|refine And.intro rfl ?_|refine AB.mk (λh=>?_) (λh=>?_))<;>conv=>whnf)
    · have hlt:k<l.length:=ari
      have hne:(l[k] !=l[k])=false:=neI _
      (refine AWP.drawK ah 6 8 jE jP Mp Mp Mp rfl ?_;conv=>whnf)
      repeat'((first|refine aw0 ?_|refine awx ?_|refine AIx.map hlt ?_|refine AW.i64 ari ari ?_|exact rr|refine And.intro rfl ?_|refine AB.mk (λh=>?_) (λh=>?_))<;>conv=>whnf)
      refine aB.mk ⟨k+1,hlt,by omega,?_,ak.nil⟩
      exact hds
theorem yC(l:(List (List Int)))(hs:l.length<=1048576/\∀y∈l,y.length<=1048576):aj av 200 [.one (.sl (l.map fW)),.one (.sl (l.map fW))] (rB true):=by
  have hl:l.length<=1048576:=hs.1
  refine ae ah func200 rfl call200 ntmps200 (MC results200) λS=>?_;conv=>whnf
  have h0:(((l.map fW).length:Int) !=((l.map fW).length:Int))=false:=neI _
  repeat'((first|refine aw0 ?_|refine awx ?_|exact rr|refine And.intro rfl ?_|refine AB.mk (λh=>?_) (λh=>?_))<;>conv=>whnf)
  refine AWP.loopS (λk:Nat=>k<=l.length) [4,5,11,12,13,14,15,16,17,18,19,20,21,22,23,24,25,26] (λk=>[(5,vI .i64 (k:Int))]) (λk=>[]) (λk=>l.length-k) 0 Mo ?_ ak.nil (λk hR=>?_)<;>(conv=>whnf)
  · exact whd
  · repeat'((first|refine aw0 ?_|refine awx ?_|exact rr|refine And.intro rfl ?_|refine AB.mk (λh=>?_) (λh=>?_))<;>conv=>whnf)
    · have hlt:k<l.length:=ari
      (refine AWP.drawK ah 6 8 iM iW Mp Mp Mp rfl ?_;conv=>whnf)
      repeat'((first|refine aw0 ?_|refine awx ?_|refine AIx.map hlt ?_|refine cP (gA _ (hs.2 _ (List.getElem_mem hlt))) ?_|refine AW.i64 ari ari ?_|exact rr|refine And.intro rfl ?_|refine AB.mk (λh=>?_) (λh=>?_))<;>conv=>whnf)
      refine aB.mk ⟨k+1,hlt,by omega,?_,ak.nil⟩
      exact hds
theorem vH(x:DWrite)(hs:DWrite.small 1048576 x):aj av 267 [.agg x.ds,.agg x.ds] (rB true):=by
  refine ae ah func267 rfl call267 ntmps267 (MC results267) λS=>?_;conv=>whnf
  have h1:=neI x.at_
  repeat'((first|refine aw0 ?_|refine awx ?_|refine aa.pure (gA x.row hs) rfl ?_|exact rr|refine And.intro rfl ?_|refine AB.mk (λh=>?_) (λh=>?_))<;>conv=>whnf)
theorem A8(l:(List DWrite))(hs:l.length<=1048576/\∀y∈l,DWrite.small 1048576 y):aj av 201 [.one (.sl (l.map DWrite.ds)),.one (.sl (l.map DWrite.ds))] (rB true):=by
  have hl:l.length<=1048576:=hs.1
  refine ae ah func201 rfl call201 ntmps201 (MC results201) λS=>?_;conv=>whnf
  have h0:(((l.map DWrite.ds).length:Int) !=((l.map DWrite.ds).length:Int))=false:=neI _
  repeat'((first|refine aw0 ?_|refine awx ?_|exact rr|refine And.intro rfl ?_|refine AB.mk (λh=>?_) (λh=>?_))<;>conv=>whnf)
  refine AWP.loopS (λk:Nat=>k<=l.length) [4,5,11,12,13,14,15,16,17,18,19,20,21,22,23,24,25,26] (λk=>[(5,vI .i64 (k:Int))]) (λk=>[]) (λk=>l.length-k) 0 Mo ?_ ak.nil (λk hR=>?_)<;>(conv=>whnf)
  · exact whd
  · repeat'((first|refine aw0 ?_|refine awx ?_|exact rr|refine And.intro rfl ?_|refine AB.mk (λh=>?_) (λh=>?_))<;>conv=>whnf)
    · have hlt:k<l.length:=ari
      (refine AWP.drawK ah 6 8 jF jQ Mp Mp Mp rfl ?_;conv=>whnf)
      repeat'((first|refine aw0 ?_|refine awx ?_|refine AIx.map hlt ?_|refine cP (vH _ (hs.2 _ (List.getElem_mem hlt))) ?_|refine AW.i64 ari ari ?_|exact rr|refine And.intro rfl ?_|refine AB.mk (λh=>?_) (λh=>?_))<;>conv=>whnf)
      refine aB.mk ⟨k+1,hlt,by omega,?_,ak.nil⟩
      exact hds
theorem sU(x:DDisk)(hs:DDisk.small 1048576 x):aj av 101 [.agg x.ds,.agg x.ds] (rB true):=by
  refine ae ah func101 rfl call101 ntmps101 (MC results101) λS=>?_;conv=>whnf
  repeat'((first|refine aw0 ?_|refine awx ?_|refine aa.pure (yC x.kept ⟨hs.1,hs.2.1⟩) rfl ?_|refine aa.pure (A8 x.wait ⟨hs.2.2.1,hs.2.2.2⟩) rfl ?_|exact rr|refine And.intro rfl ?_|refine AB.mk (λh=>?_) (λh=>?_))<;>conv=>whnf)
theorem FN(x:DTwo)(hs:DTwo.small 1048576 x):aj av 96 [.agg x.ds,.agg x.ds] (rB true):=by
  refine ae ah func96 rfl call96 ntmps96 (MC results96) λS=>?_;conv=>whnf
  repeat'((first|refine aw0 ?_|refine awx ?_|refine aa.pure (sU x.a hs.1) rfl ?_|refine aa.pure (sU x.b hs.2) rfl ?_|exact rr|refine And.intro rfl ?_|refine AB.mk (λh=>?_) (λh=>?_))<;>conv=>whnf)
theorem yF(x:DMark):aj av 198 [.agg x.ds,.agg x.ds] (rB true):=by
  refine ae ah func198 rfl call198 ntmps198 (MC results198) λS=>?_;conv=>whnf
  have h1:=neI x.client
  have h2:=neI x.seq
  have h3:=neI x.index
  repeat'((first|refine aw0 ?_|refine awx ?_|exact rr|refine And.intro rfl ?_|refine AB.mk (λh=>?_) (λh=>?_))<;>conv=>whnf)
theorem vE(l:(List DMark))(hs:l.length<=1048576):aj av 99 [.one (.sl (l.map DMark.ds)),.one (.sl (l.map DMark.ds))] (rB true):=by
  have hl:l.length<=1048576:=hs
  refine ae ah func99 rfl call99 ntmps99 (MC results99) λS=>?_;conv=>whnf
  have h0:(((l.map DMark.ds).length:Int) !=((l.map DMark.ds).length:Int))=false:=neI _
  repeat'((first|refine aw0 ?_|refine awx ?_|exact rr|refine And.intro rfl ?_|refine AB.mk (λh=>?_) (λh=>?_))<;>conv=>whnf)
  refine AWP.loopS (λk:Nat=>k<=l.length) [4,5,11,12,13,14,15,16,17,18,19,20,21,22,23,24,25,26] (λk=>[(5,vI .i64 (k:Int))]) (λk=>[]) (λk=>l.length-k) 0 Mo ?_ ak.nil (λk hR=>?_)<;>(conv=>whnf)
  · exact whd
  · repeat'((first|refine aw0 ?_|refine awx ?_|exact rr|refine And.intro rfl ?_|refine AB.mk (λh=>?_) (λh=>?_))<;>conv=>whnf)
    · have hlt:k<l.length:=ari
      (refine AWP.drawK ah 6 8 kX lw Mp Mp Mp rfl ?_;conv=>whnf)
      repeat'((first|refine aw0 ?_|refine awx ?_|refine AIx.map hlt ?_|refine cP (yF _) ?_|refine AW.i64 ari ari ?_|exact rr|refine And.intro rfl ?_|refine AB.mk (λh=>?_) (λh=>?_))<;>conv=>whnf)
      refine aB.mk ⟨k+1,hlt,by omega,?_,ak.nil⟩
      exact hds
theorem yB(x:DHead)(hs:DHead.small 1048576 x):aj av 97 [.agg x.ds,.agg x.ds] (rB true):=by
  refine ae ah func97 rfl call97 ntmps97 (MC results97) λS=>?_;conv=>whnf
  have h1:=neI x.num
  have h2:=neI x.base
  have h3:=neI x.time
  repeat'((first|refine aw0 ?_|refine awx ?_|refine aa.pure (vE x.seen hs) rfl ?_|exact rr|refine And.intro rfl ?_|refine AB.mk (λh=>?_) (λh=>?_))<;>conv=>whnf)
theorem A7(x:DOp):aj av 104 [.agg x.ds,.agg x.ds] (rB true):=by
  refine ae ah func104 rfl call104 ntmps104 (MC results104) λS=>?_;conv=>whnf
  have h1:=neI x.kind
  have h2:=neI x.a
  have h3:=neI x.b
  have h4:=neI x.c
  have h5:=neI x.d
  repeat'((first|refine aw0 ?_|refine awx ?_|exact rr|refine And.intro rfl ?_|refine AB.mk (λh=>?_) (λh=>?_))<;>conv=>whnf)
theorem vD(x:DEntry):aj av 266 [.agg x.ds,.agg x.ds] (rB true):=by
  refine ae ah func266 rfl call266 ntmps266 (MC results266) λS=>?_;conv=>whnf
  have h1:=neI x.index
  have h2:=neI x.time
  have h3:=neI x.client
  have h4:=neI x.seq
  repeat'((first|refine aw0 ?_|refine awx ?_|refine aa.pure (A7 x.op) rfl ?_|exact rr|refine And.intro rfl ?_|refine AB.mk (λh=>?_) (λh=>?_))<;>conv=>whnf)
theorem A6(l:(List DEntry))(hs:l.length<=1048576):aj av 197 [.one (.sl (l.map DEntry.ds)),.one (.sl (l.map DEntry.ds))] (rB true):=by
  have hl:l.length<=1048576:=hs
  refine ae ah func197 rfl call197 ntmps197 (MC results197) λS=>?_;conv=>whnf
  have h0:(((l.map DEntry.ds).length:Int) !=((l.map DEntry.ds).length:Int))=false:=neI _
  repeat'((first|refine aw0 ?_|refine awx ?_|exact rr|refine And.intro rfl ?_|refine AB.mk (λh=>?_) (λh=>?_))<;>conv=>whnf)
  refine AWP.loopS (λk:Nat=>k<=l.length) [4,5,11,12,13,14,15,16,17,18,19,20,21,22,23,24,25,26] (λk=>[(5,vI .i64 (k:Int))]) (λk=>[]) (λk=>l.length-k) 0 Mo ?_ ak.nil (λk hR=>?_)<;>(conv=>whnf)
  · exact whd
  · repeat'((first|refine aw0 ?_|refine awx ?_|exact rr|refine And.intro rfl ?_|refine AB.mk (λh=>?_) (λh=>?_))<;>conv=>whnf)
    · have hlt:k<l.length:=ari
      (refine AWP.drawK ah 6 8 jD jO Mp Mp Mp rfl ?_;conv=>whnf)
      repeat'((first|refine aw0 ?_|refine awx ?_|refine AIx.map hlt ?_|refine cP (vD _) ?_|refine AW.i64 ari ari ?_|exact rr|refine And.intro rfl ?_|refine AB.mk (λh=>?_) (λh=>?_))<;>conv=>whnf)
      refine aB.mk ⟨k+1,hlt,by omega,?_,ak.nil⟩
      exact hds
theorem Ej(x:DBook)(hs:DBook.small 1048576 x):aj av 98 [.agg x.ds,.agg x.ds] (rB true):=by
  refine ae ah func98 rfl call98 ntmps98 (MC results98) λS=>?_;conv=>whnf
  have h1:=neI x.base
  have h2:=neI x.time
  repeat'((first|refine aw0 ?_|refine awx ?_|refine aa.pure (A6 x.entries hs) rfl ?_|exact rr|refine And.intro rfl ?_|refine AB.mk (λh=>?_) (λh=>?_))<;>conv=>whnf)
theorem BU(x:DAck):aj av 199 [.agg x.ds,.agg x.ds] (rB true):=by
  refine ae ah func199 rfl call199 ntmps199 (MC results199) λS=>?_;conv=>whnf
  have h1:=neI x.client
  have h2:=neI x.seq
  have h3:=neI x.index
  have h4:=neI x.last
  repeat'((first|refine aw0 ?_|refine awx ?_|exact rr|refine And.intro rfl ?_|refine AB.mk (λh=>?_) (λh=>?_))<;>conv=>whnf)
theorem Ei(l:(List DAck))(hs:l.length<=1048576):aj av 100 [.one (.sl (l.map DAck.ds)),.one (.sl (l.map DAck.ds))] (rB true):=by
  have hl:l.length<=1048576:=hs
  refine ae ah func100 rfl call100 ntmps100 (MC results100) λS=>?_;conv=>whnf
  have h0:(((l.map DAck.ds).length:Int) !=((l.map DAck.ds).length:Int))=false:=neI _
  repeat'((first|refine aw0 ?_|refine awx ?_|exact rr|refine And.intro rfl ?_|refine AB.mk (λh=>?_) (λh=>?_))<;>conv=>whnf)
  refine AWP.loopS (λk:Nat=>k<=l.length) [4,5,11,12,13,14,15,16,17,18,19,20,21,22,23,24,25,26] (λk=>[(5,vI .i64 (k:Int))]) (λk=>[]) (λk=>l.length-k) 0 Mo ?_ ak.nil (λk hR=>?_)<;>(conv=>whnf)
  · exact whd
  · repeat'((first|refine aw0 ?_|refine awx ?_|exact rr|refine And.intro rfl ?_|refine AB.mk (λh=>?_) (λh=>?_))<;>conv=>whnf)
    · have hlt:k<l.length:=ari
      (refine AWP.drawK ah 6 8 ma ms Mp Mp Mp rfl ?_;conv=>whnf)
      repeat'((first|refine aw0 ?_|refine awx ?_|refine AIx.map hlt ?_|refine cP (BU _) ?_|refine AW.i64 ari ari ?_|exact rr|refine And.intro rfl ?_|refine AB.mk (λh=>?_) (λh=>?_))<;>conv=>whnf)
      refine aB.mk ⟨k+1,hlt,by omega,?_,ak.nil⟩
      exact hds
theorem yE(x:DLogNode)(hs:DLogNode.small 1048576 x):aj av 37 [.agg x.ds,.agg x.ds] (rB true):=by
  refine ae ah func37 rfl call37 ntmps37 (MC results37) λS=>?_;conv=>whnf
  have h4:(!(x.more==x.more))=false:=neB _
  have h7:=neI x.durable
  repeat'((first|refine aw0 ?_|refine awx ?_|refine aa.pure (FN x.two hs.1) rfl ?_|refine aa.pure (yB x.head hs.2.1) rfl ?_|refine aa.pure (yB x.nxt hs.2.2.1) rfl ?_|refine aa.pure (Ej x.book hs.2.2.2.1) rfl ?_|refine aa.pure (vE x.seen hs.2.2.2.2.1) rfl ?_|refine aa.pure (Ei x.owe hs.2.2.2.2.2) rfl ?_|exact rr|refine And.intro rfl ?_|refine AB.mk (λh=>?_) (λh=>?_))<;>conv=>whnf)
theorem yG(x:DPair):aj av 268 [.agg x.ds,.agg x.ds] (rB true):=by
  refine ae ah func268 rfl call268 ntmps268 (MC results268) λS=>?_;conv=>whnf
  have h1:=neI x.key
  have h2:=neI x.value
  repeat'((first|refine aw0 ?_|refine awx ?_|exact rr|refine And.intro rfl ?_|refine AB.mk (λh=>?_) (λh=>?_))<;>conv=>whnf)
theorem CU(l:(List DPair))(hs:l.length<=1048576):aj av 202 [.one (.sl (l.map DPair.ds)),.one (.sl (l.map DPair.ds))] (rB true):=by
  have hl:l.length<=1048576:=hs
  refine ae ah func202 rfl call202 ntmps202 (MC results202) λS=>?_;conv=>whnf
  have h0:(((l.map DPair.ds).length:Int) !=((l.map DPair.ds).length:Int))=false:=neI _
  repeat'((first|refine aw0 ?_|refine awx ?_|exact rr|refine And.intro rfl ?_|refine AB.mk (λh=>?_) (λh=>?_))<;>conv=>whnf)
  refine AWP.loopS (λk:Nat=>k<=l.length) [4,5,11,12,13,14,15,16,17,18,19,20,21,22,23,24,25,26] (λk=>[(5,vI .i64 (k:Int))]) (λk=>[]) (λk=>l.length-k) 0 Mo ?_ ak.nil (λk hR=>?_)<;>(conv=>whnf)
  · exact whd
  · repeat'((first|refine aw0 ?_|refine awx ?_|exact rr|refine And.intro rfl ?_|refine AB.mk (λh=>?_) (λh=>?_))<;>conv=>whnf)
    · have hlt:k<l.length:=ari
      (refine AWP.drawK ah 6 8 kY lx Mp Mp Mp rfl ?_;conv=>whnf)
      repeat'((first|refine aw0 ?_|refine awx ?_|refine AIx.map hlt ?_|refine cP (yG _) ?_|refine AW.i64 ari ari ?_|exact rr|refine And.intro rfl ?_|refine AB.mk (λh=>?_) (λh=>?_))<;>conv=>whnf)
      refine aB.mk ⟨k+1,hlt,by omega,?_,ak.nil⟩
      exact hds
theorem BX(x:DJob):aj av 269 [.agg x.ds,.agg x.ds] (rB true):=by
  refine ae ah func269 rfl call269 ntmps269 (MC results269) λS=>?_;conv=>whnf
  have h1:=neI x.id
  have h2:=neI x.due
  have h3:=neI x.key
  have h4:=neI x.value
  have h5:=neI x.fired
  repeat'((first|refine aw0 ?_|refine awx ?_|exact rr|refine And.intro rfl ?_|refine AB.mk (λh=>?_) (λh=>?_))<;>conv=>whnf)
theorem Eo(l:(List DJob))(hs:l.length<=1048576):aj av 203 [.one (.sl (l.map DJob.ds)),.one (.sl (l.map DJob.ds))] (rB true):=by
  have hl:l.length<=1048576:=hs
  refine ae ah func203 rfl call203 ntmps203 (MC results203) λS=>?_;conv=>whnf
  have h0:(((l.map DJob.ds).length:Int) !=((l.map DJob.ds).length:Int))=false:=neI _
  repeat'((first|refine aw0 ?_|refine awx ?_|exact rr|refine And.intro rfl ?_|refine AB.mk (λh=>?_) (λh=>?_))<;>conv=>whnf)
  refine AWP.loopS (λk:Nat=>k<=l.length) [4,5,11,12,13,14,15,16,17,18,19,20,21,22,23,24,25,26] (λk=>[(5,vI .i64 (k:Int))]) (λk=>[]) (λk=>l.length-k) 0 Mo ?_ ak.nil (λk hR=>?_)<;>(conv=>whnf)
  · exact whd
  · repeat'((first|refine aw0 ?_|refine awx ?_|exact rr|refine And.intro rfl ?_|refine AB.mk (λh=>?_) (λh=>?_))<;>conv=>whnf)
    · have hlt:k<l.length:=ari
      (refine AWP.drawK ah 6 8 me mv Mp Mp Mp rfl ?_;conv=>whnf)
      repeat'((first|refine aw0 ?_|refine awx ?_|refine AIx.map hlt ?_|refine cP (BX _) ?_|refine AW.i64 ari ari ?_|exact rr|refine And.intro rfl ?_|refine AB.mk (λh=>?_) (λh=>?_))<;>conv=>whnf)
      refine aB.mk ⟨k+1,hlt,by omega,?_,ak.nil⟩
      exact hds
theorem CS(x:DLease):aj av 204 [.agg x.ds,.agg x.ds] (rB true):=by
  refine ae ah func204 rfl call204 ntmps204 (MC results204) λS=>?_;conv=>whnf
  have h1:=neI x.holder
  have h2:=neI x.epoch
  have h3:=neI x.til
  repeat'((first|refine aw0 ?_|refine awx ?_|exact rr|refine And.intro rfl ?_|refine AB.mk (λh=>?_) (λh=>?_))<;>conv=>whnf)
theorem CV(x:DState)(hs:DState.small 1048576 x):aj av 102 [.agg x.ds,.agg x.ds] (rB true):=by
  refine ae ah func102 rfl call102 ntmps102 (MC results102) λS=>?_;conv=>whnf
  have h1:=neI x.index
  have h2:=neI x.time
  repeat'((first|refine aw0 ?_|refine awx ?_|refine aa.pure (CU x.pairs hs.1) rfl ?_|refine aa.pure (Eo x.jobs hs.2) rfl ?_|refine aa.pure (CS x.lease) rfl ?_|exact rr|refine And.intro rfl ?_|refine AB.mk (λh=>?_) (λh=>?_))<;>conv=>whnf)
theorem CW(x:DStore)(hs:DStore.small 1048576 x):aj av 38 [.agg x.ds,.agg x.ds] (rB true):=by
  refine ae ah func38 rfl call38 ntmps38 (MC results38) λS=>?_;conv=>whnf
  have h3:=neI x.num
  have h4:=neI x.last
  have h5:=neI x.busy
  repeat'((first|refine aw0 ?_|refine awx ?_|refine aa.pure (sU x.disk hs.1) rfl ?_|refine aa.pure (CV x.state hs.2) rfl ?_|exact rr|refine And.intro rfl ?_|refine AB.mk (λh=>?_) (λh=>?_))<;>conv=>whnf)
theorem BV(x:DDue):aj av 317 [.agg x.ds,.agg x.ds] (rB true):=by
  refine ae ah func317 rfl call317 ntmps317 (MC results317) λS=>?_;conv=>whnf
  have h1:=neI x.id
  have h2:=neI x.due
  repeat'((first|refine aw0 ?_|refine awx ?_|exact rr|refine And.intro rfl ?_|refine AB.mk (λh=>?_) (λh=>?_))<;>conv=>whnf)
theorem Ek(l:(List DDue))(hs:l.length<=1048576):aj av 270 [.one (.sl (l.map DDue.ds)),.one (.sl (l.map DDue.ds))] (rB true):=by
  have hl:l.length<=1048576:=hs
  refine ae ah func270 rfl call270 ntmps270 (MC results270) λS=>?_;conv=>whnf
  have h0:(((l.map DDue.ds).length:Int) !=((l.map DDue.ds).length:Int))=false:=neI _
  repeat'((first|refine aw0 ?_|refine awx ?_|exact rr|refine And.intro rfl ?_|refine AB.mk (λh=>?_) (λh=>?_))<;>conv=>whnf)
  refine AWP.loopS (λk:Nat=>k<=l.length) [4,5,11,12,13,14,15,16,17,18,19,20,21,22,23,24,25,26] (λk=>[(5,vI .i64 (k:Int))]) (λk=>[]) (λk=>l.length-k) 0 Mo ?_ ak.nil (λk hR=>?_)<;>(conv=>whnf)
  · exact whd
  · repeat'((first|refine aw0 ?_|refine awx ?_|exact rr|refine And.intro rfl ?_|refine AB.mk (λh=>?_) (λh=>?_))<;>conv=>whnf)
    · have hlt:k<l.length:=ari
      (refine AWP.drawK ah 6 8 mb mt Mp Mp Mp rfl ?_;conv=>whnf)
      repeat'((first|refine aw0 ?_|refine awx ?_|refine AIx.map hlt ?_|refine cP (BV _) ?_|refine AW.i64 ari ari ?_|exact rr|refine And.intro rfl ?_|refine AB.mk (λh=>?_) (λh=>?_))<;>conv=>whnf)
      refine aB.mk ⟨k+1,hlt,by omega,?_,ak.nil⟩
      exact hds
theorem Ep(x:DJobs)(hs:DJobs.small 1048576 x):aj av 205 [.agg x.ds,.agg x.ds] (rB true):=by
  refine ae ah func205 rfl call205 ntmps205 (MC results205) λS=>?_;conv=>whnf
  have h1:=neI x.index
  have h2:=neI x.time
  have h3:=neI x.holder
  have h4:=neI x.epoch
  have h5:=neI x.til
  repeat'((first|refine aw0 ?_|refine awx ?_|refine aa.pure (Ek x.opens hs) rfl ?_|exact rr|refine And.intro rfl ?_|refine AB.mk (λh=>?_) (λh=>?_))<;>conv=>whnf)
theorem Er(x:DView)(hs:DView.small 1048576 x):aj av 103 [.agg x.ds,.agg x.ds] (rB true):=by
  refine ae ah func103 rfl call103 ntmps103 (MC results103) λS=>?_;conv=>whnf
  repeat'((first|refine aw0 ?_|refine awx ?_|refine aa.pure (Ep x.jobs hs) rfl ?_|exact rr|refine And.intro rfl ?_|refine AB.mk (λh=>?_) (λh=>?_))<;>conv=>whnf)
theorem vF(x:DSched)(hs:DSched.small 1048576 x):aj av 39 [.agg x.ds,.agg x.ds] (rB true):=by
  refine ae ah func39 rfl call39 ntmps39 (MC results39) λS=>?_;conv=>whnf
  have h1:=neI x.id
  have h2:=neI x.seq
  have h4:(!(x.busy==x.busy))=false:=neB _
  have h6:=neI x.index
  repeat'((first|refine aw0 ?_|refine awx ?_|refine aa.pure (Er x.view hs) rfl ?_|refine aa.pure (A7 x.op) rfl ?_|exact rr|refine And.intro rfl ?_|refine AB.mk (λh=>?_) (λh=>?_))<;>conv=>whnf)
theorem yH(x:DWant):aj av 206 [.agg x.ds,.agg x.ds] (rB true):=by
  refine ae ah func206 rfl call206 ntmps206 (MC results206) λS=>?_;conv=>whnf
  have h1:=neI x.kind
  have h3:=neI x.key
  repeat'((first|refine aw0 ?_|refine awx ?_|refine aa.pure (A7 x.op) rfl ?_|exact rr|refine And.intro rfl ?_|refine AB.mk (λh=>?_) (λh=>?_))<;>conv=>whnf)
theorem CX(l:(List DWant))(hs:l.length<=1048576):aj av 105 [.one (.sl (l.map DWant.ds)),.one (.sl (l.map DWant.ds))] (rB true):=by
  have hl:l.length<=1048576:=hs
  refine ae ah func105 rfl call105 ntmps105 (MC results105) λS=>?_;conv=>whnf
  have h0:(((l.map DWant.ds).length:Int) !=((l.map DWant.ds).length:Int))=false:=neI _
  repeat'((first|refine aw0 ?_|refine awx ?_|exact rr|refine And.intro rfl ?_|refine AB.mk (λh=>?_) (λh=>?_))<;>conv=>whnf)
  refine AWP.loopS (λk:Nat=>k<=l.length) [4,5,11,12,13,14,15,16,17,18,19,20,21,22,23,24,25,26] (λk=>[(5,vI .i64 (k:Int))]) (λk=>[]) (λk=>l.length-k) 0 Mo ?_ ak.nil (λk hR=>?_)<;>(conv=>whnf)
  · exact whd
  · repeat'((first|refine aw0 ?_|refine awx ?_|exact rr|refine And.intro rfl ?_|refine AB.mk (λh=>?_) (λh=>?_))<;>conv=>whnf)
    · have hlt:k<l.length:=ari
      (refine AWP.drawK ah 6 8 kZ ly Mp Mp Mp rfl ?_;conv=>whnf)
      repeat'((first|refine aw0 ?_|refine awx ?_|refine AIx.map hlt ?_|refine cP (yH _) ?_|refine AW.i64 ari ari ?_|exact rr|refine And.intro rfl ?_|refine AB.mk (λh=>?_) (λh=>?_))<;>conv=>whnf)
      refine aB.mk ⟨k+1,hlt,by omega,?_,ak.nil⟩
      exact hds
theorem BW(x:DGot):aj av 207 [.agg x.ds,.agg x.ds] (rB true):=by
  refine ae ah func207 rfl call207 ntmps207 (MC results207) λS=>?_;conv=>whnf
  have h1:=neI x.seq
  have h2:=neI x.index
  have h3:=neI x.has
  have h4:=neI x.value
  repeat'((first|refine aw0 ?_|refine awx ?_|exact rr|refine And.intro rfl ?_|refine AB.mk (λh=>?_) (λh=>?_))<;>conv=>whnf)
theorem Em(l:(List DGot))(hs:l.length<=1048576):aj av 106 [.one (.sl (l.map DGot.ds)),.one (.sl (l.map DGot.ds))] (rB true):=by
  have hl:l.length<=1048576:=hs
  refine ae ah func106 rfl call106 ntmps106 (MC results106) λS=>?_;conv=>whnf
  have h0:(((l.map DGot.ds).length:Int) !=((l.map DGot.ds).length:Int))=false:=neI _
  repeat'((first|refine aw0 ?_|refine awx ?_|exact rr|refine And.intro rfl ?_|refine AB.mk (λh=>?_) (λh=>?_))<;>conv=>whnf)
  refine AWP.loopS (λk:Nat=>k<=l.length) [4,5,11,12,13,14,15,16,17,18,19,20,21,22,23,24,25,26] (λk=>[(5,vI .i64 (k:Int))]) (λk=>[]) (λk=>l.length-k) 0 Mo ?_ ak.nil (λk hR=>?_)<;>(conv=>whnf)
  · exact whd
  · repeat'((first|refine aw0 ?_|refine awx ?_|exact rr|refine And.intro rfl ?_|refine AB.mk (λh=>?_) (λh=>?_))<;>conv=>whnf)
    · have hlt:k<l.length:=ari
      (refine AWP.drawK ah 6 8 mc mu Mp Mp Mp rfl ?_;conv=>whnf)
      repeat'((first|refine aw0 ?_|refine awx ?_|refine AIx.map hlt ?_|refine cP (BW _) ?_|refine AW.i64 ari ari ?_|exact rr|refine And.intro rfl ?_|refine AB.mk (λh=>?_) (λh=>?_))<;>conv=>whnf)
      refine aB.mk ⟨k+1,hlt,by omega,?_,ak.nil⟩
      exact hds
theorem sT(x:DClient)(hs:DClient.small 1048576 x):aj av 40 [.agg x.ds,.agg x.ds] (rB true):=by
  refine ae ah func40 rfl call40 ntmps40 (MC results40) λS=>?_;conv=>whnf
  have h1:=neI x.id
  have h4:=neI x.last
  repeat'((first|refine aw0 ?_|refine awx ?_|refine aa.pure (CX x.todo hs.1) rfl ?_|refine aa.pure (Em x.gots hs.2) rfl ?_|exact rr|refine And.intro rfl ?_|refine AB.mk (λh=>?_) (λh=>?_))<;>conv=>whnf)
theorem BY(x:DMsg)(hs:DMsg.small 1048576 x):aj av 208 [.agg x.ds,.agg x.ds] (rB true):=by
  refine ae ah func208 rfl call208 ntmps208 (MC results208) λS=>?_;conv=>whnf
  have h1:=neI x.frm
  have h2:=neI x.to_
  repeat'((first|refine aw0 ?_|refine awx ?_|refine aa.pure (gA x.row hs) rfl ?_|exact rr|refine And.intro rfl ?_|refine AB.mk (λh=>?_) (λh=>?_))<;>conv=>whnf)
theorem Eq(l:(List DMsg))(hs:l.length<=1048576/\∀y∈l,DMsg.small 1048576 y):aj av 107 [.one (.sl (l.map DMsg.ds)),.one (.sl (l.map DMsg.ds))] (rB true):=by
  have hl:l.length<=1048576:=hs.1
  refine ae ah func107 rfl call107 ntmps107 (MC results107) λS=>?_;conv=>whnf
  have h0:(((l.map DMsg.ds).length:Int) !=((l.map DMsg.ds).length:Int))=false:=neI _
  repeat'((first|refine aw0 ?_|refine awx ?_|exact rr|refine And.intro rfl ?_|refine AB.mk (λh=>?_) (λh=>?_))<;>conv=>whnf)
  refine AWP.loopS (λk:Nat=>k<=l.length) [4,5,11,12,13,14,15,16,17,18,19,20,21,22,23,24,25,26] (λk=>[(5,vI .i64 (k:Int))]) (λk=>[]) (λk=>l.length-k) 0 Mo ?_ ak.nil (λk hR=>?_)<;>(conv=>whnf)
  · exact whd
  · repeat'((first|refine aw0 ?_|refine awx ?_|exact rr|refine And.intro rfl ?_|refine AB.mk (λh=>?_) (λh=>?_))<;>conv=>whnf)
    · have hlt:k<l.length:=ari
      (refine AWP.drawK ah 6 8 mf mw Mp Mp Mp rfl ?_;conv=>whnf)
      repeat'((first|refine aw0 ?_|refine awx ?_|refine AIx.map hlt ?_|refine cP (BY _ (hs.2 _ (List.getElem_mem hlt))) ?_|refine AW.i64 ari ari ?_|exact rr|refine And.intro rfl ?_|refine AB.mk (λh=>?_) (λh=>?_))<;>conv=>whnf)
      refine aB.mk ⟨k+1,hlt,by omega,?_,ak.nil⟩
      exact hds
theorem yD(x:DLink):aj av 209 [.agg x.ds,.agg x.ds] (rB true):=by
  refine ae ah func209 rfl call209 ntmps209 (MC results209) λS=>?_;conv=>whnf
  have h1:=neI x.a
  have h2:=neI x.b
  repeat'((first|refine aw0 ?_|refine awx ?_|exact rr|refine And.intro rfl ?_|refine AB.mk (λh=>?_) (λh=>?_))<;>conv=>whnf)
theorem CT(l:(List DLink))(hs:l.length<=1048576):aj av 108 [.one (.sl (l.map DLink.ds)),.one (.sl (l.map DLink.ds))] (rB true):=by
  have hl:l.length<=1048576:=hs
  refine ae ah func108 rfl call108 ntmps108 (MC results108) λS=>?_;conv=>whnf
  have h0:(((l.map DLink.ds).length:Int) !=((l.map DLink.ds).length:Int))=false:=neI _
  repeat'((first|refine aw0 ?_|refine awx ?_|exact rr|refine And.intro rfl ?_|refine AB.mk (λh=>?_) (λh=>?_))<;>conv=>whnf)
  refine AWP.loopS (λk:Nat=>k<=l.length) [4,5,11,12,13,14,15,16,17,18,19,20,21,22,23,24,25,26] (λk=>[(5,vI .i64 (k:Int))]) (λk=>[]) (λk=>l.length-k) 0 Mo ?_ ak.nil (λk hR=>?_)<;>(conv=>whnf)
  · exact whd
  · repeat'((first|refine aw0 ?_|refine awx ?_|exact rr|refine And.intro rfl ?_|refine AB.mk (λh=>?_) (λh=>?_))<;>conv=>whnf)
    · have hlt:k<l.length:=ari
      (refine AWP.drawK ah 6 8 kW lu Mp Mp Mp rfl ?_;conv=>whnf)
      repeat'((first|refine aw0 ?_|refine awx ?_|refine AIx.map hlt ?_|refine cP (yD _) ?_|refine AW.i64 ari ari ?_|exact rr|refine And.intro rfl ?_|refine AB.mk (λh=>?_) (λh=>?_))<;>conv=>whnf)
      refine aB.mk ⟨k+1,hlt,by omega,?_,ak.nil⟩
      exact hds
theorem FM(x:DNet)(hs:DNet.small 1048576 x):aj av 41 [.agg x.ds,.agg x.ds] (rB true):=by
  refine ae ah func41 rfl call41 ntmps41 (MC results41) λS=>?_;conv=>whnf
  repeat'((first|refine aw0 ?_|refine awx ?_|refine aa.pure (Eq x.flight ⟨hs.1,hs.2.1⟩) rfl ?_|refine aa.pure (CT x.cuts hs.2.2) rfl ?_|exact rr|refine And.intro rfl ?_|refine AB.mk (λh=>?_) (λh=>?_))<;>conv=>whnf)
theorem CR(l:(List Bool))(hs:l.length<=1048576):aj av 43 [.one (.sl (l.map eB)),.one (.sl (l.map eB))] (rB true):=by
  have hl:l.length<=1048576:=hs
  refine ae ah func43 rfl call43 ntmps43 (MC results43) λS=>?_;conv=>whnf
  have h0:(((l.map eB).length:Int) !=((l.map eB).length:Int))=false:=neI _
  repeat'((first|refine aw0 ?_|refine awx ?_|exact rr|refine And.intro rfl ?_|refine AB.mk (λh=>?_) (λh=>?_))<;>conv=>whnf)
  refine AWP.loopS (λk:Nat=>k<=l.length) [4,5,11,12,13,14,15,16,17,18,19,20,21,22,23,24,25] (λk=>[(5,vI .i64 (k:Int))]) (λk=>[]) (λk=>l.length-k) 0 Mo ?_ ak.nil (λk hR=>?_)<;>(conv=>whnf)
  · exact whd
  · repeat'((first|refine aw0 ?_|refine awx ?_|exact rr|refine And.intro rfl ?_|refine AB.mk (λh=>?_) (λh=>?_))<;>conv=>whnf)
    · have hlt:k<l.length:=ari
      have hne:(!(l[k]==l[k]))=false:=neB _
      (refine AWP.drawK ah 6 8 kV lr Mp Mp Mp rfl ?_;conv=>whnf)
      repeat'((first|refine aw0 ?_|refine awx ?_|refine AIx.map hlt ?_|refine AW.i64 ari ari ?_|exact rr|refine And.intro rfl ?_|refine AB.mk (λh=>?_) (λh=>?_))<;>conv=>whnf)
      refine aB.mk ⟨k+1,hlt,by omega,?_,ak.nil⟩
      exact hds
theorem vG(x:DWorld)(hs:DWorld.small 1048576 x):aj av 8 [.agg x.ds,.agg x.ds] (rB true):=by
  refine ae ah func8 rfl call8 ntmps8 (MC results8) λS=>?_;conv=>whnf
  repeat'((first|refine aw0 ?_|refine awx ?_|refine aa.pure (yE x.log hs.1) rfl ?_|refine aa.pure (CW x.store hs.2.1) rfl ?_|refine aa.pure (vF x.left hs.2.2.1) rfl ?_|refine aa.pure (vF x.right hs.2.2.2.1) rfl ?_|refine aa.pure (sT x.ann hs.2.2.2.2.1) rfl ?_|refine aa.pure (sT x.bob hs.2.2.2.2.2.1) rfl ?_|refine aa.pure (FM x.net hs.2.2.2.2.2.2.1) rfl ?_|refine aa.pure (gA x.clocks hs.2.2.2.2.2.2.2.1) rfl ?_|refine aa.pure (CR x.up hs.2.2.2.2.2.2.2.2) rfl ?_|exact rr|refine And.intro rfl ?_|refine AB.mk (λh=>?_) (λh=>?_))<;>conv=>whnf)
end Go.Proofs.YtehobfglmeiglaaGreatDoor
namespace Go.Proofs.YtehobfglmeiglaaGreatDoor
open Go.Proofs.Tryz
open Go.ChangeShapes Go.WideShapes Go.RowKit
theorem bX{a b:Int}(h:a=b):AP.val (.one (dI a))=rI b:=by rw[h]
theorem aa.sz{E:aO}{S:ba}{f:FuncId}{args:List AV}{st:ASt}{K:AV->ASt->Prop}{p:AP1}{left a:Int}(hc:aj E f [p,pI left] (rI (max (left-a) (-1))))(hps:aPs args (· =[p,pI left]))
    (h1:decide (left-a<0)=true->K (vI .i64 (-1)) st) (h2:decide (left-a<0)=false->K (vI .i64 (left-a)) st):aa E S f args st K:=by
  refine aa.pure hc hps ?_
  cases h:decide (left-a<0)with
  |true=>
    have e:max (left-a) (-1)= -1:=by simp only[decide_eq_true_eq]at h;omega
    rw[e];exact h1 h
  |false=>
    have e:max (left-a) (-1)=left-a:=by simp only[decide_eq_false_iff_not]at h;omega
    rw[e];exact h2 h
def fp{α:Type}(f:α->Nat):List α->Nat
  |[]=>0
  |x::r=>1+f x+fp f r
theorem fK{α:Type}(f:α->Nat):∀l:List α,l.length<=fp f l
  |[]=>Nat.le_refl _
  |x::r=>by have:=fK f r;simp only[List.length_cons,fp];omega
theorem o6{α:Type}{f:α->Nat}:∀{l:List α} {y:α},y∈l->f y<=fp f l
  |x::r,y,h=>by
    rcases List.mem_cons.1 h with rfl|h
    · simp only[fp];omega
    · have:=o6 (f:=f) h;simp only[fp];omega
theorem fq{α:Type}(f:α->Nat):∀(l:List α) (k:Nat),(l.length:Int)-(l.take k).length+fp f (l.take k)<=fp f l
  |[],k=>by simp[fp]
  |x::r,0=>by have:=fK f (x::r);simp[fp]at*;omega
  |x::r,k+1=>by have:=fq f r k;simp only[List.take_succ_cons,List.length_cons,fp]at*;omega
theorem mX{α:Type}(f:α->Nat):∀(l:List α) (k:Nat) (h:k<l.length),fp f (l.take (k+1))=fp f (l.take k)+1+f l[k]
  |x::r,0,h=>by simp[fp]
  |x::r,k+1,h=>by
    have:=mX f r k (by simpa using h)
    simp only[List.take_succ_cons,fp,List.getElem_cons_succ]at*
    omega
def DWrite.cnt(x:DWrite):Nat:=x.row.length
theorem DWrite.cnt_small{x:DWrite}{n:Nat}(h:x.cnt<=n):DWrite.small n x:=by
  unfold DWrite.cnt at h
  unfold DWrite.small
  exact Mo
def DDisk.cnt(x:DDisk):Nat:=fp (λl=>l.length) x.kept+fp DWrite.cnt x.wait
theorem DDisk.cnt_small{x:DDisk}{n:Nat}(h:x.cnt<=n):DDisk.small n x:=by
  unfold DDisk.cnt at h
  unfold DDisk.small
  exact⟨(by have:=fK (λl=>l.length) x.kept;omega),(λy hy=>(by have:y.length<=_:=o6 (f:=(λl=>l.length)) hy;omega)),(by have:=fK DWrite.cnt x.wait;omega),(λy hy=>DWrite.cnt_small (by have:=o6 (f:=DWrite.cnt) hy;omega))⟩
def DTwo.cnt(x:DTwo):Nat:=DDisk.cnt x.a+DDisk.cnt x.b
theorem DTwo.cnt_small{x:DTwo}{n:Nat}(h:x.cnt<=n):DTwo.small n x:=by
  unfold DTwo.cnt at h
  unfold DTwo.small
  exact⟨(DDisk.cnt_small Mo),(DDisk.cnt_small Mo)⟩
def DHead.cnt(x:DHead):Nat:=x.seen.length
theorem DHead.cnt_small{x:DHead}{n:Nat}(h:x.cnt<=n):DHead.small n x:=by
  unfold DHead.cnt at h
  unfold DHead.small
  exact Mo
def DBook.cnt(x:DBook):Nat:=x.entries.length
theorem DBook.cnt_small{x:DBook}{n:Nat}(h:x.cnt<=n):DBook.small n x:=by
  unfold DBook.cnt at h
  unfold DBook.small
  exact Mo
def DLogNode.cnt(x:DLogNode):Nat:=DTwo.cnt x.two+DHead.cnt x.head+DHead.cnt x.nxt+DBook.cnt x.book+x.seen.length+x.owe.length
theorem DLogNode.cnt_small{x:DLogNode}{n:Nat}(h:x.cnt<=n):DLogNode.small n x:=by
  unfold DLogNode.cnt at h
  unfold DLogNode.small
  exact⟨(DTwo.cnt_small Mo),(DHead.cnt_small Mo),(DHead.cnt_small Mo),(DBook.cnt_small Mo),Mo,Mo⟩
def DState.cnt(x:DState):Nat:=x.pairs.length+x.jobs.length
theorem DState.cnt_small{x:DState}{n:Nat}(h:x.cnt<=n):DState.small n x:=by
  unfold DState.cnt at h
  unfold DState.small
  exact⟨Mo,Mo⟩
def DStore.cnt(x:DStore):Nat:=DDisk.cnt x.disk+DState.cnt x.state
theorem DStore.cnt_small{x:DStore}{n:Nat}(h:x.cnt<=n):DStore.small n x:=by
  unfold DStore.cnt at h
  unfold DStore.small
  exact⟨(DDisk.cnt_small Mo),(DState.cnt_small Mo)⟩
def DJobs.cnt(x:DJobs):Nat:=x.opens.length
theorem DJobs.cnt_small{x:DJobs}{n:Nat}(h:x.cnt<=n):DJobs.small n x:=by
  unfold DJobs.cnt at h
  unfold DJobs.small
  exact Mo
def DView.cnt(x:DView):Nat:=DJobs.cnt x.jobs
theorem DView.cnt_small{x:DView}{n:Nat}(h:x.cnt<=n):DView.small n x:=by
  unfold DView.cnt at h
  unfold DView.small
  exact(DJobs.cnt_small Mo)
def DSched.cnt(x:DSched):Nat:=DView.cnt x.view
theorem DSched.cnt_small{x:DSched}{n:Nat}(h:x.cnt<=n):DSched.small n x:=by
  unfold DSched.cnt at h
  unfold DSched.small
  exact(DView.cnt_small Mo)
def DClient.cnt(x:DClient):Nat:=x.todo.length+x.gots.length
theorem DClient.cnt_small{x:DClient}{n:Nat}(h:x.cnt<=n):DClient.small n x:=by
  unfold DClient.cnt at h
  unfold DClient.small
  exact⟨Mo,Mo⟩
def DMsg.cnt(x:DMsg):Nat:=x.row.length
theorem DMsg.cnt_small{x:DMsg}{n:Nat}(h:x.cnt<=n):DMsg.small n x:=by
  unfold DMsg.cnt at h
  unfold DMsg.small
  exact Mo
def DNet.cnt(x:DNet):Nat:=fp DMsg.cnt x.flight+x.cuts.length
theorem DNet.cnt_small{x:DNet}{n:Nat}(h:x.cnt<=n):DNet.small n x:=by
  unfold DNet.cnt at h
  unfold DNet.small
  exact⟨(by have:=fK DMsg.cnt x.flight;omega),(λy hy=>DMsg.cnt_small (by have:=o6 (f:=DMsg.cnt) hy;omega)),Mo⟩
def DWorld.cnt(x:DWorld):Nat:=DLogNode.cnt x.log+DStore.cnt x.store+DSched.cnt x.left+DSched.cnt x.right+DClient.cnt x.ann+DClient.cnt x.bob+DNet.cnt x.net+x.clocks.length+x.up.length
theorem DWorld.cnt_small{x:DWorld}{n:Nat}(h:x.cnt<=n):DWorld.small n x:=by
  unfold DWorld.cnt at h
  unfold DWorld.small
  exact⟨(DLogNode.cnt_small Mo),(DStore.cnt_small Mo),(DSched.cnt_small Mo),(DSched.cnt_small Mo),(DClient.cnt_small Mo),(DClient.cnt_small Mo),(DNet.cnt_small Mo),Mo,Mo⟩
theorem km(l:(List Int))(left:Int)(h0:0<=left)(h1:left<=1048576)(hs:l.length<=9223372036854775807):aj av 14 [.one (.sl (l.map eI)),pI left] (rI (max (left-l.length) (-1))):=by
  refine ae ah func14 rfl call14 ntmps14 (MC results14) λS=>?_;conv=>whnf
  repeat'((first|refine aw0 ?_|refine awx ?_|refine AW.i64 (n:=_-_) Ms Ms ?_|exact rr|refine And.intro rfl ?_|refine AB.mk (λh=>?_) (λh=>?_))<;>conv=>whnf)
  all_goals
    refine bX ?_
    simp only[decide_eq_true_eq,decide_eq_false_iff_not,List.length_map]at*
    omega
theorem zV(l:(List (List Int)))(left:Int)(h0:0<=left)(h1:left<=1048576)(hs:l.length<=9223372036854775807/\∀y∈l,y.length<=9223372036854775807):aj av 110 [.one (.sl (l.map fW)),pI left] (rI (max (left-fp (λl=>l.length) l) (-1))):=by
  refine ae ah func110 rfl call110 ntmps110 (MC results110) λS=>?_;conv=>whnf
  have hlen:=hs.1
  have hcl:=fK (λl=>l.length) l
  repeat'((first|refine aw0 ?_|refine awx ?_|refine AW.i64 (n:=_-_) Ms Ms ?_|exact rr|refine And.intro rfl ?_|refine AB.mk (λh=>?_) (λh=>?_))<;>conv=>whnf)
  · refine bX ?_
    simp only[decide_eq_true_eq,decide_eq_false_iff_not,List.length_map]at*
    omega
  refine AWP.loopS (λp:Nat×Int=>p.1<=l.length/\0<=p.2/\p.2=left-l.length+(p.1:Int)-fp (λl=>l.length) (l.take p.1)) [1,4,5,12,13,14,15,16,17,18,19,20,21,22,23,24,25] (λp=>[(1,vI .i64 p.2),(5,vI .i64 (p.1:Int))]) (λ_=>[]) (λp=>l.length-p.1) (0,left-((l.map fW).length:Int)) ⟨by simp,Ms,by simp[fp]⟩ ?_ ak.nil (λp hR=>?_)<;>(conv=>whnf)
  · exact whd
  · obtain⟨k,v⟩:=p
    obtain⟨hk,hv,he⟩:=hR
    simp only at hk hv he
    have htk:=fq (λl=>l.length) l k
    have htl:(l.take k).length=k:=by simp;omega
    repeat'((first|refine aw0 ?_|refine awx ?_|refine AIx.mapF Ms (λhlt=>?_)|refine aa.pure (km _ _ hv Ms (hs.2 _ (List.getElem_mem hlt))) rfl ?_|refine AW.i64 Ms Ms ?_|exact rr|refine And.intro rfl ?_|refine AB.mk (λh=>?_) (λh=>?_))<;>conv=>whnf)
    all_goals first
      | (have hsu := mX (fun l => l.length) l k hlt
         have htk:=fq (λl=>l.length) l (k+1)
         have htl:(l.take (k+1)).length=k+1:=by simp;omega
         simp only[decide_eq_true_eq,decide_eq_false_iff_not,List.length_map]at*
         first
           |(refine bX ?_;omega)
           |(refine aB.mk ⟨(k+1,max (v-((l[k].length:Nat):Int)) (-1)),⟨by simp only;omega,by simp only;omega,by simp only;omega⟩,by simp only;omega,?_,ak.nil⟩;exact hds))
      | (have hkk : k = l.length := Ms
         subst hkk
         refine bX ?_
         rw[List.take_length]at he
         omega)
set_option maxHeartbeats 2000000 in
theorem Dz(x:DWrite)(left:Int)(h0:0<=left)(h1:left<=1048576)(hs:DWrite.small 9223372036854775807 x):aj av 210 [.agg x.ds,pI left] (rI (max (left-x.cnt) (-1))):=by
  refine ae ah func210 rfl call210 ntmps210 (MC results210) λS=>?_;conv=>whnf
  repeat'(first|((first|refine aw0 ?_|refine awx ?_)<;>conv=>whnf)|(refine aa.sz (km x.row _ Ms Ms hs) rfl (λh=>?_) (λh=>?_)<;>(conv=>whnf))|((first|exact rr|refine And.intro rfl ?_|refine AB.mk (λh=>?_) (λh=>?_))<;>conv=>whnf))
  all_goals
    refine bX ?_
    first
      |omega
      |(simp only[decide_eq_true_eq,decide_eq_false_iff_not,DWrite.cnt]at* <;>omega)
theorem BA(l:(List DWrite))(left:Int)(h0:0<=left)(h1:left<=1048576)(hs:l.length<=9223372036854775807/\∀y∈l,DWrite.small 9223372036854775807 y):aj av 111 [.one (.sl (l.map DWrite.ds)),pI left] (rI (max (left-fp DWrite.cnt l) (-1))):=by
  refine ae ah func111 rfl call111 ntmps111 (MC results111) λS=>?_;conv=>whnf
  have hlen:=hs.1
  have hcl:=fK DWrite.cnt l
  repeat'((first|refine aw0 ?_|refine awx ?_|refine AW.i64 (n:=_-_) Ms Ms ?_|exact rr|refine And.intro rfl ?_|refine AB.mk (λh=>?_) (λh=>?_))<;>conv=>whnf)
  · refine bX ?_
    simp only[decide_eq_true_eq,decide_eq_false_iff_not,List.length_map]at*
    omega
  refine AWP.loopS (λp:Nat×Int=>p.1<=l.length/\0<=p.2/\p.2=left-l.length+(p.1:Int)-fp DWrite.cnt (l.take p.1)) [1,4,5,12,13,14,15,16,17,18,19,20,21,22,23,24,25] (λp=>[(1,vI .i64 p.2),(5,vI .i64 (p.1:Int))]) (λ_=>[]) (λp=>l.length-p.1) (0,left-((l.map DWrite.ds).length:Int)) ⟨by simp,Ms,by simp[fp]⟩ ?_ ak.nil (λp hR=>?_)<;>(conv=>whnf)
  · exact whd
  · obtain⟨k,v⟩:=p
    obtain⟨hk,hv,he⟩:=hR
    simp only at hk hv he
    have htk:=fq DWrite.cnt l k
    have htl:(l.take k).length=k:=by simp;omega
    repeat'((first|refine aw0 ?_|refine awx ?_|refine AIx.mapF Ms (λhlt=>?_)|refine aa.pure (Dz _ _ hv Ms (hs.2 _ (List.getElem_mem hlt))) rfl ?_|refine AW.i64 Ms Ms ?_|exact rr|refine And.intro rfl ?_|refine AB.mk (λh=>?_) (λh=>?_))<;>conv=>whnf)
    all_goals first
      | (have hsu := mX DWrite.cnt l k hlt
         have htk:=fq DWrite.cnt l (k+1)
         have htl:(l.take (k+1)).length=k+1:=by simp;omega
         simp only[decide_eq_true_eq,decide_eq_false_iff_not,List.length_map]at*
         first
           |(refine bX ?_;omega)
           |(refine aB.mk ⟨(k+1,max (v-((DWrite.cnt l[k]:Nat):Int)) (-1)),⟨by simp only;omega,by simp only;omega,by simp only;omega⟩,by simp only;omega,?_,ak.nil⟩;exact hds))
      | (have hkk : k = l.length := Ms
         subst hkk
         refine bX ?_
         rw[List.take_length]at he
         omega)
set_option maxHeartbeats 2000000 in
theorem uA(x:DDisk)(left:Int)(h0:0<=left)(h1:left<=1048576)(hs:DDisk.small 9223372036854775807 x):aj av 49 [.agg x.ds,pI left] (rI (max (left-x.cnt) (-1))):=by
  refine ae ah func49 rfl call49 ntmps49 (MC results49) λS=>?_;conv=>whnf
  repeat'(first|((first|refine aw0 ?_|refine awx ?_)<;>conv=>whnf)|(refine aa.sz (zV x.kept _ Ms Ms ⟨hs.1,hs.2.1⟩) rfl (λh=>?_) (λh=>?_)<;>(conv=>whnf))|(refine aa.sz (BA x.wait _ Ms Ms ⟨hs.2.2.1,hs.2.2.2⟩) rfl (λh=>?_) (λh=>?_)<;>(conv=>whnf))|((first|exact rr|refine And.intro rfl ?_|refine AB.mk (λh=>?_) (λh=>?_))<;>conv=>whnf))
  all_goals
    refine bX ?_
    first
      |omega
      |(simp only[decide_eq_true_eq,decide_eq_false_iff_not,DDisk.cnt]at* <;>omega)
set_option maxHeartbeats 2000000 in
theorem Gx(x:DTwo)(left:Int)(h0:0<=left)(h1:left<=1048576)(hs:DTwo.small 9223372036854775807 x):aj av 44 [.agg x.ds,pI left] (rI (max (left-x.cnt) (-1))):=by
  refine ae ah func44 rfl call44 ntmps44 (MC results44) λS=>?_;conv=>whnf
  repeat'(first|((first|refine aw0 ?_|refine awx ?_)<;>conv=>whnf)|(refine aa.sz (uA x.a _ Ms Ms hs.1) rfl (λh=>?_) (λh=>?_)<;>(conv=>whnf))|(refine aa.sz (uA x.b _ Ms Ms hs.2) rfl (λh=>?_) (λh=>?_)<;>(conv=>whnf))|((first|exact rr|refine And.intro rfl ?_|refine AB.mk (λh=>?_) (λh=>?_))<;>conv=>whnf))
  all_goals
    refine bX ?_
    first
      |omega
      |(simp only[decide_eq_true_eq,decide_eq_false_iff_not,DTwo.cnt]at* <;>omega)
theorem wM(l:(List DMark))(left:Int)(h0:0<=left)(h1:left<=1048576)(hs:l.length<=9223372036854775807):aj av 47 [.one (.sl (l.map DMark.ds)),pI left] (rI (max (left-l.length) (-1))):=by
  refine ae ah func47 rfl call47 ntmps47 (MC results47) λS=>?_;conv=>whnf
  repeat'((first|refine aw0 ?_|refine awx ?_|refine AW.i64 (n:=_-_) Ms Ms ?_|exact rr|refine And.intro rfl ?_|refine AB.mk (λh=>?_) (λh=>?_))<;>conv=>whnf)
  all_goals
    refine bX ?_
    simp only[decide_eq_true_eq,decide_eq_false_iff_not,List.length_map]at*
    omega
set_option maxHeartbeats 2000000 in
theorem zU(x:DHead)(left:Int)(h0:0<=left)(h1:left<=1048576)(hs:DHead.small 9223372036854775807 x):aj av 45 [.agg x.ds,pI left] (rI (max (left-x.cnt) (-1))):=by
  refine ae ah func45 rfl call45 ntmps45 (MC results45) λS=>?_;conv=>whnf
  repeat'(first|((first|refine aw0 ?_|refine awx ?_)<;>conv=>whnf)|(refine aa.sz (wM x.seen _ Ms Ms hs) rfl (λh=>?_) (λh=>?_)<;>(conv=>whnf))|((first|exact rr|refine And.intro rfl ?_|refine AB.mk (λh=>?_) (λh=>?_))<;>conv=>whnf))
  all_goals
    refine bX ?_
    first
      |omega
      |(simp only[decide_eq_true_eq,decide_eq_false_iff_not,DHead.cnt]at* <;>omega)
theorem Bz(l:(List DEntry))(left:Int)(h0:0<=left)(h1:left<=1048576)(hs:l.length<=9223372036854775807):aj av 109 [.one (.sl (l.map DEntry.ds)),pI left] (rI (max (left-l.length) (-1))):=by
  refine ae ah func109 rfl call109 ntmps109 (MC results109) λS=>?_;conv=>whnf
  repeat'((first|refine aw0 ?_|refine awx ?_|refine AW.i64 (n:=_-_) Ms Ms ?_|exact rr|refine And.intro rfl ?_|refine AB.mk (λh=>?_) (λh=>?_))<;>conv=>whnf)
  all_goals
    refine bX ?_
    simp only[decide_eq_true_eq,decide_eq_false_iff_not,List.length_map]at*
    omega
set_option maxHeartbeats 2000000 in
theorem Fg(x:DBook)(left:Int)(h0:0<=left)(h1:left<=1048576)(hs:DBook.small 9223372036854775807 x):aj av 46 [.agg x.ds,pI left] (rI (max (left-x.cnt) (-1))):=by
  refine ae ah func46 rfl call46 ntmps46 (MC results46) λS=>?_;conv=>whnf
  repeat'(first|((first|refine aw0 ?_|refine awx ?_)<;>conv=>whnf)|(refine aa.sz (Bz x.entries _ Ms Ms hs) rfl (λh=>?_) (λh=>?_)<;>(conv=>whnf))|((first|exact rr|refine And.intro rfl ?_|refine AB.mk (λh=>?_) (λh=>?_))<;>conv=>whnf))
  all_goals
    refine bX ?_
    first
      |omega
      |(simp only[decide_eq_true_eq,decide_eq_false_iff_not,DBook.cnt]at* <;>omega)
theorem Ff(l:(List DAck))(left:Int)(h0:0<=left)(h1:left<=1048576)(hs:l.length<=9223372036854775807):aj av 48 [.one (.sl (l.map DAck.ds)),pI left] (rI (max (left-l.length) (-1))):=by
  refine ae ah func48 rfl call48 ntmps48 (MC results48) λS=>?_;conv=>whnf
  repeat'((first|refine aw0 ?_|refine awx ?_|refine AW.i64 (n:=_-_) Ms Ms ?_|exact rr|refine And.intro rfl ?_|refine AB.mk (λh=>?_) (λh=>?_))<;>conv=>whnf)
  all_goals
    refine bX ?_
    simp only[decide_eq_true_eq,decide_eq_false_iff_not,List.length_map]at*
    omega
set_option maxHeartbeats 2000000 in
theorem zW(x:DLogNode)(left:Int)(h0:0<=left)(h1:left<=1048576)(hs:DLogNode.small 9223372036854775807 x):aj av 9 [.agg x.ds,pI left] (rI (max (left-x.cnt) (-1))):=by
  refine ae ah func9 rfl call9 ntmps9 (MC results9) λS=>?_;conv=>whnf
  repeat'(first|((first|refine aw0 ?_|refine awx ?_)<;>conv=>whnf)|(refine aa.sz (Gx x.two _ Ms Ms hs.1) rfl (λh=>?_) (λh=>?_)<;>(conv=>whnf))|(refine aa.sz (zU x.head _ Ms Ms hs.2.1) rfl (λh=>?_) (λh=>?_)<;>(conv=>whnf))|(refine aa.sz (zU x.nxt _ Ms Ms hs.2.2.1) rfl (λh=>?_) (λh=>?_)<;>(conv=>whnf))|(refine aa.sz (Fg x.book _ Ms Ms hs.2.2.2.1) rfl (λh=>?_) (λh=>?_)<;>(conv=>whnf))|(refine aa.sz (wM x.seen _ Ms Ms hs.2.2.2.2.1) rfl (λh=>?_) (λh=>?_)<;>(conv=>whnf))|(refine aa.sz (Ff x.owe _ Ms Ms hs.2.2.2.2.2) rfl (λh=>?_) (λh=>?_)<;>(conv=>whnf))|((first|exact rr|refine And.intro rfl ?_|refine AB.mk (λh=>?_) (λh=>?_))<;>conv=>whnf))
  all_goals
    refine bX ?_
    first
      |omega
      |(simp only[decide_eq_true_eq,decide_eq_false_iff_not,DLogNode.cnt]at* <;>omega)
theorem Dv(l:(List DPair))(left:Int)(h0:0<=left)(h1:left<=1048576)(hs:l.length<=9223372036854775807):aj av 112 [.one (.sl (l.map DPair.ds)),pI left] (rI (max (left-l.length) (-1))):=by
  refine ae ah func112 rfl call112 ntmps112 (MC results112) λS=>?_;conv=>whnf
  repeat'((first|refine aw0 ?_|refine awx ?_|refine AW.i64 (n:=_-_) Ms Ms ?_|exact rr|refine And.intro rfl ?_|refine AB.mk (λh=>?_) (λh=>?_))<;>conv=>whnf)
  all_goals
    refine bX ?_
    simp only[decide_eq_true_eq,decide_eq_false_iff_not,List.length_map]at*
    omega
theorem Fj(l:(List DJob))(left:Int)(h0:0<=left)(h1:left<=1048576)(hs:l.length<=9223372036854775807):aj av 113 [.one (.sl (l.map DJob.ds)),pI left] (rI (max (left-l.length) (-1))):=by
  refine ae ah func113 rfl call113 ntmps113 (MC results113) λS=>?_;conv=>whnf
  repeat'((first|refine aw0 ?_|refine awx ?_|refine AW.i64 (n:=_-_) Ms Ms ?_|exact rr|refine And.intro rfl ?_|refine AB.mk (λh=>?_) (λh=>?_))<;>conv=>whnf)
  all_goals
    refine bX ?_
    simp only[decide_eq_true_eq,decide_eq_false_iff_not,List.length_map]at*
    omega
set_option maxHeartbeats 2000000 in
theorem Dw(x:DState)(left:Int)(h0:0<=left)(h1:left<=1048576)(hs:DState.small 9223372036854775807 x):aj av 50 [.agg x.ds,pI left] (rI (max (left-x.cnt) (-1))):=by
  refine ae ah func50 rfl call50 ntmps50 (MC results50) λS=>?_;conv=>whnf
  repeat'(first|((first|refine aw0 ?_|refine awx ?_)<;>conv=>whnf)|(refine aa.sz (Dv x.pairs _ Ms Ms hs.1) rfl (λh=>?_) (λh=>?_)<;>(conv=>whnf))|(refine aa.sz (Fj x.jobs _ Ms Ms hs.2) rfl (λh=>?_) (λh=>?_)<;>(conv=>whnf))|((first|exact rr|refine And.intro rfl ?_|refine AB.mk (λh=>?_) (λh=>?_))<;>conv=>whnf))
  all_goals
    refine bX ?_
    first
      |omega
      |(simp only[decide_eq_true_eq,decide_eq_false_iff_not,DState.cnt]at* <;>omega)
set_option maxHeartbeats 2000000 in
theorem Dx(x:DStore)(left:Int)(h0:0<=left)(h1:left<=1048576)(hs:DStore.small 9223372036854775807 x):aj av 10 [.agg x.ds,pI left] (rI (max (left-x.cnt) (-1))):=by
  refine ae ah func10 rfl call10 ntmps10 (MC results10) λS=>?_;conv=>whnf
  repeat'(first|((first|refine aw0 ?_|refine awx ?_)<;>conv=>whnf)|(refine aa.sz (uA x.disk _ Ms Ms hs.1) rfl (λh=>?_) (λh=>?_)<;>(conv=>whnf))|(refine aa.sz (Dw x.state _ Ms Ms hs.2) rfl (λh=>?_) (λh=>?_)<;>(conv=>whnf))|((first|exact rr|refine And.intro rfl ?_|refine AB.mk (λh=>?_) (λh=>?_))<;>conv=>whnf))
  all_goals
    refine bX ?_
    first
      |omega
      |(simp only[decide_eq_true_eq,decide_eq_false_iff_not,DStore.cnt]at* <;>omega)
theorem Fh(l:(List DDue))(left:Int)(h0:0<=left)(h1:left<=1048576)(hs:l.length<=9223372036854775807):aj av 211 [.one (.sl (l.map DDue.ds)),pI left] (rI (max (left-l.length) (-1))):=by
  refine ae ah func211 rfl call211 ntmps211 (MC results211) λS=>?_;conv=>whnf
  repeat'((first|refine aw0 ?_|refine awx ?_|refine AW.i64 (n:=_-_) Ms Ms ?_|exact rr|refine And.intro rfl ?_|refine AB.mk (λh=>?_) (λh=>?_))<;>conv=>whnf)
  all_goals
    refine bX ?_
    simp only[decide_eq_true_eq,decide_eq_false_iff_not,List.length_map]at*
    omega
set_option maxHeartbeats 2000000 in
theorem Fk(x:DJobs)(left:Int)(h0:0<=left)(h1:left<=1048576)(hs:DJobs.small 9223372036854775807 x):aj av 114 [.agg x.ds,pI left] (rI (max (left-x.cnt) (-1))):=by
  refine ae ah func114 rfl call114 ntmps114 (MC results114) λS=>?_;conv=>whnf
  repeat'(first|((first|refine aw0 ?_|refine awx ?_)<;>conv=>whnf)|(refine aa.sz (Fh x.opens _ Ms Ms hs) rfl (λh=>?_) (λh=>?_)<;>(conv=>whnf))|((first|exact rr|refine And.intro rfl ?_|refine AB.mk (λh=>?_) (λh=>?_))<;>conv=>whnf))
  all_goals
    refine bX ?_
    first
      |omega
      |(simp only[decide_eq_true_eq,decide_eq_false_iff_not,DJobs.cnt]at* <;>omega)
set_option maxHeartbeats 2000000 in
theorem Fm(x:DView)(left:Int)(h0:0<=left)(h1:left<=1048576)(hs:DView.small 9223372036854775807 x):aj av 51 [.agg x.ds,pI left] (rI (max (left-x.cnt) (-1))):=by
  refine ae ah func51 rfl call51 ntmps51 (MC results51) λS=>?_;conv=>whnf
  repeat'(first|((first|refine aw0 ?_|refine awx ?_)<;>conv=>whnf)|(refine aa.sz (Fk x.jobs _ Ms Ms hs) rfl (λh=>?_) (λh=>?_)<;>(conv=>whnf))|((first|exact rr|refine And.intro rfl ?_|refine AB.mk (λh=>?_) (λh=>?_))<;>conv=>whnf))
  all_goals
    refine bX ?_
    first
      |omega
      |(simp only[decide_eq_true_eq,decide_eq_false_iff_not,DView.cnt]at* <;>omega)
set_option maxHeartbeats 2000000 in
theorem wN(x:DSched)(left:Int)(h0:0<=left)(h1:left<=1048576)(hs:DSched.small 9223372036854775807 x):aj av 11 [.agg x.ds,pI left] (rI (max (left-x.cnt) (-1))):=by
  refine ae ah func11 rfl call11 ntmps11 (MC results11) λS=>?_;conv=>whnf
  repeat'(first|((first|refine aw0 ?_|refine awx ?_)<;>conv=>whnf)|(refine aa.sz (Fm x.view _ Ms Ms hs) rfl (λh=>?_) (λh=>?_)<;>(conv=>whnf))|((first|exact rr|refine And.intro rfl ?_|refine AB.mk (λh=>?_) (λh=>?_))<;>conv=>whnf))
  all_goals
    refine bX ?_
    first
      |omega
      |(simp only[decide_eq_true_eq,decide_eq_false_iff_not,DSched.cnt]at* <;>omega)
theorem Dy(l:(List DWant))(left:Int)(h0:0<=left)(h1:left<=1048576)(hs:l.length<=9223372036854775807):aj av 52 [.one (.sl (l.map DWant.ds)),pI left] (rI (max (left-l.length) (-1))):=by
  refine ae ah func52 rfl call52 ntmps52 (MC results52) λS=>?_;conv=>whnf
  repeat'((first|refine aw0 ?_|refine awx ?_|refine AW.i64 (n:=_-_) Ms Ms ?_|exact rr|refine And.intro rfl ?_|refine AB.mk (λh=>?_) (λh=>?_))<;>conv=>whnf)
  all_goals
    refine bX ?_
    simp only[decide_eq_true_eq,decide_eq_false_iff_not,List.length_map]at*
    omega
theorem Fi(l:(List DGot))(left:Int)(h0:0<=left)(h1:left<=1048576)(hs:l.length<=9223372036854775807):aj av 53 [.one (.sl (l.map DGot.ds)),pI left] (rI (max (left-l.length) (-1))):=by
  refine ae ah func53 rfl call53 ntmps53 (MC results53) λS=>?_;conv=>whnf
  repeat'((first|refine aw0 ?_|refine awx ?_|refine AW.i64 (n:=_-_) Ms Ms ?_|exact rr|refine And.intro rfl ?_|refine AB.mk (λh=>?_) (λh=>?_))<;>conv=>whnf)
  all_goals
    refine bX ?_
    simp only[decide_eq_true_eq,decide_eq_false_iff_not,List.length_map]at*
    omega
set_option maxHeartbeats 2000000 in
theorem uz(x:DClient)(left:Int)(h0:0<=left)(h1:left<=1048576)(hs:DClient.small 9223372036854775807 x):aj av 12 [.agg x.ds,pI left] (rI (max (left-x.cnt) (-1))):=by
  refine ae ah func12 rfl call12 ntmps12 (MC results12) λS=>?_;conv=>whnf
  repeat'(first|((first|refine aw0 ?_|refine awx ?_)<;>conv=>whnf)|(refine aa.sz (Dy x.todo _ Ms Ms hs.1) rfl (λh=>?_) (λh=>?_)<;>(conv=>whnf))|(refine aa.sz (Fi x.gots _ Ms Ms hs.2) rfl (λh=>?_) (λh=>?_)<;>(conv=>whnf))|((first|exact rr|refine And.intro rfl ?_|refine AB.mk (λh=>?_) (λh=>?_))<;>conv=>whnf))
  all_goals
    refine bX ?_
    first
      |omega
      |(simp only[decide_eq_true_eq,decide_eq_false_iff_not,DClient.cnt]at* <;>omega)
set_option maxHeartbeats 2000000 in
theorem Gv(x:DMsg)(left:Int)(h0:0<=left)(h1:left<=1048576)(hs:DMsg.small 9223372036854775807 x):aj av 115 [.agg x.ds,pI left] (rI (max (left-x.cnt) (-1))):=by
  refine ae ah func115 rfl call115 ntmps115 (MC results115) λS=>?_;conv=>whnf
  repeat'(first|((first|refine aw0 ?_|refine awx ?_)<;>conv=>whnf)|(refine aa.sz (km x.row _ Ms Ms hs) rfl (λh=>?_) (λh=>?_)<;>(conv=>whnf))|((first|exact rr|refine And.intro rfl ?_|refine AB.mk (λh=>?_) (λh=>?_))<;>conv=>whnf))
  all_goals
    refine bX ?_
    first
      |omega
      |(simp only[decide_eq_true_eq,decide_eq_false_iff_not,DMsg.cnt]at* <;>omega)
theorem Fl(l:(List DMsg))(left:Int)(h0:0<=left)(h1:left<=1048576)(hs:l.length<=9223372036854775807/\∀y∈l,DMsg.small 9223372036854775807 y):aj av 54 [.one (.sl (l.map DMsg.ds)),pI left] (rI (max (left-fp DMsg.cnt l) (-1))):=by
  refine ae ah func54 rfl call54 ntmps54 (MC results54) λS=>?_;conv=>whnf
  have hlen:=hs.1
  have hcl:=fK DMsg.cnt l
  repeat'((first|refine aw0 ?_|refine awx ?_|refine AW.i64 (n:=_-_) Ms Ms ?_|exact rr|refine And.intro rfl ?_|refine AB.mk (λh=>?_) (λh=>?_))<;>conv=>whnf)
  · refine bX ?_
    simp only[decide_eq_true_eq,decide_eq_false_iff_not,List.length_map]at*
    omega
  refine AWP.loopS (λp:Nat×Int=>p.1<=l.length/\0<=p.2/\p.2=left-l.length+(p.1:Int)-fp DMsg.cnt (l.take p.1)) [1,4,5,12,13,14,15,16,17,18,19,20,21,22,23,24,25] (λp=>[(1,vI .i64 p.2),(5,vI .i64 (p.1:Int))]) (λ_=>[]) (λp=>l.length-p.1) (0,left-((l.map DMsg.ds).length:Int)) ⟨by simp,Ms,by simp[fp]⟩ ?_ ak.nil (λp hR=>?_)<;>(conv=>whnf)
  · exact whd
  · obtain⟨k,v⟩:=p
    obtain⟨hk,hv,he⟩:=hR
    simp only at hk hv he
    have htk:=fq DMsg.cnt l k
    have htl:(l.take k).length=k:=by simp;omega
    repeat'((first|refine aw0 ?_|refine awx ?_|refine AIx.mapF Ms (λhlt=>?_)|refine aa.pure (Gv _ _ hv Ms (hs.2 _ (List.getElem_mem hlt))) rfl ?_|refine AW.i64 Ms Ms ?_|exact rr|refine And.intro rfl ?_|refine AB.mk (λh=>?_) (λh=>?_))<;>conv=>whnf)
    all_goals first
      | (have hsu := mX DMsg.cnt l k hlt
         have htk:=fq DMsg.cnt l (k+1)
         have htl:(l.take (k+1)).length=k+1:=by simp;omega
         simp only[decide_eq_true_eq,decide_eq_false_iff_not,List.length_map]at*
         first
           |(refine bX ?_;omega)
           |(refine aB.mk ⟨(k+1,max (v-((DMsg.cnt l[k]:Nat):Int)) (-1)),⟨by simp only;omega,by simp only;omega,by simp only;omega⟩,by simp only;omega,?_,ak.nil⟩;exact hds))
      | (have hkk : k = l.length := Ms
         subst hkk
         refine bX ?_
         rw[List.take_length]at he
         omega)
theorem Du(l:(List DLink))(left:Int)(h0:0<=left)(h1:left<=1048576)(hs:l.length<=9223372036854775807):aj av 55 [.one (.sl (l.map DLink.ds)),pI left] (rI (max (left-l.length) (-1))):=by
  refine ae ah func55 rfl call55 ntmps55 (MC results55) λS=>?_;conv=>whnf
  repeat'((first|refine aw0 ?_|refine awx ?_|refine AW.i64 (n:=_-_) Ms Ms ?_|exact rr|refine And.intro rfl ?_|refine AB.mk (λh=>?_) (λh=>?_))<;>conv=>whnf)
  all_goals
    refine bX ?_
    simp only[decide_eq_true_eq,decide_eq_false_iff_not,List.length_map]at*
    omega
set_option maxHeartbeats 2000000 in
theorem Gw(x:DNet)(left:Int)(h0:0<=left)(h1:left<=1048576)(hs:DNet.small 9223372036854775807 x):aj av 13 [.agg x.ds,pI left] (rI (max (left-x.cnt) (-1))):=by
  refine ae ah func13 rfl call13 ntmps13 (MC results13) λS=>?_;conv=>whnf
  repeat'(first|((first|refine aw0 ?_|refine awx ?_)<;>conv=>whnf)|(refine aa.sz (Fl x.flight _ Ms Ms ⟨hs.1,hs.2.1⟩) rfl (λh=>?_) (λh=>?_)<;>(conv=>whnf))|(refine aa.sz (Du x.cuts _ Ms Ms hs.2.2) rfl (λh=>?_) (λh=>?_)<;>(conv=>whnf))|((first|exact rr|refine And.intro rfl ?_|refine AB.mk (λh=>?_) (λh=>?_))<;>conv=>whnf))
  all_goals
    refine bX ?_
    first
      |omega
      |(simp only[decide_eq_true_eq,decide_eq_false_iff_not,DNet.cnt]at* <;>omega)
theorem Dt(l:(List Bool))(left:Int)(h0:0<=left)(h1:left<=1048576)(hs:l.length<=9223372036854775807):aj av 15 [.one (.sl (l.map eB)),pI left] (rI (max (left-l.length) (-1))):=by
  refine ae ah func15 rfl call15 ntmps15 (MC results15) λS=>?_;conv=>whnf
  repeat'((first|refine aw0 ?_|refine awx ?_|refine AW.i64 (n:=_-_) Ms Ms ?_|exact rr|refine And.intro rfl ?_|refine AB.mk (λh=>?_) (λh=>?_))<;>conv=>whnf)
  all_goals
    refine bX ?_
    simp only[decide_eq_true_eq,decide_eq_false_iff_not,List.length_map]at*
    omega
set_option maxHeartbeats 2000000 in
theorem wO(x:DWorld)(left:Int)(h0:0<=left)(h1:left<=1048576)(hs:DWorld.small 9223372036854775807 x):aj av 4 [.agg x.ds,pI left] (rI (max (left-x.cnt) (-1))):=by
  refine ae ah func4 rfl call4 ntmps4 (MC results4) λS=>?_;conv=>whnf
  repeat'(first|((first|refine aw0 ?_|refine awx ?_)<;>conv=>whnf)|(refine aa.sz (zW x.log _ Ms Ms hs.1) rfl (λh=>?_) (λh=>?_)<;>(conv=>whnf))|(refine aa.sz (Dx x.store _ Ms Ms hs.2.1) rfl (λh=>?_) (λh=>?_)<;>(conv=>whnf))|(refine aa.sz (wN x.left _ Ms Ms hs.2.2.1) rfl (λh=>?_) (λh=>?_)<;>(conv=>whnf))|(refine aa.sz (wN x.right _ Ms Ms hs.2.2.2.1) rfl (λh=>?_) (λh=>?_)<;>(conv=>whnf))|(refine aa.sz (uz x.ann _ Ms Ms hs.2.2.2.2.1) rfl (λh=>?_) (λh=>?_)<;>(conv=>whnf))|(refine aa.sz (uz x.bob _ Ms Ms hs.2.2.2.2.2.1) rfl (λh=>?_) (λh=>?_)<;>(conv=>whnf))|(refine aa.sz (Gw x.net _ Ms Ms hs.2.2.2.2.2.2.1) rfl (λh=>?_) (λh=>?_)<;>(conv=>whnf))|(refine aa.sz (km x.clocks _ Ms Ms hs.2.2.2.2.2.2.2.1) rfl (λh=>?_) (λh=>?_)<;>(conv=>whnf))|(refine aa.sz (Dt x.up _ Ms Ms hs.2.2.2.2.2.2.2.2) rfl (λh=>?_) (λh=>?_)<;>(conv=>whnf))|((first|exact rr|refine And.intro rfl ?_|refine AB.mk (λh=>?_) (λh=>?_))<;>conv=>whnf))
  all_goals
    refine bX ?_
    first
      |omega
      |(simp only[decide_eq_true_eq,decide_eq_false_iff_not,DWorld.cnt]at* <;>omega)
end Go.Proofs.YtehobfglmeiglaaGreatDoor
