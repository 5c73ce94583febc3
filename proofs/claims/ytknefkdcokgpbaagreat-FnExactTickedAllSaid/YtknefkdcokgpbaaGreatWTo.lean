/- WTo -/
import Derived.Test.YtknefkdcokgpbaaGreatAwx
import Derived.Test.YtknefkdcokgpbaaGreatWData
import Derived.Test.YtknefkdcokgpbaaGreatAvPL
set_option maxHeartbeats 8000000
set_option linter.unusedVariables false
set_option linter.unusedSimpArgs false
set_option maxRecDepth 100000
open List (append_nil mem_map)
namespace Go.Proofs.YtknefkdcokgpbaaGreat
open Go.Proofs.Tryz
open Go.ChangeShapes Go.WideShapes Go.RowKit
section
variable {α:Type}
def cpG(enc:α->List AD)(z:List AD)(l:List α)(k:Nat):List (List AD):=(l.take k).map enc++List.replicate (l.length-k) z
theorem iQ(enc:α->List AD)(z:List AD)(l:List α):cpG enc z l 0=List.replicate l.length z:=by simp[cpG]
theorem eD(enc:α->List AD)(z:List AD)(l:List α):cpG enc z l l.length=l.map enc:=by simp[cpG]
theorem kf(enc:α->List AD)(z:List AD)(l:List α)(k:Nat)(hk:k<l.length):(cpG enc z l k).set k (enc l[k])=cpG enc z l (k+1):=by
 unfold cpG;have h1:((l.take k).map enc).length=k:=al;rw[List.set_append_right _ _ ac,h1,Nat.sub_self,dn enc hk,List.append_assoc];congr 1;rw[show l.length-k=(l.length-(k+1))+1 by omega,List.replicate_succ];rfl
theorem fO(enc:α->List AD)(z:List AD)(l:List α)(k:Nat)(hk:k<l.length):(cpG enc z l k)[k]? =some z:=by
 have h1:((l.take k).map enc).length=k:=al;unfold cpG;rw[List.getElem?_append_right ac,h1,List.getElem?_replicate,if_pos ac]
theorem P6{β:Type}{cs:List β}{k n:Nat}(z:β)(h:cs.length=k)(hk:k<n):(cs++List.replicate (n-k) z)[k]? =some z:=by
 rw[List.getElem?_append_right ac,List.getElem?_replicate,if_pos ac]
theorem Lu{β:Type}{cs:List β}{k n:Nat}{x:β}(z:β)(h:cs.length=k)(hk:k<n):(cs++List.replicate (n-k) z).set k x=(cs++[x])++List.replicate (n-(k+1)) z:=by
 rw[List.set_append_right _ _ ac,h,Nat.sub_self,show n-k=(n-(k+1))+1 by omega,List.replicate_succ,List.append_assoc];rfl
end
theorem qJ(l:(List Int))(hs:l.length<=1048576):ce av 25 [.one (.sl (l.map eI))] (.one (.sl (l.map eI))):=by
 have hl:l.length<=1048576:=hs;refine ck aN func25 rfl call25 ntmps25 (aaK results25) λS=>?_;conv=>whnf
 repeat'(first|refine awz ?_|(refine⟨l.length,by simp,by simp,(show 8*l.length<=_ by omega),ac,?_⟩;conv=>whnf)|fail)
 refine X5 (λk:Nat=>k<=l.length) (7::[4,8,9,10,11,12,13,14,15,16,17,18,19,20]) (λk=>[(3,.one (.own 7)),(4,vI .i64 (k:Int))]) (λk=>[(9997,cH S.w0.heap.size S.w0.heap.size),(7,.row 2 1 (cpG eI [dI 0] l k))]) (λk=>l.length-k) 0 ac ?_ (X0 rfl (X0 (congrArg some (congrArg (AO.row 2 1) (iQ eI [dI 0] l).symm)) X4)) (λk hR=>?_)<;>(conv=>whnf)
 ·exact whd
 ·repeat'((first|refine awz ?_|refine Yc ari (λhlt=>?_)|refine X8 k _ rfl (fO eI [dI 0] l k hlt) ?_|refine X3 ari ari ?_|refine tB ?_ ?_|intro h)<;>conv=>whnf)
  ·refine bd.mk ⟨k+1,hlt,ac,?_,X0 rfl (X0 (congrArg some (congrArg (AO.row 2 1) (kf eI [dI 0] l k hlt))) X4)⟩;exact hds
  ·have:k=l.length:=ari;subst this;exact⟨_,_,l.map eI,Nat.le_refl _,by rw[eD];exact Ya (lo:=S.w0.heap.size) (hi:=S.w0.heap.size) (by simp[AD.isBl,eI]),by rw[eD],(λy hy=>by obtain⟨a,_,rfl⟩:=mem_map.1 hy;rfl),rfl⟩
theorem Kv(l:(List (List Int)))(hs:l.length<=1048576/\∀y∈l,y.length<=1048576):ce av 160 [.one (.sl (l.map bM))] (.one (.sl (l.map bM))):=by
 have hl:l.length<=1048576:=hs.1;refine ck aN func160 rfl call160 ntmps160 (aaK results160) λS=>?_;conv=>whnf
 repeat'(first|refine awz ?_|(refine⟨l.length,by simp,by simp,(show 24*l.length<=_ by omega),ac,?_⟩;conv=>whnf)|fail)
 refine X5 (λg:Nat×Nat×List (List AD)=>g.1<=l.length/\g.2.2.length=g.1/\S.w0.heap.size<=g.2.1/\Fam S.w0.heap.size g.2.1 g.2.2.flatten ((l.take g.1).map bM).flatten) (7::[4,8,9,10,11,12,13,14,15,16,17,18,19,20,21]) (λg=>[(3,.one (.own 7)),(4,vI .i64 (g.1:Int))]) (λg=>[(9997,cH S.w0.heap.size g.2.1),(7,.row 62 1 (g.2.2++List.replicate (l.length-g.1) [.sl []]))]) (λg=>l.length-g.1) (0,S.w0.heap.size,[]) ⟨Nat.zero_le _,rfl,Nat.le_refl _,Ya rfl⟩ ?_ sbW (λg hR=>?_)<;>(conv=>whnf)
 ·exact whd
 ·obtain⟨k,m,cs⟩:=g;obtain⟨hk,hcs,hm,hF⟩:=hR;simp only at hk hcs hm hF;repeat'((first|refine awz ?_|refine Yc ari (λhlt=>?_)|refine X6 (qJ _ (hs.2 _ (List.getElem_mem hlt))) rfl rfl λR lo hi a1 a2 F=>?_|refine X8 k _ rfl (P6 _ hcs ari) ?_|refine X3 ari ari ?_|refine tB ?_ ?_|intro h)<;>conv=>whnf)
  ·have a1:m<=lo:=a1;refine bd.mk ⟨(k+1,hi,cs++[bS R 0 (bM l[k])]),⟨by simp only;omega,by simp[hcs],by simp only;omega,?_⟩,by simp only;omega,?_,X0 rfl (X0 (congrArg some (congrArg (AO.row 62 1) (Lu _ hcs ac))) X4)⟩
   ·simp only;rw[dn bM ac];exact hF.flat_set F ac ac ac
   ·exact hds
  ·have:k=l.length:=ari;subst this;refine⟨_,m,l.map bM,Nat.le_refl _,?_,by simp[hcs],(λy hy=>by obtain⟨a,_,rfl⟩:=mem_map.1 hy;rfl),rfl⟩;simp only[Nat.sub_self,List.replicate_zero,append_nil];rw[List.take_length]at hF;exact hF
theorem O7(x:DWrite)(hs:Yu 1048576 x):ce av 268 [.agg x.ds] (.agg x.ds):=by
 refine ck aN func268 rfl call268 ntmps268 (aaK results268) λS=>?_;conv=>whnf
 repeat'(first|refine awz ?_|(refine X6 (qJ x.row hs) rfl rfl λR1 l1 h1 a1 b1 F1=>?_;conv=>whnf)|fail)
 exact⟨_,_,_,(by omega:S.w0.heap.size<=S.w0.heap.size),(Fam.app (Ya (lo:=S.w0.heap.size) (hi:=S.w0.heap.size) (ds:=[dI x.at_]) rfl) F1 ac ac ac),rfl⟩
theorem Mv(l:(List DWrite))(hs:l.length<=1048576/\∀y∈l,Yu 1048576 y):ce av 161 [.one (.sl (l.map DWrite.ds))] (.one (.sl (l.map DWrite.ds))):=by
 have hl:l.length<=1048576:=hs.1;refine ck aN func161 rfl call161 ntmps161 (aaK results161) λS=>?_;conv=>whnf
 repeat'(first|refine awz ?_|(refine⟨l.length,by simp,by simp,(show 32*l.length<=_ by omega),ac,?_⟩;conv=>whnf)|fail)
 refine X5 (λg:Nat×Nat×List (List AD)=>g.1<=l.length/\g.2.2.length=g.1/\S.w0.heap.size<=g.2.1/\Fam S.w0.heap.size g.2.1 g.2.2.flatten ((l.take g.1).map DWrite.ds).flatten) (7::[4,8,9,10,11,12,13,14,15,16,17,18,19,20,21]) (λg=>[(3,.one (.own 7)),(4,vI .i64 (g.1:Int))]) (λg=>[(9997,cH S.w0.heap.size g.2.1),(7,.row 336 2 (g.2.2++List.replicate (l.length-g.1) [dI 0,.sl []]))]) (λg=>l.length-g.1) (0,S.w0.heap.size,[]) ⟨Nat.zero_le _,rfl,Nat.le_refl _,Ya rfl⟩ ?_ sbW (λg hR=>?_)<;>(conv=>whnf)
 ·exact whd
 ·obtain⟨k,m,cs⟩:=g;obtain⟨hk,hcs,hm,hF⟩:=hR;simp only at hk hcs hm hF;repeat'((first|refine awz ?_|refine Yc ari (λhlt=>?_)|refine X6 (O7 _ (hs.2 _ (List.getElem_mem hlt))) rfl rfl λR lo hi a1 a2 F=>?_|refine X8 k _ rfl (P6 _ hcs ari) ?_|refine X3 ari ari ?_|refine tB ?_ ?_|intro h)<;>conv=>whnf)
  ·have a1:m<=lo:=a1;refine bd.mk ⟨(k+1,hi,cs++[bS R 0 (DWrite.ds l[k])]),⟨by simp only;omega,by simp[hcs],by simp only;omega,?_⟩,by simp only;omega,?_,X0 rfl (X0 (congrArg some (congrArg (AO.row 336 2) (Lu _ hcs ac))) X4)⟩
   ·simp only;rw[dn DWrite.ds ac];exact hF.flat_set F ac ac ac
   ·exact hds
  ·have:k=l.length:=ari;subst this;refine⟨_,m,l.map DWrite.ds,Nat.le_refl _,?_,by simp[hcs],(λy hy=>by obtain⟨a,_,rfl⟩:=mem_map.1 hy;rfl),rfl⟩;simp only[Nat.sub_self,List.replicate_zero,append_nil];rw[List.take_length]at hF;exact hF
theorem Du(x:DDisk)(hs:Yp 1048576 x):ce av 77 [.agg x.ds] (.agg x.ds):=by
 refine ck aN func77 rfl call77 ntmps77 (aaK results77) λS=>?_;conv=>whnf
 repeat'((first|refine awz ?_|refine X6 (Kv x.kept ⟨hs.1,hs.2.1⟩) rfl rfl λR1 l1 h1 a1 b1 F1=>?_|refine X6 (Mv x.wait ⟨hs.2.2.1,hs.2.2.2⟩) rfl rfl λR2 l2 h2 a2 b2 F2=>?_|fail)<;>conv=>whnf)
 exact⟨_,_,_,(by omega:S.w0.heap.size<=l1),(Fam.app F1 F2 ac ac ac),rfl⟩
theorem Tq(x:DTwo)(hs:YA 1048576 x):ce av 72 [.agg x.ds] (.agg x.ds):=by
 refine ck aN func72 rfl call72 ntmps72 (aaK results72) λS=>?_;conv=>whnf
 repeat'((first|refine awz ?_|refine X6 (Du x.a hs.1) rfl rfl λR1 l1 h1 a1 b1 F1=>?_|refine X6 (Du x.b hs.2) rfl rfl λR2 l2 h2 a2 b2 F2=>?_|fail)<;>conv=>whnf)
 exact⟨_,_,_,(by omega:S.w0.heap.size<=l1),(Fam.app F1 F2 ac ac ac),rfl⟩
theorem Rw(x:DMark):aM av 158 [.agg x.ds] (.val (.agg x.ds)):=by
 refine pO func158 call158 ntmps158 results158 λS=>?_;conv=>whnf
 repeat'(first|refine awz ?_|fail)
 all_goals rfl
theorem Ge(l:(List DMark))(hs:l.length<=1048576):ce av 75 [.one (.sl (l.map DMark.ds))] (.one (.sl (l.map DMark.ds))):=by
 have hl:l.length<=1048576:=hs;refine ck aN func75 rfl call75 ntmps75 (aaK results75) λS=>?_;conv=>whnf
 repeat'(first|refine awz ?_|(refine⟨l.length,by simp,by simp,(show 24*l.length<=_ by omega),ac,?_⟩;conv=>whnf)|fail)
 refine X5 (λk:Nat=>k<=l.length) (7::[4,8,9,10,11,12,13,14,15,16,17,18,19,20,21]) (λk=>[(3,.one (.own 7)),(4,vI .i64 (k:Int))]) (λk=>[(9997,cH S.w0.heap.size S.w0.heap.size),(7,.row 236 3 (cpG DMark.ds [dI 0,dI 0,dI 0] l k))]) (λk=>l.length-k) 0 ac ?_ (X0 rfl (X0 (congrArg some (congrArg (AO.row 236 3) (iQ DMark.ds [dI 0,dI 0,dI 0] l).symm)) X4)) (λk hR=>?_)<;>(conv=>whnf)
 ·exact whd
 ·repeat'((first|refine awz ?_|refine Yc ari (λhlt=>?_)|refine XZ (Rw _) rfl ?_|refine X8 k _ rfl (fO DMark.ds [dI 0,dI 0,dI 0] l k hlt) ?_|refine X3 ari ari ?_|refine tB ?_ ?_|intro h)<;>conv=>whnf)
  ·refine bd.mk ⟨k+1,hlt,ac,?_,X0 rfl (X0 (congrArg some (congrArg (AO.row 236 3) (kf DMark.ds [dI 0,dI 0,dI 0] l k hlt))) X4)⟩;exact hds
  ·have:k=l.length:=ari;subst this;exact⟨_,_,l.map DMark.ds,Nat.le_refl _,by rw[eD];exact Ya (lo:=S.w0.heap.size) (hi:=S.w0.heap.size) (by simp[AD.isBl,DMark.ds]),by rw[eD],(λy hy=>by obtain⟨a,_,rfl⟩:=mem_map.1 hy;rfl),rfl⟩
theorem Ku(x:DHead)(hs:Yo 1048576 x):ce av 73 [.agg x.ds] (.agg x.ds):=by
 refine ck aN func73 rfl call73 ntmps73 (aaK results73) λS=>?_;conv=>whnf
 repeat'(first|refine awz ?_|(refine X6 (Ge x.seen hs) rfl rfl λR1 l1 h1 a1 b1 F1=>?_;conv=>whnf)|fail)
 exact⟨_,_,_,(by omega:S.w0.heap.size<=S.w0.heap.size),(Fam.app (Ya (lo:=S.w0.heap.size) (hi:=S.w0.heap.size) (ds:=[dI x.num,dI x.base,dI x.time]) rfl) F1 ac ac ac),rfl⟩
theorem Mu(x:DOp):aM av 80 [.agg x.ds] (.val (.agg x.ds)):=by
 refine pO func80 call80 ntmps80 results80 λS=>?_;conv=>whnf
 repeat'(first|refine awz ?_|exact rr|fail)
 all_goals rfl
theorem O0(x:DEntry):aM av 267 [.agg x.ds] (.val (.agg x.ds)):=by
 refine pO func267 call267 ntmps267 results267 λS=>?_;conv=>whnf
 repeat'(first|refine awz ?_|(refine XZ (Mu x.op) rfl ?_;conv=>whnf)|fail)
 all_goals rfl
theorem Mt(l:(List DEntry))(hs:l.length<=1048576):ce av 157 [.one (.sl (l.map DEntry.ds))] (.one (.sl (l.map DEntry.ds))):=by
 have hl:l.length<=1048576:=hs;refine ck aN func157 rfl call157 ntmps157 (aaK results157) λS=>?_;conv=>whnf
 repeat'(first|refine awz ?_|(refine⟨l.length,by simp,by simp,(show 72*l.length<=_ by omega),ac,?_⟩;conv=>whnf)|fail)
 refine X5 (λk:Nat=>k<=l.length) (7::[4,8,9,10,11,12,13,14,15,16,17,18,19,20,21]) (λk=>[(3,.one (.own 7)),(4,vI .i64 (k:Int))]) (λk=>[(9997,cH S.w0.heap.size S.w0.heap.size),(7,.row 332 9 (cpG DEntry.ds [dI 0,dI 0,dI 0,dI 0,dI 0,dI 0,dI 0,dI 0,dI 0] l k))]) (λk=>l.length-k) 0 ac ?_ (X0 rfl (X0 (congrArg some (congrArg (AO.row 332 9) (iQ DEntry.ds [dI 0,dI 0,dI 0,dI 0,dI 0,dI 0,dI 0,dI 0,dI 0] l).symm)) X4)) (λk hR=>?_)<;>(conv=>whnf)
 ·exact whd
 ·repeat'((first|refine awz ?_|refine Yc ari (λhlt=>?_)|refine XZ (O0 _) rfl ?_|refine X8 k _ rfl (fO DEntry.ds [dI 0,dI 0,dI 0,dI 0,dI 0,dI 0,dI 0,dI 0,dI 0] l k hlt) ?_|refine X3 ari ari ?_|refine tB ?_ ?_|intro h)<;>conv=>whnf)
  ·refine bd.mk ⟨k+1,hlt,ac,?_,X0 rfl (X0 (congrArg some (congrArg (AO.row 332 9) (kf DEntry.ds [dI 0,dI 0,dI 0,dI 0,dI 0,dI 0,dI 0,dI 0,dI 0] l k hlt))) X4)⟩;exact hds
  ·have:k=l.length:=ari;subst this;exact⟨_,_,l.map DEntry.ds,Nat.le_refl _,by rw[eD];exact Ya (lo:=S.w0.heap.size) (hi:=S.w0.heap.size) (by simp[AD.isBl,DEntry.ds]),by rw[eD],(λy hy=>by obtain⟨a,_,rfl⟩:=mem_map.1 hy;rfl),rfl⟩
theorem Rq(x:DBook)(hs:Yx 1048576 x):ce av 74 [.agg x.ds] (.agg x.ds):=by
 refine ck aN func74 rfl call74 ntmps74 (aaK results74) λS=>?_;conv=>whnf
 repeat'(first|refine awz ?_|(refine X6 (Mt x.entries hs) rfl rfl λR1 l1 h1 a1 b1 F1=>?_;conv=>whnf)|fail)
 exact⟨_,_,_,(by omega:S.w0.heap.size<=S.w0.heap.size),(Fam.app (Ya (lo:=S.w0.heap.size) (hi:=S.w0.heap.size) (ds:=[dI x.base,dI x.time]) rfl) F1 ac ac ac),rfl⟩
theorem Tk(x:DAck):aM av 159 [.agg x.ds] (.val (.agg x.ds)):=by
 refine pO func159 call159 ntmps159 results159 λS=>?_;conv=>whnf
 repeat'(first|refine awz ?_|fail)
 all_goals rfl
theorem Rp(l:(List DAck))(hs:l.length<=1048576):ce av 76 [.one (.sl (l.map DAck.ds))] (.one (.sl (l.map DAck.ds))):=by
 have hl:l.length<=1048576:=hs;refine ck aN func76 rfl call76 ntmps76 (aaK results76) λS=>?_;conv=>whnf
 repeat'(first|refine awz ?_|(refine⟨l.length,by simp,by simp,(show 32*l.length<=_ by omega),ac,?_⟩;conv=>whnf)|fail)
 refine X5 (λk:Nat=>k<=l.length) (7::[4,8,9,10,11,12,13,14,15,16,17,18,19,20,21]) (λk=>[(3,.one (.own 7)),(4,vI .i64 (k:Int))]) (λk=>[(9997,cH S.w0.heap.size S.w0.heap.size),(7,.row 240 4 (cpG DAck.ds [dI 0,dI 0,dI 0,dI 0] l k))]) (λk=>l.length-k) 0 ac ?_ (X0 rfl (X0 (congrArg some (congrArg (AO.row 240 4) (iQ DAck.ds [dI 0,dI 0,dI 0,dI 0] l).symm)) X4)) (λk hR=>?_)<;>(conv=>whnf)
 ·exact whd
 ·repeat'((first|refine awz ?_|refine Yc ari (λhlt=>?_)|refine XZ (Tk _) rfl ?_|refine X8 k _ rfl (fO DAck.ds [dI 0,dI 0,dI 0,dI 0] l k hlt) ?_|refine X3 ari ari ?_|refine tB ?_ ?_|intro h)<;>conv=>whnf)
  ·refine bd.mk ⟨k+1,hlt,ac,?_,X0 rfl (X0 (congrArg some (congrArg (AO.row 240 4) (kf DAck.ds [dI 0,dI 0,dI 0,dI 0] l k hlt))) X4)⟩;exact hds
  ·have:k=l.length:=ari;subst this;exact⟨_,_,l.map DAck.ds,Nat.le_refl _,by rw[eD];exact Ya (lo:=S.w0.heap.size) (hi:=S.w0.heap.size) (by simp[AD.isBl,DAck.ds]),by rw[eD],(λy hy=>by obtain⟨a,_,rfl⟩:=mem_map.1 hy;rfl),rfl⟩
theorem Kw(x:DLogNode)(hs:Yq 1048576 x):ce av 20 [.agg x.ds] (.agg x.ds):=by
 refine ck aN func20 rfl call20 ntmps20 (aaK results20) λS=>?_;conv=>whnf
 repeat'((first|refine awz ?_|refine X6 (Tq x.two hs.1) rfl rfl λR1 l1 h1 a1 b1 F1=>?_|refine X6 (Ku x.head hs.2.1) rfl rfl λR2 l2 h2 a2 b2 F2=>?_|refine X6 (Ku x.nxt hs.2.2.1) rfl rfl λR3 l3 h3 a3 b3 F3=>?_|refine X6 (Rq x.book hs.2.2.2.1) rfl rfl λR4 l4 h4 a4 b4 F4=>?_|refine X6 (Ge x.seen hs.2.2.2.2.1) rfl rfl λR5 l5 h5 a5 b5 F5=>?_|refine X6 (Rp x.owe hs.2.2.2.2.2) rfl rfl λR6 l6 h6 a6 b6 F6=>?_|fail)<;>conv=>whnf)
 exact⟨_,_,_,(by omega:S.w0.heap.size<=l1),(Fam.app (Fam.app (Fam.app (Fam.app (Fam.app (Fam.app (Fam.app F1 F2 ac ac ac) F3 ac ac ac) (Ya (lo:=h3) (hi:=h3) (ds:=[dB x.more]) rfl) ac ac ac) F4 ac ac ac) F5 ac ac ac) (Ya (lo:=h5) (hi:=h5) (ds:=[dI x.durable]) rfl) ac ac ac) F6 ac ac ac),rfl⟩
theorem Ry(x:DPair):aM av 269 [.agg x.ds] (.val (.agg x.ds)):=by
 refine pO func269 call269 ntmps269 results269 λS=>?_;conv=>whnf
 repeat'(first|refine awz ?_|fail)
 all_goals rfl
theorem O3(l:(List DPair))(hs:l.length<=1048576):ce av 162 [.one (.sl (l.map DPair.ds))] (.one (.sl (l.map DPair.ds))):=by
 have hl:l.length<=1048576:=hs;refine ck aN func162 rfl call162 ntmps162 (aaK results162) λS=>?_;conv=>whnf
 repeat'(first|refine awz ?_|(refine⟨l.length,by simp,by simp,(show 16*l.length<=_ by omega),ac,?_⟩;conv=>whnf)|fail)
 refine X5 (λk:Nat=>k<=l.length) (7::[4,8,9,10,11,12,13,14,15,16,17,18,19,20,21]) (λk=>[(3,.one (.own 7)),(4,vI .i64 (k:Int))]) (λk=>[(9997,cH S.w0.heap.size S.w0.heap.size),(7,.row 339 2 (cpG DPair.ds [dI 0,dI 0] l k))]) (λk=>l.length-k) 0 ac ?_ (X0 rfl (X0 (congrArg some (congrArg (AO.row 339 2) (iQ DPair.ds [dI 0,dI 0] l).symm)) X4)) (λk hR=>?_)<;>(conv=>whnf)
 ·exact whd
 ·repeat'((first|refine awz ?_|refine Yc ari (λhlt=>?_)|refine XZ (Ry _) rfl ?_|refine X8 k _ rfl (fO DPair.ds [dI 0,dI 0] l k hlt) ?_|refine X3 ari ari ?_|refine tB ?_ ?_|intro h)<;>conv=>whnf)
  ·refine bd.mk ⟨k+1,hlt,ac,?_,X0 rfl (X0 (congrArg some (congrArg (AO.row 339 2) (kf DPair.ds [dI 0,dI 0] l k hlt))) X4)⟩;exact hds
  ·have:k=l.length:=ari;subst this;exact⟨_,_,l.map DPair.ds,Nat.le_refl _,by rw[eD];exact Ya (lo:=S.w0.heap.size) (hi:=S.w0.heap.size) (by simp[AD.isBl,DPair.ds]),by rw[eD],(λy hy=>by obtain⟨a,_,rfl⟩:=mem_map.1 hy;rfl),rfl⟩
theorem Tn(x:DJob):aM av 270 [.agg x.ds] (.val (.agg x.ds)):=by
 refine pO func270 call270 ntmps270 results270 λS=>?_;conv=>whnf
 repeat'(first|refine awz ?_|fail)
 all_goals rfl
theorem Rt(l:(List DJob))(hs:l.length<=1048576):ce av 163 [.one (.sl (l.map DJob.ds))] (.one (.sl (l.map DJob.ds))):=by
 have hl:l.length<=1048576:=hs;refine ck aN func163 rfl call163 ntmps163 (aaK results163) λS=>?_;conv=>whnf
 repeat'(first|refine awz ?_|(refine⟨l.length,by simp,by simp,(show 40*l.length<=_ by omega),ac,?_⟩;conv=>whnf)|fail)
 refine X5 (λk:Nat=>k<=l.length) (7::[4,8,9,10,11,12,13,14,15,16,17,18,19,20,21]) (λk=>[(3,.one (.own 7)),(4,vI .i64 (k:Int))]) (λk=>[(9997,cH S.w0.heap.size S.w0.heap.size),(7,.row 343 5 (cpG DJob.ds [dI 0,dI 0,dI 0,dI 0,dI 0] l k))]) (λk=>l.length-k) 0 ac ?_ (X0 rfl (X0 (congrArg some (congrArg (AO.row 343 5) (iQ DJob.ds [dI 0,dI 0,dI 0,dI 0,dI 0] l).symm)) X4)) (λk hR=>?_)<;>(conv=>whnf)
 ·exact whd
 ·repeat'((first|refine awz ?_|refine Yc ari (λhlt=>?_)|refine XZ (Tn _) rfl ?_|refine X8 k _ rfl (fO DJob.ds [dI 0,dI 0,dI 0,dI 0,dI 0] l k hlt) ?_|refine X3 ari ari ?_|refine tB ?_ ?_|intro h)<;>conv=>whnf)
  ·refine bd.mk ⟨k+1,hlt,ac,?_,X0 rfl (X0 (congrArg some (congrArg (AO.row 343 5) (kf DJob.ds [dI 0,dI 0,dI 0,dI 0,dI 0] l k hlt))) X4)⟩;exact hds
  ·have:k=l.length:=ari;subst this;exact⟨_,_,l.map DJob.ds,Nat.le_refl _,by rw[eD];exact Ya (lo:=S.w0.heap.size) (hi:=S.w0.heap.size) (by simp[AD.isBl,DJob.ds]),by rw[eD],(λy hy=>by obtain⟨a,_,rfl⟩:=mem_map.1 hy;rfl),rfl⟩
theorem O1(x:DLease):aM av 164 [.agg x.ds] (.val (.agg x.ds)):=by
 refine pO func164 call164 ntmps164 results164 λS=>?_;conv=>whnf
 repeat'(first|refine awz ?_|fail)
 all_goals rfl
theorem O4(x:DState)(hs:Yt 1048576 x):ce av 78 [.agg x.ds] (.agg x.ds):=by
 refine ck aN func78 rfl call78 ntmps78 (aaK results78) λS=>?_;conv=>whnf
 repeat'((first|refine awz ?_|refine XZ (O1 x.lease) rfl ?_|refine X6 (O3 x.pairs hs.1) rfl rfl λR1 l1 h1 a1 b1 F1=>?_|refine X6 (Rt x.jobs hs.2) rfl rfl λR2 l2 h2 a2 b2 F2=>?_|fail)<;>conv=>whnf)
 exact⟨_,_,_,(by omega:S.w0.heap.size<=S.w0.heap.size),(Fam.app (Fam.app (Fam.app (Ya (lo:=S.w0.heap.size) (hi:=S.w0.heap.size) (ds:=[dI x.index,dI x.time]) rfl) F1 ac ac ac) F2 ac ac ac) (Ya (lo:=h2) (hi:=h2) (ds:=[dI x.lease.holder,dI x.lease.epoch,dI x.lease.til]) rfl) ac ac ac),rfl⟩
theorem O5(x:DStore)(hs:Yv 1048576 x):ce av 21 [.agg x.ds] (.agg x.ds):=by
 refine ck aN func21 rfl call21 ntmps21 (aaK results21) λS=>?_;conv=>whnf
 repeat'((first|refine awz ?_|refine X6 (Du x.disk hs.1) rfl rfl λR1 l1 h1 a1 b1 F1=>?_|refine X6 (O4 x.state hs.2) rfl rfl λR2 l2 h2 a2 b2 F2=>?_|fail)<;>conv=>whnf)
 exact⟨_,_,_,(by omega:S.w0.heap.size<=l1),(Fam.app (Fam.app F1 F2 ac ac ac) (Ya (lo:=h2) (hi:=h2) (ds:=[dI x.num,dI x.last,dI x.busy]) rfl) ac ac ac),rfl⟩
theorem Tl(x:DDue):aM av 349 [.agg x.ds] (.val (.agg x.ds)):=by
 refine pO func349 call349 ntmps349 results349 λS=>?_;conv=>whnf
 repeat'(first|refine awz ?_|fail)
 all_goals rfl
theorem Rr(l:(List DDue))(hs:l.length<=1048576):ce av 271 [.one (.sl (l.map DDue.ds))] (.one (.sl (l.map DDue.ds))):=by
 have hl:l.length<=1048576:=hs;refine ck aN func271 rfl call271 ntmps271 (aaK results271) λS=>?_;conv=>whnf
 repeat'(first|refine awz ?_|(refine⟨l.length,by simp,by simp,(show 16*l.length<=_ by omega),ac,?_⟩;conv=>whnf)|fail)
 refine X5 (λk:Nat=>k<=l.length) (7::[4,8,9,10,11,12,13,14,15,16,17,18,19,20,21]) (λk=>[(3,.one (.own 7)),(4,vI .i64 (k:Int))]) (λk=>[(9997,cH S.w0.heap.size S.w0.heap.size),(7,.row 392 2 (cpG DDue.ds [dI 0,dI 0] l k))]) (λk=>l.length-k) 0 ac ?_ (X0 rfl (X0 (congrArg some (congrArg (AO.row 392 2) (iQ DDue.ds [dI 0,dI 0] l).symm)) X4)) (λk hR=>?_)<;>(conv=>whnf)
 ·exact whd
 ·repeat'((first|refine awz ?_|refine Yc ari (λhlt=>?_)|refine XZ (Tl _) rfl ?_|refine X8 k _ rfl (fO DDue.ds [dI 0,dI 0] l k hlt) ?_|refine X3 ari ari ?_|refine tB ?_ ?_|intro h)<;>conv=>whnf)
  ·refine bd.mk ⟨k+1,hlt,ac,?_,X0 rfl (X0 (congrArg some (congrArg (AO.row 392 2) (kf DDue.ds [dI 0,dI 0] l k hlt))) X4)⟩;exact hds
  ·have:k=l.length:=ari;subst this;exact⟨_,_,l.map DDue.ds,Nat.le_refl _,by rw[eD];exact Ya (lo:=S.w0.heap.size) (hi:=S.w0.heap.size) (by simp[AD.isBl,DDue.ds]),by rw[eD],(λy hy=>by obtain⟨a,_,rfl⟩:=mem_map.1 hy;rfl),rfl⟩
theorem Ru(x:DJobs)(hs:YE 1048576 x):ce av 165 [.agg x.ds] (.agg x.ds):=by
 refine ck aN func165 rfl call165 ntmps165 (aaK results165) λS=>?_;conv=>whnf
 repeat'(first|refine awz ?_|(refine X6 (Rr x.opens hs) rfl rfl λR1 l1 h1 a1 b1 F1=>?_;conv=>whnf)|fail)
 exact⟨_,_,_,(by omega:S.w0.heap.size<=S.w0.heap.size),(Fam.app (Ya (lo:=S.w0.heap.size) (hi:=S.w0.heap.size) (ds:=[dI x.index,dI x.time,dI x.holder,dI x.epoch,dI x.til]) rfl) F1 ac ac ac),rfl⟩
theorem RB(x:DView)(hs:YC 1048576 x):ce av 79 [.agg x.ds] (.agg x.ds):=by
 refine ck aN func79 rfl call79 ntmps79 (aaK results79) λS=>?_;conv=>whnf
 repeat'(first|refine awz ?_|(refine X6 (Ru x.jobs hs) rfl rfl λR1 l1 h1 a1 b1 F1=>?_;conv=>whnf)|fail)
 exact⟨_,_,_,(by omega:S.w0.heap.size<=l1),F1,rfl⟩
theorem Gf(x:DSched)(hs:Yr 1048576 x):ce av 22 [.agg x.ds] (.agg x.ds):=by
 refine ck aN func22 rfl call22 ntmps22 (aaK results22) λS=>?_;conv=>whnf
 repeat'((first|refine awz ?_|refine XZ (Mu x.op) rfl ?_|refine X6 (RB x.view hs) rfl rfl λR1 l1 h1 a1 b1 F1=>?_|fail)<;>conv=>whnf)
 exact⟨_,_,_,(by omega:S.w0.heap.size<=S.w0.heap.size),(Fam.app (Fam.app (Ya (lo:=S.w0.heap.size) (hi:=S.w0.heap.size) (ds:=[dI x.id,dI x.seq]) rfl) F1 ac ac ac) (Ya (lo:=h1) (hi:=h1) (ds:=[dB x.busy,dI x.op.kind,dI x.op.a,dI x.op.b,dI x.op.c,dI x.op.d,dI x.index]) rfl) ac ac ac),rfl⟩
theorem RC(x:DWant):aM av 166 [.agg x.ds] (.val (.agg x.ds)):=by
 refine pO func166 call166 ntmps166 results166 λS=>?_;conv=>whnf
 repeat'(first|refine awz ?_|(refine XZ (Mu x.op) rfl ?_;conv=>whnf)|fail)
 all_goals rfl
theorem O6(l:(List DWant))(hs:l.length<=1048576):ce av 81 [.one (.sl (l.map DWant.ds))] (.one (.sl (l.map DWant.ds))):=by
 have hl:l.length<=1048576:=hs;refine ck aN func81 rfl call81 ntmps81 (aaK results81) λS=>?_;conv=>whnf
 repeat'(first|refine awz ?_|(refine⟨l.length,by simp,by simp,(show 56*l.length<=_ by omega),ac,?_⟩;conv=>whnf)|fail)
 refine X5 (λk:Nat=>k<=l.length) (7::[4,8,9,10,11,12,13,14,15,16,17,18,19,20,21]) (λk=>[(3,.one (.own 7)),(4,vI .i64 (k:Int))]) (λk=>[(9997,cH S.w0.heap.size S.w0.heap.size),(7,.row 211 7 (cpG DWant.ds [dI 0,dI 0,dI 0,dI 0,dI 0,dI 0,dI 0] l k))]) (λk=>l.length-k) 0 ac ?_ (X0 rfl (X0 (congrArg some (congrArg (AO.row 211 7) (iQ DWant.ds [dI 0,dI 0,dI 0,dI 0,dI 0,dI 0,dI 0] l).symm)) X4)) (λk hR=>?_)<;>(conv=>whnf)
 ·exact whd
 ·repeat'((first|refine awz ?_|refine Yc ari (λhlt=>?_)|refine XZ (RC _) rfl ?_|refine X8 k _ rfl (fO DWant.ds [dI 0,dI 0,dI 0,dI 0,dI 0,dI 0,dI 0] l k hlt) ?_|refine X3 ari ari ?_|refine tB ?_ ?_|intro h)<;>conv=>whnf)
  ·refine bd.mk ⟨k+1,hlt,ac,?_,X0 rfl (X0 (congrArg some (congrArg (AO.row 211 7) (kf DWant.ds [dI 0,dI 0,dI 0,dI 0,dI 0,dI 0,dI 0] l k hlt))) X4)⟩;exact hds
  ·have:k=l.length:=ari;subst this;exact⟨_,_,l.map DWant.ds,Nat.le_refl _,by rw[eD];exact Ya (lo:=S.w0.heap.size) (hi:=S.w0.heap.size) (by simp[AD.isBl,DWant.ds]),by rw[eD],(λy hy=>by obtain⟨a,_,rfl⟩:=mem_map.1 hy;rfl),rfl⟩
theorem Tm(x:DGot):aM av 167 [.agg x.ds] (.val (.agg x.ds)):=by
 refine pO func167 call167 ntmps167 results167 λS=>?_;conv=>whnf
 repeat'(first|refine awz ?_|fail)
 all_goals rfl
theorem Rs(l:(List DGot))(hs:l.length<=1048576):ce av 82 [.one (.sl (l.map DGot.ds))] (.one (.sl (l.map DGot.ds))):=by
 have hl:l.length<=1048576:=hs;refine ck aN func82 rfl call82 ntmps82 (aaK results82) λS=>?_;conv=>whnf
 repeat'(first|refine awz ?_|(refine⟨l.length,by simp,by simp,(show 32*l.length<=_ by omega),ac,?_⟩;conv=>whnf)|fail)
 refine X5 (λk:Nat=>k<=l.length) (7::[4,8,9,10,11,12,13,14,15,16,17,18,19,20,21]) (λk=>[(3,.one (.own 7)),(4,vI .i64 (k:Int))]) (λk=>[(9997,cH S.w0.heap.size S.w0.heap.size),(7,.row 214 4 (cpG DGot.ds [dI 0,dI 0,dI 0,dI 0] l k))]) (λk=>l.length-k) 0 ac ?_ (X0 rfl (X0 (congrArg some (congrArg (AO.row 214 4) (iQ DGot.ds [dI 0,dI 0,dI 0,dI 0] l).symm)) X4)) (λk hR=>?_)<;>(conv=>whnf)
 ·exact whd
 ·repeat'((first|refine awz ?_|refine Yc ari (λhlt=>?_)|refine XZ (Tm _) rfl ?_|refine X8 k _ rfl (fO DGot.ds [dI 0,dI 0,dI 0,dI 0] l k hlt) ?_|refine X3 ari ari ?_|refine tB ?_ ?_|intro h)<;>conv=>whnf)
  ·refine bd.mk ⟨k+1,hlt,ac,?_,X0 rfl (X0 (congrArg some (congrArg (AO.row 214 4) (kf DGot.ds [dI 0,dI 0,dI 0,dI 0] l k hlt))) X4)⟩;exact hds
  ·have:k=l.length:=ari;subst this;exact⟨_,_,l.map DGot.ds,Nat.le_refl _,by rw[eD];exact Ya (lo:=S.w0.heap.size) (hi:=S.w0.heap.size) (by simp[AD.isBl,DGot.ds]),by rw[eD],(λy hy=>by obtain⟨a,_,rfl⟩:=mem_map.1 hy;rfl),rfl⟩
theorem Dt(x:DClient)(hs:Ys 1048576 x):ce av 23 [.agg x.ds] (.agg x.ds):=by
 refine ck aN func23 rfl call23 ntmps23 (aaK results23) λS=>?_;conv=>whnf
 repeat'((first|refine awz ?_|refine X6 (O6 x.todo hs.1) rfl rfl λR1 l1 h1 a1 b1 F1=>?_|refine X6 (Rs x.gots hs.2) rfl rfl λR2 l2 h2 a2 b2 F2=>?_|fail)<;>conv=>whnf)
 exact⟨_,_,_,(by omega:S.w0.heap.size<=S.w0.heap.size),(Fam.app (Fam.app (Fam.app (Ya (lo:=S.w0.heap.size) (hi:=S.w0.heap.size) (ds:=[dI x.id]) rfl) F1 ac ac ac) F2 ac ac ac) (Ya (lo:=h2) (hi:=h2) (ds:=[dI x.last]) rfl) ac ac ac),rfl⟩
theorem To(x:DMsg)(hs:Yy 1048576 x):ce av 168 [.agg x.ds] (.agg x.ds):=by
 refine ck aN func168 rfl call168 ntmps168 (aaK results168) λS=>?_;conv=>whnf
 repeat'(first|refine awz ?_|(refine X6 (qJ x.row hs) rfl rfl λR1 l1 h1 a1 b1 F1=>?_;conv=>whnf)|fail)
 exact⟨_,_,_,(by omega:S.w0.heap.size<=S.w0.heap.size),(Fam.app (Ya (lo:=S.w0.heap.size) (hi:=S.w0.heap.size) (ds:=[dI x.frm,dI x.to_]) rfl) F1 ac ac ac),rfl⟩
theorem Rx(l:(List DMsg))(hs:l.length<=1048576/\∀y∈l,Yy 1048576 y):ce av 83 [.one (.sl (l.map DMsg.ds))] (.one (.sl (l.map DMsg.ds))):=by
 have hl:l.length<=1048576:=hs.1;refine ck aN func83 rfl call83 ntmps83 (aaK results83) λS=>?_;conv=>whnf
 repeat'(first|refine awz ?_|(refine⟨l.length,by simp,by simp,(show 40*l.length<=_ by omega),ac,?_⟩;conv=>whnf)|fail)
 refine X5 (λg:Nat×Nat×List (List AD)=>g.1<=l.length/\g.2.2.length=g.1/\S.w0.heap.size<=g.2.1/\Fam S.w0.heap.size g.2.1 g.2.2.flatten ((l.take g.1).map DMsg.ds).flatten) (7::[4,8,9,10,11,12,13,14,15,16,17,18,19,20,21]) (λg=>[(3,.one (.own 7)),(4,vI .i64 (g.1:Int))]) (λg=>[(9997,cH S.w0.heap.size g.2.1),(7,.row 216 3 (g.2.2++List.replicate (l.length-g.1) [dI 0,dI 0,.sl []]))]) (λg=>l.length-g.1) (0,S.w0.heap.size,[]) ⟨Nat.zero_le _,rfl,Nat.le_refl _,Ya rfl⟩ ?_ sbW (λg hR=>?_)<;>(conv=>whnf)
 ·exact whd
 ·obtain⟨k,m,cs⟩:=g;obtain⟨hk,hcs,hm,hF⟩:=hR;simp only at hk hcs hm hF;repeat'((first|refine awz ?_|refine Yc ari (λhlt=>?_)|refine X6 (To _ (hs.2 _ (List.getElem_mem hlt))) rfl rfl λR lo hi a1 a2 F=>?_|refine X8 k _ rfl (P6 _ hcs ari) ?_|refine X3 ari ari ?_|refine tB ?_ ?_|intro h)<;>conv=>whnf)
  ·have a1:m<=lo:=a1;refine bd.mk ⟨(k+1,hi,cs++[bS R 0 (DMsg.ds l[k])]),⟨by simp only;omega,by simp[hcs],by simp only;omega,?_⟩,by simp only;omega,?_,X0 rfl (X0 (congrArg some (congrArg (AO.row 216 3) (Lu _ hcs ac))) X4)⟩
   ·simp only;rw[dn DMsg.ds ac];exact hF.flat_set F ac ac ac
   ·exact hds
  ·have:k=l.length:=ari;subst this;refine⟨_,m,l.map DMsg.ds,Nat.le_refl _,?_,by simp[hcs],(λy hy=>by obtain⟨a,_,rfl⟩:=mem_map.1 hy;rfl),rfl⟩;simp only[Nat.sub_self,List.replicate_zero,append_nil];rw[List.take_length]at hF;exact hF
theorem Rv(x:DLink):aM av 169 [.agg x.ds] (.val (.agg x.ds)):=by
 refine pO func169 call169 ntmps169 results169 λS=>?_;conv=>whnf
 repeat'(first|refine awz ?_|fail)
 all_goals rfl
theorem O2(l:(List DLink))(hs:l.length<=1048576):ce av 84 [.one (.sl (l.map DLink.ds))] (.one (.sl (l.map DLink.ds))):=by
 have hl:l.length<=1048576:=hs;refine ck aN func84 rfl call84 ntmps84 (aaK results84) λS=>?_;conv=>whnf
 repeat'(first|refine awz ?_|(refine⟨l.length,by simp,by simp,(show 16*l.length<=_ by omega),ac,?_⟩;conv=>whnf)|fail)
 refine X5 (λk:Nat=>k<=l.length) (7::[4,8,9,10,11,12,13,14,15,16,17,18,19,20,21]) (λk=>[(3,.one (.own 7)),(4,vI .i64 (k:Int))]) (λk=>[(9997,cH S.w0.heap.size S.w0.heap.size),(7,.row 218 2 (cpG DLink.ds [dI 0,dI 0] l k))]) (λk=>l.length-k) 0 ac ?_ (X0 rfl (X0 (congrArg some (congrArg (AO.row 218 2) (iQ DLink.ds [dI 0,dI 0] l).symm)) X4)) (λk hR=>?_)<;>(conv=>whnf)
 ·exact whd
 ·repeat'((first|refine awz ?_|refine Yc ari (λhlt=>?_)|refine XZ (Rv _) rfl ?_|refine X8 k _ rfl (fO DLink.ds [dI 0,dI 0] l k hlt) ?_|refine X3 ari ari ?_|refine tB ?_ ?_|intro h)<;>conv=>whnf)
  ·refine bd.mk ⟨k+1,hlt,ac,?_,X0 rfl (X0 (congrArg some (congrArg (AO.row 218 2) (kf DLink.ds [dI 0,dI 0] l k hlt))) X4)⟩;exact hds
  ·have:k=l.length:=ari;subst this;exact⟨_,_,l.map DLink.ds,Nat.le_refl _,by rw[eD];exact Ya (lo:=S.w0.heap.size) (hi:=S.w0.heap.size) (by simp[AD.isBl,DLink.ds]),by rw[eD],(λy hy=>by obtain⟨a,_,rfl⟩:=mem_map.1 hy;rfl),rfl⟩
theorem Tp(x:DNet)(hs:Yz 1048576 x):ce av 24 [.agg x.ds] (.agg x.ds):=by
 refine ck aN func24 rfl call24 ntmps24 (aaK results24) λS=>?_;conv=>whnf
 repeat'((first|refine awz ?_|refine X6 (Rx x.flight ⟨hs.1,hs.2.1⟩) rfl rfl λR1 l1 h1 a1 b1 F1=>?_|refine X6 (O2 x.cuts hs.2.2) rfl rfl λR2 l2 h2 a2 b2 F2=>?_|fail)<;>conv=>whnf)
 exact⟨_,_,_,(by omega:S.w0.heap.size<=l1),(Fam.app F1 F2 ac ac ac),rfl⟩
theorem OZ(l:(List Bool))(hs:l.length<=1048576):ce av 26 [.one (.sl (l.map eB))] (.one (.sl (l.map eB))):=by
 have hl:l.length<=1048576:=hs;refine ck aN func26 rfl call26 ntmps26 (aaK results26) λS=>?_;conv=>whnf
 repeat'(first|refine awz ?_|(refine⟨l.length,by simp,by simp,(show 1*l.length<=_ by omega),ac,?_⟩;conv=>whnf)|fail)
 refine X5 (λk:Nat=>k<=l.length) (7::[4,8,9,10,11,12,13,14,15,16,17,18,19,20]) (λk=>[(3,.one (.own 7)),(4,vI .i64 (k:Int))]) (λk=>[(9997,cH S.w0.heap.size S.w0.heap.size),(7,.row 4 1 (cpG eB [dB false] l k))]) (λk=>l.length-k) 0 ac ?_ (X0 rfl (X0 (congrArg some (congrArg (AO.row 4 1) (iQ eB [dB false] l).symm)) X4)) (λk hR=>?_)<;>(conv=>whnf)
 ·exact whd
 ·repeat'((first|refine awz ?_|refine Yc ari (λhlt=>?_)|refine X8 k _ rfl (fO eB [dB false] l k hlt) ?_|refine X3 ari ari ?_|refine tB ?_ ?_|intro h)<;>conv=>whnf)
  ·refine bd.mk ⟨k+1,hlt,ac,?_,X0 rfl (X0 (congrArg some (congrArg (AO.row 4 1) (kf eB [dB false] l k hlt))) X4)⟩;exact hds
  ·have:k=l.length:=ari;subst this;exact⟨_,_,l.map eB,Nat.le_refl _,by rw[eD];exact Ya (lo:=S.w0.heap.size) (hi:=S.w0.heap.size) (by simp[AD.isBl,eB]),by rw[eD],(λy hy=>by obtain⟨a,_,rfl⟩:=mem_map.1 hy;rfl),rfl⟩
theorem Gg(x:DWorld)(hs:Ym 1048576 x):ce av 6 [.agg x.ds] (.agg x.ds):=by
 refine ck aN func6 rfl call6 ntmps6 (aaK results6) λS=>?_;conv=>whnf
 repeat'((first|refine awz ?_|refine X6 (Kw x.log hs.1) rfl rfl λR1 l1 h1 a1 b1 F1=>?_|refine X6 (O5 x.store hs.2.1) rfl rfl λR2 l2 h2 a2 b2 F2=>?_|refine X6 (Gf x.left hs.2.2.1) rfl rfl λR3 l3 h3 a3 b3 F3=>?_|refine X6 (Gf x.right hs.2.2.2.1) rfl rfl λR4 l4 h4 a4 b4 F4=>?_|refine X6 (Dt x.ann hs.2.2.2.2.1) rfl rfl λR5 l5 h5 a5 b5 F5=>?_|refine X6 (Dt x.bob hs.2.2.2.2.2.1) rfl rfl λR6 l6 h6 a6 b6 F6=>?_|refine X6 (Tp x.net hs.2.2.2.2.2.2.1) rfl rfl λR7 l7 h7 a7 b7 F7=>?_|refine X6 (qJ x.clocks hs.2.2.2.2.2.2.2.1) rfl rfl λR8 l8 h8 a8 b8 F8=>?_|refine X6 (OZ x.up hs.2.2.2.2.2.2.2.2) rfl rfl λR9 l9 h9 a9 b9 F9=>?_|fail)<;>conv=>whnf)
 exact⟨_,_,_,(by omega:S.w0.heap.size<=l1),(Fam.app (Fam.app (Fam.app (Fam.app (Fam.app (Fam.app (Fam.app (Fam.app F1 F2 ac ac ac) F3 ac ac ac) F4 ac ac ac) F5 ac ac ac) F6 ac ac ac) F7 ac ac ac) F8 ac ac ac) F9 ac ac ac),rfl⟩
theorem uD(x:DWorld)(hs:Ym 1048576 x):aM av 6 [.agg x.ds] (.val (.agg x.ds)):=(Gg x hs).pcall
end Go.Proofs.YtknefkdcokgpbaaGreat
