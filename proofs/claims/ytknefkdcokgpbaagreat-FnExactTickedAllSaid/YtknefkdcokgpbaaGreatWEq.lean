/- WEq -/
import Derived.Test.YtknefkdcokgpbaaGreatAwx
import Derived.Test.YtknefkdcokgpbaaGreatWData
import Derived.Test.YtknefkdcokgpbaaGreatAvVC
import Derived.Test.YtknefkdcokgpbaaGreatMkA
import Derived.Test.YtknefkdcokgpbaaGreatWB3
set_option maxHeartbeats 8000000
set_option linter.unusedVariables false
set_option linter.unusedSimpArgs false
set_option maxRecDepth 100000
namespace Go.Proofs.YtknefkdcokgpbaaGreat
open Go.Proofs.Tryz
open Go.ChangeShapes Go.WideShapes Go.RowKit
def km:List (List Nat):=bZ [0,0,66,12417,0,0,326,29061,17663105454471]
def bz:List (List Nat):=fB 8 [6486,6482,6484,6493,566,242,404,1133]
def bG:List (List Nat):=bZ [0,0,66,12417,0,0,326,29061,17663105454471,0x91c61480c2044]
theorem neI(x:Int):(x !=x)=false:=by simp
theorem neB(x:Bool):(!(x==x))=false:=by simp
theorem mT(l:(List Int))(hs:l.length<=1048576):aM av 34 [.one (.sl (l.map eI)),.one (.sl (l.map eI))] (rB true):=by
 have hl:l.length<=1048576:=hs;refine pO func34 call34 ntmps34 results34 λS=>?_;conv=>whnf
 have h0:(((l.map eI).length:Int) !=((l.map eI).length:Int))=false:=neI _;repeat'(first|refine awz ?_|fail)
 refine X5 (λk:Nat=>k<=l.length) (4::5::rg 11 15) (λk=>[(5,vI .i64 (k:Int))]) (λk=>[]) (λk=>l.length-k) 0 ac ?_ X4 (λk hR=>?_)<;>(conv=>whnf)
 ·exact whd
 ·repeat'(first|refine awz ?_|exact rr|refine tB ?_ ?_|(intro h;conv=>whnf))
  ·have hlt:k<l.length:=ari;have hne:(l[k] !=l[k])=false:=neI _;(refine X9 aN 6 8 km bz ae ae ae rfl ?_;conv=>whnf)
   repeat'((first|refine awz ?_|refine Yg hlt ?_|refine X3 ari ari ?_|fail)<;>conv=>whnf)
   refine bd.mk ⟨k+1,hlt,ac,?_,X4⟩;exact hds
theorem Iz(l:(List (List Int)))(hs:l.length<=1048576/\∀y∈l,y.length<=1048576):aM av 189 [.one (.sl (l.map bM)),.one (.sl (l.map bM))] (rB true):=by
 have hl:l.length<=1048576:=hs.1;refine pO func189 call189 ntmps189 results189 λS=>?_;conv=>whnf
 have h0:(((l.map bM).length:Int) !=((l.map bM).length:Int))=false:=neI _;repeat'(first|refine awz ?_|fail)
 refine X5 (λk:Nat=>k<=l.length) (4::5::rg 11 16) (λk=>[(5,vI .i64 (k:Int))]) (λk=>[]) (λk=>l.length-k) 0 ac ?_ X4 (λk hR=>?_)<;>(conv=>whnf)
 ·exact whd
 ·repeat'(first|refine awz ?_|exact rr|refine tB ?_ ?_|(intro h;conv=>whnf))
  ·have hlt:k<l.length:=ari;(refine X9 aN 6 8 bG bz ae ae ae rfl ?_;conv=>whnf)
   repeat'((first|refine awz ?_|refine Yg hlt ?_|refine cP (mT _ (hs.2 _ (List.getElem_mem hlt))) ?_|refine X3 ari ari ?_|fail)<;>conv=>whnf)
   refine bd.mk ⟨k+1,hlt,ac,?_,X4⟩;exact hds
theorem EN(x:DWrite)(hs:Yu 1048576 x):aM av 306 [.agg x.ds,.agg x.ds] (rB true):=by
 refine pO func306 call306 ntmps306 results306 λS=>?_;conv=>whnf
 have h1:=neI x.at_;repeat'(first|refine awz ?_|(refine XZ (mT x.row hs) rfl ?_;conv=>whnf)|exact rr|fail)
theorem Lr(l:(List DWrite))(hs:l.length<=1048576/\∀y∈l,Yu 1048576 y):aM av 190 [.one (.sl (l.map DWrite.ds)),.one (.sl (l.map DWrite.ds))] (rB true):=by
 have hl:l.length<=1048576:=hs.1;refine pO func190 call190 ntmps190 results190 λS=>?_;conv=>whnf
 have h0:(((l.map DWrite.ds).length:Int) !=((l.map DWrite.ds).length:Int))=false:=neI _;repeat'(first|refine awz ?_|fail)
 refine X5 (λk:Nat=>k<=l.length) (4::5::rg 11 16) (λk=>[(5,vI .i64 (k:Int))]) (λk=>[]) (λk=>l.length-k) 0 ac ?_ X4 (λk hR=>?_)<;>(conv=>whnf)
 ·exact whd
 ·repeat'(first|refine awz ?_|exact rr|refine tB ?_ ?_|(intro h;conv=>whnf))
  ·have hlt:k<l.length:=ari;(refine X9 aN 6 8 bG bz ae ae ae rfl ?_;conv=>whnf)
   repeat'((first|refine awz ?_|refine Yg hlt ?_|refine cP (EN _ (hs.2 _ (List.getElem_mem hlt))) ?_|refine X3 ari ari ?_|fail)<;>conv=>whnf)
   refine bd.mk ⟨k+1,hlt,ac,?_,X4⟩;exact hds
theorem BB(x:DDisk)(hs:Yp 1048576 x):aM av 93 [.agg x.ds,.agg x.ds] (rB true):=by
 refine pO func93 call93 ntmps93 results93 λS=>?_;conv=>whnf
 repeat'((first|refine awz ?_|refine XZ (Iz x.kept ⟨hs.1,hs.2.1⟩) rfl ?_|refine XZ (Lr x.wait ⟨hs.2.2.1,hs.2.2.2⟩) rfl ?_|exact rr|fail)<;>conv=>whnf)
theorem RT(x:DTwo)(hs:YA 1048576 x):aM av 88 [.agg x.ds,.agg x.ds] (rB true):=by
 refine pO func88 call88 ntmps88 results88 λS=>?_;conv=>whnf
 repeat'((first|refine awz ?_|refine XZ (BB x.a hs.1) rfl ?_|refine XZ (BB x.b hs.2) rfl ?_|exact rr|fail)<;>conv=>whnf)
theorem IC(x:DMark):aM av 187 [.agg x.ds,.agg x.ds] (rB true):=by
 refine pO func187 call187 ntmps187 results187 λS=>?_;conv=>whnf
 have h1:=neI x.client;have h2:=neI x.seq;have h3:=neI x.index;repeat'(first|refine awz ?_|exact rr|fail)
theorem EL(l:(List DMark))(hs:l.length<=1048576):aM av 91 [.one (.sl (l.map DMark.ds)),.one (.sl (l.map DMark.ds))] (rB true):=by
 have hl:l.length<=1048576:=hs;refine pO func91 call91 ntmps91 results91 λS=>?_;conv=>whnf
 have h0:(((l.map DMark.ds).length:Int) !=((l.map DMark.ds).length:Int))=false:=neI _;repeat'(first|refine awz ?_|fail)
 refine X5 (λk:Nat=>k<=l.length) (4::5::rg 11 16) (λk=>[(5,vI .i64 (k:Int))]) (λk=>[]) (λk=>l.length-k) 0 ac ?_ X4 (λk hR=>?_)<;>(conv=>whnf)
 ·exact whd
 ·repeat'(first|refine awz ?_|exact rr|refine tB ?_ ?_|(intro h;conv=>whnf))
  ·have hlt:k<l.length:=ari;(refine X9 aN 6 8 bG bz ae ae ae rfl ?_;conv=>whnf)
   repeat'((first|refine awz ?_|refine Yg hlt ?_|refine cP (IC _) ?_|refine X3 ari ari ?_|fail)<;>conv=>whnf)
   refine bd.mk ⟨k+1,hlt,ac,?_,X4⟩;exact hds
theorem Iy(x:DHead)(hs:Yo 1048576 x):aM av 89 [.agg x.ds,.agg x.ds] (rB true):=by
 refine pO func89 call89 ntmps89 results89 λS=>?_;conv=>whnf
 have h1:=neI x.num;have h2:=neI x.base;have h3:=neI x.time;repeat'(first|refine awz ?_|(refine XZ (EL x.seen hs) rfl ?_;conv=>whnf)|exact rr|fail)
theorem Lq(x:DOp):aM av 96 [.agg x.ds,.agg x.ds] (rB true):=by
 refine pO func96 call96 ntmps96 results96 λS=>?_;conv=>whnf
 have h1:=neI x.kind;have h2:=neI x.a;have h3:=neI x.b;have h4:=neI x.c;have h5:=neI x.d;repeat'(first|refine awz ?_|exact rr|fail)
theorem EK(x:DEntry):aM av 305 [.agg x.ds,.agg x.ds] (rB true):=by
 refine pO func305 call305 ntmps305 results305 λS=>?_;conv=>whnf
 have h1:=neI x.index;have h2:=neI x.time;have h3:=neI x.client;have h4:=neI x.seq;repeat'(first|refine awz ?_|(refine XZ (Lq x.op) rfl ?_;conv=>whnf)|exact rr|fail)
theorem Lp(l:(List DEntry))(hs:l.length<=1048576):aM av 186 [.one (.sl (l.map DEntry.ds)),.one (.sl (l.map DEntry.ds))] (rB true):=by
 have hl:l.length<=1048576:=hs;refine pO func186 call186 ntmps186 results186 λS=>?_;conv=>whnf
 have h0:(((l.map DEntry.ds).length:Int) !=((l.map DEntry.ds).length:Int))=false:=neI _;repeat'(first|refine awz ?_|fail)
 refine X5 (λk:Nat=>k<=l.length) (4::5::rg 11 16) (λk=>[(5,vI .i64 (k:Int))]) (λk=>[]) (λk=>l.length-k) 0 ac ?_ X4 (λk hR=>?_)<;>(conv=>whnf)
 ·exact whd
 ·repeat'(first|refine awz ?_|exact rr|refine tB ?_ ?_|(intro h;conv=>whnf))
  ·have hlt:k<l.length:=ari;(refine X9 aN 6 8 bG bz ae ae ae rfl ?_;conv=>whnf)
   repeat'((first|refine awz ?_|refine Yg hlt ?_|refine cP (EK _) ?_|refine X3 ari ari ?_|fail)<;>conv=>whnf)
   refine bd.mk ⟨k+1,hlt,ac,?_,X4⟩;exact hds
theorem PP(x:DBook)(hs:Yx 1048576 x):aM av 90 [.agg x.ds,.agg x.ds] (rB true):=by
 refine pO func90 call90 ntmps90 results90 λS=>?_;conv=>whnf
 have h1:=neI x.base;have h2:=neI x.time;repeat'(first|refine awz ?_|(refine XZ (Lp x.entries hs) rfl ?_;conv=>whnf)|exact rr|fail)
theorem MN(x:DAck):aM av 188 [.agg x.ds,.agg x.ds] (rB true):=by
 refine pO func188 call188 ntmps188 results188 λS=>?_;conv=>whnf
 have h1:=neI x.client;have h2:=neI x.seq;have h3:=neI x.index;have h4:=neI x.last;repeat'(first|refine awz ?_|exact rr|fail)
theorem PO(l:(List DAck))(hs:l.length<=1048576):aM av 92 [.one (.sl (l.map DAck.ds)),.one (.sl (l.map DAck.ds))] (rB true):=by
 have hl:l.length<=1048576:=hs;refine pO func92 call92 ntmps92 results92 λS=>?_;conv=>whnf
 have h0:(((l.map DAck.ds).length:Int) !=((l.map DAck.ds).length:Int))=false:=neI _;repeat'(first|refine awz ?_|fail)
 refine X5 (λk:Nat=>k<=l.length) (4::5::rg 11 16) (λk=>[(5,vI .i64 (k:Int))]) (λk=>[]) (λk=>l.length-k) 0 ac ?_ X4 (λk hR=>?_)<;>(conv=>whnf)
 ·exact whd
 ·repeat'(first|refine awz ?_|exact rr|refine tB ?_ ?_|(intro h;conv=>whnf))
  ·have hlt:k<l.length:=ari;(refine X9 aN 6 8 bG bz ae ae ae rfl ?_;conv=>whnf)
   repeat'((first|refine awz ?_|refine Yg hlt ?_|refine cP (MN _) ?_|refine X3 ari ari ?_|fail)<;>conv=>whnf)
   refine bd.mk ⟨k+1,hlt,ac,?_,X4⟩;exact hds
theorem IB(x:DLogNode)(hs:Yq 1048576 x):aM av 29 [.agg x.ds,.agg x.ds] (rB true):=by
 refine pO func29 call29 ntmps29 results29 λS=>?_;conv=>whnf
 have h4:(!(x.more==x.more))=false:=neB _;have h7:=neI x.durable;repeat'((first|refine awz ?_|refine XZ (RT x.two hs.1) rfl ?_|refine XZ (Iy x.head hs.2.1) rfl ?_|refine XZ (Iy x.nxt hs.2.2.1) rfl ?_|refine XZ (PP x.book hs.2.2.2.1) rfl ?_|refine XZ (EL x.seen hs.2.2.2.2.1) rfl ?_|refine XZ (PO x.owe hs.2.2.2.2.2) rfl ?_|exact rr|fail)<;>conv=>whnf)
theorem ID(x:DPair):aM av 307 [.agg x.ds,.agg x.ds] (rB true):=by
 refine pO func307 call307 ntmps307 results307 λS=>?_;conv=>whnf
 have h1:=neI x.key;have h2:=neI x.value;repeat'(first|refine awz ?_|exact rr|fail)
theorem N3(l:(List DPair))(hs:l.length<=1048576):aM av 191 [.one (.sl (l.map DPair.ds)),.one (.sl (l.map DPair.ds))] (rB true):=by
 have hl:l.length<=1048576:=hs;refine pO func191 call191 ntmps191 results191 λS=>?_;conv=>whnf
 have h0:(((l.map DPair.ds).length:Int) !=((l.map DPair.ds).length:Int))=false:=neI _;repeat'(first|refine awz ?_|fail)
 refine X5 (λk:Nat=>k<=l.length) (4::5::rg 11 16) (λk=>[(5,vI .i64 (k:Int))]) (λk=>[]) (λk=>l.length-k) 0 ac ?_ X4 (λk hR=>?_)<;>(conv=>whnf)
 ·exact whd
 ·repeat'(first|refine awz ?_|exact rr|refine tB ?_ ?_|(intro h;conv=>whnf))
  ·have hlt:k<l.length:=ari;(refine X9 aN 6 8 bG bz ae ae ae rfl ?_;conv=>whnf)
   repeat'((first|refine awz ?_|refine Yg hlt ?_|refine cP (ID _) ?_|refine X3 ari ari ?_|fail)<;>conv=>whnf)
   refine bd.mk ⟨k+1,hlt,ac,?_,X4⟩;exact hds
theorem MQ(x:DJob):aM av 308 [.agg x.ds,.agg x.ds] (rB true):=by
 refine pO func308 call308 ntmps308 results308 λS=>?_;conv=>whnf
 have h1:=neI x.id;have h2:=neI x.due;have h3:=neI x.key;have h4:=neI x.value;have h5:=neI x.fired;repeat'(first|refine awz ?_|exact rr|fail)
theorem PT(l:(List DJob))(hs:l.length<=1048576):aM av 192 [.one (.sl (l.map DJob.ds)),.one (.sl (l.map DJob.ds))] (rB true):=by
 have hl:l.length<=1048576:=hs;refine pO func192 call192 ntmps192 results192 λS=>?_;conv=>whnf
 have h0:(((l.map DJob.ds).length:Int) !=((l.map DJob.ds).length:Int))=false:=neI _;repeat'(first|refine awz ?_|fail)
 refine X5 (λk:Nat=>k<=l.length) (4::5::rg 11 16) (λk=>[(5,vI .i64 (k:Int))]) (λk=>[]) (λk=>l.length-k) 0 ac ?_ X4 (λk hR=>?_)<;>(conv=>whnf)
 ·exact whd
 ·repeat'(first|refine awz ?_|exact rr|refine tB ?_ ?_|(intro h;conv=>whnf))
  ·have hlt:k<l.length:=ari;(refine X9 aN 6 8 bG bz ae ae ae rfl ?_;conv=>whnf)
   repeat'((first|refine awz ?_|refine Yg hlt ?_|refine cP (MQ _) ?_|refine X3 ari ari ?_|fail)<;>conv=>whnf)
   refine bd.mk ⟨k+1,hlt,ac,?_,X4⟩;exact hds
theorem N1(x:DLease):aM av 193 [.agg x.ds,.agg x.ds] (rB true):=by
 refine pO func193 call193 ntmps193 results193 λS=>?_;conv=>whnf
 have h1:=neI x.holder;have h2:=neI x.epoch;have h3:=neI x.til;repeat'(first|refine awz ?_|exact rr|fail)
theorem N4(x:DState)(hs:Yt 1048576 x):aM av 94 [.agg x.ds,.agg x.ds] (rB true):=by
 refine pO func94 call94 ntmps94 results94 λS=>?_;conv=>whnf
 have h1:=neI x.index;have h2:=neI x.time;repeat'((first|refine awz ?_|refine XZ (N3 x.pairs hs.1) rfl ?_|refine XZ (PT x.jobs hs.2) rfl ?_|refine XZ (N1 x.lease) rfl ?_|exact rr|fail)<;>conv=>whnf)
theorem N5(x:DStore)(hs:Yv 1048576 x):aM av 30 [.agg x.ds,.agg x.ds] (rB true):=by
 refine pO func30 call30 ntmps30 results30 λS=>?_;conv=>whnf
 have h3:=neI x.num;have h4:=neI x.last;have h5:=neI x.busy;repeat'((first|refine awz ?_|refine XZ (BB x.disk hs.1) rfl ?_|refine XZ (N4 x.state hs.2) rfl ?_|exact rr|fail)<;>conv=>whnf)
theorem MO(x:DDue):aM av 397 [.agg x.ds,.agg x.ds] (rB true):=by
 refine pO func397 call397 ntmps397 results397 λS=>?_;conv=>whnf
 have h1:=neI x.id;have h2:=neI x.due;repeat'(first|refine awz ?_|exact rr|fail)
theorem PQ(l:(List DDue))(hs:l.length<=1048576):aM av 309 [.one (.sl (l.map DDue.ds)),.one (.sl (l.map DDue.ds))] (rB true):=by
 have hl:l.length<=1048576:=hs;refine pO func309 call309 ntmps309 results309 λS=>?_;conv=>whnf
 have h0:(((l.map DDue.ds).length:Int) !=((l.map DDue.ds).length:Int))=false:=neI _;repeat'(first|refine awz ?_|fail)
 refine X5 (λk:Nat=>k<=l.length) (4::5::rg 11 16) (λk=>[(5,vI .i64 (k:Int))]) (λk=>[]) (λk=>l.length-k) 0 ac ?_ X4 (λk hR=>?_)<;>(conv=>whnf)
 ·exact whd
 ·repeat'(first|refine awz ?_|exact rr|refine tB ?_ ?_|(intro h;conv=>whnf))
  ·have hlt:k<l.length:=ari;(refine X9 aN 6 8 bG bz ae ae ae rfl ?_;conv=>whnf)
   repeat'((first|refine awz ?_|refine Yg hlt ?_|refine cP (MO _) ?_|refine X3 ari ari ?_|fail)<;>conv=>whnf)
   refine bd.mk ⟨k+1,hlt,ac,?_,X4⟩;exact hds
theorem PU(x:DJobs)(hs:YE 1048576 x):aM av 194 [.agg x.ds,.agg x.ds] (rB true):=by
 refine pO func194 call194 ntmps194 results194 λS=>?_;conv=>whnf
 have h1:=neI x.index;have h2:=neI x.time;have h3:=neI x.holder;have h4:=neI x.epoch;have h5:=neI x.til;repeat'(first|refine awz ?_|(refine XZ (PQ x.opens hs) rfl ?_;conv=>whnf)|exact rr|fail)
theorem PW(x:DView)(hs:YC 1048576 x):aM av 95 [.agg x.ds,.agg x.ds] (rB true):=by
 refine pO func95 call95 ntmps95 results95 λS=>?_;conv=>whnf
 repeat'(first|refine awz ?_|(refine XZ (PU x.jobs hs) rfl ?_;conv=>whnf)|exact rr|fail)
theorem EM(x:DSched)(hs:Yr 1048576 x):aM av 31 [.agg x.ds,.agg x.ds] (rB true):=by
 refine pO func31 call31 ntmps31 results31 λS=>?_;conv=>whnf
 have h1:=neI x.id;have h2:=neI x.seq;have h4:(!(x.busy==x.busy))=false:=neB _;have h6:=neI x.index;repeat'((first|refine awz ?_|refine XZ (PW x.view hs) rfl ?_|refine XZ (Lq x.op) rfl ?_|exact rr|fail)<;>conv=>whnf)
theorem IE(x:DWant):aM av 195 [.agg x.ds,.agg x.ds] (rB true):=by
 refine pO func195 call195 ntmps195 results195 λS=>?_;conv=>whnf
 have h1:=neI x.kind;have h3:=neI x.key;repeat'(first|refine awz ?_|(refine XZ (Lq x.op) rfl ?_;conv=>whnf)|exact rr|fail)
theorem N6(l:(List DWant))(hs:l.length<=1048576):aM av 97 [.one (.sl (l.map DWant.ds)),.one (.sl (l.map DWant.ds))] (rB true):=by
 have hl:l.length<=1048576:=hs;refine pO func97 call97 ntmps97 results97 λS=>?_;conv=>whnf
 have h0:(((l.map DWant.ds).length:Int) !=((l.map DWant.ds).length:Int))=false:=neI _;repeat'(first|refine awz ?_|fail)
 refine X5 (λk:Nat=>k<=l.length) (4::5::rg 11 16) (λk=>[(5,vI .i64 (k:Int))]) (λk=>[]) (λk=>l.length-k) 0 ac ?_ X4 (λk hR=>?_)<;>(conv=>whnf)
 ·exact whd
 ·repeat'(first|refine awz ?_|exact rr|refine tB ?_ ?_|(intro h;conv=>whnf))
  ·have hlt:k<l.length:=ari;(refine X9 aN 6 8 bG bz ae ae ae rfl ?_;conv=>whnf)
   repeat'((first|refine awz ?_|refine Yg hlt ?_|refine cP (IE _) ?_|refine X3 ari ari ?_|fail)<;>conv=>whnf)
   refine bd.mk ⟨k+1,hlt,ac,?_,X4⟩;exact hds
theorem MP(x:DGot):aM av 196 [.agg x.ds,.agg x.ds] (rB true):=by
 refine pO func196 call196 ntmps196 results196 λS=>?_;conv=>whnf
 have h1:=neI x.seq;have h2:=neI x.index;have h3:=neI x.has;have h4:=neI x.value;repeat'(first|refine awz ?_|exact rr|fail)
theorem PR(l:(List DGot))(hs:l.length<=1048576):aM av 98 [.one (.sl (l.map DGot.ds)),.one (.sl (l.map DGot.ds))] (rB true):=by
 have hl:l.length<=1048576:=hs;refine pO func98 call98 ntmps98 results98 λS=>?_;conv=>whnf
 have h0:(((l.map DGot.ds).length:Int) !=((l.map DGot.ds).length:Int))=false:=neI _;repeat'(first|refine awz ?_|fail)
 refine X5 (λk:Nat=>k<=l.length) (4::5::rg 11 16) (λk=>[(5,vI .i64 (k:Int))]) (λk=>[]) (λk=>l.length-k) 0 ac ?_ X4 (λk hR=>?_)<;>(conv=>whnf)
 ·exact whd
 ·repeat'(first|refine awz ?_|exact rr|refine tB ?_ ?_|(intro h;conv=>whnf))
  ·have hlt:k<l.length:=ari;(refine X9 aN 6 8 bG bz ae ae ae rfl ?_;conv=>whnf)
   repeat'((first|refine awz ?_|refine Yg hlt ?_|refine cP (MP _) ?_|refine X3 ari ari ?_|fail)<;>conv=>whnf)
   refine bd.mk ⟨k+1,hlt,ac,?_,X4⟩;exact hds
theorem BA(x:DClient)(hs:Ys 1048576 x):aM av 32 [.agg x.ds,.agg x.ds] (rB true):=by
 refine pO func32 call32 ntmps32 results32 λS=>?_;conv=>whnf
 have h1:=neI x.id;have h4:=neI x.last;repeat'((first|refine awz ?_|refine XZ (N6 x.todo hs.1) rfl ?_|refine XZ (PR x.gots hs.2) rfl ?_|exact rr|fail)<;>conv=>whnf)
theorem MR(x:DMsg)(hs:Yy 1048576 x):aM av 197 [.agg x.ds,.agg x.ds] (rB true):=by
 refine pO func197 call197 ntmps197 results197 λS=>?_;conv=>whnf
 have h1:=neI x.frm;have h2:=neI x.to_;repeat'(first|refine awz ?_|(refine XZ (mT x.row hs) rfl ?_;conv=>whnf)|exact rr|fail)
theorem PV(l:(List DMsg))(hs:l.length<=1048576/\∀y∈l,Yy 1048576 y):aM av 99 [.one (.sl (l.map DMsg.ds)),.one (.sl (l.map DMsg.ds))] (rB true):=by
 have hl:l.length<=1048576:=hs.1;refine pO func99 call99 ntmps99 results99 λS=>?_;conv=>whnf
 have h0:(((l.map DMsg.ds).length:Int) !=((l.map DMsg.ds).length:Int))=false:=neI _;repeat'(first|refine awz ?_|fail)
 refine X5 (λk:Nat=>k<=l.length) (4::5::rg 11 16) (λk=>[(5,vI .i64 (k:Int))]) (λk=>[]) (λk=>l.length-k) 0 ac ?_ X4 (λk hR=>?_)<;>(conv=>whnf)
 ·exact whd
 ·repeat'(first|refine awz ?_|exact rr|refine tB ?_ ?_|(intro h;conv=>whnf))
  ·have hlt:k<l.length:=ari;(refine X9 aN 6 8 bG bz ae ae ae rfl ?_;conv=>whnf)
   repeat'((first|refine awz ?_|refine Yg hlt ?_|refine cP (MR _ (hs.2 _ (List.getElem_mem hlt))) ?_|refine X3 ari ari ?_|fail)<;>conv=>whnf)
   refine bd.mk ⟨k+1,hlt,ac,?_,X4⟩;exact hds
theorem IA(x:DLink):aM av 198 [.agg x.ds,.agg x.ds] (rB true):=by
 refine pO func198 call198 ntmps198 results198 λS=>?_;conv=>whnf
 have h1:=neI x.a;have h2:=neI x.b;repeat'(first|refine awz ?_|exact rr|fail)
theorem N2(l:(List DLink))(hs:l.length<=1048576):aM av 100 [.one (.sl (l.map DLink.ds)),.one (.sl (l.map DLink.ds))] (rB true):=by
 have hl:l.length<=1048576:=hs;refine pO func100 call100 ntmps100 results100 λS=>?_;conv=>whnf
 have h0:(((l.map DLink.ds).length:Int) !=((l.map DLink.ds).length:Int))=false:=neI _;repeat'(first|refine awz ?_|fail)
 refine X5 (λk:Nat=>k<=l.length) (4::5::rg 11 16) (λk=>[(5,vI .i64 (k:Int))]) (λk=>[]) (λk=>l.length-k) 0 ac ?_ X4 (λk hR=>?_)<;>(conv=>whnf)
 ·exact whd
 ·repeat'(first|refine awz ?_|exact rr|refine tB ?_ ?_|(intro h;conv=>whnf))
  ·have hlt:k<l.length:=ari;(refine X9 aN 6 8 bG bz ae ae ae rfl ?_;conv=>whnf)
   repeat'((first|refine awz ?_|refine Yg hlt ?_|refine cP (IA _) ?_|refine X3 ari ari ?_|fail)<;>conv=>whnf)
   refine bd.mk ⟨k+1,hlt,ac,?_,X4⟩;exact hds
theorem RS(x:DNet)(hs:Yz 1048576 x):aM av 33 [.agg x.ds,.agg x.ds] (rB true):=by
 refine pO func33 call33 ntmps33 results33 λS=>?_;conv=>whnf
 repeat'((first|refine awz ?_|refine XZ (PV x.flight ⟨hs.1,hs.2.1⟩) rfl ?_|refine XZ (N2 x.cuts hs.2.2) rfl ?_|exact rr|fail)<;>conv=>whnf)
theorem N0(l:(List Bool))(hs:l.length<=1048576):aM av 35 [.one (.sl (l.map eB)),.one (.sl (l.map eB))] (rB true):=by
 have hl:l.length<=1048576:=hs;refine pO func35 call35 ntmps35 results35 λS=>?_;conv=>whnf
 have h0:(((l.map eB).length:Int) !=((l.map eB).length:Int))=false:=neI _;repeat'(first|refine awz ?_|fail)
 refine X5 (λk:Nat=>k<=l.length) (4::5::rg 11 15) (λk=>[(5,vI .i64 (k:Int))]) (λk=>[]) (λk=>l.length-k) 0 ac ?_ X4 (λk hR=>?_)<;>(conv=>whnf)
 ·exact whd
 ·repeat'(first|refine awz ?_|exact rr|refine tB ?_ ?_|(intro h;conv=>whnf))
  ·have hlt:k<l.length:=ari;have hne:(!(l[k]==l[k]))=false:=neB _;(refine X9 aN 6 8 km bz ae ae ae rfl ?_;conv=>whnf)
   repeat'((first|refine awz ?_|refine Yg hlt ?_|refine X3 ari ari ?_|fail)<;>conv=>whnf)
   refine bd.mk ⟨k+1,hlt,ac,?_,X4⟩;exact hds
theorem oY(x:DWorld)(hs:Ym 1048576 x):aM av 8 [.agg x.ds,.agg x.ds] (rB true):=by
 refine pO func8 call8 ntmps8 results8 λS=>?_;conv=>whnf
 repeat'((first|refine awz ?_|refine XZ (IB x.log hs.1) rfl ?_|refine XZ (N5 x.store hs.2.1) rfl ?_|refine XZ (EM x.left hs.2.2.1) rfl ?_|refine XZ (EM x.right hs.2.2.2.1) rfl ?_|refine XZ (BA x.ann hs.2.2.2.2.1) rfl ?_|refine XZ (BA x.bob hs.2.2.2.2.2.1) rfl ?_|refine XZ (RS x.net hs.2.2.2.2.2.2.1) rfl ?_|refine XZ (mT x.clocks hs.2.2.2.2.2.2.2.1) rfl ?_|refine XZ (N0 x.up hs.2.2.2.2.2.2.2.2) rfl ?_|exact rr|fail)<;>conv=>whnf)
section
section
variable {α:Type} {l:List α} {p:α->Bool}
end
end
theorem Da(l:List DJob)(h:l.length<=1048576):aM av 342 [.one (.sl (l.map DJob.ds))] (.val (.one (.sl (l.map DJob.ds)))):=by
 refine pO func342 call342 ntmps342 results342 λS=>?_;conv=>whnf
 repeat'((first|refine awz ?_|refine aI (by first|(intro y hy;obtain⟨a,_,rfl⟩:=List.mem_map.1 hy;rfl)|(simp;done)) ?_|refine aJ ao ?_|exact rZ|fail)<;>conv=>whnf)
theorem C9(l:List DPair)(h:l.length<=1048576):aM av 341 [.one (.sl (l.map DPair.ds))] (.val (.one (.sl (l.map DPair.ds)))):=by
 refine pO func341 call341 ntmps341 results341 λS=>?_;conv=>whnf
 repeat'((first|refine awz ?_|refine aI (by first|(intro y hy;obtain⟨a,_,rfl⟩:=List.mem_map.1 hy;rfl)|(simp;done)) ?_|refine aJ ao ?_|exact rZ|fail)<;>conv=>whnf)
theorem oq{s:DState}(h:cn s=true):s.pairs.length<=10/\s.jobs.length<=8/\(0<=s.index/\s.index<=2000)/\(0<=s.time/\s.time<=1000000):=by
 obtain⟨h1,h2,h3,h4,_⟩:=dm h;exact⟨jY h3,(xd h4).1,h1,h2⟩
theorem Db(s:DState)(h:Yt 1048576 s):aM av 255 [.agg s.ds] (.val (.agg s.ds)):=by
 refine pO func255 call255 ntmps255 results255 λS=>?_;conv=>whnf
 repeat'((first|refine awz ?_|refine cP (C9 s.pairs h.1) ?_|refine cP (Da s.jobs h.2) ?_|exact rZ|fail)<;>conv=>whnf)
theorem Is:Tryz.prog.cellsOf 285=2:=by kernel_rfl
theorem D9:dP Tryz.prog 285 Y7:=by
 intro H enc w base spare held fuel cs y h;obtain⟨ys,n,_,_,hl,hyl,hf⟩:=DataW.trod_struct underlying285 h;rw[Is]at hl;have hk:=
  aX (o:=0) (s:=1) (ba underlying2) (hf 0 _ rfl) (bc hyl ah) rfl ae
  (cC (o:=1) (s:=1) (dO underlying62 ae (ba underlying2)) (hf 1 _ rfl) (bc hyl ah) rfl ae hl)
 obtain⟨⟨a0,a1⟩,F,hk⟩:=hk;exact⟨⟨a0,a1⟩,F,hk⟩
theorem K8:Tryz.prog.cellsOf 25=2:=by kernel_rfl
theorem qK:dP Tryz.prog 25 YV:=by
 intro H enc w base spare held fuel cs y h;obtain⟨ys,n,_,_,hl,hyl,hf⟩:=DataW.trod_struct underlying25 h;rw[K8]at hl;have hk:=
  aX (o:=0) (s:=1) (dO underlying22 ae (dO underlying62 ae (ba underlying2))) (hf 0 _ rfl) (bc hyl ah) rfl ae
  (cC (o:=1) (s:=1) (dO underlying23 ae D9) (hf 1 _ rfl) (bc hyl ah) rfl ae hl)
 obtain⟨⟨a0,a1⟩,F,hk⟩:=hk;exact⟨⟨a0,a1⟩,F,hk⟩
theorem NU:Tryz.prog.cellsOf 27=4:=by kernel_rfl
theorem KD:dP Tryz.prog 27 Zt:=by
 intro H enc w base spare held fuel cs y h;obtain⟨ys,n,_,_,hl,hyl,hf⟩:=DataW.trod_struct underlying27 h;rw[NU]at hl;have hk:=
  aX (o:=0) (s:=2) qK (hf 0 _ rfl) (bc hyl ah) rfl ae
  (cC (o:=2) (s:=2) qK (hf 1 _ rfl) (bc hyl ah) rfl ae hl)
 obtain⟨⟨a0,a1⟩,F,hk⟩:=hk;exact⟨⟨a0,a1⟩,F,hk⟩
theorem Lc:Tryz.prog.cellsOf 238=3:=by kernel_rfl
theorem xC:dP Tryz.prog 238 Zh:=by
 intro H enc w base spare held fuel cs y h;obtain⟨ys,n,_,_,hl,hyl,hf⟩:=DataW.trod_struct underlying238 h;rw[Lc]at hl;have hk:=
  aX (o:=0) (s:=1) (ba underlying2) (hf 0 _ rfl) (bc hyl ah) rfl ae
  (aX (o := 1) (s := 1) (ba underlying2) (hf 1 _ rfl) (bc hyl ah) rfl ae
  (cC (o:=2) (s:=1) (ba underlying2) (hf 2 _ rfl) (bc hyl ah) rfl ae hl))
 obtain⟨⟨a0,a1,a2⟩,F,hk⟩:=hk;exact⟨⟨a0,a1,a2⟩,F,hk⟩
theorem K9:Tryz.prog.cellsOf 30=4:=by kernel_rfl
theorem xB:dP Tryz.prog 30 Y3:=by
 intro H enc w base spare held fuel cs y h;obtain⟨ys,n,_,_,hl,hyl,hf⟩:=DataW.trod_struct underlying30 h;rw[K9]at hl;have hk:=
  aX (o:=0) (s:=1) (ba underlying2) (hf 0 _ rfl) (bc hyl ah) rfl ae
  (aX (o := 1) (s := 1) (ba underlying2) (hf 1 _ rfl) (bc hyl ah) rfl ae
  (aX (o := 2) (s := 1) (ba underlying2) (hf 2 _ rfl) (bc hyl ah) rfl ae
  (cC (o:=3) (s:=1) (dO underlying28 ae xC) (hf 3 _ rfl) (bc hyl ah) rfl ae hl)))
 obtain⟨⟨a0,a1,a2,a3⟩,F,hk⟩:=hk;exact⟨⟨a0,a1,a2,a3⟩,F,hk⟩
theorem K7:Tryz.prog.cellsOf 33=3:=by kernel_rfl
theorem HR:dP Tryz.prog 33 Zf:=by
 intro H enc w base spare held fuel cs y h;obtain⟨ys,n,_,_,hl,hyl,hf⟩:=DataW.trod_struct underlying33 h;rw[K7]at hl;have hk:=
  aX (o:=0) (s:=1) (ba underlying2) (hf 0 _ rfl) (bc hyl ah) rfl ae
  (aX (o := 1) (s := 1) (ba underlying2) (hf 1 _ rfl) (bc hyl ah) rfl ae
  (cC (o:=2) (s:=1) (dO underlying31 ae D4) (hf 2 _ rfl) (bc hyl ah) rfl ae hl))
 obtain⟨⟨a0,a1,a2⟩,F,hk⟩:=hk;exact⟨⟨a0,a1,a2⟩,F,hk⟩
theorem NO:Tryz.prog.cellsOf 242=4:=by kernel_rfl
theorem Kx:dP Tryz.prog 242 ZV:=by
 intro H enc w base spare held fuel cs y h;obtain⟨ys,n,_,_,hl,hyl,hf⟩:=DataW.trod_struct underlying242 h;rw[NO]at hl;have hk:=
  aX (o:=0) (s:=1) (ba underlying2) (hf 0 _ rfl) (bc hyl ah) rfl ae
  (aX (o := 1) (s := 1) (ba underlying2) (hf 1 _ rfl) (bc hyl ah) rfl ae
  (aX (o := 2) (s := 1) (ba underlying2) (hf 2 _ rfl) (bc hyl ah) rfl ae
  (cC (o:=3) (s:=1) (ba underlying2) (hf 3 _ rfl) (bc hyl ah) rfl ae hl)))
 obtain⟨⟨a0,a1,a2,a3⟩,F,hk⟩:=hk;exact⟨⟨a0,a1,a2,a3⟩,F,hk⟩
theorem DB:Tryz.prog.cellsOf 36=19:=by kernel_rfl
theorem zV:dP Tryz.prog 36 YT:=by
 intro H enc w base spare held fuel cs y h;obtain⟨ys,n,_,_,hl,hyl,hf⟩:=DataW.trod_struct underlying36 h;rw[DB]at hl;have hk:=
  aX (o:=0) (s:=4) KD (hf 0 _ rfl) (bc hyl ah) rfl ae
  (aX (o := 4) (s := 4) xB (hf 1 _ rfl) (bc hyl ah) rfl ae
  (aX (o := 8) (s := 4) xB (hf 2 _ rfl) (bc hyl ah) rfl ae
  (aX (o := 12) (s := 1) (tI underlying4) (hf 3 _ rfl) (bc hyl ah) rfl ae
  (aX (o := 13) (s := 3) HR (hf 4 _ rfl) (bc hyl ah) rfl ae
  (aX (o := 16) (s := 1) (dO underlying28 ae xC) (hf 5 _ rfl) (bc hyl ah) rfl ae
  (aX (o := 17) (s := 1) (ba underlying2) (hf 6 _ rfl) (bc hyl ah) rfl ae
  (cC (o:=18) (s:=1) (dO underlying34 ae Kx) (hf 7 _ rfl) (bc hyl ah) rfl ae hl)))))))
 obtain⟨⟨a0,a1,a2,a3,a4,a5,a6,a7⟩,F,hk⟩:=hk;exact⟨⟨a0,a1,a2,a3,a4,a5,a6,a7⟩,F,hk⟩
theorem Ld:Tryz.prog.cellsOf 341=2:=by kernel_rfl
theorem HV:dP Tryz.prog 341 ZC:=by
 intro H enc w base spare held fuel cs y h;obtain⟨ys,n,_,_,hl,hyl,hf⟩:=DataW.trod_struct underlying341 h;rw[Ld]at hl;have hk:=
  aX (o:=0) (s:=1) (ba underlying2) (hf 0 _ rfl) (bc hyl ah) rfl ae
  (cC (o:=1) (s:=1) (ba underlying2) (hf 1 _ rfl) (bc hyl ah) rfl ae hl)
 obtain⟨⟨a0,a1⟩,F,hk⟩:=hk;exact⟨⟨a0,a1⟩,F,hk⟩
theorem NR:Tryz.prog.cellsOf 345=5:=by kernel_rfl
theorem KA:dP Tryz.prog 345 ZY:=by
 intro H enc w base spare held fuel cs y h;obtain⟨ys,n,_,_,hl,hyl,hf⟩:=DataW.trod_struct underlying345 h;rw[NR]at hl;have hk:=
  aX (o:=0) (s:=1) (ba underlying2) (hf 0 _ rfl) (bc hyl ah) rfl ae
  (aX (o := 1) (s := 1) (ba underlying2) (hf 1 _ rfl) (bc hyl ah) rfl ae
  (aX (o := 2) (s := 1) (ba underlying2) (hf 2 _ rfl) (bc hyl ah) rfl ae
  (aX (o := 3) (s := 1) (ba underlying2) (hf 3 _ rfl) (bc hyl ah) rfl ae
  (cC (o:=4) (s:=1) (ba underlying2) (hf 4 _ rfl) (bc hyl ah) rfl ae hl))))
 obtain⟨⟨a0,a1,a2,a3,a4⟩,F,hk⟩:=hk;exact⟨⟨a0,a1,a2,a3,a4⟩,F,hk⟩
theorem In:Tryz.prog.cellsOf 40=3:=by kernel_rfl
theorem D5:dP Tryz.prog 40 Zn:=by
 intro H enc w base spare held fuel cs y h;obtain⟨ys,n,_,_,hl,hyl,hf⟩:=DataW.trod_struct underlying40 h;rw[In]at hl;have hk:=
  aX (o:=0) (s:=1) (ba underlying2) (hf 0 _ rfl) (bc hyl ah) rfl ae
  (aX (o := 1) (s := 1) (ba underlying2) (hf 1 _ rfl) (bc hyl ah) rfl ae
  (cC (o:=2) (s:=1) (ba underlying2) (hf 2 _ rfl) (bc hyl ah) rfl ae hl))
 obtain⟨⟨a0,a1,a2⟩,F,hk⟩:=hk;exact⟨⟨a0,a1,a2⟩,F,hk⟩
theorem Ip:Tryz.prog.cellsOf 42=7:=by kernel_rfl
theorem D6:dP Tryz.prog 42 Y5:=by
 intro H enc w base spare held fuel cs y h;obtain⟨ys,n,_,_,hl,hyl,hf⟩:=DataW.trod_struct underlying42 h;rw[Ip]at hl;have hk:=
  aX (o:=0) (s:=1) (ba underlying2) (hf 0 _ rfl) (bc hyl ah) rfl ae
  (aX (o := 1) (s := 1) (ba underlying2) (hf 1 _ rfl) (bc hyl ah) rfl ae
  (aX (o := 2) (s := 1) (dO underlying37 ae HV) (hf 2 _ rfl) (bc hyl ah) rfl ae
  (aX (o := 3) (s := 1) (dO underlying38 ae KA) (hf 3 _ rfl) (bc hyl ah) rfl ae
  (cC (o:=4) (s:=3) D5 (hf 4 _ rfl) (bc hyl ah) rfl ae hl))))
 obtain⟨⟨a0,a1,a2,a3,a4⟩,F,hk⟩:=hk;exact⟨⟨a0,a1,a2,a3,a4⟩,F,hk⟩
theorem Iq:Tryz.prog.cellsOf 44=12:=by kernel_rfl
theorem D7:dP Tryz.prog 44 Y6:=by
 intro H enc w base spare held fuel cs y h;obtain⟨ys,n,_,_,hl,hyl,hf⟩:=DataW.trod_struct underlying44 h;rw[Iq]at hl;have hk:=
  aX (o:=0) (s:=2) qK (hf 0 _ rfl) (bc hyl ah) rfl ae
  (aX (o := 2) (s := 7) D6 (hf 1 _ rfl) (bc hyl ah) rfl ae
  (aX (o := 9) (s := 1) (ba underlying2) (hf 2 _ rfl) (bc hyl ah) rfl ae
  (aX (o := 10) (s := 1) (ba underlying2) (hf 3 _ rfl) (bc hyl ah) rfl ae
  (cC (o:=11) (s:=1) (ba underlying2) (hf 4 _ rfl) (bc hyl ah) rfl ae hl))))
 obtain⟨⟨a0,a1,a2,a3,a4⟩,F,hk⟩:=hk;exact⟨⟨a0,a1,a2,a3,a4⟩,F,hk⟩
theorem NP:Tryz.prog.cellsOf 394=2:=by kernel_rfl
theorem Ky:dP Tryz.prog 394 ZW:=by
 intro H enc w base spare held fuel cs y h;obtain⟨ys,n,_,_,hl,hyl,hf⟩:=DataW.trod_struct underlying394 h;rw[NP]at hl;have hk:=
  aX (o:=0) (s:=1) (ba underlying2) (hf 0 _ rfl) (bc hyl ah) rfl ae
  (cC (o:=1) (s:=1) (ba underlying2) (hf 1 _ rfl) (bc hyl ah) rfl ae hl)
 obtain⟨⟨a0,a1⟩,F,hk⟩:=hk;exact⟨⟨a0,a1⟩,F,hk⟩
theorem La:Tryz.prog.cellsOf 47=6:=by kernel_rfl
theorem HS:dP Tryz.prog 47 Zg:=by
 intro H enc w base spare held fuel cs y h;obtain⟨ys,n,_,_,hl,hyl,hf⟩:=DataW.trod_struct underlying47 h;rw[La]at hl;have hk:=
  aX (o:=0) (s:=1) (ba underlying2) (hf 0 _ rfl) (bc hyl ah) rfl ae
  (aX (o := 1) (s := 1) (ba underlying2) (hf 1 _ rfl) (bc hyl ah) rfl ae
  (aX (o := 2) (s := 1) (ba underlying2) (hf 2 _ rfl) (bc hyl ah) rfl ae
  (aX (o := 3) (s := 1) (ba underlying2) (hf 3 _ rfl) (bc hyl ah) rfl ae
  (aX (o := 4) (s := 1) (ba underlying2) (hf 4 _ rfl) (bc hyl ah) rfl ae
  (cC (o:=5) (s:=1) (dO underlying45 ae Ky) (hf 5 _ rfl) (bc hyl ah) rfl ae hl)))))
 obtain⟨⟨a0,a1,a2,a3,a4,a5⟩,F,hk⟩:=hk;exact⟨⟨a0,a1,a2,a3,a4,a5⟩,F,hk⟩
theorem Le:Tryz.prog.cellsOf 49=6:=by kernel_rfl
theorem HW:dP Tryz.prog 49 Zi:=by
 intro H enc w base spare held fuel cs y h;obtain⟨ys,n,_,_,hl,hyl,hf⟩:=DataW.trod_struct underlying49 h;rw[Le]at hl;have hk:=
  cC (o:=0) (s:=6) HS (hf 0 _ rfl) (bc hyl ah) rfl ae hl
 obtain⟨a0,F,hk⟩:=hk;exact⟨⟨a0⟩,F,hk⟩
theorem Io:Tryz.prog.cellsOf 53=15:=by kernel_rfl
theorem vt:dP Tryz.prog 53 YW:=by
 intro H enc w base spare held fuel cs y h;obtain⟨ys,n,_,_,hl,hyl,hf⟩:=DataW.trod_struct underlying53 h;rw[Io]at hl;have hk:=
  aX (o:=0) (s:=1) (ba underlying2) (hf 0 _ rfl) (bc hyl ah) rfl ae
  (aX (o := 1) (s := 1) (ba underlying2) (hf 1 _ rfl) (bc hyl ah) rfl ae
  (aX (o := 2) (s := 6) HW (hf 2 _ rfl) (bc hyl ah) rfl ae
  (aX (o := 8) (s := 1) (tI underlying4) (hf 3 _ rfl) (bc hyl ah) rfl ae
  (aX (o := 9) (s := 5) wg (hf 4 _ rfl) (bc hyl ah) rfl ae
  (cC (o:=14) (s:=1) (ba underlying2) (hf 5 _ rfl) (bc hyl ah) rfl ae hl)))))
 obtain⟨⟨a0,a1,a2,a3,a4,a5⟩,F,hk⟩:=hk;exact⟨⟨a0,a1,a2,a3,a4,a5⟩,F,hk⟩
theorem NQ:Tryz.prog.cellsOf 253=4:=by kernel_rfl
theorem Kz:dP Tryz.prog 253 ZX:=by
 intro H enc w base spare held fuel cs y h;obtain⟨ys,n,_,_,hl,hyl,hf⟩:=DataW.trod_struct underlying253 h;rw[NQ]at hl;have hk:=
  aX (o:=0) (s:=1) (ba underlying2) (hf 0 _ rfl) (bc hyl ah) rfl ae
  (aX (o := 1) (s := 1) (ba underlying2) (hf 1 _ rfl) (bc hyl ah) rfl ae
  (aX (o := 2) (s := 1) (ba underlying2) (hf 2 _ rfl) (bc hyl ah) rfl ae
  (cC (o:=3) (s:=1) (ba underlying2) (hf 3 _ rfl) (bc hyl ah) rfl ae hl)))
 obtain⟨⟨a0,a1,a2,a3⟩,F,hk⟩:=hk;exact⟨⟨a0,a1,a2,a3⟩,F,hk⟩
theorem GC:Tryz.prog.cellsOf 57=4:=by kernel_rfl
theorem tH:dP Tryz.prog 57 YQ:=by
 intro H enc w base spare held fuel cs y h;obtain⟨ys,n,_,_,hl,hyl,hf⟩:=DataW.trod_struct underlying57 h;rw[GC]at hl;have hk:=
  aX (o:=0) (s:=1) (ba underlying2) (hf 0 _ rfl) (bc hyl ah) rfl ae
  (aX (o := 1) (s := 1) (dO underlying54 ae HX) (hf 1 _ rfl) (bc hyl ah) rfl ae
  (aX (o := 2) (s := 1) (dO underlying55 ae Kz) (hf 2 _ rfl) (bc hyl ah) rfl ae
  (cC (o:=3) (s:=1) (ba underlying2) (hf 3 _ rfl) (bc hyl ah) rfl ae hl)))
 obtain⟨⟨a0,a1,a2,a3⟩,F,hk⟩:=hk;exact⟨⟨a0,a1,a2,a3⟩,F,hk⟩
theorem NS:Tryz.prog.cellsOf 204=3:=by kernel_rfl
theorem KB:dP Tryz.prog 204 Zq:=by
 intro H enc w base spare held fuel cs y h;obtain⟨ys,n,_,_,hl,hyl,hf⟩:=DataW.trod_struct underlying204 h;rw[NS]at hl;have hk:=
  aX (o:=0) (s:=1) (ba underlying2) (hf 0 _ rfl) (bc hyl ah) rfl ae
  (aX (o := 1) (s := 1) (ba underlying2) (hf 1 _ rfl) (bc hyl ah) rfl ae
  (cC (o:=2) (s:=1) (dO underlying62 ae (ba underlying2)) (hf 2 _ rfl) (bc hyl ah) rfl ae hl))
 obtain⟨⟨a0,a1,a2⟩,F,hk⟩:=hk;exact⟨⟨a0,a1,a2⟩,F,hk⟩
theorem Lb:Tryz.prog.cellsOf 256=2:=by kernel_rfl
theorem HU:dP Tryz.prog 256 ZB:=by
 intro H enc w base spare held fuel cs y h;obtain⟨ys,n,_,_,hl,hyl,hf⟩:=DataW.trod_struct underlying256 h;rw[Lb]at hl;have hk:=
  aX (o:=0) (s:=1) (ba underlying2) (hf 0 _ rfl) (bc hyl ah) rfl ae
  (cC (o:=1) (s:=1) (ba underlying2) (hf 1 _ rfl) (bc hyl ah) rfl ae hl)
 obtain⟨⟨a0,a1⟩,F,hk⟩:=hk;exact⟨⟨a0,a1⟩,F,hk⟩
theorem NT:Tryz.prog.cellsOf 61=2:=by kernel_rfl
theorem KC:dP Tryz.prog 61 Zr:=by
 intro H enc w base spare held fuel cs y h;obtain⟨ys,n,_,_,hl,hyl,hf⟩:=DataW.trod_struct underlying61 h;rw[NT]at hl;have hk:=
  aX (o:=0) (s:=1) (dO underlying58 ae KB) (hf 0 _ rfl) (bc hyl ah) rfl ae
  (cC (o:=1) (s:=1) (dO underlying59 ae HU) (hf 1 _ rfl) (bc hyl ah) rfl ae hl)
 obtain⟨⟨a0,a1⟩,F,hk⟩:=hk;exact⟨⟨a0,a1⟩,F,hk⟩
theorem Ir:Tryz.prog.cellsOf 65=73:=by kernel_rfl
theorem D8:dP Tryz.prog 65 Zo:=by
 intro H enc w base spare held fuel cs y h;obtain⟨ys,n,_,_,hl,hyl,hf⟩:=DataW.trod_struct underlying65 h;rw[Ir]at hl;have hk:=
  aX (o:=0) (s:=19) zV (hf 0 _ rfl) (bc hyl ah) rfl ae
  (aX (o := 19) (s := 12) D7 (hf 1 _ rfl) (bc hyl ah) rfl ae
  (aX (o := 31) (s := 15) vt (hf 2 _ rfl) (bc hyl ah) rfl ae
  (aX (o := 46) (s := 15) vt (hf 3 _ rfl) (bc hyl ah) rfl ae
  (aX (o := 61) (s := 4) tH (hf 4 _ rfl) (bc hyl ah) rfl ae
  (aX (o := 65) (s := 4) tH (hf 5 _ rfl) (bc hyl ah) rfl ae
  (aX (o := 69) (s := 2) KC (hf 6 _ rfl) (bc hyl ah) rfl ae
  (aX (o := 71) (s := 1) (dO underlying62 ae (ba underlying2)) (hf 7 _ rfl) (bc hyl ah) rfl ae
  (cC (o:=72) (s:=1) (dO underlying63 ae (tI underlying4)) (hf 8 _ rfl) (bc hyl ah) rfl ae hl))))))))
 obtain⟨⟨a0,a1,a2,a3,a4,a5,a6,a7,a8⟩,F,hk⟩:=hk;exact⟨⟨a0,a1,a2,a3,a4,a5,a6,a7,a8⟩,F,hk⟩
end Go.Proofs.YtknefkdcokgpbaaGreat
