/- IS3 -/
import Derived.Test.YtknefkdcokgpbaaGreatIW1
import Derived.Test.YtknefkdcokgpbaaGreatRB2
import Derived.Test.YtknefkdcokgpbaaGreatAvFX
import Derived.Test.YtknefkdcokgpbaaGreatWCp
set_option maxHeartbeats 8000000
set_option linter.unusedVariables false
set_option linter.unusedSimpArgs false
set_option maxRecDepth 100000
namespace Go.Proofs.YtknefkdcokgpbaaGreat
open Go.Proofs.Tryz
open Go.ChangeShapes Go.WideShapes Go.RowKit
def ip:List (List Nat):=bZ [0,1,129,12354,0,5,389,28998,2122055,0x40810c91c5188]
def dU:List (List Nat):=fB 9 [19602,19603,19606,19615,80,161,404,1133,3320]
def lY:List (List Nat):=bZ [0,1,129,12354,0,5,389,28998,2122055,0x40810c91c5188,0x2881851c90c1084,0xb10204324714620a,0x30a20614724304210b]
def iq:List (List Nat):=bZ [0,1,129,12354,12354,1318979,101453957,7600607430,556248867143,12354,2629699,185340042,13053202635,0x24714204318834b28c,0x10204338c28b3481851c9,0x30423c91c518834b28c384]
def ir:List (List Nat):=fB 14 [0,1,4,4782901,1574707,1574788,1575031,1575760,1577947,19669,39352,98401,275548,797188]
def lZ:List (List Nat):=bZ [0,1,129,12354,0,5,389,28998,0,9,649,45642,0,203985613,0x10204320614738d2c928c,0xf30a24b34e1c51880c1084,0x4040810c81851ce34b24a30f]
def ma:List (List Nat):=fB 14 [4782888,4782889,4782892,4782901,4776488,4776569,4776812,4777541,1069442,1076003,1095686,1154735,531440,800441]
def lX:List (List Nat):=bZ [0,1,129,12354,0,5,389,28998,2122055,0x40810c91c5188,0x2881851c90c1084]
theorem Yf{E:bB}{S:bV}{f:FuncId}{args:List AV}{st:ASt}{K:AV->ASt->Prop}(h:∀K':AV->ASt->Prop,(∀r st,K r st->K' r st)->aG E S f args st K'):aG E S f args st K:=h K λ_ _ h=>h
theorem mF(l:List Int)(a:Nat)(h:a<l.length)(hl:l.length<=1048576):d5 av 497 [.one (.ref 1000 0 0 0)] [(1000,.cells 466 [.d (.sl (l.map eI)),.d (dI ((a:Nat):Int))])] [(1000,.cells 466 [.d (.sl (l.map eI)),.d (dI ((a+1:Nat):Int))])] [1000] (.tup [.one (.d (dI (l.getD a 0))),.one (.d (dB true))]):=by
 have hc:decide ((a:Int)>=((l.map eI).length:Int))=false:=al;have hg:(l.map eI)[a]? =some (eI (l.getD a 0)):=by
  rw[List.getElem?_map,List.getElem?_eq_getElem h,List.getD_eq_getElem?_getD,List.getElem?_eq_getElem h];rfl
 refine cR aN func497 rfl call497 ntmps497 (aaK results497) rfl λS pv=>?_;conv=>whnf
 repeat'(first|refine awz ?_|fail)
 (refine X9 aN 1 9 ip dU ae ae ae rfl ?_;conv=>whnf)
 repeat'(first|refine awz ?_|(refine X3 ac ac ?_;conv=>whnf)|fail)
 (refine X9 aN 4 9 lY dU ae ae ae rfl ?_;conv=>whnf)
 repeat'((first|refine awz ?_|refine X8 a _ ac hg ?_|refine X3 ac ac ?_|exact rZ|fail)<;>conv=>whnf)
 all_goals exact⟨rfl,whd⟩
theorem I4(l:List Int)(a:Nat)(h:l.length<=a):d5 av 497 [.one (.ref 1000 0 0 0)] [(1000,.cells 466 [.d (.sl (l.map eI)),.d (dI ((a:Nat):Int))])] [(1000,.cells 466 [.d (.sl (l.map eI)),.d (dI ((a:Nat):Int))])] [1000] (.tup [.one (.d (dI 0)),.one (.d (dB false))]):=by
 have hc:decide ((a:Int)>=((l.map eI).length:Int))=true:=al;refine cR aN func497 rfl call497 ntmps497 (aaK results497) rfl λS pv=>?_;conv=>whnf
 repeat'(first|refine awz ?_|fail)
 (refine X9 aN 1 9 ip dU ae ae ae rfl ?_;conv=>whnf)
 repeat'(first|refine awz ?_|exact rZ|fail)
 all_goals exact⟨rfl,whd⟩
theorem Uu{l:List Int}{a n:Nat}:((l.map eI).take (a+n)).drop a=((l.drop a).take n).map eI:=by
 rw[<-List.map_take,<-List.map_drop,List.drop_take,Nat.add_sub_cancel_left]
theorem ud(l:List Int)(a n:Nat)(h:a+n<=l.length)(hl:l.length<=1048576):d5 av 493 [.one (.ref 1000 0 0 0),.one (.d (dI (n:Int)))] [(1000,.cells 466 [.d (.sl (l.map eI)),.d (dI ((a:Nat):Int))])] [(1000,.cells 466 [.d (.sl (l.map eI)),.d (dI ((a+n:Nat):Int))])] [1000] (.tup [.one (.d (.sl (((l.drop a).take n).map eI))),.one (.d (dB true))]):=by
 have h0:decide ((n:Int)<0)=false:=aj;have hc:decide ((n:Int)>((l.map eI).length:Int)-(a:Int))=false:=al;have cr:=lc ((l.drop a).take n) (by rw[List.length_take,List.length_drop];omega);have e:((a:Int)+(n:Int))=((a+n:Nat):Int):=ac;refine cR aN func493 rfl call493 ntmps493 (aaK results493) rfl λS pv=>?_;conv=>whnf
 repeat'(first|refine awz ?_|fail)
 (refine X9 aN 1 14 iq ir ae ae ae rfl ?_;conv=>whnf)
 repeat'(first|refine awz ?_|(refine X3 an an ?_;conv=>whnf)|fail)
 (refine X9 aN 3 14 lZ ma ae ae ae rfl ?_;conv=>whnf)
 repeat'((first|refine awz ?_|refine cP (cr) ?_|(refine⟨a,a+n,rfl,(by show _=_;omega),Nat.le_add_right _ _,an,(by intro y hy;obtain⟨a,_,rfl⟩:=List.mem_map.1 hy;rfl),?_⟩;rw[Uu])|refine X3 ac ac ?_|exact rZ|fail)<;>conv=>whnf)
 all_goals(first|exact⟨rfl,whd⟩|(rw[e];exact⟨rfl,whd⟩))
theorem w7(l:List Int)(a n:Nat)(h:l.length<a+n)(ha:a<=l.length)(hl:l.length<=1048576):d5 av 493 [.one (.ref 1000 0 0 0),.one (.d (dI (n:Int)))] [(1000,.cells 466 [.d (.sl (l.map eI)),.d (dI ((a:Nat):Int))])] [(1000,.cells 466 [.d (.sl (l.map eI)),.d (dI ((a:Nat):Int))])] [1000] (.tup [.one .nil,.one (.d (dB false))]):=by
 have h0:decide ((n:Int)<0)=false:=aj;have hc:decide ((n:Int)>((l.map eI).length:Int)-(a:Int))=true:=al;refine cR aN func493 rfl call493 ntmps493 (aaK results493) rfl λS pv=>?_;conv=>whnf
 repeat'(first|refine awz ?_|fail)
 (refine X9 aN 1 14 iq ir ae ae ae rfl ?_;conv=>whnf)
 repeat'(first|refine awz ?_|(refine X3 an an ?_;conv=>whnf)|exact rZ|fail)
 all_goals exact⟨rfl,whd⟩
theorem MV(l:List Int)(a:Nat)(b:Bool)(h:((a:Int)==((l.map eI).length:Int))=b):d5 av 496 [.one (.ref 1000 0 0 0)] [(1000,.cells 466 [.d (.sl (l.map eI)),.d (dI ((a:Nat):Int))])] [(1000,.cells 466 [.d (.sl (l.map eI)),.d (dI ((a:Nat):Int))])] [1000] (.val (.one (.d (dB b)))):=by
 refine cR aN func496 rfl call496 ntmps496 (aaK results496) rfl λS pv=>?_;conv=>whnf
 repeat'(first|refine awz ?_|fail)
 (refine X9 aN 1 9 lX dU ae ae ae rfl ?_;conv=>whnf)
 repeat'(first|refine awz ?_|fail)
 all_goals(rw[h];exact⟨rfl,whd⟩)
theorem lr{m:List Int}{k i:Nat}(h:k+i<m.length):((m.drop k).map eI)[i]? =some (eI (m.getD (k+i) 0)):=by
 rw[List.getElem?_map,List.getElem?_drop,List.getElem?_eq_getElem h,List.getD_eq_getElem?_getD,List.getElem?_eq_getElem h];rfl
def oy:List (List Nat):=bZ [0,0,2,3,0,5,6,452,8,577,0x28920718510308128a]
theorem Lk{m:List Int}{k:Nat}:(((m.drop (2*k)).map eI).take ((m.drop (2*k)).map eI).length).drop 2=(m.drop (2*(k+1))).map eI:=by
 rw[List.take_length,<-List.map_drop,List.drop_drop];congr 2
theorem G0(l:List Int)(a:Nat)(h:l.length<=a):d5 av 494 [.one (.ref 1000 0 0 0)] [(1000,.cells 466 [.d (.sl (l.map eI)),.d (dI ((a:Nat):Int))])] [(1000,.cells 466 [.d (.sl (l.map eI)),.d (dI ((a:Nat):Int))])] [1000] (.tup [.one .nil,.one (.d (dB false))]):=by
 refine cR aN func494 rfl call494 ntmps494 (aaK results494) rfl λS pv=>?_;conv=>whnf
 repeat'(first|refine awz ?_|(refine Yf λK' hK=>?_;refine Yb (I4 l a h) [(1000,1000)] rfl rfl ?_;(conv=>whnf);refine And.intro rfl ?_;(conv=>whnf);refine hK _ _ ?_;conv=>whnf)|exact rZ|fail)
 all_goals exact⟨rfl,whd⟩
theorem G1(l:List Int)(a:Nat)(h:a<l.length)(hl:l.length<=1048576)(hb:aK (l.getD a 0) 0 10=false):d5 av 494 [.one (.ref 1000 0 0 0)] [(1000,.cells 466 [.d (.sl (l.map eI)),.d (dI ((a:Nat):Int))])] [(1000,.cells 466 [.d (.sl (l.map eI)),.d (dI ((a+1:Nat):Int))])] [1000] (.tup [.one .nil,.one (.d (dB false))]):=by
 have bt:=be (l.getD a 0) 0 10;rw[hb]at bt;refine cR aN func494 rfl call494 ntmps494 (aaK results494) rfl λS pv=>?_;conv=>whnf
 repeat'(first|refine awz ?_|(refine Yf λK' hK=>?_;refine Yb (mF l a h hl) [(1000,1000)] rfl rfl ?_;(conv=>whnf);refine And.intro rfl ?_;(conv=>whnf);refine hK _ _ ?_;conv=>whnf)|(refine cP (bt) ?_;conv=>whnf)|exact rZ|fail)
 all_goals exact⟨rfl,whd⟩
theorem G2(l:List Int)(a n:Nat)(h:a<l.length)(hl:l.length<=1048576)(hn:l.getD a 0=(n:Int))(hn2:n<=10)(ht:l.length<a+1+2*n):d5 av 494 [.one (.ref 1000 0 0 0)] [(1000,.cells 466 [.d (.sl (l.map eI)),.d (dI ((a:Nat):Int))])] [(1000,.cells 466 [.d (.sl (l.map eI)),.d (dI ((a+1:Nat):Int))]),(28,.row 339 2 [])] [1000] (.tup [.one (.own 28),.one (.d (dB false))]):=by
 have bt:=be (l.getD a 0) 0 10;have hb:aK (l.getD a 0) 0 10=true:=by rw[hn];simp[aK];omega
 rw[hb]at bt;have nx:=mF l a h hl;rw[hn]at bt nx;have e:2*(n:Int)=((2*n:Nat):Int):=ac;refine cR aN func494 rfl call494 ntmps494 (aaK results494) rfl λS pv=>?_;conv=>whnf
 repeat'(first|refine awz ?_|(refine Yf λK' hK=>?_;refine Yb nx [(1000,1000)] rfl rfl ?_;(conv=>whnf);refine And.intro rfl ?_;(conv=>whnf);refine hK _ _ ?_;conv=>whnf)|(refine cP (bt) ?_;conv=>whnf)|(rw[e];refine Yf λK' hK=>?_;refine Yb (w7 l (a+1) (2*n) ht h hl) [(1000,1000)] rfl rfl ?_;(conv=>whnf);refine And.intro rfl ?_;(conv=>whnf);refine hK _ _ ?_;conv=>whnf)|(refine X3 ac ac ?_;conv=>whnf)|fail)
 refine YP 1 ?_;conv=>whnf
 repeat'(first|refine awz ?_|exact rZ|fail)
 all_goals exact⟨rfl,whd⟩
theorem G3(l:List Int)(a n:Nat)(h:a<l.length)(hl:l.length<=1048576)(hn:l.getD a 0=(n:Int))(hn2:n<=10)(ht:a+1+2*n<=l.length):d5 av 494 [.one (.ref 1000 0 0 0)] [(1000,.cells 466 [.d (.sl (l.map eI)),.d (dI ((a:Nat):Int))])] [(1000,.cells 466 [.d (.sl (l.map eI)),.d (dI ((a+1+2*n:Nat):Int))]),(28,.row 339 2 ((di ((l.drop (a+1)).take (2*n))).map DPair.ds))] [1000] (.tup [.one (.own 28),.one (.d (dB true))]):=by
 have bt:=be (l.getD a 0) 0 10;have hb:aK (l.getD a 0) 0 10=true:=by rw[hn];simp[aK];omega
 rw[hb]at bt;have nx:=mF l a h hl;rw[hn]at bt nx;have e:2*(n:Int)=((2*n:Nat):Int):=ac;have tk:=ud l (a+1) (2*n) ht hl;have hml:((l.drop (a+1)).take (2*n)).length=2*n:=by rw[List.length_take,List.length_drop];omega
 generalize (l.drop (a+1)).take (2*n)=m at tk hml;have hpl:(di m).length=n:=by rw[qi,hml];omega
 refine cR aN func494 rfl call494 ntmps494 (aaK results494) rfl λS pv=>?_;conv=>whnf
 repeat'(first|refine awz ?_|(refine Yf λK' hK=>?_;refine Yb nx [(1000,1000)] rfl rfl ?_;(conv=>whnf);refine And.intro rfl ?_;(conv=>whnf);refine hK _ _ ?_;conv=>whnf)|(refine cP (bt) ?_;conv=>whnf)|(rw[e];refine Yf λK' hK=>?_;refine Yb tk [(1000,1000)] rfl rfl ?_;(conv=>whnf);refine And.intro rfl ?_;(conv=>whnf);refine hK _ _ ?_;conv=>whnf)|(refine X3 ac ac ?_;conv=>whnf)|fail)
 refine X5 (λk:Nat=>k<=n) (28::[6,8,29,30,31,32,33,34,35,36,37,38,39,40,41,42,43]) (λk=>[(6,.one (.d (.sl ((m.drop (2*k)).map eI)))),(8,.one (.own 28))]) (λk=>[(9999,.frame (gT [1000]) pv),(1000,.cells 466 [.d (.sl (l.map eI)),.d (dI ((a+1+2*n:Nat):Int))]),(28,.row 339 2 (((di m).take k).map DPair.ds))]) (λk=>n-k) 0 (Nat.zero_le _) ?_ sbW (λk hk=>?_)<;>(conv=>whnf)
 ·exact whd
 ·by_cases hlt:k<n
  ·have hc:decide ((((m.drop (2*k)).map eI).length:Int)>0)=true:=by simp[hml];omega
   have hs:=zF (m:=m) (k:=k) ac;repeat'(first|refine awz ?_|fail)
   (refine X7 aN 8 (tkc [0,1,2,3,4,5,6] (onc [7,8,9] (.take 10 .done))) [] oy ae ae ae ae (λRz=>?_);(conv=>whnf))
   repeat'((first|refine awz ?_|refine X8 0 _ rfl (lr ac) ?_|refine X8 1 _ rfl (lr ac) ?_|(refine⟨2,((m.drop (2*k)).map eI).length,rfl,rfl,(by simp[hml];omega),Nat.le_refl _,(by intro y hy;obtain⟨a,_,rfl⟩:=List.mem_map.1 hy;rfl),?_⟩;rw[Lk])|refine aJ am ?_|fail)<;>conv=>whnf)
   all_goals
    refine bd.mk ⟨k+1,hlt,ac,?_,X0 rfl (X0 rfl (X0 (by rw[hs];simp[di,bA];rfl) X4))⟩;exact hds
  ·have e2:k=n:=ac;subst e2;have hc:decide ((((m.drop (2*k)).map eI).length:Int)>0)=false:=by simp[hml]
   rw[List.take_of_length_le ac];repeat'(first|refine awz ?_|exact rZ|fail)
   all_goals exact⟨rfl,whd⟩
def oL:List (List Nat):=bZ [0,0,2,3,0,5,6,0,8,9,0,11,12,0,14,15,271884740,17,1153,0x1349140f38d30b2892071851030814d3]
theorem NV{m:List Int}{k:Nat}:(((m.drop (5*k)).map eI).take ((m.drop (5*k)).map eI).length).drop 5=(m.drop (5*(k+1))).map eI:=by
 rw[List.take_length,<-List.map_drop,List.drop_drop];congr 2
theorem I8(l:List Int)(a:Nat)(h:l.length<=a):d5 av 495 [.one (.ref 1000 0 0 0)] [(1000,.cells 466 [.d (.sl (l.map eI)),.d (dI ((a:Nat):Int))])] [(1000,.cells 466 [.d (.sl (l.map eI)),.d (dI ((a:Nat):Int))])] [1000] (.tup [.one .nil,.one (.d (dB false))]):=by
 refine cR aN func495 rfl call495 ntmps495 (aaK results495) rfl λS pv=>?_;conv=>whnf
 repeat'(first|refine awz ?_|(refine Yf λK' hK=>?_;refine Yb (I4 l a h) [(1000,1000)] rfl rfl ?_;(conv=>whnf);refine And.intro rfl ?_;(conv=>whnf);refine hK _ _ ?_;conv=>whnf)|exact rZ|fail)
 all_goals exact⟨rfl,whd⟩
theorem I9(l:List Int)(a:Nat)(h:a<l.length)(hl:l.length<=1048576)(hb:aK (l.getD a 0) 0 8=false):d5 av 495 [.one (.ref 1000 0 0 0)] [(1000,.cells 466 [.d (.sl (l.map eI)),.d (dI ((a:Nat):Int))])] [(1000,.cells 466 [.d (.sl (l.map eI)),.d (dI ((a+1:Nat):Int))])] [1000] (.tup [.one .nil,.one (.d (dB false))]):=by
 have bt:=be (l.getD a 0) 0 8;rw[hb]at bt;refine cR aN func495 rfl call495 ntmps495 (aaK results495) rfl λS pv=>?_;conv=>whnf
 repeat'(first|refine awz ?_|(refine Yf λK' hK=>?_;refine Yb (mF l a h hl) [(1000,1000)] rfl rfl ?_;(conv=>whnf);refine And.intro rfl ?_;(conv=>whnf);refine hK _ _ ?_;conv=>whnf)|(refine cP (bt) ?_;conv=>whnf)|exact rZ|fail)
 all_goals exact⟨rfl,whd⟩
theorem Ja(l:List Int)(a n:Nat)(h:a<l.length)(hl:l.length<=1048576)(hn:l.getD a 0=(n:Int))(hn2:n<=8)(ht:l.length<a+1+5*n):d5 av 495 [.one (.ref 1000 0 0 0)] [(1000,.cells 466 [.d (.sl (l.map eI)),.d (dI ((a:Nat):Int))])] [(1000,.cells 466 [.d (.sl (l.map eI)),.d (dI ((a+1:Nat):Int))]),(28,.row 343 5 [])] [1000] (.tup [.one (.own 28),.one (.d (dB false))]):=by
 have bt:=be (l.getD a 0) 0 8;have hb:aK (l.getD a 0) 0 8=true:=by rw[hn];simp[aK];omega
 rw[hb]at bt;have nx:=mF l a h hl;rw[hn]at bt nx;have e:5*(n:Int)=((5*n:Nat):Int):=ac;refine cR aN func495 rfl call495 ntmps495 (aaK results495) rfl λS pv=>?_;conv=>whnf
 repeat'(first|refine awz ?_|(refine Yf λK' hK=>?_;refine Yb nx [(1000,1000)] rfl rfl ?_;(conv=>whnf);refine And.intro rfl ?_;(conv=>whnf);refine hK _ _ ?_;conv=>whnf)|(refine cP (bt) ?_;conv=>whnf)|(rw[e];refine Yf λK' hK=>?_;refine Yb (w7 l (a+1) (5*n) ht h hl) [(1000,1000)] rfl rfl ?_;(conv=>whnf);refine And.intro rfl ?_;(conv=>whnf);refine hK _ _ ?_;conv=>whnf)|(refine X3 ac ac ?_;conv=>whnf)|fail)
 refine YP 1 ?_;conv=>whnf
 repeat'(first|refine awz ?_|exact rZ|fail)
 all_goals exact⟨rfl,whd⟩
theorem Jb(l:List Int)(a n:Nat)(h:a<l.length)(hl:l.length<=1048576)(hn:l.getD a 0=(n:Int))(hn2:n<=8)(ht:a+1+5*n<=l.length):d5 av 495 [.one (.ref 1000 0 0 0)] [(1000,.cells 466 [.d (.sl (l.map eI)),.d (dI ((a:Nat):Int))])] [(1000,.cells 466 [.d (.sl (l.map eI)),.d (dI ((a+1+5*n:Nat):Int))]),(28,.row 343 5 ((d4 ((l.drop (a+1)).take (5*n))).map DJob.ds))] [1000] (.tup [.one (.own 28),.one (.d (dB true))]):=by
 have bt:=be (l.getD a 0) 0 8;have hb:aK (l.getD a 0) 0 8=true:=by rw[hn];simp[aK];omega
 rw[hb]at bt;have nx:=mF l a h hl;rw[hn]at bt nx;have e:5*(n:Int)=((5*n:Nat):Int):=ac;have tk:=ud l (a+1) (5*n) ht hl;have hml:((l.drop (a+1)).take (5*n)).length=5*n:=by rw[List.length_take,List.length_drop];omega
 generalize (l.drop (a+1)).take (5*n)=m at tk hml;have hpl:(d4 m).length=n:=by rw[Fe,hml];omega
 refine cR aN func495 rfl call495 ntmps495 (aaK results495) rfl λS pv=>?_;conv=>whnf
 repeat'(first|refine awz ?_|(refine Yf λK' hK=>?_;refine Yb nx [(1000,1000)] rfl rfl ?_;(conv=>whnf);refine And.intro rfl ?_;(conv=>whnf);refine hK _ _ ?_;conv=>whnf)|(refine cP (bt) ?_;conv=>whnf)|(rw[e];refine Yf λK' hK=>?_;refine Yb tk [(1000,1000)] rfl rfl ?_;(conv=>whnf);refine And.intro rfl ?_;(conv=>whnf);refine hK _ _ ?_;conv=>whnf)|(refine X3 ac ac ?_;conv=>whnf)|fail)
 refine X5 (λk:Nat=>k<=n) (28::[6,8,29,30,31,32,33,34,35,36,37,38,39,40,41,42,43,44,45,46,47,48,49,50,51,52]) (λk=>[(6,.one (.d (.sl ((m.drop (5*k)).map eI)))),(8,.one (.own 28))]) (λk=>[(9999,.frame (gT [1000]) pv),(1000,.cells 466 [.d (.sl (l.map eI)),.d (dI ((a+1+5*n:Nat):Int))]),(28,.row 343 5 (((d4 m).take k).map DJob.ds))]) (λk=>n-k) 0 (Nat.zero_le _) ?_ sbW (λk hk=>?_)<;>(conv=>whnf)
 ·exact whd
 ·by_cases hlt:k<n
  ·have hc:decide ((((m.drop (5*k)).map eI).length:Int)>0)=true:=by simp[hml];omega
   have hs:=Dr (m:=m) (k:=k) ac;repeat'(first|refine awz ?_|fail)
   (refine X7 aN 8 (tkc [0,1,2,3,4,5,6,7,8,9,10,11,12,13,14,15] (onc [16,17,18] (.take 19 .done))) [] oL ae ae ae ae (λRz=>?_);(conv=>whnf))
   repeat'((first|refine awz ?_|refine X8 0 _ rfl (lr ac) ?_|refine X8 1 _ rfl (lr ac) ?_|refine X8 2 _ rfl (lr ac) ?_|refine X8 3 _ rfl (lr ac) ?_|refine X8 4 _ rfl (lr ac) ?_|(refine⟨5,((m.drop (5*k)).map eI).length,rfl,rfl,(by simp[hml];omega),Nat.le_refl _,(by intro y hy;obtain⟨a,_,rfl⟩:=List.mem_map.1 hy;rfl),?_⟩;rw[NV])|refine aJ am ?_|fail)<;>conv=>whnf)
   all_goals
    refine bd.mk ⟨k+1,hlt,ac,?_,X0 rfl (X0 rfl (X0 (by rw[hs];simp[d4,bA];rfl) X4))⟩;exact hds
  ·have e2:k=n:=ac;subst e2;have hc:decide ((((m.drop (5*k)).map eI).length:Int)>0)=false:=by simp[hml]
   rw[List.take_of_length_le ac];repeat'(first|refine awz ?_|exact rZ|fail)
   all_goals exact⟨rfl,whd⟩
section
variable {l:List Int}{a:Nat}
def iE:List (List Nat):=bZ [0,1,2,0,4,5,0,0,0,9,10,0,12,13,0,15,16,70539,304116099,0,0x51349140f38d30b2892071851030814d4]
def mc(o:Option DState):List AP1:=[.agg (o.getD gV).ds,.one (dB o.isSome)]
theorem SU(h:a+2<=l.length):(l.drop a).take 2=[l.getD a 0,l.getD (a+1) 0]:=by
 rw[i5 (by omega:a<l.length),i5 (by omega:a+1<l.length)];rfl
theorem OY(h:a+3<=l.length):(l.drop a).take 3=[l.getD a 0,l.getD (a+1) 0,l.getD (a+2) 0]:=by
 rw[i5 (by omega:a<l.length),i5 (by omega:a+1<l.length),i5 (by omega:a+2<l.length)];rfl
theorem ya(l:List Int)(hl:l.length<=1048576):fC av 487 [.one (.sl (l.map eI))] (mc (fG l)):=by
 by_cases c1:2<=l.length
 ·have m1:=ud l 0 2 ac hl;rw[SU ac,Nat.zero_add]at m1;by_cases c2:2<l.length
  ·by_cases c3:0<=l.getD 2 0/\l.getD 2 0<=10
   ·obtain⟨n,hn⟩:∃n:Nat,l.getD 2 0=(n:Int):=⟨(l.getD 2 0).toNat,ac⟩;have hn10:n<=10:=ac;have i3:(3+2*l.getD 2 0).toNat=3+2*n:=ac;by_cases c4:3+2*n<=l.length
    ·have m2:=G3 l 2 n c2 hl hn hn10 ac;by_cases c5:3+2*n<l.length
     ·by_cases c6:0<=l.getD (3+2*n) 0/\l.getD (3+2*n) 0<=8
      ·obtain⟨m,hm⟩:∃m:Nat,l.getD (3+2*n) 0=(m:Int):=⟨(l.getD (3+2*n) 0).toNat,ac⟩;have hm8:m<=8:=ac;by_cases c7:3+2*n+1+5*m<=l.length
       ·have m3:=Jb l (3+2*n) m c5 hl hm hm8 c7;by_cases c8:3+2*n+1+5*m+3<=l.length
        ·have m4:=ud l (3+2*n+1+5*m) 3 c8 hl;rw[OY c8]at m4;by_cases c9:3+2*n+1+5*m+3=l.length
         ·have m5:=MV l (3+2*n+1+5*m+3) true (by simp[c9]);have hfit:qt l=true:=Cx ⟨ac,c3,ac,by rw[i3];exact c6,by rw[i3,hm];omega⟩;obtain⟨st,hst⟩:∃st:DState,st=⟨l.getD 0 0,l.getD 1 0,di ((l.drop (2+1)).take (2*n)),d4 ((l.drop (3+2*n+1)).take (5*m)),⟨l.getD (3+2*n+1+5*m) 0,l.getD (3+2*n+1+5*m+1) 0,l.getD (3+2*n+1+5*m+2) 0⟩⟩:=⟨_,rfl⟩;have hraw:oD l=st:=by
           rw[hst];unfold oD;rw[i3,hm,hn,List.tail_drop,<-c9];simp only[show(2*(n:Int)).toNat=2*n by omega,show(5*(m:Int)).toNat=5*m by omega,show 3+2*n+1+5*m+3-3=3+2*n+1+5*m by omega,show 3+2*n+1+5*m+3-2=3+2*n+1+5*m+1 by omega,show 3+2*n+1+5*m+3-1=3+2*n+1+5*m+2 by omega]
          have hpl:st.pairs.length<=9223372036854775806:=by rw[hst];simp only[qi,List.length_take];omega
          have sk:=ig st hpl;have e:fG l=if cn st then some st else none:=by simp[fG,hfit,hraw]
          rw[e];unfold mc;subst hst;cases hs:cn _ with
          |false=>
           rw[hs]at sk;simp only[Bool.false_eq_true,if_false];refine bq aN func487 rfl call487 ntmps487 (aaK results487) rfl λS=>?_;conv=>whnf
           repeat'(first|refine awz ?_|(refine Yf λK' hK=>?_;refine Yb m1 [(1000,16)] rfl rfl ?_;(conv=>whnf);refine And.intro rfl ?_;(conv=>whnf);refine hK _ _ ?_;conv=>whnf)|(refine Yf λK' hK=>?_;refine Yb m2 [(1000,16),(28,928)] rfl rfl ?_;(conv=>whnf);refine And.intro rfl ?_;(conv=>whnf);refine hK _ _ ?_;conv=>whnf)|(refine Yf λK' hK=>?_;refine Yb m3 [(1000,16),(28,929)] rfl rfl ?_;(conv=>whnf);refine And.intro rfl ?_;(conv=>whnf);refine hK _ _ ?_;conv=>whnf)|(refine Yf λK' hK=>?_;refine Yb m4 [(1000,16)] rfl rfl ?_;(conv=>whnf);refine And.intro rfl ?_;(conv=>whnf);refine hK _ _ ?_;conv=>whnf)|(refine Yf λK' hK=>?_;refine Yb m5 [(1000,16)] rfl rfl ?_;(conv=>whnf);refine And.intro rfl ?_;(conv=>whnf);refine hK _ _ ?_;conv=>whnf)|fail)
           (refine X7 aN 14 (tkc [0,1,2,3,4,5,6,7,8,9,10,11,12,13,14,15,16] (.two 17 (.two 18 (.one 19 (.one 20 .done)) 19 (.one 18 (.one 20 .done))) 19 (onc [17,18,20] .done))) [] iE ae ae ae ae (λRz=>?_);(conv=>whnf))
           repeat'((first|refine awz ?_|refine X8 0 _ rfl rfl ?_|refine X8 1 _ rfl rfl ?_|refine X8 2 _ rfl rfl ?_|refine aG.scalar sk rfl rfl ?_|refine tW ?_ ?_|fail)<;>conv=>whnf)
           all_goals(exact⟨.inl rfl,.inl rfl,_,_,Nat.le_refl _,Ya (hi:=0) rfl⟩)
          |true=>
           rw[hs]at sk;simp only[if_true];refine bq aN func487 rfl call487 ntmps487 (aaK results487) rfl λS=>?_;conv=>whnf
           repeat'(first|refine awz ?_|(refine Yf λK' hK=>?_;refine Yb m1 [(1000,16)] rfl rfl ?_;(conv=>whnf);refine And.intro rfl ?_;(conv=>whnf);refine hK _ _ ?_;conv=>whnf)|(refine Yf λK' hK=>?_;refine Yb m2 [(1000,16),(28,928)] rfl rfl ?_;(conv=>whnf);refine And.intro rfl ?_;(conv=>whnf);refine hK _ _ ?_;conv=>whnf)|(refine Yf λK' hK=>?_;refine Yb m3 [(1000,16),(28,929)] rfl rfl ?_;(conv=>whnf);refine And.intro rfl ?_;(conv=>whnf);refine hK _ _ ?_;conv=>whnf)|(refine Yf λK' hK=>?_;refine Yb m4 [(1000,16)] rfl rfl ?_;(conv=>whnf);refine And.intro rfl ?_;(conv=>whnf);refine hK _ _ ?_;conv=>whnf)|(refine Yf λK' hK=>?_;refine Yb m5 [(1000,16)] rfl rfl ?_;(conv=>whnf);refine And.intro rfl ?_;(conv=>whnf);refine hK _ _ ?_;conv=>whnf)|fail)
           (refine X7 aN 14 (tkc [0,1,2,3,4,5,6,7,8,9,10,11,12,13,14,15,16] (.two 17 (.two 18 (.one 19 (.one 20 .done)) 19 (.one 18 (.one 20 .done))) 19 (onc [17,18,20] .done))) [] iE ae ae ae ae (λRz=>?_);(conv=>whnf))
           repeat'((first|refine awz ?_|refine X8 0 _ rfl rfl ?_|refine X8 1 _ rfl rfl ?_|refine X8 2 _ rfl rfl ?_|refine aG.scalar sk rfl rfl ?_|refine tW ?_ ?_|fail)<;>conv=>whnf)
           all_goals
            refine⟨alW,?_⟩;conv=>whnf
            refine⟨rfl,alW,S.w0.heap.size,S.w0.heap.size,Nat.le_refl _,Ya ?_⟩;simp only[List.all_cons,List.all_append];rw[p7 (xs:=(di _).map DPair.ds) bls,p7 (xs:=(d4 _).map DJob.ds) bls];rfl
         ·have m5:=MV l (3+2*n+1+5*m+3) false al;rw[dz (eM λh=>by rw[i3,hm]at h;omega)];unfold mc;refine bq aN func487 rfl call487 ntmps487 (aaK results487) rfl λS=>?_;conv=>whnf
          repeat'(first|refine awz ?_|(refine Yf λK' hK=>?_;refine Yb m1 [(1000,16)] rfl rfl ?_;(conv=>whnf);refine And.intro rfl ?_;(conv=>whnf);refine hK _ _ ?_;conv=>whnf)|(refine Yf λK' hK=>?_;refine Yb m2 [(1000,16),(28,928)] rfl rfl ?_;(conv=>whnf);refine And.intro rfl ?_;(conv=>whnf);refine hK _ _ ?_;conv=>whnf)|(refine Yf λK' hK=>?_;refine Yb m3 [(1000,16),(28,929)] rfl rfl ?_;(conv=>whnf);refine And.intro rfl ?_;(conv=>whnf);refine hK _ _ ?_;conv=>whnf)|(refine Yf λK' hK=>?_;refine Yb m4 [(1000,16)] rfl rfl ?_;(conv=>whnf);refine And.intro rfl ?_;(conv=>whnf);refine hK _ _ ?_;conv=>whnf)|(refine Yf λK' hK=>?_;refine Yb m5 [(1000,16)] rfl rfl ?_;(conv=>whnf);refine And.intro rfl ?_;(conv=>whnf);refine hK _ _ ?_;conv=>whnf)|fail)
          all_goals(exact⟨.inl rfl,.inl rfl,_,_,Nat.le_refl _,Ya (hi:=0) rfl⟩)
        ·have m4:=w7 l (3+2*n+1+5*m) 3 ac c7 hl;rw[dz (eM λh=>by rw[i3,hm]at h;omega)];unfold mc;refine bq aN func487 rfl call487 ntmps487 (aaK results487) rfl λS=>?_;conv=>whnf
         repeat'(first|refine awz ?_|(refine Yf λK' hK=>?_;refine Yb m1 [(1000,16)] rfl rfl ?_;(conv=>whnf);refine And.intro rfl ?_;(conv=>whnf);refine hK _ _ ?_;conv=>whnf)|(refine Yf λK' hK=>?_;refine Yb m2 [(1000,16),(28,928)] rfl rfl ?_;(conv=>whnf);refine And.intro rfl ?_;(conv=>whnf);refine hK _ _ ?_;conv=>whnf)|(refine Yf λK' hK=>?_;refine Yb m3 [(1000,16),(28,929)] rfl rfl ?_;(conv=>whnf);refine And.intro rfl ?_;(conv=>whnf);refine hK _ _ ?_;conv=>whnf)|(refine Yf λK' hK=>?_;refine Yb m4 [(1000,16)] rfl rfl ?_;(conv=>whnf);refine And.intro rfl ?_;(conv=>whnf);refine hK _ _ ?_;conv=>whnf)|fail)
         all_goals(exact⟨.inl rfl,.inl rfl,_,_,Nat.le_refl _,Ya (hi:=0) rfl⟩)
       ·have m3:=Ja l (3+2*n) m c5 hl hm hm8 ac;rw[dz (eM λh=>by rw[i3,hm]at h;omega)];unfold mc;refine bq aN func487 rfl call487 ntmps487 (aaK results487) rfl λS=>?_;conv=>whnf
        repeat'(first|refine awz ?_|(refine Yf λK' hK=>?_;refine Yb m1 [(1000,16)] rfl rfl ?_;(conv=>whnf);refine And.intro rfl ?_;(conv=>whnf);refine hK _ _ ?_;conv=>whnf)|(refine Yf λK' hK=>?_;refine Yb m2 [(1000,16),(28,928)] rfl rfl ?_;(conv=>whnf);refine And.intro rfl ?_;(conv=>whnf);refine hK _ _ ?_;conv=>whnf)|(refine Yf λK' hK=>?_;refine Yb m3 [(1000,16),(28,929)] rfl rfl ?_;(conv=>whnf);refine And.intro rfl ?_;(conv=>whnf);refine hK _ _ ?_;conv=>whnf)|fail)
        all_goals(exact⟨.inl rfl,.inl rfl,_,_,Nat.le_refl _,Ya (hi:=0) rfl⟩)
      ·have m3:=I9 l (3+2*n) c5 hl (by simp only[aK,Bool.and_eq_false_iff,decide_eq_false_iff_not];omega);rw[dz (eM λh=>by rw[i3]at h;omega)];unfold mc;refine bq aN func487 rfl call487 ntmps487 (aaK results487) rfl λS=>?_;conv=>whnf
       repeat'(first|refine awz ?_|(refine Yf λK' hK=>?_;refine Yb m1 [(1000,16)] rfl rfl ?_;(conv=>whnf);refine And.intro rfl ?_;(conv=>whnf);refine hK _ _ ?_;conv=>whnf)|(refine Yf λK' hK=>?_;refine Yb m2 [(1000,16),(28,928)] rfl rfl ?_;(conv=>whnf);refine And.intro rfl ?_;(conv=>whnf);refine hK _ _ ?_;conv=>whnf)|(refine Yf λK' hK=>?_;refine Yb m3 [(1000,16),(28,929)] rfl rfl ?_;(conv=>whnf);refine And.intro rfl ?_;(conv=>whnf);refine hK _ _ ?_;conv=>whnf)|fail)
       all_goals(exact⟨.inl rfl,.inl rfl,_,_,Nat.le_refl _,Ya (hi:=0) rfl⟩)
     ·have m3:=I8 l (3+2*n) ac;rw[dz (eM λh=>by omega)];unfold mc;refine bq aN func487 rfl call487 ntmps487 (aaK results487) rfl λS=>?_;conv=>whnf
      repeat'(first|refine awz ?_|(refine Yf λK' hK=>?_;refine Yb m1 [(1000,16)] rfl rfl ?_;(conv=>whnf);refine And.intro rfl ?_;(conv=>whnf);refine hK _ _ ?_;conv=>whnf)|(refine Yf λK' hK=>?_;refine Yb m2 [(1000,16),(28,928)] rfl rfl ?_;(conv=>whnf);refine And.intro rfl ?_;(conv=>whnf);refine hK _ _ ?_;conv=>whnf)|(refine Yf λK' hK=>?_;refine Yb m3 [(1000,16),(28,929)] rfl rfl ?_;(conv=>whnf);refine And.intro rfl ?_;(conv=>whnf);refine hK _ _ ?_;conv=>whnf)|fail)
      all_goals(exact⟨.inl rfl,.inl rfl,_,_,Nat.le_refl _,Ya (hi:=0) rfl⟩)
    ·have m2:=G2 l 2 n c2 hl hn hn10 ac;rw[dz (eM λh=>by omega)];unfold mc;refine bq aN func487 rfl call487 ntmps487 (aaK results487) rfl λS=>?_;conv=>whnf
     repeat'(first|refine awz ?_|(refine Yf λK' hK=>?_;refine Yb m1 [(1000,16)] rfl rfl ?_;(conv=>whnf);refine And.intro rfl ?_;(conv=>whnf);refine hK _ _ ?_;conv=>whnf)|(refine Yf λK' hK=>?_;refine Yb m2 [(1000,16),(28,928)] rfl rfl ?_;(conv=>whnf);refine And.intro rfl ?_;(conv=>whnf);refine hK _ _ ?_;conv=>whnf)|fail)
     all_goals(exact⟨.inl rfl,.inl rfl,_,_,Nat.le_refl _,Ya (hi:=0) rfl⟩)
   ·have m2:=G1 l 2 c2 hl (by simp only[aK,Bool.and_eq_false_iff,decide_eq_false_iff_not];omega);rw[dz (eM λh=>by omega)];unfold mc;refine bq aN func487 rfl call487 ntmps487 (aaK results487) rfl λS=>?_;conv=>whnf
    repeat'(first|refine awz ?_|(refine Yf λK' hK=>?_;refine Yb m1 [(1000,16)] rfl rfl ?_;(conv=>whnf);refine And.intro rfl ?_;(conv=>whnf);refine hK _ _ ?_;conv=>whnf)|(refine Yf λK' hK=>?_;refine Yb m2 [(1000,16),(28,928)] rfl rfl ?_;(conv=>whnf);refine And.intro rfl ?_;(conv=>whnf);refine hK _ _ ?_;conv=>whnf)|fail)
    all_goals(exact⟨.inl rfl,.inl rfl,_,_,Nat.le_refl _,Ya (hi:=0) rfl⟩)
  ·have m2:=G0 l 2 ac;rw[dz (eM λh=>by omega)];unfold mc;refine bq aN func487 rfl call487 ntmps487 (aaK results487) rfl λS=>?_;conv=>whnf
   repeat'(first|refine awz ?_|(refine Yf λK' hK=>?_;refine Yb m1 [(1000,16)] rfl rfl ?_;(conv=>whnf);refine And.intro rfl ?_;(conv=>whnf);refine hK _ _ ?_;conv=>whnf)|(refine Yf λK' hK=>?_;refine Yb m2 [(1000,16),(28,928)] rfl rfl ?_;(conv=>whnf);refine And.intro rfl ?_;(conv=>whnf);refine hK _ _ ?_;conv=>whnf)|fail)
   all_goals(exact⟨.inl rfl,.inl rfl,_,_,Nat.le_refl _,Ya (hi:=0) rfl⟩)
 ·have m1:=w7 l 0 2 ac ac hl;rw[dz (eM λh=>by omega)];unfold mc;refine bq aN func487 rfl call487 ntmps487 (aaK results487) rfl λS=>?_;conv=>whnf
  repeat'(first|refine awz ?_|(refine Yf λK' hK=>?_;refine Yb m1 [(1000,16)] rfl rfl ?_;(conv=>whnf);refine And.intro rfl ?_;(conv=>whnf);refine hK _ _ ?_;conv=>whnf)|fail)
  all_goals(exact⟨.inl rfl,.inl rfl,_,_,Nat.le_refl _,Ya (hi:=0) rfl⟩)
end
end Go.Proofs.YtknefkdcokgpbaaGreat
