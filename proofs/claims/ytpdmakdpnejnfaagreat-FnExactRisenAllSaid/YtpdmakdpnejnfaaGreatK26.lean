/- K26 -/
import Derived.Test.YtpdmakdpnejnfaaGreatK18
import Derived.Test.YtpdmakdpnejnfaaGreatK29
import Derived.Test.YtpdmakdpnejnfaaGreatK10
import Derived.Test.YtpdmakdpnejnfaaGreatMkE
import Derived.Test.YtpdmakdpnejnfaaGreatK09
import Derived.Test.YtpdmakdpnejnfaaGreatK04
import Derived.Test.YtpdmakdpnejnfaaGreatAvJ3
import Derived.Test.YtpdmakdpnejnfaaGreatK21
set_option maxHeartbeats 8000000
set_option linter.unusedVariables false
set_option linter.unusedSimpArgs false
set_option maxRecDepth 100000
open List (getD_eq_getElem?_getD getElem?_append_left getElem?_append_right getElem?_eq_getElem getElem?_map length_append length_cons length_map length_nil length_take map_set mem_map mem_of_getElem?)
open Nat (le_trans zero_le)
namespace Go.Proofs.YtpdmakdpnejnfaaGreat
section
open Go.Proofs.Tryz
open Go.ChangeShapes Go.WideShapes Go.RowKit
variable {rows:List (List Int)}{l x:List Int}{a k:Nat}
def iY:List (List Nat):=cz [0,1,2,0,4,5,0,0,0,9,10,0,12,13,0,15,16,70539,304116099,0,0x51349140f38d30b2892071851030814d4]
def m8(o:Option DState):List AP1:=[.agg (o.getD gZ).ds,.one (dB o.isSome)]
theorem SP(h:a+2<=l.length):(l.drop a).take 2=[l.getD a 0,l.getD (a+1) 0]:=by
 rw[jC (by omega:a<l.length),jC (by omega:a+1<l.length)];rfl
theorem Pv(h:a+3<=l.length):(l.drop a).take 3=[l.getD a 0,l.getD (a+1) 0,l.getD (a+2) 0]:=by
 rw[jC (by omega:a<l.length),jC (by omega:a+1<l.length),jC (by omega:a+2<l.length)];rfl
theorem ze(l:List Int)(hl:l.length<=1048576):dZ av 435 [.one (.sl (l.map eI))] (m8 (gi l)):=by
 by_cases c1:2<=l.length
 ·have m1:=vD l 0 2 aa hl;rw[SP aa,Nat.zero_add]at m1;by_cases c2:2<l.length
  ·by_cases c3:0<=l.getD 2 0/\l.getD 2 0<=10
   ·obtain⟨n,hn⟩:∃n:Nat,l.getD 2 0=(n:Int):=⟨(l.getD 2 0).toNat,aa⟩;have hn10:n<=10:=aa;have i3:(3+2*l.getD 2 0).toNat=3+2*n:=aa;by_cases c4:3+2*n<=l.length
    ·have m2:=H3 l 2 n c2 hl hn hn10 aa;by_cases c5:3+2*n<l.length
     ·by_cases c6:0<=l.getD (3+2*n) 0/\l.getD (3+2*n) 0<=8
      ·obtain⟨m,hm⟩:∃m:Nat,l.getD (3+2*n) 0=(m:Int):=⟨(l.getD (3+2*n) 0).toNat,aa⟩;have hm8:m<=8:=aa;by_cases c7:3+2*n+1+5*m<=l.length
       ·have m3:=J3 l (3+2*n) m c5 hl hm hm8 c7;by_cases c8:3+2*n+1+5*m+3<=l.length
        ·have m4:=vD l (3+2*n+1+5*m) 3 c8 hl;rw[Pv c8]at m4;by_cases c9:3+2*n+1+5*m+3=l.length
         ·have m5:=ND l (3+2*n+1+5*m+3) true (by simp[c9]);have hfit:rH l=true:=DC ⟨aa,c3,aa,by rw[i3];exact c6,by rw[i3,hm];omega⟩;obtain⟨st,hst⟩:∃st:DState,st=⟨l.getD 0 0,l.getD 1 0,dE ((l.drop (2+1)).take (2*n)),eM ((l.drop (3+2*n+1)).take (5*m)),⟨l.getD (3+2*n+1+5*m) 0,l.getD (3+2*n+1+5*m+1) 0,l.getD (3+2*n+1+5*m+2) 0⟩⟩:=⟨_,rfl⟩;have hraw:pp l=st:=by
           rw[hst];unfold pp;rw[i3,hm,hn,List.tail_drop,<-c9];simp only[show(2*(n:Int)).toNat=2*n by omega,show(5*(m:Int)).toNat=5*m by omega,show 3+2*n+1+5*m+3-3=3+2*n+1+5*m by omega,show 3+2*n+1+5*m+3-2=3+2*n+1+5*m+1 by omega,show 3+2*n+1+5*m+3-1=3+2*n+1+5*m+2 by omega]
          have hpl:st.pairs.length<=9223372036854775806:=by rw[hst];simp only[ru,List.length_take];omega
          have sk:=iC st hpl;have e:gi l=if cH st then some st else none:=by simp[gi,hfit,hraw]
          rw[e];unfold m8;subst hst;cases hs:cH _ with
          |false=>
           rw[hs]at sk;simp only[Bool.false_eq_true,if_false];refine bP aM func435 rfl call435 ntmps435 (aaX results435) rfl λS=>?_;conv=>whnf
           repeat'(first|refine awz ?_|(refine XL λK' hK=>?_;refine XE m1 [(1000,16)] rfl rfl ?_;(conv=>whnf);refine And.intro rfl ?_;(conv=>whnf);refine hK _ _ ?_;conv=>whnf)|(refine XL λK' hK=>?_;refine XE m2 [(1000,16),(28,928)] rfl rfl ?_;(conv=>whnf);refine And.intro rfl ?_;(conv=>whnf);refine hK _ _ ?_;conv=>whnf)|(refine XL λK' hK=>?_;refine XE m3 [(1000,16),(28,929)] rfl rfl ?_;(conv=>whnf);refine And.intro rfl ?_;(conv=>whnf);refine hK _ _ ?_;conv=>whnf)|(refine XL λK' hK=>?_;refine XE m4 [(1000,16)] rfl rfl ?_;(conv=>whnf);refine And.intro rfl ?_;(conv=>whnf);refine hK _ _ ?_;conv=>whnf)|(refine XL λK' hK=>?_;refine XE m5 [(1000,16)] rfl rfl ?_;(conv=>whnf);refine And.intro rfl ?_;(conv=>whnf);refine hK _ _ ?_;conv=>whnf)|fail)
           (refine XF aM 14 (tkc [0,1,2,3,4,5,6,7,8,9,10,11,12,13,14,15,16] (.two 17 (.two 18 (.one 19 (.one 20 .done)) 19 (.one 18 (.one 20 .done))) 19 (onc [17,18,20] .done))) [] iY ac ac ac ac (λRz=>?_);(conv=>whnf))
           repeat'((first|refine awz ?_|refine Xw 0 _ rfl rfl ?_|refine Xw 1 _ rfl rfl ?_|refine Xw 2 _ rfl rfl ?_|refine aG.scalar sk rfl rfl ?_|refine tW ?_ ?_|fail)<;>conv=>whnf)
           all_goals(exact⟨.inl rfl,.inl rfl,_,_,Nat.le_refl _,XD (hi:=0) rfl⟩)
          |true=>
           rw[hs]at sk;simp only[if_true];refine bP aM func435 rfl call435 ntmps435 (aaX results435) rfl λS=>?_;conv=>whnf
           repeat'(first|refine awz ?_|(refine XL λK' hK=>?_;refine XE m1 [(1000,16)] rfl rfl ?_;(conv=>whnf);refine And.intro rfl ?_;(conv=>whnf);refine hK _ _ ?_;conv=>whnf)|(refine XL λK' hK=>?_;refine XE m2 [(1000,16),(28,928)] rfl rfl ?_;(conv=>whnf);refine And.intro rfl ?_;(conv=>whnf);refine hK _ _ ?_;conv=>whnf)|(refine XL λK' hK=>?_;refine XE m3 [(1000,16),(28,929)] rfl rfl ?_;(conv=>whnf);refine And.intro rfl ?_;(conv=>whnf);refine hK _ _ ?_;conv=>whnf)|(refine XL λK' hK=>?_;refine XE m4 [(1000,16)] rfl rfl ?_;(conv=>whnf);refine And.intro rfl ?_;(conv=>whnf);refine hK _ _ ?_;conv=>whnf)|(refine XL λK' hK=>?_;refine XE m5 [(1000,16)] rfl rfl ?_;(conv=>whnf);refine And.intro rfl ?_;(conv=>whnf);refine hK _ _ ?_;conv=>whnf)|fail)
           (refine XF aM 14 (tkc [0,1,2,3,4,5,6,7,8,9,10,11,12,13,14,15,16] (.two 17 (.two 18 (.one 19 (.one 20 .done)) 19 (.one 18 (.one 20 .done))) 19 (onc [17,18,20] .done))) [] iY ac ac ac ac (λRz=>?_);(conv=>whnf))
           repeat'((first|refine awz ?_|refine Xw 0 _ rfl rfl ?_|refine Xw 1 _ rfl rfl ?_|refine Xw 2 _ rfl rfl ?_|refine aG.scalar sk rfl rfl ?_|refine tW ?_ ?_|fail)<;>conv=>whnf)
           all_goals
            refine⟨alW,?_⟩;conv=>whnf
            refine⟨rfl,alW,S.w0.heap.size,S.w0.heap.size,Nat.le_refl _,XD ?_⟩;simp only[List.all_cons,List.all_append];rw[nv (xs:=(dE _).map DPair.ds) bls,nv (xs:=(eM _).map DJob.ds) bls];rfl
         ·have m5:=ND l (3+2*n+1+5*m+3) false al;rw[dP (fu λh=>by rw[i3,hm]at h;omega)];unfold m8;refine bP aM func435 rfl call435 ntmps435 (aaX results435) rfl λS=>?_;conv=>whnf
          repeat'(first|refine awz ?_|(refine XL λK' hK=>?_;refine XE m1 [(1000,16)] rfl rfl ?_;(conv=>whnf);refine And.intro rfl ?_;(conv=>whnf);refine hK _ _ ?_;conv=>whnf)|(refine XL λK' hK=>?_;refine XE m2 [(1000,16),(28,928)] rfl rfl ?_;(conv=>whnf);refine And.intro rfl ?_;(conv=>whnf);refine hK _ _ ?_;conv=>whnf)|(refine XL λK' hK=>?_;refine XE m3 [(1000,16),(28,929)] rfl rfl ?_;(conv=>whnf);refine And.intro rfl ?_;(conv=>whnf);refine hK _ _ ?_;conv=>whnf)|(refine XL λK' hK=>?_;refine XE m4 [(1000,16)] rfl rfl ?_;(conv=>whnf);refine And.intro rfl ?_;(conv=>whnf);refine hK _ _ ?_;conv=>whnf)|(refine XL λK' hK=>?_;refine XE m5 [(1000,16)] rfl rfl ?_;(conv=>whnf);refine And.intro rfl ?_;(conv=>whnf);refine hK _ _ ?_;conv=>whnf)|fail)
          all_goals(exact⟨.inl rfl,.inl rfl,_,_,Nat.le_refl _,XD (hi:=0) rfl⟩)
        ·have m4:=yn l (3+2*n+1+5*m) 3 aa c7 hl;rw[dP (fu λh=>by rw[i3,hm]at h;omega)];unfold m8;refine bP aM func435 rfl call435 ntmps435 (aaX results435) rfl λS=>?_;conv=>whnf
         repeat'(first|refine awz ?_|(refine XL λK' hK=>?_;refine XE m1 [(1000,16)] rfl rfl ?_;(conv=>whnf);refine And.intro rfl ?_;(conv=>whnf);refine hK _ _ ?_;conv=>whnf)|(refine XL λK' hK=>?_;refine XE m2 [(1000,16),(28,928)] rfl rfl ?_;(conv=>whnf);refine And.intro rfl ?_;(conv=>whnf);refine hK _ _ ?_;conv=>whnf)|(refine XL λK' hK=>?_;refine XE m3 [(1000,16),(28,929)] rfl rfl ?_;(conv=>whnf);refine And.intro rfl ?_;(conv=>whnf);refine hK _ _ ?_;conv=>whnf)|(refine XL λK' hK=>?_;refine XE m4 [(1000,16)] rfl rfl ?_;(conv=>whnf);refine And.intro rfl ?_;(conv=>whnf);refine hK _ _ ?_;conv=>whnf)|fail)
         all_goals(exact⟨.inl rfl,.inl rfl,_,_,Nat.le_refl _,XD (hi:=0) rfl⟩)
       ·have m3:=J2 l (3+2*n) m c5 hl hm hm8 aa;rw[dP (fu λh=>by rw[i3,hm]at h;omega)];unfold m8;refine bP aM func435 rfl call435 ntmps435 (aaX results435) rfl λS=>?_;conv=>whnf
        repeat'(first|refine awz ?_|(refine XL λK' hK=>?_;refine XE m1 [(1000,16)] rfl rfl ?_;(conv=>whnf);refine And.intro rfl ?_;(conv=>whnf);refine hK _ _ ?_;conv=>whnf)|(refine XL λK' hK=>?_;refine XE m2 [(1000,16),(28,928)] rfl rfl ?_;(conv=>whnf);refine And.intro rfl ?_;(conv=>whnf);refine hK _ _ ?_;conv=>whnf)|(refine XL λK' hK=>?_;refine XE m3 [(1000,16),(28,929)] rfl rfl ?_;(conv=>whnf);refine And.intro rfl ?_;(conv=>whnf);refine hK _ _ ?_;conv=>whnf)|fail)
        all_goals(exact⟨.inl rfl,.inl rfl,_,_,Nat.le_refl _,XD (hi:=0) rfl⟩)
      ·have m3:=J1 l (3+2*n) c5 hl (by simp only[aJ,Bool.and_eq_false_iff,decide_eq_false_iff_not];omega);rw[dP (fu λh=>by rw[i3]at h;omega)];unfold m8;refine bP aM func435 rfl call435 ntmps435 (aaX results435) rfl λS=>?_;conv=>whnf
       repeat'(first|refine awz ?_|(refine XL λK' hK=>?_;refine XE m1 [(1000,16)] rfl rfl ?_;(conv=>whnf);refine And.intro rfl ?_;(conv=>whnf);refine hK _ _ ?_;conv=>whnf)|(refine XL λK' hK=>?_;refine XE m2 [(1000,16),(28,928)] rfl rfl ?_;(conv=>whnf);refine And.intro rfl ?_;(conv=>whnf);refine hK _ _ ?_;conv=>whnf)|(refine XL λK' hK=>?_;refine XE m3 [(1000,16),(28,929)] rfl rfl ?_;(conv=>whnf);refine And.intro rfl ?_;(conv=>whnf);refine hK _ _ ?_;conv=>whnf)|fail)
       all_goals(exact⟨.inl rfl,.inl rfl,_,_,Nat.le_refl _,XD (hi:=0) rfl⟩)
     ·have m3:=J0 l (3+2*n) aa;rw[dP (fu λh=>by omega)];unfold m8;refine bP aM func435 rfl call435 ntmps435 (aaX results435) rfl λS=>?_;conv=>whnf
      repeat'(first|refine awz ?_|(refine XL λK' hK=>?_;refine XE m1 [(1000,16)] rfl rfl ?_;(conv=>whnf);refine And.intro rfl ?_;(conv=>whnf);refine hK _ _ ?_;conv=>whnf)|(refine XL λK' hK=>?_;refine XE m2 [(1000,16),(28,928)] rfl rfl ?_;(conv=>whnf);refine And.intro rfl ?_;(conv=>whnf);refine hK _ _ ?_;conv=>whnf)|(refine XL λK' hK=>?_;refine XE m3 [(1000,16),(28,929)] rfl rfl ?_;(conv=>whnf);refine And.intro rfl ?_;(conv=>whnf);refine hK _ _ ?_;conv=>whnf)|fail)
      all_goals(exact⟨.inl rfl,.inl rfl,_,_,Nat.le_refl _,XD (hi:=0) rfl⟩)
    ·have m2:=H2 l 2 n c2 hl hn hn10 aa;rw[dP (fu λh=>by omega)];unfold m8;refine bP aM func435 rfl call435 ntmps435 (aaX results435) rfl λS=>?_;conv=>whnf
     repeat'(first|refine awz ?_|(refine XL λK' hK=>?_;refine XE m1 [(1000,16)] rfl rfl ?_;(conv=>whnf);refine And.intro rfl ?_;(conv=>whnf);refine hK _ _ ?_;conv=>whnf)|(refine XL λK' hK=>?_;refine XE m2 [(1000,16),(28,928)] rfl rfl ?_;(conv=>whnf);refine And.intro rfl ?_;(conv=>whnf);refine hK _ _ ?_;conv=>whnf)|fail)
     all_goals(exact⟨.inl rfl,.inl rfl,_,_,Nat.le_refl _,XD (hi:=0) rfl⟩)
   ·have m2:=H1 l 2 c2 hl (by simp only[aJ,Bool.and_eq_false_iff,decide_eq_false_iff_not];omega);rw[dP (fu λh=>by omega)];unfold m8;refine bP aM func435 rfl call435 ntmps435 (aaX results435) rfl λS=>?_;conv=>whnf
    repeat'(first|refine awz ?_|(refine XL λK' hK=>?_;refine XE m1 [(1000,16)] rfl rfl ?_;(conv=>whnf);refine And.intro rfl ?_;(conv=>whnf);refine hK _ _ ?_;conv=>whnf)|(refine XL λK' hK=>?_;refine XE m2 [(1000,16),(28,928)] rfl rfl ?_;(conv=>whnf);refine And.intro rfl ?_;(conv=>whnf);refine hK _ _ ?_;conv=>whnf)|fail)
    all_goals(exact⟨.inl rfl,.inl rfl,_,_,Nat.le_refl _,XD (hi:=0) rfl⟩)
  ·have m2:=H0 l 2 aa;rw[dP (fu λh=>by omega)];unfold m8;refine bP aM func435 rfl call435 ntmps435 (aaX results435) rfl λS=>?_;conv=>whnf
   repeat'(first|refine awz ?_|(refine XL λK' hK=>?_;refine XE m1 [(1000,16)] rfl rfl ?_;(conv=>whnf);refine And.intro rfl ?_;(conv=>whnf);refine hK _ _ ?_;conv=>whnf)|(refine XL λK' hK=>?_;refine XE m2 [(1000,16),(28,928)] rfl rfl ?_;(conv=>whnf);refine And.intro rfl ?_;(conv=>whnf);refine hK _ _ ?_;conv=>whnf)|fail)
   all_goals(exact⟨.inl rfl,.inl rfl,_,_,Nat.le_refl _,XD (hi:=0) rfl⟩)
 ·have m1:=yn l 0 2 aa aa hl;rw[dP (fu λh=>by omega)];unfold m8;refine bP aM func435 rfl call435 ntmps435 (aaX results435) rfl λS=>?_;conv=>whnf
  repeat'(first|refine awz ?_|(refine XL λK' hK=>?_;refine XE m1 [(1000,16)] rfl rfl ?_;(conv=>whnf);refine And.intro rfl ?_;(conv=>whnf);refine hK _ _ ?_;conv=>whnf)|fail)
  all_goals(exact⟨.inl rfl,.inl rfl,_,_,Nat.le_refl _,XD (hi:=0) rfl⟩)
def Kq(x:List Int):List Int:=(x.drop 4).take (x.length-6)
def pOf(r:List Int):Option (List Int):=match gj r with
 |some x=>if 6<=x.length then some (Kq x)else none
 |none=>none
theorem lQ(r:List Int)(l:List (List Int)):hL (r::l)=(pOf r).bind λa=>(hL l).map λy=>a++y:=by
 rw [show hL (r :: l) = (match gj r with
  |some x=>if 6<=x.length then(hL l).map (λy=>(x.drop 4).take (x.length-6)++y)else none
  |none=>none)from rfl]
 unfold pOf;cases gj r with
 |none=>rfl
 |some x=>
  simp only;split<;>rfl
theorem zb:∀(a b:List (List Int)),hL (a++b)=(hL a).bind λx=>(hL b).map λy=>x++y
 |[],b=>by simp[hL]
 |r::l,b=>by
  rw[List.cons_append,lQ,lQ,zb l b];cases pOf r with
  |none=>rfl
  |some x=>
   cases hL l with
   |none=>rfl
   |some y=>cases hL b<;>simp
theorem Mo(hk:k<rows.length){a:List Int}(h:hL (rows.take k)=some a)(hp:pOf rows[k]=some x):hL (rows.take (k+1))=some (a++x):=by
 rw[List.take_succ_eq_append_getElem hk,zb,h,lQ,hp];simp[hL]
theorem CM(hk:k<rows.length)(hp:pOf rows[k]=none):hL rows=none:=by
 have e:rows=rows.take k++rows[k]::rows.drop (k+1):=by rw[<-List.drop_eq_getElem_cons hk,List.take_append_drop]
 rw[e,zb,lQ,hp];cases hL (rows.take k)<;>rfl
theorem So(h:6<=x.length):((x.map eI).take (x.length-2)).drop 4=(Kq x).map eI:=by
 unfold Kq;rw[<-List.map_take,<-List.map_drop,List.drop_take,show x.length-2-4=x.length-6 by omega]
def KE(o:Option (List Int)):AP:= .tup [.one (.sl ((o.getD []).map eI)),.one (dB o.isSome)]
theorem JU(rows:List (List Int))(hb:rows.length<=1000):aL av 434 [.one (.sl (rows.map bD))] (KE (hL rows)):=by
 refine pO func434 call434 ntmps434 results434 λS=>?_;conv=>whnf
 repeat'(first|refine awz ?_|fail)
 refine XA (λg:Nat×List Int=>g.1<=rows.length/\hL (rows.take g.1)=some g.2/\g.2.length<=48*g.1) (9::[2,3,4,6,7,8,12,13,14,15,16,17,18,19,20,21,22,23,24,25,26,27,28,29,30,31,32,33,34,35]) (λg=>[(4,.one (.own 9)),(12,vI .i64 (g.1:Int))]) (λg=>[(9,.row 2 1 (g.2.map eI))]) (λg=>rows.length-g.1) (0,[]) ⟨Nat.zero_le _,rfl,by simp⟩ ?_ sbW (λg hg=>?_)<;>(conv=>whnf)
 ·exact whd
 ·obtain⟨k,acc⟩:=g;obtain⟨hk,hacc,hal⟩:=hg;simp only at hk hacc hal;by_cases hlt:k<rows.length
  ·have hc:decide ((k:Int)<((rows.map bD).length:Int))=true:=by simp only[decide_eq_true_eq,length_map];omega
   have un:=uv rows[k];cases hu:gj rows[k]with
   |none=>
    have hp:pOf rows[k]=none:=by simp[pOf,hu]
    rw[CM hlt hp];rw[hu]at un;unfold pt at un;unfold KE;repeat'((first|refine awz ?_|refine XK hlt ?_|refine cP (un) ?_|exact rZ|fail)<;>conv=>whnf)
   |some x=>
    rw[hu]at un;have un:aL av 428 [.one (.sl (rows[k].map eI))] (.tup [.one (.sl (x.map eI)),.one (dB true)]):=un;have hx48:=(dR hu).2.1;by_cases h6:6<=x.length
    ·have hp:pOf rows[k]=some (Kq x):=by simp[pOf,hu,h6]
     have h5:decide (((x.map eI).length:Int)<6)=false:=al;have hml:(Kq x).length<=48:=by simp[Kq];omega
     repeat'((first|refine awz ?_|refine XK hlt ?_|refine cP (un) ?_|(refine⟨4,x.length-2,rfl,(by show _=_;simp only[length_map];omega),aa,ah,(by intro y hy;obtain⟨a,_,rfl⟩:=mem_map.1 hy;rfl),?_⟩;rw[So h6])|refine aY (by first|(intro y hy;obtain⟨a,_,rfl⟩:=mem_map.1 hy;rfl)|(simp;done)) ?_|refine bc ak ?_|refine Xz am am ?_|fail)<;>conv=>whnf)
     refine aT.mk ⟨(k+1,acc++Kq x),⟨hlt,Mo hlt hacc hp,by simp only[List.length_append];omega⟩,by simp only;omega,?_,Xu (by simp[bo]) Xv⟩;exact hds
    ·have hp:pOf rows[k]=none:=by simp[pOf,hu,h6]
     have h5:decide (((x.map eI).length:Int)<6)=true:=al;rw[CM hlt hp];unfold KE;repeat'((first|refine awz ?_|refine XK hlt ?_|refine cP (un) ?_|exact rZ|fail)<;>conv=>whnf)
  ·have e:k=rows.length:=aa;subst e;have hc:decide ((rows.length:Int)<((rows.map bD).length:Int))=false:=ah;rw[List.take_length]at hacc;rw[hacc];unfold KE;repeat'(first|refine awz ?_|exact rZ|fail)
def sE(o:Option (Int×DState)):List AP1:=[.agg (fE (o.getD wJ)),.one (dB o.isSome)]
theorem Mn{r:List Int}{l:List (List Int)}{a:List Int}(h:hL (r::l)=some a):7<=r.length:=by
 rw[lQ]at h;cases hp:pOf r with
 |none=>rw[hp]at h;cases h
 |some y=>
  unfold pOf at hp;cases hu:gj r with
  |none=>rw[hu]at hp;cases hp
  |some x=>
   rw[hu]at hp;simp only at hp;split at hp
   ·rw[(dR hu).2.2];simp[fx];omega
   ·cases hp
theorem FW:∀{rows:List (List Int)} {a:List Int},hL rows=some a->a.length<=48*rows.length
 |[],a,h=>by simp[hL]at h;subst h;simp
 |r::l,a,h=>by
  rw[lQ]at h;cases hp:pOf r with
  |none=>rw[hp]at h;cases h
  |some y=>
   rw[hp]at h;cases hg:hL l with
   |none=>rw[hg]at h;cases h
   |some z=>
    rw[hg]at h;simp at h;subst h;have:=FW hg;have hy:y.length<=48:=by
     unfold pOf at hp;cases hu:gj r with
     |none=>rw[hu]at hp;cases hp
     |some x=>
      rw[hu]at hp;simp only at hp;have:=(dR hu).2.1;split at hp
      ·injection hp with hp;subst hp;simp[Kq];omega
      ·cases hp
    simp only[List.length_append,List.length_cons];omega
theorem HU(rows:List (List Int))(hb:rows.length<=1000):dZ av 409 [.one (.sl (rows.map bD))] (sE (cT rows)):=by
 have ga:=JU rows hb;cases hg:hL rows with
 |none=>
  have e:cT rows=none:=by simp[cT,hg]
  rw[e];rw[hg]at ga;unfold KE at ga;unfold sE;refine bP aM func409 rfl call409 ntmps409 (aaX results409) rfl λS=>?_;conv=>whnf
  repeat'(first|refine awz ?_|(refine cP (ga) ?_;conv=>whnf)|fail)
  all_goals(exact⟨.inl rfl,.inl rfl,_,_,Nat.le_refl _,XD (hi:=0) rfl⟩)
 |some l=>
  rw[hg]at ga;have ga:aL av 434 [.one (.sl (rows.map bD))] (.tup [.one (.sl (l.map eI)),.one (dB true)]):=ga;have hll:=FW hg;cases rows with
  |nil=>
   have e:cT []=none:=by
    unfold cT;cases hL []with
    |none=>rfl
    |some l=>simp only[List.isEmpty_nil,Bool.not_true,Bool.and_false,Bool.false_eq_true,if_false];split<;>rfl
   rw[e];unfold sE;refine bP aM func409 rfl call409 ntmps409 (aaX results409) rfl λS=>?_;conv=>whnf
   repeat'(first|refine awz ?_|(refine cP (ga) ?_;conv=>whnf)|fail)
   all_goals(exact⟨.inl rfl,.inl rfl,_,_,Nat.le_refl _,XD (hi:=0) rfl⟩)
  |cons r0 rest=>
   have h7:=Mn hg;generalize hrows:r0::rest=rows at*
   have hpos:0<rows.length:=by rw[<-hrows];simp
   have hr0:rows[0]=r0:=by subst hrows;rfl
   have hz:(((rows.map bD).length:Int)==0)=false:=by simp only[length_map,beq_eq_false_iff_ne,ne_eq];omega
   have ns:=ze l aa;cases hn:gi l with
   |none=>
    have e:cT rows=none:=by simp[cT,hg,hn]
    rw[e];rw[hn]at ns;unfold m8 at ns;unfold sE;refine bP aM func409 rfl call409 ntmps409 (aaX results409) rfl λS=>?_;conv=>whnf
    repeat'((first|refine awz ?_|refine cP (ga) ?_|refine XM ns rfl rfl λR lo hi a1 a2 F=>?_|fail)<;>conv=>whnf)
    all_goals(exact⟨.inl rfl,.inl rfl,_,_,Nat.le_refl _,XD (hi:=0) rfl⟩)
   |some st=>
    have hso:=As hn;have hpl:=nP (dS hso).2.2.1;rw[hn]at ns;have ns:dZ av 435 [.one (.sl (l.map eI))] [.agg st.ds,.one (dB true)]:=ns;obtain⟨num,hnum⟩:∃num,num=(rows.getD 0 []).getD 0 0:=⟨_,rfl⟩;have hget:(rows[0].map eI)[0]? =some (eI num):=by
     have:0<rows[0].length:=by rw[hr0];omega
     rw[List.getElem?_map,getElem?_eq_getElem this,hnum,List.getD_eq_getElem?_getD,List.getD_eq_getElem?_getD,getElem?_eq_getElem hpos,Option.getD_some,getElem?_eq_getElem this];rfl
    have e:cT rows=if cC (num,st)=rows then some (num,st)else none:=by
     have hne:rows.isEmpty=false:=by rw[<-hrows];rfl
     simp only[cT,hg,hn,<-hnum,hne,Bool.not_false,Bool.and_true,beq_iff_eq]
    have sr:=JO (num,st) (by show st.pairs.length<=9223372036854775806;omega);have main:∀o:Option (Int×DState),(cC (num,st)=rows->o=some (num,st))->(cC (num,st)≠rows->o=none)->dZ av 409 [.one (.sl (rows.map bD))] (sE o):=by
     intro o h1 h2;have hags:∀r∈cC (num,st),r.length<=9223372036854775806:=λr hr=>by
      unfold cC at hr;split at hr
      ·rename_i hso2;obtain⟨p,hp,rfl⟩:=mem_map.1 hr;have:=(rS hso2 (List.mem_range.1 hp)).2;simp only[fx,List.length_append,List.length_singleton];omega
      ·simp at hr
     generalize cC (num,st)=again at sr h1 h2 hags;by_cases hlen:again.length=rows.length
     ·have hc:(((again.map bD).length:Int) !=((rows.map bD).length:Int))=false:=by simp[hlen]
      refine bP aM func409 rfl call409 ntmps409 (aaX results409) rfl λS=>?_;conv=>whnf
      repeat'((first|refine awz ?_|refine cP (ga) ?_|refine XM ns rfl rfl λR lo hi a1 a2 F=>?_|fail)<;>conv=>whnf)
      (refine XF aM 7 (tkc [0,1,2,3,4,5] (.two 6 (.one 7 (.one 8 .done)) 7 (.one 6 (.one 8 .done)))) [(6,9980)] fG ac ac ac ac (λRz=>?_);(conv=>whnf);intro bp0 up0;(conv=>whnf))
      repeat'((first|refine awz ?_|refine Xw 0 (bD rows[0]) rfl (by rw[List.getElem?_map,getElem?_eq_getElem hpos];rfl) ?_|refine Xw 0 (eI num) rfl hget ?_|refine tW ?_ ?_|fail)<;>conv=>whnf)
      all_goals
       have F7:d6 lo hi ([dI num]++((cW R 0 (st.ds++[dB true])).drop 0).take 7) ([dI num]++((st.ds++[dB true]).drop 0).take 7):=(Yk (lo:=lo) (hi:=lo) (ds:=[dI num]) rfl).app (F.part 0 7) (.inl (Nat.le_refl _)) ⟨Nat.le_refl _,Nat.le_refl _⟩ ⟨a2,Nat.le_refl _⟩;refine Ye [.agg ((fE (num,st)).map .d)] ⟨F7.asV,trivial⟩ ?_;refine Xt sr rfl ?_;conv=>whnf
       repeat'(first|refine awz ?_|fail)
       refine XA (λk:Nat=>k<=rows.length/\∀(j:Nat) (h1:j<again.length) (h2:j<rows.length),j<k->again[j]=rows[j]) (3::10::11::rg 50 14) (λk=>[(50,vI .i64 (k:Int))]) (λk=>[(9997,cS S.w0.heap.size hi),(2,.cells 241 [.d (dI 0),.d (dI 0),.d (dI 0),.nil,.nil,.d (dI 0),.d (dI 0),.d (dI 0)]),(8,.cells 241 [.d (dI num),.d (dI st.index),.d (dI st.time),.d (.x (R 2)),.d (.x (R 3)),.d (dI st.lease.holder),.d (dI st.lease.epoch),.d (dI st.lease.til)])]) (λk=>rows.length-k) 0 ⟨Nat.zero_le _,λj h1 h2 h3=>by omega⟩ ?_ sbW (λk hk=>?_)<;>(conv=>whnf)
       ·exact whd
       ·obtain⟨hk,hall⟩:=hk;by_cases hlt:k<rows.length
        ·have hlt2:k<again.length:=aa;have hck:decide ((k:Int)<((again.map bD).length:Int))=true:=by simp only[decide_eq_true_eq,length_map];omega
         have hag:=hags _ (List.getElem_mem hlt2);have sm:=lU again[k] rows[k] hag;by_cases he:again[k]=rows[k]
         ·have hd:decide (again[k]=rows[k])=true:=by simpa using he
          rw[hd]at sm;repeat'((first|refine awz ?_|refine XK hlt2 ?_|refine XK hlt ?_|refine cP (sm) ?_|refine Xz aa aa ?_|fail)<;>conv=>whnf)
          refine aT.mk ⟨k+1,⟨hlt,λj g1 g2 g3=>?_⟩,aa,?_,sbW⟩
          ·rcases Nat.lt_succ_iff_lt_or_eq.1 g3 with g|g
           ·exact hall j g1 g2 g
           ·subst g;exact he
          ·exact hds
         ·have hd:decide (again[k]=rows[k])=false:=by simpa using he
          rw[hd]at sm;obtain rfl:=h2 λe9=>by subst e9;exact he rfl
          unfold sE;repeat'((first|refine awz ?_|refine XK hlt2 ?_|refine XK hlt ?_|refine cP (sm) ?_|fail)<;>conv=>whnf)
          all_goals(exact⟨.inl rfl,.inl rfl,_,_,Nat.le_refl _,XD (hi:=0) rfl⟩)
        ·have e8:k=rows.length:=aa;subst e8;have hck:decide ((rows.length:Int)<((again.map bD).length:Int))=false:=by simp[hlen]
         obtain rfl:=h1 (List.ext_getElem hlen λj g1 g2=>hall j g1 g2 g2);unfold sE;repeat'(first|refine awz ?_|fail)
         all_goals exact⟨lo,hi,a1,(F7.app (Yk (lo:=hi) (hi:=hi) (ds:=[dB true]) rfl) (.inl (Nat.le_refl _)) ⟨Nat.le_refl _,a2⟩ ⟨Nat.le_refl _,Nat.le_refl _⟩).fam⟩
     ·have hc:(((again.map bD).length:Int) !=((rows.map bD).length:Int))=true:=al;obtain rfl:=h2 λe9=>hlen (by rw[e9]);refine bP aM func409 rfl call409 ntmps409 (aaX results409) rfl λS=>?_;conv=>whnf
      repeat'((first|refine awz ?_|refine cP (ga) ?_|refine XM ns rfl rfl λR lo hi a1 a2 F=>?_|fail)<;>conv=>whnf)
      (refine XF aM 7 (tkc [0,1,2,3,4,5] (.two 6 (.one 7 (.one 8 .done)) 7 (.one 6 (.one 8 .done)))) [(6,9980)] fG ac ac ac ac (λRz=>?_);(conv=>whnf);intro bp0 up0;(conv=>whnf))
      repeat'((first|refine awz ?_|refine Xw 0 (bD rows[0]) rfl (by rw[List.getElem?_map,getElem?_eq_getElem hpos];rfl) ?_|refine Xw 0 (eI num) rfl hget ?_|refine tW ?_ ?_|fail)<;>conv=>whnf)
      all_goals
       have F7:d6 lo hi ([dI num]++((cW R 0 (st.ds++[dB true])).drop 0).take 7) ([dI num]++((st.ds++[dB true]).drop 0).take 7):=(Yk (lo:=lo) (hi:=lo) (ds:=[dI num]) rfl).app (F.part 0 7) (.inl (Nat.le_refl _)) ⟨Nat.le_refl _,Nat.le_refl _⟩ ⟨a2,Nat.le_refl _⟩;refine Ye [.agg ((fE (num,st)).map .d)] ⟨F7.asV,trivial⟩ ?_;refine Xt sr rfl ?_;conv=>whnf
       unfold sE;repeat'(first|refine awz ?_|fail)
      all_goals(exact⟨.inl rfl,.inl rfl,_,_,Nat.le_refl _,XD (hi:=0) rfl⟩)
    rw[e];exact main _ (λh=>by rw[if_pos h]) (λh=>by rw[if_neg h])
end
section
open Go.Proofs.Tryz
open Go.ChangeShapes Go.WideShapes Go.RowKit
variable {d:DDisk}{s slot:Int}{C:List AD}{hi i k lo n:Nat}{ix:Nat->Nat}
theorem rU(h:s=0\/s=1):aL av 245 [pI s] (rB true):=by
 rcases h with rfl|rfl
 ·refine pO func245 call245 ntmps245 results245 λS=>?_;conv=>whnf
  repeat'(first|refine awz ?_|exact rZ|fail)
 ·refine pO func245 call245 ntmps245 results245 λS=>?_;conv=>whnf
  repeat'(first|refine awz ?_|exact rZ|fail)
theorem js(h:eZ d=true):db d=true/\d.kept.length=8:=by simpa[eZ]using h
theorem wN(d:DDisk)(slot:Int)(k:Nat):(dJ d slot (k+1)).map bD=(dJ d slot k).map bD++[bD (ij d (slot*4+(k:Int)))]:=by
 simp[dJ,List.range_succ]
theorem ll(d:DDisk)(slot:Int)(k:Nat):(dJ d slot k).length=k:=by simp[dJ]
theorem M0{s:Int×DState}(h:cT (dJ d slot k)=some s):gY d slot=some s:=by
 obtain⟨h1,h2⟩:=E3 h;rw[gY,if_pos h1,<-h2,h]
theorem La(h:∀k,1<=k->k<=4->cT (dJ d slot k)=none):gY d slot=none:=by
 unfold gY;split
 ·cases e:cT (dJ d slot (fF d slot))with
  |none=>rfl
  |some s=>
   have:=(rN e).1;rw[ll]at this;rw[h _ this.1 this.2]at e;cases e
 ·rfl
theorem GN(d:DDisk)(slot:Int)(hd:eZ d=true)(hs:slot=0\/slot=1):aL av 244 [.agg d.ds,pI slot] (DI (gY d slot)):=by
 obtain⟨h1,h8⟩:=js hd;have n1:(!eZ d)=false:=by rw[hd];rfl
 unfold DI fE;refine pO func244 call244 ntmps244 results244 λS=>?_;conv=>whnf
 repeat'((first|refine awz ?_|refine cP (ka d) ?_|refine cP (rU hs) ?_|fail)<;>conv=>whnf)
 refine XA (λk:Nat=>k<=4/\∀j,1<=j->j<=k->cT (dJ d slot j)=none) (21::[5,6,7,8,9,10,11,22,23,24,25,26,27,28,29,30,31,32,33,34,35,36,37,38,39,40,41,42,43,44,45]) (λk=>[(6,.one (.own 21)),(7,vI .i64 (k:Int))]) (λk=>[(2,.cells 69 (d.ds.map .d)),(4,.cells 241 [.d (dI 0),.d (dI 0),.d (dI 0),.nil,.nil,.d (dI 0),.d (dI 0),.d (dI 0)]),(21,.row 62 1 ((dJ d slot k).map bD))]) (λk=>4-k) 0 ⟨zero_le _,λj h1 h2=>by omega⟩ ?_ sbW (λk hk=>?_)<;>(conv=>whnf)
 ·exact whd
 ·obtain⟨hk,none_⟩:=hk;have hrl:=ll d slot k;by_cases hlt:k<4
  ·have hc:decide ((k:Int)<4)=true:=by simp only[decide_eq_true_eq];omega
   have ra:=zv d (slot*4+(k:Int)) h1 (by rw[h8];simp only[aJ,Bool.and_eq_true,decide_eq_true_eq];omega);have hss:=wN d slot k;have hl1:=ll d slot (k+1);have rs:=K5 (dJ d slot (k+1)) aa;cases e:cT (dJ d slot (k+1))with
   |none=>
    rw[e]at rs;have rs:aL av 312 [.one (.sl ((dJ d slot (k+1)).map bD))] (.tup [.agg (fE wJ),.one (dB false)]):=rs;repeat'((first|refine awz ?_|refine cP (ra) ?_|refine Z3 rs (by rw[hss];rfl) (by rfl) ?_|refine bc ar ?_|refine Xz aa aa ?_|fail)<;>conv=>whnf)
    refine aT.mk ⟨k+1,⟨hlt,λj h1 h2=>?_⟩,aa,?_,Xu rfl (Xu rfl (Xu (by rw[hss];rfl) Xv))⟩
    ·rcases Nat.eq_or_lt_of_le h2 with h|h
     ·subst h;exact e
     ·exact none_ j h1 aa
    ·exact hds
   |some s=>
    rw[e]at rs;rw[M0 e];have rs:aL av 312 [.one (.sl ((dJ d slot (k+1)).map bD))] (.tup [.agg (fE s),.one (dB true)]):=rs;repeat'(first|refine awz ?_|(refine cP (ra) ?_;conv=>whnf)|(refine aG.freeze 21 62 1 ((dJ d slot (k+1)).map bD) (by rw[hss];rfl) ?_;(conv=>whnf);refine Xt rs rfl ?_;conv=>whnf)|((first|refine bc ar ?_|refine Xz aa aa ?_|fail)<;>conv=>whnf)|exact rZ|fail)
  ·have e:k=4:=aa;subst e;have hc:decide (((4:Nat):Int)<4)=false:=ae;rw[La λj h1 h2=>none_ j h1 h2];repeat'(first|refine awz ?_|exact rZ|fail)
def T2(x:Option (Int×DState)×Int):AP:= .tup [.agg (fE (x.1.getD wJ)),pI x.2,.one (dB x.1.isSome)]
theorem ET(d:DDisk)(hd:eZ d=true):aL av 158 [.agg d.ds] (T2 (gV d)):=by
 have s0:=GN d 0 hd (.inl rfl);have s1:=GN d 1 hd (.inr rfl);unfold gV;generalize gY d 0=a at*
 generalize gY d 1=b at*
 unfold T2 fE;unfold DI fE at s0 s1;cases a with
 |none=>
  cases b with
  |none=>
   refine pO func158 call158 ntmps158 results158 λS=>?_;conv=>whnf
   repeat'((first|refine awz ?_|refine cP (s0) ?_|refine cP (s1) ?_|exact rZ|fail)<;>conv=>whnf)
  |some b=>
   refine pO func158 call158 ntmps158 results158 λS=>?_;conv=>whnf
   repeat'((first|refine awz ?_|refine cP (s0) ?_|refine cP (s1) ?_|exact rZ|fail)<;>conv=>whnf)
 |some a=>
  cases b with
  |none=>
   refine pO func158 call158 ntmps158 results158 λS=>?_;conv=>whnf
   repeat'((first|refine awz ?_|refine cP (s0) ?_|refine cP (s1) ?_|exact rZ|fail)<;>conv=>whnf)
  |some b=>
   by_cases h:a.1<b.1
   ·have hc:decide (b.1>a.1)=true:=by simpa using h
    simp only[if_pos h];refine pO func158 call158 ntmps158 results158 λS=>?_;conv=>whnf
    repeat'((first|refine awz ?_|refine cP (s0) ?_|refine cP (s1) ?_|exact rZ|fail)<;>conv=>whnf)
   ·have hc:decide (b.1>a.1)=false:=by simpa using h
    simp only[if_neg h];refine pO func158 call158 ntmps158 results158 λS=>?_;conv=>whnf
    repeat'((first|refine awz ?_|refine cP (s0) ?_|refine cP (s1) ?_|exact rZ|fail)<;>conv=>whnf)
def sI:List (List Nat):=cz [0,1,0,3,0,5,6,0x7185103081102,0x1c61440c20471c8]
theorem M5(d:DDisk)(h:db d=true):gc av 313 [.agg (d.ds.map .d),.one (.own 1001),.one (.d (dB true))] [(1001,.row 2 1 [])] [(1001,.row 2 1 []),(923,.row 62 1 ((eN d).kept.map bD))] [] (.val (.agg [.own 923,.nil])):=by
 have hs:=gJ h;obtain⟨h1,h2,h3,h4,h5⟩:=cL h;refine dq aM func313 rfl call313 ntmps313 (aaX results313) rfl λS pv=>?_;conv=>whnf
 repeat'(first|refine awz ?_|(refine XE (zz d hs) [(23,923),(49,949)] rfl rfl ?_;conv=>whnf)|fail)
 refine XA (λk:Nat=>k<=d.wait.length) (8::9::10::rg 15 51) (λk=>[(8,vI .i64 (k:Int))]) (λk=>[(9999,.frame (ii []) pv),(1001,.row 2 1 []),(3,.cells 69 (d.ds.map .d)),(6,.cells 69 [.nil,.nil]),(7,.cells 69 [.own 923,.nil]),(923,.row 62 1 ((lC d.kept (d.wait.take k)).map bD))]) (λk=>d.wait.length-k) 0 (zero_le _) ?_ sbW (λk hk=>?_)<;>(conv=>whnf)
 ·exact whd
 ·by_cases hlt:k<d.wait.length
  ·have hc:decide ((k:Int)<((d.wait.map DWrite.ds).length:Int))=true:=al;have hw:=(fy (h5 _ (List.getElem_mem hlt)));have hlen:=f9 (d.wait.take k) d.kept;have hsx:=xa (k:=d.kept) hlt;have h48:=dG hw.2;have hn:decide ((k:Int)<0)=false:=ah;repeat'(first|refine awz ?_|(refine XK hlt ?_;conv=>whnf)|fail)
   (refine XF aM 10 (tkc [0,2,4] (.three 1 (.two 3 (onc [5,6,7,8] .done) 5 (.two 3 (onc [6,7,8] .done) 6 (onc [3,7,8] .done))) 3 (.two 1 (onc [5,6,7,8] .done) 5 (.two 1 (onc [6,7,8] .done) 6 (onc [1,7,8] .done))) 5 (.three 1 (.two 3 (onc [6,7,8] .done) 6 (onc [3,7,8] .done)) 3 (.two 1 (onc [6,7,8] .done) 6 (onc [1,7,8] .done)) 6 (.two 1 (onc [3,7,8] .done) 3 (onc [1,7,8] .done))))) [] sI ac ac ac ac (λRz=>?_);(conv=>whnf))
   repeat'((first|refine awz ?_|refine AIx.int hw.1.1 aa ?_|refine cP (d8 d.wait[k].row aa) ?_|refine tW ?_ ?_|fail)<;>conv=>whnf)
   all_goals
    refine XK aa ?_;conv=>whnf
    repeat'(first|refine awz ?_|(refine Xz ari ari ?_;conv=>whnf)|fail)
    refine aT.mk ⟨k+1,hlt,aa,?_,Xu rfl (Xu rfl (Xu rfl (Xu rfl (Xu rfl (Xu (by rw[hsx,map_set];rfl) Xv)))))⟩;exact hds
  ·have e:k=d.wait.length:=aa;subst e;have hc:decide ((d.wait.length:Int)<((d.wait.map DWrite.ds).length:Int))=false:=ah;rw[List.take_length];repeat'(first|refine awz ?_|exact rZ|fail)
   all_goals(first|rfl|exact⟨rfl,whd⟩)
theorem Pc(d:DDisk)(h:db d=true):gc av 246 [.agg (d.ds.map .d)] [] [(923,.row 62 1 ((eN d).kept.map bD))] [] (.val (.agg [.own 923,.nil])):=by
 have n1:(!db d)=false:=by rw[h];rfl
 refine dq aM func246 rfl call246 ntmps246 (aaX results246) rfl λS pv=>?_;conv=>whnf
 repeat'((first|refine awz ?_|refine cP (d7 d) ?_|refine XE (M5 d h) [(1001,8),(923,923)] rfl rfl ?_|exact rZ|fail)<;>conv=>whnf)
 all_goals(first|rfl|exact⟨rfl,whd⟩)
theorem rO(d:DDisk)(slot:Int)(hd:eZ d=true)(hs:slot=0\/slot=1):aL av 159 [.agg d.ds,pI slot] (.val (.agg (sG d slot).ds)):=by
 obtain⟨h1,h8⟩:=js hd;have n1:(!eZ d)=false:=by rw[hd];rfl
 have hl:(eN d).kept.length=8:=by simp[eN,f9,h8]
 refine pO func159 call159 ntmps159 results159 λS=>?_;conv=>whnf
 repeat'((first|refine awz ?_|refine cP (ka d) ?_|refine cP (rU hs) ?_|refine XE (Pc d h1) [(923,923)] rfl rfl ?_|fail)<;>conv=>whnf)
 refine XA (λk:Nat=>k<=4) (6::rg 18 12) (λk=>[(6,vI .i64 (k:Int))]) (λk=>[(4,.cells 69 [.nil,.nil]),(5,.cells 69 [.own 923,.nil]),(923,.row 62 1 ((qB (eN d).kept slot k).map bD))]) (λk=>4-k) 0 (zero_le _) ?_ sbW (λk hk=>?_)<;>(conv=>whnf)
 ·exact whd
 ·have hw:=v7 (eN d).kept slot k;by_cases hlt:k<4
  ·have hc:decide ((k:Int)<4)=true:=by simp only[decide_eq_true_eq];omega
   have hsx:(qB (eN d).kept slot (k+1)).map bD=((qB (eN d).kept slot k).map bD).set (slot*4+(k:Int)).toNat [.sl []]:=by
    simp only[qB,map_set];rfl
   repeat'((first|refine ZT (rid:=9) aM 7 28 2 1 [] ?_|refine awz ?_|refine AIx.int aa aa ?_|refine Xz aa aa ?_|fail)<;>conv=>whnf)
   refine aT.mk ⟨k+1,hlt,aa,?_,Xu rfl (Xu rfl (Xu (by rw[hsx];rfl) Xv))⟩;exact hds
  ·have e:k=4:=aa;subst e;have hc:decide (((4:Nat):Int)<4)=false:=ae;repeat'(first|refine awz ?_|exact rZ|fail)
def ph:List (List Nat):=cz [0,1,0,3,528643,0,6,0,8,0,10,714,0x14310108718920c28b,0xd2ca3082461c20440c5,0x3850c40421c624830a2cd]
def pm:List (List Nat):=eK 12 [531270,531271,531206,531215,531238,529496,529739,513944,516131,19682,39365,98414]
theorem O9(d:DDisk)(h:db d=true):aL av 157 [.agg d.ds] (rB d.wait.isEmpty):=by
 have e:d.wait.isEmpty=(((d.wait.map DWrite.ds).length:Int)==0):=by
  cases d.wait with
  |nil=>rfl
  |cons a b=>simp;omega
 rw[e];refine pO func157 call157 ntmps157 results157 λS=>?_;conv=>whnf
 repeat'(first|refine awz ?_|(refine cP (d7 d) ?_;conv=>whnf)|exact rZ|fail)
def M8:DStore:=⟨⟨[],[]⟩,gZ,0,0,0⟩
def GA(o:Option DStore):AP:= .tup [.agg (o.getD M8).ds,.one (dB o.isSome)]
theorem Dy(d:DDisk):(gV d).2=0\/(gV d).2=1:=by
 unfold gV;split
 ·split
  ·exact .inr rfl
  ·exact .inl rfl
 ·exact .inl rfl
 ·exact .inr rfl
 ·exact .inl rfl
theorem EV(m:DStore):aL av 77 [.agg m.ds] (GA (cV m)):=by
 have so:=ka m.disk;cases hd:eZ m.disk with
 |false=>
  have e:cV m=none:=by simp[cV,hd]
  rw[hd]at so;rw[e];unfold GA;refine pO func77 call77 ntmps77 results77 λS=>?_;conv=>whnf
  repeat'(first|refine awz ?_|(refine cP (so) ?_;conv=>whnf)|exact rZ|fail)
 |true=>
  rw[hd]at so;obtain⟨h1,h8⟩:=js hd;have si:=O9 m.disk h1;cases hw:m.disk.wait.isEmpty with
  |false=>
   rw[hw]at si;have e:cV m=none:=by simp[cV,hd,hw]
   rw[e];unfold GA;refine pO func77 call77 ntmps77 results77 λS=>?_;conv=>whnf
   repeat'((first|refine awz ?_|refine cP (so) ?_|refine cP (si) ?_|exact rZ|fail)<;>conv=>whnf)
  |true=>
   rw[hw]at si;have ns:=ET m.disk hd;have nk:=Dy m.disk;unfold T2 at ns;unfold cV;rw[hd,hw];simp only[Bool.and_self,if_true];generalize gV m.disk=x at*
   obtain⟨o,k⟩:=x;cases o with
   |none=>
    have w0:=rO m.disk 0 hd (.inl rfl);have w1:=rO (sG m.disk 0) 1 (va hd 0) (.inr rfl);simp only;have ns:aL av 158 [.agg m.disk.ds] (.tup [.agg (fE wJ),pI k,.one (dB false)]):=ns;unfold fE at ns;unfold GA;refine pO func77 call77 ntmps77 results77 λS=>?_;conv=>whnf
    repeat'((first|refine awz ?_|refine cP (so) ?_|refine cP (si) ?_|refine cP (ns) ?_|refine cP (w0) ?_|refine cP (w1) ?_|exact rZ|fail)<;>conv=>whnf)
   |some h=>
    have hk:1-k=0\/1-k=1:=by simp only at nk;omega
    have wk:=rO m.disk (1-k) hd hk;simp only at nk⊢;have ns:aL av 158 [.agg m.disk.ds] (.tup [.agg (fE h),pI k,.one (dB true)]):=ns;unfold fE at ns;unfold GA;refine pO func77 call77 ntmps77 results77 λS=>?_;conv=>whnf
    repeat'((first|refine awz ?_|refine cP (so) ?_|refine cP (si) ?_|refine cP (ns) ?_|fail)<;>conv=>whnf)
    (refine XB aM 6 12 ph pm ac ac ac rfl ?_;conv=>whnf)
    repeat'((first|refine awz ?_|refine cP (wk) ?_|refine Xz aa aa ?_|exact rZ|fail)<;>conv=>whnf)
theorem By(R:Nat->(Nat->Prop)->World->Value->Prop){zs:List (List AD)}:∀{ds:List AD} {k i:Nat},ds[i]? =some (.sl zs)->(cW R k ds)[i]? =some (.x (R (k+i)))
 |[],_,_,h=>by simp at h
 |d::r,k,0,h=>by simp at h;subst h;rfl
 |d::r,k,i+1,h=>by
  have:=By R (ds:=r) (k:=k+1) (i:=i) (by simpa using h);rw[show k+1+i=k+(i+1)by omega]at this;cases d<;>simpa[cW]using this
def uM(C:List AD)(ix:Nat->Nat)(n:Nat):List (List AD):=(List.range n).map λi=>[C.getD (ix i) (dI 0)]
theorem qi(C:List AD)(ix:Nat->Nat)(n:Nat):(uM C ix n).length=n:=by simp[uM]
theorem qh(h:i<n):(uM C ix n)[i]? =some [C.getD (ix i) (dI 0)]:=by simp[uM,h]
theorem O1{a j:Nat}{c:AD}(hc:C[j]? =some c):(uM C ix n).set a [c]=uM C (λi=>if i=a then j else ix i) n:=by
 refine List.ext_getElem? λi=>?_;rw[List.getElem?_set,qi];by_cases hi:i<n
 ·rw[qh hi];by_cases ha:a=i
  ·subst ha;rw[if_pos rfl,if_pos hi,qh hi];simp[getD_eq_getElem?_getD,hc]
  ·have hia:¬i=a:=λe=>ha e.symm;rw[if_neg ha,qh hi];simp[hia]
 ·rw[List.getElem?_eq_none (by rw[qi];omega)];rw[List.getElem?_eq_none (l:=uM C _ n) (by rw[qi];omega)];split
  ·rw[if_neg aa]
  ·rfl
def Bj(l:List Int):AD:= .sl (l.map eI)
theorem nN(k:List (List Int)):(k.map bD).flatten=k.map Bj:=xX Bj k
def my(d:DDisk):List AD:=(d.kept.map bD).flatten++(d.wait.map DWrite.ds).flatten
theorem Cy(hi:i<d.kept.length):(my d)[i]? =some (Bj d.kept[i]):=by
 rw[my,nN,List.getElem?_append_left (by simpa using hi),getElem?_map,getElem?_eq_getElem hi];rfl
theorem Cz(hk:k<d.wait.length):(my d)[d.kept.length+(k*2+1)]? =some (Bj d.wait[k].row):=by
 rw[my,nN,List.getElem?_append_right ah,length_map,Nat.add_sub_cancel_left];have hs:∀u∈d.wait.map DWrite.ds,u.length=2:=alW;rw[dz hs (u:=DWrite.ds d.wait[k]) (by rw[getElem?_map,getElem?_eq_getElem hk];rfl) aa];rfl
structure Hi (d:DDisk) (k:Nat) (ix:Nat->Nat):Prop where
 lt:∀i,i<d.kept.length->ix i<d.kept.length+k*2
 inj:∀i j,i<d.kept.length->j<d.kept.length->ix i=ix j->i=j
 eq:∀i,i<d.kept.length->(my d)[ix i]? =some (Bj ((lC d.kept (d.wait.take k)).getD i []))
theorem Hi.zero(d:DDisk):Hi d 0 id:=by
 refine⟨λi hi=>by simpa using hi,λi j _ _ h=>h,λi hi=>?_⟩;rw[show id i=i from rfl,Cy hi];simp[lC,getD_eq_getElem?_getD,hi]
theorem Hi.succ(h:Hi d k ix)(hk:k<d.wait.length):Hi d (k+1) λi=>if i=d.wait[k].at_.toNat then d.kept.length+(k*2+1)else ix i:=by
 refine⟨λi hi=>?_,λi j hi hj e=>?_,λi hi=>?_⟩
 ·show(if i=_ then _ else _)<_;split
  ·omega
  ·have:=h.lt i hi;omega
 ·have e:(if i=_ then _ else ix i)=(if j=_ then _ else ix j):=e;split at e<;>split at e
  ·omega
  ·have:=h.lt j hj;omega
  ·have:=h.lt i hi;omega
  ·exact h.inj i j hi hj e
 ·show(my d)[if i=_ then _ else ix i]? =_;rw[xa hk,getD_eq_getElem?_getD,List.getElem?_set];have hl:(lC d.kept (d.wait.take k)).length=d.kept.length:=f9 _ _;split
  ·rename_i e;rw[if_pos e.symm,if_pos aa,Cz hk];rfl
  ·rename_i e;rw[if_neg (λe2=>e e2.symm),h.eq i hi,getD_eq_getElem?_getD]
theorem Hi.fam(h:Hi d k ix){R:Nat->(Nat->Prop)->World->Value->Prop}(F:d6 lo hi (cW R 0 (my d)) (my d)):d6 lo hi (uM (cW R 0 (my d)) ix d.kept.length).flatten ((lC d.kept (d.wait.take k)).map bD).flatten:=by
 have hl:(lC d.kept (d.wait.take k)).length=d.kept.length:=f9 _ _;rw[nN,uM,xX (λi=>(cW R 0 (my d)).getD (ix i) (dI 0))];refine F.sel ix (by simp[hl]) (λi hi=>?_) λi j hi hj e=>h.inj i j (by simpa using hi) (by simpa using hj) e;have hi':i<d.kept.length:=by simpa using hi
 have he:=h.eq i hi';have ho:=By R (k:=0) (show(my d)[ix i]? =some (.sl _)from he);refine⟨?_,?_⟩
 ·rw[getElem?_map,List.getElem?_range hi',ho];simp[getD_eq_getElem?_getD,ho]
 ·rw[getElem?_map,he,getElem?_eq_getElem aa,getD_eq_getElem?_getD,getElem?_eq_getElem aa];rfl
theorem QY(R:Nat->(Nat->Prop)->World->Value->Prop)(d:DDisk):dU R 0 (d.kept.map bD)=uM (cW R 0 (my d)) id d.kept.length:=by
 refine List.ext_getElem? λi=>?_;rw[uJ R (s:=1) alW];by_cases hi:i<d.kept.length
 ·rw[qh hi,getElem?_map,getElem?_eq_getElem hi];have ho:=By R (k:=0) (show(my d)[i]? =some (.sl _)from Cy hi);simp only[Nat.mul_one,Nat.zero_add]at ho⊢;simp[getD_eq_getElem?_getD,ho,bD,cW]
 ·rw[List.getElem?_eq_none (by simpa using hi),List.getElem?_eq_none (by rw[qi];omega)];rfl
theorem Gl(k:List (List Int)):(k.map bD).flatten.length=k.length:=by rw[nN];simp
theorem zf(d:DDisk)(h:db d=true):cg av 352 [.agg d.ds] (.agg (eN d).ds):=by
 have hs:=gJ h;obtain⟨f1,f2,f3,f4,f5⟩:=cL h;have dk:=ia d;rw[h]at dk;have hne:d.kept.map bD≠ []:=by
  intro e;rw[List.map_eq_nil_iff]at e;rw[e]at f1;simp at f1
 refine lO aM func352 rfl call352 ntmps352 (aaX results352) λS=>?_;conv=>whnf
 repeat'(first|refine awz ?_|(refine cP (dk) ?_;conv=>whnf)|fail)
 refine ZE 900 1 (d.kept.map bD) (d.wait.map DWrite.ds) (oN d hs) rfl rfl ae hne alW λR lo hi e m1 m2 F=>?_;conv=>whnf
 have hWl:=jq R (d.wait.map DWrite.ds) (d.kept.map bD).flatten.length;have hWg:∀(k:Nat) (hk:k<d.wait.length),(dU R (d.kept.map bD).flatten.length (d.wait.map DWrite.ds))[k]? =some [dI d.wait[k].at_,.x (R (d.kept.length+(k*2+1)))]:=λk hk=>by
  rw[uJ R (s:=2) alW,Gl,getElem?_map,getElem?_eq_getElem hk];rfl
 generalize dU R (d.kept.map bD).flatten.length (d.wait.map DWrite.ds)=W at hWl hWg⊢;rw[length_map]at hWl;have F:d6 lo hi (cW R 0 (my d)) (my d):=F;repeat'(first|refine awz ?_|fail)
 refine XA (λg:Nat×(Nat->Nat)=>g.1<=d.wait.length/\Hi d g.1 g.2) (5::rg 15 12) (λg=>[(15,vI .i64 (g.1:Int))]) (λg=>[(9997,cS S.w0.heap.size hi),(1,.cells 69 (d.ds.map .d)),(2,.cells 69 [.nil,.nil]),(3,.cells 69 [.own 900,.d (.sl W)]),(900,.row e 1 (uM (cW R 0 (my d)) g.2 d.kept.length))]) (λg=>d.wait.length-g.1) (0,id) ⟨zero_le _,Hi.zero d⟩ ?_ (Xu rfl (Xu rfl (Xu rfl (Xu rfl (Xu (congrArg some (congrArg (AO.row e 1) (QY R d))) Xv))))) (λg hR=>?_)<;>(conv=>whnf)
 ·exact whd
 ·obtain⟨k,ix⟩:=g;obtain⟨hk,hP⟩:=hR;simp only at hk hP;by_cases hlt:k<d.wait.length
  ·have hc:decide ((k:Int)<(W.length:Int))=true:=by simp only[decide_eq_true_eq];omega
   have hw:=fy (f5 _ (List.getElem_mem hlt));have hat:d.wait[k].at_.toNat<d.kept.length:=aa;have ho:=By R (k:=0) (show(my d)[d.kept.length+(k*2+1)]? =some (.sl _)from Cz hlt);rw[Nat.zero_add]at ho;have hset:=O1 (ix:=ix) (n:=d.kept.length) (a:=d.wait[k].at_.toNat) ho;repeat'((first|refine awz ?_|refine Xw k _ rfl (hWg k hlt) ?_|refine Xw d.wait[k].at_.toNat _ aa (qh hat) ?_|refine Xz aa aa ?_|fail)<;>conv=>whnf)
   refine aT.mk ⟨(k+1,λi=>if i=d.wait[k].at_.toNat then d.kept.length+(k*2+1)else ix i),⟨hlt,hP.succ hlt⟩,by simp only;omega,?_,Xu rfl (Xu rfl (Xu rfl (Xu rfl (Xu (congrArg some (congrArg (AO.row e 1) hset)) Xv))))⟩;exact hds
  ·have e1:k=d.wait.length:=aa;subst e1;have hc:decide ((d.wait.length:Int)<(W.length:Int))=false:=by simp only[decide_eq_false_iff_not];omega
   have hF:=hP.fam F;rw[List.take_length]at hF;repeat'(first|refine awz ?_|fail)
   refine⟨by simp[qi,eN,f9],alW,.inl rfl,lo,hi,m1,?_⟩;rw[List.append_nil,List.append_nil];exact hF.fam
theorem Gi(h:s=0\/s=1):aL av 351 [pI s] (rB true):=by
 rcases h with rfl|rfl<;>
 ·refine pO func351 call351 ntmps351 results351 λS=>?_;conv=>whnf
  repeat'(first|refine awz ?_|exact rZ|fail)
theorem C4(d:DDisk)(slot:Int)(hd:eZ d=true)(hs:slot=0\/slot=1):dZ av 350 [.agg d.ds,pI slot] (sE (gY d slot)):=by
 obtain⟨h1,h8⟩:=js hd;have sk:=ol d;rw[hd]at sk;have so:=Gi hs;have hs2:0<=slot/\slot<=1:=aa;have r0:=vz d (slot*4) h1 (by rw[h8];simp[aJ];omega);have hro:=dG (KM h1 (slot*4));have hfr:=(iq (KM h1 (slot*4))).2;obtain⟨first,hfirst⟩:∃f,f=nQ d slot:=⟨_,rfl⟩;have hfirst2:ij d (slot*4)=first:=by rw[hfirst];rfl
 rw[hfirst2]at r0 hro hfr;by_cases c1:4<=first.length
 ·have n1:decide (((first.map eI).length:Int)<4)=false:=al;have bt:=bf (first.getD 3 0) 1 80;have g3:(first.map eI)[3]? =some (eI (first.getD 3 0)):=by
   rw[getElem?_map,getElem?_eq_getElem aa,getD_eq_getElem?_getD,getElem?_eq_getElem aa];rfl
  cases c2:aJ (first.getD 3 0) 1 80 with
  |false=>
   rw[c2]at bt;have e:gY d slot=none:=by rw[gY,qp,<-hfirst,c2,Bool.and_false];rfl
   rw[e];unfold sE;refine bP aM func350 rfl call350 ntmps350 (aaX results350) rfl λS=>?_;conv=>whnf
   repeat'((first|refine awz ?_|refine cP (sk) ?_|refine cP (so) ?_|refine cP (r0) ?_|refine cP (bt) ?_|refine Xw 3 _ rfl g3 ?_|refine Xz aa aa ?_|fail)<;>conv=>whnf)
   all_goals(exact⟨.inl rfl,.inl rfl,_,_,Nat.le_refl _,XD (hi:=0) rfl⟩)
  |true=>
   rw[c2]at bt;have e:gY d slot=cT (dJ d slot (fF d slot)):=by rw[gY,qp,<-hfirst,c2,decide_eq_true c1];rfl
   rw[e];have hr3:1<=first.getD 3 0/\first.getD 3 0<=80:=by simpa[aJ]using c2
   have hmany:fF d slot=cO (first.getD 3 0).toNat:=by rw[fF,<-hfirst]
   have hm4:fF d slot<=4:=by rw[hmany,cO];omega
   have po:=Da (first.getD 3 0).toNat aa;rw[<-hmany,Int.toNat_of_nonneg aa]at po;have rs:=HU (dJ d slot (fF d slot)) (by rw[ll];omega);refine bP aM func350 rfl call350 ntmps350 (aaX results350) rfl λS=>?_;conv=>whnf
   repeat'((first|refine awz ?_|refine cP (sk) ?_|refine cP (so) ?_|refine cP (r0) ?_|refine cP (bt) ?_|refine Xw 3 _ rfl g3 ?_|refine Xz aa aa ?_|fail)<;>conv=>whnf)
   refine XA (λk:Nat=>k<=fF d slot) (39::[8,9,10,11,40,41,42,43,44,45,46,47,48,49,50,51,52,53,54,55,56,57,58,59,60]) (λk=>[(8,.one (.own 39)),(9,vI .i64 (k:Int))]) (λk=>[(9997,cS S.w0.heap.size S.w0.heap.size),(2,.cells 69 (d.ds.map .d)),(4,.cells 241 [.d (dI 0),.d (dI 0),.d (dI 0),.nil,.nil,.d (dI 0),.d (dI 0),.d (dI 0)]),(39,.row 62 1 ((dJ d slot k).map bD))]) (λk=>fF d slot-k) 0 (zero_le _) ?_ sbW (λk hk=>?_)<;>(conv=>whnf)
   ·exact whd
   ·have hsl:=ll d slot k;have hss:=wN d slot k;by_cases hlt:k<fF d slot
    ·have hc:decide ((k:Int)<((fF d slot:Nat):Int))=true:=by simp only[decide_eq_true_eq];omega
     have rk:=vz d (slot*4+(k:Int)) h1 (by rw[h8];simp[aJ];omega);repeat'((first|refine awz ?_|refine cP (po) ?_|refine cP (rk) ?_|refine Xw 3 _ rfl g3 ?_|refine bc ak ?_|refine Xz aa aa ?_|fail)<;>conv=>whnf)
     refine aT.mk ⟨k+1,hlt,aa,?_,Xu rfl (Xu rfl (Xu rfl (Xu (congrArg some (congrArg (AO.row 62 1) hss.symm)) Xv)))⟩;exact hds
    ·have e2:k=fF d slot:=aa;subst e2;have hc:decide (((fF d slot:Nat):Int)<((fF d slot:Nat):Int))=false:=ah;repeat'(first|((first|refine awz ?_|refine cP (po) ?_|refine Xw 3 _ rfl g3 ?_|fail)<;>conv=>whnf)|(refine aG.freeze 39 62 1 ((dJ d slot (fF d slot)).map bD) rfl ?_;(conv=>whnf);refine XM rs rfl rfl λR lo hi a1 a2 F=>?_;conv=>whnf)|fail)
     all_goals exact⟨lo,hi,a1,F.fam⟩
 ·have n1:decide (((first.map eI).length:Int)<4)=true:=al;have e:gY d slot=none:=by simp[gY,qp,<-hfirst,c1]
  rw[e];unfold sE;refine bP aM func350 rfl call350 ntmps350 (aaX results350) rfl λS=>?_;conv=>whnf
  repeat'((first|refine awz ?_|refine cP (sk) ?_|refine cP (so) ?_|refine cP (r0) ?_|refine Xz aa aa ?_|fail)<;>conv=>whnf)
  all_goals(exact⟨.inl rfl,.inl rfl,_,_,Nat.le_refl _,XD (hi:=0) rfl⟩)
def Uw(x:Option (Int×DState)×Int):List AP1:=[.agg (fE (x.1.getD wJ)),pI x.2,.one (dB x.1.isSome)]
theorem CZ(d:DDisk)(hd:eZ d=true):dZ av 276 [.agg d.ds] (Uw (gV d)):=by
 have s0:=C4 d 0 hd (.inl rfl);have s1:=C4 d 1 hd (.inr rfl);unfold sE at s0 s1;cases e0:gY d 0 with
 |none=>
  rw[e0]at s0;have s0:dZ av 350 [.agg d.ds,pI 0] [.agg (fE wJ),.one (dB false)]:=s0;cases e1:gY d 1 with
  |none=>
   rw[e1]at s1;have s1:dZ av 350 [.agg d.ds,pI 1] [.agg (fE wJ),.one (dB false)]:=s1;have e:gV d=(none,0):=by rw[gV,e0,e1]
   rw[e];refine bP aM func276 rfl call276 ntmps276 (aaX results276) rfl λS=>?_;conv=>whnf
   repeat'((first|refine awz ?_|refine XM s0 rfl rfl λR lo hi a1 a2 F=>?_|refine XM s1 rfl rfl λR2 lo2 hi2 b1 b2 F2=>?_|fail)<;>conv=>whnf)
   all_goals exact⟨lo,hi,a1,((F.part 0 8).fam.app (XD (lo:=hi) (hi:=hi) (ds:=[dI 0,dB false]) rfl) (Nat.le_refl _) a2 (Nat.le_refl _))⟩
  |some y=>
   rw[e1]at s1;have s1:dZ av 350 [.agg d.ds,pI 1] [.agg (fE y),.one (dB true)]:=s1;have e:gV d=(some y,1):=by rw[gV,e0,e1]
   rw[e];refine bP aM func276 rfl call276 ntmps276 (aaX results276) rfl λS=>?_;conv=>whnf
   repeat'((first|refine awz ?_|refine XM s0 rfl rfl λR lo hi a1 a2 F=>?_|refine XM s1 rfl rfl λR2 lo2 hi2 b1 b2 F2=>?_|fail)<;>conv=>whnf)
   all_goals exact⟨lo2,hi2,le_trans a1 (le_trans a2 b1),((F2.part 0 8).fam.app (XD (lo:=hi2) (hi:=hi2) (ds:=[dI 1,dB true]) rfl) (Nat.le_refl _) b2 (Nat.le_refl _))⟩
 |some x=>
  rw[e0]at s0;have s0:dZ av 350 [.agg d.ds,pI 0] [.agg (fE x),.one (dB true)]:=s0;cases e1:gY d 1 with
  |none=>
   rw[e1]at s1;have s1:dZ av 350 [.agg d.ds,pI 1] [.agg (fE wJ),.one (dB false)]:=s1;have e:gV d=(some x,0):=by rw[gV,e0,e1]
   rw[e];refine bP aM func276 rfl call276 ntmps276 (aaX results276) rfl λS=>?_;conv=>whnf
   repeat'((first|refine awz ?_|refine XM s0 rfl rfl λR lo hi a1 a2 F=>?_|refine XM s1 rfl rfl λR2 lo2 hi2 b1 b2 F2=>?_|fail)<;>conv=>whnf)
   all_goals exact⟨lo,hi,a1,((F.part 0 8).fam.app (XD (lo:=hi) (hi:=hi) (ds:=[dI 0,dB true]) rfl) (Nat.le_refl _) a2 (Nat.le_refl _))⟩
  |some y=>
   rw[e1]at s1;have s1:dZ av 350 [.agg d.ds,pI 1] [.agg (fE y),.one (dB true)]:=s1;by_cases hlt:x.1<y.1
   ·have l1:decide (y.1>x.1)=true:=by simpa using hlt
    have e:gV d=(some y,1):=by simp[gV,e0,e1,hlt]
    rw[e];refine bP aM func276 rfl call276 ntmps276 (aaX results276) rfl λS=>?_;conv=>whnf
    repeat'((first|refine awz ?_|refine XM s0 rfl rfl λR lo hi a1 a2 F=>?_|refine XM s1 rfl rfl λR2 lo2 hi2 b1 b2 F2=>?_|fail)<;>conv=>whnf)
    all_goals exact⟨lo2,hi2,le_trans a1 (le_trans a2 b1),((F2.part 0 8).fam.app (XD (lo:=hi2) (hi:=hi2) (ds:=[dI 1,dB true]) rfl) (Nat.le_refl _) b2 (Nat.le_refl _))⟩
   ·have l1:decide (y.1>x.1)=false:=by simpa using hlt
    have e:gV d=(some x,0):=by simp[gV,e0,e1,hlt]
    rw[e];refine bP aM func276 rfl call276 ntmps276 (aaX results276) rfl λS=>?_;conv=>whnf
    repeat'((first|refine awz ?_|refine XM s0 rfl rfl λR lo hi a1 a2 F=>?_|refine XM s1 rfl rfl λR2 lo2 hi2 b1 b2 F2=>?_|fail)<;>conv=>whnf)
    all_goals exact⟨lo,hi,a1,((F.part 0 8).fam.app (XD (lo:=hi) (hi:=hi) (ds:=[dI 0,dB true]) rfl) (Nat.le_refl _) a2 (Nat.le_refl _))⟩
def pb:List (List Nat):=cz [0,1,0,3,258,0,6,0,8,0,10,11,3183045,0xd30b28920718510308114d,0xe34c2ca2481c61440c204e]
def o6(C:List AD)(slot:Int):Nat->List AD
 |0=>C
 |n+1=>(o6 C slot n).set (slot*4+(n:Int)).toNat (.sl [])
theorem v6(C:List AD)(slot:Int):∀n,(o6 C slot n).length=C.length
 |0=>rfl
 |n+1=>by simp[o6,v6 C slot n]
theorem EA(k:List (List Int))(slot:Int):∀n,(qB k slot n).map Bj=o6 (k.map Bj) slot n
 |0=>rfl
 |n+1=>by
  rw[qB,o6,<-EA k slot n,map_set];rfl
theorem PH{D:List AD}{x y:AD}(F:d6 lo hi (C++[x]) (D++[y]))(slot:Int)(hs:0<=slot)(n:Nat)(hn:(slot*4+(n:Int))<=C.length):d6 lo hi (o6 C slot n++[x]) (o6 D slot n++[y]):=by
 have hl:C.length=D.length:=by have:=F.1;simpa using this
 induction n with
 |zero=>exact F
 |succ n ih=>
  have:=(ih aa).set (slot*4+(n:Int)).toNat (d:= .sl []) rfl;rw[List.set_append_left _ _ (by rw[v6];omega),List.set_append_left _ _ (by rw[v6];omega)]at this;exact this
theorem Gz:∀{rows:List (List AD)},(∀r∈rows,r.length=1)->rows=rows.flatten.map λc=>[c]
 |[],_=>rfl
 |r::l,h=>by
  obtain⟨c,rfl⟩:=List.length_eq_one_iff.1 (h r ah);rw[List.flatten_cons,List.map_append,<-Gz λr hr=>h r (by simp[hr])];rfl
theorem Kn:∀l:List AD,(l.map λc=>[c]).flatten=l
 |[]=>rfl
 |x::r=>by simp[Kn r]
theorem rc(d:DDisk)(slot:Int)(hd:eZ d=true)(hs:slot=0\/slot=1):cg av 277 [.agg d.ds,pI slot] (.agg (sG d slot).ds):=by
 obtain⟨h1,h8⟩:=js hd;have sk:=ol d;rw[hd]at sk;have so:=Gi hs;have hs2:0<=slot/\slot<=1:=aa;have hl:(eN d).kept.length=8:=by simp[eN,f9,h8]
 have hne:(eN d).kept.map bD≠ []:=by
  intro e;rw[List.map_eq_nil_iff]at e;rw[e]at hl;simp at hl
 refine lO aM func277 rfl call277 ntmps277 (aaX results277) λS=>?_;conv=>whnf
 repeat'((first|refine awz ?_|refine cP (sk) ?_|refine cP (so) ?_|fail)<;>conv=>whnf)
 refine Y1 900 1 [] [.sl []] ((eN d).kept.map bD) (zf d h1) rfl rfl ae hne alW λR lo hi e m1 m2 F=>?_;conv=>whnf
 have hrows:dU R 0 ((eN d).kept.map bD)=(cW R 0 ((eN d).kept.map bD).flatten).map λc=>[c]:=by
  rw[<-rJ];exact Gz (ky R alW)
 have hfl:((eN d).kept.map bD).flatten.length=8:=by rw[Gl,hl]
 have hcl:(cW R 0 ((eN d).kept.map bD).flatten).length=8:=by rw[eg,hfl]
 obtain⟨C,hC⟩:∃C,C=cW R 0 ((eN d).kept.map bD).flatten:=⟨_,rfl⟩;obtain⟨x,hx⟩:∃x,x=AD.x (R (0+((eN d).kept.map bD).flatten.length)):=⟨_,rfl⟩;have F0:d6 lo hi (C++[x]) ((eN d).kept.map Bj++[.sl []]):=by
  rw[<-nN,hC,hx];have:=F;rw[List.nil_append,ow]at this;exact this
 rw[<-hC]at hrows hcl;repeat'(first|refine awz ?_|(refine Xz aa aa ?_;conv=>whnf)|fail)
 refine XA (λn:Nat=>n<=4) (6::rg 20 11) (λn=>[(6,vI .i64 (slot*4+(n:Int)))]) (λn=>[(9997,cS S.w0.heap.size hi),(4,.cells 69 [.nil,.nil]),(5,.cells 69 [.own 900,.d (.x (R (0+((eN d).kept.map bD).flatten.length)))]),(900,.row e 1 ((o6 C slot n).map λc=>[c]))]) (λn=>4-n) 0 (zero_le _) ?_ (Xu rfl (Xu rfl (Xu rfl (Xu (congrArg some (congrArg (AO.row e 1) hrows)) Xv)))) (λn hn=>?_)<;>(conv=>whnf)
 ·rw[show slot*4+((0:Nat):Int)=slot*4 by omega];exact whd
 ·have hwl:=v6 C slot n;by_cases hlt:n<4
  ·have hc:decide (slot*4+(n:Int)<(slot+1)*4)=true:=by simp only[decide_eq_true_eq];omega
   have hg:((o6 C slot n).map λc=>[c])[(slot*4+(n:Int)).toNat]? =some [(o6 C slot n)[(slot*4+(n:Int)).toNat]'(aa)]:=by
    rw[getElem?_map,getElem?_eq_getElem aa];rfl
   have hset:((o6 C slot n).map λc=>[c]).set (slot*4+(n:Int)).toNat [.sl []]=(o6 C slot (n+1)).map λc=>[c]:=by
    rw[o6,map_set]
   repeat'((first|refine awz ?_|refine Xw (slot*4+(n:Int)).toNat _ aa hg ?_|refine Xz aa aa ?_|fail)<;>conv=>whnf)
   refine aT.mk ⟨n+1,hlt,aa,?_,Xu rfl (Xu rfl (Xu rfl (Xu (congrArg some (congrArg (AO.row e 1) hset)) Xv)))⟩;rw[show slot*4+((n+1:Nat):Int)=slot*4+(n:Int)+1 by omega];exact hds
  ·have e4:n=4:=aa;subst e4;have hc:decide (slot*4+((4:Nat):Int)<(slot+1)*4)=false:=by simp only[decide_eq_false_iff_not];omega
   have FF:=PH F0 slot hs2.1 4 (by rw[hcl];omega);repeat'(first|refine awz ?_|(refine Xz aa aa ?_;conv=>whnf)|fail)
   rw[hx]at FF;refine⟨by simp[sG,v7,hwl,hcl];exact hl,alW,lo,hi,m1,?_⟩;show Fam lo hi (((o6 C slot 4).map λc=>[c]).flatten++[AD.x (R (0+((eN d).kept.map bD).flatten.length))]) (((qB (eN d).kept slot 4).map bD).flatten++[.sl []]);rw[Kn,nN (qB (eN d).kept slot 4),EA];exact FF.fam
def Lo(o:Option DStore):List AP1:=[.agg (o.getD M8).ds,.one (dB o.isSome)]
theorem C1(m:DStore):dZ av 186 [.agg m.ds] (Lo (cV m)):=by
 have sk:=ol m.disk;cases hd:eZ m.disk with
 |false=>
  have e:cV m=none:=by simp[cV,hd]
  rw[hd]at sk;rw[e];unfold Lo;refine bP aM func186 rfl call186 ntmps186 (aaX results186) rfl λS=>?_;conv=>whnf
  repeat'(first|refine awz ?_|(refine cP (sk) ?_;conv=>whnf)|fail)
  all_goals(exact⟨.inl rfl,.inl rfl,.inl rfl,.inl rfl,_,_,Nat.le_refl _,XD (hi:=0) rfl⟩)
 |true=>
  rw[hd]at sk;obtain⟨h1,h8⟩:=js hd;cases hw:m.disk.wait.isEmpty with
  |false=>
   have e:cV m=none:=by simp[cV,hd,hw]
   have hc:decide (((m.disk.wait.map DWrite.ds).length:Int)>0)=true:=by
    cases hm:m.disk.wait with
    |nil=>rw[hm]at hw;cases hw
    |cons a b=>simp only[length_map,List.length_cons,decide_eq_true_eq];omega
   rw[e];unfold Lo;refine bP aM func186 rfl call186 ntmps186 (aaX results186) rfl λS=>?_;conv=>whnf
   repeat'(first|refine awz ?_|(refine cP (sk) ?_;conv=>whnf)|fail)
   all_goals(exact⟨.inl rfl,.inl rfl,.inl rfl,.inl rfl,_,_,Nat.le_refl _,XD (hi:=0) rfl⟩)
  |true=>
   have hc:decide (((m.disk.wait.map DWrite.ds).length:Int)>0)=false:=by
    have:m.disk.wait=[]:=by simpa using hw
    simp[this]
   have ns:=CZ m.disk hd;have nk:=Dy m.disk;unfold Uw at ns;unfold cV;rw[hd,hw];simp only[Bool.and_self,if_true];generalize gV m.disk=x at*
   obtain⟨o,k⟩:=x;cases o with
   |none=>
    have w0:=(rc m.disk 0 hd (.inl rfl)).pcall;have w1:=rc (sG m.disk 0) 1 (va hd 0) (.inr rfl);simp only;have ns:dZ av 276 [.agg m.disk.ds] [.agg (fE wJ),pI k,.one (dB false)]:=ns;unfold Lo;refine bP aM func186 rfl call186 ntmps186 (aaX results186) rfl λS=>?_;conv=>whnf
    repeat'((first|refine awz ?_|refine cP (sk) ?_|refine XM ns rfl rfl λR lo hi a1 a2 F=>?_|refine cP (w0) ?_|refine X9 w1 rfl rfl λR2 lo2 hi2 b1 b2 F2=>?_|fail)<;>conv=>whnf)
    all_goals exact⟨.inl rfl,.inl rfl,lo2,hi2,le_trans a1 (le_trans a2 b1),(F2.fam.app (XD (lo:=hi2) (hi:=hi2) (ds:=[dI 0,dI 0,dI 0,dI 0,dI 0,dI 0,dI 0,dI 0,dB true]) rfl) (Nat.le_refl _) b2 (Nat.le_refl _))⟩
   |some h=>
    have hk:1-k=0\/1-k=1:=by simp only at nk;omega
    have w1:=rc m.disk (1-k) hd hk;simp only;have ns:dZ av 276 [.agg m.disk.ds] [.agg (fE h),pI k,.one (dB true)]:=ns;unfold Lo;refine bP aM func186 rfl call186 ntmps186 (aaX results186) rfl λS=>?_;conv=>whnf
    repeat'((first|refine awz ?_|refine cP (sk) ?_|refine XM ns rfl rfl λR lo hi a1 a2 F=>?_|fail)<;>conv=>whnf)
    (refine XF aM 6 (tkc [0,1,2,5,6,7,8,9,10,11] (onc [3,4,12,13] (.take 14 .done))) [(1,9980),(4,9981)] pb ac ac ac ac (λRz=>?_);(conv=>whnf);intro bp0 up0;(conv=>whnf);intro bp1 up1;(conv=>whnf))
    repeat'((first|refine awz ?_|refine X9 w1 rfl rfl λR2 lo2 hi2 b1 b2 F2=>?_|refine Xz aa aa ?_|fail)<;>conv=>whnf)
    all_goals exact⟨lo,hi2,a1,((F2.app (L:=lo) (H:=hi2) (F.part 1 7) (.inr b1) ⟨aa,Nat.le_refl _⟩ ⟨Nat.le_refl _,aa⟩).app (L:=lo) (H:=hi2) (Yk (lo:=hi2) (hi:=hi2) (ds:=[dI h.1,dI h.2.index,dI 0,dB true]) rfl) (.inl (Nat.le_refl _)) ⟨Nat.le_refl _,aa⟩ ⟨Nat.le_refl _,Nat.le_refl _⟩).fam⟩
end
section
open Go.Proofs.Tryz
open Go.ChangeShapes Go.WideShapes Go.RowKit
variable {b:DBook}{s:List DMark}
def ly:List (List Nat):=cz [0,1,129,0,4,324,0,7,519,848966926504392,0,0xb2881c9144182043]
def lD:List (List Nat):=eK 11 [137754,137755,137758,137078,137105,137186,118826,119555,121742,127939,59048]
def gm:List (List Nat):=cz [0,0,0,3,259,544964,101724482,0,0,9,33417,2921096,0x470850c418c20a24b,0,0x38d2c92883061031421c1]
def gq:List (List Nat):=eK 14 [3720084,3718136,3717908,3717917,3717944,3718022,3718265,3243320,3195206,3201767,3219263,3278312,3454366,1594322]
theorem AQ(h:DHead)(ho:di h=true):aL av 237 [.agg h.ds] (.val (.one (.sl ((fH h).map eI)))):=by
 have hs:=(dy ho).2.2.2.2.1;have hl:h.seen.length<=9223372036854775806:=by have:=em hs;omega
 have n1:(!di h)=false:=by rw[ho];rfl
 have e:fH h=[h.num,h.base,h.time,(bU h.seen 2).seq,(bU h.seen 2).index,(bU h.seen 3).seq,(bU h.seen 3).index,(bU h.seen 4).seq,(bU h.seen 4).index,(bU h.seen 5).seq,(bU h.seen 5).index,h.num,h.num]:=by simp[fH,ho]
 rw[e];refine pO func237 call237 ntmps237 results237 λS=>?_;conv=>whnf
 repeat'(first|refine awz ?_|(refine cP (mg h hl) ?_;conv=>whnf)|fail)
 refine X7 5 ?_;conv=>whnf
 repeat'((first|refine awz ?_|refine cP (vQ h.seen _ hs) ?_|refine Xz ae ae ?_|refine bc (by simp only[length_map,length_nil,length_append,length_cons,length_take,opL,pi]<;>omega) ?_|exact rZ|fail)<;>conv=>whnf)
def wF(o:Option DHead):AP:= .tup [.agg (o.getD g9).ds,.one (dB o.isSome)]
def fC(u v w p q s g f:Int):Nat->List DMark
 |0=>[]
 |1=>fT 2 u v
 |2=>fT 2 u v++fT 3 w p
 |3=>fT 2 u v++fT 3 w p++fT 4 q s
 |_=>fT 2 u v++fT 3 w p++fT 4 q s++fT 5 g f
theorem ry(c s i:Int):(fT c s i).length<=1:=by
 unfold fT;split<;>simp
theorem rA(u v w p q s g f:Int)(k:Nat):(fC u v w p q s g f k).length<=4:=by
 have h1:=ry 2 u v;have h2:=ry 3 w p;have h3:=ry 4 q s;have h4:=ry 5 g f;unfold fC;split<;>(try simp only[length_append,length_nil])<;>omega
theorem MX(l:List Int):aL av 300 [.one (.sl (l.map eI))] (wF (iG l)):=by
 by_cases hl:l.length=13
 ·obtain⟨n,b,t,u,v,w,p,q,s,g,f,x,y,rfl⟩:=yt hl;by_cases hx:x=n
  ·have n1:(x !=n)=false:=by simpa using hx
   by_cases hy:y=n
   ·have n2:(y !=n)=false:=by simpa using hy
    have hml:=rA u v w p q s g f 4;have ho:=mg ⟨n,b,t,fC u v w p q s g f 4⟩ (by simp only;omega);have main:∀o:Option DHead,(di ⟨n,b,t,fC u v w p q s g f 4⟩=true->o=some ⟨n,b,t,fC u v w p q s g f 4⟩)->(di ⟨n,b,t,fC u v w p q s g f 4⟩=false->o=none)->aL av 300 [.one (.sl ([n,b,t,u,v,w,p,q,s,g,f,x,y].map eI))] (wF o):=by
     intro o h1 h2;refine pO func300 call300 ntmps300 results300 λS=>?_;conv=>whnf
     repeat'(first|refine awz ?_|fail)
     (refine XB aM 1 19 dd de ac ac ac rfl ?_;conv=>whnf)
     repeat'((first|refine awz ?_|refine Xw 0 _ rfl rfl ?_|refine Xw 11 _ rfl rfl ?_|refine Xw 12 _ rfl rfl ?_|fail)<;>conv=>whnf)
     (refine XB aM 3 11 ly lD ac ac ac rfl ?_;conv=>whnf)
     repeat'((first|refine awz ?_|refine Xw 0 _ rfl rfl ?_|refine Xw 1 _ rfl rfl ?_|refine Xw 2 _ rfl rfl ?_|fail)<;>conv=>whnf)
     refine Yc 4 3 940 247 3 ae ?_;conv=>whnf
     repeat'(first|refine awz ?_|fail)
     refine XA (λk:Nat=>k<=4) (5::6::rg 39 31) (λk=>[(5,vI .i64 (2+(k:Int)))]) (λk=>[(2,.cells 74 [.d (dI 0),.d (dI 0),.d (dI 0),.nil]),(4,.cells 74 [.d (dI n),.d (dI b),.d (dI t),.own 940]),(940,.row 247 3 ((fC u v w p q s g f k).map DMark.ds))]) (λk=>4-k) 0 aa ?_ sbW (λk hk=>?_)<;>(conv=>whnf)
     ·exact whd
     ·have hkl:=rA u v w p q s g f k;have hk5:k=0\/k=1\/k=2\/k=3\/k=4:=aa;rcases hk5 with rfl|rfl|rfl|rfl|rfl
      ·repeat'(first|refine awz ?_|fail)
       (refine XB aM 7 14 gm gq ac ac ac rfl ?_;conv=>whnf)
       repeat'((first|refine awz ?_|refine Xw 3 _ ae rfl ?_|refine Xw 4 _ ae rfl ?_|refine Xz ae ae ?_|refine bc (by simp only[length_map,length_nil,length_append,length_cons,length_take,opL,pi]<;>omega) ?_|refine tW ?_ ?_|intro h)<;>conv=>whnf)
       all_goals
        refine aT.mk ⟨0+1,aa,aa,?_,Xu rfl (Xu rfl (Xu (by simp[fC,fT,DMark.ds,bo, *]) Xv))⟩;exact hds
      ·repeat'(first|refine awz ?_|fail)
       (refine XB aM 7 14 gm gq ac ac ac rfl ?_;conv=>whnf)
       repeat'((first|refine awz ?_|refine Xw 5 _ ae rfl ?_|refine Xw 6 _ ae rfl ?_|refine Xz ae ae ?_|refine bc (by simp only[length_map,length_nil,length_append,length_cons,length_take,opL,pi]<;>omega) ?_|refine tW ?_ ?_|intro h)<;>conv=>whnf)
       all_goals
        refine aT.mk ⟨1+1,aa,aa,?_,Xu rfl (Xu rfl (Xu (by simp[fC,fT,DMark.ds,bo, *]) Xv))⟩;exact hds
      ·repeat'(first|refine awz ?_|fail)
       (refine XB aM 7 14 gm gq ac ac ac rfl ?_;conv=>whnf)
       repeat'((first|refine awz ?_|refine Xw 7 _ ae rfl ?_|refine Xw 8 _ ae rfl ?_|refine Xz ae ae ?_|refine bc (by simp only[length_map,length_nil,length_append,length_cons,length_take,opL,pi]<;>omega) ?_|refine tW ?_ ?_|intro h)<;>conv=>whnf)
       all_goals
        refine aT.mk ⟨2+1,aa,aa,?_,Xu rfl (Xu rfl (Xu (by simp[fC,fT,DMark.ds,bo, *]) Xv))⟩;exact hds
      ·repeat'(first|refine awz ?_|fail)
       (refine XB aM 7 14 gm gq ac ac ac rfl ?_;conv=>whnf)
       repeat'((first|refine awz ?_|refine Xw 9 _ ae rfl ?_|refine Xw 10 _ ae rfl ?_|refine Xz ae ae ?_|refine bc (by simp only[length_map,length_nil,length_append,length_cons,length_take,opL,pi]<;>omega) ?_|refine tW ?_ ?_|intro h)<;>conv=>whnf)
       all_goals
        refine aT.mk ⟨3+1,aa,aa,?_,Xu rfl (Xu rfl (Xu (by simp[fC,fT,DMark.ds,bo, *]) Xv))⟩;exact hds
      ·cases hd:di ⟨n,b,t,fC u v w p q s g f 4⟩with
       |false=>
        have n3:(!di ⟨n,b,t,fC u v w p q s g f 4⟩)=true:=by rw[hd];rfl
        obtain rfl:=h2 hd;unfold wF;repeat'(first|refine awz ?_|(refine aG.scalar ho rfl rfl ?_;conv=>whnf)|exact rZ|fail)
       |true=>
        have n3:(!di ⟨n,b,t,fC u v w p q s g f 4⟩)=false:=by rw[hd];rfl
        obtain rfl:=h1 hd;unfold wF;repeat'(first|refine awz ?_|(refine aG.scalar ho rfl rfl ?_;conv=>whnf)|exact rZ|fail)
    have e:iG [n,b,t,u,v,w,p,q,s,g,f,x,y]=if di ⟨n,b,t,fC u v w p q s g f 4⟩&&x==n&&y==n then some ⟨n,b,t,fC u v w p q s g f 4⟩else none:=rfl
    rw[e];exact main _ (λh=>by simp[h,hx,hy]) (λh=>by simp[h])
   ·have n2:(y !=n)=true:=by simpa using hy
    have e:iG [n,b,t,u,v,w,p,q,s,g,f,x,y]=none:=by simp[iG,hy]
    rw[e];unfold wF;refine pO func300 call300 ntmps300 results300 λS=>?_;conv=>whnf
    repeat'(first|refine awz ?_|fail)
    (refine XB aM 1 19 dd de ac ac ac rfl ?_;conv=>whnf)
    repeat'((first|refine awz ?_|refine Xw 0 _ rfl rfl ?_|refine Xw 11 _ rfl rfl ?_|refine Xw 12 _ rfl rfl ?_|exact rZ|fail)<;>conv=>whnf)
  ·have n1:(x !=n)=true:=by simpa using hx
   have e:iG [n,b,t,u,v,w,p,q,s,g,f,x,y]=none:=by simp[iG,hx]
   rw[e];unfold wF;refine pO func300 call300 ntmps300 results300 λS=>?_;conv=>whnf
   repeat'(first|refine awz ?_|fail)
   (refine XB aM 1 19 dd de ac ac ac rfl ?_;conv=>whnf)
   repeat'((first|refine awz ?_|refine Xw 0 _ rfl rfl ?_|refine Xw 11 _ rfl rfl ?_|exact rZ|fail)<;>conv=>whnf)
 ·have n1:(((l.map eI).length:Int) !=13)=true:=by simp only[length_map,bne_iff_ne,ne_eq];omega
  rw[AM hl];unfold wF;refine pO func300 call300 ntmps300 results300 λS=>?_;conv=>whnf
  repeat'(first|refine awz ?_|fail)
  (refine XB aM 1 19 dd de ac ac ac rfl ?_;conv=>whnf)
  repeat'(first|refine awz ?_|exact rZ|fail)
def eW:List (List Nat):=cz [0,1,129,12354,1056835,84676740,1056835,118231172,8657572039,0x61020431491c8,72625159069798726,0xb18524720a0c1084,0x3040810ca20724518b,0xd2c61491c828304210c,0x3040810ca20724518b,0x3040810ca20724518b,0x102c61491c828304210c,0xf2c61491c828304210c450,0x38c1020432881c91462cd49044f,0xc1020432881c91462d33d141234e,0x50e3524113d32c61491c828304210c,0x153040810ca20724518b4cf45048d394,0x59438d49044f4cb18524720a0c1084315,0x1754c1020432881c91462d33d141234e516,0x61650e3524113d32c61491c828304210c557,0x153040810ca20724518b4cf45048d394657598]
def eX:List (List Nat):=eK 18 [0,1,4,13,18994,19075,688,1417,3604,9841,29524,88573,382903240,383434681,119308504,14083186,28432093,66695845]
theorem ID(l:List DEntry)(hl:l.length<=1048576):gc av 413 [.one (.d (.sl (l.map DEntry.ds)))] [] [(3,.row 308 9 (l.map DEntry.ds))] [] (.val (.one (.own 3))):=by
 refine dq aM func413 rfl call413 ntmps413 (aaX results413) rfl λS pv=>?_;conv=>whnf
 repeat'((first|refine awz ?_|refine aY (by first|(intro y hy;obtain⟨a,_,rfl⟩:=List.mem_map.1 hy;rfl)|(simp;done)) ?_|refine bc ak ?_|exact rZ|fail)<;>conv=>whnf)
theorem qu(b:DBook)(hl:b.entries.length<=1048576):gc av 362 [.agg (b.ds.map .d)] [] [(903,.row 308 9 (b.entries.map DEntry.ds))] [] (.val (.agg [.d (dI b.base),.d (dI b.time),.own 903])):=by
 refine dq aM func362 rfl call362 ntmps362 (aaX results362) rfl λS pv=>?_;conv=>whnf
 repeat'(first|refine awz ?_|fail)
 (refine XF aM 1 (tkc [0,1,2,3,4,5] (onc [6,7,8] .done)) [(1,9980)] lx ac ac ac ac (λRz=>?_);(conv=>whnf);intro bp0 up0;(conv=>whnf))
 repeat'(first|refine awz ?_|(refine XE (ID b.entries hl) [(3,903)] rfl rfl ?_;conv=>whnf)|exact rZ|fail)
theorem Rw(hn:b.entries≠ []):zA b (bp b)=o5 b:=by
 have hpos:0<b.entries.length:=List.length_pos_iff.2 hn;have e:(bp b-b.base-1).toNat=b.entries.length-1:=by unfold bp;omega
 unfold zA o5;rw[e,List.getD_eq_getElem?_getD,<-List.getLast?_eq_getElem?,List.getLast?_eq_some_getLast hn];rfl
theorem mh(b:DBook)(h:cF b=true):aL av 289 [.agg b.ds,pI (bp b)] (.val (pI (o5 b))):=by
 by_cases hn:b.entries=[]
 ·have e:o5 b=b.time:=by simp[o5,hn]
  have e2:(bp b==b.base)=true:=by simp[bp,hn]
  rw[e];refine pO func289 call289 ntmps289 results289 λS=>?_;conv=>whnf
  repeat'(first|refine awz ?_|exact rZ|fail)
 ·have hpos:0<b.entries.length:=List.length_pos_iff.2 hn;have:=uX b (bp b) h (by unfold bp;omega) (Int.le_refl _);rwa[Rw hn]at this
def NM(b:DBook)(ok:Bool):AP:= .tup [.agg b.ds,.one (dB ok)]
theorem wH(b:DBook)(e:DEntry)(h:cF b=true)(hf:mC b e=true):aL av 302 [.agg b.ds,.agg e.ds] (NM (tO b e) true):=by
 obtain⟨h1,h2,h3,h4,h5,h6⟩:=du h;simp only[mC,Bool.and_eq_true,decide_eq_true_eq,beq_iff_eq]at hf;obtain⟨⟨⟨f1,f2⟩,f3⟩,f4⟩:=hf;have hlb:0<=bp b/\bp b<=2020:=by unfold bp;omega
 have n1:(!cF b)=false:=by rw[h];rfl
 have n2:(!cj e)=false:=by rw[f1];rfl
 have n3:(e.index !=bp b+1)=false:=by simpa using f2
 have n4:decide (e.time<o5 b)=false:=by simp only[decide_eq_false_iff_not];omega
 have n5:(((b.entries.map DEntry.ds).length:Int)==20)=false:=by simp only[length_map,beq_eq_false_iff_ne,ne_eq];omega
 unfold NM;refine pO func302 call302 ntmps302 results302 λS=>?_;conv=>whnf
 repeat'((first|refine awz ?_|refine cP (gC b) ?_|refine XE (qu b aa) [(903,913)] rfl rfl ?_|fail)<;>conv=>whnf)
 (refine XB aM 4 18 eW eX ac ac ac rfl ?_;conv=>whnf)
 repeat'((first|refine awz ?_|refine cP (cy e) ?_|refine cP (fJ b h) ?_|refine cP (mh b h) ?_|refine Xz aa aa ?_|refine bc ak ?_|fail)<;>conv=>whnf)
 all_goals(simp[tO,DBook.ds,DEntry.ds];done)
theorem Iz(b:DBook)(e:DEntry)(h:cF b=true)(hf:mC b e=false):∃b',aL av 302 [.agg b.ds,.agg e.ds] (NM b' false):=by
 obtain⟨h1,h2,h3,h4,h5,h6⟩:=du h;have hlb:0<=bp b/\bp b<=2020:=by unfold bp;omega
 have n1:(!cF b)=false:=by rw[h];rfl
 refine⟨b,?_⟩;unfold NM;by_cases f1:cj e=true
 ·have n2:(!cj e)=false:=by rw[f1];rfl
  by_cases f2:e.index=bp b+1
  ·have n3:(e.index !=bp b+1)=false:=by simpa using f2
   by_cases f3:o5 b<=e.time
   ·have n4:decide (e.time<o5 b)=false:=by simp only[decide_eq_false_iff_not];omega
    have n5:(((b.entries.map DEntry.ds).length:Int)==20)=true:=by
     simp[mC,f1,f2,f3]at hf;simp only[length_map,beq_iff_eq];omega
    refine pO func302 call302 ntmps302 results302 λS=>?_;conv=>whnf
    repeat'((first|refine awz ?_|refine cP (gC b) ?_|refine XE (qu b aa) [(903,913)] rfl rfl ?_|fail)<;>conv=>whnf)
    (refine XB aM 4 18 eW eX ac ac ac rfl ?_;conv=>whnf)
    repeat'((first|refine awz ?_|refine cP (cy e) ?_|refine cP (fJ b h) ?_|refine cP (mh b h) ?_|refine Xz aa aa ?_|exact rZ|fail)<;>conv=>whnf)
   ·have n4:decide (e.time<o5 b)=true:=by simp only[decide_eq_true_eq];omega
    refine pO func302 call302 ntmps302 results302 λS=>?_;conv=>whnf
    repeat'((first|refine awz ?_|refine cP (gC b) ?_|refine XE (qu b aa) [(903,913)] rfl rfl ?_|fail)<;>conv=>whnf)
    (refine XB aM 4 18 eW eX ac ac ac rfl ?_;conv=>whnf)
    repeat'((first|refine awz ?_|refine cP (cy e) ?_|refine cP (fJ b h) ?_|refine cP (mh b h) ?_|refine Xz aa aa ?_|exact rZ|fail)<;>conv=>whnf)
  ·have n3:(e.index !=bp b+1)=true:=by simpa using f2
   refine pO func302 call302 ntmps302 results302 λS=>?_;conv=>whnf
   repeat'((first|refine awz ?_|refine cP (gC b) ?_|refine XE (qu b aa) [(903,913)] rfl rfl ?_|fail)<;>conv=>whnf)
   (refine XB aM 4 18 eW eX ac ac ac rfl ?_;conv=>whnf)
   repeat'((first|refine awz ?_|refine cP (cy e) ?_|refine cP (fJ b h) ?_|refine Xz aa aa ?_|exact rZ|fail)<;>conv=>whnf)
 ·have n2:(!cj e)=true:=by simpa using f1
  refine pO func302 call302 ntmps302 results302 λS=>?_;conv=>whnf
  repeat'((first|refine awz ?_|refine cP (gC b) ?_|refine XE (qu b aa) [(903,913)] rfl rfl ?_|fail)<;>conv=>whnf)
  (refine XB aM 4 18 eW eX ac ac ac rfl ?_;conv=>whnf)
  repeat'(first|refine awz ?_|(refine cP (cy e) ?_;conv=>whnf)|exact rZ|fail)
def lz:List (List Nat):=cz [0,0,2,4290,1056961]
def lE:List (List Nat):=eK 3 [24,2,5]
theorem IB(t:DTwo)(a:Int)(h:eO t=true)(ha:aJ a 0 ((t.a.kept.length:Int)-1)=false):aL av 299 [.agg t.ds,pI a] (.val (.one (.sl []))):=by
 obtain⟨f1,f2,f3⟩:=dQ h;have h40:=(cL f1).2.1;have n1:(!eO t)=false:=by rw[h];rfl
 have n2:(!aJ a 0 ((t.a.kept.length:Int)-1))=true:=by rw[ha];rfl
 refine pO func299 call299 ntmps299 results299 λS=>?_;conv=>whnf
 repeat'((first|refine awz ?_|refine cP (eJ t) ?_|refine cP (fr t.a a h40) ?_|exact rZ|fail)<;>conv=>whnf)
theorem MM{t:DTwo}(h:¬(1<=bp b+1/\bp b+1<=2000)):j8 t b s=none:=by
 cases e:j8 t b s with
 |none=>rfl
 |some x=>
  obtain⟨h1,h2,_⟩:=nA e;have:=(kt h1).1;omega
def jT(t:DTwo)(b:DBook):List (List Int):=if 1<=bp b+1/\bp b+1<=2000 then eY t (bW (bp b+1))else []
theorem oW(t:DTwo)(a:Int):(eY t a).length<=2:=by
 unfold eY;split<;>(try split)<;>simp
theorem Im(t:DTwo)(b:DBook):(jT t b).length<=2:=by
 unfold jT;split
 ·exact oW t _
 ·simp
theorem Kw(t:DTwo)(b:DBook)(s:List DMark):j8 t b s=(jT t b).findSome? (jp t b s):=by
 unfold jT;split
 ·rfl
 ·rename_i h;rw[MM h];rfl
theorem Gt{e:DEntry}:(i9 s e).2=(dC s e).isSome:=by
 unfold i9;split<;>rename_i h<;>simp[h]
theorem M3(t:DTwo)(b:DBook)(s:List DMark)(ht:ee t=true)(hb:cF b=true)(hs:cA s=true):aL av 301 [.agg t.ds,.agg b.ds,.one (.sl (s.map DMark.ds))] (ld (j8 t b s)):=by
 have h2:eO t=true/\t.a.kept.length=22:=by simpa[ee]using ht
 obtain⟨b1,b2,b3,b4,b5,b6⟩:=du hb;have hlb:0<=bp b/\bp b<=2020:=by unfold bp;omega
 have hx:∃a,aL av 239 [pI (bp b+1)] (.val (pI a))/\aL av 299 [.agg t.ds,pI a] (.val (.one (.sl ((jT t b).map bD)))):=by
  by_cases hi:1<=bp b+1/\bp b+1<=2000
  ·have hr:=mi (bp b+1);refine⟨_,zw _ hi,?_⟩;have:=D1 t (bW (bp b+1)) h2.1 (by rw[h2.2];simp[aJ];omega);have e:jT t b=eY t (bW (bp b+1)):=if_pos hi;rw[e];exact this
  ·refine⟨_,Pb _ hi,?_⟩;have:=IB t (-1) h2.1 (by simp[aJ]);have e:jT t b=[]:=if_neg hi;rw[e];exact this
 obtain⟨a,c1,c2⟩:=hx;have hok:∀r∈jT t b,ck r=true/\r.length<48:=by
  intro r hr;unfold jT at hr;split at hr
  ·exact MT r hr
  ·cases hr
 rw[Kw];have hrl:=Im t b;generalize jT t b=rows at c2 hok hrl;refine pO func301 call301 ntmps301 results301 λS=>?_;conv=>whnf
 repeat'((first|refine awz ?_|refine cP (fJ b hb) ?_|refine Xz aa aa ?_|fail)<;>conv=>whnf)
 (refine XB aM 2 3 lz lE ac ac ac rfl ?_;conv=>whnf)
 repeat'((first|refine awz ?_|refine cP (c1) ?_|refine cP (c2) ?_|fail)<;>conv=>whnf)
 refine XA (λk:Nat=>k<=rows.length/\(rows.drop k).findSome? (jp t b s)=rows.findSome? (jp t b s)) (7::rg 10 7++(rg 24 39)) (λk=>[(10,vI .i64 (k:Int))]) (λk=>[(3,.cells 71 (t.ds.map .d)),(4,.cells 77 (b.ds.map .d)),(6,.cells 308 (Qj.ds.map .d))]) (λk=>rows.length-k) 0 ⟨Nat.zero_le _,rfl⟩ ?_ sbW (λk hk=>?_)<;>(conv=>whnf)
 ·exact whd
 ·obtain⟨hk,hall⟩:=hk;by_cases hlt:k<rows.length
  ·have hc:decide ((k:Int)<((rows.map bD).length:Int))=true:=by simp only[decide_eq_true_eq,length_map];omega
   have rs:=MY rows[k];rw[List.drop_eq_getElem_cons hlt,List.findSome?_cons]at hall;cases er:ez rows[k]with
   |none=>
    rw[er]at rs;have en:jp t b s rows[k]=none:=by simp[jp,er]
    rw[en]at hall;repeat'((first|refine awz ?_|refine XK hlt ?_|refine cP (rs) ?_|refine Xz aa aa ?_|fail)<;>conv=>whnf)
    refine aT.mk ⟨k+1,⟨hlt,hall⟩,aa,?_,sbW⟩;exact hds
   |some e=>
    rw[er]at rs;have eok:=DW er;by_cases hi:e.index=bp b+1
    ·have n1:(e.index !=bp b+1)=false:=by simpa using hi
     have sm:=vR s e hs;cases hf:mC b e with
     |false=>
      have en:jp t b s rows[k]=none:=by simp[jp,er,hf]
      rw[en]at hall;obtain⟨b',ap⟩:=Iz b e hb hf;repeat'((first|refine awz ?_|refine XK hlt ?_|refine cP (rs) ?_|refine cP (ap) ?_|refine cP (sm) ?_|refine Xz aa aa ?_|fail)<;>conv=>whnf)
      refine aT.mk ⟨k+1,⟨hlt,hall⟩,aa,?_,sbW⟩;exact hds
     |true=>
      have ap:=wH b e hb hf;cases hm:(dC s e).isSome with
      |false=>
       have en:jp t b s rows[k]=none:=by simp only[jp,er,hm,Bool.and_false];rfl
       rw[en]at hall;have n2:(i9 s e).2=false:=by rw[Gt,hm]
       repeat'((first|refine awz ?_|refine XK hlt ?_|refine cP (rs) ?_|refine cP (ap) ?_|refine cP (sm) ?_|refine Xz aa aa ?_|fail)<;>conv=>whnf)
       refine aT.mk ⟨k+1,⟨hlt,hall⟩,aa,?_,sbW⟩;exact hds
      |true=>
       have en:jp t b s rows[k]=some e:=by simp[jp,er,hf,hm,hi]
       rw[en]at hall;have n2:(i9 s e).2=true:=by rw[Gt,hm]
       rw[<-hall];unfold ld;repeat'((first|refine awz ?_|refine XK hlt ?_|refine cP (rs) ?_|refine cP (ap) ?_|refine cP (sm) ?_|exact rZ|fail)<;>conv=>whnf)
    ·have n1:(e.index !=bp b+1)=true:=by simpa using hi
     have en:jp t b s rows[k]=none:=by simp[jp,er,hi]
     rw[en]at hall;repeat'((first|refine awz ?_|refine XK hlt ?_|refine cP (rs) ?_|refine Xz aa aa ?_|fail)<;>conv=>whnf)
     refine aT.mk ⟨k+1,⟨hlt,hall⟩,aa,?_,sbW⟩;exact hds
  ·have hc:decide ((k:Int)<((rows.map bD).length:Int))=false:=by simp only[decide_eq_false_iff_not,length_map];omega
   rw[List.drop_of_length_le aa]at hall;rw[<-hall];repeat'(first|refine awz ?_|exact rZ|fail)
end
section
open Go.Proofs.Tryz
open Go.ChangeShapes Go.WideShapes Go.RowKit
variable {c:AD}{m m' n:Nat}
theorem Cv{t:DTwo}{b:DBook}{s:List DMark}(h:j8 t b s=none):∀n,jk t n b s=(b,s)
 |0=>rfl
 |n+1=>by simp[jk,h]
def VX:List DEntry->AC
 |[]=> .nil
 |e::r=> .d (.sl ((e::r).map DEntry.ds))
theorem O7(t:DTwo)(h:DHead)(ht:ee t=true)(hh:di h=true):aL av 235 [.agg t.ds,.agg h.ds] (.val (.agg (eC t h).1.ds)):=by
 have hs:=(dy hh).2.2.2.2.1;have hl:=em hs;have n1:(!ee t)=false:=by rw[ht];rfl
 have n2:(!di h)=false:=by rw[hh];rfl
 refine pO func235 call235 ntmps235 results235 λS=>?_;conv=>whnf
 repeat'((first|refine awz ?_|refine cP (kB t) ?_|refine cP (mg h aa) ?_|refine cP (iT h.seen aa) ?_|fail)<;>conv=>whnf)
 refine XA (λg:Nat×DBook×List DMark=>na h g.2.1 g.2.2/\20<g.2.1.entries.length+g.1/\jk t g.1 g.2.1 g.2.2=eC t h) (6::7::8::rg 26 22) (λg=>[(6,.one (.d (.sl (g.2.2.map DMark.ds))))]) (λg=>[(2,.cells 71 (t.ds.map .d)),(4,.cells 77 [.d (dI 0),.d (dI 0),.nil]),(5,.cells 77 [.d (dI g.2.1.base),.d (dI g.2.1.time),VX g.2.1.entries])]) (λg=>g.1) (21,wl h,h.seen) ⟨YP hh,by simp[wl],rfl⟩ ?_ sbW (λg hg=>?_)<;>(conv=>whnf)
 ·exact whd
 ·obtain⟨n,b,s⟩:=g;obtain⟨g1,g2,g3⟩:=hg;simp only at g1 g2 g3;have ln:=M3 t b s ht g1.ok g1.seen;cases e:j8 t b s with
  |none=>
   rw[e]at ln;rw[Cv e]at g3;rw[<-g3];obtain⟨bb,bt,es⟩:=b;cases es<;>repeat'(first|refine awz ?_|(refine cP (ln) ?_;conv=>whnf)|exact rZ|fail)
  |some x=>
   rw[e]at ln;obtain⟨x1,x2,x3,x4⟩:=nA e;have ap:=wH b x g1.ok x3;have sm:=vR s x g1.seen;rw[oS x4]at sm;have hlen:b.entries.length<20:=by
    simp only[mC,Bool.and_eq_true,decide_eq_true_eq]at x3;exact x3.2
   obtain⟨m,rfl⟩:∃m,n=m+1:=⟨n-1,aa⟩;have g3':jk t m (tO b x) (putMark s x.mark)=eC t h:=by
    rw[<-g3];simp[jk,e]
   have gg:=g1.add x3 x4;obtain⟨bb,bt,es⟩:=b;cases es
   ·repeat'((first|refine awz ?_|refine cP (ln) ?_|refine cP (ap) ?_|refine cP (sm) ?_|fail)<;>conv=>whnf)
    refine aT.mk ⟨(m,tO ⟨bb,bt,[]⟩ x,putMark s x.mark),⟨gg,by simp[tO]at g2⊢;omega,g3'⟩,Nat.lt_succ_self _,?_,sbW⟩;exact hds
   ·rename_i y r;repeat'((first|refine awz ?_|refine cP (ln) ?_|refine cP (ap) ?_|refine cP (sm) ?_|fail)<;>conv=>whnf)
    refine aT.mk ⟨(m,tO ⟨bb,bt,y::r⟩ x,putMark s x.mark),⟨gg,by simp[tO]at g2⊢;omega,g3'⟩,Nat.lt_succ_self _,?_,sbW⟩;exact hds
def pL(t:DTwo):Nat->Option DHead
 |0=>none
 |1=>(eY t 0).foldl (ce 0) none
 |_=>iU t
def Tt:Option DHead->List AC
 |none=>[.d (dI 0),.d (dI 0),.d (dI 0),.nil]
 |some h=>h.ds.map .d
theorem Cu(t:DTwo){j:Nat}(hj:j<2):pL t (j+1)=(eY t (j:Int)).foldl (ce (j:Int)) (pL t j):=by
 match j,hj with
 |0,_=>rfl
 |1,_=>rfl
theorem wu{rows:List (List Int)}{a:Int}{b:Option DHead}{k:Nat}(hk:k<rows.length):(rows.take (k+1)).foldl (ce a) b=ce a ((rows.take k).foldl (ce a) b) rows[k]:=by
 have e:rows.take (k+1)=rows.take k++[rows[k]]:=by rw[List.take_add_one,List.getElem?_eq_getElem hk];rfl
 rw[e,List.foldl_append];rfl
theorem O8(t:DTwo)(ht:ee t=true):aL av 234 [.agg t.ds] (wF (iU t)):=by
 have h2:eO t=true/\t.a.kept.length=22:=by simpa[ee]using ht
 have n1:(!ee t)=false:=by rw[ht];rfl
 refine pO func234 call234 ntmps234 results234 λS=>?_;conv=>whnf
 repeat'(first|refine awz ?_|(refine cP (kB t) ?_;conv=>whnf)|fail)
 refine XA (λj:Nat=>j<=2) (rg 5 6++(rg 16 41)) (λj=>[(5,.one (.d (dB (pL t j).isSome))),(6,vI .i64 (j:Int))]) (λj=>[(1,.cells 71 (t.ds.map .d)),(2,.cells 74 [.d (dI 0),.d (dI 0),.d (dI 0),.nil]),(4,.cells 74 (Tt (pL t j)))]) (λj=>2-j) 0 aa ?_ sbW (λj hj=>?_)<;>(conv=>whnf)
 ·exact whd
 ·by_cases hj2:j<2
  ·have hc:decide ((j:Int)<2)=true:=by simp only[decide_eq_true_eq];omega
   have ra:=D1 t (j:Int) h2.1 (by rw[h2.2];simp[aJ];omega);have hsucc:=Cu t hj2;have hrl:=oW t (j:Int);generalize eY t (j:Int)=rows at ra hsucc hrl;generalize pL t j=b0 at hsucc;repeat'(first|refine awz ?_|(refine cP (ra) ?_;conv=>whnf)|fail)
   refine XA (λk:Nat=>k<=rows.length) (5::8::9::10::rg 23 34) (λk=>[(5,.one (.d (dB ((rows.take k).foldl (ce (j:Int)) b0).isSome))),(8,vI .i64 (k:Int))]) (λk=>[(1,.cells 71 (t.ds.map .d)),(2,.cells 74 [.d (dI 0),.d (dI 0),.d (dI 0),.nil]),(4,.cells 74 (Tt ((rows.take k).foldl (ce (j:Int)) b0)))]) (λk=>rows.length-k) 0 (Nat.zero_le _) ?_ sbW (λk hk=>?_)<;>(conv=>whnf)
   ·exact whd
   ·by_cases hlt:k<rows.length
    ·have hck:decide ((k:Int)<((rows.map bD).length:Int))=true:=by simp only[decide_eq_true_eq,length_map];omega
     have hn:=wu (a:=(j:Int)) (b:=b0) hlt;have rh:=MX rows[k];generalize (rows.take k).foldl (ce (j:Int)) b0=c at hn;cases er:iG rows[k]with
     |none=>
      rw[er]at rh;have e:ce (j:Int) c rows[k]=c:=by simp[ce,er]
      rw[e]at hn;cases c<;>
      ·repeat'((first|refine awz ?_|refine XK hlt ?_|refine cP (rh) ?_|refine Xz aa aa ?_|fail)<;>conv=>whnf)
       refine aT.mk ⟨k+1,hlt,aa,?_,Xu rfl (Xu rfl (Xu (by rw[hn];rfl) Xv))⟩;rw[hn];exact hds
     |some y=>
      rw[er]at rh;have hy:=dy (xp er);have htm:y.num.tmod 2=y.num % 2:=Int.tmod_eq_emod_of_nonneg aa;by_cases hm:y.num % 2=(j:Int)
      ·have m1:(y.num.tmod 2==(j:Int))=true:=by rw[htm];simpa using hm
       have m2:(y.num % 2==(j:Int))=true:=by simpa using hm
       cases c with
       |none=>
        have e:ce (j:Int) none rows[k]=some y:=by simp[ce,er,m2,uE]
        rw[e]at hn;repeat'((first|refine awz ?_|refine XK hlt ?_|refine cP (rh) ?_|refine And.intro ae ?_|refine Xz aa aa ?_|fail)<;>conv=>whnf)
        refine aT.mk ⟨k+1,hlt,aa,?_,Xu rfl (Xu rfl (Xu (by rw[hn];rfl) Xv))⟩;rw[hn];exact hds
       |some x=>
        by_cases hl:x.num<y.num
        ·have l1:decide (y.num>x.num)=true:=by simpa using hl
         have e:ce (j:Int) (some x) rows[k]=some y:=by simp[ce,er,m2,uE,hl]
         rw[e]at hn;repeat'((first|refine awz ?_|refine XK hlt ?_|refine cP (rh) ?_|refine And.intro ae ?_|refine Xz aa aa ?_|fail)<;>conv=>whnf)
         refine aT.mk ⟨k+1,hlt,aa,?_,Xu rfl (Xu rfl (Xu (by rw[hn];rfl) Xv))⟩;rw[hn];exact hds
        ·have l1:decide (y.num>x.num)=false:=by simp only[decide_eq_false_iff_not];omega
         have e:ce (j:Int) (some x) rows[k]=some x:=by simp[ce,er,m2,uE,hl]
         rw[e]at hn;repeat'((first|refine awz ?_|refine XK hlt ?_|refine cP (rh) ?_|refine And.intro ae ?_|refine Xz aa aa ?_|fail)<;>conv=>whnf)
         refine aT.mk ⟨k+1,hlt,aa,?_,Xu rfl (Xu rfl (Xu (by rw[hn];rfl) Xv))⟩;rw[hn];exact hds
      ·have m1:(y.num.tmod 2==(j:Int))=false:=by rw[htm];simpa using hm
       have m2:(y.num % 2==(j:Int))=false:=by simpa using hm
       have e:ce (j:Int) c rows[k]=c:=by simp[ce,er,m2]
       rw[e]at hn;cases c<;>
       ·repeat'((first|refine awz ?_|refine XK hlt ?_|refine cP (rh) ?_|refine And.intro ae ?_|refine Xz aa aa ?_|fail)<;>conv=>whnf)
        refine aT.mk ⟨k+1,hlt,aa,?_,Xu rfl (Xu rfl (Xu (by rw[hn];rfl) Xv))⟩;rw[hn];exact hds
    ·have hck:decide ((k:Int)<((rows.map bD).length:Int))=false:=by simp only[decide_eq_false_iff_not,length_map];omega
     rw[List.take_of_length_le aa,<-hsucc];generalize hbb:pL t (j+1)=c;cases c<;>
     ·repeat'(first|refine awz ?_|(refine Xz aa aa ?_;conv=>whnf)|fail)
      refine aT.mk ⟨j+1,aa,aa,?_,Xu rfl (Xu rfl (Xu (by rw[hbb];rfl) Xv))⟩;rw[hbb];exact hds
  ·have e:j=2:=aa;subst e;have hc:decide (((2:Nat):Int)<2)=false:=ae;have eb:pL t 2=iU t:=rfl;rw[eb];unfold wF;cases iU t<;>repeat'(first|refine awz ?_|exact rZ|fail)
def gl:List (List Nat):=cz [0,0,2,194,278659,84680961,0,0,8,584,1876489,186942087,6460285125,0xc1ca2092cd143084046]
def gp:List (List Nat):=eK 13 [530790,530714,530717,530726,530752,530833,1120472,1065068,1067255,1073816,1092770,1151819,531076]
def fQ:List (List Nat):=cz [0,1,129,12354,1056835,84676740,6510088389,1056835,135008388,0x7143042106248,72625159070310727,0xb1c518920a0c1084,0x3040810ca2091851cb,0xd2c714624828304210c,0x38c1020432882461472cd,0x3040810ca2091851cb,0x102c714624828304210c,0xf34b1c518920a0c108430e450,0x3040810ca2091851cb49044e34f]
def fR:List (List Nat):=eK 17 [0,1,4,13,17536,17617,17860,2146,4333,9841,29524,88573,115056976,115588417,117182740,14083186,28432093]
theorem Ge(s:List DMark)(c:Int)(hl:s.length<=1048576):aL av 401 [.one (.sl (s.map DMark.ds)),pI c] (.val (.agg (bU s c).ds)):=by
 refine pO func401 call401 ntmps401 results401 λS=>?_;conv=>whnf
 repeat'(first|refine awz ?_|fail)
 refine XA (λk:Nat=>k<=s.length/\∀(j:Nat) (hj:j<k) (hl:j<s.length),s[j].client≠c) (6::rg 9 10) (λk=>[(9,vI .i64 (k:Int))]) (λk=>[(4,.cells 247 [.d (dI 0),.d (dI 0),.d (dI 0)])]) (λk=>s.length-k) 0 ⟨Nat.zero_le _,λj hj=>by omega⟩ ?_ sbW (λk hR=>?_)<;>(conv=>whnf)
 ·exact whd
 ·obtain⟨hk,hno⟩:=hR;by_cases hlt:k<s.length
  ·have hc:decide ((k:Int)<((s.map DMark.ds).length:Int))=true:=by simp only[decide_eq_true_eq,length_map];omega
   by_cases he:s[k].client=c
   ·have hb:(s[k].client==c)=true:=by simpa using he
    rw[Gr hlt hno he];repeat'(first|refine awz ?_|(refine XK hlt ?_;conv=>whnf)|exact rZ|fail)
   ·have hb:(s[k].client==c)=false:=by simpa using he
    repeat'((first|refine awz ?_|refine XK hlt ?_|refine Xz aa aa ?_|fail)<;>conv=>whnf)
    refine aT.mk ⟨k+1,⟨hlt,λj hj hl=>?_⟩,aa,?_,sbW⟩
    ·rcases Nat.lt_succ_iff_lt_or_eq.1 hj with h|h
     ·exact hno j h hl
     ·subst h;exact he
    ·exact hds
  ·have e:k=s.length:=aa;subst e;have hc:decide ((s.length:Int)<((s.map DMark.ds).length:Int))=false:=ah;rw[Gs λj hl=>hno j hl hl];repeat'(first|refine awz ?_|exact rZ|fail)
theorem Ms(h:DHead)(ho:di h=true):aL av 343 [.agg h.ds] (.val (.one (.sl ((fH h).map eI)))):=by
 have hs:=(dy ho).2.2.2.2.1;have hl:=em hs;have hok:=lS h aa;rw[ho]at hok;have e:fH h=[h.num,h.base,h.time,(bU h.seen 2).seq,(bU h.seen 2).index,(bU h.seen 3).seq,(bU h.seen 3).index,(bU h.seen 4).seq,(bU h.seen 4).index,(bU h.seen 5).seq,(bU h.seen 5).index,h.num,h.num]:=by simp[fH,ho]
 rw[e];refine pO func343 call343 ntmps343 results343 λS=>?_;conv=>whnf
 repeat'(first|refine awz ?_|(refine cP (hok) ?_;conv=>whnf)|fail)
 refine X7 5 ?_;conv=>whnf
 repeat'((first|refine awz ?_|refine cP (Ge h.seen _ aa) ?_|refine Xz ae ae ?_|refine bc (by simp only[length_map,length_nil,length_append,length_cons,length_take,opL,pi]<;>omega) ?_|exact rZ|fail)<;>conv=>whnf)
def Ln(o:Option DHead):List AP1:=[.agg (o.getD g9).ds,.one (dB o.isSome)]
theorem JN(l:List Int):dZ av 395 [.one (.sl (l.map eI))] (Ln (iG l)):=by
 by_cases hl:l.length=13
 ·obtain⟨n,b,t,u,v,w,p,q,s,g,f,x,y,rfl⟩:=yt hl;have hml:=rA u v w p q s g f 4;have ho:=lS ⟨n,b,t,fC u v w p q s g f 4⟩ (by simp only;omega);have e:iG [n,b,t,u,v,w,p,q,s,g,f,x,y]=if di ⟨n,b,t,fC u v w p q s g f 4⟩&&x==n&&y==n then some ⟨n,b,t,fC u v w p q s g f 4⟩else none:=rfl
  rw[e];unfold Ln;refine bP aM func395 rfl call395 ntmps395 (aaX results395) rfl λS=>?_;conv=>whnf
  repeat'(first|refine awz ?_|fail)
  (refine XB aM 3 11 ly lD ac ac ac rfl ?_;conv=>whnf)
  repeat'((first|refine awz ?_|refine Xw 0 _ rfl rfl ?_|refine Xw 1 _ rfl rfl ?_|refine Xw 2 _ rfl rfl ?_|fail)<;>conv=>whnf)
  refine Yc 4 3 940 247 3 ae ?_;conv=>whnf
  repeat'(first|refine awz ?_|fail)
  refine XA (λk:Nat=>k<=4) (5::6::7::rg 22 32) (λk=>[(5,vI .i64 (k:Int))]) (λk=>[(9997,cS S.w0.heap.size S.w0.heap.size),(2,.cells 74 [.d (dI 0),.d (dI 0),.d (dI 0),.nil]),(4,.cells 74 [.d (dI n),.d (dI b),.d (dI t),.own 940]),(940,.row 247 3 ((fC u v w p q s g f k).map DMark.ds))]) (λk=>4-k) 0 aa ?_ sbW (λk hk=>?_)<;>(conv=>whnf)
  ·exact whd
  ·have hkl:=rA u v w p q s g f k;have hk5:k=0\/k=1\/k=2\/k=3\/k=4:=aa;rcases hk5 with rfl|rfl|rfl|rfl|rfl
   ·repeat'(first|refine awz ?_|fail)
    (refine XB aM 7 13 gl gp ac ac ac rfl ?_;conv=>whnf)
    repeat'((first|refine awz ?_|refine Xw 3 _ ae rfl ?_|refine Xw 4 _ ae rfl ?_|refine Xz ae ae ?_|refine bc (by simp only[length_map,length_nil,length_append,length_cons,length_take,opL,pi]<;>omega) ?_|refine tW ?_ ?_|intro h)<;>conv=>whnf)
    all_goals
     refine aT.mk ⟨0+1,aa,aa,?_,Xu rfl (Xu rfl (Xu rfl (Xu (by simp[fC,fT,DMark.ds,bo, *]) Xv)))⟩;exact hds
   ·repeat'(first|refine awz ?_|fail)
    (refine XB aM 7 13 gl gp ac ac ac rfl ?_;conv=>whnf)
    repeat'((first|refine awz ?_|refine Xw 5 _ ae rfl ?_|refine Xw 6 _ ae rfl ?_|refine Xz ae ae ?_|refine bc (by simp only[length_map,length_nil,length_append,length_cons,length_take,opL,pi]<;>omega) ?_|refine tW ?_ ?_|intro h)<;>conv=>whnf)
    all_goals
     refine aT.mk ⟨1+1,aa,aa,?_,Xu rfl (Xu rfl (Xu rfl (Xu (by simp[fC,fT,DMark.ds,bo, *]) Xv)))⟩;exact hds
   ·repeat'(first|refine awz ?_|fail)
    (refine XB aM 7 13 gl gp ac ac ac rfl ?_;conv=>whnf)
    repeat'((first|refine awz ?_|refine Xw 7 _ ae rfl ?_|refine Xw 8 _ ae rfl ?_|refine Xz ae ae ?_|refine bc (by simp only[length_map,length_nil,length_append,length_cons,length_take,opL,pi]<;>omega) ?_|refine tW ?_ ?_|intro h)<;>conv=>whnf)
    all_goals
     refine aT.mk ⟨2+1,aa,aa,?_,Xu rfl (Xu rfl (Xu rfl (Xu (by simp[fC,fT,DMark.ds,bo, *]) Xv)))⟩;exact hds
   ·repeat'(first|refine awz ?_|fail)
    (refine XB aM 7 13 gl gp ac ac ac rfl ?_;conv=>whnf)
    repeat'((first|refine awz ?_|refine Xw 9 _ ae rfl ?_|refine Xw 10 _ ae rfl ?_|refine Xz ae ae ?_|refine bc (by simp only[length_map,length_nil,length_append,length_cons,length_take,opL,pi]<;>omega) ?_|refine tW ?_ ?_|intro h)<;>conv=>whnf)
    all_goals
     refine aT.mk ⟨3+1,aa,aa,?_,Xu rfl (Xu rfl (Xu rfl (Xu (by simp[fC,fT,DMark.ds,bo, *]) Xv)))⟩;exact hds
   ·cases hd:di ⟨n,b,t,fC u v w p q s g f 4⟩with
    |false=>
     rw[hd]at ho;simp only[Bool.false_and,Bool.false_eq_true,if_false];repeat'(first|refine awz ?_|fail)
     (refine XB aM 10 17 fQ fR ac ac ac rfl ?_;conv=>whnf)
     repeat'(first|refine awz ?_|(refine aH.mk ⟨_,_,ho,.inr (.inl ⟨rfl,rfl⟩),?_⟩;conv=>whnf)|fail)
     all_goals(exact⟨.inl rfl,_,_,Nat.le_refl _,XD (hi:=0) rfl⟩)
    |true=>
     rw[hd]at ho;by_cases hx:x=n
     ·have n1:(x !=n)=false:=by simpa using hx
      have n3:(x==n)=true:=by simpa using hx
      by_cases hy:y=n
      ·have n2:(y !=n)=false:=by simpa using hy
       have n4:(y==n)=true:=by simpa using hy
       simp only[n3,n4,Bool.true_and,if_true];repeat'(first|refine awz ?_|fail)
       (refine XB aM 10 17 fQ fR ac ac ac rfl ?_;conv=>whnf)
       repeat'((first|refine awz ?_|refine Xw 11 _ rfl rfl ?_|refine Xw 12 _ rfl rfl ?_|refine aH.mk ⟨_,_,ho,.inr (.inl ⟨rfl,rfl⟩),?_⟩|fail)<;>conv=>whnf)
       all_goals exact⟨alW,S.w0.heap.size,S.w0.heap.size,Nat.le_refl _,XD (by simp only[List.all_cons,List.all_append];rw[nv (xs:=(fC u v w p q s g f 4).map DMark.ds) bls];rfl)⟩
      ·have n2:(y !=n)=true:=by simpa using hy
       have n4:(y==n)=false:=by simpa using hy
       simp only[n4,Bool.and_false,Bool.false_eq_true,if_false];repeat'(first|refine awz ?_|fail)
       (refine XB aM 10 17 fQ fR ac ac ac rfl ?_;conv=>whnf)
       repeat'((first|refine awz ?_|refine Xw 11 _ rfl rfl ?_|refine Xw 12 _ rfl rfl ?_|refine aH.mk ⟨_,_,ho,.inr (.inl ⟨rfl,rfl⟩),?_⟩|fail)<;>conv=>whnf)
       all_goals(exact⟨.inl rfl,_,_,Nat.le_refl _,XD (hi:=0) rfl⟩)
     ·have n1:(x !=n)=true:=by simpa using hx
      have n3:(x==n)=false:=by simpa using hx
      simp only[n3,Bool.and_false,Bool.false_and,Bool.false_eq_true,if_false];repeat'(first|refine awz ?_|fail)
      (refine XB aM 10 17 fQ fR ac ac ac rfl ?_;conv=>whnf)
      repeat'((first|refine awz ?_|refine Xw 11 _ rfl rfl ?_|refine aH.mk ⟨_,_,ho,.inr (.inl ⟨rfl,rfl⟩),?_⟩|fail)<;>conv=>whnf)
      all_goals(exact⟨.inl rfl,_,_,Nat.le_refl _,XD (hi:=0) rfl⟩)
 ·have n1:(((l.map eI).length:Int) !=13)=true:=by simp only[length_map,bne_iff_ne,ne_eq];omega
  rw[AM hl];unfold Ln;refine bP aM func395 rfl call395 ntmps395 (aaX results395) rfl λS=>?_;conv=>whnf
  repeat'(first|refine awz ?_|fail)
  all_goals(exact⟨.inl rfl,_,_,Nat.le_refl _,XD (hi:=0) rfl⟩)
def Tu(o:Option DHead)(c:AD):List AC:=match o with
 |none=>[.d (dI 0),.d (dI 0),.d (dI 0),.nil]
 |some h=>[.d (dI h.num),.d (dI h.base),.d (dI h.time),.d c]
def xu(n m:Nat)(o:Option DHead)(c:AD):Prop:=∀h,o=some h->d6 n m [dI h.num,dI h.base,dI h.time,c] h.ds
theorem xu.mono{o:Option DHead}(h:xu n m o c)(hm:m<=m'):xu n m' o c:=λx e=>(h x e).mono (Nat.le_refl _) hm
theorem ZH{y:DHead}{cs ds:List AD}(F:d6 m m' ([dI y.num,dI y.base,dI y.time,c]++cs) (y.ds++ds))(hn:n<=m):xu n m' (some y) c:=λx e=>by
 injection e with e
 subst e;exact(F.part 0 4).mono hn (Nat.le_refl _)
theorem Mr(t:DTwo)(ht:ee t=true):dZ av 341 [.agg t.ds] (Ln (iU t)):=by
 have h2:eO t=true/\t.a.kept.length=22:=by simpa[ee]using ht
 have ko:=nL t;rw[ht]at ko;refine bP aM func341 rfl call341 ntmps341 (aaX results341) rfl λS=>?_;conv=>whnf
 repeat'(first|refine awz ?_|(refine cP (ko) ?_;conv=>whnf)|fail)
 refine XA (λg:Nat×Nat×AD=>g.1<=2/\S.w0.heap.size<=g.2.1/\xu S.w0.heap.size g.2.1 (pL t g.1) g.2.2) (5::6::8::9::10::rg 16 38) (λg=>[(5,.one (.d (dB (pL t g.1).isSome))),(6,vI .i64 (g.1:Int))]) (λg=>[(9997,cS S.w0.heap.size g.2.1),(1,.cells 71 (t.ds.map .d)),(2,.cells 74 [.d (dI 0),.d (dI 0),.d (dI 0),.nil]),(4,.cells 74 (Tu (pL t g.1) g.2.2))]) (λg=>2-g.1) (0,S.w0.heap.size,dI 0) ⟨aa,Nat.le_refl _,λh e=>by cases e⟩ ?_ sbW (λg hj=>?_)<;>(conv=>whnf)
 ·exact whd
 ·obtain⟨j,m,cc⟩:=g;obtain⟨hj,hm,hB⟩:=hj;simp only at hj hm hB;by_cases hj2:j<2
  ·have hc:decide ((j:Int)<2)=true:=by simp only[decide_eq_true_eq];omega
   have ra:=C0 t (j:Int) h2.1 (by rw[h2.2];simp[aJ];omega);have hsucc:=Cu t hj2;have hrl:=oW t (j:Int);generalize eY t (j:Int)=rows at ra hsucc hrl;generalize pL t j=b0 at hsucc hB;repeat'(first|refine awz ?_|(refine cP (ra) ?_;conv=>whnf)|fail)
   refine XA (λg:Nat×Nat×AD=>g.1<=rows.length/\S.w0.heap.size<=g.2.1/\xu S.w0.heap.size g.2.1 ((rows.take g.1).foldl (ce (j:Int)) b0) g.2.2) (5::8::9::10::rg 24 30) (λg=>[(5,.one (.d (dB ((rows.take g.1).foldl (ce (j:Int)) b0).isSome))),(24,vI .i64 (g.1:Int))]) (λg=>[(9997,cS S.w0.heap.size g.2.1),(1,.cells 71 (t.ds.map .d)),(2,.cells 74 [.d (dI 0),.d (dI 0),.d (dI 0),.nil]),(4,.cells 74 (Tu ((rows.take g.1).foldl (ce (j:Int)) b0) g.2.2))]) (λg=>rows.length-g.1) (0,m,cc) ⟨Nat.zero_le _,hm,hB⟩ ?_ sbW (λg hk=>?_)<;>(conv=>whnf)
   ·exact whd
   ·clear hB;obtain⟨k,m,cc⟩:=g;obtain⟨hk,hm,hB⟩:=hk;simp only at hk hm hB;by_cases hlt:k<rows.length
    ·have hck:decide ((k:Int)<((rows.map bD).length:Int))=true:=by simp only[decide_eq_true_eq,length_map];omega
     have hn:=wu (a:=(j:Int)) (b:=b0) hlt;have rh:=JN rows[k];generalize (rows.take k).foldl (ce (j:Int)) b0=c at hn hB;cases er:iG rows[k]with
     |none=>
      rw[er]at rh;have e:ce (j:Int) c rows[k]=c:=by simp[ce,er]
      rw[e]at hn;cases c<;>
      ·repeat'((first|refine awz ?_|refine XK hlt ?_|refine XM rh rfl rfl λR lo hi a1 a2 F=>?_|refine Xz aa aa ?_|fail)<;>conv=>whnf)
       have a1:m<=lo:=a1;refine aT.mk ⟨(k+1,hi,cc),⟨hlt,by simp only;omega,by simp only;rw[hn];exact hB.mono aa⟩,by simp only;omega,?_,Xu rfl (Xu rfl (Xu rfl (Xu (by rw[hn];rfl) Xv)))⟩;rw[hn];exact hds
     |some y=>
      rw[er]at rh;have hy:=dy (xp er);have htm:y.num.tmod 2=y.num % 2:=Int.tmod_eq_emod_of_nonneg aa;by_cases hm2:y.num % 2=(j:Int)
      ·have m1:(y.num.tmod 2==(j:Int))=true:=by rw[htm];simpa using hm2
       have m2:(y.num % 2==(j:Int))=true:=by simpa using hm2
       cases c with
       |none=>
        have e:ce (j:Int) none rows[k]=some y:=by simp[ce,er,m2,uE]
        rw[e]at hn;repeat'((first|refine awz ?_|refine XK hlt ?_|refine XM rh rfl rfl λR lo hi a1 a2 F=>?_|refine And.intro ae ?_|refine Xz aa aa ?_|fail)<;>conv=>whnf)
        have a1:m<=lo:=a1;refine aT.mk ⟨(k+1,hi,.x (R 3)),⟨hlt,by simp only;omega,by simp only;rw[hn];exact ZH F aa⟩,by simp only;omega,?_,Xu rfl (Xu rfl (Xu rfl (Xu (by rw[hn];rfl) Xv)))⟩;rw[hn];exact hds
       |some x=>
        by_cases hl:x.num<y.num
        ·have l1:decide (y.num>x.num)=true:=by simpa using hl
         have e:ce (j:Int) (some x) rows[k]=some y:=by simp[ce,er,m2,uE,hl]
         rw[e]at hn;repeat'((first|refine awz ?_|refine XK hlt ?_|refine XM rh rfl rfl λR lo hi a1 a2 F=>?_|refine And.intro ae ?_|refine Xz aa aa ?_|fail)<;>conv=>whnf)
         have a1:m<=lo:=a1;refine aT.mk ⟨(k+1,hi,.x (R 3)),⟨hlt,by simp only;omega,by simp only;rw[hn];exact ZH F aa⟩,by simp only;omega,?_,Xu rfl (Xu rfl (Xu rfl (Xu (by rw[hn];rfl) Xv)))⟩;rw[hn];exact hds
        ·have l1:decide (y.num>x.num)=false:=by simp only[decide_eq_false_iff_not];omega
         have e:ce (j:Int) (some x) rows[k]=some x:=by simp[ce,er,m2,uE,hl]
         rw[e]at hn;repeat'((first|refine awz ?_|refine XK hlt ?_|refine XM rh rfl rfl λR lo hi a1 a2 F=>?_|refine And.intro ae ?_|refine Xz aa aa ?_|fail)<;>conv=>whnf)
         have a1:m<=lo:=a1;refine aT.mk ⟨(k+1,hi,cc),⟨hlt,by simp only;omega,by simp only;rw[hn];exact hB.mono aa⟩,by simp only;omega,?_,Xu rfl (Xu rfl (Xu rfl (Xu (by rw[hn];rfl) Xv)))⟩;rw[hn];exact hds
      ·have m1:(y.num.tmod 2==(j:Int))=false:=by rw[htm];simpa using hm2
       have m2:(y.num % 2==(j:Int))=false:=by simpa using hm2
       have e:ce (j:Int) c rows[k]=c:=by simp[ce,er,m2]
       rw[e]at hn;cases c<;>
       ·repeat'((first|refine awz ?_|refine XK hlt ?_|refine XM rh rfl rfl λR lo hi a1 a2 F=>?_|refine And.intro ae ?_|refine Xz aa aa ?_|fail)<;>conv=>whnf)
        have a1:m<=lo:=a1;refine aT.mk ⟨(k+1,hi,cc),⟨hlt,by simp only;omega,by simp only;rw[hn];exact hB.mono aa⟩,by simp only;omega,?_,Xu rfl (Xu rfl (Xu rfl (Xu (by rw[hn];rfl) Xv)))⟩;rw[hn];exact hds
    ·have hck:decide ((k:Int)<((rows.map bD).length:Int))=false:=by simp only[decide_eq_false_iff_not,length_map];omega
     rw[List.take_of_length_le aa,<-hsucc]at hB;rw[List.take_of_length_le aa,<-hsucc];generalize hbb:pL t (j+1)=c at hB;cases c<;>
     ·repeat'(first|refine awz ?_|(refine Xz aa aa ?_;conv=>whnf)|fail)
      refine aT.mk ⟨(j+1,m,cc),⟨by simp only;omega,hm,by simp only;rw[hbb];exact hB⟩,by simp only;omega,?_,Xu rfl (Xu rfl (Xu rfl (Xu (by simp only;rw[hbb];rfl) Xv)))⟩;simp only;rw[hbb];exact hds
  ·have e:j=2:=aa;subst e;have hc:decide (((2:Nat):Int)<2)=false:=ae;have eb:pL t 2=iU t:=rfl;rw[eb]at hB⊢;unfold Ln;cases hh:iU t with
   |none=>
    repeat'(first|refine awz ?_|fail)
    exact⟨.inl rfl,_,_,Nat.le_refl _,XD (hi:=0) rfl⟩
   |some x=>
    repeat'(first|refine awz ?_|fail)
    exact⟨_,m,Nat.le_refl _,((hB x hh).fam.app (XD (lo:=m) (hi:=m) (ds:=[dB true]) rfl) (Nat.le_refl _) hm (Nat.le_refl _))⟩
end
section
section
open Go.Proofs.Tryz
open Go.RowKit
def Hp:List AV->Nat->(List AV->Prop)->Prop
 |[],n,K=>I7 n K
 |_::_,0,_=>False
 |p::r,n+1,K=>Hp r n λtm=>K (p::tm)
theorem wV:∀{args:List AV} {n:Nat} {K:List AV->Prop},Hp args n K->args.length<=n/\K (args++List.replicate (n-args.length) (.one .und))
 |[],n,K,h=>⟨Nat.zero_le _,by simpa using vj h⟩
 |_::_,0,_,h=>h.elim
 |p::r,n+1,K,h=>by
  obtain⟨h1,h2⟩:=wV (args:=r) (n:=n) (K:=λtm=>K (p::tm)) h;refine⟨by simp;omega,?_⟩;simpa[Nat.succ_sub_succ]using h2
def PO(E:bz)(rs:List ResultVar)(fid:Nat)(us:List Value)(K:AV->ASt->Prop)(st:ASt):Prop:=
 Fs E st st.ob rs λv=>aOb st.ob fid λo=>match o with
  | .frame vs us'=>And (us'=us) (K v.v ⟨vs,st.ob⟩)
  |_=>False
def V2(E:bz)(rs:List ResultVar)(fid:Nat)(us:List Value)(K:AV->ASt->Prop):Exit->ASt->Prop
 | .ret,st=>PO E rs fid us K st
 | .normal,st=>PO E rs fid us K st
 |_,_=>False
theorem PI{Z:Nat->Prop}{ρ:Nat->Value}{ob:List (Nat×AO)}{b:Nat}(h:Ba Z ρ ob ob b):Z b:=by
 rcases h with h|⟨id,o,ho,hn,_⟩
 ·exact h
 ·rw[fZ.2 ⟨o,ho⟩]at hn;cases hn
theorem Yi{E:bz}(he:E.Ok){S:bR}(fid:Nat){f:FuncId}{fn:Func}{c:Code}{n:Nat}{rs:List ResultVar}{args:List AV}{tm:List AV}{ob:List (Nat×AO)}{K:AV->ASt->Prop}(hf:E.P.funcs[f]? =some fn)(hb:fn.body=some c)
  (enter:∀(us:Array Value) w,(callFunc f us).run E.P w= .ok (.enter f us) w) (hn:fn.ntmps=n) (hrs:fn.results.toList=rs)
  (hk:args.all (uI fid)=true)
  (h:∀us,v8 ⟨tm,ob⟩ fid (.frame (tm.map (kV fid)) us) λst=>Hp args n λtm'=>AWP E S c (V2 E rs fid us K) ⟨tm',st.ob⟩):aG E S f args ⟨tm,ob⟩ K:=by
 subst hn hrs;refine⟨enter,λZ ρ a w us hs hl hr=>?_⟩;have h1:=gD (h a.tmps.toList);obtain⟨hle,h2⟩:=wV h1;have hfr:cX Z w (λi=>if i=fid then undef else ρ i) fid (.frame (tm.map (kV fid)) a.tmps.toList):=by
  refine⟨by simp,by simp[hs.len],λi x u hx hu=>?_⟩;rw[getElem?_map]at hx;obtain⟨y,hy,rfl⟩:=Option.map_eq_some_iff.1 hx;exact kw (hs.tm i y u hy (by simpa using hu))
 have hws:=hs.ws.renew fid undef (.frame (tm.map (kV fid)) a.tmps.toList) (row:=none) (World.grownBy.refl w _) ah (λb hb=>by cases hb) hfr;have hcal:Sim E.W S Z (λi=>if i=fid then undef else ρ i) ⟨args++List.replicate (fn.ntmps-args.length) (.one .und),eD (fh fid ⟨tm,ob⟩).ob fid (.frame (tm.map (kV fid)) a.tmps.toList)⟩ {tmps:=us.toArray++Array.replicate (fn.ntmps-us.toArray.size) undef,defers:=[]} w:=by
  refine⟨hws,by simp[hl],λi x v hx hv=>?_,rfl⟩;simp only at hx hv;have hv':(us++List.replicate (fn.ntmps-us.length) undef)[i]? =some v:=by
   rw[<-Array.getElem?_toList]at hv;simpa using hv
  by_cases hi:i<us.length
  ·rw[getElem?_append_left aa]at hx;rw[getElem?_append_left hi]at hv';have:=kw (id:=fid) (y:=undef) (hr i x v hx hv');rwa[mb (List.all_eq_true.1 hk x (mem_of_getElem? hx))]at this
  ·rw[getElem?_append_right aa]at hx;rw[getElem?_append_right aa]at hv';have e1:=List.eq_of_mem_replicate (mem_of_getElem? hx);have e2:=List.eq_of_mem_replicate (mem_of_getElem? hv');subst e1 e2;exact .one _ _ (show dN Z w _ .und undef from rfl)
 refine calls_of_wp hf hb (wp_mono (h2.run _ w ⟨Z,_,hcal⟩) λe a' w' h'=>?_);obtain⟨st',⟨Z',ρ',hs'⟩,hk'⟩:=h';have fin:PO E fn.results.toList fid a.tmps.toList K st'->a'.defers=[]/\∃v,(results fn a'.tmps).run E.P w'= .ok v w'/\∃v0 r st2 Z2 ρ2,Ending.returned v= .returned v0/\Sim E.W S Z2 ρ2 st2 a w'/\cn Z2 w' ρ2 r v0/\K r st2:=by
  intro hb;obtain⟨v,p,hv,hrel,hob⟩:=Ft he hs' hb;obtain⟨o,ho,hob⟩:=cm hob;split at hob
  ·rename_i vs us';obtain⟨rfl,hK⟩:=hob;obtain⟨g1,g2,g3⟩:=hs'.ws.obj fid _ ho;refine⟨hs'.df,v,hv,v,p.v,⟨vs,st'.ob⟩,Z',ρ',rfl,⟨hs'.ws,?_,λi x u hx hu=>?_,hs.df⟩,hrel.mono (λb hb=>PI hb) (λ_ _=>rfl),hK⟩
   ·simpa using g2
   ·exact g3 i x u hx (by simpa using hu)
  ·exact hob.elim
 cases e with
 |normal=>exact fin hk'
 |ret=>exact fin hk'
 |_=>exact hk'.elim
def ClR(f:FuncId)(pss:List (List AD)):(Nat->Prop)->World->Value->Prop:=λZ w v=>∃ps:List Value,v= .func (.func f) #[] ps.toArray/\ps.length=pss.length/\∀(i:Nat) p cs,ps[i]? =some p->pss[i]? =some cs->xv Z w cs p
structure Hh (E:bz) (f:FuncId) (args:List AP1) (pss:List (List AD)) (res:AP):Prop where
 enter:∀(us:Array Value) w,(callFunc f us).run E.P w= .ok (.enter f us) w
 run:∀(Z:Nat->Prop) (w:World) (us qs:List Value),(∀b,Z b->b<w.heap.size)->GZ E.W Z w->us.length=args.length->(∀(i:Nat) p u,args[i]? =some p->us[i]? =some u->fw Z w p u)->qs.length=pss.length->(∀(i:Nat) q cs,qs[i]? =some q->pss[i]? =some cs->xv Z w cs q)->
  Calls E.P f (us++qs).toArray w λe w'=>∃v Z',e= .returned v/\Below w.heap.size w w'/\(∀b,Z b->Z' b)/\(∀b,Z' b->Z b\/(w.heap.size<=b/\b<w'.heap.size))/\yU Z' w' res v
section
variable {E:bz} {S:bR}
theorem pN(he:E.Ok){f:FuncId}{fn:Func}{c:Code}{n:Nat}{rs:List ResultVar}{args:List AP1}{pss:List (List AD)}{res:AP}(hf:E.P.funcs[f]? =some fn)(hb:fn.body=some c)
  (enter:∀(us:Array Value) w,(callFunc f us).run E.P w= .ok (.enter f us) w) (hn:fn.ntmps=n) (hrs:fn.results.toList=rs)
  (h:∀S,Hp (args.map AP1.v++pss.map λcs=> .one (.ptr cs)) n λtm=>AWP E S c (T4 E rs res) ⟨tm,[]⟩):Hh E f args pss res:=by
 refine⟨enter,λZ w us qs hz hg hl hr hl2 hq=>?_⟩;subst hn hrs;obtain⟨hle,hk⟩:=wV (h ⟨w,λ_=>False,Z⟩);simp only[List.length_append,length_map]at hle hk;have hs:Sim E.W ⟨w,λ_=>False,Z⟩ Z (λ_=>undef) ⟨(args.map AP1.v++pss.map λcs=> .one (.ptr cs))++List.replicate (fn.ntmps-(args.length+pss.length)) (.one .und),[]⟩ {tmps:=(us++qs).toArray++Array.replicate (fn.ntmps-(us++qs).toArray.size) undef,defers:=[]} w:=by
  refine⟨⟨rfl,rfl,rfl,Nat.le_refl _,λ_ _ _=>rfl,hz,λid o b ho _=>(by cases ho),λi j oi oj b hi _ _ _ _=>(by cases hi),λid o ho=>(by cases ho),lu.nil,hg,λb hb=>hb,λb hb=> .inl hb⟩,by simp[hl,hl2];omega,λi x v hx hv=>?_,rfl⟩;simp only at hx hv;have hv':((us++qs)++List.replicate (fn.ntmps-(us++qs).length) undef)[i]? =some v:=by
   have:=hv;rw[<-Array.getElem?_toList]at this;simpa using this
  have hall:(us++qs).length=args.length+pss.length:=by simp[hl,hl2]
  by_cases hi:i<args.length+pss.length
  ·rw[getElem?_append_left (by simpa using hi)]at hx;rw[getElem?_append_left aa]at hv';by_cases hi2:i<args.length
   ·rw[getElem?_append_left (by simpa using hi2),getElem?_map]at hx;obtain⟨p,hp,rfl⟩:=Option.map_eq_some_iff.1 hx;rw[getElem?_append_left aa]at hv';exact(hr i p v hp hv').v
   ·rw[getElem?_append_right (by simpa using hi2),length_map,getElem?_map]at hx;obtain⟨cs,hcs,rfl⟩:=Option.map_eq_some_iff.1 hx;rw[getElem?_append_right aa,hl]at hv';exact .one _ _ (hq _ v cs hv' hcs)
  ·rw[getElem?_append_right al]at hx;rw[getElem?_append_right aa]at hv';have e1:=List.eq_of_mem_replicate (mem_of_getElem? hx);have e2:=List.eq_of_mem_replicate (mem_of_getElem? hv');subst e1 e2;exact .one _ _ (show dN Z w (λ_=>undef) .und undef from rfl)
 refine calls_of_wp hf hb (wp_mono (hk.run _ w ⟨Z,_,hs⟩) λe a' w' h'=>?_);obtain⟨st',⟨Z',ρ',hs'⟩,hk'⟩:=h';have fin:Hv E st' fn.results.toList (· =res)->a'.defers=[]/\∃v,(results fn a'.tmps).run E.P w'= .ok v w'/\∃v0 Z',Ending.returned v= .returned v0/\Below w.heap.size w w'/\(∀b,Z b->Z' b)/\(∀b,Z' b->Z b\/(w.heap.size<=b/\b<w'.heap.size))/\yU Z' w' res v0:=by
  intro hr;obtain⟨v,p,h1,h2,h3⟩:=Cl he hs' hr;subst h3;refine⟨hs'.df,v,h1,v,gU Z' ρ' st'.ob,rfl,⟨hs'.ws.os,hs'.ws.tape,hs'.ws.output,hs'.ws.size,λb hb=>hs'.ws.old b hb (λh=>h)⟩,λb hb=> .inl (hs'.ws.z0 b hb),λb hb=>?_,h2⟩;have hlt:=gU.lt hs'.ws b hb;rcases hb with hb|⟨id,o,ho,hb⟩
  ·rcases hs'.ws.znew b hb with h4|h4|h4
   ·exact .inl h4
   ·exact .inr ⟨h4,hlt⟩
   ·exact h4.elim
  ·rcases(hs'.ws.mine id o b ho hb).2 with h4|h4
   ·exact .inr ⟨h4,hlt⟩
   ·exact h4.elim
 cases e with
 |normal=>exact fin hk'
 |ret=>exact fin hk'
 |_=>exact hk'.elim
theorem ZG{o:Oper}{st:ASt}{K:ASt->Prop}{c:Call}{fo:Operand}{f:FuncId}{pss:List (List AD)}{ps:List AP1}{res:AP}(ho:o.op= .call c)(hcal:c.callee= .value fo)(hfv:aEv st fo λv=>v= .one (.d (.x (ClR f pss))))(hargs:BV st c.args.toList λvs=>aPs vs (· =ps))(hc:Hh E f ps pss res)(hk:eA st o.dst res.v K):AOp E S o st K:=by
 refine⟨λa w Q hsx=>?_⟩;obtain⟨Z,ρ,h⟩:=hsx;obtain⟨x,hx,rfl⟩:=bq h hfv;obtain⟨vs,hl,hv,hps⟩:=nT h hargs;have hR:ClR f pss Z w (a.eval fo):=by
  cases hx with
  |one _ _ hx=>
   have hx:ca Z w (.x (ClR f pss)) (a.eval fo):=hx;generalize a.eval fo=u at hx;cases hx with
   |x _ _ h1 hR=>exact hR Z w (λ_ h=>h) λ_ _=>rfl
 obtain⟨qs,e1,hl2,hq⟩:=hR;have hws0:WS E.W S Z w ρ []:=h.ws.sub Xv;obtain⟨ps',h1,h2,rfl⟩:=gE (st:=⟨[],[]⟩) (us:=c.args.toList.map a.eval) hws0 (by simp[hl]) (λi x u h3 h4=>by
  rw[getElem?_map]at h4;obtain⟨y,hy,rfl⟩:=Option.map_eq_some_iff.1 h4;exact hv i y x hy h3) (Ht hps)
 unfold Oper.wp;have hex:(execOp a.eval o).run E.P w=(callFunc f (c.args.toList.map a.eval++qs).toArray).run E.P w:=by
  simp only[execOp,ho,resolve,hcal,e1,Deferred.ofValue,Sem.run_bind,Sem.run_pure,Result.andThen_ok,invoke,nH c.args a.eval];simp
 rw[hex,hc.enter];refine(hc.run Z w _ qs h.ws.zlt h.ws.g h1 (λi p u h3 h4=>?_) hl2 hq).mono ?_
 ·have:=h2 i p u h3 h4;have hz:∀b,gU Z ρ [] b->Z b:=by rintro b (hb|⟨id,o,ho,_⟩);exact hb;cases ho
  cases p with
  |one d=>exact ca.mono hz (λ_ _=>rfl) this
  |agg ds=>obtain⟨us,e,hl,hr⟩:=this;exact⟨us,e,hl,λi d u h5 h6=>(hr i d u h5 h6).mono hz λ_ _=>rfl⟩
 ·rintro e w' ⟨v,Z',rfl,hb,hz,hz2,hv⟩;exact⟨_,⟨Z',ρ,(h.grow (dO hb) hz hz2).put o.dst hv.v⟩,eT hk⟩
theorem aaj(fid:Nat){o:Oper}{st:ASt}{K:ASt->Prop}{f:FuncId}{caps:Array Operand}{cs:List AV}(ho:o.op= .makeFunc (.func f) #[] caps)(hc:BV st caps.toList λvs=>vs=cs)(hno:cs.all (uI fid)=true)
  (hk:∀us:List Value,v8 st fid (.frame cs us) λst=>eA st o.dst (.one (.d (.x (λ_ _ v=>v= .func (.func f) #[] us.toArray)))) K):AOp E S o st K:=by
 refine⟨λa w Q hsx=>?_⟩;obtain⟨Z,ρ,h⟩:=hsx;obtain⟨vs,hl,hv,rfl⟩:=nT h hc;have hk:=gD (hk (caps.toList.map a.eval));have hfr:cX Z w (λi=>if i=fid then undef else ρ i) fid (.frame vs (caps.toList.map a.eval)):=by
  refine⟨by simp,by simp[hl],λi x u hx hu=>?_⟩;rw[getElem?_map]at hu;obtain⟨y,hy,rfl⟩:=Option.map_eq_some_iff.1 hu;have:=kw (id:=fid) (y:=undef) (hv i y x hy hx);rwa[mb (List.all_eq_true.1 hno x (mem_of_getElem? hx))]at this
 have h1:=h.renew fid undef (.frame vs (caps.toList.map a.eval)) (row:=none) (World.grownBy.refl w _) ah (λb hb=>by cases hb) hfr;have hrun:(execOp a.eval o).run E.P w= .ok (.value (.func (.func f) #[] (caps.toList.map a.eval).toArray)) w:=by
  simp only[execOp,ho,nH caps a.eval];simp[Instr.makeFunc]
 have hrel:cn Z w (λi=>if i=fid then undef else ρ i) (.one (.d (.x λ_ _ v=>v= .func (.func f) #[] (caps.toList.map a.eval).toArray))) (.func (.func f) #[] (caps.toList.map a.eval).toArray):=
  .one _ _ (show ca Z w (.x λ_ _ v=>v= .func (.func f) #[] (caps.toList.map a.eval).toArray) _ from .x _ _ rfl λ_ _ _ _=>rfl)
 exact jX h1 ⟨_,_,hrel,hrun,hk⟩ Q
def Ni(ob:List (Nat×AO)):List AV->List (List AD)->Prop
 |[],[]=>True
 | .one (.ref id k s off) :: r, ds :: q => And (Nat.beq (k * s + off) 0 = true) (And (aOb ob id fun o => match o with
  | .cells _ cs=>wX ob cs (· =ds)
  |_=>False) (Ni ob r q))
 |_,_=>False
theorem Jb{Z:Nat->Prop}{ρ:Nat->Value}{w:World}{ob:List (Nat×AO)}(h:WS E.W S Z w ρ ob):∀{vs:List AV} {us:List Value} {pss:List (List AD)},us.length=vs.length->(∀(i:Nat) x u,vs[i]? =some x->us[i]? =some u->cn Z w ρ x u)->Ni ob vs pss->
  us.length=pss.length/\∀(i:Nat) q cs,us[i]? =some q->pss[i]? =some cs->xv (gU Z ρ ob) w cs q
 |[],[],[],_,_,_=>⟨rfl,by simp⟩
 |[],[],_::_,_,_,hk=>hk.elim
 |[],_::_,_,hl,_,_=>by simp at hl
 |_::_,[],_,hl,_,_=>by simp at hl
 |x::r,u::us,[],_,_,hk=>by
  cases x with
  |one c=>cases c<;>exact hk.elim
  |agg cs=>exact hk.elim
  |tup vs=>exact hk.elim
 |x::r,u::us,ds::q,hl,hr,hk=>by
  have hx:=hr 0 x u rfl rfl;cases hx with
  |agg cs us hl h=>exact hk.elim
  |tup vs us hl h=>exact hk.elim
  |one c _ hx=>
   cases c with
   |ref id k s off=>
    obtain ⟨h0, h1, h2⟩ := (show And (Nat.beq (k * s + off) 0 = true) (And (aOb ob id fun o => match o with
     | .cells _ cs=>wX ob cs (· =ds)
     |_=>False) (Ni ob r q))from hk)
    have h0:=Nat.eq_of_beq_eq_true h0;obtain⟨o,ho,h1⟩:=cm h1;obtain⟨e1,e2⟩:=Jb h (vs:=r) (us:=us) (pss:=q) (by simpa using hl) (λi y v a1 a2=>hr (i+1) y v (by simpa using a1) (by simpa using a2)) h2;refine⟨by simp[e1],λi p cs hp hc=>?_⟩;cases i with
    |succ i=>exact e2 i p cs (by simpa using hp) (by simpa using hc)
    |zero=>
     simp at hp hc;subst hp hc;split at h1
     ·rename_i t cs;obtain⟨b,hb,hu⟩:=hx;obtain⟨b2,us2,hp2,hg2,hl2,hc2⟩:=(show cX Z w ρ id (.cells t cs)from h.obj id _ ho);have:b2=b:=by rw[hp2]at hb;injection hb
      subst this;obtain⟨ds2,g1,g2,rfl⟩:=wY h ⟨hl2,hc2⟩ h1;refine⟨b2,0,us2,by rw[hu,h0],.inr ⟨id,_,ho,hb⟩,g1,λi v hv=>?_,g2⟩;rw[Nat.zero_add,Lib.cell_of_heap hg2];simpa using hv
     ·exact h1.elim
   |_=>exact hk.elim
theorem Zh{st:ASt}{f g:FuncId}{args0:List AV}{K:AV->ASt->Prop}{ps0:List AP1}{pss:List (List AD)}{cs:List AV}{us:List Value}{res:AP}(fid:Nat)(hc:aL E f (ps0++[.one (.x (ClR g pss))]) res)(hps:aRs st.ob args0 (· =ps0))(hfr:aOb st.ob fid λo=>o= .frame cs us)(hcap:Ni st.ob cs pss)(hsc:res.flat=true)(hk:K res.v st):aG E S f (args0++[.one (.d (.x λ_ _ v=>v= .func (.func g) #[] us.toArray))]) st K:=by
 refine⟨hc.enter,λZ ρ a w vs hs hl hr=>?_⟩;obtain⟨o,ho,rfl⟩:=cm hfr;obtain⟨f1,f2,f3⟩:=(show cX Z w ρ fid (.frame cs us)from hs.ws.obj fid _ ho);obtain⟨c1,c2⟩:=Jb hs.ws f2 f3 hcap;have hl':vs.length=args0.length+1:=by simpa using hl
 obtain⟨v0,v1,rfl,hl0⟩:∃v0 v1,vs=v0++[v1]/\v0.length=args0.length:=by
  refine⟨vs.take args0.length,vs[args0.length]'(aa),?_,by simp;omega⟩;have:=List.take_append_drop args0.length vs;rw[List.drop_eq_getElem_cons aa,List.drop_eq_nil_of_le aa]at this;exact this.symm
 obtain⟨ps',h1,h2,rfl⟩:=gE hs.ws hl0 (λi x u hx hu=>hr i x u (by rw[getElem?_append_left (List.getElem?_eq_some_iff.1 hx).1];exact hx) (by rw[getElem?_append_left (List.getElem?_eq_some_iff.1 hu).1];exact hu)) hps;have hcl:=hr args0.length (.one (.d (.x λ_ _ v=>v= .func (.func g) #[] us.toArray))) v1 ah (by rw[<-hl0];simp);have hv1:v1= .func (.func g) #[] us.toArray:=by
  cases hcl with
  |one _ _ hx=>
   have hx:ca Z w (.x λ_ _ v=>v= .func (.func g) #[] us.toArray) v1:=hx;cases hx with
   |x _ _ h1 hR=>exact hR Z w (λ_ h=>h) λ_ _=>rfl
 refine(hc.run (gU Z ρ st.ob) w (v0++[v1]) (gU.lt hs.ws) ?_ (by simp[h1]) λi p u hp hu=>?_).mono ?_
 ·obtain⟨w1,g1,g2,g3⟩:=hs.ws.g;exact⟨w1,g1,g2,λb hb=> .inl (g3 b hb)⟩
 ·by_cases hi:i<ps'.length
  ·rw[getElem?_append_left hi]at hp;rw[getElem?_append_left aa]at hu;exact h2 i p u hp hu
  ·rw[getElem?_append_right aa]at hp;rw[getElem?_append_right aa,h1]at hu;obtain⟨k,hk2⟩:∃k,k=i-ps'.length:=⟨_,rfl⟩;rw[<-hk2]at hp hu;cases k with
   |zero=>
    simp at hp hu;subst hp hu;refine .x _ _ (by rw[hv1];rfl) λZ' w' hz hb=>⟨us,hv1,c1,λi q cs hq hcs=>(c2 i q cs hq hcs).mono hz hb⟩
   |succ k=>simp at hp
 ·rintro e w' ⟨v,Z',rfl,hb,hz,hz2,hv⟩;exact⟨v,res.v,st,Z,ρ,rfl,hs.grow (dO hb) (λ_ h=>h) (λ_ h=> .inl h),(hv.flat hsc).v,hk⟩
end
end
section
open Go.Proofs.Tryz
open Go.RowKit
def VW(tm':List AV)(ob':List (Nat×AO)):Exit->ASt->Prop
 | .normal,st=>And (EC st.tm tm') (aI st.ob ob')
 |_,_=>False
theorem ZR{E:bz}{S:bR}{x y:Code}{K:Exit->ASt->Prop}{tm:List AV}{ob:List (Nat×AO)}(ws:List Nat)(sl:List (Nat×AV))(ob':List (Nat×AO))
  (h1:Fi tm ws sl λtm'=>AWP E S x (VW tm' ob') ⟨tm,ob⟩) (h2:Fi tm ws sl λtm'=>AWP E S y K ⟨tm',ob'⟩):AWP E S x (T5 E S y K) ⟨tm,ob⟩:=by
 have g1:=pA h1;have g2:=pA h2;refine⟨λa w hs=>wp_mono (g1.run a w hs) λe a' w' h'=>?_⟩;obtain⟨st',hs',hk⟩:=h';cases e with
 |normal=>
  refine⟨⟨jW (HK tm ws) sl,ob'⟩,hs'.sub (pC hk.1) hk.2,g2⟩
 |_=>exact hk.elim
end
section
open Go.Proofs.Tryz
open Go.ChangeShapes Go.WideShapes Go.RowKit
def w9:List (List Nat):=cz [0,1,129,12354,1056835,12354,1581123,118231174,22197499363719,848970198319365,0x285108187242043,0xb0c10891c620414a,0x30a1442061c90810cb,0xb0c10891c620414a,0x38a1442061c90810cb,0xd2c304224718810528c3ce,0x2c304224718810529038f30d,0x1134c3ce40a1442061c90810cb,0x48b0c10891c620414a40e3cc351,0x1344d30f3902851081872420432d2,0x5122c304224718810529038f30d453,0x154d134c3ce40a1442061c90810cb494,0x48b0c10891c620414a40e3cc3515944d5,0x1755351644d30f3902851081872420432d2]
def xb:List (List Nat):=eK 15 [0,1,4,6331,6358,229,472,1201,3280,9841,29524,12843157,13020304,1505749,3100072]
theorem OT(b:DBook)(hl:b.entries.length<=1048576):aL av 430 [.agg b.ds] (.val (pI (o5 b))):=by
 unfold o5;cases he:b.entries.getLast? with
 |none=>
  have e:b.entries=[]:=List.getLast?_eq_none_iff.1 he;have hc:(((b.entries.map DEntry.ds).length:Int)==0)=true:=by simp[e]
  refine pO func430 call430 ntmps430 results430 λS=>?_;conv=>whnf
  repeat'(first|refine awz ?_|exact rZ|fail)
 |some x=>
  have hpos:0<b.entries.length:=by
   rcases Nat.eq_zero_or_pos b.entries.length with h|h
   ·rw[List.length_eq_zero_iff.1 h]at he;cases he
   ·exact h
  have hc:(((b.entries.map DEntry.ds).length:Int)==0)=false:=by simp only[length_map,beq_eq_false_iff_ne,ne_eq];omega
  have hx:(b.entries.map DEntry.ds)[b.entries.length-1]? =some x.ds:=by
   rw[getElem?_map,<-List.getLast?_eq_getElem?,he];rfl
  refine pO func430 call430 ntmps430 results430 λS=>?_;conv=>whnf
  repeat'((first|refine awz ?_|refine Xw (b.entries.length-1) _ am hx ?_|refine Xz am am ?_|exact rZ|fail)<;>conv=>whnf)
theorem Si(b:DBook)(e:DEntry)(hb:cF b=true):aL av 399 [.agg b.ds,.agg e.ds] (rB (mC b e)):=by
 obtain⟨h1,_,_,h4,_⟩:=du hb;have lo:=lW b hb;have ti:=OT b aa;have eo:=gd e;have hlb:bp b=b.base+b.entries.length:=rfl;refine pO func399 call399 ntmps399 results399 λS=>?_;conv=>whnf
 repeat'(first|refine awz ?_|fail)
 (refine XB aM 1 15 w9 xb ac ac ac rfl ?_;conv=>whnf)
 repeat'((first|refine awz ?_|refine cP (eo) ?_|refine cP (lo) ?_|refine cP (ti) ?_|refine Xz aa aa ?_|refine tW ?_ ?_|intro h)<;>conv=>whnf)
 all_goals
  refine bM ?_;unfold mC;simp_all<;>omega
theorem Ga(s:List DMark)(e:DEntry)(hs:cA s=true):aL av 400 [.one (.sl (s.map DMark.ds)),.agg e.ds] (uK (i9 s e)):=by
 have hl:=em hs;have so:=mG s [e] aa;have eq:bV s [e]=i9 s e:=by
  simp only[bV,hs,Bool.not_true,Bool.false_eq_true,if_false,List.length_singleton,cN,i9];cases dC s e<;>rfl
 rw[eq]at so;refine pO func400 call400 ntmps400 results400 λS=>?_;conv=>whnf
 repeat'((first|refine awz ?_|refine aG.freeze 8 308 9 [e.ds] rfl ?_|refine cP (so) ?_|exact rZ|fail)<;>conv=>whnf)
def AG(b:DBook)(s:List DMark)(r:List Int):DEntry×Bool:=match ez r with
 |none=>(Qj,false)
 |some e=>if e.index==bp b+1&&mC b e then(e,(dC s e).isSome)else(Qj,false)
theorem Q5(t:DTwo)(b:DBook)(s:List DMark)(r:List Int):jp t b s r=if(AG b s r).2 then some (AG b s r).1 else none:=by
 unfold jp AG;cases ez r with
 |none=>rfl
 |some e=>
  simp only;cases e.index==bp b+1&&mC b e<;>simp
def Ax(x:DEntry×Bool):AP:= .tup [.agg x.1.ds,.one (dB x.2)]
theorem OS(b:DBook)(s:List DMark)(r:List Int)(hb:cF b=true)(hs:cA s=true):Hh av 397 [.one (.sl (r.map eI))] [[dI (bp b+1)],b.ds,[.sl (s.map DMark.ds)]] (Ax (AG b s r)):=by
 have rs:=Mt r;unfold AG;cases e:ez r with
 |none=>
  rw[e]at rs;unfold ld at rs;unfold Ax;refine pN aM func397 rfl call397 ntmps397 (aaX results397) λS=>?_;conv=>whnf
  repeat'(first|refine awz ?_|(refine cP (rs) ?_;conv=>whnf)|exact rZ|fail)
 |some x=>
  rw[e]at rs;unfold ld at rs;have fi:=Si b x hb;have ma:=Ga s x hs;by_cases hx:x.index=bp b+1
  ·have n1:(x.index !=bp b+1)=false:=by simpa using hx
   have n2:(x.index==bp b+1)=true:=by simpa using hx
   cases hf:mC b x with
   |false=>
    rw[hf]at fi;simp only[n2,hf,Bool.and_false,Bool.false_eq_true,if_false];unfold Ax;refine pN aM func397 rfl call397 ntmps397 (aaX results397) λS=>?_;conv=>whnf
    repeat'((first|refine awz ?_|refine cP (rs) ?_|refine cP (fi) ?_|exact rZ|fail)<;>conv=>whnf)
   |true=>
    rw[hf]at fi;cases hm:dC s x with
    |none=>
     rw[Aj hm]at ma;unfold uK at ma;simp only[n2,hf,hm,Bool.true_and,if_true,Option.isSome_none,Bool.and_self];unfold Ax;refine pN aM func397 rfl call397 ntmps397 (aaX results397) λS=>?_;conv=>whnf
     repeat'((first|refine awz ?_|refine cP (rs) ?_|refine cP (fi) ?_|refine cP (ma) ?_|exact rZ|fail)<;>conv=>whnf)
    |some y=>
     rw[oS hm]at ma;unfold uK at ma;simp only[n2,hf,hm,Bool.true_and,if_true,Option.isSome_some,Bool.and_self];unfold Ax;refine pN aM func397 rfl call397 ntmps397 (aaX results397) λS=>?_;conv=>whnf
     repeat'((first|refine awz ?_|refine cP (rs) ?_|refine cP (fi) ?_|refine cP (ma) ?_|exact rZ|fail)<;>conv=>whnf)
  ·have n1:(x.index !=bp b+1)=true:=by simpa using hx
   have n2:(x.index==bp b+1)=false:=by simpa using hx
   simp only[n2,Bool.false_and,Bool.false_eq_true,if_false];unfold Ax;refine pN aM func397 rfl call397 ntmps397 (aaX results397) λS=>?_;conv=>whnf
   repeat'(first|refine awz ?_|(refine cP (rs) ?_;conv=>whnf)|exact rZ|fail)
theorem MA(t:DTwo)(a:Int)(h:eO t=true)(ha:aJ a 0 ((t.a.kept.length:Int)-1)=true)(f:FuncId)(pss:List (List AD))(g:List Int->DEntry×Bool)(hc:∀r,Hh av f [.one (.sl (r.map eI))] pss (Ax (g r))):
  aL av 396 [.agg t.ds,pI a,.one (.x (ClR f pss))] (ld ((eY t a).findSome? λr=>if(g r).2 then some (g r).1 else none)):=by
 have ra:=C0 t a h ha;have hrl:=oW t a;generalize eY t a=rows at ra hrl;refine pO func396 call396 ntmps396 results396 λS=>?_;conv=>whnf
 repeat'(first|refine awz ?_|(refine cP (ra) ?_;conv=>whnf)|fail)
 refine XA (λk:Nat=>k<=rows.length/\∀(j:Nat) (hj:j<rows.length),j<k->(g rows[j]).2=false) (7::9::10::11::rg 17 13) (λk=>[(17,vI .i64 (k:Int))]) (λk=>[(3,.cells 71 (t.ds.map .d)),(6,.cells 308 (Qj.ds.map .d))]) (λk=>rows.length-k) 0 ⟨Nat.zero_le _,λj hj h=>by omega⟩ ?_ sbW (λk hk=>?_)<;>(conv=>whnf)
 ·exact whd
 ·obtain⟨hk,hno⟩:=hk;by_cases hlt:k<rows.length
  ·have hck:decide ((k:Int)<((rows.map bD).length:Int))=true:=by simp only[decide_eq_true_eq,length_map];omega
   have hcl:=hc rows[k];unfold Ax at hcl;cases hg:(g rows[k]).2 with
   |false=>
    rw[hg]at hcl;repeat'((first|refine awz ?_|refine XK hlt ?_|refine ZG rfl rfl rfl rfl hcl ?_|refine Xz aa aa ?_|fail)<;>conv=>whnf)
    refine aT.mk ⟨k+1,⟨hlt,λj hj h=>?_⟩,aa,?_,sbW⟩
    ·rcases Nat.lt_succ_iff_lt_or_eq.1 h with h|h
     ·exact hno j hj h
     ·subst h;exact hg
    ·exact hds
   |true=>
    rw[hg]at hcl;have e:(rows.findSome? λr=>if(g r).2 then some (g r).1 else none)=some (g rows[k]).1:=by
     rw[List.findSome?_eq_some_iff];refine⟨rows.take k,rows[k],rows.drop (k+1),?_,by simp[hg],λx hx=>?_⟩
     ·rw[<-List.drop_eq_getElem_cons hlt,List.take_append_drop]
     ·obtain⟨j,hj,rfl⟩:=List.getElem_of_mem hx;have hj2:j<k:=by rw[List.length_take]at hj;omega
      rw[List.getElem_take];simp[hno j aa hj2]
    rw[e];unfold ld;repeat'((first|refine awz ?_|refine XK hlt ?_|refine ZG rfl rfl rfl rfl hcl ?_|exact rZ|fail)<;>conv=>whnf)
  ·have hck:decide ((k:Int)<((rows.map bD).length:Int))=false:=by simp only[decide_eq_false_iff_not,length_map];omega
   have e:(rows.findSome? λr=>if(g r).2 then some (g r).1 else none)=none:=by
    rw[List.findSome?_eq_none_iff];intro x hx;obtain⟨j,hj,rfl⟩:=List.getElem_of_mem hx;simp[hno j hj aa]
   rw[e];unfold ld;repeat'(first|refine awz ?_|exact rZ|fail)
end
end
section
open Go.Proofs.Tryz
open Go.ChangeShapes Go.WideShapes Go.RowKit
def pP:List (List Nat):=cz [0,0,2,194,0,5,1141387590,487563469057]
def pY:List (List Nat):=eK 6 [726,650,653,662,80,161]
def pf:List (List Nat):=cz [0,0,2,0,12420,1327235,101458181,7601135814,0,9,0,41547,3191370,0x34a24b308183084147,0x4818308414724a2cc34e,0xf38d30b2891c51020c6201]
def pj:List (List Nat):=eK 14 [4782966,1587818,1587821,1587788,1587803,1587884,1588127,1588856,124658,131219,59048,91853,269000,797162]
def pg:List (List Nat):=cz [0,0,0,0,196,20739,1108881669,486472966273]
def pk:List (List Nat):=eK 6 [726,722,62,26,44,125]
def jN:List (List Nat):=cz [0,0,0,65,67637506,347943211331,417753473094]
def NS(h:DHead):List (List Int):=(List.replicate 22 []).set (h.num % 2).toNat (fH h)
def dn(h:DHead)(b:DBook)(k:Nat):List (List Int):=(b.entries.take k).foldl (λl e=>l.set (bW e.index).toNat (bx e)) (NS h)
theorem GM(h:DHead)(b:DBook)(k:Nat):(dn h b k).length=22:=by rw[dn,um];simp[NS]
theorem cY{h:DHead}{b:DBook}{k:Nat}(hk:k<b.entries.length):dn h b (k+1)=(dn h b k).set (bW b.entries[k].index).toNat (bx b.entries[k]):=by
 have e:b.entries.take (k+1)=b.entries.take k++[b.entries[k]]:=by rw[List.take_add_one,List.getElem?_eq_getElem hk];rfl
 rw[dn,e,List.foldl_append];rfl
theorem GL(h:DHead)(b:DBook):dn h b b.entries.length=gW h b:=by rw[dn,List.take_length];rfl
def mS(h:DHead)(b:DBook)(t:DTwo)(k:Nat):DTwo:=⟨⟨nj h b t.a.kept k,[]⟩,⟨nj h b t.b.kept k,[]⟩⟩
theorem vG{h:DHead}{b:DBook}{k0:List (List Int)}(hk:k0.length=22){j:Nat}(hj:j<=22):(nj h b k0 j).length=22:=by
 have hl:=iH h b;simp[nj,hl,hk];omega
theorem Ko{h:DHead}{b:DBook}{k0:List (List Int)}(h0:∀y∈k0,ck y=true)(j:Nat):∀y∈nj h b k0 j,ck y=true:=by
 intro y hy;rcases List.mem_append.1 hy with hy|hy
 ·obtain⟨r,hr,rfl⟩:=List.mem_map.1 (List.mem_of_mem_take hy);obtain⟨h1,h2⟩:=vP h b r hr;exact ke h1 h2
 ·exact h0 y (List.mem_of_mem_drop hy)
theorem N6{h:DHead}{b:DBook}{t:DTwo}(ht:eO t=true)(h22:t.a.kept.length=22){k:Nat}(hk:k<=22):eO (mS h b t k)=true:=by
 obtain⟨f1,f2,f3⟩:=dQ ht;have l1:=vG (h:=h) (b:=b) h22 hk;have l2:=vG (h:=h) (b:=b) (k0:=t.b.kept) aa hk;refine Ew ⟨nI ⟨?_,?_,by simp[mS],Ko (cL f1).2.2.2.1 k,by simp[mS]⟩,nI ⟨?_,?_,by simp[mS],Ko (cL f2).2.2.2.1 k,by simp[mS]⟩,?_⟩<;>simp only[mS]<;>omega
theorem Hd{h:DHead}{b:DBook}{t:DTwo}(h22:t.a.kept.length=22)(h23:t.b.kept.length=22){k:Nat}(hk:k<22):dY (xt (mS h b t k) (k:Int) ((gW h b)[k]'(by rw[iH];exact hk)))=mS h b t (k+1):=by
 simp only[dY,xt,mS,OW];have e1:=Dt (h:=h) (b:=b) h22 hk;have e2:=Dt (h:=h) (b:=b) h23 hk;unfold fx at e1 e2;rw[e1,e2]
def PF:DTwo:=⟨⟨[],[]⟩,⟨[],[]⟩⟩
def T3(t:DTwo):AP:=match iU t with
 |some h=> .tup [.agg (m7 h (eC t h).1).ds,.agg h.ds,.agg (eC t h).1.ds,.one (dB true)]
 |none=> .tup [.agg PF.ds,.agg g9.ds,.agg (⟨0,0,[]⟩:DBook).ds,.one (dB false)]
theorem IA(t:DTwo)(ht:ee t=true):aL av 153 [.agg t.ds] (T3 t):=by
 have h2:eO t=true/\t.a.kept.length=22:=by simpa[ee]using ht
 have hi:=O8 t ht;unfold T3;cases eh:iU t with
 |none=>
  rw[eh]at hi;unfold wF at hi;simp only;refine pO func153 call153 ntmps153 results153 λS=>?_;conv=>whnf
  repeat'(first|refine awz ?_|(refine cP (hi) ?_;conv=>whnf)|exact rZ|fail)
 |some h=>
  rw[eh]at hi;have hi:aL av 234 [.agg t.ds] (.tup [.agg h.ds,.one (dB true)]):=hi;have ho:=p9 eh;have hf:=dy ho;have bi:=O7 t h ht ho;have gr:=(kK (t:=t) ho).ok;simp only;generalize (eC t h).1=b at bi gr;obtain⟨b1,b2,b3,b4,b5,b6⟩:=du gr;have hbl:b.entries.length<=20:=b4;have bs:=pw t h2.1;have hft:=Jy h2.1;have h22:(dY t).a.kept.length=22:=by simp[dY,eN,f9,h2.2]
  have h23:(dY t).b.kept.length=22:=by rw[<-(dQ hft).2.2];exact h22
  have htm:h.num.tmod 2=h.num % 2:=Int.tmod_eq_emod_of_nonneg aa;have hmd:0<=h.num % 2/\h.num % 2<2:=aa;refine pO func153 call153 ntmps153 results153 λS=>?_;conv=>whnf
  repeat'((first|refine awz ?_|refine cP (hi) ?_|refine cP (bi) ?_|refine cP (bs) ?_|refine⟨22,rfl,rfl,by decide,aa,?_⟩|fail)<;>conv=>whnf)
  (refine XB aM 7 6 pP pY ac ac ac rfl ?_;conv=>whnf)
  repeat'((first|refine awz ?_|refine cP (AQ h ho) ?_|refine And.intro ae ?_|refine Xw (h.num % 2).toNat [.sl []] (by rw[htm];omega) (by rw[List.getElem?_replicate,if_pos aa]) ?_|fail)<;>conv=>whnf)
  refine Xw (h.num % 2).toNat [.sl []] (by first|rfl|(rw[htm];omega)) (by rw[List.getElem?_replicate,if_pos aa]) ?_;conv=>whnf
  repeat'(first|refine awz ?_|fail)
  have E1:(List.replicate 22 [AD.sl []]).set (h.num % 2).toNat [AD.sl ((fH h).map eI)]=(dn h b 0).map bD:=by
   show _=(NS h).map bD;rw[NS,List.map_set,List.map_replicate];rfl
  refine XA (λk:Nat=>k<=b.entries.length) (11::rg 36 22) (λk=>[(11,vI .i64 (k:Int))]) (λk=>[(2,.cells 71 [.nil,.nil,.nil,.nil]),(3,.cells 74 [.d (dI 0),.d (dI 0),.d (dI 0),.nil]),(4,.cells 77 [.d (dI 0),.d (dI 0),.nil]),(6,.cells 74 (h.ds.map .d)),(8,.cells 77 (b.ds.map .d)),(9,.cells 71 ((dY t).ds.map .d)),(28,.row 62 1 ((dn h b k).map bD))]) (λk=>b.entries.length-k) 0 (Nat.zero_le _) ?_ (Xu rfl (Xu rfl (Xu rfl (Xu rfl (Xu rfl (Xu rfl (Xu (congrArg some (congrArg (AO.row 62 1) E1)) Xv))))))) (λk hk=>?_)<;>(conv=>whnf)
  ·exact whd
  ·have hrl:=GM h b k;by_cases hlt:k<b.entries.length
   ·have hc:decide ((k:Int)<((b.entries.map DEntry.ds).length:Int))=true:=by simp only[decide_eq_true_eq,List.length_map];omega
    have eok:=(kt ((iN b5).2.1 _ (List.getElem_mem hlt))).1;have sr:=mi b.entries[k].index;have E2:=cY (h:=h) hlt;repeat'(first|refine awz ?_|fail)
    (refine XB aM 11 14 pf pj ac ac ac rfl ?_;conv=>whnf)
    repeat'((first|refine awz ?_|refine XK hlt ?_|refine cP (zw _ eok) ?_|refine cP (D4 b.entries[k]) ?_|refine AIx.int aa aa ?_|refine Xz aa aa ?_|fail)<;>conv=>whnf)
    refine aT.mk ⟨k+1,hlt,aa,?_,Xu rfl (Xu rfl (Xu rfl (Xu rfl (Xu rfl (Xu rfl (Xu (by rw[E2,List.map_set];rfl) Xv))))))⟩;exact hds
   ·have e:k=b.entries.length:=aa;subst e;have hc:decide ((b.entries.length:Int)<((b.entries.map DEntry.ds).length:Int))=false:=ah;rw[GL];repeat'(first|refine awz ?_|fail)
    have e0:mS h b (dY t) 0=dY t:=by simp only[mS,Du];rfl
    refine XA (λk:Nat=>k<=22) (12::rg 58 11) (λk=>[(12,vI .i64 (k:Int))]) (λk=>[(2,.cells 71 [.nil,.nil,.nil,.nil]),(3,.cells 74 [.d (dI 0),.d (dI 0),.d (dI 0),.nil]),(4,.cells 77 [.d (dI 0),.d (dI 0),.nil]),(6,.cells 74 (h.ds.map .d)),(8,.cells 77 (b.ds.map .d)),(9,.cells 71 ((mS h b (dY t) k).ds.map .d)),(28,.row 62 1 ((gW h b).map bD))]) (λk=>22-k) 0 (Nat.zero_le _) ?_ (Xu rfl (Xu rfl (Xu rfl (Xu rfl (Xu rfl (Xu (by rw[e0];rfl) sbW)))))) (λk hk=>?_)<;>(conv=>whnf)
    ·exact whd
    ·have hrl:=iH h b;by_cases hlt:k<22
     ·have hc:decide ((k:Int)<22)=true:=by simp only[decide_eq_true_eq];omega
      have hlk:k<(gW h b).length:=aa;have rk:=vP h b _ (List.getElem_mem hlk);have t1:=vG (h:=h) (b:=b) h22 hk;have md:=KW (mS h b (dY t) k) (k:Int) (gW h b)[k] (N6 hft h22 hk) (by simp[mS]) (by simp[mS]) (by simp only[mS,t1,aJ,Bool.and_eq_true,decide_eq_true_eq];omega) rk.1 rk.2;rw[Hd h22 h23 hlt]at md;repeat'(first|refine awz ?_|fail)
      (refine XB aM 15 6 pg pk ac ac ac rfl ?_;conv=>whnf)
      repeat'((first|refine awz ?_|refine XK hlk ?_|refine cP (md) ?_|refine Xz aa aa ?_|fail)<;>conv=>whnf)
      refine aT.mk ⟨k+1,hlt,aa,?_,sbW⟩;exact hds
     ·have e:k=22:=aa;subst e;have hc:decide (((22:Nat):Int)<22)=false:=ae;have e1:mS h b (dY t) 22=m7 h b:=by simp only[mS,vF h22,vF h23];rfl
      rw[e1];repeat'(first|refine awz ?_|fail)
      (refine XF aM 16 (tkc [0,1,2] (onc [3,4,5] (.take 6 .done))) [(6,9980),(8,9981),(9,9982)] jN ac ac ac ac (λRz=>?_);(conv=>whnf);intro bp0 up0;(conv=>whnf);intro bp1 up1;(conv=>whnf);intro bp2 up2;(conv=>whnf))
      repeat'(first|refine awz ?_|exact rZ|fail)
def tP:List (List Nat):=cz [0,1,0,3,258,0,6,0,0,0x9205103081148,0xa2481c61440c204a1c9]
def mt:List (List Nat):=cz [0,0,2,0,803009,5,6,6,0,0x91c61440c20451c9,0x289207185103081288]
theorem OU{b:DBook}(h:cF b=true):0<=bp b/\bp b<=2000:=by
 obtain⟨h1,_,_,h4,h5,_⟩:=du h;have hlb:bp b=b.base+b.entries.length:=rfl;cases he:b.entries.getLast? with
 |none=>
  have e:b.entries=[]:=List.getLast?_eq_none_iff.1 he;rw[e]at hlb;simp at hlb;omega
 |some x=>
  have:=Ja h he;have:=(kt ((iN h5).2.1 x (List.mem_of_getLast? he))).1;omega
theorem OQ(t:DTwo)(h:DHead)(ht:ee t=true)(hh:di h=true):cg av 342 [.agg t.ds,.agg h.ds] (.agg (eC t h).1.ds):=by
 have hs:=(dy hh).2.2.2.2.1;have hl:=em hs;have h2:eO t=true/\t.a.kept.length=22:=by simpa[ee]using ht
 have ko:=nL t;rw[ht]at ko;have ho:=lS h aa;rw[hh]at ho;refine lO aM func342 rfl call342 ntmps342 (aaX results342) λS=>?_;conv=>whnf
 repeat'((first|refine awz ?_|refine cP (ko) ?_|refine cP (ho) ?_|fail)<;>conv=>whnf)
 refine ZR [5,6,19,20,21,22,23,24,25] [(5,.one (.ref 5 0 0 0)),(6,.one (.ref 6 0 0 0))] [(9997,cS S.w0.heap.size S.w0.heap.size),(2,.cells 71 (t.ds.map .d)),(4,.cells 77 [.d (dI 0),.d (dI 0),.nil]),(5,.cells 77 [.d (dI h.base),.d (dI h.time),.nil]),(6,.cells 72 [.d (.sl (h.seen.map DMark.ds))])] ?_ ?_<;>(conv=>whnf)
 ·(refine XF aM 3 (tkc [0,1,2,3,5,6] (.three 4 (.two 7 (onc [8,9,10] .done) 8 (onc [7,9,10] .done)) 7 (.two 4 (onc [8,9,10] .done) 8 (onc [4,9,10] .done)) 8 (.two 4 (onc [7,9,10] .done) 7 (onc [4,9,10] .done)))) [(3,9980)] tP ac ac ac ac (λRz=>?_);(conv=>whnf);intro bp0 up0;(conv=>whnf))
  repeat'(first|refine awz ?_|(exact And.intro whd sbW)|refine tW ?_ ?_|fail)
 refine Yc 5 2 950 308 9 ae ?_;conv=>whnf
 repeat'(first|refine awz ?_|fail)
 refine XA (λg:Nat×DBook×List DMark=>na h g.2.1 g.2.2/\20<g.2.1.entries.length+g.1/\jk t g.1 g.2.1 g.2.2=eC t h) (7::8::9::rg 26 26) (λg=>[]) (λg=>[(9997,cS S.w0.heap.size S.w0.heap.size),(2,.cells 71 (t.ds.map .d)),(4,.cells 77 [.d (dI 0),.d (dI 0),.nil]),(5,.cells 77 [.d (dI g.2.1.base),.d (dI g.2.1.time),.own 950]),(6,.cells 72 [.d (.sl (g.2.2.map DMark.ds))]),(950,.row 308 9 (g.2.1.entries.map DEntry.ds))]) (λg=>g.1) (21,wl h,h.seen) ⟨YP hh,by simp[wl],rfl⟩ ?_ sbW (λg hg=>?_)<;>(conv=>whnf)
 ·exact whd
 ·obtain⟨n,b,s⟩:=g;obtain⟨g1,g2,g3⟩:=hg;simp only at g1 g2 g3;obtain⟨b1,_,_,b4,_⟩:=du g1.ok;have hlb:bp b=b.base+b.entries.length:=rfl;have hidx:0<=bp b+1/\bp b+1<=2001:=by have:=OU g1.ok;omega
  have hsr:=mi (bp b+1);have lo:=lW b g1.ok;have so:=Gh (bp b+1) hidx;have fi:=MA t (bW (bp b+1)) h2.1 (by rw[h2.2];simp[aJ];omega) 397 [[dI (bp b+1)],b.ds,[.sl (s.map DMark.ds)]] (AG b s) (λr=>OS b s r g1.ok g1.seen);have efi:((eY t (bW (bp b+1))).findSome? λr=>if(AG b s r).2 then some (AG b s r).1 else none)=j8 t b s:=by
   rw[j8];congr 1;funext r;exact(Q5 t b s r).symm
  rw[efi]at fi;cases e:j8 t b s with
  |none=>
   rw[e]at fi;unfold ld at fi;rw[Cv e]at g3;rw[<-g3];repeat'((first|refine awz ?_|refine aG.scalar lo rfl rfl ?_|refine Xz aa aa ?_|fail)<;>conv=>whnf)
   (refine XF aM 5 (.take 0 (.three 1 (.three 2 (.two 3 (.two 4 (tkc [5,6,7] (.one 8 (.one 9 (.take 10 .done)))) 8 (.one 4 (tkc [5,6,7] (.one 9 (.take 10 .done))))) 8 (.one 3 (.one 4 (tkc [5,6,7] (.one 9 (.take 10 .done)))))) 3 (.two 2 (.two 4 (tkc [5,6,7] (.one 8 (.one 9 (.take 10 .done)))) 8 (.one 4 (tkc [5,6,7] (.one 9 (.take 10 .done))))) 8 (.one 2 (.one 4 (tkc [5,6,7] (.one 9 (.take 10 .done)))))) 8 (.two 2 (.one 3 (.one 4 (tkc [5,6,7] (.one 9 (.take 10 .done))))) 3 (.one 2 (.one 4 (tkc [5,6,7] (.one 9 (.take 10 .done))))))) 3 (.two 1 (.two 2 (.two 4 (tkc [5,6,7] (.one 8 (.one 9 (.take 10 .done)))) 8 (.one 4 (tkc [5,6,7] (.one 9 (.take 10 .done))))) 8 (.one 2 (.one 4 (tkc [5,6,7] (.one 9 (.take 10 .done)))))) 8 (onc [1,2,4] (tkc [5,6,7] (.one 9 (.take 10 .done))))) 8 (.two 1 (.two 2 (.one 3 (.one 4 (tkc [5,6,7] (.one 9 (.take 10 .done))))) 3 (.one 2 (.one 4 (tkc [5,6,7] (.one 9 (.take 10 .done)))))) 3 (onc [1,2,4] (tkc [5,6,7] (.one 9 (.take 10 .done))))))) [(2,9980)] mt ac ac ac ac (λRz=>?_);(conv=>whnf);intro bp0 up0;(conv=>whnf))
   repeat'((first|refine awz ?_|refine cP (so) ?_|refine aaj 960 rfl rfl rfl λus=>?_|refine Zh 960 (args0:=[_,_]) (ps0:=[.agg t.ds,pI (bW (bp b+1))]) fi rfl rfl ⟨rfl,rfl,rfl,rfl,rfl,rfl,trivial⟩ rfl ?_|refine tW ?_ ?_|fail)<;>conv=>whnf)
   all_goals exact⟨alW,_,_,Nat.le_refl _,XD (hi:=0) (by simp only[List.all_cons,List.all_append];rw[nv (xs:=b.entries.map DEntry.ds) bls];rfl)⟩
  |some x=>
   rw[e]at fi;unfold ld at fi;obtain⟨x1,x2,x3,x4⟩:=nA e;have sm:=Ga s x g1.seen;rw[oS x4]at sm;unfold uK at sm;have hlen:b.entries.length<20:=by
    simp only[mC,Bool.and_eq_true,decide_eq_true_eq]at x3;exact x3.2
   obtain⟨m,rfl⟩:∃m,n=m+1:=⟨n-1,aa⟩;have g3':jk t m (tO b x) (putMark s x.mark)=eC t h:=by
    rw[<-g3];simp[jk,e]
   have gg:=g1.add x3 x4;repeat'((first|refine awz ?_|refine aG.scalar lo rfl rfl ?_|refine Xz aa aa ?_|fail)<;>conv=>whnf)
   (refine XF aM 5 (.take 0 (.three 1 (.three 2 (.two 3 (.two 4 (tkc [5,6,7] (.one 8 (.one 9 (.take 10 .done)))) 8 (.one 4 (tkc [5,6,7] (.one 9 (.take 10 .done))))) 8 (.one 3 (.one 4 (tkc [5,6,7] (.one 9 (.take 10 .done)))))) 3 (.two 2 (.two 4 (tkc [5,6,7] (.one 8 (.one 9 (.take 10 .done)))) 8 (.one 4 (tkc [5,6,7] (.one 9 (.take 10 .done))))) 8 (.one 2 (.one 4 (tkc [5,6,7] (.one 9 (.take 10 .done)))))) 8 (.two 2 (.one 3 (.one 4 (tkc [5,6,7] (.one 9 (.take 10 .done))))) 3 (.one 2 (.one 4 (tkc [5,6,7] (.one 9 (.take 10 .done))))))) 3 (.two 1 (.two 2 (.two 4 (tkc [5,6,7] (.one 8 (.one 9 (.take 10 .done)))) 8 (.one 4 (tkc [5,6,7] (.one 9 (.take 10 .done))))) 8 (.one 2 (.one 4 (tkc [5,6,7] (.one 9 (.take 10 .done)))))) 8 (onc [1,2,4] (tkc [5,6,7] (.one 9 (.take 10 .done))))) 8 (.two 1 (.two 2 (.one 3 (.one 4 (tkc [5,6,7] (.one 9 (.take 10 .done))))) 3 (.one 2 (.one 4 (tkc [5,6,7] (.one 9 (.take 10 .done)))))) 3 (onc [1,2,4] (tkc [5,6,7] (.one 9 (.take 10 .done))))))) [(2,9980)] mt ac ac ac ac (λRz=>?_);(conv=>whnf);intro bp0 up0;(conv=>whnf))
   repeat'((first|refine awz ?_|refine cP (so) ?_|refine aaj 960 rfl rfl rfl λus=>?_|refine Zh 960 (args0:=[_,_]) (ps0:=[.agg t.ds,pI (bW (bp b+1))]) fi rfl rfl ⟨rfl,rfl,rfl,rfl,rfl,rfl,trivial⟩ rfl ?_|refine cP (sm) ?_|refine bc ak ?_|refine tW ?_ ?_|fail)<;>conv=>whnf)
   all_goals
    refine aT.mk ⟨(m,tO b x,putMark s x.mark),⟨gg,by simp[tO]at g2⊢;omega,g3'⟩,Nat.lt_succ_self _,?_,Xu rfl (Xu rfl (Xu rfl (Xu rfl (Xu rfl (Xu (by simp[tO,bo];rfl) Xv)))))⟩;exact hds
theorem yo(a b c d:AD):aL av 393 [.agg [a,b,c,d]] (.val (.agg [a,b,c,d])):=by
 refine pO func393 call393 ntmps393 results393 λS=>?_;conv=>whnf
 repeat'((first|refine awz ?_|refine je.at 0 rfl ae ?_|refine je.at 1 rfl ae ?_|exact rZ|fail)<;>conv=>whnf)
theorem wz(t:DTwo)(h:eO t=true):cg av 340 [.agg t.ds] (.agg (dY t).ds):=by
 obtain⟨f1,f2,f3⟩:=dQ h;have tk:=om t;rw[h]at tk;refine lO aM func340 rfl call340 ntmps340 (aaX results340) λS=>?_;conv=>whnf
 repeat'((first|refine awz ?_|refine cP (tk) ?_|refine cP (dp t) ?_|fail)<;>conv=>whnf)
 refine X7 3 ?_;conv=>whnf
 repeat'((first|refine awz ?_|refine XQ rfl rfl 0 ae rfl ?_|refine XQ rfl rfl 1 ae rfl ?_|refine je.at 0 rfl ae ?_|refine X9 (zf t.a f1) rfl rfl λR1 l1 e1 a1 b1 F1=>?_|refine Xz ae ae ?_|fail)<;>conv=>whnf)
 repeat'((first|refine awz ?_|refine je.at 1 rfl ae ?_|refine X9 (zf t.b f2) rfl rfl λR2 l2 e2 a2 b2 F2=>?_|refine cP (yo _ _ _ _) ?_|refine Xz ae ae ?_|fail)<;>conv=>whnf)
 exact⟨l1,e2,a1,(F1.app F2 (.inl a2) ⟨Nat.le_refl _,aa⟩ ⟨aa,Nat.le_refl _⟩).fam⟩
theorem yc(k1 k2:List (List Int))(a:Int)(r:List Int)(h:eO ⟨⟨k1,[]⟩,⟨k2,[]⟩⟩=true)(ha:aJ a 0 ((k1.length:Int)-1)=true)(hr:ck r=true)(hl:r.length<48):aL av 403 [.agg (⟨⟨k1,[]⟩,⟨k2,[]⟩⟩:DTwo).ds,pI a,.one (.sl (r.map eI))] (.tup [.agg (xt ⟨⟨k1,[]⟩,⟨k2,[]⟩⟩ a r).ds,.one (dB true)]):=by
 obtain⟨f1,f2,f3⟩:=dQ h;simp only at f1 f2 f3;have tk:=om ⟨⟨k1,[]⟩,⟨k2,[]⟩⟩;rw[h]at tk;have hs:=ke hr hl;have c1:=JP k1 a _ f1 ha hs;have c2:=JP k2 a _ f2 (by rw[<-f3];exact ha) hs;have c0:=C6 r hr hl;obtain⟨y,z,ys,e⟩:∃y z ys,(r++[kF r]).map eI=(y::z)::ys:=by
  cases r with
  |nil=>exact⟨_,_,_,rfl⟩
  |cons y ys=>exact⟨_,_,_,rfl⟩
 rw[e]at c0 c1 c2;refine pO func403 call403 ntmps403 results403 λS=>?_;conv=>whnf
 repeat'((first|refine awz ?_|refine cP (tk) ?_|refine cP (c0) ?_|refine aal (E:=av) false rfl underlying62 (show Ts _ false from .inr (.inr ⟨_,_,_,rfl,rfl⟩)) ?_|refine cP (dp ⟨⟨k1,[]⟩,⟨k2,[]⟩⟩) ?_|fail)<;>conv=>whnf)
 skip
 refine X7 3 ?_;conv=>whnf
 repeat'((first|refine awz ?_|refine XQ rfl rfl 0 ae rfl ?_|refine XQ rfl rfl 1 ae rfl ?_|refine je.at 0 rfl ae ?_|refine je.at 1 rfl ae ?_|refine cP (c1) ?_|refine cP (c2) ?_|refine cP (yo _ _ _ _) ?_|refine Xz ae ae ?_|exact rZ|fail)<;>conv=>whnf)
theorem JJ(k1 k2:List (List Int))(a:Int)(r:List Int)(h:eO ⟨⟨k1,[]⟩,⟨k2,[]⟩⟩=true)(ha:aJ a 0 ((k1.length:Int)-1)=true)(hr:ck r=true)(hl:r.length<48):cg av 346 [.agg (⟨⟨k1,[]⟩,⟨k2,[]⟩⟩:DTwo).ds,pI a,.one (.sl (r.map eI))] (.agg (Tw ⟨⟨k1,[]⟩,⟨k2,[]⟩⟩ a r).ds):=by
 have hw:=Hg h ah ah ha hr hl;refine lO aM func346 rfl call346 ntmps346 (aaX results346) λS=>?_;conv=>whnf
 repeat'((first|refine awz ?_|refine cP (yc k1 k2 a r h ha hr hl) ?_|refine X9 (wz _ hw) rfl rfl λR1 l1 e1 a1 b1 F1=>?_|fail)<;>conv=>whnf)
 exact⟨l1,e1,a1,F1.fam⟩
def Uk(i:Nat)(x y:AV)(st:ASt)(K:ASt->Prop):Prop:=(aTm st.tm i λz=>z=x)/\eA st (some i) y K
theorem Qe{E:bz}{S:bR}{i:Nat}{x y:AV}(ha:AsV x y){st:ASt}{K:ASt->Prop}{a:Act}{w:World}(hs:eS E.W S st a w)(hk:Uk i x y st K):∃st',eS E.W S st' a w/\K st':=by
 obtain⟨hi,h⟩:=hk;have h:=eT h;obtain⟨x0,hx,rfl⟩:=iX hi;refine⟨_,?_,h⟩;obtain⟨Z,ρ,hs⟩:=hs;refine⟨Z,ρ,hs.ws,?_,λj z v hz hv=>?_,hs.df⟩
 ·simp[EO,hs.len]
 ·simp only[EO,List.getElem?_set]at hz;split at hz
  ·rename_i e;subst e;split at hz
   ·injection hz with hz
    subst hz;exact ha _ _ _ _ (hs.tm i x0 v hx hv)
   ·cases hz
  ·exact hs.tm j z v hz hv
def Ns(E:bz)(S:bR)(all:List Oper)(i:Nat)(x y:AV):Nat->List Oper->ASt->(ASt->Prop)->Prop
 |0,ops,st,K=>Uk i x y st λst=>sM E S all ops st K
 |_+1,[],st,K=>K st
 |n+1,o::r,st,K=>wU all o st (λst=>aop E S o st λst=>Ns E S all i x y n r st K) (λst=>eA st o.dst (.one .und) λst=>Ns E S all i x y n r st K)
theorem tR{E:bz}{S:bR}{K:ASt->Prop}(he:E.Ok){all:List Oper}{i:Nat}{x y:AV}(ha:AsV x y){Q:Exit->Act->World->Prop}(hQ:∀a w,(∃st',eS E.W S st' a w/\K st')->Q .normal a w):
  ∀(n:Nat) (ops:List Oper) (st:ASt) (a:Act) (w:World),eS E.W S st a w->Ns E S all i x y n ops st K->wpList E.P all.toArray Q ops a w
 |0,ops,st,a,w,h,hk=>by
  obtain⟨st',h1,h2⟩:=Qe ha h hk;exact nX he hQ ops st' a w h1 h2
 |n+1,[],st,a,w,h,hk=>hQ a w ⟨st,h,hk⟩
 |n+1,o::r,st,a,w,⟨Z,ρ,h⟩,hk=>by
  unfold wpList;rcases jg h hk with⟨hw,st',hs,hk⟩|⟨hw,st',hs,hk⟩
  ·rw[if_pos hw];refine .inl (Oper.wp_mono (λa' w' h'=>?_) (nG he hs hk Q));obtain⟨st2,h2,hk2⟩:=h';exact tR he ha hQ n r st2 a' w' h2 hk2
  ·rw[if_neg (by simp[hw])];have:=hs.put o.dst (x:= .one .und) (v:=undef) (.one _ _ (show dN Z w ρ .und undef from rfl));exact tR he ha hQ n r _ _ w ⟨Z,ρ,this⟩ (eT hk)
theorem ZS{E:bz}{S:bR}{K:Exit->ASt->Prop}{st:ASt}(he:E.Ok)(n i:Nat)(x y:AV)(ha:AsV x y){rid:Nat}{ops:Array Oper}(h:Ns E S ops.toList i x y n ops.toList st (K .normal)):AWP E S (.region rid ops false) K st:=by
 refine⟨λa w hs=>wp_region_list ?_⟩;have:=tR he (all:=ops.toList) ha (Q:=λe a' w'=>∃st',eS E.W S st' a' w'/\K e st') (λa w h=>h) n ops.toList st a w hs h;simpa using this
theorem JF{t:DTwo}(ht:eO t=true)(h22:t.a.kept.length=22):iU (dY t)=iU t:=by
 unfold iU;rw[rL ht aa aa,rL ht aa aa]
theorem Kv{t:DTwo}(ht:eO t=true)(h22:t.a.kept.length=22)(b:DBook)(s:List DMark):j8 (dY t) b s=j8 t b s:=by
 unfold j8;have:=mi (bp b+1);rw[rL ht aa aa];rfl
theorem zM{t:DTwo}(ht:eO t=true)(h22:t.a.kept.length=22):∀(n:Nat) (b:DBook) (s:List DMark),jk (dY t) n b s=jk t n b s
 |0,_,_=>rfl
 |n+1,b,s=>by
  rw[jk,jk,Kv ht h22];cases j8 t b s with
  |none=>rfl
  |some e=>exact zM ht h22 n _ _
theorem I9{t:DTwo}(ht:eO t=true)(h22:t.a.kept.length=22)(h:DHead):eC (dY t) h=eC t h:=zM ht h22 _ _ _
def dH(r:List Int):AD:= .x λZ w u=>ca Z w (Bj r) u
theorem SG(r:List Int):AsD (dH r) (Bj r):=λZ w u h=>by
 unfold dH at h;cases h with
 |x _ _ h1 hR=>exact hR Z w (λ_ h=>h) λ_ _=>rfl
theorem eV(r:List Int):AsD (Bj r) (dH r):=λZ w u h=> .x _ _ h.one λZ' w' hz hb=>h.mono hz hb
theorem QP{Z:Nat->Prop}{w:World}{ρ:Nat->Value}{u:Value}(h:dN Z w ρ .nil u):dN Z w ρ (.d (dH [])) u:=by
 have h:u= .slice none 0 0:=h;subst h;exact eV [] Z w _ (show ca Z w (.sl []) (.slice none 0 0)from .sl [] none 0 0 [] (Nat.le_refl _) (Nat.zero_le _) rfl ah ah (.inl rfl) ah)
def bI(L:List (List Int)):List AC:=[.d (dH (L.getD 0 [])),.d (dH (L.getD 1 [])),.d (dH (L.getD 2 [])),.d (dH (L.getD 3 [])),.d (dH (L.getD 4 [])),.d (dH (L.getD 5 [])),.d (dH (L.getD 6 [])),.d (dH (L.getD 7 [])),.d (dH (L.getD 8 [])),.d (dH (L.getD 9 [])),.d (dH (L.getD 10 [])),.d (dH (L.getD 11 [])),.d (dH (L.getD 12 [])),.d (dH (L.getD 13 [])),.d (dH (L.getD 14 [])),.d (dH (L.getD 15 [])),.d (dH (L.getD 16 [])),.d (dH (L.getD 17 [])),.d (dH (L.getD 18 [])),.d (dH (L.getD 19 [])),.d (dH (L.getD 20 [])),.d (dH (L.getD 21 []))]
theorem qU{L:List (List Int)}(h:L.length=22):bI L=L.map λr=> .d (dH r):=by
 rw[show bI L=(List.range 22).map (λi=>AC.d (dH (L.getD i [])))from rfl];refine List.ext_getElem (by simp[h]) λi h1 h2=>?_;have hi:i<L.length:=by simpa using h2
 rw[List.getElem_map,List.getElem_map,List.getElem_range,List.getD_eq_getElem?_getD,List.getElem?_eq_getElem hi];rfl
theorem cG{L:List (List Int)}(h:L.length=22)(j:Nat)(r:List Int):(bI L).set j (.d (dH r))=bI (L.set j r):=by
 rw[qU h,qU (by simpa using h),List.map_set]
section
variable {E:bz} {S:bR}
theorem ZQ{f:FuncId}{args:List AV}{st:ASt}{K K':AV->ASt->Prop}(h:aG E S f args st K')(hm:∀r st,K' r st->∃r',AsV r r'/\K r' st):aG E S f args st K:=by
 refine⟨h.enter,λZ ρ a w us hs hl hu=>(h.run Z ρ a w us hs hl hu).mono ?_⟩;rintro e w' ⟨v,r,st',Z',ρ',h1,h2,h3,h4⟩;obtain⟨r',h5,h6⟩:=hm r st' h4;exact⟨v,r',st',Z',ρ',h1,h2,h5 _ _ _ _ h3,h6⟩
theorem XS{f:FuncId}{args:List AV}{st:ASt}{K:AV->ASt->Prop}{ps:List AP1}{res:AP}(hc:aL E f ps res)(hps:aPs args (· =ps))(y:AV)(hy:AsV res.v y)(hk:K y st):aG E S f args st K:=
 ZQ (K':=λr st'=>r=res.v/\st'=st) (Xt hc hps ⟨rfl,rfl⟩) (by rintro r st ⟨rfl,rfl⟩;exact⟨y,hy,hk⟩)
theorem aaL{c:Code}{K:Exit->ASt->Prop}{tm:List AV}{ob:List (Nat×AO)}(id:Nat)(t:TypeId)(cs cs':List AC)(hl2:cs'.length=cs.length)(hcs:∀(i:Nat) x y,cs[i]? =some x->cs'[i]? =some y->∀(Z:Nat->Prop) (w:World) (ρ:Nat->Value) (u:Value),dN Z w ρ x u->dN Z w ρ y u)(ho:aOb ob id λo=>o= .cells t cs)(h:fW id (.cells t cs') ob λob=>AWP E S c K ⟨tm,ob⟩):AWP E S c K ⟨tm,ob⟩:=by
 obtain⟨o,hob,rfl⟩:=cm ho;have h:=dh (K:=λob=>AWP E S c K ⟨tm,ob⟩) h;refine⟨λa w hs=>h.run a w ?_⟩;obtain⟨Z,ρ,hs⟩:=hs;obtain⟨b,us,hp,hg,hl,hc⟩:=(show cX Z w ρ id (.cells t cs)from hs.ws.obj id _ hob);refine⟨Z,ρ,hs.upd id (.cells t cs) (.cells t cs') (g:=b) hob (by rw[hp];rfl) (World.grownBy.refl w _) ⟨b,us,hp,hg,aa,λi y u hy hu=>?_⟩⟩;have hi:i<cs.length:=by rw[<-hl2];exact(List.getElem?_eq_some_iff.1 hy).1
 exact hcs i _ y (List.getElem?_eq_getElem hi) hy Z w ρ u (hc i _ u (List.getElem?_eq_getElem hi) hu)
end
theorem T1(i:Nat)(x y:AC)(hx:(List.replicate 22 AC.nil)[i]? =some x)(hy:(bI (List.replicate 22 []))[i]? =some y)(Z:Nat->Prop)(w:World)(ρ:Nat->Value)(u:Value)(h:dN Z w ρ x u):dN Z w ρ y u:=by
 rw[qU ah,List.map_replicate,List.getElem?_replicate]at hy;rw[List.getElem?_replicate]at hx;split at hx
 ·rename_i hi;rw[if_pos hi]at hy;injection hx with hx
  injection hy with hy
  subst hx hy;exact QP h
 ·cases hx
theorem QW(w:World)(xs:Array Value)(k:Nat)(v:Value)(h:xs[k]? =some v):(part 62 xs k).run Tryz.prog w= .ok v w:=by
 simp[part,isAgg62,h]
theorem Z4{S:bR}{st:ASt}{o:Oper}{x i:Operand}{K:ASt->Prop}{cs:List AC}(ho:o.op= .index 373 x i)(hx:aEv st x λy=>y= .agg cs)(hl:cs.length=22)(k:Nat)(hk2:k<22)(hi:aEv st i λy=>y=vI .i64 (k:Int)){c:AC}(hc:cs[k]? =some c)(hk:eA st o.dst (.one c) K):AOp av S o st K:=by
 refine .reads λZ ρ act w hs=>?_;obtain⟨u,hu,rfl⟩:=bq hs hx;obtain⟨z,hz,rfl⟩:=bq hs hi;have e2:=cM hz;generalize he:act.eval x=ux at hu;cases hu with
 |agg _ us hul hr=>
  have hlt:k<us.length:=aa;refine⟨.one c,us[k],.one _ _ (hr k c us[k] hc (List.getElem?_eq_getElem hlt)),?_,hk⟩;have hp:=QW w us.toArray k us[k] (by simp[hlt]);have hk3:(0:Int)<=(k:Int)/\(k:Int)<22:=aa;simp[execOp,ho,he,e2,Instr.index,asIntOf,av,run_underlying underlying373,sizeOf62,hk2,hp]
theorem M6{i:Int}:(bW i).toNat=2\/(bW i).toNat=3\/(bW i).toNat=4\/(bW i).toNat=5\/(bW i).toNat=6\/(bW i).toNat=7\/(bW i).toNat=8\/(bW i).toNat=9\/(bW i).toNat=10\/(bW i).toNat=11\/(bW i).toNat=12\/(bW i).toNat=13\/(bW i).toNat=14\/(bW i).toNat=15\/(bW i).toNat=16\/(bW i).toNat=17\/(bW i).toNat=18\/(bW i).toNat=19\/(bW i).toNat=20\/(bW i).toNat=21:=by
 have:=mi i;omega
end
end Go.Proofs.YtpdmakdpnejnfaaGreat
