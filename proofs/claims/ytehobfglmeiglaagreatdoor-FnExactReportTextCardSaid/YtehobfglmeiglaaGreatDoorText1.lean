/- Text1 -/
import Derived.Test.YtehobfglmeiglaaGreatDoorShelf
import Derived.Test.YtehobfglmeiglaaGreatDoorJ20
import Derived.Test.YtehobfglmeiglaaGreatDoorJ01
import Derived.Lib.AppendIntMem
import Derived.Lib.SmallJoins
import Derived.Lib.ItoaLen
import Derived.OpenShut
import Derived.Laws.BytesArg
import Derived.Lib.ItoaMem
set_option linter.unusedVariables false
set_option linter.unusedSimpArgs false
set_option maxRecDepth 100000
namespace Go.Proofs.YtehobfglmeiglaaGreatDoor
open Go.Proofs.Tryz
open Go.ChangeShapes Go.WideShapes Go.RowKit
def Tab(w:World):Prop:=Lib.TabIs Tryz.prog w (Rows.fnExactReportTextRow.named.getD 0 "") .u64 Lib.pow10Tab
theorem Tab.below{w w':World}(h:Tab w)(hb:Below w.heap.size w w'):Tab w':=
 Lib.TabBelow.here (B:=w'.heap.size) λw2 hb2=>(Lib.tabBelow_of_tabIs h) w2 (hb.trans (hb2.mono hb.size))
theorem Bp{w w':World}(k:Nat)(os:Array Obj)(h:w'=Go.Sort.grow (w.drewN k) os):Below w.heap.size w w':=by
 subst h;exact Lib.below_grow _ w (Nat.le_refl _) k os
def Ak(l:List UInt8)(w:World)(e:Ending)(w':World):Prop:=e= .returned (.string ⟨l.toArray⟩)/\Below w.heap.size w w'
set_option maxHeartbeats 400000 in
theorem tp(n:Int)(w:World)(h0: -9223372036854775808<=n)(h1:n<=9223372036854775807)(ht:Tab w):Calls Tryz.prog 95 #[.int .i64 n] w (Ak (Lib.itoa n) w):=by
 have hc:=Tryz.strconv_FormatInt_10 n h0 h1 w ht
 have HC:=Lib.hid hc
 clear hc h0 h1 ht
 go_enter Tryz.func95,Tryz.ntmps95
 go_wp2_with fail
 refine HC.out.mono ?_
 rintro e w1 ⟨rfl,k,os,hw⟩
 have hb:=Bp k os hw
 clear hw HC
 go_wp2_with fail
 go_ret
 exact⟨rfl,hb⟩
theorem rG{T e:TypeId}{B b:Nat}{bs:List Value}{w w':World}(h:Lib.IsBuilder T e B b bs w)(hb:Below w.heap.size w w'):Lib.IsBuilder T e B b bs w':=by
 have aux:∀p,Lib.BuilderAt T e B b p bs w->Lib.BuilderAt T e B b p bs w':=by
  rintro p h
  have hlt:=h.lt
  obtain⟨hB,v,hk,ho,hne⟩:=h
  refine⟨hB,v,(hb.block b hlt).trans hk,⟨ho.1,?_⟩,hne⟩
  rcases ho.2 with h|⟨g,cap,cur,hv,hbg,hg,r⟩
  ·exact .inl h
  ·exact .inr ⟨g,cap,cur,hv,hbg,(hb.block g (Array.getElem?_eq_some_iff.1 hg).1).trans hg,r⟩
 exact h.elim (λx=> .inl (aux _ x)) (λx=> .inr (aux _ x))
theorem uJ(w:World)(T e:TypeId):Lib.IsBuilder T e w.heap.size w.heap.size [] (w.alloc (.cells #[.pointer none,.slice none 0 0] T)):=
 .inl ⟨Nat.le_refl _,.slice none 0 0,heap_alloc_new w _,World.ownsRow_nil _ _ _ _,by simp[Value.ownBlock]⟩
theorem ny(a b:List UInt8):((⟨a.toArray⟩:ByteArray)++(⟨b.toArray⟩:ByteArray))=⟨(a++b).toArray⟩:=by
 apply ByteArray.ext
 rw[ByteArray.data_append]
 simp
theorem jm(a:List UInt8):(⟨a.toArray⟩:ByteArray).size=a.length:=by simp[ByteArray.size]
def bK(l:List Int):List UInt8:=l.flatMap λx=>32::Lib.itoa x
theorem ik(l:List Int)(h:∀x∈l,(Lit.int .i64 x).wf=true):(bK l).length<=22*l.length:=by
 induction l with
 |nil=>simp[bK]
 |cons a r ih=>
  have h1:=bounds_i64 (h a Mr)
  have h2:=Lib.itoa_length_le a h1.1 h1.2
  have h3:=ih λx hx=>h x (by simp[hx])
  have e:bK (a::r)=32::Lib.itoa a++bK r:=rfl
  rw[e]
  simp only[List.cons_append,List.length_cons,List.length_append]
  omega
set_option maxHeartbeats 1000000 in
theorem uK(l:List Int)(A:Option Addr)(n cap:Nat)(F:List Nat)(w:World)(h:(Rep.sl (Rep.int .i64)).rd w [.slice A n cap] l F)(ht:Tab w)(hl:l.length<=1000):
  Calls Tryz.prog 35 #[.slice A n cap] w (Ak (bK l) w):=by
 obtain⟨rfl,hcl,hcm,xs,F1,hr,ha,_⟩:=Rep.sl_open h
 obtain⟨rfl,rfl,hwf⟩:=tn ha
 clear h ha
 have hT:=Lib.hid ht
 clear ht
 go_enter Tryz.func35,Tryz.ntmps35
 go_wp2
 go_loopw [5,8] (λ_ i wr=>∃k:Nat,k<=l.length/\i= .int .i64 k/\Lib.IsBuilder 133 5 w.heap.size w.heap.size (Lib.byteCells (bK (l.take k))) wr/\Below w.heap.size w wr) (λ_ i _=>l.length-(intOf i).toNat)
 case atStart=>exact⟨0,Nat.zero_le _,rfl,uJ w _ _,(by repeat (first|with_reducible exact Below.refl _ _|with_reducible assumption|(with_reducible refine Below.drew ?_)|(with_reducible refine Below.alloc ?_ (by first|with_reducible exact Nat.le_refl _|omega|(simp;done)|(simp;omega)|(simp[World.setCell];omega)|(simp[World.setCell];done)) _)|(with_reducible refine Below.setCell ?_ (by first|with_reducible exact Nat.le_refl _|omega|(simp;done)|(simp;omega)|(simp[World.setCell];omega)|(simp[World.setCell];done)) _)))⟩
 case round=>
  obtain⟨k,hk,rfl,hbd,hb⟩:=hrel
  by_cases hlt:k<l.length
  ·obtain⟨b,off,rfl,hc⟩:=(hr.below hb).at_ (k:=k) (by simpa using hlt)
   simp only[List.getElem_map]at hc
   have hwk:=bounds_i64 (hwf l[k] (List.getElem_mem hlt))
   have hlen:=ik (l.take k) (λx hx=>hwf x (List.mem_of_mem_take hx))
   have hlen2:(l.take k).length<=k:=List.length_take_le _ _
   have hil:=Lib.itoa_length_le l[k] hwk.1 hwk.2
   clear hr hwf
   go_wp2_with fail
   refine(tp l[k] _ hwk.1 hwk.2 (hT.out.below hb)).mono ?_
   rintro e W1 ⟨rfl,hb1⟩
   have hbd1:=rG hbd hb1
   have hbW:=hb.trans (hb1.mono hb.size)
   clear hbd hc hb1
   go_wp2_with fail
   have e1:((⟨#[32]⟩:ByteArray)++(⟨(Lib.itoa l[k]).toArray⟩:ByteArray))=⟨((32:UInt8)::Lib.itoa l[k]).toArray⟩:=ny [32] _
   have e2:bK (l.take (k+1))=bK (l.take k)++(32::Lib.itoa l[k]):=by unfold bK;rw[iz hlt,List.flatMap_append];simp only[List.flatMap_cons,List.flatMap_nil,List.append_nil]
   rw[e1]
   refine(p5 w.heap.size w.heap.size _ _ _ hbd1 ?_ hbW.size).mono ?_
   ·rw[Lib.byteCells_length,jm,List.length_cons]
    omega
   rintro e W2 ⟨rfl,hbd2,hb2⟩
   have hbd3:Lib.IsBuilder 133 5 w.heap.size w.heap.size (Lib.byteCells (bK (l.take (k+1)))) W2:=by
    rw[e2,Lib.byteCells_append,<-Lib.strCells_toArray (32::Lib.itoa l[k])]
    exact .inr hbd2
   have hbX:=hbW.trans hb2
   clear hbd1 hbd2 hb2 hbW e1 e2 hlen hil hb
   go_wp2_with fail
   exact⟨⟨k+1,by omega,by go_num,hbd3,hbX⟩,by simp[intOf];omega⟩
  ·have e:k=l.length:=by omega
   subst e
   rw[List.take_length]at hbd
   clear hr hwf
   go_wp2_with fail
   refine(Tryz.Builder_String_any w.heap.size w.heap.size _ _ hbd hb.size).mono ?_
   rintro e W1 ⟨rfl,hb1⟩
   have hbW:=hb.trans hb1
   clear hbd hb1 hb
   go_wp2_with fail
   go_ret
   exact⟨rfl,hbW⟩
theorem vz(n:Nat):(if n/10=0 then []else Lib.decDigits (n/10))++[UInt8.ofNat (48+n % 10)]=Lib.decDigits n:=by
 by_cases h:n<10
 ·rw[if_pos Mo,Lib.decDigits_one h,Nat.mod_eq_of_lt h];rfl
 ·rw[if_neg Mo]
  conv=>rhs;rw[Lib.decDigits,dif_neg h]
theorem Dk{P:Program}{src e dst:TypeId}(hs:P.underlying src=some (.slice e))(he:P.underlying e=some (.int .u8))(hd:P.underlying dst=some .string)(W:World)(x:Int):
  (convert src dst (.slice (some ⟨W.heap.size,0,none⟩) 1 1)).run P (W.alloc (.cells #[.int .u8 x] e))= .ok (.string ⟨#[UInt8.ofNat x.toNat]⟩) (W.alloc (.cells #[.int .u8 x] e)):=by
 refine run_convert_bytes_arg _ src e hs he W.heap.size 0 1 1 [x] rfl (λi hi=>?_) dst hd
 have:i=0:=by omega
 subst this
 rw[cell_of_row _ W.heap.size (0+0) _ _ _ (heap_alloc_new W _)]
 rfl
def Aj(n0 n:Nat)(s:List UInt8):Prop:=(s=[]/\n=n0)\/(s≠ []/\Lib.decDigits n0=(if n=0 then []else Lib.decDigits n)++s)
set_option maxHeartbeats 1000000 in
theorem xK(n0:Nat)(w:World)(h1:n0<=1000000000000):Calls Tryz.prog 134 #[.int .i64 n0] w (Ak (Lib.decDigits n0) w):=by
 have hneg:¬(n0:Int)<0:=by omega
 go_enter Tryz.func134,Tryz.ntmps134
 go_wp2
 go_loopw [0,3,5] (λn s _ wr=>∃(m:Nat) (l:List UInt8),m<=n0/\n= .int .i64 m/\s= .string ⟨l.toArray⟩/\Aj n0 m l/\Below w.heap.size w wr) (λn s _ _=>2*(intOf n).toNat+(match s with| .string b=>if b.size=0 then 1 else 0|_=>0))
 case atStart=>exact⟨n0,[],Nat.le_refl _,rfl,rfl,.inl ⟨rfl,rfl⟩,Below.refl _ _⟩
 case round=>
  obtain⟨m,l,hm,rfl,rfl,hinv,hb⟩:=hrel
  have hcv:=λx:Int=>Dk (P:=Tryz.prog) underlying131 underlying5 underlying9 wr x
  have hz:=hb.size
  have hd:(48:UInt8)+UInt8.ofNat (m % 10)=UInt8.ofNat (48+m % 10):=by rw[UInt8.ofNat_add];rfl
  rcases l with _|⟨x,r⟩
  ·have hmn:m=n0:=by
    rcases hinv with⟨_,h⟩|⟨h,_⟩
    ·exact h
    ·exact absurd rfl h
   have hinv':Aj n0 (m/10) [48+UInt8.ofNat (m % 10)]:=by
    rw[hd,<-hmn]
    exact .inr ⟨by simp,(vz m).symm⟩
   have he:((⟨#[48+UInt8.ofNat (m % 10)]⟩:ByteArray)++(⟨#[]⟩:ByteArray))=⟨[48+UInt8.ofNat (m % 10)].toArray⟩:=ny [48+UInt8.ofNat (m % 10)] []
   have HE:=Lib.hid he
   have HN:=Lib.hid hmn
   clear he hd hinv hmn
   go_wp2
   refine⟨⟨m/10,[48+UInt8.ofNat (m % 10)],by omega,by go_num,by rw[HE.out],hinv',(by repeat (first|with_reducible exact Below.refl _ _|with_reducible assumption|(with_reducible refine Below.drew ?_)|(with_reducible refine Below.alloc ?_ (by first|with_reducible exact Nat.le_refl _|omega|(simp;done)|(simp;omega)|(simp[World.setCell];omega)|(simp[World.setCell];done)) _)|(with_reducible refine Below.setCell ?_ (by first|with_reducible exact Nat.le_refl _|omega|(simp;done)|(simp;omega)|(simp[World.setCell];omega)|(simp[World.setCell];done)) _)))⟩,?_⟩
   rw[HE.out]
   simp[intOf,jm]
   omega
  ·by_cases hm0:m=0
   ·have e:x::r=Lib.decDigits n0:=by
     rcases hinv with⟨h,_⟩|⟨_,h⟩
     ·cases h
     ·rw[h,if_pos hm0];rfl
    have HE:=Lib.hid e
    have h0:((m:Int) !=0)=false:=by simp[hm0]
    clear e hinv hm0 hd
    go_wp2
    go_ret
    exact⟨by rw[<-HE.out];rfl,hb⟩
   ·have h0:((m:Int) !=0)=true:=by simp[hm0]
    have hi:Lib.decDigits n0=Lib.decDigits m++(x::r):=by
     rcases hinv with⟨h,_⟩|⟨_,h⟩
     ·cases h
     ·rw[h,if_neg hm0]
    have hl:r.length<=30:=by
     have h1:=congrArg List.length hi
     have h2:=Lib.itoa_length_le (n0:Int) Mo Mo
     rw[Lib.itoa_nonneg]at h2
     simp only[List.length_append,List.length_cons]at h1
     omega
    have hinv':Aj n0 (m/10) ((48+UInt8.ofNat (m % 10))::x::r):=by
     rw[hd]
     refine .inr ⟨by simp,?_⟩
     rw[hi,<-vz m]
     simp
    have he:((⟨#[48+UInt8.ofNat (m % 10)]⟩:ByteArray)++(⟨(x::r).toArray⟩:ByteArray))=⟨((48+UInt8.ofNat (m % 10))::x::r).toArray⟩:=ny [48+UInt8.ofNat (m % 10)] (x::r)
    have HE:=Lib.hid he
    have hs:=jm (x::r)
    have hs2:(⟨(x::r).toArray⟩:ByteArray).size<=40:=by rw[hs];simp;omega
    have hm1:m/10<m:=by omega
    clear he hd hinv hi hm0 hs
    go_wp2
    refine⟨⟨m/10,(48+UInt8.ofNat (m % 10))::x::r,by omega,by go_num,by rw[HE.out],hinv',(by repeat (first|with_reducible exact Below.refl _ _|with_reducible assumption|(with_reducible refine Below.drew ?_)|(with_reducible refine Below.alloc ?_ (by first|with_reducible exact Nat.le_refl _|omega|(simp;done)|(simp;omega)|(simp[World.setCell];omega)|(simp[World.setCell];done)) _)|(with_reducible refine Below.setCell ?_ (by first|with_reducible exact Nat.le_refl _|omega|(simp;done)|(simp;omega)|(simp[World.setCell];omega)|(simp[World.setCell];done)) _)))⟩,?_⟩
    rw[HE.out]
    simp[intOf,jm]
    omega
def bi(by_:List UInt8):List (List UInt8)->List UInt8
 |[]=>[]
 |[a]=>a
 |a::b::r=>a++(by_++bi by_ (b::r))
theorem rz(by_:List UInt8):∀(l:List (List UInt8)) (a:List UInt8),l≠ []->bi by_ (l++[a])=bi by_ l++(by_++a)
 |[],a,h=>absurd rfl h
 |[b],a,_=>rfl
 |b::c::r,a,_=>by
  have:=rz by_ (c::r) a Mr
  simp only[List.cons_append,bi]at this⊢
  rw[this]
  simp[List.append_assoc]
def xL(l:List (List UInt8)):List Value:=l.map λs=>Value.string ⟨s.toArray⟩
theorem uG(by_:List UInt8):∀(l:List (List UInt8)) (k:Nat),(bi by_ (l.take k)).length<=(bi by_ l).length
 |[],k=>by simp[bi]
 |[a],0=>by simp[bi]
 |[a],k+1=>by simp[bi]
 |a::b::r,0=>by simp[bi]
 |a::b::r,1=>by simp[bi]
 |a::b::r,k+2=>by
  have:=uG by_ (b::r) (k+1)
  simp only[List.take_succ_cons,bi,List.length_append]at this⊢
  omega
set_option maxHeartbeats 1000000 in
theorem ul(l:List (List UInt8))(by_:List UInt8)(A:Option Addr)(n c:Nat)(w:World)(hrow:Row w A (xL l))(hn:n=l.length)(hl:l.length<=100000000)(hlen:(bi by_ l).length<=1000000000)(hby:by_.length<=1000):
  Calls Tryz.prog 135 #[.slice A n c,.string ⟨by_.toArray⟩] w λe w'=>e= .returned (.string ⟨(bi by_ l).toArray⟩)/\w=w':=by
 subst hn
 go_enter Tryz.func135,Tryz.ntmps135
 go_wp2
 go_loop [5,6] (λs i=>∃k:Nat,k<=l.length/\i= .int .i64 k/\s= .string ⟨(bi by_ (l.take k)).toArray⟩) (λ_ i=>l.length-(intOf i).toNat)
 case atStart=>exact⟨0,Nat.zero_le _,rfl,rfl⟩
 case round=>
  obtain⟨k,hk,rfl,rfl⟩:=hrel
  by_cases hlt:k<l.length
  ·obtain⟨b,off,rfl,hc⟩:=hrow.at_ (k:=k) (by simpa[xL]using hlt)
   simp only[xL,List.getElem_map]at hc
   have hb1:=uG by_ l (k+1)
   clear hrow
   rcases k with _|k
   ·have e:(⟨(bi by_ (l.take 0)).toArray⟩:ByteArray)++⟨l[0].toArray⟩=⟨(bi by_ (l.take (0+1))).toArray⟩:=by
     rw[iz hlt,ny];rfl
    have ez:(⟨(bi by_ (l.take 0)).toArray⟩:ByteArray).size+(⟨l[0].toArray⟩:ByteArray).size<=1000000000:=by
     rw[<-ByteArray.size_append,e,jm];omega
    have E:=Lib.hid e
    clear e hb1
    generalize hx:(⟨(bi by_ (l.take 0)).toArray⟩:ByteArray)=x at*
    have HX:=Lib.hid hx
    clear hx
    simp only[Nat.add_zero]at hc
    go_wp2
    refine⟨⟨1,by omega,rfl,?_⟩,?_⟩
    ·rw[<-HX.out]at E;rw[<-HX.out,E.out]
    ·simp only[intOf];omega
   ·have hzz:l.take (k+1)≠ []:=by
     intro h
     have h2:(l.take (k+1)).length=0:=by rw[h];rfl
     rw[List.length_take]at h2
     omega
    have e:((⟨(bi by_ (l.take (k+1))).toArray⟩:ByteArray)++⟨by_.toArray⟩)++⟨l[k+1].toArray⟩=⟨(bi by_ (l.take (k+1+1))).toArray⟩:=by
     rw[iz hlt,rz _ _ _ hzz,ny,ny,List.append_assoc]
    have ez:(⟨(bi by_ (l.take (k+1))).toArray⟩:ByteArray).size+(⟨by_.toArray⟩:ByteArray).size+(⟨l[k+1].toArray⟩:ByteArray).size<=1000000000:=by
     rw[<-ByteArray.size_append,<-ByteArray.size_append,e,jm];omega
    have ey:((⟨(bi by_ (l.take (k+1))).toArray⟩:ByteArray)++(⟨by_.toArray⟩:ByteArray)).size+(⟨l[k+1].toArray⟩:ByteArray).size<=1000000000:=by
     rw[ByteArray.size_append];exact ez
    have E:=Lib.hid e
    have hz:0<k+1:=by omega
    clear e hb1
    generalize (⟨(bi by_ (l.take (k+1))).toArray⟩:ByteArray)=x at*
    go_wp2
    refine⟨⟨k+2,by omega,by go_num,?_⟩,?_⟩
    ·rw[E.out]
    ·simp only[intOf];omega
  ·have e:k=l.length:=by omega
   subst e
   have E:=Lib.hid (show l.take l.length=l from List.take_length)
   clear hrow
   go_wp2
   go_ret
   exact⟨rfl,rfl⟩
end Go.Proofs.YtehobfglmeiglaaGreatDoor
