/- Text1 -/
import Derived.Test.YtnlhpdbijmnkhaaGreatDoorShelf
import Derived.Test.YtnlhpdbijmnkhaaGreatDoorJ20
import Derived.Test.YtnlhpdbijmnkhaaGreatDoorJ01
import Derived.Lib.AppendIntMem
import Derived.Lib.SmallJoins
import Derived.Lib.ItoaLen
import Derived.OpenShut
import Derived.Laws.BytesArg
import Derived.Lib.ItoaMem
set_option linter.unusedVariables false
set_option linter.unusedSimpArgs false
set_option maxRecDepth 100000
namespace Go.Proofs.YtnlhpdbijmnkhaaGreatDoor
open Go.Proofs.Tryz
open Go.ChangeShapes Go.WideShapes Go.RowKit
def Tab(w:World):Prop:=Lib.TabIs Tryz.prog w (Rows.fnScriptsRow.named.getD 0 "") .u64 Lib.pow10Tab
theorem Tab.below{w w':World}(h:Tab w)(hb:Below w.heap.size w w'):Tab w':=
 Lib.TabBelow.here (B:=w'.heap.size) λw2 hb2=>(Lib.tabBelow_of_tabIs h) w2 (hb.trans (hb2.mono hb.size))
theorem yT{w w':World}(k:Nat)(os:Array Obj)(h:w'=Go.Sort.grow (w.drewN k) os):Below w.heap.size w w':=by
 subst h;exact Lib.below_grow _ w (Nat.le_refl _) k os
def Bm(l:List UInt8)(w:World)(e:Ending)(w':World):Prop:=e= .returned (.string ⟨l.toArray⟩)/\Below w.heap.size w w'
set_option maxHeartbeats 400000 in
theorem q8(n:Int)(w:World)(h0: -9223372036854775808<=n)(h1:n<=9223372036854775807)(ht:Tab w):Calls Tryz.prog 38 #[.int .i64 n] w (Bm (Lib.itoa n) w):=by
 have hc:=Tryz.strconv_FormatInt_10 n h0 h1 w ht
 have HC:=Lib.hid hc
 clear hc h0 h1 ht
 go_enter Tryz.func38,Tryz.ntmps38
 go_wp2_with fail
 refine HC.out.mono ?_
 rintro e w1 ⟨rfl,k,os,hw⟩
 have hb:=yT k os hw
 clear hw HC
 go_wp2_with fail
 go_ret
 exact⟨rfl,hb⟩
theorem pu{T e:TypeId}{B b:Nat}{bs:List Value}{w w':World}(h:Lib.IsBuilder T e B b bs w)(hb:Below w.heap.size w w'):Lib.IsBuilder T e B b bs w':=by
 have aux:∀p,Lib.BuilderAt T e B b p bs w->Lib.BuilderAt T e B b p bs w':=by
  rintro p h
  have hlt:=h.lt
  obtain⟨hB,v,hk,ho,hne⟩:=h
  refine⟨hB,v,(hb.block b hlt).trans hk,⟨ho.1,?_⟩,hne⟩
  rcases ho.2 with h|⟨g,cap,cur,hv,hbg,hg,r⟩
  ·exact .inl h
  ·exact .inr ⟨g,cap,cur,hv,hbg,(hb.block g (Array.getElem?_eq_some_iff.1 hg).1).trans hg,r⟩
 exact h.elim (λx=> .inl (aux _ x)) (λx=> .inr (aux _ x))
theorem sP(w:World)(T e:TypeId):Lib.IsBuilder T e w.heap.size w.heap.size [] (w.alloc (.cells #[.pointer none,.slice none 0 0] T)):=
 .inl ⟨Nat.le_refl _,.slice none 0 0,heap_alloc_new w _,World.ownsRow_nil _ _ _ _,by simp[Value.ownBlock]⟩
theorem D2(a b:List UInt8):((⟨a.toArray⟩:ByteArray)++(⟨b.toArray⟩:ByteArray))=⟨(a++b).toArray⟩:=by
 apply ByteArray.ext
 rw[ByteArray.data_append]
 simp
theorem CY(a:List UInt8):(⟨a.toArray⟩:ByteArray).size=a.length:=by simp[ByteArray.size]
def aD(l:List Int):List UInt8:=l.flatMap λx=>32::Lib.itoa x
theorem ax(l:List Int)(h:∀x∈l,(Lit.int .i64 x).wf=true):(aD l).length<=22*l.length:=by
 induction l with
 |nil=>simp[aD]
 |cons a r ih=>
  have h1:=bounds_i64 (h a Iy)
  have h2:=Lib.itoa_length_le a h1.1 h1.2
  have h3:=ih λx hx=>h x (by simp[hx])
  have e:aD (a::r)=32::Lib.itoa a++aD r:=rfl
  rw[e]
  simp only[List.cons_append,List.length_cons,List.length_append]
  omega
set_option maxHeartbeats 1000000 in
theorem sQ(l:List Int)(A:Option Addr)(n cap:Nat)(F:List Nat)(w:World)(h:(Rep.sl (Rep.int .i64)).rd w [.slice A n cap] l F)(ht:Tab w)(hl:l.length<=1000):
  Calls Tryz.prog 21 #[.slice A n cap] w (Bm (aD l) w):=by
 obtain⟨rfl,hcl,hcm,xs,F1,hr,ha,_⟩:=Rep.sl_open h
 obtain⟨rfl,rfl,hwf⟩:=q7 ha
 clear h ha
 have hT:=Lib.hid ht
 clear ht
 go_enter Tryz.func21,Tryz.ntmps21
 go_wp2
 go_loopw [5,8] (λ_ i wr=>∃k:Nat,k<=l.length/\i= .int .i64 k/\Lib.IsBuilder 91 5 w.heap.size w.heap.size (Lib.byteCells (aD (l.take k))) wr/\Below w.heap.size w wr) (λ_ i _=>l.length-(intOf i).toNat)
 case atStart=>exact⟨0,Nat.zero_le _,rfl,sP w _ _,(by repeat (first|with_reducible exact Below.refl _ _|with_reducible assumption|(with_reducible refine Below.drew ?_)|(with_reducible refine Below.alloc ?_ (by first|with_reducible exact Nat.le_refl _|omega|(simp;done)|(simp;omega)|(simp[World.setCell];omega)|(simp[World.setCell];done)) _)|(with_reducible refine Below.setCell ?_ (by first|with_reducible exact Nat.le_refl _|omega|(simp;done)|(simp;omega)|(simp[World.setCell];omega)|(simp[World.setCell];done)) _)))⟩
 case round=>
  obtain⟨k,hk,rfl,hbd,hb⟩:=hrel
  by_cases hlt:k<l.length
  ·obtain⟨b,off,rfl,hc⟩:=(hr.below hb).at_ (k:=k) (by simpa using hlt)
   simp only[List.getElem_map]at hc
   have hwk:=bounds_i64 (hwf l[k] (List.getElem_mem hlt))
   have hlen:=ax (l.take k) (λx hx=>hwf x (List.mem_of_mem_take hx))
   have hlen2:(l.take k).length<=k:=List.length_take_le _ _
   have hil:=Lib.itoa_length_le l[k] hwk.1 hwk.2
   clear hr hwf
   go_wp2_with fail
   refine(q8 l[k] _ hwk.1 hwk.2 (hT.out.below hb)).mono ?_
   rintro e W1 ⟨rfl,hb1⟩
   have hbd1:=pu hbd hb1
   have hbW:=hb.trans (hb1.mono hb.size)
   clear hbd hc hb1
   go_wp2_with fail
   have e1:((⟨#[32]⟩:ByteArray)++(⟨(Lib.itoa l[k]).toArray⟩:ByteArray))=⟨((32:UInt8)::Lib.itoa l[k]).toArray⟩:=D2 [32] _
   have e2:aD (l.take (k+1))=aD (l.take k)++(32::Lib.itoa l[k]):=by unfold aD;rw[sY hlt,List.flatMap_append];simp only[List.flatMap_cons,List.flatMap_nil,List.append_nil]
   rw[e1]
   refine(nU w.heap.size w.heap.size _ _ _ hbd1 ?_ hbW.size).mono ?_
   ·rw[Lib.byteCells_length,CY,List.length_cons]
    omega
   rintro e W2 ⟨rfl,hbd2,hb2⟩
   have hbd3:Lib.IsBuilder 91 5 w.heap.size w.heap.size (Lib.byteCells (aD (l.take (k+1)))) W2:=by
    rw[e2,Lib.byteCells_append,<-Lib.strCells_toArray (32::Lib.itoa l[k])]
    exact .inr hbd2
   have hbX:=hbW.trans hb2
   clear hbd1 hbd2 hb2 hbW e1 e2 hlen hil hb
   go_wp2_with fail
   exact⟨⟨k+1,by omega,by go_num,hbd3,hbX⟩,by simp[intOf];omega⟩
  ·have e:k=l.length:=by omega
   subst e
   rw[List.take_length]at hbd
   clear hr hwf
   go_wp2_with fail
   refine(Tryz.Builder_String_any w.heap.size w.heap.size _ _ hbd hb.size).mono ?_
   rintro e W1 ⟨rfl,hb1⟩
   have hbW:=hb.trans hb1
   clear hbd hb1 hb
   go_wp2_with fail
   go_ret
   exact⟨rfl,hbW⟩
def cS(by_:List UInt8):List (List UInt8)->List UInt8
 |[]=>[]
 |[a]=>a
 |a::b::r=>a++(by_++cS by_ (b::r))
end Go.Proofs.YtnlhpdbijmnkhaaGreatDoor
