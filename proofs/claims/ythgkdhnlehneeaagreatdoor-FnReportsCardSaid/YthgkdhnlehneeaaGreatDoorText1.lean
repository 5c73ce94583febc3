/- Text1 -/
import Derived.Test.YthgkdhnlehneeaaGreatDoorShelf
import Derived.Test.YthgkdhnlehneeaaGreatDoorBuilder
import Derived.Test.YthgkdhnlehneeaaGreatDoorNum
import Derived.Test.YthgkdhnlehneeaaGreatDoorTypes
import Derived.Lib.AppendIntMem
import Derived.Lib.SmallJoins
import Derived.Lib.ItoaLen
import Derived.OpenShut
import Derived.Laws.BytesArg
import Derived.Lib.ItoaMem
import Derived.Test.YthgkdhnlehneeaaGreatDoorAvJ3
import Derived.Test.YthgkdhnlehneeaaGreatDoorRows
set_option maxHeartbeats 8000000
set_option linter.unusedVariables false
set_option linter.unusedSimpArgs false
set_option maxRecDepth 100000
namespace Go.Proofs.YthgkdhnlehneeaaGreatDoor
section
open Go.Proofs.Tryz
open Go.ChangeShapes Go.WideShapes Go.RowKit
variable {e:TypeId}{w w':World}
def Tab(w:World):Prop:=Lib.TabIs Tryz.prog w (Rows.fnReportsRow.named.getD 0 "") .u64 Lib.pow10Tab
theorem Tab.below(h:Tab w)(hb:Below w.heap.size w w'):Tab w':=
 Lib.TabBelow.here (B:=w'.heap.size) λw2 hb2=>(Lib.tabBelow_of_tabIs h) w2 (hb.trans (hb2.mono hb.size))
theorem Oy(k:Nat)(os:Array Obj)(h:w'=Go.Sort.grow (w.drewN k) os):Below w.heap.size w w':=by
 subst h;exact Lib.below_grow _ w (Nat.le_refl _) k os
def Nx(l:List UInt8)(w:World)(e:Ending)(w':World):Prop:=e= .returned (.string ⟨l.toArray⟩)/\Below w.heap.size w w'
theorem E5(n:Int)(w:World)(h0: -9223372036854775808<=n)(h1:n<=9223372036854775807)(ht:Tab w):Calls Tryz.prog 90 #[.int .i64 n] w (Nx (Lib.itoa n) w):=by
 have hc:=Tryz.strconv_FormatInt_10 n h0 h1 w ht;have HC:=Lib.hid hc;clear hc h0 h1 ht;go_enter Tryz.func90,Tryz.ntmps90
 go_wp2_with fail
 refine HC.out.mono ?_;rintro e w1 ⟨rfl,k,os,hw⟩;have hb:=Oy k os hw;clear hw HC;go_wp2_with fail
 go_ret
 exact⟨rfl,hb⟩
theorem De{T:TypeId}{B b:Nat}{bs:List Value}(h:Lib.IsBuilder T e B b bs w)(hb:Below w.heap.size w w'):Lib.IsBuilder T e B b bs w':=by
 have aux:∀p,Lib.BuilderAt T e B b p bs w->Lib.BuilderAt T e B b p bs w':=by
  rintro p h;have hlt:=h.lt;obtain⟨hB,v,hk,ho,hne⟩:=h;refine⟨hB,v,(hb.block b hlt).trans hk,⟨ho.1,?_⟩,hne⟩;rcases ho.2 with h|⟨g,cap,cur,hv,hbg,hg,r⟩
  ·exact .inl h
  ·exact .inr ⟨g,cap,cur,hv,hbg,(hb.block g (Array.getElem?_eq_some_iff.1 hg).1).trans hg,r⟩
 exact h.elim (λx=> .inl (aux _ x)) (λx=> .inr (aux _ x))
theorem GL(w:World)(T e:TypeId):Lib.IsBuilder T e w.heap.size w.heap.size [] (w.alloc (.cells #[.pointer none,.slice none 0 0] T)):=
 .inl ⟨Nat.le_refl _,.slice none 0 0,heap_alloc_new w _,World.ownsRow_nil _ _ _ _,by simp[Value.ownBlock]⟩
theorem xm(a b:List UInt8):((⟨a.toArray⟩:ByteArray)++(⟨b.toArray⟩:ByteArray))=⟨(a++b).toArray⟩:=by
 apply ByteArray.ext;rw[ByteArray.data_append];simp
theorem qH(a:List UInt8):(⟨a.toArray⟩:ByteArray).size=a.length:=by simp[ByteArray.size]
def dx(l:List Int):List UInt8:=l.flatMap λx=>32::Lib.itoa x
theorem oX(l:List Int)(h:∀x∈l,(Lit.int .i64 x).wf=true):(dx l).length<=22*l.length:=by
 induction l with
 |nil=>simp[dx]
 |cons a r ih=>
  have h1:=bounds_i64 (h a (by simp));have h2:=Lib.itoa_length_le a h1.1 h1.2;have h3:=ih λx hx=>h x (by simp[hx]);have e:dx (a::r)=32::Lib.itoa a++dx r:=rfl;rw[e];simp only[List.cons_append,List.length_cons,List.length_append];omega
theorem GM(l:List Int)(A:Option Addr)(n cap:Nat)(F:List Nat)(w:World)(h:(Rep.sl (Rep.int .i64)).rd w [.slice A n cap] l F)(ht:Tab w)(hl:l.length<=1000):
  Calls Tryz.prog 25 #[.slice A n cap] w (Nx (dx l) w):=by
 obtain⟨rfl,hcl,hcm,xs,F1,hr,ha,_⟩:=abZ h;obtain⟨rfl,rfl,hwf⟩:=E4 ha;clear h ha;have hT:=Lib.hid ht;clear ht;go_enter Tryz.func25,Tryz.ntmps25
 go_wp2
 go_loopw [5,8] (λ_ i wr=>∃k:Nat,k<=l.length/\i= .int .i64 k/\Lib.IsBuilder 97 5 w.heap.size w.heap.size (Lib.byteCells (dx (l.take k))) wr/\Below w.heap.size w wr) (λ_ i _=>l.length-(intOf i).toNat)
 case atStart=>exact⟨0,Nat.zero_le _,rfl,GL w _ _,(by repeat (first|with_reducible exact Below.refl _ _|with_reducible assumption|(with_reducible refine Below.drew ?_)|(with_reducible refine Below.alloc ?_ (by first|with_reducible exact Nat.le_refl _|omega|(simp;done)|(simp;omega)|(simp[World.setCell];omega)|(simp[World.setCell];done)) _)|(with_reducible refine Below.setCell ?_ (by first|with_reducible exact Nat.le_refl _|omega|(simp;done)|(simp;omega)|(simp[World.setCell];omega)|(simp[World.setCell];done)) _)))⟩
 case round=>
  obtain⟨k,hk,rfl,hbd,hb⟩:=hrel;by_cases hlt:k<l.length
  ·obtain⟨b,off,rfl,hc⟩:=(hr.below hb).at_ (k:=k) (by simpa using hlt);simp only[List.getElem_map]at hc;have hwk:=bounds_i64 (hwf l[k] (List.getElem_mem hlt));have hlen:=oX (l.take k) (λx hx=>hwf x (List.mem_of_mem_take hx));have hlen2:(l.take k).length<=k:=List.length_take_le _ _;have hil:=Lib.itoa_length_le l[k] hwk.1 hwk.2;clear hr hwf;go_wp2_with fail
   refine(E5 l[k] _ hwk.1 hwk.2 (hT.out.below hb)).mono ?_;rintro e W1 ⟨rfl,hb1⟩;have hbd1:=De hbd hb1;have hbW:=hb.trans (hb1.mono hb.size);clear hbd hc hb1;go_wp2_with fail
   have e1:((⟨#[32]⟩:ByteArray)++(⟨(Lib.itoa l[k]).toArray⟩:ByteArray))=⟨((32:UInt8)::Lib.itoa l[k]).toArray⟩:=xm [32] _;have e2:dx (l.take (k+1))=dx (l.take k)++(32::Lib.itoa l[k]):=by unfold dx;rw[px hlt,List.flatMap_append];simp only[List.flatMap_cons,List.flatMap_nil,List.append_nil]
   rw[e1];refine(A3 w.heap.size w.heap.size _ _ _ hbd1 ?_ hbW.size).mono ?_
   ·rw[Lib.byteCells_length,qH,List.length_cons];omega
   rintro e W2 ⟨rfl,hbd2,hb2⟩;have hbd3:Lib.IsBuilder 97 5 w.heap.size w.heap.size (Lib.byteCells (dx (l.take (k+1)))) W2:=by
    rw[e2,Lib.byteCells_append,<-Lib.strCells_toArray (32::Lib.itoa l[k])];exact .inr hbd2
   have hbX:=hbW.trans hb2;clear hbd1 hbd2 hb2 hbW e1 e2 hlen hil hb;go_wp2_with fail
   exact⟨⟨k+1,by omega,by go_num,hbd3,hbX⟩,by simp[intOf];omega⟩
  ·have e:k=l.length:=by omega
   subst e;rw[List.take_length]at hbd;clear hr hwf;go_wp2_with fail
   refine(Tryz.Builder_String_any w.heap.size w.heap.size _ _ hbd hb.size).mono ?_;rintro e W1 ⟨rfl,hb1⟩;have hbW:=hb.trans hb1;clear hbd hb1 hb;go_wp2_with fail
   go_ret
   exact⟨rfl,hbW⟩
theorem HP(n:Nat):(if n/10=0 then []else Lib.decDigits (n/10))++[UInt8.ofNat (48+n % 10)]=Lib.decDigits n:=by
 by_cases h:n<10
 ·rw[if_pos (by omega),Lib.decDigits_one h,Nat.mod_eq_of_lt h];rfl
 ·rw[if_neg (by omega)];conv=>rhs;rw[Lib.decDigits,dif_neg h]
theorem RU{P:Program}{src dst:TypeId}(hs:P.underlying src=some (.slice e))(he:P.underlying e=some (.int .u8))(hd:P.underlying dst=some .string)(W:World)(x:Int):
  (convert src dst (.slice (some ⟨W.heap.size,0,none⟩) 1 1)).run P (W.alloc (.cells #[.int .u8 x] e))= .ok (.string ⟨#[UInt8.ofNat x.toNat]⟩) (W.alloc (.cells #[.int .u8 x] e)):=by
 refine run_convert_bytes_arg _ src e hs he W.heap.size 0 1 1 [x] rfl (λi hi=>?_) dst hd;have:i=0:=by omega
 subst this;rw[cell_of_row _ W.heap.size (0+0) _ _ _ (heap_alloc_new W _)];rfl
def Nw(n0 n:Nat)(s:List UInt8):Prop:=(s=[]/\n=n0)\/(s≠ []/\Lib.decDigits n0=(if n=0 then []else Lib.decDigits n)++s)
theorem KI(n0:Nat)(w:World)(h1:n0<=1000000000000):Calls Tryz.prog 167 #[.int .i64 n0] w (Nx (Lib.decDigits n0) w):=by
 have hneg:¬(n0:Int)<0:=by omega
 go_enter Tryz.func167,Tryz.ntmps167
 go_wp2
 go_loopw [0,3,5] (λn s _ wr=>∃(m:Nat) (l:List UInt8),m<=n0/\n= .int .i64 m/\s= .string ⟨l.toArray⟩/\Nw n0 m l/\Below w.heap.size w wr) (λn s _ _=>2*(intOf n).toNat+(match s with| .string b=>if b.size=0 then 1 else 0|_=>0))
 case atStart=>exact⟨n0,[],Nat.le_refl _,rfl,rfl,.inl ⟨rfl,rfl⟩,Below.refl _ _⟩
 case round=>
  obtain⟨m,l,hm,rfl,rfl,hinv,hb⟩:=hrel;have hcv:=λx:Int=>RU (P:=Tryz.prog) underlying22 underlying5 underlying9 wr x;have hz:=hb.size;have hd:(48:UInt8)+UInt8.ofNat (m % 10)=UInt8.ofNat (48+m % 10):=by rw[UInt8.ofNat_add];rfl
  rcases l with _|⟨x,r⟩
  ·have hmn:m=n0:=by
    rcases hinv with⟨_,h⟩|⟨h,_⟩
    ·exact h
    ·exact absurd rfl h
   have hinv':Nw n0 (m/10) [48+UInt8.ofNat (m % 10)]:=by
    rw[hd,<-hmn];exact .inr ⟨by simp,(HP m).symm⟩
   have he:((⟨#[48+UInt8.ofNat (m % 10)]⟩:ByteArray)++(⟨#[]⟩:ByteArray))=⟨[48+UInt8.ofNat (m % 10)].toArray⟩:=xm [48+UInt8.ofNat (m % 10)] [];have HE:=Lib.hid he;have HN:=Lib.hid hmn;clear he hd hinv hmn;go_wp2
   refine⟨⟨m/10,[48+UInt8.ofNat (m % 10)],by omega,by go_num,by rw[HE.out],hinv',(by repeat (first|with_reducible exact Below.refl _ _|with_reducible assumption|(with_reducible refine Below.drew ?_)|(with_reducible refine Below.alloc ?_ (by first|with_reducible exact Nat.le_refl _|omega|(simp;done)|(simp;omega)|(simp[World.setCell];omega)|(simp[World.setCell];done)) _)|(with_reducible refine Below.setCell ?_ (by first|with_reducible exact Nat.le_refl _|omega|(simp;done)|(simp;omega)|(simp[World.setCell];omega)|(simp[World.setCell];done)) _)))⟩,?_⟩;rw[HE.out];simp[intOf,qH];omega
  ·by_cases hm0:m=0
   ·have e:x::r=Lib.decDigits n0:=by
     rcases hinv with⟨h,_⟩|⟨_,h⟩
     ·cases h
     ·rw[h,if_pos hm0];rfl
    have HE:=Lib.hid e;have h0:((m:Int) !=0)=false:=by simp[hm0]
    clear e hinv hm0 hd;go_wp2
    go_ret
    exact⟨by rw[<-HE.out];rfl,hb⟩
   ·have h0:((m:Int) !=0)=true:=by simp[hm0]
    have hi:Lib.decDigits n0=Lib.decDigits m++(x::r):=by
     rcases hinv with⟨h,_⟩|⟨_,h⟩
     ·cases h
     ·rw[h,if_neg hm0]
    have hl:r.length<=30:=by
     have h1:=congrArg List.length hi;have h2:=Lib.itoa_length_le (n0:Int) (by omega) (by omega);rw[Lib.itoa_nonneg]at h2;simp only[List.length_append,List.length_cons]at h1;omega
    have hinv':Nw n0 (m/10) ((48+UInt8.ofNat (m % 10))::x::r):=by
     rw[hd];refine .inr ⟨by simp,?_⟩;rw[hi,<-HP m];simp
    have he:((⟨#[48+UInt8.ofNat (m % 10)]⟩:ByteArray)++(⟨(x::r).toArray⟩:ByteArray))=⟨((48+UInt8.ofNat (m % 10))::x::r).toArray⟩:=xm [48+UInt8.ofNat (m % 10)] (x::r);have HE:=Lib.hid he;have hs:=qH (x::r);have hs2:(⟨(x::r).toArray⟩:ByteArray).size<=40:=by rw[hs];simp;omega
    have hm1:m/10<m:=by omega
    clear he hd hinv hi hm0 hs;go_wp2
    refine⟨⟨m/10,(48+UInt8.ofNat (m % 10))::x::r,by omega,by go_num,by rw[HE.out],hinv',(by repeat (first|with_reducible exact Below.refl _ _|with_reducible assumption|(with_reducible refine Below.drew ?_)|(with_reducible refine Below.alloc ?_ (by first|with_reducible exact Nat.le_refl _|omega|(simp;done)|(simp;omega)|(simp[World.setCell];omega)|(simp[World.setCell];done)) _)|(with_reducible refine Below.setCell ?_ (by first|with_reducible exact Nat.le_refl _|omega|(simp;done)|(simp;omega)|(simp[World.setCell];omega)|(simp[World.setCell];done)) _)))⟩,?_⟩;rw[HE.out];simp[intOf,qH];omega
def du(by_:List UInt8):List (List UInt8)->List UInt8
 |[]=>[]
 |[a]=>a
 |a::b::r=>a++(by_++du by_ (b::r))
theorem C6(by_:List UInt8):∀(l:List (List UInt8)) (a:List UInt8),l≠ []->du by_ (l++[a])=du by_ l++(by_++a)
 |[],a,h=>absurd rfl h
 |[b],a,_=>rfl
 |b::c::r,a,_=>by
  have:=C6 by_ (c::r) a (by simp);simp only[List.cons_append,du]at this⊢;rw[this];simp[List.append_assoc]
def xl(l:List (List UInt8)):List Value:=l.map λs=>Value.string ⟨s.toArray⟩
theorem GC(by_:List UInt8):∀(l:List (List UInt8)) (k:Nat),(du by_ (l.take k)).length<=(du by_ l).length
 |[],k=>by simp[du]
 |[a],0=>by simp[du]
 |[a],k+1=>by simp[du]
 |a::b::r,0=>by simp[du]
 |a::b::r,1=>by simp[du]
 |a::b::r,k+2=>by
  have:=GC by_ (b::r) (k+1);simp only[List.take_succ_cons,du,List.length_append]at this⊢;omega
theorem Gh(l:List (List UInt8))(by_:List UInt8)(A:Option Addr)(n c:Nat)(w:World)(hrow:Row w A (xl l))(hn:n=l.length)(hl:l.length<=100000000)(hlen:(du by_ l).length<=1000000000)(hby:by_.length<=1000):
  Calls Tryz.prog 168 #[.slice A n c,.string ⟨by_.toArray⟩] w λe w'=>e= .returned (.string ⟨(du by_ l).toArray⟩)/\w=w':=by
 subst hn;go_enter Tryz.func168,Tryz.ntmps168
 go_wp2
 go_loop [5,6] (λs i=>∃k:Nat,k<=l.length/\i= .int .i64 k/\s= .string ⟨(du by_ (l.take k)).toArray⟩) (λ_ i=>l.length-(intOf i).toNat)
 case atStart=>exact⟨0,Nat.zero_le _,rfl,rfl⟩
 case round=>
  obtain⟨k,hk,rfl,rfl⟩:=hrel;by_cases hlt:k<l.length
  ·obtain⟨b,off,rfl,hc⟩:=hrow.at_ (k:=k) (by simpa[xl]using hlt);simp only[xl,List.getElem_map]at hc;have hb1:=GC by_ l (k+1);clear hrow;rcases k with _|k
   ·have e:(⟨(du by_ (l.take 0)).toArray⟩:ByteArray)++⟨l[0].toArray⟩=⟨(du by_ (l.take (0+1))).toArray⟩:=by
     rw[px hlt,xm];rfl
    have ez:(⟨(du by_ (l.take 0)).toArray⟩:ByteArray).size+(⟨l[0].toArray⟩:ByteArray).size<=1000000000:=by
     rw[<-ByteArray.size_append,e,qH];omega
    have E:=Lib.hid e;clear e hb1;generalize hx:(⟨(du by_ (l.take 0)).toArray⟩:ByteArray)=x at*
    have HX:=Lib.hid hx;clear hx;simp only[Nat.add_zero]at hc;go_wp2
    refine⟨⟨1,by omega,rfl,?_⟩,?_⟩
    ·rw[<-HX.out]at E;rw[<-HX.out,E.out]
    ·simp only[intOf];omega
   ·have hzz:l.take (k+1)≠ []:=by
     intro h;have h2:(l.take (k+1)).length=0:=by rw[h];rfl
     rw[List.length_take]at h2;omega
    have e:((⟨(du by_ (l.take (k+1))).toArray⟩:ByteArray)++⟨by_.toArray⟩)++⟨l[k+1].toArray⟩=⟨(du by_ (l.take (k+1+1))).toArray⟩:=by
     rw[px hlt,C6 _ _ _ hzz,xm,xm,List.append_assoc]
    have ez:(⟨(du by_ (l.take (k+1))).toArray⟩:ByteArray).size+(⟨by_.toArray⟩:ByteArray).size+(⟨l[k+1].toArray⟩:ByteArray).size<=1000000000:=by
     rw[<-ByteArray.size_append,<-ByteArray.size_append,e,qH];omega
    have ey:((⟨(du by_ (l.take (k+1))).toArray⟩:ByteArray)++(⟨by_.toArray⟩:ByteArray)).size+(⟨l[k+1].toArray⟩:ByteArray).size<=1000000000:=by
     rw[ByteArray.size_append];exact ez
    have E:=Lib.hid e;have hz:0<k+1:=by omega
    clear e hb1;generalize (⟨(du by_ (l.take (k+1))).toArray⟩:ByteArray)=x at*
    go_wp2
    refine⟨⟨k+2,by omega,by go_num,?_⟩,?_⟩
    ·rw[E.out]
    ·simp only[intOf];omega
  ·have e:k=l.length:=by omega
   subst e;have E:=Lib.hid (show l.take l.length=l from List.take_length);clear hrow;go_wp2
   go_ret
   exact⟨rfl,rfl⟩
end
open Go.RowKit
def Nz(w:World):Prop:=Tab w/\∃m,w.cell? ⟨0,0,none⟩=some (.int .i64 m)
theorem Nz.below{w w':World}(h:Nz w)(hb:Below w.heap.size w w'):Nz w':=by
 obtain⟨h1,m,hm⟩:=h;refine⟨h1.below hb,m,?_⟩;have hlt:0<w.heap.size:=by
  rcases Nat.eq_zero_or_pos w.heap.size with h|h
  ·rw[World.cell?]at hm;simp[Array.getElem?_eq_none (by omega:w.heap.size<=0)]at hm
  ·exact h
 exact(World.cell?_of_block (a:=⟨0,0,none⟩) (hb.block 0 hlt)).trans hm
section
open Go.Proofs.Tryz
variable {st:ASt}{c x y:Code}{K:Exit->ASt->Prop}{X Y:Prop}{S:bZ}
theorem ace{α:Type}{a b:Array α}(h:a=b):a.toList=b.toList:=congrArg Array.toList h
abbrev zzI:Value:= .int .i64 0
abbrev zzS:Value:= .slice none 0 0
def ti2:TI:=⟨1,8,false,(.int .i64),zzI⟩
theorem ty2:aU Tryz.prog 2 ti2:=⟨sizeOf2,isAgg2,by rw[underlying2];rfl,by kernel_rfl,rfl⟩
theorem ty3:aU Tryz.prog 3 ti2:=⟨sizeOf3,isAgg3,by rw[underlying3];rfl,by kernel_rfl,rfl⟩
def ti4:TI:=⟨1,1,false,.bool,(.bool false)⟩
theorem ty4:aU Tryz.prog 4 ti4:=⟨sizeOf4,isAgg4,by rw[underlying4];rfl,by kernel_rfl,rfl⟩
def ti5:TI:=⟨1,1,false,(.int .u8),(.int .u8 0)⟩
theorem ty5:aU Tryz.prog 5 ti5:=⟨sizeOf5,isAgg5,by rw[underlying5];rfl,by kernel_rfl,rfl⟩
def ti9:TI:=⟨1,16,false,.str,(.string ⟨#[]⟩)⟩
theorem ty9:aU Tryz.prog 9 ti9:=⟨sizeOf9,isAgg9,by rw[underlying9];rfl,by kernel_rfl,rfl⟩
def SC:TI:=⟨1,8,false,(.int .u64),(.int .u64 0)⟩
theorem Zw:aU Tryz.prog 12 SC:=⟨sizeOf12,isAgg12,by rw[underlying12];rfl,by kernel_rfl,rfl⟩
def XM:TI:=⟨2,24,true,(.st [(0,9),(1,12)]),(.agg #[(.string ⟨#[]⟩),(.int .u64 0)])⟩
theorem Zy:aU Tryz.prog 13 XM:=⟨sizeOf13,isAgg13,by rw[underlying13];rfl,by kernel_rfl,rfl⟩
def XN:TI:=⟨1,4,false,(.int .i32),(.int .i32 0)⟩
theorem Zz:aU Tryz.prog 21 XN:=⟨sizeOf21,isAgg21,by rw[underlying21];rfl,by kernel_rfl,rfl⟩
def XO:TI:=⟨1,24,false,(.sl 5),zzS⟩
theorem ZA:aU Tryz.prog 22 XO:=⟨sizeOf22,isAgg22,by rw[underlying22];rfl,by kernel_rfl,rfl⟩
def XP:TI:=⟨1,8,false,(.ptr 81),(.pointer none)⟩
theorem ZB:aU Tryz.prog 24 XP:=⟨sizeOf24,isAgg24,by rw[underlying24];rfl,by kernel_rfl,rfl⟩
theorem ZC:aU Tryz.prog 26 SC:=⟨sizeOf26,isAgg26,by rw[underlying26];rfl,by kernel_rfl,rfl⟩
def XQ:TI:=⟨1,24,false,(.sl 67),zzS⟩
theorem ZD:aU Tryz.prog 27 XQ:=⟨sizeOf27,isAgg27,by rw[underlying27];rfl,by kernel_rfl,rfl⟩
def XR:TI:=⟨1,24,false,(.sl 256),zzS⟩
theorem ZE:aU Tryz.prog 28 XR:=⟨sizeOf28,isAgg28,by rw[underlying28];rfl,by kernel_rfl,rfl⟩
def Vy:TI:=⟨2,48,true,(.st [(0,27),(1,28)]),(.agg #[zzS,zzS])⟩
theorem ZF:aU Tryz.prog 29 Vy:=⟨sizeOf29,isAgg29,by rw[underlying29];rfl,by kernel_rfl,rfl⟩
theorem ZG:aU Tryz.prog 30 Vy:=⟨sizeOf30,isAgg30,by rw[underlying30];rfl,by kernel_rfl,rfl⟩
def Vz:TI:=⟨4,96,true,(.st [(0,30),(2,30)]),(.agg #[zzS,zzS,zzS,zzS])⟩
theorem ZH:aU Tryz.prog 31 Vz:=⟨sizeOf31,isAgg31,by rw[underlying31];rfl,by kernel_rfl,rfl⟩
theorem ZI:aU Tryz.prog 32 Vz:=⟨sizeOf32,isAgg32,by rw[underlying32];rfl,by kernel_rfl,rfl⟩
def XS:TI:=⟨1,24,false,(.sl 279),zzS⟩
theorem ZJ:aU Tryz.prog 33 XS:=⟨sizeOf33,isAgg33,by rw[underlying33];rfl,by kernel_rfl,rfl⟩
def VA:TI:=⟨4,48,true,(.st [(0,2),(1,2),(2,2),(3,33)]),(.agg #[zzI,zzI,zzI,zzS])⟩
theorem ZK:aU Tryz.prog 34 VA:=⟨sizeOf34,isAgg34,by rw[underlying34];rfl,by kernel_rfl,rfl⟩
theorem ZL:aU Tryz.prog 35 VA:=⟨sizeOf35,isAgg35,by rw[underlying35];rfl,by kernel_rfl,rfl⟩
def XT:TI:=⟨1,24,false,(.sl 275),zzS⟩
theorem ZM:aU Tryz.prog 36 XT:=⟨sizeOf36,isAgg36,by rw[underlying36];rfl,by kernel_rfl,rfl⟩
def Np:TI:=⟨3,40,true,(.st [(0,2),(1,2),(2,36)]),(.agg #[zzI,zzI,zzS])⟩
theorem ZN:aU Tryz.prog 37 Np:=⟨sizeOf37,isAgg37,by rw[underlying37];rfl,by kernel_rfl,rfl⟩
theorem ZO:aU Tryz.prog 38 Np:=⟨sizeOf38,isAgg38,by rw[underlying38];rfl,by kernel_rfl,rfl⟩
def XU:TI:=⟨1,24,false,(.sl 249),zzS⟩
theorem ZP:aU Tryz.prog 39 XU:=⟨sizeOf39,isAgg39,by rw[underlying39];rfl,by kernel_rfl,rfl⟩
def VB:TI:=⟨19,296,true,(.st [(0,32),(4,35),(8,35),(12,4),(13,38),(16,33),(17,2),(18,39)]),(.agg #[zzS,zzS,zzS,zzS,zzI,zzI,zzI,zzS,zzI,zzI,zzI,zzS,(.bool false),zzI,zzI,zzS,zzS,zzI,zzS])⟩
theorem ZQ:aU Tryz.prog 40 VB:=⟨sizeOf40,isAgg40,by rw[underlying40];rfl,by kernel_rfl,rfl⟩
theorem ZR:aU Tryz.prog 41 VB:=⟨sizeOf41,isAgg41,by rw[underlying41];rfl,by kernel_rfl,rfl⟩
def XV:TI:=⟨1,24,false,(.sl 329),zzS⟩
theorem ZS:aU Tryz.prog 42 XV:=⟨sizeOf42,isAgg42,by rw[underlying42];rfl,by kernel_rfl,rfl⟩
def XW:TI:=⟨1,24,false,(.sl 122),zzS⟩
theorem ZT:aU Tryz.prog 43 XW:=⟨sizeOf43,isAgg43,by rw[underlying43];rfl,by kernel_rfl,rfl⟩
def Nq:TI:=⟨3,24,true,(.st [(0,2),(1,2),(2,2)]),(.agg #[zzI,zzI,zzI])⟩
theorem ZU:aU Tryz.prog 44 Nq:=⟨sizeOf44,isAgg44,by rw[underlying44];rfl,by kernel_rfl,rfl⟩
theorem ZV:aU Tryz.prog 45 Nq:=⟨sizeOf45,isAgg45,by rw[underlying45];rfl,by kernel_rfl,rfl⟩
def VC:TI:=⟨7,88,true,(.st [(0,2),(1,2),(2,42),(3,43),(4,45)]),(.agg #[zzI,zzI,zzS,zzS,zzI,zzI,zzI])⟩
theorem ZW:aU Tryz.prog 46 VC:=⟨sizeOf46,isAgg46,by rw[underlying46];rfl,by kernel_rfl,rfl⟩
theorem ZX:aU Tryz.prog 47 VC:=⟨sizeOf47,isAgg47,by rw[underlying47];rfl,by kernel_rfl,rfl⟩
def VD:TI:=⟨12,160,true,(.st [(0,30),(2,47),(9,2),(10,2),(11,2)]),(.agg #[zzS,zzS,zzI,zzI,zzS,zzS,zzI,zzI,zzI,zzI,zzI,zzI])⟩
theorem ZY:aU Tryz.prog 48 VD:=⟨sizeOf48,isAgg48,by rw[underlying48];rfl,by kernel_rfl,rfl⟩
theorem ZZ:aU Tryz.prog 49 VD:=⟨sizeOf49,isAgg49,by rw[underlying49];rfl,by kernel_rfl,rfl⟩
def XX:TI:=⟨1,24,false,(.sl 212),zzS⟩
theorem Z1:aU Tryz.prog 50 XX:=⟨sizeOf50,isAgg50,by rw[underlying50];rfl,by kernel_rfl,rfl⟩
def VE:TI:=⟨6,64,true,(.st [(0,2),(1,2),(2,2),(3,2),(4,2),(5,50)]),(.agg #[zzI,zzI,zzI,zzI,zzI,zzS])⟩
theorem Z3:aU Tryz.prog 51 VE:=⟨sizeOf51,isAgg51,by rw[underlying51];rfl,by kernel_rfl,rfl⟩
theorem Z4:aU Tryz.prog 52 VE:=⟨sizeOf52,isAgg52,by rw[underlying52];rfl,by kernel_rfl,rfl⟩
def VF:TI:=⟨6,64,true,(.st [(0,52)]),(.agg #[zzI,zzI,zzI,zzI,zzI,zzS])⟩
theorem Z5:aU Tryz.prog 53 VF:=⟨sizeOf53,isAgg53,by rw[underlying53];rfl,by kernel_rfl,rfl⟩
theorem Z6:aU Tryz.prog 54 VF:=⟨sizeOf54,isAgg54,by rw[underlying54];rfl,by kernel_rfl,rfl⟩
def Do:TI:=⟨5,40,true,(.st [(0,2),(1,2),(2,2),(3,2),(4,2)]),(.agg #[zzI,zzI,zzI,zzI,zzI])⟩
theorem Z7:aU Tryz.prog 55 Do:=⟨sizeOf55,isAgg55,by rw[underlying55];rfl,by kernel_rfl,rfl⟩
theorem Z8:aU Tryz.prog 56 Do:=⟨sizeOf56,isAgg56,by rw[underlying56];rfl,by kernel_rfl,rfl⟩
def VG:TI:=⟨15,136,true,(.st [(0,2),(1,2),(2,54),(8,4),(9,56),(14,2)]),(.agg #[zzI,zzI,zzI,zzI,zzI,zzI,zzI,zzS,(.bool false),zzI,zzI,zzI,zzI,zzI,zzI])⟩
theorem Z9:aU Tryz.prog 57 VG:=⟨sizeOf57,isAgg57,by rw[underlying57];rfl,by kernel_rfl,rfl⟩
theorem aaa:aU Tryz.prog 58 VG:=⟨sizeOf58,isAgg58,by rw[underlying58];rfl,by kernel_rfl,rfl⟩
def XY:TI:=⟨1,24,false,(.sl 85),zzS⟩
theorem aab:aU Tryz.prog 59 XY:=⟨sizeOf59,isAgg59,by rw[underlying59];rfl,by kernel_rfl,rfl⟩
def XZ:TI:=⟨1,24,false,(.sl 208),zzS⟩
theorem aac:aU Tryz.prog 60 XZ:=⟨sizeOf60,isAgg60,by rw[underlying60];rfl,by kernel_rfl,rfl⟩
def VH:TI:=⟨4,64,true,(.st [(0,2),(1,59),(2,60),(3,2)]),(.agg #[zzI,zzS,zzS,zzI])⟩
theorem aad:aU Tryz.prog 61 VH:=⟨sizeOf61,isAgg61,by rw[underlying61];rfl,by kernel_rfl,rfl⟩
theorem aae:aU Tryz.prog 62 VH:=⟨sizeOf62,isAgg62,by rw[underlying62];rfl,by kernel_rfl,rfl⟩
def X0:TI:=⟨1,24,false,(.sl 137),zzS⟩
theorem aaf:aU Tryz.prog 63 X0:=⟨sizeOf63,isAgg63,by rw[underlying63];rfl,by kernel_rfl,rfl⟩
def X1:TI:=⟨1,24,false,(.sl 189),zzS⟩
theorem aag:aU Tryz.prog 64 X1:=⟨sizeOf64,isAgg64,by rw[underlying64];rfl,by kernel_rfl,rfl⟩
def VI:TI:=⟨2,48,true,(.st [(0,63),(1,64)]),(.agg #[zzS,zzS])⟩
theorem aah:aU Tryz.prog 65 VI:=⟨sizeOf65,isAgg65,by rw[underlying65];rfl,by kernel_rfl,rfl⟩
theorem aai:aU Tryz.prog 66 VI:=⟨sizeOf66,isAgg66,by rw[underlying66];rfl,by kernel_rfl,rfl⟩
def X2:TI:=⟨1,24,false,(.sl 2),zzS⟩
theorem aaj:aU Tryz.prog 67 X2:=⟨sizeOf67,isAgg67,by rw[underlying67];rfl,by kernel_rfl,rfl⟩
def X3:TI:=⟨1,24,false,(.sl 4),zzS⟩
theorem aak:aU Tryz.prog 68 X3:=⟨sizeOf68,isAgg68,by rw[underlying68];rfl,by kernel_rfl,rfl⟩
def VJ:TI:=⟨73,952,true,(.st [(0,41),(19,49),(31,58),(46,58),(61,62),(65,62),(69,66),(71,67),(72,68)]),(.agg #[zzS,zzS,zzS,zzS,zzI,zzI,zzI,zzS,zzI,zzI,zzI,zzS,(.bool false),zzI,zzI,zzS,zzS,zzI,zzS,zzS,zzS,zzI,zzI,zzS,zzS,zzI,zzI,zzI,zzI,zzI,zzI,zzI,zzI,zzI,zzI,zzI,zzI,zzI,zzS,(.bool false),zzI,zzI,zzI,zzI,zzI,zzI,zzI,zzI,zzI,zzI,zzI,zzI,zzI,zzS,(.bool false),zzI,zzI,zzI,zzI,zzI,zzI,zzI,zzS,zzS,zzI,zzI,zzS,zzS,zzI,zzS,zzS,zzS,zzS])⟩
theorem aal:aU Tryz.prog 69 VJ:=⟨sizeOf69,isAgg69,by rw[underlying69];rfl,by kernel_rfl,rfl⟩
theorem aam:aU Tryz.prog 70 VJ:=⟨sizeOf70,isAgg70,by rw[underlying70];rfl,by kernel_rfl,rfl⟩
def X4:TI:=⟨1,24,false,(.sl 9),zzS⟩
theorem aan:aU Tryz.prog 75 X4:=⟨sizeOf75,isAgg75,by rw[underlying75];rfl,by kernel_rfl,rfl⟩
def VK:TI:=⟨3,40,true,(.st [(0,22),(1,3),(2,26)]),(.agg #[zzS,zzI,(.int .u64 0)])⟩
theorem aao:aU Tryz.prog 80 VK:=⟨sizeOf80,isAgg80,by rw[underlying80];rfl,by kernel_rfl,rfl⟩
theorem aap:aU Tryz.prog 81 VK:=⟨sizeOf81,isAgg81,by rw[underlying81];rfl,by kernel_rfl,rfl⟩
def X5:TI:=⟨1,24,false,(.sl 59),zzS⟩
theorem aaq:aU Tryz.prog 82 X5:=⟨sizeOf82,isAgg82,by rw[underlying82];rfl,by kernel_rfl,rfl⟩
def VL:TI:=⟨7,56,true,(.st [(0,2),(1,56),(6,2)]),(.agg #[zzI,zzI,zzI,zzI,zzI,zzI,zzI])⟩
theorem aar:aU Tryz.prog 84 VL:=⟨sizeOf84,isAgg84,by rw[underlying84];rfl,by kernel_rfl,rfl⟩
theorem aas:aU Tryz.prog 85 VL:=⟨sizeOf85,isAgg85,by rw[underlying85];rfl,by kernel_rfl,rfl⟩
def X6:TI:=⟨1,24,false,(.sl 148),zzS⟩
theorem aat:aU Tryz.prog 88 X6:=⟨sizeOf88,isAgg88,by rw[underlying88];rfl,by kernel_rfl,rfl⟩
def VM:TI:=⟨1,8,true,(.st [(0,2)]),(.agg #[zzI])⟩
theorem aau:aU Tryz.prog 91 VM:=⟨sizeOf91,isAgg91,by rw[underlying91];rfl,by kernel_rfl,rfl⟩
theorem aav:aU Tryz.prog 92 VM:=⟨sizeOf92,isAgg92,by rw[underlying92];rfl,by kernel_rfl,rfl⟩
def Hd:TI:=⟨1,8,false,.oth,.nilFunc⟩
theorem aaw:aU Tryz.prog 94 Hd:=⟨sizeOf94,isAgg94,by rw[underlying94];rfl,by kernel_rfl,rfl⟩
def X7:TI:=⟨1,8,false,(.ptr 97),(.pointer none)⟩
theorem aax:aU Tryz.prog 95 X7:=⟨sizeOf95,isAgg95,by rw[underlying95];rfl,by kernel_rfl,rfl⟩
def VN:TI:=⟨2,32,true,(.st [(0,95),(1,22)]),(.agg #[(.pointer none),zzS])⟩
theorem aay:aU Tryz.prog 96 VN:=⟨sizeOf96,isAgg96,by rw[underlying96];rfl,by kernel_rfl,rfl⟩
theorem aaz:aU Tryz.prog 97 VN:=⟨sizeOf97,isAgg97,by rw[underlying97];rfl,by kernel_rfl,rfl⟩
def V3:TI:=⟨1,24,false,(.sl 3),zzS⟩
theorem X8:aU Tryz.prog 105 V3:=⟨sizeOf105,isAgg105,by rw[underlying105];rfl,by kernel_rfl,rfl⟩
theorem X9:aU Tryz.prog 113 Hd:=⟨sizeOf113,isAgg113,by rw[underlying113];rfl,by kernel_rfl,rfl⟩
theorem Ya:aU Tryz.prog 117 Hd:=⟨sizeOf117,isAgg117,by rw[underlying117];rfl,by kernel_rfl,rfl⟩
theorem Yb:aU Tryz.prog 121 Do:=⟨sizeOf121,isAgg121,by rw[underlying121];rfl,by kernel_rfl,rfl⟩
theorem Yc:aU Tryz.prog 122 Do:=⟨sizeOf122,isAgg122,by rw[underlying122];rfl,by kernel_rfl,rfl⟩
def V4:TI:=⟨1,8,false,(.ptr 58),(.pointer none)⟩
theorem Yd:aU Tryz.prog 125 V4:=⟨sizeOf125,isAgg125,by rw[underlying125];rfl,by kernel_rfl,rfl⟩
def V5:TI:=⟨1,8,false,(.ptr 70),(.pointer none)⟩
theorem Ye:aU Tryz.prog 128 V5:=⟨sizeOf128,isAgg128,by rw[underlying128];rfl,by kernel_rfl,rfl⟩
theorem Yf:aU Tryz.prog 129 Hd:=⟨sizeOf129,isAgg129,by rw[underlying129];rfl,by kernel_rfl,rfl⟩
def V6:TI:=⟨1,8,false,(.ptr 62),(.pointer none)⟩
theorem Yg:aU Tryz.prog 132 V6:=⟨sizeOf132,isAgg132,by rw[underlying132];rfl,by kernel_rfl,rfl⟩
theorem Yh:aU Tryz.prog 135 Hd:=⟨sizeOf135,isAgg135,by rw[underlying135];rfl,by kernel_rfl,rfl⟩
def QL:TI:=⟨3,40,true,(.st [(0,2),(1,2),(2,67)]),(.agg #[zzI,zzI,zzS])⟩
theorem Yi:aU Tryz.prog 136 QL:=⟨sizeOf136,isAgg136,by rw[underlying136];rfl,by kernel_rfl,rfl⟩
theorem Yj:aU Tryz.prog 137 QL:=⟨sizeOf137,isAgg137,by rw[underlying137];rfl,by kernel_rfl,rfl⟩
theorem Yk:aU Tryz.prog 139 SC:=⟨sizeOf139,isAgg139,by rw[underlying139];rfl,by kernel_rfl,rfl⟩
def QM:TI:=⟨5,56,true,(.st [(0,2),(1,2),(2,2),(3,2),(4,67)]),(.agg #[zzI,zzI,zzI,zzI,zzS])⟩
theorem Yl:aU Tryz.prog 147 QM:=⟨sizeOf147,isAgg147,by rw[underlying147];rfl,by kernel_rfl,rfl⟩
theorem Ym:aU Tryz.prog 148 QM:=⟨sizeOf148,isAgg148,by rw[underlying148];rfl,by kernel_rfl,rfl⟩
def V7:TI:=⟨4,32,true,(.arr 4 94),(.agg #[.nilFunc,.nilFunc,.nilFunc,.nilFunc])⟩
theorem Yn:aU Tryz.prog 154 V7:=⟨sizeOf154,isAgg154,by rw[underlying154];rfl,by kernel_rfl,rfl⟩
def V8:TI:=⟨1,8,false,(.ptr 5),(.pointer none)⟩
theorem Yo:aU Tryz.prog 156 V8:=⟨sizeOf156,isAgg156,by rw[underlying156];rfl,by kernel_rfl,rfl⟩
def V9:TI:=⟨1,24,false,(.sl 113),zzS⟩
theorem Yp:aU Tryz.prog 167 V9:=⟨sizeOf167,isAgg167,by rw[underlying167];rfl,by kernel_rfl,rfl⟩
def Wa:TI:=⟨1,24,false,(.sl 117),zzS⟩
theorem Yq:aU Tryz.prog 168 Wa:=⟨sizeOf168,isAgg168,by rw[underlying168];rfl,by kernel_rfl,rfl⟩
def Wb:TI:=⟨1,24,false,(.sl 129),zzS⟩
theorem Yr:aU Tryz.prog 169 Wb:=⟨sizeOf169,isAgg169,by rw[underlying169];rfl,by kernel_rfl,rfl⟩
def Wc:TI:=⟨1,24,false,(.sl 135),zzS⟩
theorem Ys:aU Tryz.prog 170 Wc:=⟨sizeOf170,isAgg170,by rw[underlying170];rfl,by kernel_rfl,rfl⟩
def ta:TI:=⟨2,16,true,(.st [(0,2),(1,2)]),(.agg #[zzI,zzI])⟩
theorem Yt:aU Tryz.prog 188 ta:=⟨sizeOf188,isAgg188,by rw[underlying188];rfl,by kernel_rfl,rfl⟩
theorem Yu:aU Tryz.prog 189 ta:=⟨sizeOf189,isAgg189,by rw[underlying189];rfl,by kernel_rfl,rfl⟩
def tc:TI:=⟨4,32,true,(.st [(0,2),(1,2),(2,2),(3,2)]),(.agg #[zzI,zzI,zzI,zzI])⟩
theorem Yv:aU Tryz.prog 207 tc:=⟨sizeOf207,isAgg207,by rw[underlying207];rfl,by kernel_rfl,rfl⟩
theorem Yw:aU Tryz.prog 208 tc:=⟨sizeOf208,isAgg208,by rw[underlying208];rfl,by kernel_rfl,rfl⟩
theorem Yx:aU Tryz.prog 211 ta:=⟨sizeOf211,isAgg211,by rw[underlying211];rfl,by kernel_rfl,rfl⟩
theorem Yy:aU Tryz.prog 212 ta:=⟨sizeOf212,isAgg212,by rw[underlying212];rfl,by kernel_rfl,rfl⟩
theorem Yz:aU Tryz.prog 248 tc:=⟨sizeOf248,isAgg248,by rw[underlying248];rfl,by kernel_rfl,rfl⟩
theorem YA:aU Tryz.prog 249 tc:=⟨sizeOf249,isAgg249,by rw[underlying249];rfl,by kernel_rfl,rfl⟩
def QN:TI:=⟨2,32,true,(.st [(0,2),(1,67)]),(.agg #[zzI,zzS])⟩
theorem YB:aU Tryz.prog 255 QN:=⟨sizeOf255,isAgg255,by rw[underlying255];rfl,by kernel_rfl,rfl⟩
theorem YC:aU Tryz.prog 256 QN:=⟨sizeOf256,isAgg256,by rw[underlying256];rfl,by kernel_rfl,rfl⟩
def QO:TI:=⟨9,72,true,(.st [(0,2),(1,2),(2,2),(3,2),(4,56)]),(.agg #[zzI,zzI,zzI,zzI,zzI,zzI,zzI,zzI,zzI])⟩
theorem YD:aU Tryz.prog 274 QO:=⟨sizeOf274,isAgg274,by rw[underlying274];rfl,by kernel_rfl,rfl⟩
theorem YE:aU Tryz.prog 275 QO:=⟨sizeOf275,isAgg275,by rw[underlying275];rfl,by kernel_rfl,rfl⟩
theorem YF:aU Tryz.prog 278 Nq:=⟨sizeOf278,isAgg278,by rw[underlying278];rfl,by kernel_rfl,rfl⟩
theorem YG:aU Tryz.prog 279 Nq:=⟨sizeOf279,isAgg279,by rw[underlying279];rfl,by kernel_rfl,rfl⟩
def QP:TI:=⟨8,96,true,(.st [(0,2),(1,47)]),(.agg #[zzI,zzI,zzI,zzS,zzS,zzI,zzI,zzI])⟩
theorem YH:aU Tryz.prog 301 QP:=⟨sizeOf301,isAgg301,by rw[underlying301];rfl,by kernel_rfl,rfl⟩
theorem YI:aU Tryz.prog 302 QP:=⟨sizeOf302,isAgg302,by rw[underlying302];rfl,by kernel_rfl,rfl⟩
theorem YJ:aU Tryz.prog 328 ta:=⟨sizeOf328,isAgg328,by rw[underlying328];rfl,by kernel_rfl,rfl⟩
theorem YK:aU Tryz.prog 329 ta:=⟨sizeOf329,isAgg329,by rw[underlying329];rfl,by kernel_rfl,rfl⟩
def Wd:TI:=⟨24,24,true,(.arr 24 5),(.agg #[(.int .u8 0),(.int .u8 0),(.int .u8 0),(.int .u8 0),(.int .u8 0),(.int .u8 0),(.int .u8 0),(.int .u8 0),(.int .u8 0),(.int .u8 0),(.int .u8 0),(.int .u8 0),(.int .u8 0),(.int .u8 0),(.int .u8 0),(.int .u8 0),(.int .u8 0),(.int .u8 0),(.int .u8 0),(.int .u8 0),(.int .u8 0),(.int .u8 0),(.int .u8 0),(.int .u8 0)])⟩
theorem YL:aU Tryz.prog 331 Wd:=⟨sizeOf331,isAgg331,by rw[underlying331];rfl,by kernel_rfl,rfl⟩
def We:TI:=⟨3,48,true,(.st [(0,9),(1,9),(2,100)]),(.agg #[(.string ⟨#[]⟩),(.string ⟨#[]⟩),.nilIface])⟩
theorem YM:aU Tryz.prog 340 We:=⟨sizeOf340,isAgg340,by rw[underlying340];rfl,by kernel_rfl,rfl⟩
def QQ:TI:=⟨7,56,true,(.st [(0,2),(1,2),(2,56)]),(.agg #[zzI,zzI,zzI,zzI,zzI,zzI,zzI])⟩
theorem YN:aU Tryz.prog 349 QQ:=⟨sizeOf349,isAgg349,by rw[underlying349];rfl,by kernel_rfl,rfl⟩
theorem YO:aU Tryz.prog 350 QQ:=⟨sizeOf350,isAgg350,by rw[underlying350];rfl,by kernel_rfl,rfl⟩
theorem YP:aU Tryz.prog 357 Np:=⟨sizeOf357,isAgg357,by rw[underlying357];rfl,by kernel_rfl,rfl⟩
theorem YQ:aU Tryz.prog 358 Np:=⟨sizeOf358,isAgg358,by rw[underlying358];rfl,by kernel_rfl,rfl⟩
theorem YR:aU Tryz.prog 364 tc:=⟨sizeOf364,isAgg364,by rw[underlying364];rfl,by kernel_rfl,rfl⟩
theorem YS:aU Tryz.prog 365 tc:=⟨sizeOf365,isAgg365,by rw[underlying365];rfl,by kernel_rfl,rfl⟩
theorem YT:aU Tryz.prog 368 Do:=⟨sizeOf368,isAgg368,by rw[underlying368];rfl,by kernel_rfl,rfl⟩
theorem YU:aU Tryz.prog 369 Do:=⟨sizeOf369,isAgg369,by rw[underlying369];rfl,by kernel_rfl,rfl⟩
def Wf:TI:=⟨20,160,true,(.arr 20 26),(.agg #[(.int .u64 0),(.int .u64 0),(.int .u64 0),(.int .u64 0),(.int .u64 0),(.int .u64 0),(.int .u64 0),(.int .u64 0),(.int .u64 0),(.int .u64 0),(.int .u64 0),(.int .u64 0),(.int .u64 0),(.int .u64 0),(.int .u64 0),(.int .u64 0),(.int .u64 0),(.int .u64 0),(.int .u64 0),(.int .u64 0)])⟩
theorem YV:aU Tryz.prog 401 Wf:=⟨sizeOf401,isAgg401,by rw[underlying401];rfl,by kernel_rfl,rfl⟩
def Wg:TI:=⟨1,4,false,(.int .u32),(.int .u32 0)⟩
theorem YW:aU Tryz.prog 402 Wg:=⟨sizeOf402,isAgg402,by rw[underlying402];rfl,by kernel_rfl,rfl⟩
def Wh:TI:=⟨65,65,true,(.arr 65 5),(.agg #[(.int .u8 0),(.int .u8 0),(.int .u8 0),(.int .u8 0),(.int .u8 0),(.int .u8 0),(.int .u8 0),(.int .u8 0),(.int .u8 0),(.int .u8 0),(.int .u8 0),(.int .u8 0),(.int .u8 0),(.int .u8 0),(.int .u8 0),(.int .u8 0),(.int .u8 0),(.int .u8 0),(.int .u8 0),(.int .u8 0),(.int .u8 0),(.int .u8 0),(.int .u8 0),(.int .u8 0),(.int .u8 0),(.int .u8 0),(.int .u8 0),(.int .u8 0),(.int .u8 0),(.int .u8 0),(.int .u8 0),(.int .u8 0),(.int .u8 0),(.int .u8 0),(.int .u8 0),(.int .u8 0),(.int .u8 0),(.int .u8 0),(.int .u8 0),(.int .u8 0),(.int .u8 0),(.int .u8 0),(.int .u8 0),(.int .u8 0),(.int .u8 0),(.int .u8 0),(.int .u8 0),(.int .u8 0),(.int .u8 0),(.int .u8 0),(.int .u8 0),(.int .u8 0),(.int .u8 0),(.int .u8 0),(.int .u8 0),(.int .u8 0),(.int .u8 0),(.int .u8 0),(.int .u8 0),(.int .u8 0),(.int .u8 0),(.int .u8 0),(.int .u8 0),(.int .u8 0),(.int .u8 0)])⟩
theorem YX:aU Tryz.prog 403 Wh:=⟨sizeOf403,isAgg403,by rw[underlying403];rfl,by kernel_rfl,rfl⟩
def Wi:TI:=⟨256,256,true,(.arr 256 5),(.agg #[(.int .u8 0),(.int .u8 0),(.int .u8 0),(.int .u8 0),(.int .u8 0),(.int .u8 0),(.int .u8 0),(.int .u8 0),(.int .u8 0),(.int .u8 0),(.int .u8 0),(.int .u8 0),(.int .u8 0),(.int .u8 0),(.int .u8 0),(.int .u8 0),(.int .u8 0),(.int .u8 0),(.int .u8 0),(.int .u8 0),(.int .u8 0),(.int .u8 0),(.int .u8 0),(.int .u8 0),(.int .u8 0),(.int .u8 0),(.int .u8 0),(.int .u8 0),(.int .u8 0),(.int .u8 0),(.int .u8 0),(.int .u8 0),(.int .u8 0),(.int .u8 0),(.int .u8 0),(.int .u8 0),(.int .u8 0),(.int .u8 0),(.int .u8 0),(.int .u8 0),(.int .u8 0),(.int .u8 0),(.int .u8 0),(.int .u8 0),(.int .u8 0),(.int .u8 0),(.int .u8 0),(.int .u8 0),(.int .u8 0),(.int .u8 0),(.int .u8 0),(.int .u8 0),(.int .u8 0),(.int .u8 0),(.int .u8 0),(.int .u8 0),(.int .u8 0),(.int .u8 0),(.int .u8 0),(.int .u8 0),(.int .u8 0),(.int .u8 0),(.int .u8 0),(.int .u8 0),(.int .u8 0),(.int .u8 0),(.int .u8 0),(.int .u8 0),(.int .u8 0),(.int .u8 0),(.int .u8 0),(.int .u8 0),(.int .u8 0),(.int .u8 0),(.int .u8 0),(.int .u8 0),(.int .u8 0),(.int .u8 0),(.int .u8 0),(.int .u8 0),(.int .u8 0),(.int .u8 0),(.int .u8 0),(.int .u8 0),(.int .u8 0),(.int .u8 0),(.int .u8 0),(.int .u8 0),(.int .u8 0),(.int .u8 0),(.int .u8 0),(.int .u8 0),(.int .u8 0),(.int .u8 0),(.int .u8 0),(.int .u8 0),(.int .u8 0),(.int .u8 0),(.int .u8 0),(.int .u8 0),(.int .u8 0),(.int .u8 0),(.int .u8 0),(.int .u8 0),(.int .u8 0),(.int .u8 0),(.int .u8 0),(.int .u8 0),(.int .u8 0),(.int .u8 0),(.int .u8 0),(.int .u8 0),(.int .u8 0),(.int .u8 0),(.int .u8 0),(.int .u8 0),(.int .u8 0),(.int .u8 0),(.int .u8 0),(.int .u8 0),(.int .u8 0),(.int .u8 0),(.int .u8 0),(.int .u8 0),(.int .u8 0),(.int .u8 0),(.int .u8 0),(.int .u8 0),(.int .u8 0),(.int .u8 0),(.int .u8 0),(.int .u8 0),(.int .u8 0),(.int .u8 0),(.int .u8 0),(.int .u8 0),(.int .u8 0),(.int .u8 0),(.int .u8 0),(.int .u8 0),(.int .u8 0),(.int .u8 0),(.int .u8 0),(.int .u8 0),(.int .u8 0),(.int .u8 0),(.int .u8 0),(.int .u8 0),(.int .u8 0),(.int .u8 0),(.int .u8 0),(.int .u8 0),(.int .u8 0),(.int .u8 0),(.int .u8 0),(.int .u8 0),(.int .u8 0),(.int .u8 0),(.int .u8 0),(.int .u8 0),(.int .u8 0),(.int .u8 0),(.int .u8 0),(.int .u8 0),(.int .u8 0),(.int .u8 0),(.int .u8 0),(.int .u8 0),(.int .u8 0),(.int .u8 0),(.int .u8 0),(.int .u8 0),(.int .u8 0),(.int .u8 0),(.int .u8 0),(.int .u8 0),(.int .u8 0),(.int .u8 0),(.int .u8 0),(.int .u8 0),(.int .u8 0),(.int .u8 0),(.int .u8 0),(.int .u8 0),(.int .u8 0),(.int .u8 0),(.int .u8 0),(.int .u8 0),(.int .u8 0),(.int .u8 0),(.int .u8 0),(.int .u8 0),(.int .u8 0),(.int .u8 0),(.int .u8 0),(.int .u8 0),(.int .u8 0),(.int .u8 0),(.int .u8 0),(.int .u8 0),(.int .u8 0),(.int .u8 0),(.int .u8 0),(.int .u8 0),(.int .u8 0),(.int .u8 0),(.int .u8 0),(.int .u8 0),(.int .u8 0),(.int .u8 0),(.int .u8 0),(.int .u8 0),(.int .u8 0),(.int .u8 0),(.int .u8 0),(.int .u8 0),(.int .u8 0),(.int .u8 0),(.int .u8 0),(.int .u8 0),(.int .u8 0),(.int .u8 0),(.int .u8 0),(.int .u8 0),(.int .u8 0),(.int .u8 0),(.int .u8 0),(.int .u8 0),(.int .u8 0),(.int .u8 0),(.int .u8 0),(.int .u8 0),(.int .u8 0),(.int .u8 0),(.int .u8 0),(.int .u8 0),(.int .u8 0),(.int .u8 0),(.int .u8 0),(.int .u8 0),(.int .u8 0),(.int .u8 0),(.int .u8 0),(.int .u8 0),(.int .u8 0),(.int .u8 0),(.int .u8 0),(.int .u8 0),(.int .u8 0),(.int .u8 0),(.int .u8 0),(.int .u8 0),(.int .u8 0),(.int .u8 0),(.int .u8 0),(.int .u8 0)])⟩
theorem YY:aU Tryz.prog 406 Wi:=⟨sizeOf406,isAgg406,by rw[underlying406];rfl,by kernel_rfl,rfl⟩
def Wj:TI:=⟨2,2,true,(.st [(0,5),(1,5)]),(.agg #[(.int .u8 0),(.int .u8 0)])⟩
theorem YZ:aU Tryz.prog 407 Wj:=⟨sizeOf407,isAgg407,by rw[underlying407];rfl,by kernel_rfl,rfl⟩
def Wk:TI:=⟨32,32,true,(.arr 16 408),(.agg #[(.int .u8 0),(.int .u8 0),(.int .u8 0),(.int .u8 0),(.int .u8 0),(.int .u8 0),(.int .u8 0),(.int .u8 0),(.int .u8 0),(.int .u8 0),(.int .u8 0),(.int .u8 0),(.int .u8 0),(.int .u8 0),(.int .u8 0),(.int .u8 0),(.int .u8 0),(.int .u8 0),(.int .u8 0),(.int .u8 0),(.int .u8 0),(.int .u8 0),(.int .u8 0),(.int .u8 0),(.int .u8 0),(.int .u8 0),(.int .u8 0),(.int .u8 0),(.int .u8 0),(.int .u8 0),(.int .u8 0),(.int .u8 0)])⟩
theorem Y0:aU Tryz.prog 409 Wk:=⟨sizeOf409,isAgg409,by rw[underlying409];rfl,by kernel_rfl,rfl⟩
def Wl:TI:=⟨1,16,true,(.st [(0,9)]),(.agg #[(.string ⟨#[]⟩)])⟩
theorem Y1:aU Tryz.prog 413 Wl:=⟨sizeOf413,isAgg413,by rw[underlying413];rfl,by kernel_rfl,rfl⟩
def Wm:TI:=⟨32,32,true,(.arr 32 5),(.agg #[(.int .u8 0),(.int .u8 0),(.int .u8 0),(.int .u8 0),(.int .u8 0),(.int .u8 0),(.int .u8 0),(.int .u8 0),(.int .u8 0),(.int .u8 0),(.int .u8 0),(.int .u8 0),(.int .u8 0),(.int .u8 0),(.int .u8 0),(.int .u8 0),(.int .u8 0),(.int .u8 0),(.int .u8 0),(.int .u8 0),(.int .u8 0),(.int .u8 0),(.int .u8 0),(.int .u8 0),(.int .u8 0),(.int .u8 0),(.int .u8 0),(.int .u8 0),(.int .u8 0),(.int .u8 0),(.int .u8 0),(.int .u8 0)])⟩
theorem Y2:aU Tryz.prog 479 Wm:=⟨sizeOf479,isAgg479,by rw[underlying479];rfl,by kernel_rfl,rfl⟩
def Wn:TI:=⟨64,64,true,(.arr 64 5),(.agg #[(.int .u8 0),(.int .u8 0),(.int .u8 0),(.int .u8 0),(.int .u8 0),(.int .u8 0),(.int .u8 0),(.int .u8 0),(.int .u8 0),(.int .u8 0),(.int .u8 0),(.int .u8 0),(.int .u8 0),(.int .u8 0),(.int .u8 0),(.int .u8 0),(.int .u8 0),(.int .u8 0),(.int .u8 0),(.int .u8 0),(.int .u8 0),(.int .u8 0),(.int .u8 0),(.int .u8 0),(.int .u8 0),(.int .u8 0),(.int .u8 0),(.int .u8 0),(.int .u8 0),(.int .u8 0),(.int .u8 0),(.int .u8 0),(.int .u8 0),(.int .u8 0),(.int .u8 0),(.int .u8 0),(.int .u8 0),(.int .u8 0),(.int .u8 0),(.int .u8 0),(.int .u8 0),(.int .u8 0),(.int .u8 0),(.int .u8 0),(.int .u8 0),(.int .u8 0),(.int .u8 0),(.int .u8 0),(.int .u8 0),(.int .u8 0),(.int .u8 0),(.int .u8 0),(.int .u8 0),(.int .u8 0),(.int .u8 0),(.int .u8 0),(.int .u8 0),(.int .u8 0),(.int .u8 0),(.int .u8 0),(.int .u8 0),(.int .u8 0),(.int .u8 0),(.int .u8 0)])⟩
theorem Y3:aU Tryz.prog 480 Wn:=⟨sizeOf480,isAgg480,by rw[underlying480];rfl,by kernel_rfl,rfl⟩
def tys:TT:=(.node 92 VM (.node 47 VC (.node 31 Vz (.node 21 XN (.node 5 ti5 (.node 3 ti2 (.node 2 ti2 .leaf .leaf) (.node 4 ti4 .leaf .leaf)) (.node 12 SC (.node 9 ti9 .leaf .leaf) (.node 13 XM .leaf .leaf))) (.node 27 XQ (.node 24 XP (.node 22 XO .leaf .leaf) (.node 26 SC .leaf .leaf)) (.node 29 Vy (.node 28 XR .leaf .leaf) (.node 30 Vy .leaf .leaf)))) (.node 39 XU (.node 35 VA (.node 33 XS (.node 32 Vz .leaf .leaf) (.node 34 VA .leaf .leaf)) (.node 37 Np (.node 36 XT .leaf .leaf) (.node 38 Np .leaf .leaf))) (.node 43 XW (.node 41 VB (.node 40 VB .leaf .leaf) (.node 42 XV .leaf .leaf)) (.node 45 Nq (.node 44 Nq .leaf .leaf) (.node 46 VC .leaf .leaf))))) (.node 63 X0 (.node 55 Do (.node 51 VE (.node 49 VD (.node 48 VD .leaf .leaf) (.node 50 XX .leaf .leaf)) (.node 53 VF (.node 52 VE .leaf .leaf) (.node 54 VF .leaf .leaf))) (.node 59 XY (.node 57 VG (.node 56 Do .leaf .leaf) (.node 58 VG .leaf .leaf)) (.node 61 VH (.node 60 XZ .leaf .leaf) (.node 62 VH .leaf .leaf)))) (.node 75 X4 (.node 67 X2 (.node 65 VI (.node 64 X1 .leaf .leaf) (.node 66 VI .leaf .leaf)) (.node 69 VJ (.node 68 X3 .leaf .leaf) (.node 70 VJ .leaf .leaf))) (.node 84 VL (.node 81 VK (.node 80 VK .leaf .leaf) (.node 82 X5 .leaf .leaf)) (.node 88 X6 (.node 85 VL .leaf .leaf) (.node 91 VM .leaf .leaf)))))) (.node 248 tc (.node 137 QL (.node 121 Do (.node 97 VN (.node 95 X7 (.node 94 Hd .leaf .leaf) (.node 96 VN .leaf .leaf)) (.node 113 Hd (.node 105 V3 .leaf .leaf) (.node 117 Hd .leaf .leaf))) (.node 129 Hd (.node 125 V4 (.node 122 Do .leaf .leaf) (.node 128 V5 .leaf .leaf)) (.node 135 Hd (.node 132 V6 .leaf .leaf) (.node 136 QL .leaf .leaf)))) (.node 169 Wb (.node 154 V7 (.node 147 QM (.node 139 SC .leaf .leaf) (.node 148 QM .leaf .leaf)) (.node 167 V9 (.node 156 V8 .leaf .leaf) (.node 168 Wa .leaf .leaf))) (.node 207 tc (.node 188 ta (.node 170 Wc .leaf .leaf) (.node 189 ta .leaf .leaf)) (.node 211 ta (.node 208 tc .leaf .leaf) (.node 212 ta .leaf .leaf))))) (.node 357 Np (.node 301 QP (.node 274 QO (.node 255 QN (.node 249 tc .leaf .leaf) (.node 256 QN .leaf .leaf)) (.node 278 Nq (.node 275 QO .leaf .leaf) (.node 279 Nq .leaf .leaf))) (.node 331 Wd (.node 328 ta (.node 302 QP .leaf .leaf) (.node 329 ta .leaf .leaf)) (.node 349 QQ (.node 340 We .leaf .leaf) (.node 350 QQ .leaf .leaf)))) (.node 403 Wh (.node 368 Do (.node 364 tc (.node 358 Np .leaf .leaf) (.node 365 tc .leaf .leaf)) (.node 401 Wf (.node 369 Do .leaf .leaf) (.node 402 Wg .leaf .leaf))) (.node 413 Wl (.node 407 Wj (.node 406 Wi .leaf .leaf) (.node 409 Wk .leaf .leaf)) (.node 480 Wn (.node 479 Wm .leaf .leaf) .leaf))))))
theorem W7:tys.ok Tryz.prog:=⟨aav,⟨ZX,⟨ZH,⟨Zz,⟨ty5,⟨ty3,⟨ty2,trivial,trivial⟩,⟨ty4,trivial,trivial⟩⟩,⟨Zw,⟨ty9,trivial,trivial⟩,⟨Zy,trivial,trivial⟩⟩⟩,⟨ZD,⟨ZB,⟨ZA,trivial,trivial⟩,⟨ZC,trivial,trivial⟩⟩,⟨ZF,⟨ZE,trivial,trivial⟩,⟨ZG,trivial,trivial⟩⟩⟩⟩,⟨ZP,⟨ZL,⟨ZJ,⟨ZI,trivial,trivial⟩,⟨ZK,trivial,trivial⟩⟩,⟨ZN,⟨ZM,trivial,trivial⟩,⟨ZO,trivial,trivial⟩⟩⟩,⟨ZT,⟨ZR,⟨ZQ,trivial,trivial⟩,⟨ZS,trivial,trivial⟩⟩,⟨ZV,⟨ZU,trivial,trivial⟩,⟨ZW,trivial,trivial⟩⟩⟩⟩⟩,⟨aaf,⟨Z7,⟨Z3,⟨ZZ,⟨ZY,trivial,trivial⟩,⟨Z1,trivial,trivial⟩⟩,⟨Z5,⟨Z4,trivial,trivial⟩,⟨Z6,trivial,trivial⟩⟩⟩,⟨aab,⟨Z9,⟨Z8,trivial,trivial⟩,⟨aaa,trivial,trivial⟩⟩,⟨aad,⟨aac,trivial,trivial⟩,⟨aae,trivial,trivial⟩⟩⟩⟩,⟨aan,⟨aaj,⟨aah,⟨aag,trivial,trivial⟩,⟨aai,trivial,trivial⟩⟩,⟨aal,⟨aak,trivial,trivial⟩,⟨aam,trivial,trivial⟩⟩⟩,⟨aar,⟨aap,⟨aao,trivial,trivial⟩,⟨aaq,trivial,trivial⟩⟩,⟨aat,⟨aas,trivial,trivial⟩,⟨aau,trivial,trivial⟩⟩⟩⟩⟩⟩,⟨Yz,⟨Yj,⟨Yb,⟨aaz,⟨aax,⟨aaw,trivial,trivial⟩,⟨aay,trivial,trivial⟩⟩,⟨X9,⟨X8,trivial,trivial⟩,⟨Ya,trivial,trivial⟩⟩⟩,⟨Yf,⟨Yd,⟨Yc,trivial,trivial⟩,⟨Ye,trivial,trivial⟩⟩,⟨Yh,⟨Yg,trivial,trivial⟩,⟨Yi,trivial,trivial⟩⟩⟩⟩,⟨Yr,⟨Yn,⟨Yl,⟨Yk,trivial,trivial⟩,⟨Ym,trivial,trivial⟩⟩,⟨Yp,⟨Yo,trivial,trivial⟩,⟨Yq,trivial,trivial⟩⟩⟩,⟨Yv,⟨Yt,⟨Ys,trivial,trivial⟩,⟨Yu,trivial,trivial⟩⟩,⟨Yx,⟨Yw,trivial,trivial⟩,⟨Yy,trivial,trivial⟩⟩⟩⟩⟩,⟨YP,⟨YH,⟨YD,⟨YB,⟨YA,trivial,trivial⟩,⟨YC,trivial,trivial⟩⟩,⟨YF,⟨YE,trivial,trivial⟩,⟨YG,trivial,trivial⟩⟩⟩,⟨YL,⟨YJ,⟨YI,trivial,trivial⟩,⟨YK,trivial,trivial⟩⟩,⟨YN,⟨YM,trivial,trivial⟩,⟨YO,trivial,trivial⟩⟩⟩⟩,⟨YX,⟨YT,⟨YR,⟨YQ,trivial,trivial⟩,⟨YS,trivial,trivial⟩⟩,⟨YV,⟨YU,trivial,trivial⟩,⟨YW,trivial,trivial⟩⟩⟩,⟨Y1,⟨YZ,⟨YY,trivial,trivial⟩,⟨Y0,trivial,trivial⟩⟩,⟨Y3,⟨Y2,trivial,trivial⟩,trivial⟩⟩⟩⟩⟩⟩
noncomputable def av:bx:=⟨Tryz.prog,tys,Nz⟩
theorem aM:av.Ok:=⟨W7,by kernel_rfl,λw w' h hb=>Nz.below h hb⟩
theorem pO{f:FuncId}{fn:Func}{n:Nat}{rs:Array ResultVar}{args:List AP1}{res:AP}(hf:av.P.funcs[f]? =some fn)(enter:∀(us:Array Value) w,(callFunc f us).run av.P w= .ok (.enter f us) w)(hn:fn.ntmps=n)(hrs:fn.results=rs)(h:∀S,BW args n λtm=>AWP av S c (XK av rs.toList res) ⟨tm,[]⟩)(hb:fn.body=some c:=by rfl):aN av f args res:=Ub aM hf hb enter hn (congrArg Array.toList hrs) h
theorem aw0(h:AWP av S x (WU av S y K) st):AWP av S (.seq x y) K st:=AWP.seq h
theorem aw1{id:Nat}{ops:Array Oper}(h:Bj av S ops.toList ops.toList st (K .normal)):AWP av S (.region id ops false) K st:=AWP.region aM h
theorem aw2(h:K .ret st):AWP av S .ret K st:=AWP.ret h
theorem aw3(h:K .normal st):AWP av S .skip K st:=AWP.skip h
theorem aw4{id:Nat}(h:K (.exit id) st):AWP av S (.exit id) K st:=AWP.exit h
theorem aw5{id:Nat}(h:AWP av S c (NS id K) st):AWP av S (.block id c) K st:=AWP.block h
theorem aw6{c:Operand}(h:aEv st c λv=>zh v (AWP av S x K st) (AWP av S y K st)):AWP av S (.cond c x y) K st:=AWP.cond h
theorem cP{Q K P:Prop}(h:Q)(k:K)(t:Q->K->P:=by first|exact λh k=>aaB h rfl k|exact λh k=>aH.mk ⟨_,_,h,.inl rfl,k⟩):P:=t h k
theorem aw7(h:X):AB true X Y:=ab8 h
theorem aw8(h:Y):AB false X Y:=ab7 h
end
end Go.Proofs.YthgkdhnlehneeaaGreatDoor
