/- AvJ6 -/
import Derived.Test.YtnlhpdbijmnkhaaGreatDoorAvJ5
set_option linter.unusedVariables false
set_option linter.unusedSimpArgs false
set_option maxRecDepth 100000
namespace Go.Proofs.YtnlhpdbijmnkhaaGreatDoor
open Go.RowKit
def Sc.start(l:List UInt8):Sc:=⟨aQ 32 l,false,0⟩
theorem CQ{l:List UInt8}(hl:l.length<=2000000):(Sc.start l).ok:=⟨sC,by rw[Sc.start,ge];exact hl⟩
theorem s9(c:UInt8)(l:List UInt8):(aQ c l).isEmpty=false:=by
 obtain⟨w,ws,e⟩:=eJ (c:=c) (s:=l)
 rw[e];rfl
abbrev y5(l:List UInt8):AO:= .cells 117 [.d (dL l),.d (dB false),.d (dB false),.d (dI 0)]
theorem dy(l:List UInt8):(Sc.start l).o=y5 l:=by
 simp only[Sc.o,Sc.start,ge,s9]
def Sc.over(s:Sc):Bool:=s.ws.isEmpty&& !s.bad
end Go.Proofs.YtnlhpdbijmnkhaaGreatDoor
namespace Go.Proofs.YtnlhpdbijmnkhaaGreatDoor
open Go.RowKit
theorem yv(l:List UInt8)(a b:Nat):(⟨l.toArray⟩:ByteArray).extract a b=⟨((l.take b).drop a).toArray⟩:=by
 rw[Lib.extract_eq]
 simp only[List.toList_toArray]
 rw[List.drop_take]
theorem sx{l:List UInt8}{f i:Nat}(hf:f<=i)(hi:i<l.length):l.drop f=(l.take i).drop f++l[i]::l.drop (i+1):=by
 conv=>lhs;rw[<-List.take_append_drop i l]
 rw[List.drop_append_of_le_length (by rw[List.length_take];omega),List.drop_eq_getElem_cons hi]
theorem AW.u8{n:Int}{K:Int->Prop}(h0:0<=n)(h1:n<=255)(h:K n):AW .u8 n K:=⟨n,by rw[IntKind.wrap_u8];omega,h⟩
def Cq(w:List UInt8):Int:=match lh w with
 |some n=>n
 |none=> -1
def atN(l:List (List UInt8))(i:Nat):Int:=match l[i]? with
 |some w=>Cq w
 |none=> -1
theorem Cr{w:List UInt8}{n:Nat}(h:lh w=some n):Cq w=n:=by unfold Cq;rw[h]
theorem im(n:Nat):Lib.itoa (n:Int)=Lib.decDigits n:=by
 unfold Lib.itoa
 rw[if_neg Iv];rfl
end Go.Proofs.YtnlhpdbijmnkhaaGreatDoor
namespace Go.Proofs.YtnlhpdbijmnkhaaGreatDoor
open Go.RowKit
end Go.Proofs.YtnlhpdbijmnkhaaGreatDoor
namespace Go.Proofs.YtnlhpdbijmnkhaaGreatDoor
open Go.RowKit
theorem xy(s:Sc):(bE s).2.ws=s.ws.tail:=by
 rw[iB]
 obtain⟨ws,b,a⟩:=s
 unfold jn Sc.next Sc.cur
 cases ws<;>(split<;>rfl)
theorem r6{s:Sc}{w:List UInt8}{r:List (List UInt8)}{v:Nat}(hw:s.ws=w::r)(h:lh w=some v):(bE s).1=v/\(bE s).2.bad=s.bad:=by
 obtain⟨ws,b,a⟩:=s
 simp only at hw
 subst hw
 rw[iB]
 unfold lh at h
 split at h
 ·rename_i hc
  injection h with h
  subst h
  rw[Bool.and_eq_true,decide_eq_true_eq]at hc
  have:¬((dJ w:Int)>1000000000):=by omega
  simp only[jn,Sc.cur,Sc.next,List.headD_cons,hc.1,if_true,true_and]
  simp[this]
 ·cases h
theorem AT{s:Sc}(h:(bE s).2.bad=false):s.bad=false/\∃w r v,s.ws=w::r/\lh w=some v:=by
 obtain⟨ws,b,a⟩:=s
 rw[iB]at h
 unfold jn at h
 split at h
 ·rename_i hd
  cases ws with
  |nil=>exact absurd hd (by simp[Sc.cur,nk])
  |cons w r=>
   have h':(b||decide ((dJ w:Int)>1000000000))=false:=h
   have hd:nk w 10=true:=hd
   rw[Bool.or_eq_false_iff,decide_eq_false_iff_not]at h'
   obtain⟨hb,h2⟩:=h'
   refine⟨hb,w,r,dJ w,rfl,?_⟩
   rw[yR hd,if_pos Iv]
 ·cases h
theorem Ag{b:UInt8}(h:gd b=true):b≠32:=by
 rintro rfl
 exact absurd h Ix
theorem Cn(n:Nat):(32:UInt8)∉Lib.decDigits n:=λh=>Ag (List.all_eq_true.1 (dR n).1 _ h) rfl
theorem iu{x:Int}(h:0<=x):(32:UInt8)∉Lib.itoa x:=by
 obtain⟨n,rfl⟩:=Int.eq_ofNat_of_zero_le h
 rw[im];exact Cn n
end Go.Proofs.YtnlhpdbijmnkhaaGreatDoor
namespace Go.Proofs.YtnlhpdbijmnkhaaGreatDoor
open Go.RowKit
end Go.Proofs.YtnlhpdbijmnkhaaGreatDoor
