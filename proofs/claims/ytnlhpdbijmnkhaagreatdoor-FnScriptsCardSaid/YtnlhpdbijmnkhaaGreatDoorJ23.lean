/- J23 -/
import Derived.Test.YtnlhpdbijmnkhaaGreatDoorAvJ6
set_option linter.unusedVariables false
set_option linter.unusedSimpArgs false
set_option maxRecDepth 100000
namespace Go.Proofs.YtnlhpdbijmnkhaaGreatDoor
open Go.RowKit
theorem xQ(l:List (List UInt8)):cS [32] l=aU 32 l:=by
 induction l with
 |nil=>rfl
 |cons a r ih=>
  cases r with
  |nil=>rfl
  |cons b r=>rw[cS,aU,ih];rfl
theorem gV{c:UInt8}:∀(n:Nat) (ws:List (List UInt8)),(aU c (ws.drop n)).length<=(aU c ws).length
 |0,ws=>by rw[List.drop_zero];exact Nat.le_refl _
 |n+1,[]=>by simp
 |n+1,w::ws=>Nat.le_trans (gV n ws) rc
end Go.Proofs.YtnlhpdbijmnkhaaGreatDoor
namespace Go.Proofs.YtnlhpdbijmnkhaaGreatDoor
open Go.RowKit
theorem uj(s:Sc):(aC s).2.ws=s.ws.tail:=by
 obtain⟨ws,b,a⟩:=s
 cases ws<;>rfl
theorem pf{s:Sc}{w:List UInt8}{r:List (List UInt8)}(hw:s.ws=w::r)(h:0<=dl w):(aC s).1=dl w/\(aC s).2.bad=s.bad:=by
 obtain⟨ws,b,a⟩:=s
 simp only at hw
 subst hw
 refine⟨rfl,?_⟩
 have:decide (dl w<0)=false:=by simp;omega
 show(b||decide (dl w<0))=b
 rw[this];simp
theorem y0{s:Sc}(h:(aC s).2.bad=false):s.bad=false/\∃w r,s.ws=w::r/\0<=dl w:=by
 obtain⟨ws,b,a⟩:=s
 cases ws with
 |nil=>cases h
 |cons w r=>
  have h':(b||decide (dl w<0))=false:=h
  rw[Bool.or_eq_false_iff,decide_eq_false_iff_not]at h'
  exact⟨h'.1,w,r,rfl,by omega⟩
theorem w4{w:List UInt8}(h:0<=dl w):bA (dl w)=w:=by
 unfold dl vw at h⊢
 simp only[il]at h⊢
 by_cases h0:[108,111,103]=w
 ·subst h0;decide
 by_cases h1:[115,116,111,114,101]=w
 ·subst h1;decide
 by_cases h2:[108,101,102,116]=w
 ·subst h2;decide
 by_cases h3:[114,105,103,104,116]=w
 ·subst h3;decide
 by_cases h4:[97,110,110]=w
 ·subst h4;decide
 by_cases h5:[98,111,98]=w
 ·subst h5;decide
 simp[h0,h1,h2,h3,h4,h5]at h
theorem aM{c:Int}(h:0<=c/\c<=5):dl (bA c)=c/\(32:UInt8)∉bA c/\(bA c).length<=5:=by
 have:c=0\/c=1\/c=2\/c=3\/c=4\/c=5:=by omega
 rcases this with rfl|rfl|rfl|rfl|rfl|rfl<;>decide
theorem Cd{x:Int}{k:Nat}(h0:0<=x)(hk:1<=k)(h:x<(10^k:Nat)):(Lib.itoa x).length<=k:=by
 obtain⟨n,rfl⟩:=Int.eq_ofNat_of_zero_le h0
 rw[im]
 exact mj hk Iv
theorem oZ{x:Int}(h0:0<=x)(h1:x<=1000000000):lh (Lib.itoa x)=some x.toNat:=by
 obtain⟨n,rfl⟩:=Int.eq_ofNat_of_zero_le h0
 rw[im]
 simpa using AI (n:=n) Iv
end Go.Proofs.YtnlhpdbijmnkhaaGreatDoor
