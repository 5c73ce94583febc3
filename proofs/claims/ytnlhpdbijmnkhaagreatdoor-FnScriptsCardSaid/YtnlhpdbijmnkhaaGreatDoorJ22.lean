/- J22 -/
import Derived.Test.YtnlhpdbijmnkhaaGreatDoorAvEnv
import Derived.Test.YtnlhpdbijmnkhaaGreatDoorAvJ3
import Derived.Test.YtnlhpdbijmnkhaaGreatDoorJ02
import Derived.Test.YtnlhpdbijmnkhaaGreatDoorJ21
set_option linter.unusedVariables false
set_option linter.unusedSimpArgs false
set_option maxRecDepth 100000
namespace Go.Proofs.YtnlhpdbijmnkhaaGreatDoor
open Go.Proofs.Tryz
open Go.ChangeShapes Go.WideShapes Go.RowKit
theorem Aq(x:Int):an av 37 [pI x] (rB (ac x 0 1000000)):=an.plain aj call37 rfl rfl λw _=>(sN x w _ rfl).mono λe w' h=>⟨h.1,by first|exact h.2|exact cU h.2⟩
theorem xD(x:Int):an av 82 [pI x] (rB (ac x 0 9)):=an.plain aj call82 rfl rfl λw _=>(bl x w _ rfl).mono λe w' h=>⟨h.1,by first|exact h.2|exact cU h.2⟩
theorem sk(x:Int):an av 86 [pI x] (rB (ac x 0 999)):=an.plain aj call86 rfl rfl λw _=>(cr x w _ rfl).mono λe w' h=>⟨h.1,by first|exact h.2|exact cU h.2⟩
theorem zM(x:Int):an av 117 [pI x] (rB (ac x 1 20)):=an.plain aj call117 rfl rfl λw _=>(bY x w _ rfl).mono λe w' h=>⟨h.1,by first|exact h.2|exact cU h.2⟩
theorem ly(x:Int):an av 153 [pI x] (rB (ac x 1 2000)):=an.plain aj call153 rfl rfl λw _=>(vG x w _ rfl).mono λe w' h=>⟨h.1,by first|exact h.2|exact cU h.2⟩
theorem mV(x:Int):an av 154 [pI x] (rB (ac x 1 2000)):=an.plain aj call154 rfl rfl λw _=>(sj x w _ rfl).mono λe w' h=>⟨h.1,by first|exact h.2|exact cU h.2⟩
theorem cn(x:Int):an av 63 [pI x] (rB (ac x 0 1000000)):=an.plain aj call63 rfl rfl λw _=>(dM x w _ rfl).mono λe w' h=>⟨h.1,by first|exact h.2|exact cU h.2⟩
theorem gm(x:Int):an av 152 [pI x] (rB (ac x 2 5)):=an.plain aj call152 rfl rfl λw _=>(rR x w _ rfl).mono λe w' h=>⟨h.1,by first|exact h.2|exact cU h.2⟩
theorem DB{Z:Nat->Prop}{w:World}{xs:List (List AD)}{v:Value}(h:bj Z w (.sl xs) v):∃(A:Option Addr) (cap s:Nat) (us:List (List Value)),v= .slice A xs.length cap/\xs.length<=cap/\cap<=maxLen/\us.length=xs.length/\(∀x∈xs,x.length=s)/\(∀u∈us,u.length=s)/\Fm Z w A us.flatten/\
  ∀(i j:Nat) x u a b,xs[i]? =some x->us[i]? =some u->x[j]? =some a->u[j]? =some b->bj Z w a b:=by
 cases h with
 |sl _ A cap s us h1 h2 h3 h4 h5 h6 h7=>exact⟨A,cap,s,us,rfl,h1,h2,h3,h4,h5,h6,h7⟩
theorem oq{α β:Type}(f:α->β):∀l:List α,(l.map λx=>[f x]).flatten=l.map f
 |[]=>rfl
 |x::r=>by rw[List.map_cons,List.flatten_cons,oq f r];rfl
theorem CB{Z:Nat->Prop}{w:World}{α:Type}{l:List α}{f:α->Value}{v:Value}(h:bj Z w (.sl (l.map λx=>[AD.pv (f x)])) v)(hz:∀b,Z b->b<w.heap.size):
  ∃A cap,v= .slice A l.length cap/\l.length<=cap/\cap<=maxLen/\Row w A (l.map f):=by
 obtain⟨A,cap,s,us,rfl,h1,h2,h3,h4,h5,h6,h7⟩:=DB h
 simp only[List.length_map]at h1 h3⊢
 refine⟨A,cap,rfl,h1,h2,?_⟩
 have hus:us=l.map λx=>[f x]:=by
  apply List.ext_getElem?
  intro i
  rw[List.getElem?_map]
  cases hd:l[i]? with
  |none=>rw[List.getElem?_eq_none];rfl;rw[h3];exact List.getElem?_eq_none_iff.1 hd
  |some x=>
   have hlt:i<us.length:=by rw[h3];exact(List.getElem?_eq_some_iff.1 hd).1
   rw[List.getElem?_eq_getElem hlt]
   have hx:(l.map λx=>[AD.pv (f x)])[i]? =some [AD.pv (f x)]:=by simp[hd]
   have hs:s=1:=(h4 _ (List.mem_of_getElem? hx)).symm
   have hu:=h5 us[i] (List.getElem_mem hlt)
   rw[hs]at hu
   obtain⟨y,hy⟩:=List.length_eq_one_iff.1 hu
   have:=lW rfl (h7 i 0 _ _ _ y hx (List.getElem?_eq_getElem hlt) rfl (by rw[hy];rfl))
   simp[hy,this,rH]
 have hfl:us.flatten=l.map f:=by
  rw[hus]
  exact oq f l
 rw[hfl]at h6
 intro j hj
 rcases h6 with h6|⟨b,off,hA,hZ,hc⟩
 ·rw[h6]at hj;simp at hj
 ·exact⟨b,off,hA,hz b hZ,hc⟩
theorem a8(l:List Int)(hw:∀x∈l,(Lit.int .i64 x).wf=true)(hl:l.length<=1000):an av 21 [.one (dIs l)] (rL (aD l)):=by
 refine⟨call21,λZ w us hz hg hl' hr=>?_⟩
 obtain⟨u,rfl⟩:=List.length_eq_one_iff.1 hl'
 have h:=hr 0 _ u rfl rfl
 obtain⟨A,cap,rfl,h1,h2,hrow⟩:=CB (f:=λn=> .int .i64 n) h hz
 have hrd:(Rep.sl (Rep.int .i64)).rd w [.slice A l.length cap] l (dW A (l.map λn=>Value.int .i64 n)++[]):=⟨A,cap,_,[],rfl,h1,h2,hrow,q6 w .i64 l hw,rfl⟩
 refine(sQ l A l.length cap _ w hrd (Dd aj hg).1 hl).mono ?_
 rintro e w' ⟨rfl,hb⟩
 exact⟨_,Z,rfl,hb,λ_ h=>h,λ_ h=> .inl h,.pv _ rfl⟩
abbrev eS(s:List UInt8):List AD:=[dL s]
theorem nJ(o:DOp):an av 84 [.agg [dI o.kind,dI o.a,dI o.b,dI o.c,dI o.d]] (rB (dd o)):=an.plain aj call84 rfl rfl λw _=>(xt o w _ rfl).mono λe w' h=>⟨h.1,by first|exact h.2|exact cU h.2⟩
end Go.Proofs.YtnlhpdbijmnkhaaGreatDoor
namespace Go.Proofs.YtnlhpdbijmnkhaaGreatDoor
open Go.Proofs.Tryz
open Go.ChangeShapes Go.WideShapes Go.RowKit
end Go.Proofs.YtnlhpdbijmnkhaaGreatDoor
namespace Go.Proofs.YtnlhpdbijmnkhaaGreatDoor
open Go.Proofs.Tryz
open Go.ChangeShapes Go.WideShapes Go.RowKit
theorem Row.grown{w w':World}{g o:Nat}{xs:List Value}{row:Option Nat}(h:Row w (some ⟨g,o,none⟩) xs)(hg:w.grownBy w' row)(hne:some g≠row):Row w' (some ⟨g,o,none⟩) xs:=by
 intro j hj
 obtain⟨b,off,e,hl,hc⟩:=h j hj
 injection e with e;injection e with e1 e2 e3
 subst e1 e2
 exact⟨g,o,rfl,Nat.lt_of_lt_of_le hl hg.size,λi u hu=>hg.cell (hc i u hu) hne⟩
end Go.Proofs.YtnlhpdbijmnkhaaGreatDoor
namespace Go.Proofs.YtnlhpdbijmnkhaaGreatDoor
open Go.Proofs.Tryz
open Go.ChangeShapes Go.WideShapes Go.RowKit
def ca(e:DEntry):Bool:=ac e.index 1 2000&&ac e.time 0 1000000&&ac e.client 2 5&&ac e.seq 1 2000&&dd e.op
def DEntry.ds(e:DEntry):List AD:=[dI e.index,dI e.time,dI e.client,dI e.seq,dI e.op.kind,dI e.op.a,dI e.op.b,dI e.op.c,dI e.op.d]
theorem eY(e:DEntry):an av 156 [.agg e.ds] (rB (ca e)):=by
 refine ai aj func156 rfl call156 ntmps156 (IG results156) λS=>?_
 conv=>whnf
 repeat'(first|(refine AWP.seq ?_)|((first|refine AWP.region aj ?_|refine AWP.ret ?_|refine AWP.skip ?_|refine AWP.exit ?_|refine AWP.block ?_|refine AWP.cond ?_|refine AB.tt ?_|refine AB.ff ?_|refine aa.pure (mV _) rfl ?_|refine aa.pure (cn _) rfl ?_|refine aa.pure (gm _) rfl ?_|refine aa.pure (ly _) rfl ?_|refine aa.pure (nJ e.op) rfl ?_|refine⟨rfl,?_⟩|refine AB.mk (λh=>?_) (λh=>?_))<;>conv=>whnf))
 all_goals simp[ca, *]
def bA(x:Int):List UInt8:=(fX x).data.toList
theorem vu(x:Int):fX x=⟨(bA x).toArray⟩:=by simp[bA]
theorem aB(x:Int):(bA x).length<=5:=by
 unfold bA fX
 repeat' split
 all_goals simp
theorem aX(x:Int):an av 22 [pI x] (rL (bA x)):=an.plain aj call22 rfl rfl λw _=>by
 have:=pr x w
 rwa[vu]at this
theorem fI{a:ByteArray}{l:List UInt8}(h:a.data.toList=l):AP.val (.one (.pv (.string a)))=rL l:=by
 subst h;simp
theorem za{a b c:Nat}{Q:Prop}(h:(a+b)*c<=140737488355328)(q:Q):(a+b)*c<=140737488355328/\Q:=⟨h,q⟩
theorem all_len{xs:List (List AD)}{s:Nat}{Q:Prop}(h:∀x∈xs,x.length=s)(q:Q):(∀x∈xs,x.length=s)/\Q:=⟨h,q⟩
theorem ci{a b:ByteArray}{Q:Prop}(h:a.data.toList.length+b.data.toList.length<=9223372036854775807)(q:Q):a.size+b.size<=9223372036854775807/\Q:=⟨by simpa using h,q⟩
theorem vn{x:Int}(h0:0<=x)(h1:x<=1000000000000):(Lib.itoa x).length<=21:=by
 have:=Lib.itoa_length_le x Iv Iv
 omega
end Go.Proofs.YtnlhpdbijmnkhaaGreatDoor
