/- J18 -/
import Derived.Test.YtnlhpdbijmnkhaaGreatDoorJ20
import Derived.Test.YtnlhpdbijmnkhaaGreatDoorJ22
import Derived.Test.YtnlhpdbijmnkhaaGreatDoorJ03
import Derived.Test.YtnlhpdbijmnkhaaGreatDoorAvJ4
import Derived.Test.YtnlhpdbijmnkhaaGreatDoorJ21
import Derived.Test.YtnlhpdbijmnkhaaGreatDoorAvJ7
set_option linter.unusedVariables false
set_option linter.unusedSimpArgs false
set_option maxRecDepth 100000
namespace Go.Proofs.YtnlhpdbijmnkhaaGreatDoor
open Go.Proofs.Tryz
open Go.ChangeShapes Go.WideShapes Go.RowKit
theorem Cc:(Tryz.prog.info? 81).map (λi=>(i.zero,i.size,i.bytes))=some (some (.agg #[.int .i64 0,.int .i64 0,.int .i64 0,.int .i64 0,.slice none 0 0]),5,56):=by kernel_rfl
end Go.Proofs.YtnlhpdbijmnkhaaGreatDoor
namespace Go.Proofs.YtnlhpdbijmnkhaaGreatDoor
open Go.Proofs.Tryz
open Go.ChangeShapes Go.WideShapes Go.RowKit
theorem a6.free{E:aE}{f:FuncId}{args:List AA}{post:List (Nat×AO)}{res:AR}(hc:a6 E f args [] post [] res){w1 w:World}(hW:E.W w1)(hb:Below w1.heap.size w1 w)(us:List Value)(hl:us.length=args.length)
  (hr:∀(i:Nat) x u,args[i]? =some x->us[i]? =some u->aV (λb=>b<w.heap.size) w (λ_=>undef) x.v u):
  Calls E.P f us.toArray w λe w'=>∃v Z' ρ',e= .returned v/\Below w.heap.size w w'/\WS E.W (fh w (λb=>b<w.heap.size) (λ_=>undef) []) Z' w' ρ' post/\aV Z' w' ρ' res.v v:=by
 have hw0:WS E.W (fh w (λb=>b<w.heap.size) (λ_=>undef) []) (λb=>b<w.heap.size) w (λ_=>undef) []:=
  ⟨rfl,rfl,rfl,Nat.le_refl _,λ_ _ _=>rfl,λ_ h=>h,λ_ _ _ h=>(by cases h),λ_ _ _ _ _ h=>(by cases h),λ_ _ h=>(by cases h),f4.nil,⟨w1,hW,hb,λb h=>Nat.lt_of_lt_of_le h hb.size⟩,λ_ h=>h,λ_ h=> .inl h⟩
 refine(hc.run _ w _ us hw0 hl hr).mono ?_
 rintro e w' ⟨v,Z',ρ',rfl,hw,_,hv⟩
 refine⟨v,Z',ρ',rfl,⟨hw.os,hw.tape,hw.output,hw.size,λb hb=>hw.old b hb ?_⟩,hw,hv⟩
 rintro⟨id,o,h,_⟩
 cases h
theorem lp{Z:Nat->Prop}{w:World}{x:Int}{u:Value}(h:bj Z w (dI x) u):u= .int .i64 x:=lW rfl h
theorem DF{T:World->Prop}{Z':Nat->Prop}{w w':World}{ρ ρ':Nat->Value}{Z:Nat->Prop}{post:List (Nat×AO)}(h:WS T (fh w Z ρ []) Z' w' ρ' post){id:Nat}{l:List Int}(ho:az post id=some (.row 2 1 (l.map eI)))(hw:∀x∈l,(Lit.int .i64 x).wf=true):
  ∃A cap F,ρ' id= .slice A l.length cap/\Res (Rep.sl (Rep.int .i64)) w.heap.size w' [.slice A l.length cap] l F:=by
 obtain⟨us,_,h1,h2,h3,hown,hd⟩:=h.obj id _ ho
 have hus:us.flatten=l.map (Value.int .i64):=by
  have e:us=l.map λx=>[Value.int .i64 x]:=by
   apply List.ext_getElem
   ·simpa using h1
   ·intro i g1 g2
    have hi:i<l.length:=by simpa using g2
    have hl1:=h3 us[i] (List.getElem_mem g1)
    obtain⟨y,hy⟩:=List.length_eq_one_iff.1 hl1
    have:=hd i 0 (eI l[i]) us[i] (dI l[i]) y (by simp[hi]) (by simp[g1]) rfl (by rw[hy];rfl)
    rw[List.getElem_map,hy,lp this]
  rw[e,oq]
 rw[hus]at hown
 have hn:(l.map eI).length=l.length:=by simp
 rw[hn]at hown
 have hall:=q6 w' .i64 l hw
 obtain⟨A,cap,hv,hrd,hbl⟩:=Rep.sl_own (R:=Rep.int .i64) hown hall rfl
 refine⟨A,cap,_,hv,by rw[<-hv];exact hrd,?_,λb hb=>?_⟩
 ·rw[List.append_nil]
  unfold dW
  split
  ·simp
  ·split<;>simp
 ·rw[List.append_nil]at hb
  have hblk:aO (ρ' id)=some b:=by
   unfold dW at hb
   split at hb
   ·cases hb
   ·split at hb
    ·rw[hv]
     simp at hb
     simp[aO,hb]
    ·cases hb
  refine⟨?_,?_⟩
  ·rcases(h.mine id _ b ho hblk).2 with h|⟨_,_,h,_⟩
   ·exact h
   ·cases h
  ·rcases hown.2 with⟨hv2,_⟩|⟨g,cap2,cur,hv2,_,hg,_⟩
   ·rw[hv2]at hblk
    simp[aO]at hblk
   ·rw[hv2]at hblk
    simp[aO]at hblk
    subst hblk
    exact⟨cur,_,hg⟩
theorem t8{Z:Nat->Prop}{w:World}{ρ:Nat->Value}{a b:AV}{v:Value}(h:aV Z w ρ (.tup [a,b]) v):∃x y,v= .tuple #[x,y]/\aV Z w ρ a x/\aV Z w ρ b y:=by
 cases h with
 |tup _ us hl h=>
  match us,hl,h with
  |[],hl,_=>simp at hl
  |[x],hl,_=>simp at hl
  |x::y::z::r,hl,_=>simp at hl
  |[x,y],hl,h=>exact⟨x,y,rfl,h 0 _ _ rfl rfl,h 1 _ _ rfl rfl⟩
end Go.Proofs.YtnlhpdbijmnkhaaGreatDoor
namespace Go.Proofs.YtnlhpdbijmnkhaaGreatDoor
open Go.Proofs.Tryz
open Go.RowKit
def go:List (List UInt8)->List DStep->List DStep×Int
 |[],out=>(out,-1)
 |[w],out=>if w=[]then(out,-1)else if(aq w).2=false\/out.length=600 then([],out.length)else([],-3)
 |w::v::r,out=>if(aq w).2=false\/out.length=600 then([],out.length)else go (v::r) (out++[(aq w).1])
def bv(l:List UInt8):List DStep×Int:=if 20000<l.length then([],-2)else go (aQ 10 l) []
def eM(ps:List (List UInt8))(k:Nat):List DStep:=(ps.take k).map λw=>(aq w).1
theorem ow(ps:List (List UInt8)){k:Nat}(h:k<=ps.length):(eM ps k).length=k:=by simp[eM,h]
theorem rE{ps:List (List UInt8)}{k:Nat}(h:k<ps.length):eM ps (k+1)=eM ps k++[(aq ps[k]).1]:=by
 unfold eM
 rw[<-List.take_append_getElem h,List.map_append]
 rfl
theorem e9{α:Type}{l:List α}{k:Nat}(h:k<l.length):l.drop k=l[k]::l.drop (k+1):=List.drop_eq_getElem_cons h
theorem zL{ps:List (List UInt8)}{k:Nat}(h:k<ps.length)(hne:¬(k+1=ps.length/\ps[k]=[]))(hb:(aq ps[k]).2=false\/k=600):go (ps.drop k) (eM ps k)=([],(k:Int)):=by
 rw[e9 h]
 have hl:=ow ps (Nat.le_of_lt h)
 rcases Nat.lt_or_ge (k+1) ps.length with h1|h1
 ·rw[e9 h1]
  unfold go
  rw[hl,if_pos hb]
 ·have e:ps.drop (k+1)=[]:=List.drop_eq_nil_of_le h1
  rw[e]
  unfold go
  rw[hl,if_neg (λhw=>hne ⟨by omega,hw⟩),if_pos hb]
theorem CN{ps:List (List UInt8)}{k:Nat}(h:k<ps.length)(h1:k+1<ps.length)(hb:(aq ps[k]).2=true)(h6:k≠600):go (ps.drop k) (eM ps k)=go (ps.drop (k+1)) (eM ps (k+1)):=by
 have hl:=ow ps (Nat.le_of_lt h)
 rw[e9 h,e9 h1,rE h]
 conv=>lhs;unfold go
 rw[hl,if_neg (by rw[hb];simpa using h6)]
theorem CO{ps:List (List UInt8)}{k:Nat}(h:k<ps.length)(h1:k+1=ps.length)(hne:ps[k]≠ [])(hb:(aq ps[k]).2=true)(h6:k≠600):go (ps.drop k) (eM ps k)=([],-3):=by
 have hl:=ow ps (Nat.le_of_lt h)
 rw[e9 h,List.drop_eq_nil_of_le Iv]
 unfold go
 rw[hl,if_neg hne,if_neg (by rw[hb];simpa using h6)]
theorem DP{ps:List (List UInt8)}{k:Nat}(h:k<ps.length)(h1:k+1=ps.length)(he:ps[k]=[]):go (ps.drop k) (eM ps k)=(eM ps k,-1):=by
 rw[e9 h,List.drop_eq_nil_of_le Iv]
 unfold go
 rw[if_pos he]
structure pV (ps:List (List UInt8)) (R:List DStep×Int) (k:Nat):Prop where
 le:k<=ps.length
 six:k<=600
 mid:k<ps.length->R=go (ps.drop k) (eM ps k)
 fin:k=ps.length->R=([],-3)
 last:∀h:ps.length-1<ps.length,k=ps.length->ps[ps.length-1]≠ []
theorem pV.start{ps:List (List UInt8)}(h:ps≠ []):pV ps (go ps []) 0:=
 ⟨Nat.zero_le _,by omega,λ_=>by simp[eM],λe=>absurd (List.eq_nil_of_length_eq_zero e.symm) h,λ_ e=>absurd (List.eq_nil_of_length_eq_zero e.symm) h⟩
theorem pV.next{ps:List (List UInt8)}{R:List DStep×Int}{k:Nat}(h:pV ps R k)(hk:k<ps.length)(hne:¬(k+1=ps.length/\ps[k]=[]))(hb:(aq ps[k]).2=true)(h6:k≠600):pV ps R (k+1):=by
 have hs:=h.six
 refine⟨hk,by omega,λh1=>(h.mid hk).trans (CN hk h1 hb h6),λh1=>?_,λh0 h1=>?_⟩
 ·exact(h.mid hk).trans (CO hk h1 (λe=>hne ⟨h1,e⟩) hb h6)
 ·have e:ps.length-1=k:=by omega
  intro hw
  apply hne
  refine⟨h1,?_⟩
  rw[<-hw]
  congr 1
  exact e.symm
end Go.Proofs.YtnlhpdbijmnkhaaGreatDoor
namespace Go.Proofs.YtnlhpdbijmnkhaaGreatDoor
open Go.Proofs.Tryz
open Go.ChangeShapes Go.WideShapes Go.RowKit
theorem y6{l:List UInt8}:(0<=(aq l).1.kind/\(aq l).1.kind<=11)/\(0<=(aq l).1.a/\(aq l).1.a<=1000000000)/\(0<=(aq l).1.b/\(aq l).1.b<=1000000000)/\(0<=(aq l).1.c/\(aq l).1.c<=1000000000)/\bL (aq l).1.fates=true:=by
 by_cases h:(aq l).2=true
 ·obtain⟨x,e,ok,_⟩:=lw h
  rw[e]
  obtain⟨h1,h2,h3,h4,h5,_⟩:=aW ok
  exact⟨by simp only;omega,h2,h3,h4,h5⟩
 ·rw[xu h]
  decide
theorem B4{l:List Int}(h:bL l=true):∀x∈l,(Lit.int .i64 x).wf=true:=by
 intro x hx
 obtain⟨k,hk,rfl⟩:=List.getElem_of_mem hx
 have:=tK h hk
 exact bq Iv Iv
theorem zI{Z:Nat->Prop}{w:World}{ρ:Nat->Value}{k a b c:Int}{f:AC}{v:Value}(h:aV Z w ρ (iD k a b c f).v v):∃u,v= .agg #[.int .i64 k,.int .i64 a,.int .i64 b,.int .i64 c,u]/\cH Z w ρ f u:=by
 cases h with
 |agg _ us hl h=>
  match us,hl,h with
  |[],hl,_=>simp at hl
  |[x],hl,_=>simp at hl
  |[x,y],hl,_=>simp at hl
  |[x,y,z],hl,_=>simp at hl
  |[x,y,z,t],hl,_=>simp at hl
  |x::y::z::t::u::s::r,hl,_=>simp at hl
  |[x,y,z,t,u],hl,h=>
   have e0:x=_:=lp (show bj Z w (dI k) x from h 0 _ _ rfl rfl)
   have e1:y=_:=lp (show bj Z w (dI a) y from h 1 _ _ rfl rfl)
   have e2:z=_:=lp (show bj Z w (dI b) z from h 2 _ _ rfl rfl)
   have e3:t=_:=lp (show bj Z w (dI c) t from h 3 _ _ rfl rfl)
   subst e0 e1 e2 e3
   exact⟨u,rfl,h 4 _ _ rfl rfl⟩
def Bl(y:DStep×Bool)(w:World)(e:Ending)(w':World):Prop:=
 ∃A cap F,e= .returned (.tuple #[.agg #[.int .i64 y.1.kind,.int .i64 y.1.a,.int .i64 y.1.b,.int .i64 y.1.c,.slice A y.1.fates.length cap],.bool y.2])/\
  Rep.DStep.rd w' [.int .i64 y.1.kind,.int .i64 y.1.a,.int .i64 y.1.b,.int .i64 y.1.c,.slice A y.1.fates.length cap] y.1 F/\bR w.heap.size w' F/\Below w.heap.size w w'
theorem pt(l:List UInt8)(hl:l.length<=2000000){w1 w:World}(hW:uD w1)(hb:Below w1.heap.size w1 w):Calls Tryz.prog 18 #[.string ⟨l.toArray⟩] w (Bl (aq l) w):=by
 have ip:=wL l hl
 rw[xL]at ip
 obtain⟨hk,ha,hbb,hc,hf⟩:=y6 (l:=l)
 generalize aq l=y at ip hk ha hbb hc hf
 obtain⟨⟨k,a,b,c,f⟩,q⟩:=y
 simp only at hk ha hbb hc hf
 have wk:=bq (x:=k) Iv Iv
 have wa:=bq (x:=a) Iv Iv
 have wb:=bq (x:=b) Iv Iv
 have wc:=bq (x:=c) Iv Iv
 have harg:∀(i:Nat) x u,[AA.one (.d (dL l))][i]? =some x-> [Value.string ⟨l.toArray⟩][i]? =some u->aV (λb=>b<w.heap.size) w (λ_=>undef) x.v u:=by
  intro i x u h1 h2
  cases i with
  |zero=>
   simp at h1 h2
   subst h1 h2
   exact .one _ _ (show bj _ _ (dL l) _ from .pv _ rfl)
  |succ i=>simp at h1
 rcases ip with⟨h0,m⟩|⟨hq,hfl,m⟩
 ·simp only at h0 m
  subst h0
  refine(m.free hW hb [.string ⟨l.toArray⟩] rfl harg).mono ?_
  rintro e w' ⟨v,Z',ρ',rfl,hbl,hws,hv⟩
  obtain⟨x,z,rfl,hx,hz⟩:=t8 hv
  obtain⟨u,rfl,hu⟩:=zI hx
  have ez:z= .bool q:=be hz
  subst ez
  have eu:u= .slice none 0 0:=hu
  subst eu
  exact⟨none,0,[],rfl,pR (x:=⟨k,a,b,c,[]⟩) wk wa wb wc ⟨none,0,[],[],rfl,Nat.le_refl _,Nat.zero_le _,λj hj=>absurd hj (Nat.not_lt_zero _),⟨rfl,rfl⟩,rfl⟩,bR.nil _ _,hbl⟩
 ·simp only at hq m
  subst hq
  refine(m.free hW hb [.string ⟨l.toArray⟩] rfl harg).mono ?_
  rintro e w' ⟨v,Z',ρ',rfl,hbl,hws,hv⟩
  obtain⟨x,z,rfl,hx,hz⟩:=t8 hv
  obtain⟨u,rfl,hu⟩:=zI hx
  have ez:z= .bool true:=be hz
  subst ez
  obtain⟨A,cap,F,hA,hres⟩:=DF (id:=901) hws rfl (B4 hf)
  have eu:u=ρ' 901:=hu.1
  rw[hA]at eu
  subst eu
  exact⟨A,cap,F,rfl,pR (x:=⟨k,a,b,c,f⟩) wk wa wb wc hres.rd,hres.fresh,hbl⟩
end Go.Proofs.YtnlhpdbijmnkhaaGreatDoor
namespace Go.Proofs.YtnlhpdbijmnkhaaGreatDoor
open Go.Proofs.Tryz
open Go.ChangeShapes Go.WideShapes Go.RowKit
def f5{α:Type}(R:Rep α)(y:List α×Int)(w:World)(e:Ending)(w':World):Prop:=
 ∃A cap F,e= .returned (.tuple #[.slice A y.1.length cap,.int .i64 y.2])/\R.sl.rd w' [.slice A y.1.length cap] y.1 F/\bR w.heap.size w' F/\Below w.heap.size w w'
theorem f5.nil{α:Type}{R:Rep α}{y:List α×Int}{x:Int}{w w':World}(hb:Below w.heap.size w w')(h:y=([],x)):f5 R y w (.returned (.tuple #[.slice none 0 0,.int .i64 x])) w':=by
 subst h
 exact⟨none,0,[],rfl,⟨none,0,[],[],rfl,Nat.le_refl _,Nat.zero_le _,λj hj=>absurd hj (Nat.not_lt_zero _),⟨rfl,rfl⟩,rfl⟩,bR.nil _ _,hb⟩
theorem f5.of{α:Type}{R:Rep α}{y:List α×Int}{l:List α}{x:Int}{w w':World}{t:TypeId}{A:Option Addr}{n c:Nat}(hg:c7 R t w.heap.size w' (.slice A n c) n l)(hb:Below w.heap.size w w')(h:y=(l,x)):f5 R y w (.returned (.tuple #[.slice A n c,.int .i64 x])) w':=by
 subst h
 have hn:n=l.length:=hg.1
 subst hn
 obtain⟨A',c',F,e,h1,h2,h3⟩:=c7.out hg hb
 injection e with e
 injection e with e1 _ e2
 subst e1 e2
 exact⟨_,_,F,rfl,h1,h2,h3⟩
theorem oV{ps:List (List UInt8)}{k:Nat}(h:k<ps.length):(aU 10 (ps.drop k)).isEmpty=decide (k+1=ps.length/\ps[k]=[]):=by
 rw[e9 h]
 rcases Nat.lt_or_ge (k+1) ps.length with h1|h1
 ·rw[e9 h1]
  have:¬(k+1=ps.length/\ps[k]=[]):=λe=>by omega
  simp[aU,this]
 ·rw[List.drop_eq_nil_of_le h1]
  have e:k+1=ps.length:=by omega
  cases hp:ps[k]with
  |nil=>simp[aU,e]
  |cons a r=>simp[aU]
theorem DH{w:World}{o:Obj}(cs:Array Value)(t:TypeId):Row ((w.alloc o).alloc (.cells cs t)) (some ⟨w.heap.size+1,0,none⟩) cs.toList:=by
 have h:(w.alloc o).heap.size=w.heap.size+1:=by simp
 have:=DG (w:=w.alloc o) cs t
 rw[h]at this
 exact this
set_option maxHeartbeats 2000000 in
theorem np(l:List UInt8)(hl:l.length<=2000000)(w:World)(hW:uD w):Calls Tryz.prog 8 #[.string ⟨l.toArray⟩] w (f5 Rep.DStep (bv l) w):=by
 by_cases hlong:20000<l.length
 ·have e:bv l=([],-2):=by unfold bv;rw[if_pos hlong]
  have hz:(⟨l.toArray⟩:ByteArray).size=l.length:=by simp[ByteArray.size]
  rw[e]
  go_enter Tryz.func8,Tryz.ntmps8
  go_wp2
  go_ret2
  exact f5.nil (by repeat (first|with_reducible exact Below.refl _ _|with_reducible assumption|(with_reducible refine Below.drew ?_)|(with_reducible refine Below.alloc ?_ (by first|with_reducible exact Nat.le_refl _|omega|(simp;done)|(simp;omega)|(simp[World.setCell];omega)|(simp[World.setCell];done)) _)|(with_reducible refine Below.setCell ?_ (by first|with_reducible exact Nat.le_refl _|omega|(simp;done)|(simp;omega)|(simp[World.setCell];omega)|(simp[World.setCell];done)) _))) rfl
 ·have e:bv l=go (aQ 10 l) []:=by unfold bv;rw[if_neg hlong]
  have hz:(⟨l.toArray⟩:ByteArray).size=l.length:=by simp[ByteArray.size]
  have hne:=oF 10 l
  have hst:=pV.start hne
  have hnoL:∀w∈aQ 10 l,(10:UInt8)∉w:=sC
  have hjl:aU 10 (aQ 10 l)=l:=ge 10 l
  rw[e]
  generalize go (aQ 10 l) []=R at hst
  generalize hps:aQ 10 l=ps at*
  go_enter Tryz.func8,Tryz.ntmps8
  go_wp2
  go_loopw [4,5,6] (λout en rest wr=>∃(k:Nat) (A':Option Addr) (c':Nat),pV ps R k/\out= .slice A' k c'/\en= .bool (decide (k<ps.length))/\rest= .string ⟨(aU 10 (ps.drop k)).toArray⟩/\c7 Rep.DStep 81 w.heap.size wr (.slice A' k c') k (eM ps k)/\Below w.heap.size w wr) (λout _ _ _=>601-(match out with| .slice _ n _=>n|_=>0))
  case atStart=>
   have h0:0<ps.length:=List.length_pos_iff.2 hne
   refine⟨0,_,_,hst,rfl,by simp[h0],by rw[List.drop_zero,hjl],c7.empty _ _ _ (Nat.le_refl _),(by repeat (first|with_reducible exact Below.refl _ _|with_reducible assumption|(with_reducible refine Below.drew ?_)|(with_reducible refine Below.alloc ?_ (by first|with_reducible exact Nat.le_refl _|omega|(simp;done)|(simp;omega)|(simp[World.setCell];omega)|(simp[World.setCell];done)) _)|(with_reducible refine Below.setCell ?_ (by first|with_reducible exact Nat.le_refl _|omega|(simp;done)|(simp;omega)|(simp[World.setCell];omega)|(simp[World.setCell];done)) _)))⟩
  case round=>
   obtain⟨k,B',c',hs,rfl,rfl,rfl,hg,hb⟩:=hrel
   by_cases hlt:k<ps.length
   ·by_cases hend:k+1=ps.length/\ps[k]=[]
    ·have hR:=(hs.mid hlt).trans (DP hlt hend.1 hend.2)
     have H:=f5.of hg hb hR
     have hj:aU 10 (ps.drop k)=[]:=by
      have:=oV hlt
      rw[decide_eq_true hend]at this
      exact List.isEmpty_iff.1 this
     have hd:decide (k<ps.length)=true:=by simpa using hlt
     rw[hj,hd]
     clear hg hb hs hst
     go_wp2
     go_ret2
     exact H
    ·have hne2:(aU 10 (ps.drop k)).isEmpty=false:=by rw[oV hlt];exact decide_eq_false hend
     have hlen:(aU 10 (ps.drop k)).length<=20000:=by
      have:=gV (c:=10) k ps
      rw[hjl]at this
      omega
     obtain⟨_,m,hm⟩:=hW.below hb
     have hno:(10:UInt8)∉ps[k]:=hnoL _ (List.getElem_mem hlt)
     rw[e9 hlt]at hlen hne2⊢
     generalize hws:ps.drop (k+1)=ws at*
     generalize hw0:ps[k]=w0 at*
     have cc:=tE 10 w0 ws hno Iv
     generalize hrb:(⟨(aU 10 (w0::ws)).toArray⟩:ByteArray)=rb at*
     have hrE:rb.toList.isEmpty=false:=by
      rw[<-hrb]
      simpa using hne2
     clear hst hz hl hlong e
     go_wp2_with fail
     refine(cc wr m hm).mono ?_
     rintro e W1 ⟨rfl,n1,rfl⟩
     have hemp:(!ws.isEmpty)=decide (k+1<ps.length):=by
      rw[<-hws]
      rcases Nat.lt_or_ge (k+1) ps.length with h|h
      ·rw[e9 h];simp[h]
      ·rw[List.drop_eq_nil_of_le h];simp;omega
     have hw0l:w0.length<=2000000:=by
      have:=gV (c:=10) 0 (w0::ws)
      have h1:w0.length<=(aU 10 (w0::ws)).length:=by
       cases ws with
       |nil=>simp[aU]
       |cons v r=>simp[aU]
      omega
     have hbW:Below w.heap.size w (wr.drewN n1):=hb.trans ((ng wr n1).mono hb.size)
     go_wp2_with fail
     refine(pt w0 hw0l hW hbW).mono ?_
     rintro e W2 ⟨A1,c1,F1,rfl,hrd,hfr,hb2⟩
     cases hq:(aq w0).2 with
     |false=>
      have hR:R=([],(k:Int)):=(hs.mid hlt).trans (zL hlt (by rw[hw0];exact hend) (.inl (by rw[hw0];exact hq)))
      have hbx:=hbW.trans (hb2.mono hbW.size)
      clear hg hrd hfr hs hrb cc hb2 hbW hb
      go_wp2_with fail
      go_ret2
      have hz2:=hbx.size
      exact f5.nil (Below.trans (b:=W2) hbx (by repeat (first|with_reducible exact Below.refl _ _|with_reducible assumption|(with_reducible refine Below.drew ?_)|(with_reducible refine Below.alloc ?_ (by first|with_reducible exact Nat.le_refl _|omega|(simp;done)|(simp;omega)|(simp[World.setCell];omega)|(simp[World.setCell];done)) _)|(with_reducible refine Below.setCell ?_ (by first|with_reducible exact Nat.le_refl _|omega|(simp;done)|(simp;omega)|(simp[World.setCell];omega)|(simp[World.setCell];done)) _)))) hR
     |true=>
      by_cases h6:k=600
      ·have hR:R=([],(k:Int)):=(hs.mid hlt).trans (zL hlt (by rw[hw0];exact hend) (.inr h6))
       have hbx:=hbW.trans (hb2.mono hbW.size)
       have h6a:((k:Int)==600)=true:=by simp[h6]
       have h6b:(k:Int)=600:=by simp[h6]
       clear hg hrd hfr hs hrb cc hb2 hbW hb
       go_wp2_with fail
       go_ret2
       have hz2:=hbx.size
       exact f5.nil (Below.trans (b:=W2) hbx (by repeat (first|with_reducible exact Below.refl _ _|with_reducible assumption|(with_reducible refine Below.drew ?_)|(with_reducible refine Below.alloc ?_ (by first|with_reducible exact Nat.le_refl _|omega|(simp;done)|(simp;omega)|(simp[World.setCell];omega)|(simp[World.setCell];done)) _)|(with_reducible refine Below.setCell ?_ (by first|with_reducible exact Nat.le_refl _|omega|(simp;done)|(simp;omega)|(simp[World.setCell];omega)|(simp[World.setCell];done)) _)))) (by rw[hR,h6];rfl)
      ·have hs2:=hs.next hlt (by rw[hw0];exact hend) (by rw[hw0];exact hq) h6
       have hout:eM ps (k+1)=eM ps k++[(aq w0).1]:=by rw[rE hlt,hw0]
       have h6a:((k:Int)==600)=false:=by simp;omega
       have h6b:¬(k:Int)=600:=by omega
       have hsix:=hs.six
       have hz:=hb.size
       have hbw:Below wr.heap.size wr W2:=(ng wr n1).trans (hb2.mono Iy)
       have hfr2:bR wr.heap.size W2 F1:=hfr.mono Iy
       have hbx:=hbW.trans (hb2.mono hbW.size)
       have hz2:=hbx.size
       have hz3:=hbw.size
       clear hrb cc hb2 hbW hb hfr hs hne2 hlen hno
       go_wp2_with (at_builtin;go_must (refine xR (R:=Rep.DStep) rfl _ _ 71 rfl wr 81 w.heap.size Tryz.underlying71 Cc rfl Ix _ k (eM ps k) rfl hg (by repeat (first|with_reducible exact Below.refl _ _|with_reducible assumption|(with_reducible refine Below.drew ?_)|(with_reducible refine Below.alloc ?_ (by first|with_reducible exact Nat.le_refl _|omega|(simp;done)|(simp;omega)|(simp[World.setCell];omega)|(simp[World.setCell];done)) _)|(with_reducible refine Below.setCell ?_ (by first|with_reducible exact Nat.le_refl _|omega|(simp;done)|(simp;omega)|(simp[World.setCell];omega)|(simp[World.setCell];done)) _))) _ 1 _ _ [(aq w0).1] F1 rfl rfl (DH _ _) (Rep.all_one_elem (Rep.below_all (R:=Rep.DStep) hrd (by repeat (first|with_reducible exact Below.refl _ _|with_reducible assumption|(with_reducible refine Below.drew ?_)|(with_reducible refine Below.alloc ?_ (by first|with_reducible exact Nat.le_refl _|omega|(simp;done)|(simp;omega)|(simp[World.setCell];omega)|(simp[World.setCell];done)) _)|(with_reducible refine Below.setCell ?_ (by first|with_reducible exact Nat.le_refl _|omega|(simp;done)|(simp;omega)|(simp[World.setCell];omega)|(simp[World.setCell];done)) _))))) (hfr2.below (by repeat (first|with_reducible exact Below.refl _ _|with_reducible assumption|(with_reducible refine Below.drew ?_)|(with_reducible refine Below.alloc ?_ (by first|with_reducible exact Nat.le_refl _|omega|(simp;done)|(simp;omega)|(simp[World.setCell];omega)|(simp[World.setCell];done)) _)|(with_reducible refine Below.setCell ?_ (by first|with_reducible exact Nat.le_refl _|omega|(simp;done)|(simp;omega)|(simp[World.setCell];omega)|(simp[World.setCell];done)) _)))) hz Iv Ix ?_);intro A2 c2 w2 hg2 hb2 hgr2)
       have hg3:c7 Rep.DStep 81 w.heap.size w2 (.slice A2 (k+1) c2) (k+1) (eM ps (k+1)):=by rw[hout];exact hg2
       have hb3:Below w.heap.size w w2:=Below.trans (b:=W2) hbx (Below.trans (by repeat (first|with_reducible exact Below.refl _ _|with_reducible assumption|(with_reducible refine Below.drew ?_)|(with_reducible refine Below.alloc ?_ (by first|with_reducible exact Nat.le_refl _|omega|(simp;done)|(simp;omega)|(simp[World.setCell];omega)|(simp[World.setCell];done)) _)|(with_reducible refine Below.setCell ?_ (by first|with_reducible exact Nat.le_refl _|omega|(simp;done)|(simp;omega)|(simp[World.setCell];omega)|(simp[World.setCell];done)) _))) hb2)
       clear hg hg2 hrd hfr2 hgr2
       exact⟨⟨k+1,A2,c2,hs2,rfl,rfl,by rw[hws],hg3,hb3⟩,by simp;omega⟩
   ·have hk:k=ps.length:=Nat.le_antisymm hs.le Iv
    have hR:=hs.fin hk
    have hd:decide (k<ps.length)=false:=by simpa using hlt
    have hj:aU 10 (ps.drop k)=[]:=by rw[List.drop_eq_nil_of_le Iv];rfl
    have H:f5 Rep.DStep R w (.returned (.tuple #[.slice none 0 0,.int .i64 (-3)])) wr:=f5.nil hb hR
    rw[hj,hd]
    clear hg hb hs hst
    go_wp2
    go_ret2
    exact H
end Go.Proofs.YtnlhpdbijmnkhaaGreatDoor
