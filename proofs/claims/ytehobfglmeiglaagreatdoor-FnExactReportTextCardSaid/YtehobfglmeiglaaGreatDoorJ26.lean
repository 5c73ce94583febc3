/- J26 -/
import Derived.Test.YtehobfglmeiglaaGreatDoorAvEnv
import Derived.Test.YtehobfglmeiglaaGreatDoorJ02
import Derived.Test.YtehobfglmeiglaaGreatDoorText1
import Derived.Test.YtehobfglmeiglaaGreatDoorJ03
import Derived.Laws.Cover3
set_option linter.unusedVariables false
set_option linter.unusedSimpArgs false
set_option maxRecDepth 100000
namespace Go.Proofs.YtehobfglmeiglaaGreatDoor
open Go.ChangeShapes Go.WideShapes Go.RowKit
theorem Gk{Z:Nat->Prop}{w:World}{xs:List (List AD)}{v:Value}(h:bl Z w (.sl xs) v):∃(A:Option Addr) (cap s:Nat) (us:List (List Value)),v= .slice A xs.length cap/\xs.length<=cap/\cap<=maxLen/\us.length=xs.length/\(∀x∈xs,x.length=s)/\(∀u∈us,u.length=s)/\Ii Z w A us.flatten/\
  ∀(i j:Nat) x u a b,xs[i]? =some x->us[i]? =some u->x[j]? =some a->u[j]? =some b->bl Z w a b:=by
 cases h with
 |sl _ A cap s us h1 h2 h3 h4 h5 h6 h7=>exact⟨A,cap,s,us,rfl,h1,h2,h3,h4,h5,h6,h7⟩
theorem vM{α β:Type}(f:α->β):∀l:List α,(l.map λx=>[f x]).flatten=l.map f
 |[]=>rfl
 |x::r=>by rw[List.map_cons,List.flatten_cons,vM f r];rfl
theorem zz{Z:Nat->Prop}{w:World}{α:Type}{l:List α}{f:α->Value}{v:Value}(h:bl Z w (.sl (l.map λx=>[AD.pv (f x)])) v)(hz:∀b,Z b->b<w.heap.size):
  ∃A cap,v= .slice A l.length cap/\l.length<=cap/\cap<=maxLen/\Row w A (l.map f):=by
 obtain⟨A,cap,s,us,rfl,h1,h2,h3,h4,h5,h6,h7⟩:=Gk h
 simp only[List.length_map]at h1 h3⊢
 refine⟨A,cap,rfl,h1,h2,?_⟩
 have hus:us=l.map λx=>[f x]:=by
  apply List.ext_getElem?
  intro i
  rw[List.getElem?_map]
  cases hd:l[i]? with
  |none=>rw[List.getElem?_eq_none];rfl;rw[h3];exact List.getElem?_eq_none_iff.1 hd
  |some x=>
   have hlt:i<us.length:=by rw[h3];exact(List.getElem?_eq_some_iff.1 hd).1
   rw[List.getElem?_eq_getElem hlt]
   have hx:(l.map λx=>[AD.pv (f x)])[i]? =some [AD.pv (f x)]:=by simp[hd]
   have hs:s=1:=(h4 _ (List.mem_of_getElem? hx)).symm
   have hu:=h5 us[i] (List.getElem_mem hlt)
   rw[hs]at hu
   obtain⟨y,hy⟩:=List.length_eq_one_iff.1 hu
   have:=hU rfl (h7 i 0 _ _ _ y hx (List.getElem?_eq_getElem hlt) rfl (by rw[hy];rfl))
   simp[hy,this,qv]
 have hfl:us.flatten=l.map f:=by
  rw[hus]
  exact vM f l
 rw[hfl]at h6
 intro j hj
 rcases h6 with h6|⟨b,off,hA,hZ,hc⟩
 ·rw[h6]at hj;simp at hj
 ·exact⟨b,off,hA,hz b hZ,hc⟩
theorem C9(l:List Int)(hw:∀x∈l,(Lit.int .i64 x).wf=true)(hl:l.length<=1000):aj av 35 [.one (dIs l)] (rL (bK l)):=by
 refine⟨Tryz.call35,λZ w us hz hg hl' hr=>?_⟩
 obtain⟨u,rfl⟩:=List.length_eq_one_iff.1 hl'
 have h:=hr 0 _ u rfl rfl
 obtain⟨A,cap,rfl,h1,h2,hrow⟩:=zz (f:=λn=> .int .i64 n) h hz
 have hrd:(Rep.sl (Rep.int .i64)).rd w [.slice A l.length cap] l (ft A (l.map λn=>Value.int .i64 n)++[]):=⟨A,cap,_,[],rfl,h1,h2,hrow,y7 w .i64 l hw,rfl⟩
 refine(uK l A l.length cap _ w hrd (Io ah hg).1 hl).mono ?_
 rintro e w' ⟨rfl,hb⟩
 exact⟨_,Z,rfl,hb,λ_ h=>h,λ_ h=> .inl h,.pv _ rfl⟩
abbrev eS(s:List UInt8):List AD:=[dL s]
theorem Bw(l:List (List UInt8))(by_:List UInt8)(hl:l.length<=100000000)(hlen:(bi by_ l).length<=1000000000)(hby:by_.length<=1000):aj av 135 [.one (.sl (l.map eS)),pL by_] (rL (bi by_ l)):=by
 refine⟨Tryz.call135,λZ w us hz hg hl' hr=>?_⟩
 match us,hl' with
 |[u,u2],_=>
 have h:=hr 0 _ u rfl rfl
 have h2:u2= .string ⟨by_.toArray⟩:=hU rfl (hr 1 _ u2 rfl rfl)
 subst h2
 obtain⟨A,cap,rfl,h1,h2,hrow⟩:=zz (f:=λs:List UInt8=>Value.string ⟨s.toArray⟩) (l:=l) h hz
 refine(ul l by_ A l.length cap w hrow rfl hl hlen hby).mono ?_
 rintro e w' ⟨rfl,hb⟩
 exact⟨_,Z,rfl,Ec hb,λ_ h=>h,λ_ h=> .inl h,.pv _ rfl⟩
theorem wy(x:Int)(h0:0<=x)(h1:x<=1000000000000):aj av 134 [pI x] (rL (Lib.itoa x)):=aj.plain ah Tryz.call134 rfl rfl λw _=>by
 obtain⟨n,rfl⟩:=Int.eq_ofNat_of_zero_le h0
 have:=xK n w Mo
 rwa[show Lib.decDigits n=Lib.itoa n by simp[Lib.itoa]]at this
end Go.Proofs.YtehobfglmeiglaaGreatDoor
namespace Go.Proofs.YtehobfglmeiglaaGreatDoor
open Go.RowKit
section
variable {E:aO}
abbrev uM:AD:= .pv (.slice none 0 0)
def BN(E:aO)(st:ASt)(rs:List ResultVar):Prop:=
 match rs with
 |[.tmp t]=>aTm st.tm t λv=>v= .one .nil
 |_=>False
def K6(E:aO)(rs:List ResultVar):Exit->ASt->Prop
 | .ret,st=>BN E st rs
 | .normal,st=>BN E st rs
 |_,_=>False
theorem nm(he:E.Ok){f:FuncId}{fn:Func}{c:Code}{n:Nat}{rs:List ResultVar}{args:List AP1}(hf:E.P.funcs[f]? =some fn)(hb:fn.body=some c)
  (enter:∀(us:Array Value) w,(callFunc f us).run E.P w= .ok (.enter f us) w) (hn:fn.ntmps=n) (hrs:fn.results.toList=rs)
  (h:∀S,x9 args n λtm=>AWP E S c (K6 E rs) ⟨tm,[]⟩):aj E f args (.val (.one uM)):=by
 refine⟨enter,λZ w us hz hg hl hr=>?_⟩
 subst hn hrs
 obtain⟨hle,hk⟩:=mO (h ⟨w,λ_=>False,Z⟩)
 have hs:Sim E.W ⟨w,λ_=>False,Z⟩ Z (λ_=>undef) ⟨args.map AP1.v++List.replicate (fn.ntmps-args.length) (.one .und),[]⟩ {tmps:=us.toArray++Array.replicate (fn.ntmps-us.toArray.size) undef,defers:=[]} w:=by
  refine⟨⟨rfl,rfl,rfl,Nat.le_refl _,λ_ _ _=>rfl,hz,λid o b ho _=>(by cases ho),λi j oi oj b hi _ _ _ _=>(by cases hi),λid o ho=>(by cases ho),f0.nil,hg,λb hb=>hb,λb hb=> .inl hb⟩,by simp[hl],λi x v hx hv=>?_,rfl⟩
  simp only at hx hv
  have hv':(us++List.replicate (fn.ntmps-us.length) undef)[i]? =some v:=by
   have:=hv
   rw[<-Array.getElem?_toList]at this
   simpa using this
  by_cases hi:i<us.length
  ·rw[List.getElem?_append_left (by simpa[hl]using hi),List.getElem?_map]at hx
   obtain⟨p,hp,rfl⟩:=Option.map_eq_some_iff.1 hx
   rw[List.getElem?_append_left hi]at hv'
   exact(hr i p v hp hv').v
  ·rw[List.getElem?_append_right Mv]at hx
   rw[List.getElem?_append_right Mo]at hv'
   have e1:=List.eq_of_mem_replicate (List.mem_of_getElem? hx)
   have e2:=List.eq_of_mem_replicate (List.mem_of_getElem? hv')
   subst e1 e2
   exact .one _ _ (show cy Z w (λ_=>undef) .und undef from rfl)
 refine calls_of_wp hf hb (wp_mono (hk.run _ w ⟨Z,_,hs⟩) λe a' w' h'=>?_)
 obtain⟨st',⟨Z',ρ',hs'⟩,hk'⟩:=h'
 have key:∀(v:Value),aT Z' w' ρ' (.one .nil) v->v= .slice none 0 0:=λv hv=>by cases hv with|one _ _ hv=>exact hv
 have fin:BN E st' fn.results.toList->a'.defers=[]/\∃v,(results fn a'.tmps).run E.P w'= .ok v w'/\∃v0 Z',Ending.returned v= .returned v0/\Below w.heap.size w w'/\(∀b,Z b->Z' b)/\(∀b,Z' b->Z b\/(w.heap.size<=b/\b<w'.heap.size))/\wU Z' w' (.val (.one uM)) v0:=by
  intro hr
  have hv:(results fn a'.tmps).run E.P w'= .ok (.slice none 0 0) w':=by
   unfold BN at hr
   split at hr
   ·rename_i t hrs
    obtain⟨x,hx,rfl⟩:=fE hr
    have hlt:t<a'.tmps.size:=by rw[hs'.len];exact(List.getElem?_eq_some_iff.1 hx).1
    have:=key _ (hs'.tm t _ _ hx (Array.getElem?_eq_getElem hlt))
    have e:results fn a'.tmps=(do let vs<-fn.results.mapM (cJ a'.tmps);pure (if h:vs.size=1 then vs[0]else .tuple vs)):=rfl
    rw[e,Sem.run_bind,Array.mapM_eq_mapM_toList,Sem.run_map,hrs,List.mapM_cons,Sem.run_bind]
    simp[cJ,hlt,this]
   ·exact hr.elim
  refine⟨hs'.df,_,hv,_,λb=>Z b,rfl,⟨hs'.ws.os,hs'.ws.tape,hs'.ws.output,hs'.ws.size,λb hb=>hs'.ws.old b hb (λh=>h)⟩,λb hb=>hb,λb hb=> .inl hb,(show bl _ _ uM _ from .pv _ rfl)⟩
 cases e with
 |normal=>exact fin hk'
 |ret=>exact fin hk'
 |_=>exact hk'.elim
def Il(v:AV)(b:Bool):Prop:=(v= .one (.d uM)/\b=true)\/(v= .one .nil/\b=true)\/(∃x y xs,v= .one (.d (.sl ((x::y)::xs)))/\b=false)
theorem AOp.eqNil{S:ba}{o:Oper}{st:ASt}{K:ASt->Prop}{t e:TypeId}{x:Operand}{p:TypeId}(b:Bool)(ho:o.op= .binOp .eql t x (.const (.slice none 0 0)) p)(ht:E.P.underlying t=some (.slice e))
  (hx:aEv st x λv=>Il v b) (hk:bU st o.dst (vB b) K):AOp E S o st K:=by
 refine .reads λZ ρ a w hsim=>?_
 obtain⟨v,hv,hx⟩:=aI hsim hx
 have key:∃A l c,a.eval x= .slice A l c/\A.isNone=b:=by
  rcases hx with⟨rfl,rfl⟩|⟨rfl,rfl⟩|⟨y,ys,xs,rfl,rfl⟩
  ·cases hv with|one _ _ hv=>
    have:a.eval x= .slice none 0 0:=xI hv
    exact⟨_,_,_,this,rfl⟩
  ·cases hv with|one _ _ hv=>exact⟨_,_,_,hv,rfl⟩
  ·cases hv with|one _ _ hv=>
    have hv:bl Z w (.sl ((y::ys)::xs)) (a.eval x):=hv
    generalize a.eval x=u at hv
    cases hv with
    |sl _ A cap s us h1 h2 h3 h4 h5 h6 h7=>
     refine⟨_,_,_,rfl,?_⟩
     rcases h6 with h6|⟨b,off,rfl,_⟩
     ·exfalso
      have hs:s=ys.length+1:=(h4 (y::ys) Mr).symm
      match us,h3 with
      |u::r,_=>
       have:=h5 u Mr
       rw[List.flatten_cons,List.append_eq_nil_iff]at h6
       rw[h6.1,hs]at this
       simp at this
     ·rfl
 obtain⟨A,l,c,e1,e2⟩:=key
 refine⟨_,.bool b,aX rfl,?_,hk⟩
 have hb:(binOp .eql t (.slice A l c) (.slice none 0 0)).run E.P w= .ok (.bool b) w:=by
  simp only[binOp]
  simp[run_equal_slice_nil w t e A l c ht,e2]
 have hc:a.eval (.const (.slice none 0 0))= .slice none 0 0:=rfl
 simp[execOp,ho,e1,hc,eqGuard_at_slice,hb]
end
end Go.Proofs.YtehobfglmeiglaaGreatDoor
