/- AvDT -/
import Derived.Test.YtknefkdcokgpbaaGreatAvJ3
import Derived.OrdersHeld
set_option maxHeartbeats 8000000
set_option linter.unusedVariables false
set_option linter.unusedSimpArgs false
set_option maxRecDepth 100000
open List (all_eq_true getElem?_drop getElem?_map mem_filter mem_map mem_range)
open Nat (eq_of_beq_eq_true)
open Bool (and_eq_true not_eq_true' or_eq_true)
open Array (getD_eq_getD_getElem? getElem?_eq_getElem toArray_toList)
namespace Go.Proofs.YtknefkdcokgpbaaGreat
open Go.RowKit
section
variable {E:bB} {S:bV} {Z:Nat->Prop} {ρ:Nat->Value} {st:ASt} {a:Act} {w:World} {K:ASt->Prop} {o:Oper}
structure oG where
 id:Nat
 fid:Nat
 b:Nat
 us:List Value
 t:TypeId
def JQ(b:Nat)(us:List Value)(t:TypeId):World->Value->Prop:=λw v=>v= .pointer (some ⟨b,0,none⟩)/\w.heap[b]? =some (.cells us.toArray t (0,0))
def zO(R:(Nat->Prop)->World->Value->Prop):AO:= .frame [.one (.d (.x R))] [.bool true]
def Gl(ps:List oG)(w:World):Prop:=∀p∈ps,w.heap[p.b]? =some (.cells p.us.toArray p.t (0,0))
def Ul(E:bB)(Z:Nat->Prop)(ρ:Nat->Value)(o:Oper)(a:Act)(w:World)(C:World->Prop)(K:AV->Prop):Prop:=∃x v,bX Z w ρ x v/\(∀w',C w'->(execOp a.eval o).run E.P w'= .ok (.value v) w')/\K x
theorem nq{t:TypeId}{i:TI}(hi:aS E.P t i){b off:Nat}{us:List Value}{cs:List AC}(hl:us.length=cs.length)(hr:∀(j:Nat) c u,cs[j]? =some c->us[j]? =some u->dW Z w ρ c u){K:AV->Prop}(hk:rX i cs K):
  ∃x v,(∀w':World,(∀j u,us[j]? =some u->w'.cell? ⟨b,off+j,none⟩=some u)->(loadVar t ⟨b,off,none⟩).run E.P w'= .ok v w')/\bX Z w ρ x v/\K x:=by
 unfold rX at hk;unfold loadVar;split at hk
 ·rename_i hg;obtain⟨hle,hk⟩:=oK hk;refine⟨_,.agg (us.take i.size).toArray,λw' hc=>?_,.agg _ (us.take i.size) (by simp[hl]) λj c u h1 h2=>?_,hk⟩
  ·have hlen:(us.take i.size).length=i.size:=al;have:=run_loadCells_list (P:=E.P) w' ⟨b,off,none⟩ (us.take i.size) (λj u hu=>by
    have hadd:(⟨b,off,none⟩:Addr).add j=⟨b,off+j,none⟩:=by unfold Addr.add;split<;>simp_all
    rw[hadd];rw[List.getElem?_take]at hu;split at hu
    ·exact hc j u hu
    ·cases hu)
   rw[hlen]at this;simp only[Sem.run_bind,hi.ag,hg,Result.andThen_ok,if_true,hi.sz,this,Sem.run_pure]
  ·rw[List.getElem?_take]at h1 h2;split at h1
   ·rename_i hlt;rw[if_pos hlt]at h2;exact hr j c u h1 h2
   ·cases h1
 ·rename_i hg;split at hk
  ·rename_i c r;cases us with
   |nil=>simp at hl
   |cons u us=>
    refine⟨_,u,λw' hc=>?_,.one _ _ (hr 0 c u rfl rfl),hk⟩;have:=hc 0 u rfl;simp only[Nat.add_zero]at this;simp[hi.ag,hg,this]
  ·exact hk.elim
theorem K1(he:E.Ok){t:TypeId}{i:TI}(hi:aS E.P t i){us:List Value}{cs:List AC}(hl:us.length=cs.length)(hr:∀(j:Nat) c u,cs[j]? =some c->us[j]? =some u->dW Z w ρ c u){off:Nat}(hoff:off<=cs.length){K:AV->Prop}(hk:rX i (cs.drop off) K):
  ∃x v,(∀w',(part t us.toArray off).run E.P w'= .ok v w')/\bX Z w ρ x v/\K x:=by
 unfold rX at hk;unfold part;split at hk
 ·rename_i hg;obtain⟨hle,hk⟩:=oK hk;refine⟨_,.agg ((us.drop off).take i.size).toArray,λw'=>?_,.agg _ ((us.drop off).take i.size) (by simp[hl]) λj c u h1 h2=>?_,hk⟩
  ·simp only[Sem.run_bind,hi.ag,hg,Result.andThen_ok,if_true,hi.sz,Sem.run_pure];congr 2;simp[List.extract]
  ·rw[List.getElem?_take]at h1 h2;split at h1
   ·rename_i hlt;rw[if_pos hlt]at h2;rw[getElem?_drop]at h1 h2;exact hr _ c u h1 h2
   ·cases h1
 ·rename_i hg;split at hk
  ·rename_i c r hcs;have h1:cs[off]? =some c:=by
    have:=congrArg (·[0]?) hcs;simpa using this
   have hlt:off<us.length:=by rw[hl];exact(List.getElem?_eq_some_iff.1 h1).1
   refine⟨_,us[off],λw'=>?_,.one _ _ (hr off c us[off] h1 (List.getElem?_eq_getElem hlt)),hk⟩;simp[hi.ag,hg,hlt]
  ·exact hk.elim
def Gv:List oG->Nat->(oG->Prop)->Prop
 |[],_,_=>False
 |p::r,i,K=>match Nat.beq p.id i with
  |true=>K p
  |false=>Gv r i K
theorem AY{K:oG->Prop}{i:Nat}:∀{ps:List oG},Gv ps i K->∃p∈ps,p.id=i/\K p
 |[],h=>h.elim
 |p::r,h=>by
  unfold Gv at h;split at h
  ·rename_i e;exact⟨p,by simp,eq_of_beq_eq_true e,h⟩
  ·obtain⟨q,h1,h2⟩:=AY h;exact⟨q,by simp[h1],h2⟩
def MC:List AV->(List AC->Prop)->Prop
 |[],K=>K []
 | .one c::r,K=>MC r λcs=>K (c::cs)
 |_::_,_=>False
theorem xO:∀{vs:List AV} {K:List AC->Prop},MC vs K->∃cs,vs=cs.map .one/\K cs
 |[],_,h=>⟨[],rfl,h⟩
 | .one c::r,K,h=>by obtain⟨cs,e,hk⟩:=xO (vs:=r) h;exact⟨c::cs,by rw[e];rfl,hk⟩
 | .agg _::_,_,h=>h.elim
 | .tup _::_,_,h=>h.elim
def Uq(op:BinOp)(x y:AV)(K:AV->Prop):Prop:=
 match x,y with
 | .one (.d (.pv (.int k a))),.one (.d (.pv (.int k' b)))=>match Bf k k' with
  |true=>yr op k a b K
  |false=>False
 |_,_=>False
theorem KQ{E:bB}{op:BinOp}{k:IntKind}{x y:Int}{K:AV->Prop}(h:yr op k x y K):∃v,v.oneCell'=true/\(∀(w:World) t,(binOp op t (.int k x) (.int k y)).run E.P w= .ok v w)/\K (.one (.d (.pv v))):=by
 cases op<;>simp only[yr]at h<;>try exact h.elim
 case add=>obtain⟨c,rfl,hk⟩:=h.h;exact⟨_,rfl,λw t=>by simp[binOp,Op.intArith],hk⟩
 case sub=>obtain⟨c,rfl,hk⟩:=h.h;exact⟨_,rfl,λw t=>by simp[binOp,Op.intArith],hk⟩
 case mul=>obtain⟨c,rfl,hk⟩:=h.h;exact⟨_,rfl,λw t=>by simp[binOp,Op.intArith],hk⟩
 case quo=>obtain⟨c,rfl,hk⟩:=h.2.h;exact⟨_,rfl,λw t=>by simp[binOp,Op.intDiv,h.1],hk⟩
 case rem=>exact⟨_,rfl,λw t=>by simp[binOp,Op.intDiv,h.1],h.2⟩
 case and=>exact⟨_,rfl,λw t=>by simp[binOp,Op.intBits,TZ],h⟩
 case xor=>exact⟨_,rfl,λw t=>by simp[binOp,Op.intBits,Uj],h⟩
 case shr=>
  split at h
  ·rename_i hb;have hb:¬y<0:=by rw[decide_eq_true_eq]at hb;omega
   exact⟨_,rfl,λw t=>by simp[binOp,Op.shift,SK,hb],h⟩
  ·exact h.elim
 all_goals exact⟨_,rfl,λw t=>by simp[binOp,Op.intCmp],h⟩
def Po(E:bB)(ps:List oG)(pre:Bool)(o:Oper)(st:ASt)(K:AV->Prop):Prop:=
 match o.op with
 | .move x| .assign x=>aEv st x K
 | .binOp op _ x y _=>aEv st x λx=>aEv st y λy=>Uq op x y K
 | .field t x f=>aEv st x λx=>vC E t x f K
 | .fieldAddr t x f=>aEv st x λx=>kV E t x f K
 | .extract x i=>aEv st x λx=>match x with
  | .tup vs=>ov vs i K
  |_=>False
 | .load t x=>aEv st x λx=>match x with
  | .one (.ref id k s off) => Gv ps id fun p => aOb st.ob p.id fun o1 => And (o1 = .any (JQ p.b p.us p.t)) (aOb st.ob p.fid fun o2 => match o2 with
   | .frame vs us=>And (k=0) (And (us=p.us) (MC vs λcs=>wj cs off λcs=>aTI E.T t λi=>rX i cs K))
   |_=>False)
  | .one (.ptr ds)=>match pre with
   |true=>yv ds λcs=>aTI E.T t λi=>rX i cs K
   |false=>False
  |_=>False
 | .indexAddr t x i=>aEv st x λx=>aEv st i λi=>match x with
  | .one (.d (.sl xs))=>match i with
   | .one (.d (.pv (.int _ n)))=>aTI E.T t λti=>match ti.kind with
    | .sl e=>aTI E.T e λj=>match j.size with
     |0=>False
     |s+1=>AIx xs n λ_ x=>match H9 x (s+1)with
      |true=>K (.one (.ptr x))
      |false=>False
    |_=>False
   |_=>False
  | .one (.d (.x R))=>match i with
   | .one (.d (.pv (.int _ n)))=>aTI E.T t λti=>match ti.kind with
    | .sl e=>aTI E.T e λj=>match j.size with
     |0=>False
     |s+1=>AXi E.W st.ob R n (s+1) K
    |_=>False
   |_=>False
  |_=>False
 |_=>False
theorem JR(he:E.Ok){ps:List oG}{pre:Bool}{C:World->Prop}{K:AV->Prop}(h:Sim E.W S Z ρ st a w)(hC1:∀w',C w'->Gl ps w')(hC2:pre=true->∀w',C w'->∀b,Z b->w'.heap[b]? =w.heap[b]?)(hk:Po E ps pre o st K):Ul E Z ρ o a w C K:=by
 unfold Po at hk;split at hk
 ·rename_i x ho;obtain⟨v,hv,hk⟩:=bn h hk;exact⟨_,_,hv,λw' _=>by simp[execOp,ho],hk⟩
 ·rename_i x ho;obtain⟨v,hv,hk⟩:=bn h hk;exact⟨_,_,hv,λw' _=>by simp[execOp,ho],hk⟩
 ·rename_i op t x y t2 ho;obtain⟨vx,hx,hk⟩:=bn h hk;obtain⟨vy,hy,hk⟩:=bn h hk;unfold Uq at hk;split at hk
  ·rename_i k m k' n;split at hk
   ·rename_i e;have e:=Eu e;subst e;have e1:=cy hx;have e2:=cy hy;obtain⟨v,h1,h2,hk⟩:=KQ (E:=E) hk;refine⟨_,_,(cK h1),λw' _=>?_,hk⟩;simp only[execOp,ho,e1,e2];rw[lD (by rfl)];simp[h2]
   ·exact hk.elim
  ·exact hk.elim
 ·rename_i t x f ho;obtain⟨vx,hx,hk⟩:=bn h hk;unfold vC at hk;split at hk
  ·rename_i cs;obtain⟨i,hi,hk⟩:=bN he hk;split at hk
   ·rename_i fs hfs;obtain⟨fields,hu,hf⟩:=hi.stf hfs;obtain⟨p,hp,hk⟩:=fD hk;obtain⟨j,hj,hk⟩:=bN he hk;obtain⟨hle,hk⟩:=jK hk;rw[<-hf,getElem?_map]at hp;obtain⟨fl,hfl,rfl⟩:=Option.map_eq_some_iff.1 hp;have hfl':fields[f]? =some fl:=by simpa using hfl
    generalize hev:a.eval x=ve at hx;cases hx with
    |agg _ us hl hr=>
     obtain⟨y,v,hrun,hy,hk⟩:=K1 (w:=w) (ρ:=ρ) he hj hl hr hle hk;refine⟨_,_,hy,λw' _=>?_,hk⟩;simp[execOp,ho,hev,Instr.field,run_underlying hu,hfl',asAgg,hrun]
   ·exact hk.elim
  ·exact hk.elim
 ·rename_i t x f ho;obtain⟨vx,hx,hk⟩:=bn h hk;obtain⟨i,hi,hk⟩:=bN he hk;split at hk
  ·rename_i fs hfs;obtain⟨fields,hu,hf⟩:=hi.stf hfs;obtain⟨p,hp,hk⟩:=fD hk;obtain⟨j,hj,hk⟩:=bN he hk;rw[<-hf,getElem?_map]at hp;obtain⟨fl,hfl,rfl⟩:=Option.map_eq_some_iff.1 hp;have hfl':fields[f]? =some fl:=by simpa using hfl
   split at hk
   ·exact hk.elim
   ·rename_i n hn;have run:∀b off,a.eval x= .pointer (some ⟨b,off,none⟩)->∀w',(execOp a.eval o).run E.P w'= .ok (.value (.pointer (some ⟨b,off+fl.offset,none⟩))) w':=by
     intro b off e w';have:=tq (P:=E.P) (b:=b) (off:=off) (fl:=fl) w' hj.sz ac;simp[execOp,ho,e,Instr.fieldAt,run_underlying hu,hfl',Instr.sureAddr,this]
    split at hk
    ·cases hx with
     |one _ _ hx=>
      obtain⟨b,hb,e⟩:=hx;refine⟨_,_,(pp hb ?_),(λw' _=>run _ _ e w'),hk⟩;rw[Nat.add_assoc]
    ·cases hx with
     |one _ _ hx=>
      obtain⟨b,off,us,e,hZ,hl,hc,hd⟩:=hx;obtain⟨hle,hk⟩:=jK hk;refine⟨_,_,(tp ⟨b,off+fl.offset,us.drop fl.offset,rfl,hZ,by simp[hl],λi u hu=>?_,λi x u h1 h2=>?_⟩),(λw' _=>run _ _ e w'),hk⟩
      ·rw[getElem?_drop]at hu;rw[Nat.add_assoc];exact hc _ u hu
      ·rw[getElem?_drop]at h1 h2;exact hd _ x u h1 h2
    ·exact hk.elim
  ·exact hk.elim
 ·rename_i x i ho;obtain⟨vx,hx,hk⟩:=bn h hk;split at hk
  ·rename_i vs;obtain⟨y,hy,hk⟩:=fD hk;generalize hev:a.eval x=ve at hx;cases hx with
   |tup _ us hl hr=>
    have hlt:i<us.length:=by rw[hl];exact(List.getElem?_eq_some_iff.1 hy).1
    refine⟨_,_,(hr i y us[i] hy (List.getElem?_eq_getElem hlt)),λw' _=>?_,hk⟩;simp[execOp,ho,hev,Instr.extract,hlt]
  ·exact hk.elim
 ·rename_i t x ho;obtain⟨vx,hx,hk⟩:=bn h hk;split at hk
  ·rename_i id k s off;obtain⟨p,hp,hid,hk⟩:=AY hk;obtain⟨o1,ho1,rfl,hk⟩:=co hk;obtain⟨o2,ho2,hk⟩:=co hk;cases o2 with
   |frame vs us=>
    simp only at hk;obtain⟨ek,eu,hk1⟩:=hk;subst ek eu;obtain⟨cs,e0,hk⟩:=xO hk1;subst e0;obtain⟨hle,hk⟩:=jK hk;obtain⟨i,hi,hk⟩:=bN he hk;cases hx with
    |one _ _ hx=>
     obtain⟨b,hb,e⟩:=hx;obtain⟨b',hb',hlt,hq⟩:=(show cQ Z w ρ p.id (.any (JQ p.b p.us p.t))from h.ws.obj p.id _ ho1);have hq0:=hq w rfl;rw[<-hid,hq0.1]at hb;simp only[bQ]at hb;injection hb with hb
     subst hb;rw[Nat.zero_mul,Nat.zero_add]at e;obtain⟨_,hfl,hfr⟩:=(show cQ Z w ρ p.fid (.frame (cs.map .one) p.us)from h.ws.obj p.fid _ ho2);have hl:p.us.length=cs.length:=by simpa using hfl
     obtain⟨y,v,hrun,hy,hk⟩:=nq (E:=E) (Z:=Z) (w:=w) (ρ:=ρ) hi (b:=p.b) (off:=off) (us:=p.us.drop off) (cs:=cs.drop off) (by simp[hl]) (λj c u h1 h2=>by
      rw[getElem?_drop]at h1 h2;have:=hfr (off+j) (.one c) u (by rw[getElem?_map,h1];rfl) h2;cases this with|one _ _ h=>exact h) hk
     refine⟨_,_,hy,λw' hS=>?_,hk⟩;have hcell:=hC1 w' hS p hp;have:=hrun w' λj u hu=>by
      rw[getElem?_drop]at hu;rw[cell_of_row w' p.b _ _ _ _ hcell];simpa using hu
     simp[execOp,ho,e,Instr.loadAt,Instr.sureAddr,this]
   |_=>exact hk.elim
  ·rename_i ds;split at hk
   ·have hk:=mx hk;obtain⟨i,hi,hk⟩:=bN he hk;cases hx with
    |one _ _ hx=>
     obtain⟨b,off,us,e,hZ,hl,hc,hd⟩:=hx;obtain⟨y,v,hrun,hy,hk⟩:=nq (E:=E) (Z:=Z) (w:=w) (ρ:=ρ) hi (b:=b) (off:=off) (us:=us) (cs:=ds.map .d) (by simp[hl]) (λj c u h1 h2=>by
      rw[getElem?_map]at h1;obtain⟨d,h3,rfl⟩:=Option.map_eq_some_iff.1 h1;exact hd j d u h3 h2) hk
     refine⟨_,_,hy,λw' hS=>?_,hk⟩;have:=hrun w' λj u hu=>(World.cell?_of_block (a:=⟨b,off+j,none⟩) (hC2 rfl w' hS b hZ)).trans (hc j u hu);simp[execOp,ho,e,Instr.loadAt,Instr.sureAddr,this]
   ·exact hk.elim
  ·exact hk.elim
 ·rename_i t x ix ho;obtain⟨vx,hx,hk⟩:=bn h hk;obtain⟨vi,hi,hk⟩:=bn h hk;split at hk
  ·rename_i xs;split at hk
   ·rename_i ki n;have ei:=cy hi;obtain⟨ti,hti,hk⟩:=bN he hk;split at hk
    ·rename_i e hs;have hu:=hti.sl hs;obtain⟨j,hj,hk⟩:=bN he hk;split at hk
     ·exact hk.elim
     ·rename_i s hjs;have run:∀(b off k len cap:Nat),n=(k:Int)->k<len->a.eval x= .slice (some ⟨b,off,none⟩) len cap->∀w',(execOp a.eval o).run E.P w'= .ok (.value (.pointer (some ⟨b,off+k*(s+1),none⟩))) w':=by
       intro b off k len cap hn hkl ev w';subst hn;have hadd:(⟨b,off,none⟩:Addr).add (k*(s+1))=⟨b,off+k*(s+1),none⟩:=by unfold Addr.add;split<;>simp_all
       have hnk:¬len<=k:=ac;simp[execOp,ho,ei,ev,Instr.indexAt,asIntOf,run_underlying hu,hkl,hnk,hj.sz,hjs,hadd]
      generalize hev:a.eval x=ve at hx;cases hx with
      |one _ _ hx=>
       cases hx with
       |sl xs A cap s' us hc hm hl hxs hus hr hd=>
        obtain⟨k,ex,hn,hex,hk⟩:=hk.h;split at hk
        ·rename_i hlen;have hlen:=AK hlen;have hkx:=(List.getElem?_eq_some_iff.1 hex).1;have hku:k<us.length:=by rw[hl];exact hkx
         have hu1:us[k]? =some us[k]:=List.getElem?_eq_getElem hku;have hul:=hus us[k] (List.getElem_mem hku);have hs':s'=s+1:=by rw[<-hxs ex (List.mem_of_getElem? hex)];exact hlen
         subst hs';have hne:us.flatten≠ []:=by
          intro h0;have:=mV hus hu1 (List.getElem?_eq_getElem (show 0<us[k].length by omega));rw[h0]at this;simp at this
         obtain⟨b,off,hA,hZ,hcell⟩:=hr.resolve_left hne;subst hA;refine⟨_,_,(tp ⟨b,off+k*(s+1),us[k],rfl,hZ,by rw[hul,hlen],λi u hu=>?_,λi d u h1 h2=>hd k i ex us[k] d u hex hu1 h1 h2⟩),(λw' _=>run b off k _ cap hn hkx hev w'),hk⟩;rw[Nat.add_assoc];exact hcell _ u (mV hus hu1 hu)
        ·exact hk.elim
    ·exact hk.elim
   ·exact hk.elim
  ·rename_i R;split at hk
   ·rename_i ki n;have ei:=cy hi;obtain⟨ti,hti,hk⟩:=bN he hk;split at hk
    ·rename_i e hs;have hu:=hti.sl hs;obtain⟨j,hj,hk⟩:=bN he hk;split at hk
     ·exact hk.elim
     ·rename_i s hjs;obtain⟨y,hk1,hy⟩:=hk.h;generalize hev:a.eval x=ve at hx;cases hx with
      |one _ _ hx=>
       obtain⟨b,off,k,len,cap,e1,e2,e3,e4⟩:=hy S Z w ρ _ h.ws hx;subst e1 e2;refine⟨_,_,e4,λw' _=>?_,hk1⟩;have hadd:(⟨b,off,none⟩:Addr).add (k*(s+1))=⟨b,off+k*(s+1),none⟩:=by unfold Addr.add;split<;>simp_all
       have hnk:¬len<=k:=ac;simp[execOp,ho,ei,hev,Instr.indexAt,asIntOf,run_underlying hu,e3,hnk,hj.sz,hjs,hadd]
    ·exact hk.elim
   ·exact hk.elim
  ·exact hk.elim
 ·exact hk.elim
end
inductive Sch where
 |done
 |take (i:Nat) (s:Sch)
 |one (i:Nat) (s:Sch)
 |two (i:Nat) (s:Sch) (j:Nat) (t:Sch)
 |three (i:Nat) (s:Sch) (j:Nat) (t:Sch) (k:Nat) (u:Sch)
def tkc:List Nat->Sch->Sch
 |[],x=>x
 |n::r,x=> .take n (tkc r x)
def onc:List Nat->Sch->Sch
 |[],x=>x
 |n::r,x=> .one n (onc r x)
structure aO (X Y:Prop):Prop where
 l:X
 r:Y
def Be(E:bB)(S:bV)(ops:List Oper)(i:Nat)(st:ASt)(K:ASt->Prop):Prop:=
 ov ops i λo=>AE ops o st (λst=>aop E S o st K) (λst=>dR st o.dst (.one .und) K)
def mn(R:(Nat->Prop)->World->Value->Prop):List oG->ASt->Prop->Prop
 |[],st,X=>aOb st.ob 9970 λo=>And (o=zO R) X
 |p::r,st,X=>aOb st.ob p.id λo=>And (o= .any (JQ p.b p.us p.t)) (mn R r st X)
def Py(E:bB)(ps:List oG)(pre:Bool)(ops:List Oper)(i:Nat)(st:ASt)(K:ASt->Prop):Prop:=
 ov ops i λo=>AE ops o st (λst=>Po E ps pre o st λv=>dR st o.dst v K) (λst=>dR st o.dst (.one .und) K)
def Bg(E:bB)(S:bV)(ps:List oG)(R:(Nat->Prop)->World->Value->Prop)(ops:List Oper):Sch->ASt->(ASt->Prop)->Prop
 | .done,st,K=>K st
 | .take i s,st,K=>Py E ps false ops i st λst=>Bg E S ps R ops s st K
 | .one i s,st,K=>Be E S ops i st λst=>mn R ps st (Bg E S ps R ops s st K)
 | .two i s j t,st,K=>aO (Be E S ops i st λst=>mn R ps st (Bg E S ps R ops s st K)) (Be E S ops j st λst=>mn R ps st (Bg E S ps R ops t st K))
 | .three i s j t k u,st,K=>aO (Be E S ops i st λst=>mn R ps st (Bg E S ps R ops s st K)) (aO (Be E S ops j st λst=>mn R ps st (Bg E S ps R ops t st K)) (Be E S ops k st λst=>mn R ps st (Bg E S ps R ops u st K)))
def MF(E:bB)(S:bV)(ps:List oG)(R:(Nat->Prop)->World->Value->Prop)(ops:List Oper):Sch->ASt->(ASt->Prop)->Prop
 | .take i s,st,K=>Py E ps true ops i st λst=>MF E S ps R ops s st K
 |s,st,K=>Bg E S ps R ops s st K
def inL(L:List Nat)(i:Nat):Bool:=L.contains i
def CJ(A:List (List Nat))(L:List Nat)(i:Nat):Bool:=Nat.blt i A.length&& !inL L i&&(A.getD i []).all (inL L)
def lQ(ops:List Oper)(A:List (List Nat)):Sch->List Nat->Bool
 | .done,L=>(List.range A.length).all (inL L)
 | .take i s, L => CJ A L i && (match ops[i]? with
   | some o => (List.range A.length).all fun j => Nat.beq j i || inL L j || inL (A.getD j []) i || (match ops[j]? with
    |some oj=>o.apart ops.toArray oj
    |none=>true)
   |none=>false)&&lQ ops A s (i::L)
 | .one i s,L=>CJ A L i&&((List.range A.length).all λj=>Nat.beq j i|| !CJ A L j)&&lQ ops A s (i::L)
 | .two i s k t,L=>CJ A L i&&CJ A L k&&((List.range A.length).all λj=>Nat.beq j i||Nat.beq j k|| !CJ A L j)&&lQ ops A s (i::L)&&lQ ops A t (k::L)
 | .three i s k t m u,L=>CJ A L i&&CJ A L k&&CJ A L m&&((List.range A.length).all λj=>Nat.beq j i||Nat.beq j k||Nat.beq j m|| !CJ A L j)&&lQ ops A s (i::L)&&lQ ops A t (k::L)&&lQ ops A u (m::L)
def QD(ops:List Oper):Bool:=ops.all λo=>match o.op with| .select _ _=>false|_=>true
section
variable {E:bB} {S:bV} {ops:Array Oper}
theorem jZ{listed:Array Bool}(hs:listed.size=ops.size){i:Nat}:
  i∈Region.ready .any ops listed↔i<ops.size/\fw listed i=false/\∀e∈gI ops.toList i,fw listed e=true:=by
 rw[mem_ready];constructor
 ·rintro⟨h1,o,ho,h2⟩;have hlt:=(Array.getElem?_eq_some_iff.1 ho).1;refine⟨hlt,?_,λe he=>?_⟩
  ·simp only[fw,getD_eq_getD_getElem?]at h1⊢;rw[getElem?_eq_getElem ac]at h1⊢;simpa using h1
  ·rw[dQ (by simpa using ho)]at he;obtain⟨e',he',rfl⟩:=mem_map.1 he;obtain⟨hm,hb⟩:=mem_filter.1 he';exact h2 e' (by simpa using hm) hb
 ·rintro⟨hlt,h1,h2⟩;refine⟨?_,ops[i],getElem?_eq_getElem hlt,λe he hb=>?_⟩
  ·simp only[fw,getD_eq_getD_getElem?]at h1⊢;rw[getElem?_eq_getElem ac]at h1⊢;simpa using h1
  ·refine h2 _ ?_;rw[dQ (o:=ops[i]) (by simp[hlt])];exact mem_map.2 ⟨e,mem_filter.2 ⟨by simpa using he,hb⟩,rfl⟩
theorem jw{A:List (List Nat)}(hA:ops.toList.map r7=A){listed:Array Bool}{L:List Nat}(hs:listed.size=ops.size)(hl:∀j,j<ops.size->fw listed j=inL L j)(hlt:∀i o,ops.toList[i]? =some o->∀e∈r7 o,e<i){i:Nat}:i∈Region.ready .any ops listed↔CJ A L i=true:=by
 have hlen:A.length=ops.size:=by rw[<-hA];simp
 rw[jZ hs];unfold CJ;simp only[and_eq_true,not_eq_true',all_eq_true,hlen];constructor
 ·rintro⟨h1,h2,h3⟩;have hget:ops.toList[i]? =some ops[i]:=by simp[h1]
  refine⟨⟨Nat.ble_eq_true_of_le h1,by rw[<-hl i h1];exact h2⟩,λe he=>?_⟩;have he':e∈r7 ops[i]:=by
   rw[<-hA,List.getD_eq_getElem?_getD,getElem?_map,hget]at he;exact he
  have hei:=hlt i _ hget e he';rw[<-hl e ac];exact h3 e (by rw[dQ hget];exact he')
 ·rintro⟨⟨h1,h2⟩,h3⟩;have h1:i<ops.size:=Nat.le_of_ble_eq_true h1;have hget:ops.toList[i]? =some ops[i]:=by simp[h1]
  refine⟨h1,by rw[hl i h1];exact h2,λe he=>?_⟩;rw[dQ hget]at he;have hei:=hlt i _ hget e he;rw[hl e ac];refine h3 e ?_;rw[<-hA,List.getD_eq_getElem?_getD,getElem?_map,hget];exact he
theorem OE(he:E.Ok){K:ASt->Prop}{Q:Exit->Act->World->Prop}{A:List (List Nat)}(ps:List oG)(R:(Nat->Prop)->World->Value->Prop)(C:World->Prop)(hC1:∀w',C w'->Gl ps w')(hCz:∀Z w',Gl ps w'->R Z w' (.bool true)->C w')(hA:ops.toList.map r7=A)(hlt:∀i o,ops.toList[i]? =some o->∀e∈r7 o,e<i)(hsel:QD ops.toList=true)
  (hQ:∀a w,(∃st',hG E.W S st' a w/\K st')->Q .normal a w) (hP:∀c a w,¬Q (.panic c) a w):
  ∀(s:Sch) (L:List Nat) (fuel:Nat) (listed:Array Bool) (st:ASt) (a:Act) (w:World),listed.size=ops.size->(∀j,j<ops.size->fw listed j=inL L j)->lQ ops.toList A s L=true->oS (fw listed) ops.size<=fuel->hG E.W S st a w->C w->
   Bg E S ps R ops.toList s st K->wpAnyH E.P .any ops Q C fuel listed a w:=by
 have hlen:A.length=ops.size:=by rw[<-hA];simp
 have hse:∀(j:Nat) (o:Oper) cs b,ops[j]? =some o->o.op≠ .select cs b:=by
  intro j o cs b ho e;have:=all_eq_true.1 hsel o (by have:=Array.mem_of_getElem? ho;simpa using this);rw[e]at this;cases this
 intro s;have step:∀(i:Nat) (s:Sch) (L:List Nat) (fuel:Nat) (listed:Array Bool) (st:ASt) (a:Act) (w:World),listed.size=ops.size->(∀j,j<ops.size->fw listed j=inL L j)->CJ A L i=true->oS (fw listed) ops.size<=fuel+1->
   (∀(L:List Nat) (fuel:Nat) (listed:Array Bool) (st:ASt) (a:Act) (w:World),listed.size=ops.size->(∀j,j<ops.size->fw listed j=inL L j)->lQ ops.toList A s L=true->oS (fw listed) ops.size<=fuel->hG E.W S st a w->C w->Bg E S ps R ops.toList s st K->wpAnyH E.P .any ops Q C fuel listed a w)->
   lQ ops.toList A s (i::L)=true->i<ops.size/\fw listed i=false/\∀(st:ASt) (a:Act) (w:World),hG E.W S st a w->C w->Bg E S ps R ops.toList s st K->wpAnyH E.P .any ops Q C fuel (listed.setIfInBounds i true) a w:=by
  intro i s L fuel listed st a w hs hl hr hf ih hok;have hm:=(jw hA hs hl hlt).2 hr;obtain⟨h1,h2,_⟩:=(jZ hs).1 hm;refine⟨h1,h2,λst a w h hS hk=>ih (i::L) fuel _ st a w (by simpa using hs) (λj hj=>?_) hok ?_ h hS hk⟩
  ·rw[pf ac];simp only[hl j hj,inL,List.contains_cons];cases hb:Nat.beq j i with
   |true=>have:=eq_of_beq_eq_true hb;subst this;simp
   |false=>
    have:¬j=i:=Nat.ne_of_beq_eq_false hb;simp[this]
  ·rw[pf ac];have:=(wH h2 (n:=ops.size)).2 h1;omega
 have pos:∀{L:List Nat} {fuel:Nat} {listed:Array Bool} {i:Nat},listed.size=ops.size->(∀j,j<ops.size->fw listed j=inL L j)->CJ A L i=true->oS (fw listed) ops.size<=fuel->∃f,fuel=f+1:=by
  intro L fuel listed i hs hl hr hf;obtain⟨h1,h2,_⟩:=(jZ hs).1 ((jw hA hs hl hlt).2 hr);have:=(wH h2 (n:=ops.size)).2 h1;exact⟨fuel-1,ac⟩
 have pins:∀{st:ASt} {a:Act} {w:World} {X:Prop},hG E.W S st a w->mn R ps st X->C w/\X:=by
  intro st a w X h hk;obtain⟨Z,ρ,h⟩:=h;have key:∀qs:List oG,mn R qs st X->(Gl qs w/\R Z w (.bool true))/\X:=by
   intro qs hk;induction qs with
   |nil=>
    obtain⟨o,ho,rfl,hk⟩:=co (show aOb st.ob 9970 _ from hk);refine⟨⟨λp hp=>(by cases hp),?_⟩,hk⟩;have:=(show cQ Z w ρ 9970 (zO R)from h.ws.obj 9970 _ ho).2.2 0 _ _ rfl rfl;cases this with
    |one _ _ hx=>
     cases(show bR Z w (.x R) (.bool true)from hx)with
     |x _ _ _ hR=>exact hR Z w (λ_ h=>h) λ_ _=>rfl
   |cons p r ih=>
    obtain⟨o,ho,rfl,hk⟩:=co (show aOb st.ob p.id _ from hk);obtain⟨⟨h1,h1'⟩,h2⟩:=ih hk;refine⟨⟨λq hq=>?_,h1'⟩,h2⟩;rcases List.mem_cons.1 hq with rfl|hq
    ·obtain⟨b',hb',hlt,hq⟩:=(show cQ Z w ρ q.id (.any (JQ q.b q.us q.t))from h.ws.obj q.id _ ho);exact(hq w rfl).2
    ·exact h1 q hq
  obtain⟨⟨h1,h2⟩,h3⟩:=key ps hk;exact⟨hCz Z w h1 h2,h3⟩
 have run1:∀{i:Nat} {st:ASt} {a:Act} {w:World} {X:ASt->Prop} {Y:Act->World->Prop},i<ops.size->hG E.W S st a w->Be E S ops.toList i st X->(∀st a w,hG E.W S st a w->X st->Y a w)->wpOp E.P ops Q i Y a w:=by
  intro i st a w X Y hi h hk hY;obtain⟨o,ho,hk⟩:=fD hk;have ho':ops[i]? =some o:=by simpa using ho
  unfold wpOp;rw[ho'];obtain⟨Z,ρ,h⟩:=h;simp only;rcases mO h hk with⟨hw,st',hs',hk⟩|⟨hw,st',hs',hk⟩
  ·simp only[toArray_toList]at hw;simp only[hw,if_true];refine .inl (Oper.wp_mono (λa' w' h'=>?_) (xR he hs' hk Q));obtain⟨st2,h2,hk2⟩:=h';exact hY st2 a' w' h2 hk2
  ·simp only[toArray_toList]at hw;simp only[hw,Bool.false_eq_true,if_false];have:=hs'.put o.dst (x:= .one .und) (v:=undef) (.one _ _ (show dW Z w ρ .und undef from rfl));exact hY _ _ w ⟨Z,ρ,this⟩ (fW hk)
 induction s with
 |done=>
  intro L fuel listed st a w hs hl hok hf h hS hk;refine wpAnyH_done ?_ (hQ a w ⟨st,h,hk⟩) fuel;rw[List.eq_nil_iff_forall_not_mem];intro i hi;obtain⟨h1,h2,_⟩:=(jZ hs).1 hi;have:=all_eq_true.1 hok i (mem_range.2 ac);rw[hl i h1,this]at h2;cases h2
 |take i s ih=>
  intro L fuel listed st a w hs hl hok hf h hS hk;simp only[lQ,and_eq_true]at hok;obtain⟨⟨hr,hm⟩,hok⟩:=hok;obtain⟨fuel,rfl⟩:=pos hs hl hr hf;obtain⟨h1,h2,next⟩:=step i s L fuel listed st a w hs hl hr hf ih hok;have hio:ops[i]? =some ops[i]:=getElem?_eq_getElem h1;rw[show ops.toList[i]? =some ops[i]by simp[h1]]at hm;simp only[all_eq_true]at hm;have hap:=hm;obtain⟨o,ho,hk⟩:=fD (show ov ops.toList i _ from hk);have:o=ops[i]:=by
   rw[show ops.toList[i]? =some ops[i]by simp[h1]]at ho;injection ho with ho
   exact ho.symm
  subst this;have first:∀(v:Value),YieldsIf E.P ops C ops[i] v a->wpAnyH E.P .any ops Q C fuel (listed.setIfInBounds i true) (a.put ops[i].dst v) w->wpAnyH E.P .any ops Q C (fuel+1) listed a w:=by
   intro v hy hw;refine wpAnyH_first hio hse (λc a w hq=>(hP _ _ _ hq).elim) fuel listed a w (λj oj hj hji hun hno=>?_) ((jw hA hs hl hlt).2 hr) hy hS hw;have hjs:j<ops.size:=(Array.getElem?_eq_some_iff.1 hj).1;have hjl:ops.toList[j]? =some oj:=by simpa using hj
   have:=hap j (mem_range.2 ac);rw[hjl]at this;simp only[or_eq_true]at this;rcases this with((h3|h3)|h3)|h3
   ·exact absurd (eq_of_beq_eq_true h3) hji
   ·rw[<-hl j hjs]at h3;simp only[fw,getD_eq_getD_getElem?]at h3 hun;rw[getElem?_eq_getElem ac]at h3 hun;simp only[Option.getD_some]at h3 hun;rw[h3]at hun;cases hun
   ·exfalso;have h4:i∈r7 oj:=by
     rw[<-hA,List.getD_eq_getElem?_getD,getElem?_map,hjl]at h3;simpa[inL]using h3
    obtain⟨e',he',e2⟩:=mem_map.1 h4;obtain⟨hm,hb⟩:=mem_filter.1 he';exact hno e' (by simpa using hm) hb e2
   ·simpa using h3
  obtain⟨Z,ρ,h⟩:=h;rcases mO h hk with⟨hw,st',hs',hk⟩|⟨hw,st',hs',hk⟩
  ·simp only[toArray_toList]at hw;obtain⟨x,v,hx,hrun,hk⟩:=JR he hs' hC1 aj hk;exact first v (.inl ⟨hw,hrun⟩) (next _ _ w ⟨Z,ρ,hs'.put ops[i].dst hx⟩ hS (fW hk))
  ·simp only[toArray_toList]at hw;have:=hs'.put ops[i].dst (x:= .one .und) (v:=undef) (.one _ _ (show dW Z w ρ .und undef from rfl));exact first undef (.inr ⟨hw,rfl⟩) (next _ _ w ⟨Z,ρ,this⟩ hS (fW hk))
 |one i s ih=>
  intro L fuel listed st a w hs hl hok hf h hS hk;simp only[lQ,and_eq_true,all_eq_true]at hok;obtain⟨⟨hr,hm⟩,hok⟩:=hok;obtain⟨fuel,rfl⟩:=pos hs hl hr hf;obtain⟨h1,h2,next⟩:=step i s L fuel listed st a w hs hl hr hf ih hok;refine⟨λh0=>(by have:=(jw hA hs hl hlt).2 hr;rw[h0]at this;cases this),λj hj=>?_⟩;have hj':=(jw hA hs hl hlt).1 hj;have hjs:=((jZ hs).1 hj).1;have hji:j=i:=by
   have:=hm j (mem_range.2 ac);simp only[or_eq_true,not_eq_true']at this;rcases this with h3|h3
   ·exact eq_of_beq_eq_true h3
   ·rw[h3]at hj';cases hj'
  subst hji;exact run1 h1 h hk λst a w h hk=>by obtain⟨h5,h6⟩:=pins h hk;exact⟨h5,next st a w h h5 h6⟩
 |two i s k t ihs iht=>
  intro L fuel listed st a w hs hl hok hf h hS hk;simp only[lQ,and_eq_true,all_eq_true]at hok;obtain⟨⟨⟨⟨hr,hr2⟩,hm⟩,hok⟩,hok2⟩:=hok;obtain⟨fuel,rfl⟩:=pos hs hl hr hf;obtain⟨h1,h2,next⟩:=step i s L fuel listed st a w hs hl hr hf ihs hok;obtain⟨h3,h4,next2⟩:=step k t L fuel listed st a w hs hl hr2 hf iht hok2;refine⟨λh0=>(by have:=(jw hA hs hl hlt).2 hr;rw[h0]at this;cases this),λj hj=>?_⟩;have hj':=(jw hA hs hl hlt).1 hj;have hjs:=((jZ hs).1 hj).1;have hji:j=i\/j=k:=by
   have:=hm j (mem_range.2 ac);simp only[or_eq_true,not_eq_true']at this;rcases this with(h3|h3)|h3
   ·exact .inl (eq_of_beq_eq_true h3)
   ·exact .inr (eq_of_beq_eq_true h3)
   ·rw[h3]at hj';cases hj'
  rcases hji with rfl|rfl
  ·exact run1 h1 h hk.l λst a w h hk=>by obtain⟨h5,h6⟩:=pins h hk;exact⟨h5,next st a w h h5 h6⟩
  ·exact run1 h3 h hk.r λst a w h hk=>by obtain⟨h5,h6⟩:=pins h hk;exact⟨h5,next2 st a w h h5 h6⟩
 |three i s k t m u ihs iht ihu=>
  intro L fuel listed st a w hs hl hok hf h hS hk;simp only[lQ,and_eq_true,all_eq_true]at hok;obtain⟨⟨⟨⟨⟨⟨hr,hr2⟩,hr3⟩,hm⟩,hok⟩,hok2⟩,hok3⟩:=hok;obtain⟨fuel,rfl⟩:=pos hs hl hr hf;obtain⟨h1,h2,next⟩:=step i s L fuel listed st a w hs hl hr hf ihs hok;obtain⟨h3,h4,next2⟩:=step k t L fuel listed st a w hs hl hr2 hf iht hok2;obtain⟨h5,h6,next3⟩:=step m u L fuel listed st a w hs hl hr3 hf ihu hok3;refine⟨λh0=>(by have:=(jw hA hs hl hlt).2 hr;rw[h0]at this;cases this),λj hj=>?_⟩;have hj':=(jw hA hs hl hlt).1 hj;have hjs:=((jZ hs).1 hj).1;have hji:j=i\/j=k\/j=m:=by
   have:=hm j (mem_range.2 ac);simp only[or_eq_true,not_eq_true']at this;rcases this with((h3|h3)|h3)|h3
   ·exact .inl (eq_of_beq_eq_true h3)
   ·exact .inr (.inl (eq_of_beq_eq_true h3))
   ·exact .inr (.inr (eq_of_beq_eq_true h3))
   ·rw[h3]at hj';cases hj'
  rcases hji with rfl|rfl|rfl
  ·exact run1 h1 h hk.l λst a w h hk=>by obtain⟨h5,h6⟩:=pins h hk;exact⟨h5,next st a w h h5 h6⟩
  ·exact run1 h3 h hk.r.l λst a w h hk=>by obtain⟨h5,h6⟩:=pins h hk;exact⟨h5,next2 st a w h h5 h6⟩
  ·exact run1 h5 h hk.r.r λst a w h hk=>by obtain⟨h5,h6⟩:=pins h hk;exact⟨h5,next3 st a w h h5 h6⟩
theorem SI(he:E.Ok){K:ASt->Prop}{Q:Exit->Act->World->Prop}{A:List (List Nat)}(ps:List oG)(R:(Nat->Prop)->World->Value->Prop)(C:World->Prop)(hC1:∀w',C w'->Gl ps w')(hCz:∀Z w',Gl ps w'->R Z w' (.bool true)->C w')(hA:ops.toList.map r7=A)(hlt:∀i o,ops.toList[i]? =some o->∀e∈r7 o,e<i)(hsel:QD ops.toList=true)
  (hQ:∀a w,(∃st',hG E.W S st' a w/\K st')->Q .normal a w) (hP:∀c a w,¬Q (.panic c) a w) {Z:Nat->Prop} {ρ:Nat->Value} {w:World} (hC2:∀w',C w'->∀b,Z b->w'.heap[b]? =w.heap[b]?) (hS:C w):
  ∀(s:Sch) (L:List Nat) (fuel:Nat) (listed:Array Bool) (st:ASt) (a:Act),listed.size=ops.size->(∀j,j<ops.size->fw listed j=inL L j)->lQ ops.toList A s L=true->oS (fw listed) ops.size<=fuel->Sim E.W S Z ρ st a w->
   MF E S ps R ops.toList s st K->wpAnyH E.P .any ops Q C fuel listed a w:=by
 have hlen:A.length=ops.size:=by rw[<-hA];simp
 have main:=λs L fuel listed st a w=>OE (S:=S) he ps R C hC1 hCz hA hlt hsel hQ hP s L fuel listed st a w;have hse:∀(j:Nat) (o:Oper) cs b,ops[j]? =some o->o.op≠ .select cs b:=by
  intro j o cs b ho e;have:=all_eq_true.1 hsel o (by have:=Array.mem_of_getElem? ho;simpa using this);rw[e]at this;cases this
 intro s;induction s with
 |take i s ih=>
  intro L fuel listed st a hs hl hok hf h hk;simp only[lQ,and_eq_true]at hok;obtain⟨⟨hr,hm⟩,hok⟩:=hok;have hrd:=(jw hA hs hl hlt).2 hr;obtain⟨h1,h2,_⟩:=(jZ hs).1 hrd;have hcu:=(wH h2 (n:=ops.size)).2 h1;obtain⟨fuel,rfl⟩:∃f,fuel=f+1:=⟨fuel-1,ac⟩;have hio:ops[i]? =some ops[i]:=getElem?_eq_getElem h1;rw[show ops.toList[i]? =some ops[i]by simp[h1]]at hm;simp only[all_eq_true]at hm;obtain⟨o,ho,hk⟩:=fD (show ov ops.toList i _ from hk);have:o=ops[i]:=by
   rw[show ops.toList[i]? =some ops[i]by simp[h1]]at ho;injection ho with ho
   exact ho.symm
  subst this;have next:∀(st:ASt) (a:Act),Sim E.W S Z ρ st a w->MF E S ps R ops.toList s st K->wpAnyH E.P .any ops Q C fuel (listed.setIfInBounds i true) a w:=λst a h hk=>ih (i::L) fuel _ st a (by simpa using hs) (λj hj=>by
   rw[pf ac];simp only[hl j hj,inL,List.contains_cons];cases hb:Nat.beq j i with
   |true=>have:=eq_of_beq_eq_true hb;subst this;simp
   |false=>
    have:¬j=i:=Nat.ne_of_beq_eq_false hb;simp[this]) hok (by rw[pf ac];omega) h hk
  have first:∀(v:Value),YieldsIf E.P ops C ops[i] v a->wpAnyH E.P .any ops Q C fuel (listed.setIfInBounds i true) (a.put ops[i].dst v) w->wpAnyH E.P .any ops Q C (fuel+1) listed a w:=by
   intro v hy hw;refine wpAnyH_first hio hse (λc a w hq=>(hP _ _ _ hq).elim) fuel listed a w (λj oj hj hji hun hno=>?_) hrd hy hS hw;have hjs:j<ops.size:=(Array.getElem?_eq_some_iff.1 hj).1;have hjl:ops.toList[j]? =some oj:=by simpa using hj
   have:=hm j (mem_range.2 ac);rw[hjl]at this;simp only[or_eq_true]at this;rcases this with((h3|h3)|h3)|h3
   ·exact absurd (eq_of_beq_eq_true h3) hji
   ·rw[<-hl j hjs]at h3;simp only[fw,getD_eq_getD_getElem?]at h3 hun;rw[getElem?_eq_getElem ac]at h3 hun;simp only[Option.getD_some]at h3 hun;rw[h3]at hun;cases hun
   ·exfalso;have h4:i∈r7 oj:=by
     rw[<-hA,List.getD_eq_getElem?_getD,getElem?_map,hjl]at h3;simpa[inL]using h3
    obtain⟨e',he',e2⟩:=mem_map.1 h4;obtain⟨hm,hb⟩:=mem_filter.1 he';exact hno e' (by simpa using hm) hb e2
   ·simpa using h3
  rcases mO h hk with⟨hw,st',hs',hk⟩|⟨hw,st',hs',hk⟩
  ·simp only[toArray_toList]at hw;obtain⟨x,v,hx,hrun,hk⟩:=JR he hs' hC1 (λ_=>hC2) hk;exact first v (.inl ⟨hw,hrun⟩) (next _ _ (hs'.put ops[i].dst hx) (fW hk))
  ·simp only[toArray_toList]at hw;have:=hs'.put ops[i].dst (x:= .one .und) (v:=undef) (.one _ _ (show dW Z w ρ .und undef from rfl));exact first undef (.inr ⟨hw,rfl⟩) (next _ _ this (fW hk))
 |done=>exact λL fuel listed st a hs hl hok hf h hk=>main _ L fuel listed st a w hs hl hok hf ⟨Z,ρ,h⟩ hS hk
 |one i s _=>exact λL fuel listed st a hs hl hok hf h hk=>main _ L fuel listed st a w hs hl hok hf ⟨Z,ρ,h⟩ hS hk
 |two i s j t _ _=>exact λL fuel listed st a hs hl hok hf h hk=>main _ L fuel listed st a w hs hl hok hf ⟨Z,ρ,h⟩ hS hk
 |three i s j t k u _ _ _=>exact λL fuel listed st a hs hl hok hf h hk=>main _ L fuel listed st a w hs hl hok hf ⟨Z,ρ,h⟩ hS hk
def Us(A:List (List Nat)):Bool:=(List.range A.length).all λi=>(A.getD i []).all λe=>Nat.blt e i
def TW(E:bB)(S:bV):List (Nat×Nat)->List oG->ASt->(List oG->ASt->Prop)->Prop
 |[],ps,st,K=>K ps st
 |(id,fid)::r,ps,st,K=>aOb st.ob id λo=>match o with
  | .cells t cs=>match cs.all (qN fid)with
   |true=>∀(b:Nat) (us:List Value),match st with
    |⟨tm,ob⟩=>gH id (.any (JQ b us t)) ob λob=>wq ⟨tm,ob⟩ fid (.frame (cs.map .one) us) λst=>TW E S r (⟨id,fid,b,us,t⟩::ps) st K
   |false=>False
  |_=>False
def Gy:List oG->ASt->(ASt->Prop)->Prop
 |[],st,K=>K st
 |p::r,st,K=>match st with
  | ⟨tm, ob⟩ => aOb ob p.id fun o => And (o = .any (JQ p.b p.us p.t)) (aOb ob p.fid fun o2 => match o2 with
   | .frame vs us=>And (us=p.us) (MC vs λcs=>gH p.id (.cells p.t cs) ob λob=>Gy r ⟨tm,ob⟩ K)
   |_=>False)
theorem Ia{K:List oG->ASt->Prop}{Z:Nat->Prop}{a:Act}{w:World}:∀{l:List (Nat×Nat)} {ps:List oG} {st:ASt} {ρ:Nat->Value},Sim E.W S Z ρ st a w->Gl ps w->TW E S l ps st K->∃ps' st' ρ',Sim E.W S Z ρ' st' a w/\Gl ps' w/\K ps' st'
 |[],ps,st,ρ,h,hS,hk=>⟨ps,st,ρ,h,hS,hk⟩
 |(id,fid)::r,ps,⟨tm,ob⟩,ρ,h,hS,hk=>by
  obtain⟨o,ho,hk⟩:=co (show aOb ob id _ from hk);split at hk
  case h_2=>exact hk.elim
  rename_i t cs;split at hk
  case h_2=>exact hk.elim
  rename_i hno;obtain⟨b,us,hp,hg,hl,hc⟩:=(show cQ Z w ρ id (.cells t cs)from h.ws.obj id _ ho);have hk:=io (dl (hk b us));have hlt:b<w.heap.size:=(Array.getElem?_eq_some_iff.1 hg).1;have h1:=h.upd id (.cells t cs) (.any (JQ b us t)) (g:=b) ho (by rw[hp];rfl) (World.grownBy.refl w _) ⟨b,by rw[hp];rfl,hlt,λw' hw=>⟨hp,by rw[hw];exact hg⟩⟩;have h2:=h1.renew fid undef (.frame (cs.map .one) us) (row:=none) (World.grownBy.refl w _) aj (λb hb=>by cases hb) ⟨by simp,by simp[hl],λi x u hx hu=>by
   rw[getElem?_map]at hx;obtain⟨c,hcx,rfl⟩:=Option.map_eq_some_iff.1 hx;have hkc:jt fid c=c:=qr (all_eq_true.1 hno c (List.mem_of_getElem? hcx));have:=mG (id:=fid) (y:=undef) (hc i c u hcx hu);rw[hkc]at this;exact .one _ _ this⟩
  exact Ia h2 (λp hp=>by
   rcases List.mem_cons.1 hp with rfl|hp
   ·exact hg
   ·exact hS p hp) hk
theorem Bk{K:ASt->Prop}{a:Act}{w:World}:∀{ps:List oG} {st:ASt},hG E.W S st a w->Gy ps st K->∃st',hG E.W S st' a w/\K st'
 |[],st,h,hk=>⟨st,h,hk⟩
 |p::r,⟨tm,ob⟩,⟨Z,ρ,h⟩,hk=>by
  obtain⟨o,ho,rfl,hk⟩:=co (show aOb ob p.id _ from hk);obtain⟨o2,ho2,hk⟩:=co hk;cases o2 with
  |frame vs us=>?_
  |_=>exact hk.elim
  simp only at hk;obtain⟨e1,hk1⟩:=hk;subst e1;obtain⟨cs,e0,hk⟩:=xO hk1;subst e0;obtain⟨b',hb',hlt,hq⟩:=(show cQ Z w ρ p.id (.any (JQ p.b p.us p.t))from h.ws.obj p.id _ ho);obtain⟨hp,hg⟩:=hq w rfl;obtain⟨_,hfl,hfr⟩:=(show cQ Z w ρ p.fid (.frame (cs.map .one) p.us)from h.ws.obj p.fid _ ho2);have h1:=h.upd p.id _ (.cells p.t cs) (g:=p.b) ho (by rw[hp];rfl) (World.grownBy.refl w _) ⟨p.b,p.us,hp,hg,by simpa using hfl,λi c u h1 h2=>by
   have:=hfr i (.one c) u (by rw[getElem?_map,h1];rfl) h2;cases this with|one _ _ h=>exact h⟩
  exact Bk ⟨Z,ρ,h1⟩ (dl hk)
theorem X7(he:E.Ok){K:Exit->ASt->Prop}(id:Nat){st:ASt}(s:Sch)(l:List (Nat×Nat))(A:List (List Nat))(hA:ops.toList.map r7=A)(hlt:Us A=true)(hsel:QD ops.toList=true)(hok:lQ ops.toList A s []=true)
  (h:∀R,wq st 9970 (zO R) (λst=>TW E S l [] st λps st=>MF E S ps R ops.toList s st λst=>Gy ps st (K .normal))):AWP E S (.region id ops true) K st:=by
 refine⟨λa w hs=>wp_mono (Q:=λe a' w'=>e= .normal/\∃st',hG E.W S st' a' w'/\K .normal st') (wp_region_any he.mixed ?_) λe a' w' h'=>?_⟩
 ·have hg:w.grownBy {w with drawn:=w.drawn+1} none:=⟨rfl,rfl,rfl,Nat.le_refl _,λb hb _=>rfl⟩;obtain⟨Z,ρ,hs⟩:=hs;let R:(Nat->Prop)->World->Value->Prop:=λ_ wx _=>∀b,Z b->wx.heap[b]? =w.heap[b]?
  have h0:=hs.grow hg (λ_ h=>h) λ_ h=> .inl h;have h1:=h0.renew 9970 undef (zO R) (row:=none) (World.grownBy.refl _ _) aj (λb hb=>by cases hb) ⟨by simp,rfl,λi x u hx hu=>by
   cases i with
   |zero=>
    simp at hx hu;subst hx hu;exact .one _ _ (show bR Z _ (.x R) (.bool true)from .x _ _ rfl λZ' w' hz hb b hZ=>hb b hZ)
   |succ i=>simp at hx⟩
  obtain⟨ps,st1,ρ1,hs1,hS,hk⟩:=Ia h1 (λp hp=>(by cases hp)) (io (h R));refine wpAny_of_held (S:=λw'=>Gl ps w'/\∀b,Z b->w'.heap[b]? =w.heap[b]?) _ _ _ _ (SI (K:=λst=>Gy ps st (K .normal)) he ps R _ (λw' h=>h.1) (λZx w' h1 h2=>⟨h1,h2⟩) hA (λi o ho e hea=>?_) hsel (λa w hz=>⟨rfl,(by obtain⟨st',h1,h2⟩:=hz;exact Bk h1 h2)⟩) (λc a w hq=>by cases hq.1) (λw' h=>h.2) ⟨hS,λb hb=>rfl⟩ s [] ops.size _ st1 a aj (λj _=>?_) hok ?_ hs1 hk)
  ·have hi:i<A.length:=by rw[<-hA,List.length_map];exact(List.getElem?_eq_some_iff.1 ho).1
   have h1:=all_eq_true.1 hlt i (mem_range.2 hi);rw[<-hA,List.getD_eq_getElem?_getD,getElem?_map,ho]at h1;have:=all_eq_true.1 h1 e hea;exact Nat.le_of_ble_eq_true this
  ·simp[fw,inL,getD_eq_getD_getElem?,Array.getElem?_replicate];split<;>rfl
  ·have:∀(lf:Nat->Bool) n,oS lf n<=n:=λlf n=>by
    induction n with
    |zero=>exact Nat.le_refl _
    |succ n ih=>simp only[oS];split<;>omega
   exact this _ _
 ·obtain⟨rfl,h'⟩:=h';exact h'
end
end Go.Proofs.YtknefkdcokgpbaaGreat
