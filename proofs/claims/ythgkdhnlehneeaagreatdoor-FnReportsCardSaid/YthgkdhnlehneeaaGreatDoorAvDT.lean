/- AvDT -/
import Derived.Test.YthgkdhnlehneeaaGreatDoorAvJ3
import Derived.OrdersHeld
set_option maxHeartbeats 8000000
set_option linter.unusedVariables false
set_option linter.unusedSimpArgs false
set_option maxRecDepth 100000
open List (all_eq_true getElem?_drop getElem?_map mem_filter mem_map mem_range)
open Nat (eq_of_beq_eq_true)
open Bool (and_eq_true not_eq_true' or_eq_true)
open Array (getD_eq_getD_getElem? getElem?_eq_getElem toArray_toList)
namespace Go.Proofs.YthgkdhnlehneeaaGreatDoor
section
open Go.RowKit
section
variable {E:bx} {S:bZ} {Z:Nat->Prop} {ρ:Nat->Value} {st:ASt} {a:Act} {w:World} {K:ASt->Prop} {o:Oper}
structure pA where
 id:Nat
 fid:Nat
 b:Nat
 us:List Value
 t:TypeId
def Mo(b:Nat)(us:List Value)(t:TypeId):World->Value->Prop:=λw v=>v= .pointer (some ⟨b,0,none⟩)/\w.heap[b]? =some (.cells us.toArray t (0,0))
def zO(R:(Nat->Prop)->World->Value->Prop):AO:= .frame [.one (.d (.x R))] [.bool true]
def Jh(ps:List pA)(w:World):Prop:=∀p∈ps,w.heap[p.b]? =some (.cells p.us.toArray p.t (0,0))
def Xg(E:bx)(Z:Nat->Prop)(ρ:Nat->Value)(o:Oper)(a:Act)(w:World)(C:World->Prop)(K:AV->Prop):Prop:=∃x v,cu Z w ρ x v/\(∀w',C w'->(execOp a.eval o).run E.P w'= .ok (.value v) w')/\K x
theorem nZ{t:TypeId}{i:TI}(hi:aU E.P t i){b off:Nat}{us:List Value}{cs:List AC}(hl:us.length=cs.length)(hr:∀(j:Nat) c u,cs[j]? =some c->us[j]? =some u->fp Z w ρ c u){K:AV->Prop}(hk:uu i cs K):
  ∃x v,(∀w':World,(∀j u,us[j]? =some u->w'.cell? ⟨b,off+j,none⟩=some u)->(loadVar t ⟨b,off,none⟩).run E.P w'= .ok v w')/\cu Z w ρ x v/\K x:=by
 unfold uu at hk;unfold loadVar;split at hk
 ·rename_i hg;obtain⟨hle,hk⟩:=pH hk;refine⟨_,.agg (us.take i.size).toArray,λw' hc=>?_,.agg _ (us.take i.size) (by simp[hl]) λj c u h1 h2=>?_,hk⟩
  ·have hlen:(us.take i.size).length=i.size:=al;have:=run_loadCells_list (P:=E.P) w' ⟨b,off,none⟩ (us.take i.size) (λj u hu=>by
    have hadd:(⟨b,off,none⟩:Addr).add j=⟨b,off+j,none⟩:=by unfold Addr.add;split<;>simp_all
    rw[hadd];rw[List.getElem?_take]at hu;split at hu
    ·exact hc j u hu
    ·cases hu)
   rw[hlen]at this;simp only[Sem.run_bind,hi.ag,hg,Result.andThen_ok,if_true,hi.sz,this,Sem.run_pure]
  ·rw[List.getElem?_take]at h1 h2;split at h1
   ·rename_i hlt;rw[if_pos hlt]at h2;exact hr j c u h1 h2
   ·cases h1
 ·rename_i hg;split at hk
  ·rename_i c r;cases us with
   |nil=>simp at hl
   |cons u us=>
    refine⟨_,u,λw' hc=>?_,.one _ _ (hr 0 c u rfl rfl),hk⟩;have:=hc 0 u rfl;simp only[Nat.add_zero]at this;simp[hi.ag,hg,this]
  ·exact hk.elim
theorem NP(he:E.Ok){t:TypeId}{i:TI}(hi:aU E.P t i){us:List Value}{cs:List AC}(hl:us.length=cs.length)(hr:∀(j:Nat) c u,cs[j]? =some c->us[j]? =some u->fp Z w ρ c u){off:Nat}(hoff:off<=cs.length){K:AV->Prop}(hk:uu i (cs.drop off) K):
  ∃x v,(∀w',(part t us.toArray off).run E.P w'= .ok v w')/\cu Z w ρ x v/\K x:=by
 unfold uu at hk;unfold part;split at hk
 ·rename_i hg;obtain⟨hle,hk⟩:=pH hk;refine⟨_,.agg ((us.drop off).take i.size).toArray,λw'=>?_,.agg _ ((us.drop off).take i.size) (by simp[hl]) λj c u h1 h2=>?_,hk⟩
  ·simp only[Sem.run_bind,hi.ag,hg,Result.andThen_ok,if_true,hi.sz,Sem.run_pure];congr 2;simp[List.extract]
  ·rw[List.getElem?_take]at h1 h2;split at h1
   ·rename_i hlt;rw[if_pos hlt]at h2;rw[getElem?_drop]at h1 h2;exact hr _ c u h1 h2
   ·cases h1
 ·rename_i hg;split at hk
  ·rename_i c r hcs;have h1:cs[off]? =some c:=by
    have:=congrArg (·[0]?) hcs;simpa using this
   have hlt:off<us.length:=by rw[hl];exact(List.getElem?_eq_some_iff.1 h1).1
   refine⟨_,us[off],λw'=>?_,.one _ _ (hr off c us[off] h1 (List.getElem?_eq_getElem hlt)),hk⟩;simp[hi.ag,hg,hlt]
  ·exact hk.elim
def Ju:List pA->Nat->(pA->Prop)->Prop
 |[],_,_=>False
 |p::r,i,K=>match Nat.beq p.id i with
  |true=>K p
  |false=>Ju r i K
theorem Ed{K:pA->Prop}{i:Nat}:∀{ps:List pA},Ju ps i K->∃p∈ps,p.id=i/\K p
 |[],h=>h.elim
 |p::r,h=>by
  unfold Ju at h;split at h
  ·rename_i e;exact⟨p,by simp,eq_of_beq_eq_true e,h⟩
  ·obtain⟨q,h1,h2⟩:=Ed h;exact⟨q,by simp[h1],h2⟩
def PI:List AV->(List AC->Prop)->Prop
 |[],K=>K []
 | .one c::r,K=>PI r λcs=>K (c::cs)
 |_::_,_=>False
theorem Bg:∀{vs:List AV} {K:List AC->Prop},PI vs K->∃cs,vs=cs.map .one/\K cs
 |[],_,h=>⟨[],rfl,h⟩
 | .one c::r,K,h=>by obtain⟨cs,e,hk⟩:=Bg (vs:=r) h;exact⟨c::cs,by rw[e];rfl,hk⟩
 | .agg _::_,_,h=>h.elim
 | .tup _::_,_,h=>h.elim
def Xo(op:BinOp)(x y:AV)(K:AV->Prop):Prop:=
 match x,y with
 | .one (.d (.pv (.int k a))),.one (.d (.pv (.int k' b)))=>match Eo k k' with
  |true=>BX op k a b K
  |false=>False
 |_,_=>False
theorem NE{E:bx}{op:BinOp}{k:IntKind}{x y:Int}{K:AV->Prop}(h:BX op k x y K):∃v,v.oneCell'=true/\(∀(w:World) t,(binOp op t (.int k x) (.int k y)).run E.P w= .ok v w)/\K (.one (.d (.pv v))):=by
 cases op<;>simp only[BX]at h<;>try exact h.elim
 case add=>obtain⟨c,rfl,hk⟩:=h.h;exact⟨_,rfl,λw t=>by simp[binOp,Op.intArith],hk⟩
 case sub=>obtain⟨c,rfl,hk⟩:=h.h;exact⟨_,rfl,λw t=>by simp[binOp,Op.intArith],hk⟩
 case mul=>obtain⟨c,rfl,hk⟩:=h.h;exact⟨_,rfl,λw t=>by simp[binOp,Op.intArith],hk⟩
 case quo=>obtain⟨c,rfl,hk⟩:=h.2.h;exact⟨_,rfl,λw t=>by simp[binOp,Op.intDiv,h.1],hk⟩
 case rem=>exact⟨_,rfl,λw t=>by simp[binOp,Op.intDiv,h.1],h.2⟩
 case and=>exact⟨_,rfl,λw t=>by simp[binOp,Op.intBits,JC],h⟩
 case xor=>exact⟨_,rfl,λw t=>by simp[binOp,Op.intBits,Xa],h⟩
 case shr=>
  split at h
  ·rename_i hb;have hb:¬y<0:=by rw[decide_eq_true_eq]at hb;omega
   exact⟨_,rfl,λw t=>by simp[binOp,Op.shift,Ph,hb],h⟩
  ·exact h.elim
 all_goals exact⟨_,rfl,λw t=>by simp[binOp,Op.intCmp],h⟩
def SW(E:bx)(ps:List pA)(pre:Bool)(o:Oper)(st:ASt)(K:AV->Prop):Prop:=
 match o.op with
 | .move x| .assign x=>aEv st x K
 | .binOp op _ x y _=>aEv st x λx=>aEv st y λy=>Xo op x y K
 | .field t x f=>aEv st x λx=>yu E t x f K
 | .fieldAddr t x f=>aEv st x λx=>lO E t x f K
 | .extract x i=>aEv st x λx=>match x with
  | .tup vs=>pG vs i K
  |_=>False
 | .load t x=>aEv st x λx=>match x with
  | .one (.ref id k s off) => Ju ps id fun p => aOb st.ob p.id fun o1 => And (o1 = .any (Mo p.b p.us p.t)) (aOb st.ob p.fid fun o2 => match o2 with
   | .frame vs us=>And (k=0) (And (us=p.us) (PI vs λcs=>zk cs off λcs=>aTI E.T t λi=>uu i cs K))
   |_=>False)
  | .one (.ptr ds)=>match pre with
   |true=>BY ds λcs=>aTI E.T t λi=>uu i cs K
   |false=>False
  |_=>False
 | .indexAddr t x i=>aEv st x λx=>aEv st i λi=>match x with
  | .one (.d (.sl xs))=>match i with
   | .one (.d (.pv (.int _ n)))=>aTI E.T t λti=>match ti.kind with
    | .sl e=>aTI E.T e λj=>match j.size with
     |0=>False
     |s+1=>AIx xs n λ_ x=>match KX x (s+1)with
      |true=>K (.one (.ptr x))
      |false=>False
    |_=>False
   |_=>False
  | .one (.d (.x R))=>match i with
   | .one (.d (.pv (.int _ n)))=>aTI E.T t λti=>match ti.kind with
    | .sl e=>aTI E.T e λj=>match j.size with
     |0=>False
     |s+1=>AXi E.W st.ob R n (s+1) K
    |_=>False
   |_=>False
  |_=>False
 |_=>False
theorem Mp(he:E.Ok){ps:List pA}{pre:Bool}{C:World->Prop}{K:AV->Prop}(h:Sim E.W S Z ρ st a w)(hC1:∀w',C w'->Jh ps w')(hC2:pre=true->∀w',C w'->∀b,Z b->w'.heap[b]? =w.heap[b]?)(hk:SW E ps pre o st K):Xg E Z ρ o a w C K:=by
 unfold SW at hk;split at hk
 ·rename_i x ho;obtain⟨v,hv,hk⟩:=bz h hk;exact⟨_,_,hv,λw' _=>by simp[execOp,ho],hk⟩
 ·rename_i x ho;obtain⟨v,hv,hk⟩:=bz h hk;exact⟨_,_,hv,λw' _=>by simp[execOp,ho],hk⟩
 ·rename_i op t x y t2 ho;obtain⟨vx,hx,hk⟩:=bz h hk;obtain⟨vy,hy,hk⟩:=bz h hk;unfold Xo at hk;split at hk
  ·rename_i k m k' n;split at hk
   ·rename_i e;have e:=Hz e;subst e;have e1:=cF hx;have e2:=cF hy;obtain⟨v,h1,h2,hk⟩:=NE (E:=E) hk;refine⟨_,_,(cQ h1),λw' _=>?_,hk⟩;simp only[execOp,ho,e1,e2];rw[mt (by rfl)];simp[h2]
   ·exact hk.elim
  ·exact hk.elim
 ·rename_i t x f ho;obtain⟨vx,hx,hk⟩:=bz h hk;unfold yu at hk;split at hk
  ·rename_i cs;obtain⟨i,hi,hk⟩:=bJ he hk;split at hk
   ·rename_i fs hfs;obtain⟨fields,hu,hf⟩:=hi.stf hfs;obtain⟨p,hp,hk⟩:=gh hk;obtain⟨j,hj,hk⟩:=bJ he hk;obtain⟨hle,hk⟩:=kn hk;rw[<-hf,getElem?_map]at hp;obtain⟨fl,hfl,rfl⟩:=Option.map_eq_some_iff.1 hp;have hfl':fields[f]? =some fl:=by simpa using hfl
    generalize hev:a.eval x=ve at hx;cases hx with
    |agg _ us hl hr=>
     obtain⟨y,v,hrun,hy,hk⟩:=NP (w:=w) (ρ:=ρ) he hj hl hr hle hk;refine⟨_,_,hy,λw' _=>?_,hk⟩;simp[execOp,ho,hev,Instr.field,run_underlying hu,hfl',asAgg,hrun]
   ·exact hk.elim
  ·exact hk.elim
 ·rename_i t x f ho;obtain⟨vx,hx,hk⟩:=bz h hk;obtain⟨i,hi,hk⟩:=bJ he hk;split at hk
  ·rename_i fs hfs;obtain⟨fields,hu,hf⟩:=hi.stf hfs;obtain⟨p,hp,hk⟩:=gh hk;obtain⟨j,hj,hk⟩:=bJ he hk;rw[<-hf,getElem?_map]at hp;obtain⟨fl,hfl,rfl⟩:=Option.map_eq_some_iff.1 hp;have hfl':fields[f]? =some fl:=by simpa using hfl
   split at hk
   ·exact hk.elim
   ·rename_i n hn;have run:∀b off,a.eval x= .pointer (some ⟨b,off,none⟩)->∀w',(execOp a.eval o).run E.P w'= .ok (.value (.pointer (some ⟨b,off+fl.offset,none⟩))) w':=by
     intro b off e w';have:=wb (P:=E.P) (b:=b) (off:=off) (fl:=fl) w' hj.sz ac;simp[execOp,ho,e,Instr.fieldAt,run_underlying hu,hfl',Instr.sureAddr,this]
    split at hk
    ·cases hx with
     |one _ _ hx=>
      obtain⟨b,hb,e⟩:=hx;refine⟨_,_,(qv hb ?_),(λw' _=>run _ _ e w'),hk⟩;rw[Nat.add_assoc]
    ·cases hx with
     |one _ _ hx=>
      obtain⟨b,off,us,e,hZ,hl,hc,hd⟩:=hx;obtain⟨hle,hk⟩:=kn hk;refine⟨_,_,(Ai ⟨b,off+fl.offset,us.drop fl.offset,rfl,hZ,by simp[hl],λi u hu=>?_,λi x u h1 h2=>?_⟩),(λw' _=>run _ _ e w'),hk⟩
      ·rw[getElem?_drop]at hu;rw[Nat.add_assoc];exact hc _ u hu
      ·rw[getElem?_drop]at h1 h2;exact hd _ x u h1 h2
    ·exact hk.elim
  ·exact hk.elim
 ·rename_i x i ho;obtain⟨vx,hx,hk⟩:=bz h hk;split at hk
  ·rename_i vs;obtain⟨y,hy,hk⟩:=gh hk;generalize hev:a.eval x=ve at hx;cases hx with
   |tup _ us hl hr=>
    have hlt:i<us.length:=by rw[hl];exact(List.getElem?_eq_some_iff.1 hy).1
    refine⟨_,_,(hr i y us[i] hy (List.getElem?_eq_getElem hlt)),λw' _=>?_,hk⟩;simp[execOp,ho,hev,Instr.extract,hlt]
  ·exact hk.elim
 ·rename_i t x ho;obtain⟨vx,hx,hk⟩:=bz h hk;split at hk
  ·rename_i id k s off;obtain⟨p,hp,hid,hk⟩:=Ed hk;obtain⟨o1,ho1,rfl,hk⟩:=da hk;obtain⟨o2,ho2,hk⟩:=da hk;cases o2 with
   |frame vs us=>
    simp only at hk;obtain⟨ek,eu,hk1⟩:=hk;subst ek eu;obtain⟨cs,e0,hk⟩:=Bg hk1;subst e0;obtain⟨hle,hk⟩:=kn hk;obtain⟨i,hi,hk⟩:=bJ he hk;cases hx with
    |one _ _ hx=>
     obtain⟨b,hb,e⟩:=hx;obtain⟨b',hb',hlt,hq⟩:=(show cZ Z w ρ p.id (.any (Mo p.b p.us p.t))from h.ws.obj p.id _ ho1);have hq0:=hq w rfl;rw[<-hid,hq0.1]at hb;simp only[ch]at hb;injection hb with hb
     subst hb;rw[Nat.zero_mul,Nat.zero_add]at e;obtain⟨_,hfl,hfr⟩:=(show cZ Z w ρ p.fid (.frame (cs.map .one) p.us)from h.ws.obj p.fid _ ho2);have hl:p.us.length=cs.length:=by simpa using hfl
     obtain⟨y,v,hrun,hy,hk⟩:=nZ (E:=E) (Z:=Z) (w:=w) (ρ:=ρ) hi (b:=p.b) (off:=off) (us:=p.us.drop off) (cs:=cs.drop off) (by simp[hl]) (λj c u h1 h2=>by
      rw[getElem?_drop]at h1 h2;have:=hfr (off+j) (.one c) u (by rw[getElem?_map,h1];rfl) h2;cases this with|one _ _ h=>exact h) hk
     refine⟨_,_,hy,λw' hS=>?_,hk⟩;have hcell:=hC1 w' hS p hp;have:=hrun w' λj u hu=>by
      rw[getElem?_drop]at hu;rw[cell_of_row w' p.b _ _ _ _ hcell];simpa using hu
     simp[execOp,ho,e,Instr.loadAt,Instr.sureAddr,this]
   |_=>exact hk.elim
  ·rename_i ds;split at hk
   ·have hk:=ni hk;obtain⟨i,hi,hk⟩:=bJ he hk;cases hx with
    |one _ _ hx=>
     obtain⟨b,off,us,e,hZ,hl,hc,hd⟩:=hx;obtain⟨y,v,hrun,hy,hk⟩:=nZ (E:=E) (Z:=Z) (w:=w) (ρ:=ρ) hi (b:=b) (off:=off) (us:=us) (cs:=ds.map .d) (by simp[hl]) (λj c u h1 h2=>by
      rw[getElem?_map]at h1;obtain⟨d,h3,rfl⟩:=Option.map_eq_some_iff.1 h1;exact hd j d u h3 h2) hk
     refine⟨_,_,hy,λw' hS=>?_,hk⟩;have:=hrun w' λj u hu=>(World.cell?_of_block (a:=⟨b,off+j,none⟩) (hC2 rfl w' hS b hZ)).trans (hc j u hu);simp[execOp,ho,e,Instr.loadAt,Instr.sureAddr,this]
   ·exact hk.elim
  ·exact hk.elim
 ·rename_i t x ix ho;obtain⟨vx,hx,hk⟩:=bz h hk;obtain⟨vi,hi,hk⟩:=bz h hk;split at hk
  ·rename_i xs;split at hk
   ·rename_i ki n;have ei:=cF hi;obtain⟨ti,hti,hk⟩:=bJ he hk;split at hk
    ·rename_i e hs;have hu:=hti.sl hs;obtain⟨j,hj,hk⟩:=bJ he hk;split at hk
     ·exact hk.elim
     ·rename_i s hjs;have run:∀(b off k len cap:Nat),n=(k:Int)->k<len->a.eval x= .slice (some ⟨b,off,none⟩) len cap->∀w',(execOp a.eval o).run E.P w'= .ok (.value (.pointer (some ⟨b,off+k*(s+1),none⟩))) w':=by
       intro b off k len cap hn hkl ev w';subst hn;have hadd:(⟨b,off,none⟩:Addr).add (k*(s+1))=⟨b,off+k*(s+1),none⟩:=by unfold Addr.add;split<;>simp_all
       have hnk:¬len<=k:=ac;simp[execOp,ho,ei,ev,Instr.indexAt,asIntOf,run_underlying hu,hkl,hnk,hj.sz,hjs,hadd]
      generalize hev:a.eval x=ve at hx;cases hx with
      |one _ _ hx=>
       cases hx with
       |sl xs A cap s' us hc hm hl hxs hus hr hd=>
        obtain⟨k,ex,hn,hex,hk⟩:=hk.h;split at hk
        ·rename_i hlen;have hlen:=D4 hlen;have hkx:=(List.getElem?_eq_some_iff.1 hex).1;have hku:k<us.length:=by rw[hl];exact hkx
         have hu1:us[k]? =some us[k]:=List.getElem?_eq_getElem hku;have hul:=hus us[k] (List.getElem_mem hku);have hs':s'=s+1:=by rw[<-hxs ex (List.mem_of_getElem? hex)];exact hlen
         subst hs';have hne:us.flatten≠ []:=by
          intro h0;have:=qf hus hu1 (List.getElem?_eq_getElem (show 0<us[k].length by omega));rw[h0]at this;simp at this
         obtain⟨b,off,hA,hZ,hcell⟩:=hr.resolve_left hne;subst hA;refine⟨_,_,(Ai ⟨b,off+k*(s+1),us[k],rfl,hZ,by rw[hul,hlen],λi u hu=>?_,λi d u h1 h2=>hd k i ex us[k] d u hex hu1 h1 h2⟩),(λw' _=>run b off k _ cap hn hkx hev w'),hk⟩;rw[Nat.add_assoc];exact hcell _ u (qf hus hu1 hu)
        ·exact hk.elim
    ·exact hk.elim
   ·exact hk.elim
  ·rename_i R;split at hk
   ·rename_i ki n;have ei:=cF hi;obtain⟨ti,hti,hk⟩:=bJ he hk;split at hk
    ·rename_i e hs;have hu:=hti.sl hs;obtain⟨j,hj,hk⟩:=bJ he hk;split at hk
     ·exact hk.elim
     ·rename_i s hjs;obtain⟨y,hk1,hy⟩:=hk.h;generalize hev:a.eval x=ve at hx;cases hx with
      |one _ _ hx=>
       obtain⟨b,off,k,len,cap,e1,e2,e3,e4⟩:=hy S Z w ρ _ h.ws hx;subst e1 e2;refine⟨_,_,e4,λw' _=>?_,hk1⟩;have hadd:(⟨b,off,none⟩:Addr).add (k*(s+1))=⟨b,off+k*(s+1),none⟩:=by unfold Addr.add;split<;>simp_all
       have hnk:¬len<=k:=ac;simp[execOp,ho,ei,hev,Instr.indexAt,asIntOf,run_underlying hu,e3,hnk,hj.sz,hjs,hadd]
    ·exact hk.elim
   ·exact hk.elim
  ·exact hk.elim
 ·exact hk.elim
end
inductive Sch where
 |done
 |take (i:Nat) (s:Sch)
 |one (i:Nat) (s:Sch)
 |two (i:Nat) (s:Sch) (j:Nat) (t:Sch)
 |three (i:Nat) (s:Sch) (j:Nat) (t:Sch) (k:Nat) (u:Sch)
def tkc:List Nat->Sch->Sch
 |[],x=>x
 |n::r,x=> .take n (tkc r x)
def onc:List Nat->Sch->Sch
 |[],x=>x
 |n::r,x=> .one n (onc r x)
structure aL (X Y:Prop):Prop where
 l:X
 r:Y
def En(E:bx)(S:bZ)(ops:List Oper)(i:Nat)(st:ASt)(K:ASt->Prop):Prop:=
 pG ops i λo=>uj ops o st (λst=>aop E S o st K) (λst=>fa st o.dst (.one .und) K)
def mV(R:(Nat->Prop)->World->Value->Prop):List pA->ASt->Prop->Prop
 |[],st,X=>aOb st.ob 9970 λo=>And (o=zO R) X
 |p::r,st,X=>aOb st.ob p.id λo=>And (o= .any (Mo p.b p.us p.t)) (mV R r st X)
def S5(E:bx)(ps:List pA)(pre:Bool)(ops:List Oper)(i:Nat)(st:ASt)(K:ASt->Prop):Prop:=
 pG ops i λo=>uj ops o st (λst=>SW E ps pre o st λv=>fa st o.dst v K) (λst=>fa st o.dst (.one .und) K)
def Ep(E:bx)(S:bZ)(ps:List pA)(R:(Nat->Prop)->World->Value->Prop)(ops:List Oper):Sch->ASt->(ASt->Prop)->Prop
 | .done,st,K=>K st
 | .take i s,st,K=>S5 E ps false ops i st λst=>Ep E S ps R ops s st K
 | .one i s,st,K=>En E S ops i st λst=>mV R ps st (Ep E S ps R ops s st K)
 | .two i s j t,st,K=>aL (En E S ops i st λst=>mV R ps st (Ep E S ps R ops s st K)) (En E S ops j st λst=>mV R ps st (Ep E S ps R ops t st K))
 | .three i s j t k u,st,K=>aL (En E S ops i st λst=>mV R ps st (Ep E S ps R ops s st K)) (aL (En E S ops j st λst=>mV R ps st (Ep E S ps R ops t st K)) (En E S ops k st λst=>mV R ps st (Ep E S ps R ops u st K)))
def PN(E:bx)(S:bZ)(ps:List pA)(R:(Nat->Prop)->World->Value->Prop)(ops:List Oper):Sch->ASt->(ASt->Prop)->Prop
 | .take i s,st,K=>S5 E ps true ops i st λst=>PN E S ps R ops s st K
 |s,st,K=>Ep E S ps R ops s st K
def inL(L:List Nat)(i:Nat):Bool:=L.contains i
def FD(A:List (List Nat))(L:List Nat)(i:Nat):Bool:=Nat.blt i A.length&& !inL L i&&(A.getD i []).all (inL L)
def mE(ops:List Oper)(A:List (List Nat)):Sch->List Nat->Bool
 | .done,L=>(List.range A.length).all (inL L)
 | .take i s, L => FD A L i && (match ops[i]? with
   | some o => (List.range A.length).all fun j => Nat.beq j i || inL L j || inL (A.getD j []) i || (match ops[j]? with
    |some oj=>o.apart ops.toArray oj
    |none=>true)
   |none=>false)&&mE ops A s (i::L)
 | .one i s,L=>FD A L i&&((List.range A.length).all λj=>Nat.beq j i|| !FD A L j)&&mE ops A s (i::L)
 | .two i s k t,L=>FD A L i&&FD A L k&&((List.range A.length).all λj=>Nat.beq j i||Nat.beq j k|| !FD A L j)&&mE ops A s (i::L)&&mE ops A t (k::L)
 | .three i s k t m u,L=>FD A L i&&FD A L k&&FD A L m&&((List.range A.length).all λj=>Nat.beq j i||Nat.beq j k||Nat.beq j m|| !FD A L j)&&mE ops A s (i::L)&&mE ops A t (k::L)&&mE ops A u (m::L)
def T1(ops:List Oper):Bool:=ops.all λo=>match o.op with| .select _ _=>false|_=>true
section
variable {E:bx} {S:bZ} {ops:Array Oper}
theorem kI{listed:Array Bool}(hs:listed.size=ops.size){i:Nat}:
  i∈Region.ready .any ops listed↔i<ops.size/\fx listed i=false/\∀e∈gX ops.toList i,fx listed e=true:=by
 rw[mem_ready];constructor
 ·rintro⟨h1,o,ho,h2⟩;have hlt:=(Array.getElem?_eq_some_iff.1 ho).1;refine⟨hlt,?_,λe he=>?_⟩
  ·simp only[fx,getD_eq_getD_getElem?]at h1⊢;rw[getElem?_eq_getElem ac]at h1⊢;simpa using h1
  ·rw[eq (by simpa using ho)]at he;obtain⟨e',he',rfl⟩:=mem_map.1 he;obtain⟨hm,hb⟩:=mem_filter.1 he';exact h2 e' (by simpa using hm) hb
 ·rintro⟨hlt,h1,h2⟩;refine⟨?_,ops[i],getElem?_eq_getElem hlt,λe he hb=>?_⟩
  ·simp only[fx,getD_eq_getD_getElem?]at h1⊢;rw[getElem?_eq_getElem ac]at h1⊢;simpa using h1
  ·refine h2 _ ?_;rw[eq (o:=ops[i]) (by simp[hlt])];exact mem_map.2 ⟨e,mem_filter.2 ⟨by simpa using he,hb⟩,rfl⟩
theorem jS{A:List (List Nat)}(hA:ops.toList.map uz=A){listed:Array Bool}{L:List Nat}(hs:listed.size=ops.size)(hl:∀j,j<ops.size->fx listed j=inL L j)(hlt:∀i o,ops.toList[i]? =some o->∀e∈uz o,e<i){i:Nat}:i∈Region.ready .any ops listed↔FD A L i=true:=by
 have hlen:A.length=ops.size:=by rw[<-hA];simp
 rw[kI hs];unfold FD;simp only[and_eq_true,not_eq_true',all_eq_true,hlen];constructor
 ·rintro⟨h1,h2,h3⟩;have hget:ops.toList[i]? =some ops[i]:=by simp[h1]
  refine⟨⟨Nat.ble_eq_true_of_le h1,by rw[<-hl i h1];exact h2⟩,λe he=>?_⟩;have he':e∈uz ops[i]:=by
   rw[<-hA,List.getD_eq_getElem?_getD,getElem?_map,hget]at he;exact he
  have hei:=hlt i _ hget e he';rw[<-hl e ac];exact h3 e (by rw[eq hget];exact he')
 ·rintro⟨⟨h1,h2⟩,h3⟩;have h1:i<ops.size:=Nat.le_of_ble_eq_true h1;have hget:ops.toList[i]? =some ops[i]:=by simp[h1]
  refine⟨h1,by rw[hl i h1];exact h2,λe he=>?_⟩;rw[eq hget]at he;have hei:=hlt i _ hget e he;rw[hl e ac];refine h3 e ?_;rw[<-hA,List.getD_eq_getElem?_getD,getElem?_map,hget];exact he
theorem So(he:E.Ok){K:ASt->Prop}{Q:Exit->Act->World->Prop}{A:List (List Nat)}(ps:List pA)(R:(Nat->Prop)->World->Value->Prop)(C:World->Prop)(hC1:∀w',C w'->Jh ps w')(hCz:∀Z w',Jh ps w'->R Z w' (.bool true)->C w')(hA:ops.toList.map uz=A)(hlt:∀i o,ops.toList[i]? =some o->∀e∈uz o,e<i)(hsel:T1 ops.toList=true)
  (hQ:∀a w,(∃st',f8 E.W S st' a w/\K st')->Q .normal a w) (hP:∀c a w,¬Q (.panic c) a w):
  ∀(s:Sch) (L:List Nat) (fuel:Nat) (listed:Array Bool) (st:ASt) (a:Act) (w:World),listed.size=ops.size->(∀j,j<ops.size->fx listed j=inL L j)->mE ops.toList A s L=true->oq (fx listed) ops.size<=fuel->f8 E.W S st a w->C w->
   Ep E S ps R ops.toList s st K->wpAnyH E.P .any ops Q C fuel listed a w:=by
 have hlen:A.length=ops.size:=by rw[<-hA];simp
 have hse:∀(j:Nat) (o:Oper) cs b,ops[j]? =some o->o.op≠ .select cs b:=by
  intro j o cs b ho e;have:=all_eq_true.1 hsel o (by have:=Array.mem_of_getElem? ho;simpa using this);rw[e]at this;cases this
 intro s;have step:∀(i:Nat) (s:Sch) (L:List Nat) (fuel:Nat) (listed:Array Bool) (st:ASt) (a:Act) (w:World),listed.size=ops.size->(∀j,j<ops.size->fx listed j=inL L j)->FD A L i=true->oq (fx listed) ops.size<=fuel+1->
   (∀(L:List Nat) (fuel:Nat) (listed:Array Bool) (st:ASt) (a:Act) (w:World),listed.size=ops.size->(∀j,j<ops.size->fx listed j=inL L j)->mE ops.toList A s L=true->oq (fx listed) ops.size<=fuel->f8 E.W S st a w->C w->Ep E S ps R ops.toList s st K->wpAnyH E.P .any ops Q C fuel listed a w)->
   mE ops.toList A s (i::L)=true->i<ops.size/\fx listed i=false/\∀(st:ASt) (a:Act) (w:World),f8 E.W S st a w->C w->Ep E S ps R ops.toList s st K->wpAnyH E.P .any ops Q C fuel (listed.setIfInBounds i true) a w:=by
  intro i s L fuel listed st a w hs hl hr hf ih hok;have hm:=(jS hA hs hl hlt).2 hr;obtain⟨h1,h2,_⟩:=(kI hs).1 hm;refine⟨h1,h2,λst a w h hS hk=>ih (i::L) fuel _ st a w (by simpa using hs) (λj hj=>?_) hok ?_ h hS hk⟩
  ·rw[qp ac];simp only[hl j hj,inL,List.contains_cons];cases hb:Nat.beq j i with
   |true=>have:=eq_of_beq_eq_true hb;subst this;simp
   |false=>
    have:¬j=i:=Nat.ne_of_beq_eq_false hb;simp[this]
  ·rw[qp ac];have:=(zy h2 (n:=ops.size)).2 h1;omega
 have pos:∀{L:List Nat} {fuel:Nat} {listed:Array Bool} {i:Nat},listed.size=ops.size->(∀j,j<ops.size->fx listed j=inL L j)->FD A L i=true->oq (fx listed) ops.size<=fuel->∃f,fuel=f+1:=by
  intro L fuel listed i hs hl hr hf;obtain⟨h1,h2,_⟩:=(kI hs).1 ((jS hA hs hl hlt).2 hr);have:=(zy h2 (n:=ops.size)).2 h1;exact⟨fuel-1,ac⟩
 have pins:∀{st:ASt} {a:Act} {w:World} {X:Prop},f8 E.W S st a w->mV R ps st X->C w/\X:=by
  intro st a w X h hk;obtain⟨Z,ρ,h⟩:=h;have key:∀qs:List pA,mV R qs st X->(Jh qs w/\R Z w (.bool true))/\X:=by
   intro qs hk;induction qs with
   |nil=>
    obtain⟨o,ho,rfl,hk⟩:=da (show aOb st.ob 9970 _ from hk);refine⟨⟨λp hp=>(by cases hp),?_⟩,hk⟩;have:=(show cZ Z w ρ 9970 (zO R)from h.ws.obj 9970 _ ho).2.2 0 _ _ rfl rfl;cases this with
    |one _ _ hx=>
     cases(show co Z w (.x R) (.bool true)from hx)with
     |x _ _ _ hR=>exact hR Z w (λ_ h=>h) λ_ _=>rfl
   |cons p r ih=>
    obtain⟨o,ho,rfl,hk⟩:=da (show aOb st.ob p.id _ from hk);obtain⟨⟨h1,h1'⟩,h2⟩:=ih hk;refine⟨⟨λq hq=>?_,h1'⟩,h2⟩;rcases List.mem_cons.1 hq with rfl|hq
    ·obtain⟨b',hb',hlt,hq⟩:=(show cZ Z w ρ q.id (.any (Mo q.b q.us q.t))from h.ws.obj q.id _ ho);exact(hq w rfl).2
    ·exact h1 q hq
  obtain⟨⟨h1,h2⟩,h3⟩:=key ps hk;exact⟨hCz Z w h1 h2,h3⟩
 have run1:∀{i:Nat} {st:ASt} {a:Act} {w:World} {X:ASt->Prop} {Y:Act->World->Prop},i<ops.size->f8 E.W S st a w->En E S ops.toList i st X->(∀st a w,f8 E.W S st a w->X st->Y a w)->wpOp E.P ops Q i Y a w:=by
  intro i st a w X Y hi h hk hY;obtain⟨o,ho,hk⟩:=gh hk;have ho':ops[i]? =some o:=by simpa using ho
  unfold wpOp;rw[ho'];obtain⟨Z,ρ,h⟩:=h;simp only;rcases iT h hk with⟨hw,st',hs',hk⟩|⟨hw,st',hs',hk⟩
  ·simp only[toArray_toList]at hw;simp only[hw,if_true];refine .inl (Oper.wp_mono (λa' w' h'=>?_) (pP he hs' hk Q));obtain⟨st2,h2,hk2⟩:=h';exact hY st2 a' w' h2 hk2
  ·simp only[toArray_toList]at hw;simp only[hw,Bool.false_eq_true,if_false];have:=hs'.put o.dst (x:= .one .und) (v:=undef) (.one _ _ (show fp Z w ρ .und undef from rfl));exact hY _ _ w ⟨Z,ρ,this⟩ (fG hk)
 induction s with
 |done=>
  intro L fuel listed st a w hs hl hok hf h hS hk;refine wpAnyH_done ?_ (hQ a w ⟨st,h,hk⟩) fuel;rw[List.eq_nil_iff_forall_not_mem];intro i hi;obtain⟨h1,h2,_⟩:=(kI hs).1 hi;have:=all_eq_true.1 hok i (mem_range.2 ac);rw[hl i h1,this]at h2;cases h2
 |take i s ih=>
  intro L fuel listed st a w hs hl hok hf h hS hk;simp only[mE,and_eq_true]at hok;obtain⟨⟨hr,hm⟩,hok⟩:=hok;obtain⟨fuel,rfl⟩:=pos hs hl hr hf;obtain⟨h1,h2,next⟩:=step i s L fuel listed st a w hs hl hr hf ih hok;have hio:ops[i]? =some ops[i]:=getElem?_eq_getElem h1;rw[show ops.toList[i]? =some ops[i]by simp[h1]]at hm;simp only[all_eq_true]at hm;have hap:=hm;obtain⟨o,ho,hk⟩:=gh (show pG ops.toList i _ from hk);have:o=ops[i]:=by
   rw[show ops.toList[i]? =some ops[i]by simp[h1]]at ho;injection ho with ho
   exact ho.symm
  subst this;have first:∀(v:Value),YieldsIf E.P ops C ops[i] v a->wpAnyH E.P .any ops Q C fuel (listed.setIfInBounds i true) (a.put ops[i].dst v) w->wpAnyH E.P .any ops Q C (fuel+1) listed a w:=by
   intro v hy hw;refine wpAnyH_first hio hse (λc a w hq=>(hP _ _ _ hq).elim) fuel listed a w (λj oj hj hji hun hno=>?_) ((jS hA hs hl hlt).2 hr) hy hS hw;have hjs:j<ops.size:=(Array.getElem?_eq_some_iff.1 hj).1;have hjl:ops.toList[j]? =some oj:=by simpa using hj
   have:=hap j (mem_range.2 ac);rw[hjl]at this;simp only[or_eq_true]at this;rcases this with((h3|h3)|h3)|h3
   ·exact absurd (eq_of_beq_eq_true h3) hji
   ·rw[<-hl j hjs]at h3;simp only[fx,getD_eq_getD_getElem?]at h3 hun;rw[getElem?_eq_getElem ac]at h3 hun;simp only[Option.getD_some]at h3 hun;rw[h3]at hun;cases hun
   ·exfalso;have h4:i∈uz oj:=by
     rw[<-hA,List.getD_eq_getElem?_getD,getElem?_map,hjl]at h3;simpa[inL]using h3
    obtain⟨e',he',e2⟩:=mem_map.1 h4;obtain⟨hm,hb⟩:=mem_filter.1 he';exact hno e' (by simpa using hm) hb e2
   ·simpa using h3
  obtain⟨Z,ρ,h⟩:=h;rcases iT h hk with⟨hw,st',hs',hk⟩|⟨hw,st',hs',hk⟩
  ·simp only[toArray_toList]at hw;obtain⟨x,v,hx,hrun,hk⟩:=Mp he hs' hC1 ah hk;exact first v (.inl ⟨hw,hrun⟩) (next _ _ w ⟨Z,ρ,hs'.put ops[i].dst hx⟩ hS (fG hk))
  ·simp only[toArray_toList]at hw;have:=hs'.put ops[i].dst (x:= .one .und) (v:=undef) (.one _ _ (show fp Z w ρ .und undef from rfl));exact first undef (.inr ⟨hw,rfl⟩) (next _ _ w ⟨Z,ρ,this⟩ hS (fG hk))
 |one i s ih=>
  intro L fuel listed st a w hs hl hok hf h hS hk;simp only[mE,and_eq_true,all_eq_true]at hok;obtain⟨⟨hr,hm⟩,hok⟩:=hok;obtain⟨fuel,rfl⟩:=pos hs hl hr hf;obtain⟨h1,h2,next⟩:=step i s L fuel listed st a w hs hl hr hf ih hok;refine⟨λh0=>(by have:=(jS hA hs hl hlt).2 hr;rw[h0]at this;cases this),λj hj=>?_⟩;have hj':=(jS hA hs hl hlt).1 hj;have hjs:=((kI hs).1 hj).1;have hji:j=i:=by
   have:=hm j (mem_range.2 ac);simp only[or_eq_true,not_eq_true']at this;rcases this with h3|h3
   ·exact eq_of_beq_eq_true h3
   ·rw[h3]at hj';cases hj'
  subst hji;exact run1 h1 h hk λst a w h hk=>by obtain⟨h5,h6⟩:=pins h hk;exact⟨h5,next st a w h h5 h6⟩
 |two i s k t ihs iht=>
  intro L fuel listed st a w hs hl hok hf h hS hk;simp only[mE,and_eq_true,all_eq_true]at hok;obtain⟨⟨⟨⟨hr,hr2⟩,hm⟩,hok⟩,hok2⟩:=hok;obtain⟨fuel,rfl⟩:=pos hs hl hr hf;obtain⟨h1,h2,next⟩:=step i s L fuel listed st a w hs hl hr hf ihs hok;obtain⟨h3,h4,next2⟩:=step k t L fuel listed st a w hs hl hr2 hf iht hok2;refine⟨λh0=>(by have:=(jS hA hs hl hlt).2 hr;rw[h0]at this;cases this),λj hj=>?_⟩;have hj':=(jS hA hs hl hlt).1 hj;have hjs:=((kI hs).1 hj).1;have hji:j=i\/j=k:=by
   have:=hm j (mem_range.2 ac);simp only[or_eq_true,not_eq_true']at this;rcases this with(h3|h3)|h3
   ·exact .inl (eq_of_beq_eq_true h3)
   ·exact .inr (eq_of_beq_eq_true h3)
   ·rw[h3]at hj';cases hj'
  rcases hji with rfl|rfl
  ·exact run1 h1 h hk.l λst a w h hk=>by obtain⟨h5,h6⟩:=pins h hk;exact⟨h5,next st a w h h5 h6⟩
  ·exact run1 h3 h hk.r λst a w h hk=>by obtain⟨h5,h6⟩:=pins h hk;exact⟨h5,next2 st a w h h5 h6⟩
 |three i s k t m u ihs iht ihu=>
  intro L fuel listed st a w hs hl hok hf h hS hk;simp only[mE,and_eq_true,all_eq_true]at hok;obtain⟨⟨⟨⟨⟨⟨hr,hr2⟩,hr3⟩,hm⟩,hok⟩,hok2⟩,hok3⟩:=hok;obtain⟨fuel,rfl⟩:=pos hs hl hr hf;obtain⟨h1,h2,next⟩:=step i s L fuel listed st a w hs hl hr hf ihs hok;obtain⟨h3,h4,next2⟩:=step k t L fuel listed st a w hs hl hr2 hf iht hok2;obtain⟨h5,h6,next3⟩:=step m u L fuel listed st a w hs hl hr3 hf ihu hok3;refine⟨λh0=>(by have:=(jS hA hs hl hlt).2 hr;rw[h0]at this;cases this),λj hj=>?_⟩;have hj':=(jS hA hs hl hlt).1 hj;have hjs:=((kI hs).1 hj).1;have hji:j=i\/j=k\/j=m:=by
   have:=hm j (mem_range.2 ac);simp only[or_eq_true,not_eq_true']at this;rcases this with((h3|h3)|h3)|h3
   ·exact .inl (eq_of_beq_eq_true h3)
   ·exact .inr (.inl (eq_of_beq_eq_true h3))
   ·exact .inr (.inr (eq_of_beq_eq_true h3))
   ·rw[h3]at hj';cases hj'
  rcases hji with rfl|rfl|rfl
  ·exact run1 h1 h hk.l λst a w h hk=>by obtain⟨h5,h6⟩:=pins h hk;exact⟨h5,next st a w h h5 h6⟩
  ·exact run1 h3 h hk.r.l λst a w h hk=>by obtain⟨h5,h6⟩:=pins h hk;exact⟨h5,next2 st a w h h5 h6⟩
  ·exact run1 h5 h hk.r.r λst a w h hk=>by obtain⟨h5,h6⟩:=pins h hk;exact⟨h5,next3 st a w h h5 h6⟩
theorem Vt(he:E.Ok){K:ASt->Prop}{Q:Exit->Act->World->Prop}{A:List (List Nat)}(ps:List pA)(R:(Nat->Prop)->World->Value->Prop)(C:World->Prop)(hC1:∀w',C w'->Jh ps w')(hCz:∀Z w',Jh ps w'->R Z w' (.bool true)->C w')(hA:ops.toList.map uz=A)(hlt:∀i o,ops.toList[i]? =some o->∀e∈uz o,e<i)(hsel:T1 ops.toList=true)
  (hQ:∀a w,(∃st',f8 E.W S st' a w/\K st')->Q .normal a w) (hP:∀c a w,¬Q (.panic c) a w) {Z:Nat->Prop} {ρ:Nat->Value} {w:World} (hC2:∀w',C w'->∀b,Z b->w'.heap[b]? =w.heap[b]?) (hS:C w):
  ∀(s:Sch) (L:List Nat) (fuel:Nat) (listed:Array Bool) (st:ASt) (a:Act),listed.size=ops.size->(∀j,j<ops.size->fx listed j=inL L j)->mE ops.toList A s L=true->oq (fx listed) ops.size<=fuel->Sim E.W S Z ρ st a w->
   PN E S ps R ops.toList s st K->wpAnyH E.P .any ops Q C fuel listed a w:=by
 have hlen:A.length=ops.size:=by rw[<-hA];simp
 have main:=λs L fuel listed st a w=>So (S:=S) he ps R C hC1 hCz hA hlt hsel hQ hP s L fuel listed st a w;have hse:∀(j:Nat) (o:Oper) cs b,ops[j]? =some o->o.op≠ .select cs b:=by
  intro j o cs b ho e;have:=all_eq_true.1 hsel o (by have:=Array.mem_of_getElem? ho;simpa using this);rw[e]at this;cases this
 intro s;induction s with
 |take i s ih=>
  intro L fuel listed st a hs hl hok hf h hk;simp only[mE,and_eq_true]at hok;obtain⟨⟨hr,hm⟩,hok⟩:=hok;have hrd:=(jS hA hs hl hlt).2 hr;obtain⟨h1,h2,_⟩:=(kI hs).1 hrd;have hcu:=(zy h2 (n:=ops.size)).2 h1;obtain⟨fuel,rfl⟩:∃f,fuel=f+1:=⟨fuel-1,ac⟩;have hio:ops[i]? =some ops[i]:=getElem?_eq_getElem h1;rw[show ops.toList[i]? =some ops[i]by simp[h1]]at hm;simp only[all_eq_true]at hm;obtain⟨o,ho,hk⟩:=gh (show pG ops.toList i _ from hk);have:o=ops[i]:=by
   rw[show ops.toList[i]? =some ops[i]by simp[h1]]at ho;injection ho with ho
   exact ho.symm
  subst this;have next:∀(st:ASt) (a:Act),Sim E.W S Z ρ st a w->PN E S ps R ops.toList s st K->wpAnyH E.P .any ops Q C fuel (listed.setIfInBounds i true) a w:=λst a h hk=>ih (i::L) fuel _ st a (by simpa using hs) (λj hj=>by
   rw[qp ac];simp only[hl j hj,inL,List.contains_cons];cases hb:Nat.beq j i with
   |true=>have:=eq_of_beq_eq_true hb;subst this;simp
   |false=>
    have:¬j=i:=Nat.ne_of_beq_eq_false hb;simp[this]) hok (by rw[qp ac];omega) h hk
  have first:∀(v:Value),YieldsIf E.P ops C ops[i] v a->wpAnyH E.P .any ops Q C fuel (listed.setIfInBounds i true) (a.put ops[i].dst v) w->wpAnyH E.P .any ops Q C (fuel+1) listed a w:=by
   intro v hy hw;refine wpAnyH_first hio hse (λc a w hq=>(hP _ _ _ hq).elim) fuel listed a w (λj oj hj hji hun hno=>?_) hrd hy hS hw;have hjs:j<ops.size:=(Array.getElem?_eq_some_iff.1 hj).1;have hjl:ops.toList[j]? =some oj:=by simpa using hj
   have:=hm j (mem_range.2 ac);rw[hjl]at this;simp only[or_eq_true]at this;rcases this with((h3|h3)|h3)|h3
   ·exact absurd (eq_of_beq_eq_true h3) hji
   ·rw[<-hl j hjs]at h3;simp only[fx,getD_eq_getD_getElem?]at h3 hun;rw[getElem?_eq_getElem ac]at h3 hun;simp only[Option.getD_some]at h3 hun;rw[h3]at hun;cases hun
   ·exfalso;have h4:i∈uz oj:=by
     rw[<-hA,List.getD_eq_getElem?_getD,getElem?_map,hjl]at h3;simpa[inL]using h3
    obtain⟨e',he',e2⟩:=mem_map.1 h4;obtain⟨hm,hb⟩:=mem_filter.1 he';exact hno e' (by simpa using hm) hb e2
   ·simpa using h3
  rcases iT h hk with⟨hw,st',hs',hk⟩|⟨hw,st',hs',hk⟩
  ·simp only[toArray_toList]at hw;obtain⟨x,v,hx,hrun,hk⟩:=Mp he hs' hC1 (λ_=>hC2) hk;exact first v (.inl ⟨hw,hrun⟩) (next _ _ (hs'.put ops[i].dst hx) (fG hk))
  ·simp only[toArray_toList]at hw;have:=hs'.put ops[i].dst (x:= .one .und) (v:=undef) (.one _ _ (show fp Z w ρ .und undef from rfl));exact first undef (.inr ⟨hw,rfl⟩) (next _ _ this (fG hk))
 |done=>exact λL fuel listed st a hs hl hok hf h hk=>main _ L fuel listed st a w hs hl hok hf ⟨Z,ρ,h⟩ hS hk
 |one i s _=>exact λL fuel listed st a hs hl hok hf h hk=>main _ L fuel listed st a w hs hl hok hf ⟨Z,ρ,h⟩ hS hk
 |two i s j t _ _=>exact λL fuel listed st a hs hl hok hf h hk=>main _ L fuel listed st a w hs hl hok hf ⟨Z,ρ,h⟩ hS hk
 |three i s j t k u _ _ _=>exact λL fuel listed st a hs hl hok hf h hk=>main _ L fuel listed st a w hs hl hok hf ⟨Z,ρ,h⟩ hS hk
def Xr(A:List (List Nat)):Bool:=(List.range A.length).all λi=>(A.getD i []).all λe=>Nat.blt e i
def Wx(E:bx)(S:bZ):List (Nat×Nat)->List pA->ASt->(List pA->ASt->Prop)->Prop
 |[],ps,st,K=>K ps st
 |(id,fid)::r,ps,st,K=>aOb st.ob id λo=>match o with
  | .cells t cs=>match cs.all (sU fid)with
   |true=>∀(b:Nat) (us:List Value),match st with
    |⟨tm,ob⟩=>ju id (.any (Mo b us t)) ob λob=>C8 ⟨tm,ob⟩ fid (.frame (cs.map .one) us) λst=>Wx E S r (⟨id,fid,b,us,t⟩::ps) st K
   |false=>False
  |_=>False
def Jz:List pA->ASt->(ASt->Prop)->Prop
 |[],st,K=>K st
 |p::r,st,K=>match st with
  | ⟨tm, ob⟩ => aOb ob p.id fun o => And (o = .any (Mo p.b p.us p.t)) (aOb ob p.fid fun o2 => match o2 with
   | .frame vs us=>And (us=p.us) (PI vs λcs=>ju p.id (.cells p.t cs) ob λob=>Jz r ⟨tm,ob⟩ K)
   |_=>False)
theorem KY{K:List pA->ASt->Prop}{Z:Nat->Prop}{a:Act}{w:World}:∀{l:List (Nat×Nat)} {ps:List pA} {st:ASt} {ρ:Nat->Value},Sim E.W S Z ρ st a w->Jh ps w->Wx E S l ps st K->∃ps' st' ρ',Sim E.W S Z ρ' st' a w/\Jh ps' w/\K ps' st'
 |[],ps,st,ρ,h,hS,hk=>⟨ps,st,ρ,h,hS,hk⟩
 |(id,fid)::r,ps,⟨tm,ob⟩,ρ,h,hS,hk=>by
  obtain⟨o,ho,hk⟩:=da (show aOb ob id _ from hk);split at hk
  case h_2=>exact hk.elim
  rename_i t cs;split at hk
  case h_2=>exact hk.elim
  rename_i hno;obtain⟨b,us,hp,hg,hl,hc⟩:=(show cZ Z w ρ id (.cells t cs)from h.ws.obj id _ ho);have hk:=jJ (fK (hk b us));have hlt:b<w.heap.size:=(Array.getElem?_eq_some_iff.1 hg).1;have h1:=h.upd id (.cells t cs) (.any (Mo b us t)) (g:=b) ho (by rw[hp];rfl) (World.grownBy.refl w _) ⟨b,by rw[hp];rfl,hlt,λw' hw=>⟨hp,by rw[hw];exact hg⟩⟩;have h2:=h1.renew fid undef (.frame (cs.map .one) us) (row:=none) (World.grownBy.refl w _) ah (λb hb=>by cases hb) ⟨by simp,by simp[hl],λi x u hx hu=>by
   rw[getElem?_map]at hx;obtain⟨c,hcx,rfl⟩:=Option.map_eq_some_iff.1 hx;have hkc:jO fid c=c:=rU (all_eq_true.1 hno c (List.mem_of_getElem? hcx));have:=nt (id:=fid) (y:=undef) (hc i c u hcx hu);rw[hkc]at this;exact .one _ _ this⟩
  exact KY h2 (λp hp=>by
   rcases List.mem_cons.1 hp with rfl|hp
   ·exact hg
   ·exact hS p hp) hk
theorem Es{K:ASt->Prop}{a:Act}{w:World}:∀{ps:List pA} {st:ASt},f8 E.W S st a w->Jz ps st K->∃st',f8 E.W S st' a w/\K st'
 |[],st,h,hk=>⟨st,h,hk⟩
 |p::r,⟨tm,ob⟩,⟨Z,ρ,h⟩,hk=>by
  obtain⟨o,ho,rfl,hk⟩:=da (show aOb ob p.id _ from hk);obtain⟨o2,ho2,hk⟩:=da hk;cases o2 with
  |frame vs us=>?_
  |_=>exact hk.elim
  simp only at hk;obtain⟨e1,hk1⟩:=hk;subst e1;obtain⟨cs,e0,hk⟩:=Bg hk1;subst e0;obtain⟨b',hb',hlt,hq⟩:=(show cZ Z w ρ p.id (.any (Mo p.b p.us p.t))from h.ws.obj p.id _ ho);obtain⟨hp,hg⟩:=hq w rfl;obtain⟨_,hfl,hfr⟩:=(show cZ Z w ρ p.fid (.frame (cs.map .one) p.us)from h.ws.obj p.fid _ ho2);have h1:=h.upd p.id _ (.cells p.t cs) (g:=p.b) ho (by rw[hp];rfl) (World.grownBy.refl w _) ⟨p.b,p.us,hp,hg,by simpa using hfl,λi c u h1 h2=>by
   have:=hfr i (.one c) u (by rw[getElem?_map,h1];rfl) h2;cases this with|one _ _ h=>exact h⟩
  exact Es ⟨Z,ρ,h1⟩ (fK hk)
theorem aaL(he:E.Ok){K:Exit->ASt->Prop}(id:Nat){st:ASt}(s:Sch)(l:List (Nat×Nat))(A:List (List Nat))(hA:ops.toList.map uz=A)(hlt:Xr A=true)(hsel:T1 ops.toList=true)(hok:mE ops.toList A s []=true)
  (h:∀R,C8 st 9970 (zO R) (λst=>Wx E S l [] st λps st=>PN E S ps R ops.toList s st λst=>Jz ps st (K .normal))):AWP E S (.region id ops true) K st:=by
 refine⟨λa w hs=>wp_mono (Q:=λe a' w'=>e= .normal/\∃st',f8 E.W S st' a' w'/\K .normal st') (wp_region_any he.mixed ?_) λe a' w' h'=>?_⟩
 ·have hg:w.grownBy {w with drawn:=w.drawn+1} none:=⟨rfl,rfl,rfl,Nat.le_refl _,λb hb _=>rfl⟩;obtain⟨Z,ρ,hs⟩:=hs;let R:(Nat->Prop)->World->Value->Prop:=λ_ wx _=>∀b,Z b->wx.heap[b]? =w.heap[b]?
  have h0:=hs.grow hg (λ_ h=>h) λ_ h=> .inl h;have h1:=h0.renew 9970 undef (zO R) (row:=none) (World.grownBy.refl _ _) ah (λb hb=>by cases hb) ⟨by simp,rfl,λi x u hx hu=>by
   cases i with
   |zero=>
    simp at hx hu;subst hx hu;exact .one _ _ (show co Z _ (.x R) (.bool true)from .x _ _ rfl λZ' w' hz hb b hZ=>hb b hZ)
   |succ i=>simp at hx⟩
  obtain⟨ps,st1,ρ1,hs1,hS,hk⟩:=KY h1 (λp hp=>(by cases hp)) (jJ (h R));refine wpAny_of_held (S:=λw'=>Jh ps w'/\∀b,Z b->w'.heap[b]? =w.heap[b]?) _ _ _ _ (Vt (K:=λst=>Jz ps st (K .normal)) he ps R _ (λw' h=>h.1) (λZx w' h1 h2=>⟨h1,h2⟩) hA (λi o ho e hea=>?_) hsel (λa w hz=>⟨rfl,(by obtain⟨st',h1,h2⟩:=hz;exact Es h1 h2)⟩) (λc a w hq=>by cases hq.1) (λw' h=>h.2) ⟨hS,λb hb=>rfl⟩ s [] ops.size _ st1 a ah (λj _=>?_) hok ?_ hs1 hk)
  ·have hi:i<A.length:=by rw[<-hA,List.length_map];exact(List.getElem?_eq_some_iff.1 ho).1
   have h1:=all_eq_true.1 hlt i (mem_range.2 hi);rw[<-hA,List.getD_eq_getElem?_getD,getElem?_map,ho]at h1;have:=all_eq_true.1 h1 e hea;exact Nat.le_of_ble_eq_true this
  ·simp[fx,inL,getD_eq_getD_getElem?,Array.getElem?_replicate];split<;>rfl
  ·have:∀(lf:Nat->Bool) n,oq lf n<=n:=λlf n=>by
    induction n with
    |zero=>exact Nat.le_refl _
    |succ n ih=>simp only[oq];split<;>omega
   exact this _ _
 ·obtain⟨rfl,h'⟩:=h';exact h'
end
end
section
open Go.RowKit
variable {Z:Nat->Prop}{u:Value}{w:World}{E:bx}
def BD:AD->Value
 | .pv v=>v
 |_=>undef
def AD.isPv:AD->Bool
 | .pv _=>true
 |_=>false
def AP1.pl:AP1->Value
 | .one d=>BD d
 | .agg ds=> .agg (ds.map BD).toArray
def AP1.isPl:AP1->Bool
 | .one d=>d.isPv
 | .agg ds=>ds.all AD.isPv
theorem mb{d:AD}(h:d.isPv=true)(hr:co Z w d u):u=BD d:=by
 cases hr with
 |pv=>rfl
 |sl=>cases h
 |x=>cases h
theorem Kh{p:AP1}(h:p.isPl=true)(hr:fF Z w p u):u=p.pl:=by
 cases p with
 |one d=>exact mb h hr
 |agg ds=>
  obtain⟨us,rfl,hl,hh⟩:=hr;have:us=ds.map BD:=by
   apply List.ext_getElem?;intro i;rw[List.getElem?_map];cases hd:ds[i]? with
   |none=>rw[List.getElem?_eq_none];rfl;rw[hl];exact List.getElem?_eq_none_iff.1 hd
   |some d=>
    have hlt:i<us.length:=by rw[hl];exact(List.getElem?_eq_some_iff.1 hd).1
    rw[List.getElem?_eq_getElem hlt];have hp:d.isPv=true:=List.all_eq_true.1 h d (List.mem_of_getElem? hd);simp[mb hp (hh i d us[i] hd (List.getElem?_eq_getElem hlt))]
  rw[this];rfl
theorem WI(he:E.Ok)(h:GZ E.W Z w):E.W w:=by
 obtain⟨w1,h1,h2,_⟩:=h;exact he.below w1 w h1 h2
theorem abY(he:E.Ok){f:FuncId}{args:List AP1}{v:Value}(enter:∀(us:Array Value) w,(callFunc f us).run E.P w= .ok (.enter f us) w)(hp:args.all AP1.isPl=true)(hv:v.oneCell'=true)
  (h:∀w,E.W w->Calls E.P f (args.map AP1.pl).toArray w λe w'=>e= .returned v/\Below w.heap.size w w'):aN E f args (.val (.one (.pv v))):=by
 refine⟨enter,λZ w us hz hg hl hr=>?_⟩;have:us=args.map AP1.pl:=by
  apply List.ext_getElem?;intro i;rw[List.getElem?_map];cases hd:args[i]? with
  |none=>rw[List.getElem?_eq_none];rfl;rw[hl];exact List.getElem?_eq_none_iff.1 hd
  |some d=>
   have hlt:i<us.length:=by rw[hl];exact(List.getElem?_eq_some_iff.1 hd).1
   rw[List.getElem?_eq_getElem hlt];have hp:d.isPl=true:=List.all_eq_true.1 hp d (List.mem_of_getElem? hd);simp[Kh hp (hr i d us[i] hd (List.getElem?_eq_getElem hlt))]
 subst this;refine(h w (WI he hg)).mono ?_;rintro e w' ⟨rfl,hb⟩;exact⟨v,Z,rfl,hb,λ_ h=>h,λ_ h=> .inl h,.pv v hv⟩
theorem Tb{w':World}(h:w=w'):Below w.heap.size w w':=by subst h;exact Below.refl _ _
end
section
open Go.RowKit
def Db(id:Nat)(xs:List (List AD)):AC->AC
 | .own i=>match Nat.beq i id with
  |true=> .d (.sl xs)
  |false=> .own i
 | .ref i k s off=>match Nat.beq i id with
  |true=> .dead
  |false=> .ref i k s off
 |c=>c
def Rl(id:Nat)(xs:List (List AD)):AV->AV
 | .one c=> .one (Db id xs c)
 | .agg cs=> .agg (cs.map (Db id xs))
 | .tup _=> .one .dead
def U0(id:Nat)(xs:List (List AD)):AO->AO
 | .cells t cs=> .cells t (cs.map (Db id xs))
 | .frame vs us=> .frame (vs.map (Rl id xs)) us
 |o=>o
def vt(id:Nat)(xs:List (List AD)):List (Nat×AO)->List (Nat×AO)
 |[]=>[]
 |(i,o)::r=>match Nat.beq i id with
  |true=>vt id xs r
  |false=>(i,U0 id xs o)::vt id xs r
def KV(id:Nat)(xs:List (List AD))(c:AC)(K:AC->Prop):Prop:=
 match c with
 | .own i=>match Nat.beq i id with
  |true=>K (.d (.sl xs))
  |false=>K (.own i)
 | .ref i k s off=>match Nat.beq i id with
  |true=>K .dead
  |false=>K (.ref i k s off)
 |c=>K c
theorem Hm{id:Nat}{xs:List (List AD)}{c:AC}{K:AC->Prop}(h:KV id xs c K):K (Db id xs c):=by
 cases c with
 |own i=>simp only[KV]at h;simp only[Db];split at h<;>simp_all
 |ref i k s off=>simp only[KV]at h;simp only[Db];split at h<;>simp_all
 |_=>exact h
def Jr(id:Nat)(xs:List (List AD)):List AC->(List AC->Prop)->Prop
 |[],K=>K []
 |c::r,K=>KV id xs c λc=>Jr id xs r λr=>K (c::r)
theorem yv{id:Nat}{xs:List (List AD)}:∀{l:List AC} {K:List AC->Prop},Jr id xs l K->K (l.map (Db id xs))
 |[],_,h=>h
 |c::r,K,h=>yv (l:=r) (K:=λr'=>K (Db id xs c::r')) (Hm h)
def VV(id:Nat)(xs:List (List AD))(x:AV)(K:AV->Prop):Prop:=
 match x with
 | .one c=>KV id xs c λc=>K (.one c)
 | .agg cs=>Jr id xs cs λcs=>K (.agg cs)
 | .tup _=>K (.one .dead)
theorem QY{id:Nat}{xs:List (List AD)}{x:AV}{K:AV->Prop}(h:VV id xs x K):K (Rl id xs x):=by
 cases x with
 |one c=>exact Hm (K:=λc=>K (.one c)) h
 |agg cs=>exact yv (K:=λcs=>K (.agg cs)) h
 |tup vs=>exact h
def BU(id:Nat)(xs:List (List AD)):List AV->(List AV->Prop)->Prop
 |[],K=>K []
 |x::r,K=>VV id xs x λx=>BU id xs r λr=>K (x::r)
theorem ne{id:Nat}{xs:List (List AD)}:∀{l:List AV} {K:List AV->Prop},BU id xs l K->K (l.map (Rl id xs))
 |[],_,h=>h
 |x::r,K,h=>ne (l:=r) (K:=λr'=>K (Rl id xs x::r')) (QY h)
def it(id:Nat)(xs:List (List AD)):List (Nat×AO)->(List (Nat×AO)->Prop)->Prop
 |[],K=>K []
 |(i,.cells t cs)::r,K=>match Nat.beq i id with
  |true=>it id xs r K
  |false=>Jr id xs cs λcs=>it id xs r λr=>K ((i,.cells t cs)::r)
 |(i,.row e s ys)::r,K=>match Nat.beq i id with
  |true=>it id xs r K
  |false=>it id xs r λr=>K ((i,.row e s ys)::r)
 |(i,.frame vs us)::r,K=>match Nat.beq i id with
  |true=>it id xs r K
  |false=>BU id xs vs λvs=>it id xs r λr=>K ((i,.frame vs us)::r)
 |(i,.any Q)::r,K=>match Nat.beq i id with
  |true=>it id xs r K
  |false=>it id xs r λr=>K ((i,.any Q)::r)
 |(i,.many P Q)::r,K=>match Nat.beq i id with
  |true=>it id xs r K
  |false=>it id xs r λr=>K ((i,.many P Q)::r)
theorem f9{id:Nat}{xs:List (List AD)}:∀{l:List (Nat×AO)} {K:List (Nat×AO)->Prop},it id xs l K->K (vt id xs l)
 |[],_,h=>h
 |(i,.cells t cs)::r,K,h=>by
  simp only[it]at h;simp only[vt];split at h
  ·exact f9 h
  ·exact f9 (l:=r) (K:=λr'=>K ((i,.cells t (cs.map (Db id xs)))::r')) (yv (K:=λcs=>it id xs r λr=>K ((i,.cells t cs)::r)) h)
 |(i,.row e s ys)::r,K,h=>by
  simp only[it]at h;simp only[vt];split at h
  ·exact f9 h
  ·exact f9 (l:=r) (K:=λr'=>K ((i,.row e s ys)::r')) h
 |(i,.frame vs us)::r,K,h=>by
  simp only[it]at h;simp only[vt];split at h
  ·exact f9 h
  ·exact f9 (l:=r) (K:=λr'=>K ((i,.frame (vs.map (Rl id xs)) us)::r')) (ne (K:=λvs=>it id xs r λr=>K ((i,.frame vs us)::r)) h)
 |(i,.any Q)::r,K,h=>by
  simp only[it]at h;simp only[vt];split at h
  ·exact f9 h
  ·exact f9 (l:=r) (K:=λr'=>K ((i,.any Q)::r')) h
 |(i,.many P Q)::r,K,h=>by
  simp only[it]at h;simp only[vt];split at h
  ·exact f9 h
  ·exact f9 (l:=r) (K:=λr'=>K ((i,.many P Q)::r')) h
theorem iB{id:Nat}{xs:List (List AD)}:∀{ob:List (Nat×AO)} {j:Nat} {o:AO},bw (vt id xs ob) j=some o->j≠id/\∃o0,bw ob j=some o0/\o=U0 id xs o0
 |[],_,_,h=>by cases h
 |(i,o1)::r,j,o,h=>by
  simp only[vt]at h;cases hb:Nat.beq i id with
  |true=>
   rw[hb]at h;obtain⟨h1,o0,h2,h3⟩:=iB h;refine⟨h1,o0,?_,h3⟩;have:i≠j:=λe=>h1 (e▸Nat.eq_of_beq_eq_true hb);simp only[bw];rw[if_neg this];exact h2
  |false=>
   rw[hb]at h;simp only[bw]at h⊢;split at h
   ·rename_i e;injection h with h
    subst e;exact⟨Nat.ne_of_beq_eq_false hb,o1,by rw[if_pos rfl],h.symm⟩
   ·rename_i e;obtain⟨h1,o0,h2,h3⟩:=iB h;exact⟨h1,o0,by rw[if_neg e];exact h2,h3⟩
section
variable {T:World->Prop} {S:bZ} {Z:Nat->Prop} {w:World} {ρ:Nat->Value} {ob:List (Nat×AO)}
def DM(Z:Nat->Prop)(ρ:Nat->Value)(id:Nat)(b:Nat):Prop:=Z b\/ch (ρ id)=some b
theorem Ui{e:TypeId}{s id:Nat}{xs:List (List AD)}(h:cZ Z w ρ id (.row e s xs)):co (DM Z ρ id) w (.sl xs) (ρ id):=by
 obtain⟨us,h0,hl,hxs,hus,hown,hd⟩:=h;have up:∀{d:AD} {v:Value},co Z w d v->co (DM Z ρ id) w d v:=λhd=>hd.mono (λb hb=> .inl hb) λ_ _=>rfl;rcases hown.2 with⟨hv,hn⟩|⟨g,cap,cur,hv,_,hg,h1,h2,h3,h4⟩
 ·have:xs=[]:=List.eq_nil_of_length_eq_zero hn;subst this;rw[hv];exact .sl [] none 0 0 [] (Nat.le_refl _) (Nat.zero_le _) rfl ah ah (.inl rfl) ah
 ·rw[hv];refine .sl xs _ cap s us h1 h2 hl hxs hus (.inr ⟨g,0,rfl,.inr (by rw[hv];rfl),λi u hu=>?_⟩) λi j x u a b e1 e2 e3 e4=>up (hd i j x u a b e1 e2 e3 e4);rw[Nat.zero_add];exact qt hown (by rw[hv];rfl) hu
theorem EN{e:TypeId}{s id:Nat}{xs:List (List AD)}(hr:cZ Z w ρ id (.row e s xs)){c:AC}{v:Value}(h:fp Z w ρ c v):fp (DM Z ρ id) w ρ (Db id xs c) v:=by
 have up:∀b,Z b->DM Z ρ id b:=λb hb=> .inl hb;cases c with
 |own i=>
  simp only[Db];split
  ·rename_i hb;have hi:=Nat.eq_of_beq_eq_true hb;subst hi;have hv:v=ρ i:=h.1;subst hv;exact Ui hr
  ·exact h
 |ref i k s off=>
  simp only[Db];split
  ·trivial
  ·exact h
 |d x=>exact fp.mono up (λ_ _=>rfl) (c:= .d x) h
 |ptr cs=>exact fp.mono up (λ_ _=>rfl) (c:= .ptr cs) h
 |dead=>trivial
 |und=>exact h
 |nil=>exact h
theorem vu{e:TypeId}{s id:Nat}{xs:List (List AD)}(hr:cZ Z w ρ id (.row e s xs)){x:AV}{v:Value}(h:cu Z w ρ x v):cu (DM Z ρ id) w ρ (Rl id xs x) v:=by
 cases h with
 |one c v h=>exact .one _ _ (EN hr h)
 |agg cs us hl h=>
  refine .agg _ us (by simp[hl]) λi c u hc hu=>?_;rw[List.getElem?_map]at hc;obtain⟨c0,h0,rfl⟩:=Option.map_eq_some_iff.1 hc;exact EN hr (h i c0 u h0 hu)
 |tup vs us hl h=>exact .one _ _ trivial
theorem Ts{e:TypeId}{s id j:Nat}{xs:List (List AD)}(hr:cZ Z w ρ id (.row e s xs)){o:AO}(h:km Z w ρ j o):km (DM Z ρ id) w ρ j (U0 id xs o):=by
 have up:∀b,Z b->DM Z ρ id b:=λb hb=> .inl hb;cases o with
 |cells t cs=>
  obtain⟨b,us,hp,hg,hl,hc⟩:=(show cZ Z w ρ j (.cells t cs)from h);show cZ _ w ρ j (.cells t _);refine⟨b,us,hp,hg,by simp[hl],λi c u h1 h2=>?_⟩;rw[List.getElem?_map]at h1;obtain⟨c0,h0,rfl⟩:=Option.map_eq_some_iff.1 h1;exact EN hr (hc i c0 u h0 h2)
 |frame vs us=>
  obtain⟨h1,hl,h⟩:=(show cZ Z w ρ j (.frame vs us)from h);show cZ _ w ρ j (.frame _ us);refine⟨h1,by simp[hl],λi x u hx hu=>?_⟩;rw[List.getElem?_map]at hx;obtain⟨x0,h0,rfl⟩:=Option.map_eq_some_iff.1 hx;exact vu hr (h i x0 u h0 hu)
 |row e2 s2 ys=>exact km.mono up (λ_ _=>rfl) (λ_ _=>rfl) (o:= .row e2 s2 ys) h
 |any Q=>exact km.mono up (λ_ _=>rfl) (λ_ _=>rfl) (o:= .any Q) h
 |many P Q=>exact h
theorem Bn{id:Nat}{xs:List (List AD)}{o:AO}{P:Nat->Prop}{Q:World->Prop}(h:AO.many P Q=U0 id xs o):o= .many P Q:=by
 cases o<;>first|exact h.symm|cases h
theorem WS.freeze(h:WS T S Z w ρ ob){id s:Nat}{e:TypeId}{xs:List (List AD)}(ho:bw ob id=some (.row e s xs)):WS T S (DM Z ρ id) w ρ (vt id xs ob):=by
 have hr:cZ Z w ρ id (.row e s xs):=h.obj id _ ho;refine⟨h.os,h.tape,h.output,h.size,h.old,?_,λj o b hj hb=>?_,λi j oi oj b hi hj hij hbi hbj=>?_,λj o hj=>?_,⟨λj P Q hj=>?_,λi j P Q P' Q' hi hj hij=>?_⟩,?_,λb hb=> .inl (h.z0 b hb),?_⟩
 ·rintro b (hb|hb)
  ·exact h.zlt b hb
  ·exact h.lt ho hb
 ·obtain⟨hne,o0,h0,_⟩:=iB hj;obtain⟨h1,h2⟩:=h.mine j o0 b h0 hb;refine⟨?_,h2⟩;rintro(hz|hz)
  ·exact h1 hz
  ·exact h.sep j id o0 _ b h0 ho hne hb hz
 ·obtain⟨_,o0,h0,_⟩:=iB hi;obtain⟨_,o1,h1,_⟩:=iB hj;exact h.sep i j o0 o1 b h0 h1 hij hbi hbj
 ·obtain⟨_,o0,h0,rfl⟩:=iB hj;exact Ts hr (h.obj j o0 h0)
 ·obtain⟨_,o0,h0,e0⟩:=iB hj;have:=Bn e0;subst this;obtain⟨h1,h2⟩:=h.many.ok j P Q h0;refine⟨λb hb=>⟨(h1 b hb).1,?_,(h1 b hb).2.2.1,λi o hi=>?_⟩,h2⟩
  ·rintro(hz|hz)
   ·exact(h1 b hb).2.1 hz
   ·exact(h1 b hb).2.2.2 id _ ho hz
  ·obtain⟨_,o1,h3,_⟩:=iB hi;exact(h1 b hb).2.2.2 i o1 h3
 ·obtain⟨_,o0,h0,e0⟩:=iB hi;obtain⟨_,o1,h1,e1⟩:=iB hj;have:=Bn e0;subst this;have:=Bn e1;subst this;exact h.many.sep i j P Q P' Q' h0 h1 hij
 ·obtain⟨w1,g1,g2,g3⟩:=h.g;exact⟨w1,g1,g2,λb hb=> .inl (g3 b hb)⟩
 ·rintro b (hb|hb)
  ·exact h.znew b hb
  ·exact .inr (h.mine id _ b ho hb).2
end
theorem AWP.freeze{E:bx}{S:bZ}{c:Code}{K:Exit->ASt->Prop}{tm:List AV}{ob:List (Nat×AO)}(id:Nat)(e:TypeId)(s:Nat)(xs:List (List AD))(ho:aOb ob id λo=>o= .row e s xs)
  (h:BU id xs tm λtm=>it id xs ob λob=>AWP E S c K ⟨tm,ob⟩):AWP E S c K ⟨tm,ob⟩:=by
 obtain⟨o,hob,rfl⟩:=da ho;have h:=f9 (K:=λob=>AWP E S c K ⟨_,ob⟩) (ne (K:=λtm=>it id xs ob λob=>AWP E S c K ⟨tm,ob⟩) h);refine⟨λa w hs=>h.run a w ?_⟩;obtain⟨Z,ρ,hs⟩:=hs;have hr:cZ Z w ρ id (.row e s xs):=hs.ws.obj id _ hob;refine⟨DM Z ρ id,ρ,hs.ws.freeze hob,by simp[hs.len],λi x v hx hv=>?_,hs.df⟩;simp only[List.getElem?_map]at hx;obtain⟨x0,h0,rfl⟩:=Option.map_eq_some_iff.1 hx;exact vu hr (hs.tm i x0 v h0 hv)
end
open Go.RowKit
theorem Aj{Z:Nat->Prop}{w:World}{ρ:Nat->Value}{v:Value}:∀{ds:List AD},ds.all AD.isPv=true->cu Z w ρ (.agg (ds.map .d)) v->v= .agg (ds.map BD).toArray:=by
 intro ds hp h;cases h with
 |agg _ us hl h=>
  have:us=ds.map BD:=by
   apply List.ext_getElem
   ·simpa using hl
   ·intro i h1 h2;have hi:i<ds.length:=by simpa using h2
    have hr:=h i (.d ds[i]) us[i] (by simp[hi]) (by simp[h1]);have:=mb (List.all_eq_true.1 hp ds[i] (List.getElem_mem hi)) (show co Z w ds[i] us[i]from hr);simpa using this
  rw[this]
end Go.Proofs.YthgkdhnlehneeaaGreatDoor
