/- AvJ2 -/
import Derived.Test.YtknefkdcokgpbaaGreatAvJ1
import Derived.Test.YtknefkdcokgpbaaGreatNum
import Derived.Lib.AppendStr
import Derived.Scope
set_option maxHeartbeats 8000000
set_option linter.unusedVariables false
set_option linter.unusedSimpArgs false
set_option maxRecDepth 100000
open List (eq_of_mem_replicate getElem?_append_left getElem?_append_right getElem?_eq_getElem getElem?_map getElem_mem length_append length_cons mapM_cons map_cons mem_append mem_cons mem_iff_getElem mem_map mem_of_getElem? nil_append)
open Nat (add_mul eq_of_beq_eq_true mod_lt mul_comm zero_add zero_le)
open Option (map_eq_some_iff)
open Array (getElem?_toList toArray_toList)
namespace Go.Proofs.YtknefkdcokgpbaaGreat
section
open Go.RowKit
section
variable {E:bB} {S:bV} {Z:Nat->Prop} {ρ:Nat->Value} {st:ASt} {a:Act} {w:World} {K:ASt->Prop} {o:Oper}
def Aj(Z:Nat->Prop)(w:World)(ρ:Nat->Value)(cs:List AC)(us:List Value):Prop:=us.length=cs.length/\∀(i:Nat) c u,cs[i]? =some c->us[i]? =some u->dW Z w ρ c u
theorem FS{c:AC}{v:Value}(hs:jC [c]=true)(h:dW Z w ρ c v):v.oneCell'=true:=by
  cases c with
  |dead=>cases hs
  |und=>cases hs
  |d x=>exact bR.one h
  |nil=>have h:v= .slice none 0 0:=h;subst h;rfl
  |own id=>exact h.2
  |ref id k s off=>obtain⟨b,_,e⟩:=h;subst e;rfl
  |ptr cs=>obtain⟨b,off,us,e,_⟩:=h;subst e;rfl
theorem FR:∀{cs:List AC},jC cs=true->∀c∈cs,jC [c]=true
  |[],_,c,hc=>by cases hc
  |x::r,h,c,hc=>by
    have hx:jC [x]=true/\jC r=true:=by cases x<;>simp_all[jC]
    rcases mem_cons.1 hc with rfl|hc
    · exact hx.1
    · exact FR hx.2 c hc
theorem OO{cs:List AC}{us:List Value}(hs:jC cs=true)(h:Aj Z w ρ cs us):∀u∈us,u.oneCell'=true:=by
  intro u hu;obtain⟨i,hi,e⟩:=mem_iff_getElem.1 hu;have hc:i<cs.length:=by rw[<-h.1];exact hi
  exact FS (FR hs cs[i] (getElem_mem hc)) (h.2 i cs[i] u (getElem?_eq_getElem hc) (by rw[<-e];exact getElem?_eq_getElem hi))
theorem mM{x:AV}{v:Value}(hx:bX Z w ρ x v){K:List AC->Prop}(hk:mL x K):∃cs,K cs/\jC cs=true/\Aj Z w ρ cs v.cells.toList:=by
  unfold mL at hk;split at hk
  · split at hk
    · rename_i hs;cases hx with
      |one c _ h=>
        have h1:=FS hs h;have hv:v.cells= #[v]:=by unfold Value.oneCell' at h1;unfold Value.cells;split<;>simp_all
        refine⟨_,hk,hs,by rw[hv];rfl,λi c' u hc hu=>?_⟩;rw[hv]at hu;cases i with
        |zero=>simp at hc hu;subst hc hu;exact h
        |succ i=>simp at hc
    · exact hk.elim
  · split at hk
    · rename_i hs;cases hx with
      |agg _ us hl h=>exact⟨_,hk,hs,by simp[Value.cells,hl],λi c u hc hu=>h i c u hc (by simpa[Value.cells]using hu)⟩
    · exact hk.elim
  · exact hk.elim
theorem mP:∀{cs:List AC} {K:List AD->Prop},Ii cs K->∃ds,K ds/\ds.length=cs.length/\∀{Z:Nat->Prop} {w:World} {ρ:Nat->Value} (i:Nat) d c v,ds[i]? =some d->cs[i]? =some c->dW Z w ρ c v->bR Z w d v
  |[],K,h=>⟨[],h,rfl,by simp⟩
  | .d x::r,K,h=>by
    obtain⟨ds,hk,hl,hr⟩:=mP (cs:=r) h;refine⟨x::ds,hk,by simp[hl],λi d c v h1 h2 h3=>?_⟩;cases i with
    |zero=>simp at h1 h2;subst h1 h2;exact h3
    |succ i=>exact hr i d c v (by simpa using h1) (by simpa using h2) h3
  | .nil::r,K,h=>by
    obtain⟨ds,hk,hl,hr⟩:=mP (cs:=r) h;refine⟨.sl []::ds,hk,by simp[hl],λi d c v h1 h2 h3=>?_⟩;cases i with
    |zero=>
      simp at h1 h2;subst h1 h2;have h3:v= .slice none 0 0:=h3;subst h3;exact .sl [] none 0 0 [] (Nat.le_refl _) (zero_le _) rfl aj aj (.inl rfl) aj
    |succ i=>exact hr i d c v (by simpa using h1) (by simpa using h2) h3
  | .dead::_,_,h=>h.elim
  | .und::_,_,h=>h.elim
  | .own _::_,_,h=>h.elim
  | .ref _ _ _ _::_,_,h=>h.elim
  | .ptr _::_,_,h=>h.elim
theorem nr{P:Program}{b:Nat}{t:TypeId}:∀(vs:List Value) (off i:Nat) (w:World) (cur:Array Value),w.heap[b]? =some (.cells cur t (0,0))->(∀v∈vs,v.oneCell'=true)->off+i+vs.length<=cur.size->
    ∃w' cur',(storeCells ⟨b,off,none⟩ vs i).run P w= .ok () w'/\w.grownBy w' (some b)/\w'.heap[b]? =some (.cells cur' t (0,0))/\cur'.size=cur.size/\∀j:Nat,cur'[j]? =if off+i<=j/\j<off+i+vs.length then vs[j-(off+i)]? else cur[j]?
  |[],off,i,w,cur,hg,_,_=>by
    refine⟨w,cur,rfl,World.grownBy.refl w _,hg,rfl,λj=>?_⟩;rw[if_neg aj]
  |v::r,off,i,w,cur,hg,h1,hlt=>by
    simp only[length_cons]at hlt;have hb:b<w.heap.size:=(Array.getElem?_eq_some_iff.1 hg).1;have ha:(⟨b,off,none⟩:Addr).add i=⟨b,off+i,none⟩:=by unfold Addr.add;split<;>simp_all
    have hc:w.cell? ⟨b,off+i,none⟩=some cur[off+i]:=by
      rw[cell_of_row w b (off+i) cur t (0,0) hg];exact Array.getElem?_eq_getElem ac
    have hf:w.frozen? ⟨b,off+i,none⟩=false:=by simp[World.frozen?,hg]
    have hg1:(w.setCell ⟨b,off+i,none⟩ v).heap[b]? =some (.cells (cur.setIfInBounds (off+i) v) t (0,0)):=by
      simp[World.setCell,Array.getElem?_modify,hg]
    obtain⟨w',cur',hr,hgr,hg',hs,hj⟩:=nr (P:=P) r off (i+1) _ _ hg1 (λu hu=>h1 u (by simp[hu])) al;refine⟨w',cur',?_,?_,hg',by simpa using hs,λj=>?_⟩
    · simp only[storeCells,ha,Sem.run_bind];rw[run_store P w _ v _ (h1 v aj),hc];simp only[hf,Result.andThen_ok];exact hr
    · have h0:w.grownBy (w.setCell ⟨b,off+i,none⟩ v) (some b):=⟨rfl,rfl,rfl,by simp,λk hk hne=>Below.heap_setCell _ _ _ _ (λe=>hne (by rw[e]))⟩;exact h0.trans hgr
    · rw[hj j];by_cases h2:off+(i+1)<=j/\j<off+(i+1)+r.length
      · rw[if_pos h2,if_pos ⟨ac,by simp;omega⟩];rw[show j-(off+i)=(j-(off+(i+1)))+1 by omega];rfl
      · rw[if_neg h2,Array.getElem?_setIfInBounds];by_cases h3:off+i=j
        · subst h3;rw[if_pos rfl,if_pos ac,if_pos ⟨Nat.le_refl _,by simp⟩,Nat.sub_self];rfl
        · rw[if_neg h3,if_neg];simp only[length_cons];omega
theorem pr{t u:TypeId}{i:TI}(hi:aS E.P t i){b off:Nat}{v:Value}(hv:v.cells.toList.length=i.size)(h1:∀x∈v.cells.toList,x.oneCell'=true){cur:Array Value}(hg:w.heap[b]? =some (.cells cur u (0,0)))(hle:off+i.size<=cur.size):
    ∃w' cur',(storeVar t ⟨b,off,none⟩ v).run E.P w= .ok () w'/\w.grownBy w' (some b)/\w'.heap[b]? =some (.cells cur' u (0,0))/\cur'.size=cur.size/\∀j:Nat,cur'[j]? =if off<=j/\j<off+i.size then v.cells.toList[j-off]? else cur[j]? :=by
  obtain⟨w',cur',hr,h2,h3,h4,h5⟩:=nr (P:=E.P) v.cells.toList off 0 w cur hg h1 ac;refine⟨w',cur',?_,h2,h3,h4,λj=>by have:=h5 j;rw[hv]at this;simpa using this⟩;unfold storeVar;have hz:v.cells.size=i.size:=by simpa using hv
  simp only[Sem.run_bind,hi.sz,Result.andThen_ok,hz,ne_eq,not_true_eq_false,if_false,Sem.run_pure];exact hr
theorem wO{us:List (List Value)}{s:Nat}(h:∀u∈us,u.length=s){k r:Nat}{u:List Value}(hu:us[k]? =some u)(hr:r<s):us.flatten[k*s+r]? =u[r]? :=by
  have hl:r<u.length:=by rw[h u (mem_of_getElem? hu)];exact hr
  rw[getElem?_eq_getElem hl];exact mV h hu (getElem?_eq_getElem hl)
theorem xu{us:List (List Value)}{s k:Nat}{nu:List Value}(h:∀u∈us,u.length=s)(hn:nu.length=s):∀u∈us.set k nu,u.length=s:=by
  intro u hu;rcases List.mem_or_eq_of_mem_set hu with hu|rfl
  · exact h u hu
  · exact hn
theorem Q7{us:List (List Value)}{s k off m:Nat}{nu vs cur cur':List Value}(hus:∀u∈us,u.length=s)(hk:k<us.length)(hn:nu.length=s)(hc:cur.take (us.length*s)=us.flatten)(hlen:us.length*s<=cur.length)(hcl:cur'.length=cur.length)(hoff:off+m<=s)
    (hj:∀j:Nat,cur'[j]? =if k*s+off<=j/\j<k*s+off+m then vs[j-(k*s+off)]? else cur[j]?) (hnu:∀j,j<s->nu[j]? =if off<=j/\j<off+m then vs[j-off]? else us[k][j]?):cur'.take (us.length*s)=(us.set k nu).flatten:=by
  apply List.ext_getElem?;intro q;by_cases hq:q<us.length*s
  · have hs:0<s:=by
      rcases Nat.eq_zero_or_pos s with h|h
      · rw[h]at hq;omega
      · exact h
    have hp:q/s<us.length:=Nat.div_lt_of_lt_mul (by rwa[mul_comm]at hq);have hr:q % s<s:=mod_lt _ hs;have hqe:q/s*s+q % s=q:=by rw[mul_comm];exact Nat.div_add_mod q s
    generalize q/s=p at*
    generalize q % s=r at*
    subst hqe;rw[List.getElem?_take,if_pos hq,hj];by_cases hpk:p=k
    · subst hpk;rw[wO (u:=nu) (xu hus hn) (by simp[hk]) hr,hnu r hr];by_cases h1:off<=r/\r<off+m
      · rw[if_pos h1,if_pos ac];congr 1;omega
      · rw[if_neg h1,if_neg ac];have:=wO hus (getElem?_eq_getElem hk) hr;rw[<-this,<-hc,List.getElem?_take,if_pos hq]
    · have hne:¬(k*s+off<=p*s+r/\p*s+r<k*s+off+m):=by
        rcases Nat.lt_or_gt_of_ne hpk with h|h
        · have:(p+1)*s<=k*s:=Nat.mul_le_mul_right s h;rw[add_mul]at this;omega
        · have:(k+1)*s<=p*s:=Nat.mul_le_mul_right s h;rw[add_mul]at this;omega
      rw[if_neg hne,wO (u:=us[p]) (xu hus hn) (by rw[List.getElem?_set_ne (λe=>hpk e.symm)];exact getElem?_eq_getElem hp) hr,<-wO hus (getElem?_eq_getElem hp) hr,<-hc,List.getElem?_take,if_pos hq]
  · rw[List.getElem?_eq_none al,List.getElem?_eq_none (by rw[jq (xu hus hn)];simp;omega)]
theorem ET(h:Sim E.W S Z ρ st a w){Z':Nat->Prop}{ρ':Nat->Value}{st':ASt}{w':World}(hs:Sim E.W S Z' ρ' st' a w')(hr:(execOp a.eval o).run E.P w= .ok .skip w')(hk:dR st' o.dst (.one .und) K):qU E S o a w K:=by
  intro Q;unfold Oper.wp;rw[hr];exact⟨_,⟨Z',ρ',hs.put o.dst (.one _ _ (show dW Z' w' ρ' .und undef from rfl))⟩,fW hk⟩
theorem Lz(he:E.Ok)(h:Sim E.W S Z ρ st a w){t:TypeId}{x v:Operand}(ho:o.op= .store t x v)
    (hk:aEv st x λx=>aEv st v λv=>Px E st t x v λst=>dR st o.dst (.one .und) K):qU E S o a w K:=by
  obtain⟨vx,hx,hk⟩:=bn h hk;obtain⟨vv,hv,hk⟩:=bn h hk;obtain⟨i,hi,hk⟩:=bN he hk;obtain⟨vs,hk,hsol,hrel⟩:=mM hv hk;split at hk
  · exact hk.elim
  · rename_i hlen;have hlen:=tN hlen;have h1:=OO hsol hrel;have hvl:(a.eval v).cells.toList.length=i.size:=by rw[hrel.1,hlen]
    split at hk
    · rename_i id k s off _ _ _;cases hx with
      |one _ _ hx=>
        obtain⟨b,hb,e⟩:=hx;obtain⟨ob,hob,hk⟩:=co hk;have hob':=h.ws.obj id ob hob;split at hk
        · rename_i u cs;split at hk
          · obtain⟨b',us,hp,hg,hl,hc⟩:=hob';have hb':=hb;rw[hp]at hb;simp only[bQ]at hb;injection hb with hb
            subst hb;obtain⟨hle,cs',hk,hl',hcs⟩:=ly hk;have hk:=dl hk;rw[Nat.zero_mul,zero_add]at e;obtain⟨w',cur',hr,hgr,hg',hsz,hj⟩:=pr (w:=w) (off:=off) hi hvl h1 hg al;have hz:=h.ws.zsame hgr (by rintro k ⟨rfl⟩;exact(h.ws.mine id _ b' hob hb').1);refine ET h (h.upd id _ (.cells u cs') hob hb' hgr ⟨b',cur'.toList,hp,by simpa using hg',by simp[hsz,hl,hl'],λj c y h2 h3=>?_⟩) ?_ hk
            · have h3':cur'[j]? =some y:=by simpa using h3
              rw[hj j]at h3';rcases hcs j c h2 with⟨h4,h5⟩|⟨h4,h5⟩
              · have hjl:j-off<vs.length:=(List.getElem?_eq_some_iff.1 h5).1;rw[if_pos ⟨h4,ac⟩]at h3';exact(hrel.2 _ c y h5 h3').mono (λ_ h=>h) hz
              · rw[if_neg ac]at h3';exact(hc j c y h5 (by simpa using h3')).mono (λ_ h=>h) hz
            · simp[execOp,ho,e,Instr.storeAt,Instr.sureAddr,hr]
          · exact hk.elim
        · rename_i e' s' xs;split at hk
          · rename_i hs;have hs:=eq_of_beq_eq_true hs;subst hs;obtain⟨us,h0,hl,hxs,hus,hown,hd⟩:=hob';obtain⟨k',ex,hkk,hex,hk⟩:=hk.h;have hkk:k=k':=ac;subst hkk;have hk:=mx hk;obtain⟨hle,cs',hk,hl',hcs⟩:=ly hk;obtain⟨ds,hk,hdl,hdr⟩:=mP hk;have hk:=dl hk;have hkx:k<xs.length:=(List.getElem?_eq_some_iff.1 hex).1;have hku:k<us.length:=by rw[hl];exact hkx
            have hu1:us[k]? =some us[k]:=getElem?_eq_getElem hku;have hul:=hus us[k] (getElem_mem hku);have hxl:=hxs ex (mem_of_getElem? hex);obtain⟨cap,cur,hρ,hg,hnc,hcm,hcs2,ht⟩:=yg hown hb;have hfl:us.flatten.length=us.length*s:=jq hus;simp only[List.length_map]at hle hl';have hks:k*s+s<=us.length*s:=by
              have:(k+1)*s<=us.length*s:=Nat.mul_le_mul_right s ac;rw[add_mul]at this;omega
            have hcap:us.length*s<=cap*s:=Nat.mul_le_mul_right s ac;obtain⟨w',cur',hr,hgr,hg',hsz,hj⟩:=pr (w:=w) (off:=k*s+off) hi hvl h1 hg (by rw[hcs2];omega);have hz:=h.ws.zsame hgr (by rintro g ⟨rfl⟩;exact(h.ws.mine id _ b hob hb).1);let nu:List Value:=(List.range s).map λj=>if off<=j/\j<off+i.size then(a.eval v).cells.toList.getD (j-off) undef else us[k].getD j undef
            have hnul:nu.length=s:=by simp[nu]
            have hnu:∀j,j<s->nu[j]? =if off<=j/\j<off+i.size then(a.eval v).cells.toList[j-off]? else us[k][j]? :=by
              intro j hjs;simp only[nu,getElem?_map,List.getElem?_range hjs,Option.map_some];by_cases hc:off<=j/\j<off+i.size
              · rw[if_pos hc,if_pos hc,List.getD,getElem?_eq_getElem ac];rfl
              · rw[if_neg hc,if_neg hc,List.getD,getElem?_eq_getElem ac];rfl
            refine ET h (h.upd id _ (.row e' s (xs.set k ds)) hob hb hgr ⟨us.set k nu,h0,by simp[hl],λx hx=>?_,λu hu=>?_,⟨?_,.inr ⟨b,cap,cur',by rw[hρ];simp,zero_le _,hg',by simpa using hnc,hcm,by rw[hsz,hcs2],?_⟩⟩,λp q x u d y h2 h3 h4 h5=>?_⟩) ?_ hk
            · rcases List.mem_or_eq_of_mem_set hx with hx|rfl
              · exact hxs x hx
              · omega
            · exact xu hus hnul u hu
            · rw[jq (xu hus hnul)];simp[hl]
            · have:=Q7 (cur:=cur.toList) (cur':=cur'.toList) (off:=off) (m:=i.size) (vs:=(a.eval v).cells.toList) hus hku hnul (by rw[hl];exact ht) (by simp[hcs2];omega) (by simp[hsz]) ac (λj=>by simpa only[getElem?_toList]using hj j) (by simpa only[getElem?_toList]using hnu);rw[hl]at this;simpa using this
            · by_cases hpk:k=p
              · subst hpk;rw[List.getElem?_set_self (by simpa using hkx)]at h2;rw[List.getElem?_set_self (by simpa using hku)]at h3;injection h2 with h2
                injection h3 with h3
                subst h2 h3;have hqs:q<s:=by have:=(List.getElem?_eq_some_iff.1 h5).1;omega
                rw[hnu q hqs]at h5;have hqc:q<cs'.length:=by have:=(List.getElem?_eq_some_iff.1 h4).1;omega
                refine hdr q d cs'[q] y h4 (getElem?_eq_getElem hqc) ?_ (ρ:=ρ);rcases hcs q _ (getElem?_eq_getElem hqc)with⟨h6,h7⟩|⟨h6,h7⟩
                · have hql:q-off<vs.length:=(List.getElem?_eq_some_iff.1 h7).1;rw[if_pos ⟨h6,ac⟩]at h5;exact(hrel.2 _ _ y h7 h5).mono (λ_ h=>h) hz
                · rw[if_neg ac]at h5;rw[getElem?_map]at h7;obtain⟨d0,h8,h9⟩:=map_eq_some_iff.1 h7;rw[<-h9];exact(hd k q ex us[k] d0 y hex hu1 h8 h5).mono (λ_ h=>h) hz
              · rw[List.getElem?_set_ne hpk]at h2 h3;exact(hd p q x u d y h2 h3 h4 h5).mono (λ_ h=>h) hz
            · simp[execOp,ho,e,Instr.storeAt,Instr.sureAddr,hr]
          · exact hk.elim
        · exact hk.elim
        · exact hk.elim
        · exact hk.elim
    · exact hk.elim
end
end
section
open Go.RowKit
section
variable {E:bB} {S:bV} {Z:Nat->Prop} {ρ:Nat->Value} {st:ASt} {a:Act} {w:World} {K:ASt->Prop} {o:Oper}
theorem grownBy_alloc(w:World)(ob:Obj)(row:Option Nat):w.grownBy (w.alloc ob) row:=⟨rfl,rfl,rfl,by simp,λk hk _=>Below.heap_alloc w ob k hk⟩
theorem t8{x:AV}{v:Value}{st':ASt}{Z':Nat->Prop}{ρ':Nat->Value}{w':World}(hs:Sim E.W S Z' ρ' st' a w')(hx:bX Z' w' ρ' x v)(hr:(execOp a.eval o).run E.P w= .ok (.value v) w')(hk:dR st' o.dst x K):qU E S o a w K:=by
  intro Q;unfold Oper.wp;rw[hr];exact⟨_,⟨Z',ρ',hs.put o.dst hx⟩,fW hk⟩
theorem uZ(h:Sim E.W S Z ρ st a w){t:TypeId}{cs:List AC}{v:Value}(hrel:Aj Z w ρ cs v.cells.toList)
    (hr:(execOp a.eval o).run E.P w= .ok (.value (.pointer (some ⟨w.heap.size,0,none⟩))) (w.alloc (.cells v.cells t)))
    (hk:Nw st o.dst t cs K):qU E S o a w K:=by
  unfold Nw at hk;split at hk
  · rename_i d hd;have hk:=nH hk;have hk:=io hk;have hg:=grownBy_alloc w (.cells v.cells t) none;have hz:=h.ws.zsame hg aj;have hs:=h.renew d (.pointer (some ⟨w.heap.size,0,none⟩)) (.cells t (cs.map (jt d))) hg aj (λb hb=> .inr (by simp[bQ]at hb;omega))
      ⟨w.heap.size,v.cells.toList,by simp,by rw[toArray_toList];exact heap_alloc_new w _,by simp[hrel.1],λi c u h1 h2=>by
        rw[getElem?_map]at h1;obtain⟨c0,h0,rfl⟩:=map_eq_some_iff.1 h1;exact mG ((hrel.2 i c0 u h0 h2).mono (λ_ h=>h) hz)⟩
    refine t8 hs (pp (id:=d) (k:=0) (s:=0) (off:=0) (b:=w.heap.size) (by simp[bQ]) aj) hr ?_;rw[hd];exact hk
  · exact hk.elim
theorem P7(h:Sim E.W S Z ρ st a w){t:TypeId}{x:Operand}(ho:o.op= .box t x)(hk:aEv st x λx=>mL x λcs=>Nw st o.dst t cs K):qU E S o a w K:=by
  obtain⟨vx,hx,hk⟩:=bn h hk;obtain⟨cs,hk,_,hrel⟩:=mM hx hk;refine uZ h hrel ?_ hk;simp[execOp,ho,Instr.box,newVar,newRow]
theorem tT{z:Value}{K:List AC->Prop}(hk:ww z K):∃cs,K cs/\jC cs=true/\∀(Z:Nat->Prop) (w:World) (ρ:Nat->Value),Aj Z w ρ cs z.cells.toList:=by
  unfold ww at hk;split at hk
  · rename_i cs;have hk:=AT hk;split at hk
    · rename_i hs;refine⟨_,hk,hs,λZ w ρ=>⟨by simp[Value.cells],λi c u h1 h2=>?_⟩⟩;rw[getElem?_map]at h1;obtain⟨u0,h0,rfl⟩:=map_eq_some_iff.1 h1;have h2':cs.toList[i]? =some u:=h2;rw[h2']at h0;injection h0 with h0
      subst h0;exact z3 ..
    · exact hk.elim
  · rename_i hz;have hk:=AQ hk;split at hk
    · rename_i hs;refine⟨_,hk,hs,λZ w ρ=>?_⟩;have hv:z.cells= #[z]:=by
        unfold Value.cells;split
        · exact absurd rfl (hz _)
        · rfl
      rw[hv];refine⟨rfl,λi c u h1 h2=>?_⟩;cases i with
      |zero=>simp at h1 h2;subst h1 h2;exact z3 ..
      |succ i=>simp at h1
    · exact hk.elim
theorem aS.zr{P:Program}{t:TypeId}{i:TI}(h:aS P t i)(w:World):(zeroValue t).run P w= .ok i.zero w:=by
  obtain⟨j,hj,hz,_⟩:=h.info';simp[zeroValue,typeInfo,hj,hz]
theorem Lx(he:E.Ok)(h:Sim E.W S Z ρ st a w){t:TypeId}(ho:o.op= .alloc t)(hk:aTI E.T t λi=>ww i.zero λcs=>Nw st o.dst t cs K):qU E S o a w K:=by
  obtain⟨i,hi,hk⟩:=bN he hk;obtain⟨cs,hk,_,hrel⟩:=tT hk;refine uZ h (hrel Z w ρ) ?_ hk;simp[execOp,ho,Instr.alloc,hi.zr,newVar,newRow]
theorem ER:∀(vs:List Value) (off n:Nat) (cells:Array Value),off+n+vs.length<=cells.size->
    ((vs.zipIdx n).foldl (λcs (p:Value×Nat)=>cs.setIfInBounds (off+p.2) p.1) cells).size=cells.size/\
    ∀j:Nat,((vs.zipIdx n).foldl (λcs (p:Value×Nat)=>cs.setIfInBounds (off+p.2) p.1) cells)[j]? =if off+n<=j/\j<off+n+vs.length then vs[j-(off+n)]? else cells[j]?
  |[],off,n,cells,_=>⟨rfl,λj=>by rw[if_neg aj];rfl⟩
  |v::r,off,n,cells,h=>by
    simp only[length_cons]at h;obtain⟨h1,h2⟩:=ER r off (n+1) (cells.setIfInBounds (off+n) v) al;refine⟨by rw[List.zipIdx_cons,List.foldl_cons,h1];simp,λj=>?_⟩;rw[List.zipIdx_cons,List.foldl_cons,h2 j];by_cases h3:off+(n+1)<=j/\j<off+(n+1)+r.length
    · rw[if_pos h3,if_pos ⟨ac,by simp;omega⟩,show j-(off+n)=(j-(off+(n+1)))+1 by omega];rfl
    · rw[if_neg h3,Array.getElem?_setIfInBounds];by_cases h4:off+n=j
      · subst h4;rw[if_pos rfl,if_pos ac,if_pos ⟨Nat.le_refl _,by simp⟩,Nat.sub_self];rfl
      · rw[if_neg h4,if_neg];simp only[length_cons];omega
theorem EO{place:Nat->Option (Nat×Nat)}{i:Nat}{v:Value}{rest:List (Nat×Value)}{off:Nat}{us:List Value}(hp:place i=some (off,v.cells.toList.length))(hle:off+v.cells.toList.length<=us.length):
    ∃us':List Value,us'.length=us.length/\(∀j:Nat,us'[j]? =if off<=j/\j<off+v.cells.toList.length then v.cells.toList[j-off]? else us[j]?)/\Instr.fill place us.toArray ((i,v)::rest)=Instr.fill place us'.toArray rest:=by
  obtain⟨h1,h2⟩:=ER v.cells.toList off 0 us.toArray (by simpa using hle);refine⟨((v.cells.toList.zipIdx 0).foldl (λcs (p:Value×Nat)=>cs.setIfInBounds (off+p.2) p.1) us.toArray).toList,by simpa using h1,λj=>?_,?_⟩
  · rw[getElem?_toList,h2 j];simp
  · have e1:¬((v.cells.size≠v.cells.toList.length||off+v.cells.size>us.toArray.size)=true):=by simp at hle⊢;omega
    have e2:(v.cells.zipIdx.foldl (λcs (x:Value×Nat)=>cs.setIfInBounds (off+x.2) x.1) us.toArray)=((v.cells.toList.zipIdx 0).foldl (λcs (p:Value×Nat)=>cs.setIfInBounds (off+p.2) p.1) us.toArray):=by
      rw[<-Array.foldl_toList,Array.toList_zipIdx]
    rw[Instr.fill,hp];simp only;rw[if_neg (by simpa using e1)];rw[<-e2]
theorem xI(h:Sim E.W S Z ρ st a w){pl:Nat->(Nat×Nat->Prop)->Prop}{place:Nat->Option (Nat×Nat)}(hpl:∀i Kp,pl i Kp->∃p,place i=some p/\Kp p):
    ∀(parts:List (Nat×Operand)) (l:List AC) (us:List Value) (K:List AC->Prop),Aj Z w ρ l us->H5 st pl parts l K->
      ∃us' l',Instr.fill place us.toArray (parts.map λp=>(p.1,a.eval p.2))=some us'.toArray/\Aj Z w ρ l' us'/\K l'
  |[],l,us,K,hr,hk=>⟨us,l,rfl,hr,hk⟩
  |(i,x)::r,l,us,K,hr,hk=>by
    obtain⟨p,hp,hk⟩:=hpl _ _ hk;obtain⟨v,hv,hk⟩:=bn h hk;obtain⟨vs,hk,hsol,hvs⟩:=mM hv hk;split at hk
    · rename_i hlen;have hlen:=tN hlen;obtain⟨hle,l',hk,hl',hcs⟩:=ly hk;have hp':place i=some (p.1,(a.eval x).cells.toList.length):=by rw[hvs.1,hlen,hp]
      obtain⟨us',hul,huj,hf⟩:=EO (rest:=r.map λp=>(p.1,a.eval p.2)) hp' (us:=us) (by rw[hvs.1,hr.1];exact hle);have hr':Aj Z w ρ l' us':=by
        refine⟨by rw[hul,hr.1,hl'],λj c u h1 h2=>?_⟩;rw[huj j]at h2;rcases hcs j c h1 with⟨h4,h5⟩|⟨h4,h5⟩
        · have:j-p.1<vs.length:=(List.getElem?_eq_some_iff.1 h5).1;rw[if_pos ⟨h4,by rw[hvs.1];omega⟩]at h2;exact hvs.2 _ c u h5 h2
        · rw[if_neg (by rw[hvs.1];omega)]at h2;exact hr.2 j c u h5 h2
      obtain⟨us2,l2,hf2,hr2,hk⟩:=xI h hpl r l' us' K hr' hk;exact⟨us2,l2,by rw[map_cons,hf,hf2],hr2,hk⟩
    · exact hk.elim
theorem JW{l:List AC}{us:List Value}(h:Aj Z w ρ l us):bX Z w ρ (.agg l) (.agg us.toArray):= .agg l us h.1 h.2
theorem yx(he:E.Ok):∀{fs:List Field} {K:List (Nat×Nat)->Prop},zX E (fs.map λf=>(f.offset,f.type)) K->∃places,fs.mapM (λf=>(E.P.info? f.type).map λi=>(f.offset,i.size))=some places/\K places
  |[],K,h=>⟨[],rfl,h⟩
  |f::r,K,h=>by
    obtain⟨j,hj,h⟩:=bN he h;obtain⟨q,hq,hk⟩:=yx he (fs:=r) h;obtain⟨jj,hjj,_,hjs,_⟩:=hj.info';refine⟨_,?_,hk⟩;simp[mapM_cons,hjj,hjs,hq]
theorem zm{K:AV->Prop}(he:E.Ok)(h:Sim E.W S Z ρ st a w){t:TypeId}{ps:Array (Nat×Operand)}(ho:o.op= .build t ps)
    (hk:As E st t ps.toList K):jm E Z ρ o a w K:=by
  obtain⟨i,hi,hk⟩:=bN he hk;obtain⟨z,hk,_,hz⟩:=tT hk;have hps:(ps.map fun(i,x)=>(i,a.eval x)).toList=ps.toList.map λp=>(p.1,a.eval p.2):=aj;split at hk
  · rename_i fs hfs;obtain⟨fields,hu,hf⟩:=hi.stf hfs;subst hf;obtain⟨places,hp,hk⟩:=yx he hk;obtain⟨us',l',hf2,hr2,hk⟩:=xI h (place:=λn=>places[n]?) (λn Kp hp=>fD hp) ps.toList z i.zero.cells.toList _ (hz Z w ρ) hk;refine⟨_,_,(JW hr2),?_,hk⟩;simp only[toArray_toList]at hf2;have hrun:=run_places (P:=E.P) w fields.toList places hp;simp only[execOp,ho,Instr.build,Sem.run_bind,hi.zr,Result.andThen_ok,run_underlying hu,Array.mapM_eq_mapM_toList,hps];simp[hrun,hf2]
  · rename_i n e hfs;have hu:=hi.arr hfs;obtain⟨j,hj,hk⟩:=bN he hk;obtain⟨us',l',hf2,hr2,hk⟩:=xI h (place:=λn=>some (n*j.size,j.size)) (λn Kp hp=>⟨_,rfl,hp⟩) ps.toList z i.zero.cells.toList _ (hz Z w ρ) hk;refine⟨_,_,(JW hr2),?_,hk⟩;simp only[toArray_toList]at hf2;simp only[execOp,ho,Instr.build,Sem.run_bind,hi.zr,Result.andThen_ok,run_underlying hu,hj.sz,hps,hf2,Sem.run_pure]
  · exact hk.elim
theorem lH(he:E.Ok)(h:Sim E.W S Z ρ st a w){e:TypeId}{j:TI}(hj:aS E.P e j){xs:List (List AD)}{us:List (List Value)}{v:Value}{w':World}
    (hl:us.length=xs.length) (hxs:∀x∈xs,x.length=j.size) (hus:∀u∈us,u.length=j.size) (hd:∀(i k:Nat) x u p q,xs[i]? =some x->us[i]? =some u->x[k]? =some p->u[k]? =some q->bR Z w p q)
    (hown:w'.ownsRow 0 e j.size v xs.length us.flatten) (hg:w.grownBy w' none) (hv:∀b,bQ v=some b->w.heap.size<=b)
    (hr:(execOp a.eval o).run E.P w= .ok (.value v) w') (hk:nJ E st o.dst e xs K):qU E S o a w K:=by
  obtain⟨j',hj',hk⟩:=bN he hk;have hjj:j'.size=j.size:=by
    obtain⟨x,hx,_,hs,_⟩:=hj.info';obtain⟨y,hy,_,hs',_⟩:=hj'.info';rw[hx]at hy;injection hy with hy
    subst hy;rw[<-hs,<-hs']
  split at hk
  · exact hk.elim
  · rename_i s hs;split at hk
    · rename_i d hdst;have hk:=io hk;have hz:=h.ws.zsame hg aj;have hsz:j.size=s+1:=ac;have h1:v.oneCell'=true:=by rcases hown.2 with⟨rfl,_⟩|⟨g,cap,cur,rfl,_⟩<;>rfl
      have hs':=h.renew d v (.row e (s+1) xs) hg aj (λb hb=> .inr (hv b hb))
        ⟨us,ac,hl,λx hx=>(hxs x hx).trans hsz,λu hu=>(hus u hu).trans hsz,by simpa[hsz]using hown,λi k x u p q h2 h3 h4 h5=>(hd i k x u p q h2 h3 h4 h5).mono (λ_ h=>h) hz⟩
      refine t8 hs' (xl (id:=d) aj h1) hr ?_;rw[hdst];exact hk
    · exact hk.elim
end
end
section
open Go.RowKit
section
variable {E:bB} {S:bV} {Z:Nat->Prop} {ρ:Nat->Value} {st:ASt} {a:Act} {w:World} {K:ASt->Prop} {o:Oper}
theorem Nx{x:AV}{K:List AC->Prop}(hk:mL x K):∃cs,K cs:=by
  unfold mL at hk;split at hk
  · split at hk
    · exact⟨_,hk⟩
    · exact hk.elim
  · split at hk
    · exact⟨_,hk⟩
    · exact hk.elim
  · exact hk.elim
theorem xG(h:Sim E.W S Z ρ st a w){s n:Nat}:∀(parts:List (Nat×Operand)) (q:Nat) (K:List (List AD)->Prop),lV st s parts q n K->q<=n/\∃xs,K xs
  |[],q,K,hk=>by
    simp only[lV]at hk;split at hk
    · rename_i e;exact⟨Nat.le_of_eq (eq_of_beq_eq_true e),_,hk⟩
    · exact hk.elim
  |(i,x)::r,q,K,hk=>by
    simp only[lV]at hk;split at hk
    · obtain⟨v',_,hk⟩:=bn h hk;obtain⟨cs,hk⟩:=Nx hk;split at hk
      · obtain⟨ds,hk,_⟩:=mP hk;obtain⟨h1,xs,hk⟩:=xG h r _ _ hk;exact⟨ac,_,hk⟩
      · exact hk.elim
    · exact hk.elim
theorem Av(h:Sim E.W S Z ρ st a w){s:Nat}:∀(parts:List (Nat×Operand)) (at_ n:Nat) (done rest:List Value) (K:List (List AD)->Prop),done.length=at_*s->done.length+rest.length=n*s->0<s->lV st s parts at_ n K->
    ∃(xs:List (List AD)) (us:List (List Value)),at_+xs.length=n/\us.length=xs.length/\(∀x∈xs,x.length=s)/\(∀u∈us,u.length=s)/\(∀(i k:Nat) x u p q,xs[i]? =some x->us[i]? =some u->x[k]? =some p->u[k]? =some q->bR Z w p q)/\
      Instr.fill (λi=>some (i*s,s)) (done++rest).toArray (parts.map λp=>(p.1,a.eval p.2))=some (done++us.flatten).toArray/\K xs
  |[],at_,n,done,rest,K,hd,hr,hs,hk=>by
    simp only[lV]at hk;split at hk
    · rename_i e;have e:=eq_of_beq_eq_true e;subst e;have:rest=[]:=List.eq_nil_of_length_eq_zero ac;subst this;exact⟨[],[],rfl,rfl,by simp,by simp,by simp,by simp[Instr.fill],hk⟩
    · exact hk.elim
  |(i,x)::r,at_,n,done,rest,K,hd,hr,hs,hk=>by
    simp only[lV]at hk;split at hk
    · rename_i e;have e:=eq_of_beq_eq_true e;subst e;obtain⟨v,hv,hk⟩:=bn h hk;obtain⟨vs,hk,hsol,hvs⟩:=mM hv hk;split at hk
      · rename_i hlen;have hlen:=tN hlen;obtain⟨ds,hk,hdl,hdr⟩:=mP hk;have hvl:(a.eval x).cells.toList.length=s:=by rw[hvs.1,hlen]
        have hroom:s<=rest.length:=by
          have h1:=(xG h r (i+1) _ hk).1;have h2:(i+1)*s<=n*s:=Nat.mul_le_mul_right s h1;rw[add_mul]at h2;omega
        obtain⟨us',hul,huj,hf⟩:=EO (place:=λi=>some (i*s,s)) (rest:=r.map λp=>(p.1,a.eval p.2)) (i:=i) (v:=a.eval x) (off:=i*s) (us:=done++rest) (by rw[hvl]) (by rw[hvl,length_append];omega);have e2:us'=(done++(a.eval x).cells.toList)++rest.drop s:=by
          apply List.ext_getElem?;intro k;rw[huj k,hvl];by_cases h1:k<done.length
          · rw[if_neg ac,List.append_assoc,getElem?_append_left h1,getElem?_append_left h1]
          · by_cases h2:k<done.length+s
            · rw[if_pos ac,getElem?_append_left (by rw[length_append,hvl];omega),getElem?_append_right ac,hd]
            · rw[if_neg ac,getElem?_append_right ac,getElem?_append_right (by rw[length_append,hvl];omega),List.getElem?_drop,length_append,hvl];congr 1;omega
        obtain⟨xs,us,h1,h2,h3,h4,h5,h6,hk⟩:=Av h r (i+1) n (done++(a.eval x).cells.toList) (rest.drop s) _ (by rw[length_append,hvl,hd,add_mul];omega) (by rw[length_append,hvl,List.length_drop];omega) hs hk;refine⟨ds::xs,(a.eval x).cells.toList::us,by simp;omega,by simp[h2],λy hy=>?_,λy hy=>?_,λp k y u q1 q2 e3 e4 e5 e6=>?_,?_,hk⟩
        · rcases mem_cons.1 hy with rfl|hy
          · omega
          · exact h3 y hy
        · rcases mem_cons.1 hy with rfl|hy
          · exact hvl
          · exact h4 y hy
        · cases p with
          |zero=>
            simp at e3 e4;subst e3 e4;have hk2:k<vs.length:=by have:=(List.getElem?_eq_some_iff.1 e5).1;omega
            exact hdr k q1 vs[k] q2 e5 (getElem?_eq_getElem hk2) (hvs.2 k _ q2 (getElem?_eq_getElem hk2) (by simpa using e6))
          |succ p=>exact h5 p k y u q1 q2 (by simpa using e3) (by simpa using e4) e5 e6
        · rw[map_cons,hf,e2,h6];simp
      · exact hk.elim
    · exact hk.elim
theorem PI(h:Sim E.W S Z ρ st a w){t e:TypeId}{n:Nat}{ps:Array (Nat×Operand)}(ho:o.op= .buildSlice t n ps){j:TI}(hu:E.P.underlying t=some (.slice e))(hj:aS E.P e j)(hle:n*j.size<=16777216)(hs0:0<j.size)
    {K:List (List AD)->Prop} (hk:lV st j.size ps.toList 0 n K):∃(xs:List (List AD)) (us:List (List Value)),xs.length=n/\us.length=xs.length/\(∀x∈xs,x.length=j.size)/\(∀u∈us,u.length=j.size)/\
      (∀(i k:Nat) x u p q,xs[i]? =some x->us[i]? =some u->x[k]? =some p->u[k]? =some q->bR Z w p q)/\
      (execOp a.eval o).run E.P w= .ok (.value (.slice (some ⟨w.heap.size,0,none⟩) n n)) (w.alloc (.cells us.flatten.toArray e))/\n<=maxLen/\K xs:=by
  have hps:(ps.map fun(i,x)=>(i,a.eval x)).toList=ps.toList.map λp=>(p.1,a.eval p.2):=aj;obtain⟨zs,hzl,hz⟩:∃zs:Array Value,zs.size=n*j.size/\∀cells,Instr.fill (λi=>some (i*j.size,j.size)) zs (ps.toList.map λp=>(p.1,a.eval p.2))=some cells->
      (execOp a.eval o).run E.P w= .ok (.value (.slice (some ⟨w.heap.size,0,none⟩) n n)) (w.alloc (.cells cells e)):=by
    have hnl:¬(n*j.size>2^24):=ac;by_cases h0:n*j.size=0
    · refine⟨#[],by simp[h0],λcells hc=>?_⟩;simp only[execOp,ho,Instr.buildSlice,Sem.run_bind,run_underlying hu,Result.andThen_ok,hj.sz,Sem.run_ite,if_neg hnl,if_pos h0,Sem.run_pure,hps];simp only[h0,Array.range_zero',Array.map_empty,hc];simp[newRow]
    · refine⟨(Array.range (n*j.size)).map (j.zero.cells[· % j.zero.cells.size]!),by simp,λcells hc=>?_⟩;simp only[execOp,ho,Instr.buildSlice,Sem.run_bind,run_underlying hu,Result.andThen_ok,hj.sz,Sem.run_ite,if_neg hnl,if_neg h0,Sem.run_pure,hps,hj.zr,hc];simp[newRow]
  obtain⟨xs,us,h1,h2,h3,h4,h5,h6,hk⟩:=Av h ps.toList 0 n [] zs.toList _ aj (by simpa using hzl) hs0 hk;simp only[nil_append,toArray_toList]at h6;have hnm:n<=maxLen:=by
    have:n*1<=n*j.size:=Nat.mul_le_mul_left n hs0;unfold maxLen;omega
  exact⟨xs,us,ac,h2,h3,h4,h5,hz _ h6,hnm,hk⟩
theorem zL(he:E.Ok)(h:Sim E.W S Z ρ st a w){t:TypeId}{n:Nat}{ps:Array (Nat×Operand)}(ho:o.op= .buildSlice t n ps)
    (hk:yq E st o.dst t n ps.toList K):qU E S o a w K:=by
  obtain⟨i,hi,hk⟩:=bN he hk;split at hk
  · rename_i e hs;have hu:=hi.sl hs;obtain⟨j,hj,hk⟩:=bN he hk;split at hk
    · rename_i hle;have hle:=Nat.le_of_ble_eq_true hle;have hs0:0<j.size:=by
        rcases Nat.eq_zero_or_pos j.size with h0|h0
        · exfalso;obtain⟨_,xs,hk⟩:=xG h _ _ _ hk;obtain⟨j',hj',hk⟩:=bN he hk;obtain⟨x,hx,_,hxs,_⟩:=hj.info';obtain⟨y,hy,_,hys,_⟩:=hj'.info';rw[hx]at hy;injection hy with hy
          subst hy;split at hk
          · exact hk.elim
          · rename_i s hs';omega
        · exact h0
      obtain⟨xs,us,hn,h2,h3,h4,h5,hz,hnm,hk⟩:=PI h ho hu hj hle hs0 hk;have hfl:us.flatten.length=n*j.size:=by rw[jq h4,h2,hn]
      refine lH he h hj h2 h3 h4 h5 (v:= .slice (some ⟨w.heap.size,0,none⟩) n n) (w':=w.alloc (.cells us.flatten.toArray e)) ?_ (grownBy_alloc w _ none) (λb hb=>by simp[bQ]at hb;omega) hz hk;rw[hn];exact⟨hfl,.inr ⟨w.heap.size,n,us.flatten.toArray,rfl,zero_le _,heap_alloc_new w _,Nat.le_refl _,hnm,by simpa using hfl,by rw[<-hfl];exact List.take_length⟩⟩
    · exact hk.elim
  · exact hk.elim
theorem QT{l:List Value}{n s:Nat}(hl:l.length=s)(hs:0<s)(i:Nat)(hi:i<n*s):(List.replicate n l).flatten[i]? =l[i % s]? :=by
  have hk:i/s<n:=Nat.div_lt_of_lt_mul (by rwa[mul_comm]at hi);have hm:i % s<s:=mod_lt _ hs;have h1:(List.replicate n l)[i/s]? =some l:=by simp[hk]
  have h2:l[i % s]? =some l[i % s]:=getElem?_eq_getElem ac;rw[h2];have:=mV (us:=List.replicate n l) (s:=s) (λu hu=>by rw[eq_of_mem_replicate hu,hl]) h1 h2;rwa[show i/s*s+i % s=i by rw[mul_comm];exact Nat.div_add_mod i s]at this
theorem Ob(he:E.Ok)(h:Sim E.W S Z ρ st a w){t:TypeId}{l c:Operand}(ho:o.op= .makeSlice t l c)
    (hk:aEv st l λl=>aEv st c λc=>Pm E st o.dst t l c K):qU E S o a w K:=by
  obtain⟨vl,hvl,hk1⟩:=bn h hk;obtain⟨vc,hvc,hk2⟩:=bn h hk1;clear hk hk1;unfold Pm at hk2;split at hk2
  · rename_i kl n kc m;have hk:=hk2;clear hk2;have el:=cy hvl;have ec:=cy hvc;obtain⟨i,hi,hk⟩:=bN he hk;split at hk
    · rename_i e hs;have hu:=hi.sl hs;obtain⟨j,hj,hk⟩:=bN he hk;obtain⟨z,hk,hsol,hz⟩:=tT hk;obtain⟨ds,hk,hdl,hdr⟩:=mP hk;obtain⟨k,hn,hm,hb,hle,hk9⟩:=hk;subst hn hm;have hk0:=hk9;obtain⟨j',hj',hk1⟩:=bN he hk0;obtain⟨x,hx,hxz,hxs,hxb⟩:=hj.info';have hs0:0<j.size:=by
        obtain⟨y,hy,_,hys,_⟩:=hj'.info';rw[hx]at hy;injection hy with hy
        subst hy;split at hk1
        · exact hk1.elim
        · rename_i s hs';omega
      have hr:=run_make (P:=E.P) w t e x j.zero hu hx hxz kl kc k k ac ac (by
        have h1:((x.bytes*k:Nat):Int)<=281474976710656:=by rw[hxb];omega
        rwa[Int.natCast_mul]at h1) ac
      simp only[Int.toNat_natCast]at hr;have hzl:j.zero.cells.toList.length=j.size:=by simpa using hj.zs
      have hmade:(madeCells j.zero.cells (k*x.size)).toList=(List.replicate k j.zero.cells.toList).flatten:=by
        apply List.ext_getElem?;intro q;by_cases hq:q<k*j.size
        · rw[QT hzl hs0 q hq];have hm:q % j.size<j.size:=mod_lt _ hs0;simp[madeCells,hxs,hq,hj.zs,hm]
        · rw[List.getElem?_eq_none (by simp[madeCells,hxs];omega),List.getElem?_eq_none (by rw[jq (s:=j.size) λu hu=>by rw[eq_of_mem_replicate hu,hzl]];simp;omega)]
      have hown:(w.alloc (.cells (madeCells j.zero.cells (k*x.size)) e)).ownsRow 0 e j.size (.slice (some ⟨w.heap.size,0,none⟩) k k) k (List.replicate k j.zero.cells.toList).flatten:=by
        have hfl:(List.replicate k j.zero.cells.toList).flatten.length=k*j.size:=by rw[jq (s:=j.size) λu hu=>by rw[eq_of_mem_replicate hu,hzl]];simp
        refine⟨hfl,.inr ⟨w.heap.size,k,_,rfl,zero_le _,heap_alloc_new w _,Nat.le_refl _,by unfold maxLen;omega,by rw[size_madeCells,hxs],?_⟩⟩;rw[hmade,<-hfl,List.take_length]
      have hdl2:ds.length=j.size:=by rw[hdl,<-(hz Z w ρ).1,hzl]
      refine lH he h hj (xs:=List.replicate k ds) (us:=List.replicate k j.zero.cells.toList) (v:= .slice (some ⟨w.heap.size,0,none⟩) k k) aj (λy hy=>by rw[eq_of_mem_replicate hy,hdl2]) (λy hy=>by rw[eq_of_mem_replicate hy,hzl]) (λi q y u p r h1 h2 h3 h4=>?_) (by simpa using hown) (grownBy_alloc w _ none) (λb hb=>by simp[bQ]at hb;omega) ?_ hk9
      · have e1:=eq_of_mem_replicate (mem_of_getElem? h1);have e2:=eq_of_mem_replicate (mem_of_getElem? h2);subst e1 e2;have hq:q<z.length:=by have:=(List.getElem?_eq_some_iff.1 h3).1;omega
        exact hdr q p z[q] r h3 (getElem?_eq_getElem hq) ((hz Z w ρ).2 q _ r (getElem?_eq_getElem hq) h4)
      · simp[execOp,ho,el,ec,hr]
    · exact hk.elim
  · exact hk2.elim
theorem Ly(he:E.Ok)(h:Sim E.W S Z ρ st a w){t:TypeId}{c:Operand}(ho:o.op= .makeSlice t (.const (.int .i64 (.ofNat 0))) c)
    (hk:aEv st c λc=>KT E st o.dst t c K):qU E S o a w K:=by
  obtain⟨vc,hvc,hk2⟩:=bn h hk;clear hk;unfold KT at hk2;split at hk2
  · rename_i kc m;have ec:=cy hvc;obtain⟨i,hi,hk⟩:=bN he hk2;split at hk
    · rename_i e hs;have hu:=hi.sl hs;obtain⟨j,hj,hk⟩:=bN he hk;obtain⟨k,hm,hb,hle,hk9⟩:=hk;subst hm;obtain⟨x,hx,hxz,hxs,hxb⟩:=hj.info';have hr:=run_make (P:=E.P) w t e x j.zero hu hx hxz .i64 kc 0 k ac ac (by
        have h1:((x.bytes*k:Nat):Int)<=281474976710656:=by rw[hxb];omega
        rwa[Int.natCast_mul]at h1) ac
      simp only[Int.toNat_natCast,Int.toNat_zero]at hr;have hown:(w.alloc (.cells (madeCells j.zero.cells (k*x.size)) e)).ownsRow 0 e j.size (.slice (some ⟨w.heap.size,0,none⟩) 0 k) 0 ([]:List (List Value)).flatten:=by
        refine⟨by simp,.inr ⟨w.heap.size,k,_,rfl,zero_le _,heap_alloc_new w _,zero_le _,by unfold maxLen;omega,by rw[size_madeCells,hxs],by simp⟩⟩
      refine lH he h hj (xs:=[]) (us:=[]) (v:= .slice (some ⟨w.heap.size,0,none⟩) 0 k) aj aj aj aj hown (grownBy_alloc w _ none) (λb hb=>by simp[bQ]at hb;omega) ?_ hk9;have el:a.eval (.const (.int .i64 (.ofNat 0)))= .int .i64 0:=rfl;simp only[execOp,ho,el,ec,Sem.run_bind,hr];rfl
    · exact hk.elim
  · exact hk2.elim
theorem Pw(h:Sim E.W S Z ρ st a w){s:Nat}{x:AV}{v:Value}(hx:bX Z w ρ x v){K:List (List AD)->Prop}(hk:Pv st s x K):rU st x λxs=>(∀y∈xs,y.length=s)/\K xs:=by
  unfold Pv at hk;unfold rU;split at hk
  · exact⟨by simp,hk⟩
  · exact hk
  · obtain⟨o,ho,hk⟩:=co hk;have hob:=h.ws.obj _ o ho;refine KV ho ?_;split at hk
    · split at hk
      · rename_i e;have e:=eq_of_beq_eq_true e;subst e;obtain⟨us,_,_,hxs,_⟩:=hob;exact⟨hxs,hk⟩
      · exact hk.elim
    · exact hk.elim
  · exact hk.elim
theorem jX{e:TypeId}{s n:Nat}{v:Value}{xs:List Value}(h:w.ownsRow 0 e s v n xs):bQ v=v.ownBlock:=by
  rcases h.2 with⟨rfl,_⟩|⟨g,cap,cur,rfl,_⟩<;>rfl
theorem IL(he:E.Ok)(h:Sim E.W S Z ρ st a w){t t2:TypeId}{x y:AV}{vx vy:Value}(hx:bX Z w ρ x vx)(hy:bX Z w ρ y vy)
    (hr:(execOp a.eval o).run E.P w=((Builtin.append_ #[t,t2] o.type #[vx,vy]).run E.P w).andThen λv w=> .ok (.value v) w)
    (hk:Gp E st o.dst t t2 x y K):qU E S o a w K:=by
  unfold Gp at hk;split at hk
  · exact hk.elim
  · rename_i htt;have htt:=eq_of_beq_eq_true htt;subst htt;obtain⟨i,hi,hk⟩:=bN he hk;split at hk
    · rename_i e hs;have hu:=hi.sl hs;obtain⟨j,hj,hk⟩:=bN he hk;split at hk
      · rename_i s b hjs hjb;obtain⟨q,hq,hqz,hqs,hqb⟩:=hj.info';obtain⟨ys,A,c,rfl,hc,⟨hys',hk⟩,s',us,hul,hys,hus,hrow,hd⟩:=vG h hy (Pw h hy hk);have hus':∀u∈us,u.length=s+1:=by
          intro u hu;obtain⟨k,hk1,hk2⟩:=mem_iff_getElem.1 hu;have hky:k<ys.length:=ac;have h1:=hys ys[k] (getElem_mem hky);have h2:=hys' ys[k] (getElem_mem hky);have h3:=hus u hu;omega
        have core:∀{v:Value} {n:Nat} {xs0:List Value},w.ownsRow 0 e (s+1) v n xs0->(n+ys.length)*(b+1)<=140737488355328->
            ∃v' w',(Builtin.append_ #[t,t] o.type #[v,.slice A ys.length c]).run E.P w= .ok v' w'/\w'.ownsRow 0 e (s+1) v' (n+ys.length) (xs0++us.flatten)/\w.grownBy w' v.ownBlock/\(v'.ownBlock=v.ownBlock\/v'.ownBlock=some w.heap.size):=by
          intro v n xs0 hown hb;have hbb:n+ys.length<=140737488355328:=by
            have:(n+ys.length)*1<=(n+ys.length)*(b+1):=Nat.mul_le_mul_left _ ac;omega
          refine CR (P:=E.P) w 0 t o.type e q j.zero (s+1) (b+1) hu hq hqz ac ac (by rw[hj.zs,hjs]) ac v n xs0 hown A ys.length c us.flatten (by rw[jq hus',hul]) ?_ ?_ (by unfold maxLen;omega) hb (zero_le _)
          · intro p hp;rcases hrow with h0|⟨g,off,hA,hcell⟩
            · rw[h0]at hp;cases hp
            · refine⟨g,off,hA,?_,hcell⟩;have:=hcell p _ (getElem?_eq_getElem hp);exact World.block_lt_of_cell? w ⟨g,off+p,none⟩ this
          · intro u hu;obtain⟨l,hl,hu⟩:=List.mem_flatten.1 hu;obtain⟨k,hk1,hk2⟩:=mem_iff_getElem.1 hl;obtain⟨m,hm1,hm2⟩:=mem_iff_getElem.1 hu;have hky:k<ys.length:=ac;have hmy:m<ys[k].length:=by have:=hys' ys[k] (getElem_mem hky);have:=hus' l hl;omega
            exact(hd k m ys[k] l ys[k][m] u (getElem?_eq_getElem hky) (by rw[<-hk2];exact getElem?_eq_getElem hk1) (getElem?_eq_getElem hmy) (by rw[<-hm2];exact getElem?_eq_getElem hm1)).one
        cases x with
        |one cx=>
          cases cx with
          |nil=>
            cases hx with
            |one _ _ hx=>
              have hx:vx= .slice none 0 0:=hx;subst hx;have hk':(ys.length*(b+1)<=140737488355328)/\nJ E st o.dst e ys K:=hk;obtain⟨hb,hk'⟩:=hk';obtain⟨v',w',hrun,hown',hg,hob⟩:=core (World.ownsRow_nil w 0 e (s+1)) (by rw[zero_add];exact hb);rw[zero_add,nil_append]at hown';refine lH he h hj hul (λy hy=>(hys' y hy).trans hjs.symm) (λu hu=>(hus' u hu).trans hjs.symm) hd (by rw[hjs];exact hown') (by simpa[Value.ownBlock]using hg) (λb hb=>?_) (by rw[hr,hrun];rfl) hk';rw[jX hown']at hb;rcases hob with h0|h0
              · rw[h0]at hb;simp[Value.ownBlock]at hb
              · rw[h0]at hb;injection hb with hb;omega
          |own id=>
            cases hx with
            |one _ _ hx=>
              have hx:vx=ρ id:=hx.1;subst hx;obtain⟨ob,hobj,hk1⟩:=co (l:=st.ob) (i:=id) hk;cases ob with
              |cells t cs=>exact hk1.elim
              |frame vs us=>exact hk1.elim
              |any Q=>exact hk1.elim
              |many P Q=>exact hk1.elim
              |row e' s2 xs=>
                simp only at hk1;split at hk1
                · rename_i he' hs2;have he':=eq_of_beq_eq_true he';have hs2:=eq_of_beq_eq_true hs2;subst he' hs2;obtain⟨hb,hk2⟩:=hk1;obtain⟨ux,h0,hxl,hxx,hxu,hown,hxd⟩:=h.ws.obj id _ hobj;obtain⟨v',w',hrun,hown',hg,hob⟩:=core hown hb;have hk3:=io hk2;have hrow:∀g,(ρ id).ownBlock=some g->(∃o,bA st.ob id=some o)/\bQ (ρ id)=some g:=λg hg=>⟨⟨_,hobj⟩,by rw[jX hown];exact hg⟩;have hz:=h.ws.zsame hg (λg e=>by obtain⟨_,hb⟩:=hrow g e;exact(h.ws.mine id _ g hobj hb).1);have h1:v'.oneCell'=true:=by rcases hown'.2 with⟨rfl,_⟩|⟨g,cap,cur,rfl,_⟩<;>rfl
                  have hs':=h.renew id v' (.row e (s+1) (xs++ys)) hg hrow (λb hb=>by
                    rw[jX hown']at hb;rcases hob with h2|h2
                    · rw[h2]at hb;exact .inl ⟨⟨_,hobj⟩,by rw[jX hown];exact hb⟩
                    · rw[h2]at hb;injection hb with hb;exact .inr ac)
                    ⟨ux++us,ac,by simp[hxl,hul],λy hy=>by
                      rcases mem_append.1 hy with hy|hy
                      · exact hxx y hy
                      · exact hys' y hy,λu hu=>by
                      rcases mem_append.1 hu with hu|hu
                      · exact hxu u hu
                      · exact hus' u hu,by simpa using hown',λi k y u p q h2 h3 h4 h5=>by
                      by_cases hi:i<xs.length
                      · rw[getElem?_append_left hi]at h2;rw[getElem?_append_left ac]at h3;exact(hxd i k y u p q h2 h3 h4 h5).mono (λ_ h=>h) hz
                      · rw[getElem?_append_right ac]at h2;rw[getElem?_append_right ac,hxl]at h3;exact(hd (i-xs.length) k y u p q h2 h3 h4 h5).mono (λ_ h=>h) hz⟩
                  exact t8 hs' (xl (id:=id) aj h1) (by rw[hr,hrun];rfl) hk3
                · exact hk1.elim
          |_=>exact hk.elim
        |_=>exact hk.elim
      · exact hk.elim
    · exact hk.elim
theorem uT{P:Program}{w:World}{t u ty e:TypeId}{i:TypeInfo}(ht:P.underlying t=some (.slice e))(hu:P.underlying u=some .string)(hi:P.info? e=some i)(hz:i.zero=some (.int .u8 0))
    (hsize:i.size=1) (hby:i.bytes=1) {v v':Value} {w':World} {n:Nat} {xs:List Value} (hown:w.ownsRow 0 e 1 v n xs) {s:ByteArray} (hb:n+s.size<=140737488355328)
    (hr:(Builtin.append_ #[t,u] ty #[v,.string s]).run P w= .ok v' w') (hnil:v'= .slice none 0 0↔v= .slice none 0 0/\s.size=0):v'.ownBlock=v.ownBlock\/v'.ownBlock=some w.heap.size:=by
  have hxl:xs.length=n:=by simpa using hown.1
  rcases hown.2 with⟨rfl,rfl⟩|⟨g,cap,cur,rfl,hbg,hg,hnc,hcm,hcs,htake⟩
  · by_cases hm:s.size=0
    · rw[hnil.2 ⟨rfl,hm⟩];exact .inl rfl
    · have h2:=run_append_nil_string (P:=P) w t u ty e i (.int .u8 0) ht hu hi hz s ac ac (by rw[hby];omega);rw[hr]at h2;injection h2 with h2 _
      rw[h2];exact .inr rfl
  · by_cases hroom:n+s.size<=cap
    · have hcs':cur.size=cap:=by simpa using hcs
      have h2:=Lib.run_append_room_string (P:=P) w t u ty e i ht hu hi hsize g n cap cur hg s hroom ac;rw[hr]at h2;injection h2 with h2 _
      rw[h2];exact .inl rfl
    · have holds:∀j u,xs[j]? =some u->w.cell? ((⟨g,0,none⟩:Addr).add j)=some u:=hown.cells (g:=g) rfl;have h2:=Lib.run_append_grow_string (P:=P) w t u ty e i (.int .u8 0) ht hu hi hz ⟨g,0,none⟩ n cap xs (by rw[hsize];simpa using hxl) holds s ac ac (by rw[hby];exact growslice_fits ac ac);rw[hr]at h2;injection h2 with h2 _
      rw[h2];exact .inr rfl
theorem vO{α β:Type}(f:α->β):∀l:List α,(l.map λx=>[f x]).flatten=l.map f
  |[]=>rfl
  |x::r=>by rw[map_cons,List.flatten_cons,vO f r];rfl
theorem IM(he:E.Ok)(h:Sim E.W S Z ρ st a w){t t2:TypeId}{x:AV}{vx:Value}{sb:ByteArray}(hx:bX Z w ρ x vx)
    (hr:(execOp a.eval o).run E.P w=((Builtin.append_ #[t,t2] o.type #[vx,.string sb]).run E.P w).andThen λv w=> .ok (.value v) w)
    (hk:Gn E st o.dst t t2 x sb K):qU E S o a w K:=by
  unfold Gn at hk;obtain⟨i,hi,hk⟩:=bN he hk;split at hk
  · rename_i e hs;have hu:=hi.sl hs;obtain⟨j,hj,hk⟩:=bN he hk;split at hk
    · rename_i n0 hjz hjs hjb;obtain⟨rfl,hk⟩:=hk;obtain⟨q,hq,hqz,hqs,hqb⟩:=hj.info';obtain⟨i2,hi2,hk⟩:=bN he hk;split at hk
      · rename_i hstr;have hu2:=hi2.str hstr;cases x with
        |one cx=>
         cases cx with
         |nil=>
          cases hx with
          |one _ _ hx=>
            have hx:vx= .slice none 0 0:=hx;subst hx;have hk':(sb.size<=140737488355328)/\nJ E st o.dst e (pD sb) K:=hk;obtain⟨hb,hk'⟩:=hk';obtain⟨v',w',hrun,hown',hg,hnil⟩:=Lib.run_append_own_string (P:=E.P) w 0 t t2 o.type e q hu hu2 hq (by rw[hqz,hjz]) (by rw[hqs,hjs]) (by rw[hqb,hjb]) (.slice none 0 0) 0 [] (World.ownsRow_nil w 0 e 1) sb (by unfold maxLen;omega) ac (zero_le _);have hob:=uT hu hu2 hq (by rw[hqz,hjz]) (by rw[hqs,hjs]) (by rw[hqb,hjb]) (World.ownsRow_nil w 0 e 1) ac hrun hnil;have hlen:(pD sb).length=sb.size:=by simp[pD]
            have hfl:(sb.data.toList.map λb=>[Value.int .u8 b.toNat]).flatten=Lib.strCells sb:=vO (λb:UInt8=>Value.int .u8 b.toNat) _;rw[zero_add,nil_append]at hown';refine lH he h hj (xs:=pD sb) (us:=sb.data.toList.map λb=>[Value.int .u8 b.toNat]) (v:=v') (w':=w') (by simp[pD]) (λy hy=>?_) (λu hu=>?_) (λi k y u p q h2 h3 h4 h5=>?_) (by rw[hjs,hfl,hlen];exact hown') (by simpa[Value.ownBlock]using hg) (λb hb2=>?_) (by rw[hr,hrun];rfl) hk'
            · obtain⟨b,_,rfl⟩:=mem_map.1 hy;rw[hjs];rfl
            · obtain⟨b,_,rfl⟩:=mem_map.1 hu;rw[hjs];rfl
            · simp only[pD,getElem?_map]at h2 h3;obtain⟨b1,hb1,rfl⟩:=map_eq_some_iff.1 h2;obtain⟨b2,hb2,rfl⟩:=map_eq_some_iff.1 h3;rw[hb1]at hb2;injection hb2 with hb2
              subst hb2;cases k with
              |zero=>simp at h4 h5;subst h4 h5;exact .pv _ rfl
              |succ k=>simp at h4
            · rw[jX hown']at hb2;rcases hob with h0|h0
              · rw[h0]at hb2;simp[Value.ownBlock]at hb2
              · rw[h0]at hb2;injection hb2 with hb2;omega
         |own id=>
          cases hx with
          |one _ _ hx=>
            have hx:vx=ρ id:=hx.1;subst hx;obtain⟨ob,hobj,hk1⟩:=co (l:=st.ob) (i:=id) hk;cases ob with
            |cells t cs=>exact hk1.elim
            |frame vs us=>exact hk1.elim
            |any Q=>exact hk1.elim
            |many P Q=>exact hk1.elim
            |row e' s2 xs=>
              simp only at hk1;split at hk1
              · rename_i he' hs2;have he':=eq_of_beq_eq_true he';have hs2:=eq_of_beq_eq_true hs2;subst he' hs2;obtain⟨hb,hk2⟩:=hk1;obtain⟨ux,h0,hxl,hxx,hxu,hown,hxd⟩:=h.ws.obj id _ hobj;obtain⟨v',w',hrun,hown',hg,hnil⟩:=Lib.run_append_own_string (P:=E.P) w 0 t t2 o.type e q hu hu2 hq (by rw[hqz,hjz]) (by rw[hqs,hjs]) (by rw[hqb,hjb]) (ρ id) xs.length ux.flatten hown sb (by unfold maxLen;omega) hb (zero_le _);have hob:=uT hu hu2 hq (by rw[hqz,hjz]) (by rw[hqs,hjs]) (by rw[hqb,hjb]) hown hb hrun hnil;have hk3:=io hk2;have hrow:∀g,(ρ id).ownBlock=some g->(∃o,bA st.ob id=some o)/\bQ (ρ id)=some g:=λg hg=>⟨⟨_,hobj⟩,by rw[jX hown];exact hg⟩;have hz:=h.ws.zsame hg (λg e=>by obtain⟨_,hb⟩:=hrow g e;exact(h.ws.mine id _ g hobj hb).1);have h1:v'.oneCell'=true:=by rcases hown'.2 with⟨rfl,_⟩|⟨g,cap,cur,rfl,_⟩<;>rfl
                have hlen:(pD sb).length=sb.size:=by simp[pD]
                have hfl:(sb.data.toList.map λb=>[Value.int .u8 b.toNat]).flatten=Lib.strCells sb:=vO (λb:UInt8=>Value.int .u8 b.toNat) _;have hs':=h.renew id v' (.row e 1 (xs++pD sb)) hg hrow (λb hb=>by
                    rw[jX hown']at hb;rcases hob with h2|h2
                    · rw[h2]at hb;exact .inl ⟨⟨_,hobj⟩,by rw[jX hown];exact hb⟩
                    · rw[h2]at hb;injection hb with hb;exact .inr ac)
                    ⟨ux++sb.data.toList.map λb=>[Value.int .u8 b.toNat],ac,by simp[hxl,pD],λy hy=>by
                      rcases mem_append.1 hy with hy|hy
                      · exact hxx y hy
                      · obtain⟨b,_,rfl⟩:=mem_map.1 hy;rfl,λu hu=>by
                      rcases mem_append.1 hu with hu|hu
                      · exact hxu u hu
                      · obtain⟨b,_,rfl⟩:=mem_map.1 hu;rfl,by rw[List.flatten_append,hfl,length_append,hlen];simpa using hown',λi k y u p q h2 h3 h4 h5=>by
                      by_cases hi:i<xs.length
                      · rw[getElem?_append_left hi]at h2;rw[getElem?_append_left ac]at h3;exact(hxd i k y u p q h2 h3 h4 h5).mono (λ_ h=>h) hz
                      · rw[getElem?_append_right ac]at h2;rw[getElem?_append_right ac,hxl]at h3;simp only[pD,getElem?_map]at h2 h3;obtain⟨b1,hb1,rfl⟩:=map_eq_some_iff.1 h2;obtain⟨b2,hb2,rfl⟩:=map_eq_some_iff.1 h3;rw[hb1]at hb2;injection hb2 with hb2
                        subst hb2;cases k with
                        |zero=>simp at h4 h5;subst h4 h5;exact .pv _ rfl
                        |succ k=>simp at h4⟩
                exact t8 hs' (xl (id:=id) aj h1) (by rw[hr,hrun];rfl) hk3
              · exact hk1.elim
         |_=>exact hk.elim
        |_=>exact hk.elim
      · exact hk.elim
    · exact hk.elim
  · exact hk.elim
theorem xZ(h:Sim E.W S Z ρ st a w){f:FuncId}{args:List AV}{us:List Value}(hl:us.length=args.length)(hrel:∀(i:Nat) x u,args[i]? =some x->us[i]? =some u->bX Z w ρ x u)
    (hr:(execOp a.eval o).run E.P w=(callFunc f us.toArray).run E.P w) (hk:aG E S f args st λr st=>dR st o.dst r K):qU E S o a w K:=by
  intro Q;unfold Oper.wp;rw[hr,hk.enter];refine(hk.run Z ρ a w us h hl hrel).mono ?_;rintro e w' ⟨v,r,st',Z',ρ',rfl,hs,hv,hk⟩;exact⟨_,⟨Z',ρ',hs.put o.dst hv⟩,fW hk⟩
theorem my(xs:Array Operand)(f:Operand->Value):xs.map f=(xs.toList.map f).toArray:=by apply Array.ext';simp
theorem GT(he:E.Ok)(h:Sim E.W S Z ρ st a w){c:Call}{b:Builtin}(ho:o.op= .call c)(hb:c.callee= .builtin b)
    (hk:Aw st c.args.toList λargs=>oH E b c.argTypes.toList args st o.dst (AOp E S o st K) K):qU E S o a w K:=by
  obtain⟨vs,hl,hv,hk1⟩:=mN h hk;clear hk;have hex:∃cs,(execOp a.eval o).run E.P w=(builtin b c.argTypes o.type cs (c.args.toList.map a.eval).toArray).run E.P w:=by
    refine⟨c.args.map fun| .const _=>true|_=>false,?_⟩;simp only[execOp,ho,resolve,hb,Sem.run_bind,Sem.run_pure,Result.andThen_ok,invoke,my c.args a.eval];rfl
  obtain⟨cs,hex⟩:=hex;generalize c.args.toList=xs at*
  have two:∀{x y:AV},vs=[x,y]->∃p q,xs=[p,q]/\bX Z w ρ x (a.eval p)/\bX Z w ρ y (a.eval q):=by
    intro x y e;subst e;match xs,hl with
    |[p,q],_=>exact⟨p,q,rfl,hv 0 p x rfl rfl,hv 1 q y rfl rfl⟩
  have int2:∀{x y:AV} {F:Prop} {K:IntKind->Int->Int->Prop},MB x y F K->(∃k i k' j,x=vI k i/\y=vI k' j/\K k i j)\/F:=by
    intro x y F K hk;unfold MB at hk;split at hk
    · split at hk
      · exact .inl ⟨_,_,_,_,rfl,rfl,hk⟩
      · exact .inr hk
    · exact .inr hk
  cases b<;>try exact λQ=>hk1.run a w Q ⟨Z,ρ,h⟩
  case append=>
    unfold oH Tv at hk1;simp only at hk1;split at hk1
    · rename_i t t2 hts;split at hk1
      · obtain⟨p,q,rfl,h0,h1⟩:=two rfl;have ht:c.argTypes= #[t,t2]:=by rw[<-toArray_toList (xs:=c.argTypes),hts]
        split at hk1
        · have e1:=cy h1;refine IM he h h0 ?_ hk1;rw[hex,ht];simp[builtin,e1]
        · refine IL he h h0 h1 ?_ hk1;rw[hex,ht];simp[builtin]
      · exact λQ=>hk1.run a w Q ⟨Z,ρ,h⟩
    · exact λQ=>hk1.run a w Q ⟨Z,ρ,h⟩
  case len=>
    unfold oH Ty at hk1;simp only at hk1;split at hk1
    · rename_i t ts hts;split at hk1
      · rename_i x;match xs,hl with
        |[y],_=>
          have h0:=hv 0 y x rfl rfl;have ht:c.argTypes[0]? =some t:=by rw[<-getElem?_toList,hts];rfl
          refine p8 h (Fq he h (ts:=c.argTypes) h0 ?_ ht hk1);rw[hex];simp[builtin]
      · exact λQ=>hk1.run a w Q ⟨Z,ρ,h⟩
    · exact λQ=>hk1.run a w Q ⟨Z,ρ,h⟩
  case max=>
    unfold oH at hk1;simp only at hk1;split at hk1
    · rcases int2 hk1 with⟨k,i,k',j,rfl,rfl,hk2⟩|hk2
      · obtain⟨p,q,rfl,h0,h1⟩:=two rfl;refine vP h (cK rfl) ?_ hk2;rw[hex];simp[builtin,cy h0,cy h1,run_max_int2]
      · exact λQ=>hk2.run a w Q ⟨Z,ρ,h⟩
    · exact λQ=>hk1.run a w Q ⟨Z,ρ,h⟩
  case min=>
    unfold oH at hk1;simp only at hk1;split at hk1
    · rcases int2 hk1 with⟨k,i,k',j,rfl,rfl,hk2⟩|hk2
      · obtain⟨p,q,rfl,h0,h1⟩:=two rfl;refine vP h (cK rfl) ?_ hk2;rw[hex];simp[builtin,cy h0,cy h1,run_min_int2]
      · exact λQ=>hk2.run a w Q ⟨Z,ρ,h⟩
    · exact λQ=>hk1.run a w Q ⟨Z,ρ,h⟩
theorem xR(he:E.Ok)(h:Sim E.W S Z ρ st a w)(hk:aop E S o st K):qU E S o a w K:=by
  unfold aop at hk;split at hk
  · rename_i x ho;exact ie h (qv h (.inl ho) hk)
  · rename_i x ho;exact ie h (qv h (.inr ho) hk)
  · rename_i c x y ho;exact ie h (CN h ho hk)
  · rename_i op t x y t2 ho;exact p8 h (Fp he h ho hk)
  · rename_i op t x ho;exact p8 h (JV h ho hk)
  · rename_i s d x ho;exact p8 h (CL he h ho hk)
  · rename_i t x f ho;exact ie h (qO he h ho hk)
  · rename_i t x ho;exact ie h (CM he h ho hk)
  · rename_i t x v ho;exact Lz he h ho hk
  · rename_i t x ho;exact P7 h ho hk
  · rename_i t ho;exact Lx he h ho hk
  · rename_i t ps ho;exact ie h (zm he h ho hk)
  · rename_i t n ps ho;exact zL he h ho hk
  · rename_i t l c ho;unfold Uo at hk;split at hk
    · exact Ly he h ho hk
    · exact Ob he h ho hk
  · rename_i t x lo hi ho;exact p8 h (zq he h ho hk)
  · rename_i t x i ho;exact ie h (qP he h ho hk)
  · rename_i t x i ho;exact p8 h (zo he h ho hk)
  · rename_i t x f ho;exact ie h (zn he h ho hk)
  · rename_i x i ho;exact ie h (vm h ho hk)
  · rename_i x ho;exact p8 h (Ov h ho hk)
  · rename_i c ho;split at hk
    · rename_i b hb;exact GT he h ho hb hk
    · rename_i fo hf;obtain⟨vf,hvf,hk⟩:=bn h hk;split at hk
      · rename_i f first caps
        have ef:=cy hvf;split at hk
        · rename_i h1 h2;obtain⟨vs,hl,hv,hk⟩:=mN h hk;have e1:first= #[]:=by simpa using h1
          have e2:caps= #[]:=by simpa using h2
          subst e1 e2;refine xZ h (us:=c.args.toList.map a.eval) (by simp[hl]) (λi x u h3 h4=>?_) ?_ hk
          · rw[getElem?_map]at h4;obtain⟨y,hy,rfl⟩:=map_eq_some_iff.1 h4;exact hv i y x hy h3
          · simp only[execOp,ho,resolve,hf,ef,Deferred.ofValue,invoke,Sem.run_bind,Sem.run_pure,Result.andThen_ok,my c.args a.eval];simp
        · exact λQ=>hk.run a w Q ⟨Z,ρ,h⟩
      · exact λQ=>hk.run a w Q ⟨Z,ρ,h⟩
    · exact λQ=>hk.run a w Q ⟨Z,ρ,h⟩
  · exact λQ=>hk.run a w Q ⟨Z,ρ,h⟩
end
end
section
open Go.RowKit
section
variable {E:bB} {S:bV} {Z:Nat->Prop} {ρ:Nat->Value} {st:ASt} {a:Act} {w:World} {K:ASt->Prop} {o:Oper}
theorem Sim.lit(h:Sim E.W S Z ρ st a w){d:Nat}{p:Bool}(hv:a.tmps[d]? =some (.bool p)){K:List AV->Prop}(hk:nI st.tm d (vB p) K):∃tm,Sim E.W S Z ρ ⟨tm,st.ob⟩ a w/\K tm:=by
  refine⟨st.tm.set d (vB p),⟨h.ws,by simp[h.len],λi x v hx hi=>?_,h.df⟩,jM hk⟩;simp only at hx;rw[List.getElem?_set]at hx;split at hx
  · rename_i e;subst e;split at hx
    · injection hx with hx
      subst hx;rw[hv]at hi;injection hi with hi
      subst hi;exact cK rfl
    · cases hx
  · exact h.tm i x v hx hi
theorem mO{all:List Oper}(h:Sim E.W S Z ρ st a w){Y N:ASt->Prop}(hk:AE all o st Y N):
    (Region.wanted o (yielded all.toArray a.tmps)=true/\∃st',Sim E.W S Z ρ st' a w/\Y st')\/(Region.wanted o (yielded all.toArray a.tmps)=false/\∃st',Sim E.W S Z ρ st' a w/\N st'):=by
  unfold AE at hk;split at hk
  · rename_i hg;exact .inl ⟨by simp[Region.wanted,hg],st,h,hk⟩
  · rename_i j want hg;obtain⟨oj,hoj,hk⟩:=fD hk;split at hk
    · exact hk.elim
    · rename_i d hd;obtain⟨v,hv,hk⟩:=iY hk;have hlt:d<a.tmps.size:=by rw[h.len];exact(List.getElem?_eq_some_iff.1 hv).1
      have hrel:=h.tm d v a.tmps[d] hv (Array.getElem?_eq_getElem hlt);have hy:∀b,a.tmps[d]? =some (.bool b)->yielded all.toArray a.tmps j=some b:=by
        intro b hb;simp[yielded,hoj,hd,hb]
      split at hk
      · rename_i p;have e:=cy hrel;have e':a.tmps[d]? =some (.bool p):=by rw[Array.getElem?_eq_getElem hlt,e]
        cases p with
        |true=>
          obtain⟨tm,hs,hk⟩:=h.lit e' (hk.t rfl);cases want with
          |true=>exact .inl ⟨by simp[Region.wanted,hg,hy _ e'],_,hs,hk⟩
          |false=>exact .inr ⟨by simp[Region.wanted,hg,hy _ e'],_,hs,hk⟩
        |false=>
          obtain⟨tm,hs,hk⟩:=h.lit e' (hk.f rfl);cases want with
          |true=>exact .inr ⟨by simp[Region.wanted,hg,hy _ e'],_,hs,hk⟩
          |false=>exact .inl ⟨by simp[Region.wanted,hg,hy _ e'],_,hs,hk⟩
      · cases hrel with
        |one _ _ hrel=>
          have e:a.tmps[d]=undef:=hrel;refine .inr ⟨?_,st,h,hk⟩;have:yielded all.toArray a.tmps j=none:=by
            simp[yielded,hoj,hd,Array.getElem?_eq_getElem hlt,e,undef]
          simp[Region.wanted,hg,this]
      · exact hk.elim
theorem vH(he:E.Ok){all:List Oper}{Q:Exit->Act->World->Prop}(hQ:∀a w,(∃st',hG E.W S st' a w/\K st')->Q .normal a w):
    ∀(ops:List Oper) (st:ASt) (a:Act) (w:World),hG E.W S st a w->DA E S all ops st K->wpList E.P all.toArray Q ops a w
  |[],st,a,w,h,hk=>hQ a w ⟨st,h,hk⟩
  |o::r,st,a,w,⟨Z,ρ,h⟩,hk=>by
    unfold wpList;rcases mO h hk with⟨hw,st',hs,hk⟩|⟨hw,st',hs,hk⟩
    · rw[if_pos hw];refine .inl (Oper.wp_mono (λa' w' h'=>?_) (xR he hs hk Q));obtain⟨st2,h2,hk2⟩:=h';exact vH he hQ r st2 a' w' h2 hk2
    · rw[if_neg (by simp[hw])];have:=hs.put o.dst (x:= .one .und) (v:=undef) (.one _ _ (show dW Z w ρ .und undef from rfl));exact vH he hQ r _ _ w ⟨Z,ρ,this⟩ (fW hk)
end
structure AWP (E:bB) (S:bV) (c:Code) (K:Exit->ASt->Prop) (st:ASt):Prop where
  run:∀a w,hG E.W S st a w->c.wp E.P (λe a' w'=>∃st',hG E.W S st' a' w'/\K e st') a w
def UG(E:bB)(S:bV)(y:Code)(K:Exit->ASt->Prop):Exit->ASt->Prop
  | .normal,st=>AWP E S y K st
  |e,st=>K e st
def K4(id:Nat)(K:Exit->ASt->Prop):Exit->ASt->Prop
  | .exit j,st=>match Nat.beq j id with
    |true=>K .normal st
    |false=>K (.exit j) st
  |e,st=>K e st
section
variable {E:bB} {S:bV} {K:Exit->ASt->Prop} {st:ASt}
theorem AWP.seq{x y:Code}(h:AWP E S x (UG E S y K) st):AWP E S (.seq x y) K st:=by
  refine⟨λa w hs=>wp_seq (wp_mono (h.run a w hs) λe a' w' h'=>?_)⟩;obtain⟨st',hs',hk⟩:=h';cases e with
  |normal=>exact(show AWP E S y K st' from hk).run a' w' hs'
  |_=>exact⟨st',hs',hk⟩
theorem AWP.region(he:E.Ok){id:Nat}{ops:Array Oper}(h:DA E S ops.toList ops.toList st (K .normal)):AWP E S (.region id ops false) K st:=by
  refine⟨λa w hs=>wp_region_list ?_⟩;have:=vH he (all:=ops.toList) (Q:=λe a' w'=>∃st',hG E.W S st' a' w'/\K e st') (λa w h=>h) ops.toList st a w hs h;simpa using this
theorem AWP.skip(h:K .normal st):AWP E S .skip K st:=⟨λa w hs=>wp_skip ⟨st,hs,h⟩⟩
theorem AWP.label{l:Nat}(h:K .normal st):AWP E S (.label l) K st:=⟨λa w hs=>wp_label ⟨st,hs,h⟩⟩
theorem AWP.ret(h:K .ret st):AWP E S .ret K st:=⟨λa w hs=>wp_ret ⟨st,hs,h⟩⟩
theorem AWP.exit{id:Nat}(h:K (.exit id) st):AWP E S (.exit id) K st:=⟨λa w hs=>wp_exit ⟨st,hs,h⟩⟩
theorem AWP.cond{c:Operand}{x y:Code}(h:aEv st c λv=>wh v (AWP E S x K st) (AWP E S y K st)):AWP E S (.cond c x y) K st:=by
  refine⟨λa w hs=>?_⟩;have hs0:=hs;obtain⟨Z,ρ,hs⟩:=hs;obtain⟨v,hv,hk⟩:=bn hs h;obtain⟨p,hp,h1,h2⟩:=Ed hv hk;exact wp_cond_split hp (λe=>(h1 e).run a w hs0) (λe=>(h2 e).run a w hs0)
theorem AWP.block{id:Nat}{c:Code}(h:AWP E S c (K4 id K) st):AWP E S (.block id c) K st:=by
  refine⟨λa w hs=>wp_block (wp_mono (h.run a w hs) λe a' w' h'=>?_)⟩;obtain⟨st',hs',hk⟩:=h';cases e with
  |exit j=>
    simp only[K4]at hk;simp only[Exit.inBlock];split at hk
    · rename_i e;rw[if_pos (eq_of_beq_eq_true e)];exact⟨st',hs',hk⟩
    · rename_i e;rw[if_neg (Nat.ne_of_beq_eq_false e)];exact⟨st',hs',hk⟩
  |_=>exact⟨st',hs',hk⟩
inductive Pe:AV->AV->Prop
  |refl (x:AV):Pe x x
  |dead (x:AV):Pe x (.one .dead)
inductive qV:List AV->List AV->Prop
  |nil:qV [] []
  |cons {x y:AV} {l m:List AV} (h:Pe x y) (t:qV l m):qV (x::l) (y::m)
theorem qV.get{l m:List AV}(h:qV l m):l.length=m.length/\∀(i:Nat) y,m[i]? =some y->∃x,l[i]? =some x/\Pe x y:=by
  induction h with
  |nil=>exact⟨rfl,by simp⟩
  |cons h t ih=>
    refine⟨by simp[ih.1],λi y hy=>?_⟩;cases i with
    |zero=>simp at hy;subst hy;exact⟨_,rfl,h⟩
    |succ i=>exact ih.2 i y (by simpa using hy)
def aL(ob ob':List (Nat×AO)):Prop:=∀id o,bA ob' id=some o->bA ob id=some o
theorem X4{ob:List (Nat×AO)}:aL ob []:=λid o h=>by cases h
theorem X0{ob r:List (Nat×AO)}{i:Nat}{o:AO}(h:bA ob i=some o)(t:aL ob r):aL ob ((i,o)::r):=λid x hx=>by
  simp only[bA]at hx;split at hx
  · rename_i e;subst e;injection hx with hx;subst hx;exact h
  · exact t id x hx
theorem WS.sub{T:World->Prop}{S:bV}{Z:Nat->Prop}{w:World}{ρ:Nat->Value}{ob ob':List (Nat×AO)}(h:WS T S Z w ρ ob)(hs:aL ob ob'):WS T S Z w ρ ob':=
  ⟨h.os,h.tape,h.output,h.size,h.old,h.zlt,λid o b ho hb=>h.mine id o b (hs id o ho) hb,λi j oi oj b hi hj hij hbi hbj=>h.sep i j oi oj b (hs i oi hi) (hs j oj hj) hij hbi hbj,λid o ho=>h.obj id o (hs id o ho),h.many.sub hs,h.g,h.z0,h.znew⟩
theorem Sim.sub{T:World->Prop}{S:bV}{Z:Nat->Prop}{ρ:Nat->Value}{st st':ASt}{a:Act}{w:World}(h:Sim T S Z ρ st a w)(ht:qV st.tm st'.tm)(ho:aL st.ob st'.ob):Sim T S Z ρ st' a w:=by
  obtain⟨hl,hg⟩:=ht.get;refine⟨h.ws.sub ho,by rw[h.len,hl],λi y v hy hv=>?_,h.df⟩;obtain⟨x,hx,hsub⟩:=hg i y hy;cases hsub with
  |refl=>exact h.tm i _ v hx hv
  |dead=>exact .one _ _ trivial
theorem hG.sub{T:World->Prop}{st st':ASt}{a:Act}{w:World}(h:hG T S st a w)(ht:qV st.tm st'.tm)(ho:aL st.ob st'.ob):hG T S st' a w:=by
  obtain⟨Z,ρ,h⟩:=h;obtain⟨hl,hg⟩:=ht.get;refine⟨Z,ρ,⟨h.ws.sub ho,by rw[h.len,hl],λi y v hy hv=>?_,h.df⟩⟩;obtain⟨x,hx,hsub⟩:=hg i y hy;cases hsub with
  |refl=>exact h.tm i _ v hx hv
  |dead=>exact .one _ _ trivial
theorem p4{p:Nat->Prop}(h:∃n,p n):∃n,p n/\∀m,p m->n<=m:=by
  obtain⟨n,hn⟩:=h;induction n using Nat.strongRecOn with
  |_ n ih=>
    by_cases hm:∃m,m<n/\p m
    · obtain⟨m,hlt,hp⟩:=hm;exact ih m hlt hp
    · refine⟨n,hn,λm hp=>?_⟩;rcases Nat.lt_or_ge m n with h|h
      · exact absurd ⟨m,h,hp⟩ hm
      · exact h
open Classical in
noncomputable def leastOf (p:Nat->Prop):Nat:=if h:∃n,p n then Classical.choose (p4 h)else 0
open Classical in
theorem leastOf_spec{p:Nat->Prop}(h:∃n,p n):p (leastOf p):=by
  unfold leastOf;rw[dif_pos h];exact(Classical.choose_spec (p4 h)).1
open Classical in
theorem leastOf_le{p:Nat->Prop}{n:Nat}(h:p n):leastOf p<=n:=by
  unfold leastOf;rw[dif_pos ⟨n,h⟩];exact(Classical.choose_spec (p4 ⟨n,h⟩)).2 n h
theorem AWP.loop{α:Type}(R:α->Prop)(hd:α->ASt)(μ:α->Nat)(x0:α){c:Code}(h0:R x0)(hsub:qV st.tm (hd x0).tm)(hob:aL st.ob (hd x0).ob)
    (round : ∀ x, R x → AWP E S c (fun e st' => match e with
      | .normal=>∃y,R y/\μ y<μ x/\qV st'.tm (hd y).tm/\aL st'.ob (hd y).ob
      |e=>K e st') (hd x)):AWP E S (.loop c) K st:=by
  refine⟨λa w hs=>wp_loop (λa w=>∃x,R x/\hG E.W S (hd x) a w) (λa w=>leastOf λn=>∃x,R x/\hG E.W S (hd x) a w/\μ x=n) ⟨x0,h0,hs.sub hsub hob⟩ ?_⟩;rintro a w ⟨x1,hx1,hs1⟩;obtain⟨x,hx,hsx,hm⟩:=leastOf_spec (p:=λn=>∃x,R x/\hG E.W S (hd x) a w/\μ x=n) ⟨_,x1,hx1,hs1,rfl⟩;refine wp_mono ((round x hx).run a w hsx) λe a' w' h'=>?_;obtain⟨st',hs',hk⟩:=h';cases e with
  |normal=>
    obtain⟨y,hy,hlt,hsl,hso⟩:=hk;have hsy:=hs'.sub hsl hso;refine⟨⟨y,hy,hsy⟩,?_⟩;have:=leastOf_le (p:=λn=>∃x,R x/\hG E.W S (hd x) a' w'/\μ x=n) ⟨y,hy,hsy,rfl⟩;omega
  |_=>exact⟨st',hs',hk⟩
end
end
section
open Go.RowKit
inductive AP1 where
  |one (d:AD)
  |agg (ds:List AD)
inductive AP where
  |val (p:AP1)
  |tup (ps:List AP1)
def AP1.v:AP1->AV
  | .one d=> .one (.d d)
  | .agg ds=> .agg (ds.map .d)
def AP.v:AP->AV
  | .val p=>p.v
  | .tup ps=> .tup (ps.map AP1.v)
def dE(Z:Nat->Prop)(w:World):AP1->Value->Prop
  | .one d,v=>bR Z w d v
  | .agg ds,v=>∃us:List Value,v= .agg us.toArray/\us.length=ds.length/\∀(i:Nat) d u,ds[i]? =some d->us[i]? =some u->bR Z w d u
def xF(Z:Nat->Prop)(w:World):AP->Value->Prop
  | .val p,v=>dE Z w p v
  | .tup ps,v=>∃us:List Value,v= .tuple us.toArray/\us.length=ps.length/\∀(i:Nat) p u,ps[i]? =some p->us[i]? =some u->dE Z w p u
theorem dE.v{Z:Nat->Prop}{w:World}{ρ:Nat->Value}{p:AP1}{v:Value}(h:dE Z w p v):bX Z w ρ p.v v:=by
  cases p with
  |one d=>exact .one _ _ h
  |agg ds=>
    obtain⟨us,rfl,hl,hr⟩:=h;refine .agg _ us (by simp[hl]) λi c u hc hu=>?_;rw[getElem?_map]at hc;obtain⟨d,hd,rfl⟩:=map_eq_some_iff.1 hc;exact hr i d u hd hu
theorem xF.v{Z:Nat->Prop}{w:World}{ρ:Nat->Value}{p:AP}{v:Value}(h:xF Z w p v):bX Z w ρ p.v v:=by
  cases p with
  |val p=>exact dE.v h
  |tup ps=>
    obtain⟨us,rfl,hl,hr⟩:=h;refine .tup _ us (by simp[hl]) λi c u hc hu=>?_;rw[getElem?_map]at hc;obtain⟨p,hp,rfl⟩:=map_eq_some_iff.1 hc;exact(hr i p u hp hu).v
structure aM (E:bB) (f:FuncId) (args:List AP1) (res:AP):Prop where
  enter:∀(us:Array Value) w,(callFunc f us).run E.P w= .ok (.enter f us) w
  run:∀(Z:Nat->Prop) (w:World) (us:List Value),(∀b,Z b->b<w.heap.size)->GZ E.W Z w->us.length=args.length->(∀(i:Nat) p u,args[i]? =some p->us[i]? =some u->dE Z w p u)->
    Calls E.P f us.toArray w λe w'=>∃v Z',e= .returned v/\Below w.heap.size w w'/\(∀b,Z b->Z' b)/\(∀b,Z' b->Z b\/(w.heap.size<=b/\b<w'.heap.size))/\xF Z' w' res v
def Ic(ob:List (Nat×AO))(c:AC)(K:AD->Prop):Prop:=
  match c with
  | .d x=>K x
  | .nil=>K (.sl [])
  | .own id=>aOb ob id λo=>match o with
    | .row _ _ xs=>K (.sl xs)
    |_=>False
  |_=>False
def A6(ob:List (Nat×AO)):List AC->(List AD->Prop)->Prop
  |[],K=>K []
  |c::r,K=>Ic ob c λd=>A6 ob r λds=>K (d::ds)
def yz(ob:List (Nat×AO))(x:AV)(K:AP1->Prop):Prop:=
  match x with
  | .one c=>Ic ob c λd=>K (.one d)
  | .agg cs=>A6 ob cs λds=>K (.agg ds)
  | .tup _=>False
def gG(Z:Nat->Prop)(ρ:Nat->Value)(ob:List (Nat×AO))(b:Nat):Prop:=Z b\/∃id o,bA ob id=some o/\bQ (ρ id)=some b
section
variable {T:World->Prop} {S:bV} {Z:Nat->Prop} {w:World} {ρ:Nat->Value} {ob:List (Nat×AO)}
theorem En(h:WS T S Z w ρ ob){c:AC}{K:AD->Prop}{v:Value}(hv:dW Z w ρ c v)(hk:Ic ob c K):∃d,bR (gG Z ρ ob) w d v/\K d:=by
  have up:∀{d:AD} {v:Value},bR Z w d v->bR (gG Z ρ ob) w d v:=λhd=>hd.mono (λb hb=> .inl hb) λ_ _=>rfl;cases c with
  |d x=>exact⟨x,up hv,hk⟩
  |nil=>
    have hv:v= .slice none 0 0:=hv;subst hv;exact⟨.sl [],.sl [] none 0 0 [] (Nat.le_refl _) (zero_le _) rfl aj aj (.inl rfl) aj,hk⟩
  |own id=>
    obtain⟨o,ho,hk⟩:=co hk;split at hk
    · rename_i e s xs;obtain⟨us,h0,hl,hxs,hus,hown,hd⟩:=h.obj id _ ho;refine⟨.sl xs,?_,hk⟩;have hv:v=ρ id:=hv.1;subst hv;rcases hown.2 with⟨hv,hn⟩|⟨g,cap,cur,hv,_,hg,h1,h2,h3,h4⟩
      · have:xs=[]:=List.eq_nil_of_length_eq_zero hn;subst this;rw[hv];exact .sl [] none 0 0 [] (Nat.le_refl _) (zero_le _) rfl aj aj (.inl rfl) aj
      · rw[hv];refine .sl xs _ cap s us h1 h2 hl hxs hus (.inr ⟨g,0,rfl,.inr ⟨id,_,ho,by rw[hv];rfl⟩,λi u hu=>?_⟩) λi j x u a b e1 e2 e3 e4=>up (hd i j x u a b e1 e2 e3 e4);rw[zero_add];exact lO hown (by rw[hv];rfl) hu
    · exact hk.elim
  |_=>exact hk.elim
theorem A7(h:WS T S Z w ρ ob):∀{cs:List AC} {us:List Value} {K:List AD->Prop},Aj Z w ρ cs us->A6 ob cs K->∃ds,us.length=ds.length/\(∀(i:Nat) d u,ds[i]? =some d->us[i]? =some u->bR (gG Z ρ ob) w d u)/\K ds
  |[],us,K,hr,hk=>⟨[],hr.1,by simp,hk⟩
  |c::r,[],K,hr,hk=>by have:=hr.1;simp at this
  |c::r,u::us,K,hr,hk=>by
    obtain⟨d,hd,hk⟩:=En h (hr.2 0 c u rfl rfl) hk;obtain⟨ds,hl,hds,hk⟩:=A7 h (cs:=r) (us:=us) ⟨by simpa using hr.1,λi c u h1 h2=>hr.2 (i+1) c u (by simpa using h1) (by simpa using h2)⟩ hk;refine⟨d::ds,by simp[hl],λi x y h1 h2=>?_,hk⟩;cases i with
    |zero=>simp at h1 h2;subst h1 h2;exact hd
    |succ i=>exact hds i x y (by simpa using h1) (by simpa using h2)
theorem tQ(h:WS T S Z w ρ ob){x:AV}{K:AP1->Prop}{v:Value}(hv:bX Z w ρ x v)(hk:yz ob x K):∃p,dE (gG Z ρ ob) w p v/\K p:=by
  cases hv with
  |one c v hv=>obtain⟨d,hd,hk⟩:=En h hv hk;exact⟨.one d,hd,hk⟩
  |agg cs us hl hr=>obtain⟨ds,h1,h2,hk⟩:=A7 h ⟨hl,hr⟩ hk;exact⟨.agg ds,⟨us,rfl,h1,h2⟩,hk⟩
  |tup vs us hl hr=>exact hk.elim
theorem gG.lt(h:WS T S Z w ρ ob):∀b,gG Z ρ ob b->b<w.heap.size:=by
  rintro b (hb|⟨id,o,ho,hb⟩)
  · exact h.zlt b hb
  · exact h.lt ho hb
end
def aPs:List AV->(List AP1->Prop)->Prop
  |[],K=>K []
  |x::r,K=>yz [] x λp=>aPs r λps=>K (p::ps)
def aRs(ob:List (Nat×AO)):List AV->(List AP1->Prop)->Prop
  |[],K=>K []
  |x::r,K=>yz ob x λp=>aRs ob r λps=>K (p::ps)
def AP1.scalar:AP1->Bool
  | .one (.pv _)=>true
  |_=>false
def AP.scalar:AP->Bool
  | .val p=>p.scalar
  | .tup ps=>ps.all AP1.scalar
theorem dE.any{p:AP1}(hs:p.scalar=true){Z Z':Nat->Prop}{w w':World}{v:Value}(h:dE Z w p v):dE Z' w' p v:=by
  cases p with
  |one d=>
    cases d with
    |pv u=>cases h with|pv _ h1=>exact .pv _ h1
    |sl xs=>cases hs
    |x R=>cases hs
  |agg ds=>cases hs
theorem xF.any{p:AP}(hs:p.scalar=true){Z Z':Nat->Prop}{w w':World}{v:Value}(h:xF Z w p v):xF Z' w' p v:=by
  cases p with
  |val p=>exact dE.any hs h
  |tup ps=>
    obtain⟨us,rfl,hl,hr⟩:=h;refine⟨us,rfl,hl,λi p u h1 h2=>?_⟩;exact dE.any (List.all_eq_true.1 hs p (mem_of_getElem? h1)) (hr i p u h1 h2)
section
variable {E:bB} {S:bV} {st:ASt}
theorem fX{Z:Nat->Prop}{ρ:Nat->Value}{w:World}(h:WS E.W S Z w ρ st.ob):∀{xs:List AV} {us:List Value} {K:List AP1->Prop},us.length=xs.length->(∀(i:Nat) x u,xs[i]? =some x->us[i]? =some u->bX Z w ρ x u)->aRs st.ob xs K->
    ∃ps,us.length=ps.length/\(∀(i:Nat) p u,ps[i]? =some p->us[i]? =some u->dE (gG Z ρ st.ob) w p u)/\K ps
  |[],us,K,hl,_,hk=>⟨[],hl,by simp,hk⟩
  |x::r,[],K,hl,_,hk=>by simp at hl
  |x::r,u::us,K,hl,hr,hk=>by
    obtain⟨p,hp,hk⟩:=tQ h (hr 0 x u rfl rfl) hk;obtain⟨ps,h1,h2,hk⟩:=fX h (xs:=r) (us:=us) (by simpa using hl) (λi y v h1 h2=>hr (i+1) y v (by simpa using h1) (by simpa using h2)) hk;refine⟨p::ps,by simp[h1],λi y v h3 h4=>?_,hk⟩;cases i with
    |zero=>simp at h3 h4;subst h3 h4;exact hp
    |succ i=>exact h2 i y v (by simpa using h3) (by simpa using h4)
theorem AZ:∀{xs:List AV} {K:List AP1->Prop},aPs xs K->aRs [] xs K:=fun{xs}=>by
  induction xs with
  |nil=>intro K h;exact h
  |cons x r ih=>
    intro K h;have mono:∀{x:AV} {K K':AP1->Prop},(∀p,K p->K' p)->yz [] x K->yz [] x K':=by
      have monoC:∀{c:AC} {K K':AD->Prop},(∀p,K p->K' p)->Ic [] c K->Ic [] c K':=by
        intro c K K' hm hk;cases c<;>first|exact hm _ hk|exact hk.elim
      have monoCs:∀{cs:List AC} {K K':List AD->Prop},(∀p,K p->K' p)->A6 [] cs K->A6 [] cs K':=by
        intro cs;induction cs with
        |nil=>intro K K' hm hk;exact hm _ hk
        |cons c r ih=>intro K K' hm hk;exact monoC (λd hd=>ih (λds hds=>hm _ hds) hd) hk
      intro x K K' hm hk;cases x with
      |one c=>exact monoC (λd hd=>hm _ hd) hk
      |agg cs=>exact monoCs (λd hd=>hm _ hd) hk
      |tup vs=>exact hk
    exact mono (λp hp=>ih hp) h
theorem dL{w w':World}(h:Below w.heap.size w w'):w.grownBy w' none:=⟨h.os,h.tape,h.output,h.size,λk hk _=>h.block k hk⟩
theorem XZ{f:FuncId}{args:List AV}{K:AV->ASt->Prop}{ps:List AP1}{res:AP}(hc:aM E f ps res)(hps:aPs args (· =ps))(hk:K res.v st):aG E S f args st K:=by
  refine⟨hc.enter,λZ ρ a w us hs hl hr=>?_⟩;have hws0:WS E.W S Z w ρ []:=hs.ws.sub X4;obtain⟨ps',h1,h2,rfl⟩:=fX (st:=⟨[],[]⟩) hws0 hl hr (AZ hps);refine(hc.run Z w us hs.ws.zlt hs.ws.g h1 λi p u h3 h4=>?_).mono ?_
  · have:=h2 i p u h3 h4;have hz:∀b,gG Z ρ [] b->Z b:=by rintro b (hb|⟨id,o,ho,_⟩);exact hb;cases ho
    cases p with
    |one d=>exact bR.mono hz (λ_ _=>rfl) this
    |agg ds=>obtain⟨us,e,hl,hr⟩:=this;exact⟨us,e,hl,λi d u h5 h6=>(hr i d u h5 h6).mono hz λ_ _=>rfl⟩
  · rintro e w' ⟨v,Z',rfl,hb,hz,hz2,hv⟩;exact⟨v,res.v,st,Z',ρ,rfl,hs.grow (dL hb) hz hz2,hv.v,hk⟩
theorem aG.scalar{f:FuncId}{args:List AV}{K:AV->ASt->Prop}{ps:List AP1}{res:AP}(hc:aM E f ps res)(hps:aRs st.ob args (· =ps))(hsc:res.scalar=true)(hk:K res.v st):aG E S f args st K:=by
  refine⟨hc.enter,λZ ρ a w us hs hl hr=>?_⟩;obtain⟨ps',h1,h2,rfl⟩:=fX hs.ws hl hr hps;refine(hc.run (gG Z ρ st.ob) w us (gG.lt hs.ws) ?_ h1 h2).mono ?_
  · obtain⟨w1,g1,g2,g3⟩:=hs.ws.g;exact⟨w1,g1,g2,λb hb=> .inl (g3 b hb)⟩
  · rintro e w' ⟨v,Z',rfl,hb,hz,hz2,hv⟩;exact⟨v,res.v,st,Z,ρ,rfl,hs.grow (dL hb) (λ_ h=>h) (λ_ h=> .inl h),(hv.any hsc).v,hk⟩
def Pt(E:bB)(st:ASt)(r:ResultVar)(K:AP1->Prop):Prop:=
  match r with
  | .tmp t=>aTm st.tm t λv=>yz st.ob v K
  | .cell t ty=>aTm st.tm t λx=>rS E st ty x λv=>yz st.ob v K
def Pu(E:bB)(st:ASt):List ResultVar->(List AP1->Prop)->Prop
  |[],K=>K []
  |r::rs,K=>Pt E st r λp=>Pu E st rs λps=>K (p::ps)
def A8(E:bB)(st:ASt)(rs:List ResultVar)(K:AP->Prop):Prop:=
  match rs with
  |[r]=>Pt E st r λp=>K (.val p)
  |rs=>Pu E st rs λps=>K (.tup ps)
def UE(E:bB)(rs:List ResultVar)(res:AP):Exit->ASt->Prop
  | .ret,st=>A8 E st rs (· =res)
  | .normal,st=>A8 E st rs (· =res)
  |_,_=>False
def dZ(tmps:Array Value):ResultVar->Sem Value
  | .tmp t=>pure (tmps.getD t undef)
  | .cell a t=>do loadVar t (<-asAddr (tmps.getD a undef))
theorem Eq(he:E.Ok){Z:Nat->Prop}{ρ:Nat->Value}{a:Act}{w:World}(h:Sim E.W S Z ρ st a w){r:ResultVar}{K:AP1->Prop}(hk:Pt E st r K):
    ∃(v:Value) (p:AP1),(dZ a.tmps r).run E.P w= .ok v w/\dE (gG Z ρ st.ob) w p v/\K p:=by
  cases r with
  |tmp t=>
    obtain⟨x,hx,hk⟩:=iY hk;have hlt:t<a.tmps.size:=by rw[h.len];exact(List.getElem?_eq_some_iff.1 hx).1
    obtain⟨p,hp,hk⟩:=tQ h.ws (h.tm t x _ hx (Array.getElem?_eq_getElem hlt)) hk;exact⟨a.tmps[t],p,by simp[dZ,hlt],hp,hk⟩
  |cell t ty=>
    obtain⟨x,hx,hk⟩:=iY hk;have hlt:t<a.tmps.size:=by rw[h.len];exact(List.getElem?_eq_some_iff.1 hx).1
    obtain⟨b,off,v,y,e,hr,hy,hk⟩:=pg he h (h.tm t x _ hx (Array.getElem?_eq_getElem hlt)) hk;obtain⟨p,hp,hk⟩:=tQ h.ws hy hk;refine⟨v,p,?_,hp,hk⟩;simp[dZ,hlt,e,asAddr,hr]
theorem Et(he:E.Ok){Z:Nat->Prop}{ρ:Nat->Value}{a:Act}{w:World}(h:Sim E.W S Z ρ st a w):∀{rs:List ResultVar} {K:List AP1->Prop},Pu E st rs K->
    ∃(vs:List Value) (ps:List AP1),(rs.mapM (dZ a.tmps)).run E.P w= .ok vs w/\vs.length=ps.length/\(∀(i:Nat) p u,ps[i]? =some p->vs[i]? =some u->dE (gG Z ρ st.ob) w p u)/\ps.length=rs.length/\K ps
  |[],K,hk=>⟨[],[],rfl,rfl,by simp,rfl,hk⟩
  |r::rs,K,hk=>by
    obtain⟨v,p,h1,h2,hk⟩:=Eq he h hk;obtain⟨vs,ps,h3,h4,h5,h6,hk⟩:=Et he h (rs:=rs) hk;refine⟨v::vs,p::ps,?_,by simp[h4],λi q u h7 h8=>?_,by simp[h6],hk⟩
    · rw[mapM_cons,Sem.run_bind,h1];simp only[Result.andThen_ok];rw[Sem.run_bind,h3];rfl
    · cases i with
      |zero=>simp at h7 h8;subst h7 h8;exact h2
      |succ i=>exact h5 i q u (by simpa using h7) (by simpa using h8)
theorem Bc(he:E.Ok){Z:Nat->Prop}{ρ:Nat->Value}{a:Act}{w:World}(h:Sim E.W S Z ρ st a w){fn:Func}{K:AP->Prop}(hk:A8 E st fn.results.toList K):
    ∃v p,(results fn a.tmps).run E.P w= .ok v w/\xF (gG Z ρ st.ob) w p v/\K p:=by
  unfold A8 at hk;have hres:∀vs:List Value,(fn.results.toList.mapM (dZ a.tmps)).run E.P w= .ok vs w->(results fn a.tmps).run E.P w= .ok (if h:vs.toArray.size=1 then vs.toArray[0]else .tuple vs.toArray) w:=by
    intro vs hvs;have e:results fn a.tmps=(do let vs<-fn.results.mapM (dZ a.tmps);pure (if h:vs.size=1 then vs[0]else .tuple vs)):=rfl;rw[e,Sem.run_bind,Array.mapM_eq_mapM_toList,Sem.run_map,hvs];rfl
  split at hk
  · rename_i r hr;obtain⟨v,p,h1,h2,hk⟩:=Eq he h hk;refine⟨v,.val p,?_,h2,hk⟩;have:=hres [v] (by rw[hr,mapM_cons,Sem.run_bind,h1];rfl);rw[this];rfl
  · rename_i hne;obtain⟨vs,ps,h1,h2,h3,h4,hk⟩:=Et he h hk;refine⟨_,.tup ps,hres vs h1,⟨vs,?_,h2,h3⟩,hk⟩;have:¬vs.toArray.size=1:=by
      intro e;have:fn.results.toList.length=1:=by simp at e;omega
      obtain⟨r,hr⟩:=List.length_eq_one_iff.1 this;exact hne r hr
    rw[dif_neg this]
def Ij:Nat->(List AV->Prop)->Prop
  |0,K=>K []
  |n+1,K=>Ij n λr=>K (.one .und::r)
theorem tS:∀{n:Nat} {K:List AV->Prop},Ij n K->K (List.replicate n (.one .und))
  |0,_,h=>h
  |n+1,K,h=>tS (n:=n) (K:=λr=>K (.one .und::r)) h
def Ur(p:AP1)(K:AV->Prop):Prop:=
  match p with
  | .one d=>K (.one (.d d))
  | .agg ds=>yv ds λcs=>K (.agg cs)
theorem PA{p:AP1}{K:AV->Prop}(h:Ur p K):K p.v:=by
  cases p with
  |one d=>exact h
  |agg ds=>exact mx (K:=λcs=>K (.agg cs)) h
def uS:List AP1->Nat->(List AV->Prop)->Prop
  |[],n,K=>Ij n K
  |_::_,0,_=>False
  |p::r,n+1,K=>Ur p λv=>uS r n λtm=>K (v::tm)
theorem jL:∀{args:List AP1} {n:Nat} {K:List AV->Prop},uS args n K->args.length<=n/\K (args.map AP1.v++List.replicate (n-args.length) (.one .und))
  |[],n,K,h=>⟨zero_le _,by simpa using tS h⟩
  |_::_,0,_,h=>h.elim
  |p::r,n+1,K,h=>by
    obtain⟨h1,h2⟩:=jL (args:=r) (n:=n) (K:=λtm=>K (p.v::tm)) (PA h);refine⟨by simp;omega,?_⟩;simpa[Nat.succ_sub_succ]using h2
theorem QJ(he:E.Ok){f:FuncId}{fn:Func}{c:Code}{n:Nat}{rs:List ResultVar}{args:List AP1}{res:AP}(hf:E.P.funcs[f]? =some fn)(hb:fn.body=some c)
    (enter:∀(us:Array Value) w,(callFunc f us).run E.P w= .ok (.enter f us) w) (hn:fn.ntmps=n) (hrs:fn.results.toList=rs)
    (h:∀S,uS args n λtm=>AWP E S c (UE E rs res) ⟨tm,[]⟩):aM E f args res:=by
  refine⟨enter,λZ w us hz hg hl hr=>?_⟩;subst hn hrs;obtain⟨hle,hk⟩:=jL (h ⟨w,λ_=>False,Z⟩);have hs:Sim E.W ⟨w,λ_=>False,Z⟩ Z (λ_=>undef) ⟨args.map AP1.v++List.replicate (fn.ntmps-args.length) (.one .und),[]⟩ {tmps:=us.toArray++Array.replicate (fn.ntmps-us.toArray.size) undef,defers:=[]} w:=by
    refine⟨⟨rfl,rfl,rfl,Nat.le_refl _,λ_ _ _=>rfl,hz,λid o b ho _=>(by cases ho),λi j oi oj b hi _ _ _ _=>(by cases hi),λid o ho=>(by cases ho),jI.nil,hg,λb hb=>hb,λb hb=> .inl hb⟩,by simp[hl],λi x v hx hv=>?_,rfl⟩;simp only at hx hv;have hv':(us++List.replicate (fn.ntmps-us.length) undef)[i]? =some v:=by
      have:=hv;rw[<-getElem?_toList]at this;simpa using this
    by_cases hi:i<us.length
    · rw[getElem?_append_left (by simpa[hl]using hi),getElem?_map]at hx;obtain⟨p,hp,rfl⟩:=map_eq_some_iff.1 hx;rw[getElem?_append_left hi]at hv';exact(hr i p v hp hv').v
    · rw[getElem?_append_right al]at hx;rw[getElem?_append_right ac]at hv';have e1:=eq_of_mem_replicate (mem_of_getElem? hx);have e2:=eq_of_mem_replicate (mem_of_getElem? hv');subst e1 e2;exact .one _ _ (show dW Z w (λ_=>undef) .und undef from rfl)
  refine calls_of_wp hf hb (wp_mono (hk.run _ w ⟨Z,_,hs⟩) λe a' w' h'=>?_);obtain⟨st',⟨Z',ρ',hs'⟩,hk'⟩:=h';have fin:A8 E st' fn.results.toList (· =res)->a'.defers=[]/\∃v,(results fn a'.tmps).run E.P w'= .ok v w'/\∃v0 Z',Ending.returned v= .returned v0/\Below w.heap.size w w'/\(∀b,Z b->Z' b)/\(∀b,Z' b->Z b\/(w.heap.size<=b/\b<w'.heap.size))/\xF Z' w' res v0:=by
    intro hr;obtain⟨v,p,h1,h2,h3⟩:=Bc he hs' hr;subst h3;refine⟨hs'.df,v,h1,v,gG Z' ρ' st'.ob,rfl,⟨hs'.ws.os,hs'.ws.tape,hs'.ws.output,hs'.ws.size,λb hb=>hs'.ws.old b hb (λh=>h)⟩,λb hb=> .inl (hs'.ws.z0 b hb),λb hb=>?_,h2⟩;have hlt:=gG.lt hs'.ws b hb;rcases hb with hb|⟨id,o,ho,hb⟩
    · rcases hs'.ws.znew b hb with h4|h4|h4
      · exact .inl h4
      · exact .inr ⟨h4,hlt⟩
      · exact h4.elim
    · rcases(hs'.ws.mine id o b ho hb).2 with h4|h4
      · exact .inr ⟨h4,hlt⟩
      · exact h4.elim
  cases e with
  |normal=>exact fin hk'
  |ret=>exact fin hk'
  |_=>exact hk'.elim
end
end
section
open Go.RowKit
structure vu (T:World->Prop) (ob:List (Nat×AO)) (args:List AV) (ps:List AP1):Prop where
  h:∀(S:bV) (Z:Nat->Prop) (ρ:Nat->Value) (w:World) (us:List Value),WS T S Z w ρ ob->us.length=args.length->(∀(i:Nat) x u,args[i]? =some x->us[i]? =some u->bX Z w ρ x u)->
    ∃Z2:Nat->Prop,(∀b,Z b->Z2 b)/\(∀b,Z2 b->b<w.heap.size)/\us.length=ps.length/\∀(i:Nat) p u,ps[i]? =some p->us[i]? =some u->dE Z2 w p u
structure aH (E:bB) (ob:List (Nat×AO)) (f:FuncId) (args:List AV) (K:AV->Prop):Prop where
  h:∃ps res,aM E f ps res/\(aPs args (· =ps)\/(aRs ob args (· =ps)/\res.scalar=true)\/(vu E.W ob args ps/\res.scalar=true))/\K res.v
structure ou (E:bB) (o:Oper) (st:ASt) (K:AV->Prop):Prop where
  h:∃v,K v/\∀S Z ρ a w,Sim E.W S Z ρ st a w->∃u,bX Z w ρ v u/\(execOp a.eval o).run E.P w= .ok (.value u) w
def qN(id:Nat):AC->Bool
  | .own i=> !Nat.beq i id
  | .ref i _ _ _=> !Nat.beq i id
  |_=>true
def Hq(id:Nat):List AC->Bool
  |[]=>true
  |c::r=>match qN id c with
    |true=>Hq id r
    |false=>false
def H4(d:Option Tmp)(t:TypeId)(cs:List AC)(K:AV->Option AO->Prop):Prop:=
  match d with
  |some d=>match Hq d cs with
    |true=>K (.one (.ref d 0 0 0)) (some (.cells t cs))
    |false=>False
  |none=>False
def r6(E:bB)(o:Oper)(st:ASt)(K:AV->Option AO->Prop):Prop:=
  match o.op with
  | .move x| .assign x=>aEv st x λv=>K v none
  | .pick c a b=>aEv st c λc=>wh c (aEv st a λv=>K v none) (aEv st b λv=>K v none)
  | .binOp op t x y _=>aEv st x λx=>aEv st y λy=>Nu E op t x y (ou E o st λv=>K v none) λv=>K v none
  | .unOp op _ x=>aEv st x λx=>aUn op x False λv=>K v none
  | .convert s d x=>aEv st x λx=>Ee E s d x False λv=>K v none
  | .fieldAddr t x f=>aEv st x λx=>kV E t x f λv=>K v none
  | .load t x=>aEv st x λx=>rS E st t x λv=>K v none
  | .build t ps=>As E st t ps.toList λv=>K v none
  | .buildSlice t n ps=>aTI E.T t λi=>match i.kind with
    | .sl e=>aTI E.T e λj=>match j.size with
      |0=>False
      |s+1=>match Nat.ble (n*(s+1)) 16777216 with
        |true=>lV st (s+1) ps.toList 0 n λxs=>K (.one (.d (.sl xs))) none
        |false=>False
    |_=>False
  | .box t x=>aEv st x λx=>mL x λcs=>H4 o.dst t cs K
  | .alloc t=>aTI E.T t λi=>ww i.zero λcs=>H4 o.dst t cs K
  | .slice t x lo hi none=>aEv st x λx=>Bi E st t x lo hi False λv=>K v none
  | .indexAddr t x i=>aEv st x λx=>aEv st i λi=>kW E st t x i λv=>K v none
  | .index t x i=>aEv st x λx=>aEv st i λi=>xM E t x i False λv=>K v none
  | .field t x f=>aEv st x λx=>vC E t x f λv=>K v none
  | .extract x i=>aEv st x λx=>match x with
    | .tup vs=>ov vs i λv=>K v none
    |_=>False
  | .nilCheck x=>aEv st x λx=>match x with
    | .one (.ref i k s off)=>K (.one (.ref i k s off)) none
    | .one (.ptr cs)=>K (.one (.ptr cs)) none
    |_=>False
  | .call c=>match c.callee with
    | .builtin .len=>Aw st c.args.toList λargs=>match c.argTypes.toList,args with
      |t::_,[x]=>KS E st t x False λv=>K v none
      |_,_=>False
    | .value f=>aEv st f λf=>match f with
      | .one (.d (.pv (.func (.func f) first caps)))=>match first.toList,caps.toList with
        |[],[]=>Aw st c.args.toList λargs=>aH E st.ob f args λr=>K r none
        |_,_=>False
      |_=>False
    |_=>False
  |_=>ou E o st λv=>K v none
end
end Go.Proofs.YtknefkdcokgpbaaGreat
