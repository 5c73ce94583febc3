/- K04 -/
import Derived.Test.YtpdmakdpnejnfaaGreatK21
import Derived.Test.YtpdmakdpnejnfaaGreatK10
set_option maxHeartbeats 8000000
set_option linter.unusedVariables false
set_option linter.unusedSimpArgs false
set_option maxRecDepth 100000
open Bool (and_eq_true)
namespace Go.Proofs.YtpdmakdpnejnfaaGreat
section
section
open Go.Proofs.Tryz
open Go.ChangeShapes Go.WideShapes Go.RowKit
def ub:List (List Nat):=cz [0,1,129,12354,1056835,1056835,101453956,1056835,135008388,0x50c10841c6248,0x2882461c40810c5,0x40810cb14718920a,0x30a20918714b0c1084,0xd1020432c51c624828c,0x38c2882461c52c304210d,0xd1020432c51c624828c,0x40c2882461c52c304210d,0xf3440810cb14718920a30e450,0x3440810cb14718920a31241138f]
def uj:List (List Nat):=eK 17 [0,1,4,13,19480,17698,17941,2146,4333,9841,29524,88573,265720,115588417,117182740,13551745,27900652]
def sP:List (List Nat):=cz [0,1,129,12354,12354,67637445,6527127684,485365133638,12354,2367555,0x206143042107289,0x30422c9287105188]
def tg:List (List Nat):=eK 10 [0,1,4,52663,52555,52609,52852,53581,6547,13108]
def sQ:List (List Nat):=cz [0,0,66,12417,1052803,0,6,346852442566]
def th:List (List Nat):=eK 7 [1950,1946,1948,1957,1984,242,485]
def uK(r:List DMark×Bool):AP:= .tup [.one (.sl (r.1.map DMark.ds)),.one (dB r.2)]
def i9(s:List DMark)(e:DEntry):List DMark×Bool:=match dC s e with|some o=>(o,true)|none=>(s,false)
theorem nt{e:DEntry}(h:cj e=true):aJ e.client 2 5=true/\aJ e.seq 1 2000=true/\aJ e.index 1 2000=true:=by
  simp only[cj,Bool.and_eq_true]at h;exact⟨h.1.1.2,h.1.2,h.1.1.1.1⟩
theorem G2(x:DMark):∀(s:List DMark) (p:List DMark×Bool),(s.foldl (gv x) p).1.length<=p.1.length+2*s.length
  |[],p=>by simp
  |m::r,p=>by
    have h1:=G2 x r (gv x p m);have h2:(gv x p m).1.length<=p.1.length+2:=by
      unfold gv;simp only;split<;>split<;>simp
    simp only[List.foldl_cons,List.length_cons];omega
theorem sa(x:DMark){s:List DMark}{k:Nat}(hk:k<s.length):(s.take (k+1)).foldl (gv x) ([],false)=gv x ((s.take k).foldl (gv x) ([],false)) s[k]:=by
  rw[List.take_succ_eq_append_getElem hk,List.foldl_append];rfl
theorem BA{x m:DMark}{p:List DMark×Bool}(h1:(!p.2&&decide (m.client>=x.client))=true)(h2:(m.client !=x.client)=true):gv x p m=(p.1++[x]++[m],true):=by simp only[gv,h1,h2,if_true]
theorem BB{x m:DMark}{p:List DMark×Bool}(h1:(!p.2&&decide (m.client>=x.client))=true)(h2:(m.client !=x.client)=false):gv x p m=(p.1++[x],true):=by simp only[gv,h1,h2,if_true];rfl
theorem BC{x m:DMark}{p:List DMark×Bool}(h1:(!p.2&&decide (m.client>=x.client))=false)(h2:(m.client !=x.client)=true):gv x p m=(p.1++[m],p.2):=by simp only[gv,h1,h2,if_true];rfl
theorem BD{x m:DMark}{p:List DMark×Bool}(h1:(!p.2&&decide (m.client>=x.client))=false)(h2:(m.client !=x.client)=false):gv x p m=(p.1,p.2):=by simp only[gv,h1,h2];rfl
theorem Dq{s:List DMark}{e:DEntry}(h:(cj e&&oe s e&&decide (bY s<e.index))=false):dC s e=none:=by simp[dC,h]
theorem Ai{s:List DMark}{e:DEntry}(h:(cj e&&oe s e&&decide (bY s<e.index))=true):dC s e=some (putMark s e.mark):=by simp only[dC,h,if_true]
theorem vR(s:List DMark)(e:DEntry)(hseen:cA s=true):aL av 243 [.one (.sl (s.map DMark.ds)),.agg e.ds] (uK (i9 s e)):=by
  have h':(!cA s)=false:=by simp[hseen]
  have hl:=em hseen;refine pO func243 call243 ntmps243 results243 λS=>?_;conv=>whnf
  repeat'((first|refine awz ?_|refine XB aM 3 17 ub uj ac ac ac rfl ?_|refine cP (fI s) ?_|refine cP (cy e) ?_|refine cP (DZ s e.client e.seq hseen (by simp_all[cj]) (by simp_all[cj])) ?_|refine cP (oY s hseen) ?_|refine cP (iT s aa) ?_|refine tB ?_ ?_|intro h)<;>conv=>whnf)
  all_goals first
    | (have hno : dC s e = none := Dq (by first | (simp_all [oe]; done) | (simp_all [oe]; intros; omega))
       simp only[i9,hno];rfl)
    |skip
  have hyes:dC s e=some (putMark s e.mark):=Ai (by first|(simp_all[oe];done)|(simp_all[oe];omega));simp only[i9,hyes];refine XA (λp:Nat×List DMark×Bool=>p.1<=s.length/\p.2=(s.take p.1).foldl (gv e.mark) ([],false)) (42::[7,8,9,43,44,45,46,47,48,49,50,51,52,53,54,55,56,57,58,59,60,61,62,63,64,65,66,67,68,69,70,71,72,73,74,75,76,77,78,79]) (λp=>[(7,.one (.own 42)),(8,vB p.2.2),(9,vI .i64 (p.1:Int))]) (λp=>[(42,.row 247 3 (p.2.1.map DMark.ds)),(6,.cells 247 (e.mark.ds.map .d)),(3,.cells 308 (e.ds.map .d))]) (λp=>s.length-p.1) (0,[],false) ⟨by simp,rfl⟩ ?_ sbW (λp hR=>?_)<;>(conv=>whnf)
  · exact whd
  · obtain⟨hk,hv⟩:=hR;have hlen:=G2 e.mark (s.take p.1) ([],false);rw[<-hv]at hlen;have htl:(s.take p.1).length<=4:=al;simp only[List.length_nil]at hlen;have hfin:=G1 e.mark s [] (kC hseen);repeat'((first|refine awz ?_|refine XB aM 11 10 sP tg ac ac ac rfl ?_|refine XB aM 14 7 sQ th ac ac ac rfl ?_|refine XI ari (λhlt=>?_)|refine Xz ari ari ?_|refine bc au ?_|refine tB ?_ ?_|intro h)<;>conv=>whnf)
    all_goals first
      | (have he : gv e.mark p.2 (s[p.1]'ari) = (p.2.1 ++ [e.mark] ++ [s[p.1]'ari], true) := (by first | exact BA (by clear hfin hlen hv; first | (simp_all [DEntry.mark]; done) | (simp_all [DEntry.mark]; omega)) (by clear hfin hlen hv; first | (simp_all [DEntry.mark]; done) | (simp_all [DEntry.mark]; omega)) | exact BB (by clear hfin hlen hv; first | (simp_all [DEntry.mark]; done) | (simp_all [DEntry.mark]; omega)) (by clear hfin hlen hv; first | (simp_all [DEntry.mark]; done) | (simp_all [DEntry.mark]; omega)) | exact BC (by clear hfin hlen hv; first | (simp_all [DEntry.mark]; done) | (simp_all [DEntry.mark]; omega)) (by clear hfin hlen hv; first | (simp_all [DEntry.mark]; done) | (simp_all [DEntry.mark]; omega)) | exact BD (by clear hfin hlen hv; first | (simp_all [DEntry.mark]; done) | (simp_all [DEntry.mark]; omega)) (by clear hfin hlen hv; first | (simp_all [DEntry.mark]; done) | (simp_all [DEntry.mark]; omega)))
         (refine aT.mk ⟨(p.1 + 1, p.2.1 ++ [e.mark] ++ [s[p.1]'ari], true), ⟨ari, by simp only [sa e.mark (s := s) (k := p.1) ari, ← hv, he]⟩, ari, ?_, Xu (congrArg some (congrArg (AO.row 247 3) ay)) sbW⟩
          exact hds))
      | (have he : gv e.mark p.2 (s[p.1]'ari) = (p.2.1 ++ [e.mark], true) := (by first | exact BA (by clear hfin hlen hv; first | (simp_all [DEntry.mark]; done) | (simp_all [DEntry.mark]; omega)) (by clear hfin hlen hv; first | (simp_all [DEntry.mark]; done) | (simp_all [DEntry.mark]; omega)) | exact BB (by clear hfin hlen hv; first | (simp_all [DEntry.mark]; done) | (simp_all [DEntry.mark]; omega)) (by clear hfin hlen hv; first | (simp_all [DEntry.mark]; done) | (simp_all [DEntry.mark]; omega)) | exact BC (by clear hfin hlen hv; first | (simp_all [DEntry.mark]; done) | (simp_all [DEntry.mark]; omega)) (by clear hfin hlen hv; first | (simp_all [DEntry.mark]; done) | (simp_all [DEntry.mark]; omega)) | exact BD (by clear hfin hlen hv; first | (simp_all [DEntry.mark]; done) | (simp_all [DEntry.mark]; omega)) (by clear hfin hlen hv; first | (simp_all [DEntry.mark]; done) | (simp_all [DEntry.mark]; omega)))
         (refine aT.mk ⟨(p.1 + 1, p.2.1 ++ [e.mark], true), ⟨ari, by simp only [sa e.mark (s := s) (k := p.1) ari, ← hv, he]⟩, ari, ?_, Xu (congrArg some (congrArg (AO.row 247 3) ay)) sbW⟩
          exact hds))
      | (have he : gv e.mark p.2 (s[p.1]'ari) = (p.2.1 ++ [s[p.1]'ari], p.2.2) := (by first | exact BA (by clear hfin hlen hv; first | (simp_all [DEntry.mark]; done) | (simp_all [DEntry.mark]; omega)) (by clear hfin hlen hv; first | (simp_all [DEntry.mark]; done) | (simp_all [DEntry.mark]; omega)) | exact BB (by clear hfin hlen hv; first | (simp_all [DEntry.mark]; done) | (simp_all [DEntry.mark]; omega)) (by clear hfin hlen hv; first | (simp_all [DEntry.mark]; done) | (simp_all [DEntry.mark]; omega)) | exact BC (by clear hfin hlen hv; first | (simp_all [DEntry.mark]; done) | (simp_all [DEntry.mark]; omega)) (by clear hfin hlen hv; first | (simp_all [DEntry.mark]; done) | (simp_all [DEntry.mark]; omega)) | exact BD (by clear hfin hlen hv; first | (simp_all [DEntry.mark]; done) | (simp_all [DEntry.mark]; omega)) (by clear hfin hlen hv; first | (simp_all [DEntry.mark]; done) | (simp_all [DEntry.mark]; omega)))
         (refine aT.mk ⟨(p.1 + 1, p.2.1 ++ [s[p.1]'ari], p.2.2), ⟨ari, by simp only [sa e.mark (s := s) (k := p.1) ari, ← hv, he]⟩, ari, ?_, Xu (congrArg some (congrArg (AO.row 247 3) ay)) sbW⟩
          exact hds))
      | (have he : gv e.mark p.2 (s[p.1]'ari) = (p.2.1, p.2.2) := (by first | exact BA (by clear hfin hlen hv; first | (simp_all [DEntry.mark]; done) | (simp_all [DEntry.mark]; omega)) (by clear hfin hlen hv; first | (simp_all [DEntry.mark]; done) | (simp_all [DEntry.mark]; omega)) | exact BB (by clear hfin hlen hv; first | (simp_all [DEntry.mark]; done) | (simp_all [DEntry.mark]; omega)) (by clear hfin hlen hv; first | (simp_all [DEntry.mark]; done) | (simp_all [DEntry.mark]; omega)) | exact BC (by clear hfin hlen hv; first | (simp_all [DEntry.mark]; done) | (simp_all [DEntry.mark]; omega)) (by clear hfin hlen hv; first | (simp_all [DEntry.mark]; done) | (simp_all [DEntry.mark]; omega)) | exact BD (by clear hfin hlen hv; first | (simp_all [DEntry.mark]; done) | (simp_all [DEntry.mark]; omega)) (by clear hfin hlen hv; first | (simp_all [DEntry.mark]; done) | (simp_all [DEntry.mark]; omega)))
         (refine aT.mk ⟨(p.1 + 1, p.2.1, p.2.2), ⟨ari, by simp only [sa e.mark (s := s) (k := p.1) ari, ← hv, he]⟩, ari, ?_, Xu (congrArg some (congrArg (AO.row 247 3) ay)) sbW⟩
          exact hds))
      |(exfalso;clear hfin hlen hv;simp_all;done)
      |(exfalso;clear hfin hlen hv;simp_all;omega)
      | (have hkk : p.1 = s.length := ari
         rw[hkk,List.take_length]at hv;rw[<-hv]at hfin;have hf:putMark s e.mark=p.2.1++[e.mark]:=ao;rw[hf];simp only[uK,List.map_append,List.map_cons,List.map_nil];rfl)
      | (have hkk : p.1 = s.length := ari
         rw[hkk,List.take_length]at hv;rw[<-hv]at hfin;have hf:putMark s e.mark=p.2.1:=ao;rw[hf];rfl)
theorem KC{s:List DMark}{l:List DEntry}(h:cA s=false):bV s l=([],false):=by simp[bV,h]
theorem KD{s:List DMark}{l:List DEntry}(h:cA s=true)(hl:2000<l.length):bV s l=(s,false):=by simp[bV,h,hl]
theorem vM{s:List DMark}{l:List DEntry}(h:cA s=true)(hl:¬2000<l.length)(hf:cN s l=none):bV s l=(s,false):=by simp[bV,h,hl,hf]
theorem qg{s c:List DMark}{l:List DEntry}(h:cA s=true)(hl:¬2000<l.length)(hf:cN s l=some c):bV s l=(c,true):=by simp[bV,h,hl,hf]
theorem oS{s c:List DMark}{e:DEntry}(h:dC s e=some c):i9 s e=(c,true):=by simp[i9,h]
theorem Aj{s:List DMark}{e:DEntry}(h:dC s e=none):i9 s e=(s,false):=by simp[i9,h]
theorem mQ(s:List DMark)(l:List DEntry):aL av 155 [.one (.sl (s.map DMark.ds)),.one (.sl (l.map DEntry.ds))] (uK (bV s l)):=by
  cases hseen:cA s with
  |false=>
    have h':(!cA s)=true:=by simp[hseen]
    rw[KC hseen];refine pO func155 call155 ntmps155 results155 λS=>?_;conv=>whnf
    repeat'(first|refine awz ?_|(refine cP (fI s) ?_;conv=>whnf)|exact rr|fail)
    all_goals rfl
  |true=>
    have h':(!cA s)=false:=by simp[hseen]
    have hs4:=em hseen;refine pO func155 call155 ntmps155 results155 λS=>?_;conv=>whnf
    repeat'((first|refine awz ?_|refine cP (fI s) ?_|refine cP (iT s aa) ?_|refine tB ?_ ?_|intro h)<;>conv=>whnf)
    · rw[KD hseen ari];rfl
    · have hl:¬2000<l.length:=ari;clear h;refine XA (λp:Nat×List DMark=>p.1<=l.length/\cN s (l.take p.1)=some p.2) (rg 4 6++(rg 21 20)) (λp=>[(6,.one (.d (.sl (p.2.map DMark.ds)))),(7,vI .i64 (p.1:Int))]) (λ_=>[]) (λp=>l.length-p.1) (0,s) ⟨by simp,rfl⟩ ?_ Xv (λp hR=>?_)<;>(conv=>whnf)
      · exact whd
      · obtain⟨hk,hf⟩:=hR;have hcur:=nJ hseen hf;by_cases hlt:p.1<l.length
        · have hlt':decide ((p.1:Int)<((l.map DEntry.ds).length:Int))=true:=al;cases hm:dC p.2 l[p.1]with
          |none=>
            have hmk:=Aj hm;have hM:=vR p.2 l[p.1] hcur;rw[hmk]at hM;repeat'((first|refine awz ?_|refine XI ari (λhlt=>?_)|refine cP (hM) ?_|refine cP (iT s aa) ?_|fail)<;>conv=>whnf)
            rw[vM hseen hl (lP hlt hf hm)];rfl
          |some c=>
            have hmk:=oS hm;have hM:=vR p.2 l[p.1] hcur;rw[hmk]at hM;repeat'((first|refine awz ?_|refine XI ari (λhlt=>?_)|refine Xz ari ari ?_|refine cP (hM) ?_|fail)<;>conv=>whnf)
            refine aT.mk ⟨(p.1+1,c),⟨ari,by simp only[p7 hlt hf,hm]⟩,ari,?_,Xv⟩;exact hds
        · have hlt':decide ((p.1:Int)<((l.map DEntry.ds).length:Int))=false:=al;repeat'(first|refine awz ?_|fail)
          have hkk:p.1=l.length:=aa;rw[hkk,List.take_length]at hf;rw[qg hseen hl hf];rfl
theorem LF(w:World):(zeroValue 247).run Tryz.prog w= .ok (DMark.v ⟨0,0,0⟩) w:=by kernel_rfl
theorem GI(m:DMark)(Z:Nat->Prop)(w:World)(ρ:Nat->Value):cn Z w ρ (.agg (m.ds.map .d)) m.v:=by
  have:m.v= .agg [.int .i64 m.client,.int .i64 m.seq,.int .i64 m.index].toArray:=rfl;rw[this];refine .agg _ _ rfl λi c u hc hu=>?_;match i,hc,hu with
  |0,hc,hu=>simp[DMark.ds]at hc hu;subst hc hu;exact ca.pv _ rfl
  |1,hc,hu=>simp[DMark.ds]at hc hu;subst hc hu;exact ca.pv _ rfl
  |2,hc,hu=>simp[DMark.ds]at hc hu;subst hc hu;exact ca.pv _ rfl
  |i+3,hc,hu=>simp[DMark.ds]at hc
theorem QM(m:DMark):∀(Z:Nat->Prop) (w:World) (ρ:Nat->Value) (y:Value),cn Z w ρ (.agg (m.ds.map .d)) y->y=m.v:=λZ w ρ y h=>yD rfl h
section
variable {S:bR} {o:Oper} {st:ASt} {K:ASt->Prop} {x i v:Operand} {id:Nat} {n:Int} {N:Nat} {s:List DMark}
theorem Y3(ho:o.op= .lookup 374 x i false)(hx:aEv st x λv=>v= .one (.own id))(hi:aEv st i λv=>v=vI .i64 n)(hob:aOb st.ob id λo=>o=iV Tryz.prog 2 N (gy s))(hn:(Lit.int .i64 n).wf=true)
    (hK:eA st o.dst (.agg ((bU s n).ds.map .d)) K):AOp av S o st K:=
  Zr (E:=av) ho underlying374 underlying2 LF hx hi hob hn (.agg ((bU s n).ds.map .d)) (λZ w ρ=>by rw[Dr];exact GI ..) hK
theorem Yo(ho:o.op= .lookup 374 x i true)(hx:aEv st x λv=>v= .one (.own id))(hi:aEv st i λv=>v=vI .i64 n)(hob:aOb st.ob id λo=>o=iV Tryz.prog 2 N (gy s))(hn:(Lit.int .i64 n).wf=true)
    (hK:eA st o.dst (.tup [.agg ((bU s n).ds.map .d),vB (s.find? λm=>m.client==n).isSome]) K):AOp av S o st K:=
  Zr (E:=av) ho underlying374 underlying2 LF hx hi hob hn (.agg ((bU s n).ds.map .d)) (λZ w ρ=>by rw[Dr];exact GI ..) (show eA st o.dst (.tup [.agg ((bU s n).ds.map .d),vB (gy s n).isSome]) K from(by simp only[gy,Option.isSome_map];exact hK))
theorem Yz{f:Int->Option Value}(m:DMark)(ho:o.op= .mapUpdate 374 x i v)(hN:N<9223372036854775807)(hx:aEv st x λv=>v= .one (.own id))(hi:aEv st i λv=>v=vI .i64 m.client)(hob:aOb st.ob id λo=>o=iV Tryz.prog 2 N f)(hn:(Lit.int .i64 m.client).wf=true)
    (hv:aEv st v λv=>v= .agg (m.ds.map .d)) {g:Int->Option Value} (hg:tC f m.client (some m.v)=g)
    (hK:fW id (iV Tryz.prog 2 (N+1) g) st.ob λob=>eA ⟨st.tm,ob⟩ o.dst (.one .und) K):AOp av S o st K:=by
  subst hg;refine Zt (E:=av) (u:=m.v) ho underlying374 underlying2 hN hx hi hob hn ?_ hK;exact(d4 (st:=st) v).mono (λx (h:x= .agg (m.ds.map .d))=>by subst h;exact QM m) hv
end
end
section
open Go.Proofs.Tryz
open Go.ChangeShapes Go.WideShapes Go.RowKit
theorem Hf{s:List DMark}(h:cA s=true){k:Nat}(hk:k<s.length):(Lit.int .i64 s[k].client).wf=true:=by
  have:=vU h (List.getElem_mem hk);simp only[fj,aJ,Bool.and_eq_true,decide_eq_true_eq]at this;exact oL aa aa
theorem qA{e:DEntry}(h:(!cj e)=false):(Lit.int .i64 e.client).wf=true:=by
  have:=(nt (e:=e) (by simpa using h)).1;simp only[aJ,Bool.and_eq_true,decide_eq_true_eq]at this;exact oL aa aa
theorem Al(s:List DMark)(e:DEntry):tC (tC (gy s) e.client none) e.mark.client (some e.mark.v)=gy (putMark s e.mark):=MH s e.mark
theorem Gu{s:List DMark}{e:DEntry}(h:cj e=false\/e.seq<=(bU s e.client).seq\/e.index<=bY s):dC s e=none:=by
  refine Dq ?_;rcases h with h|h|h
  · simp[h]
  · have:oe s e=false:=by simp[oe];omega
    simp[this]
  · have:decide (bY s<e.index)=false:=al;simp[this]
theorem QO{s:List DMark}{e:DEntry}(h:cj e=true)(h2:¬e.seq<=(bU s e.client).seq)(h3:¬e.index<=bY s):dC s e=some (putMark s e.mark):=by
  refine Ai ?_;have a:oe s e=true:=by simp[oe];omega
  have b:decide (bY s<e.index)=true:=al;simp[h,a,b]
theorem zi{s:List DMark}{e:DEntry}(h3:¬e.index<=bY s):bY (putMark s e.mark)=e.index:=J7 (m:=e.mark) (by simp[DEntry.mark];omega)
theorem mG(s:List DMark)(l:List DEntry)(hs:s.length<=9223372036854775806):aL av 273 [.one (.sl (s.map DMark.ds)),.one (.sl (l.map DEntry.ds))] (uK (bV s l)):=by
  cases hseen:cA s with
  |false=>
    have h':(!cA s)=true:=by simp[hseen]
    rw[KC hseen];refine pO func273 call273 ntmps273 results273 λS=>?_;conv=>whnf
    repeat'(first|refine awz ?_|(refine cP (lV s hs) ?_;conv=>whnf)|exact rr|fail)
    all_goals rfl
  |true=>
    have h':(!cA s)=false:=by simp[hseen]
    have hs4:=em hseen;refine pO func273 call273 ntmps273 results273 λS=>?_;conv=>whnf
    repeat'((first|refine awz ?_|refine cP (lV s hs) ?_|refine cP (ip s aa) ?_|refine AOp.makeMap (E:=av) 2 rfl rfl ?_|refine tB ?_ ?_|intro h)<;>conv=>whnf)
    · rw[KD hseen ari];rfl
    · have hl:¬2000<l.length:=ari;clear h;refine XA (λk:Nat=>k<=s.length) (8::rg 27 9) (λk=>[(27,vI .i64 (k:Int))]) (λk=>[(24,iV Tryz.prog 2 k (gy (s.take k)))]) (λk=>s.length-k) 0 aa ?_ sbW (λk hk=>?_)<;>(conv=>whnf)
      · exact whd
      · repeat'((first|refine awz ?_|refine XI ari (λhlt=>?_)|refine Xz ari ari ?_|refine Yz (id:=24) (N:=k) (s[k]'ari) rfl aa rfl rfl rfl (Hf hseen ari) rfl (Am (kC hseen) ari) ?_|refine cP (ku s aa) ?_|refine tB ?_ ?_|intro h)<;>conv=>whnf)
        · refine aT.mk ⟨k+1,hlt,aa,?_,sbW⟩;exact hds
        · have hkk:k=s.length:=ari;subst hkk;rw[List.take_length];clear h hk;refine XA (λp:Nat×List DMark×Int=>p.1<=l.length/\cN s (l.take p.1)=some p.2.1/\p.2.2=bY p.2.1) (4::5::9::11::rg 40 41) (λp=>[(9,vI .i64 p.2.2),(40,vI .i64 (p.1:Int))]) (λp=>[(24,iV Tryz.prog 2 (s.length+p.1) (gy p.2.1))]) (λp=>l.length-p.1) (0,s,bY s) ⟨by simp,rfl,rfl⟩ ?_ sbW (λp hR=>?_)<;>(conv=>whnf)
          · exact whd
          · obtain⟨hk,hf,hla⟩:=hR;have hcur:=nJ hseen hf;repeat'((first|refine awz ?_|refine XI ari (λhlt=>?_)|refine Xz ari ari ?_|refine cP (gd _) ?_|refine cP (ip s aa) ?_|refine Y3 (id:=24) (N:=s.length+p.1) (s:=p.2.1) rfl rfl rfl rfl (qA aj) ?_|refine Zs (E:=av) (id:=24) (N:=s.length+p.1) (f:=gy p.2.1) rfl rfl underlying374 underlying2 rfl rfl rfl (qA aj) ?_|refine Yz (id:=24) (N:=s.length+p.1) (DEntry.mark (l[p.1]'ari)) rfl aa rfl rfl rfl (qA aj) rfl (Al _ _) ?_|refine tB ?_ ?_|intro h)<;>conv=>whnf)
            all_goals first
              |(rw[vM hseen hl (lP ari hf (Gu (.inl (by simpa using h))))];rfl)
              |(rw[vM hseen hl (lP ari hf (Gu (.inr (.inl (by simpa using h)))))];rfl)
              |(rw[vM hseen hl (lP ari hf (Gu (.inr (.inr (by rw[<-hla];simpa using h)))))];rfl)
              | (have hm := QO (s := p.2.1) (e := l[p.1]'ari) ao ao (by rw [← hla]; simp_all)
                 refine aT.mk ⟨(p.1+1,putMark p.2.1 (l[p.1]'ari).mark,(l[p.1]'ari).index),⟨ari,by simp only[p7 (l:=l) (k:=p.1) ari hf,hm],(zi (by rw[<-hla];simp_all)).symm⟩,ari,?_,sbW⟩;exact hds)
              |skip
            have hkk:p.1=l.length:=ari;rw[hkk,List.take_length]at hf;rw[qg hseen hl hf];have hlen:=em hcur;refine XA (λc:Int=>2<=c/\c<=6) (81::[12,13,14,15,82,83,84,85,86,87,88,89,90,91,92,93,94,95,96]) (λc=>[(12,.one (.own 81)),(13,vI .i64 c)]) (λc=>[(81,.row 247 3 ((p.2.1.filter λx=>decide (x.client<c)).map DMark.ds)),(24,iV Tryz.prog 2 (s.length+p.1) (gy p.2.1))]) (λc=>(6-c).toNat) 2 aa ?_ (Xu (congrArg some (congrArg (AO.row 247 3) (by simp only[FU hcur,List.map_nil]))) sbW) (λc hc=>?_)<;>(conv=>whnf)
            · exact whd
            · have hfl:(p.2.1.filter λx=>decide (x.client<c)).length<=4:=Nat.le_trans (List.length_filter_le ..) hlen;have hsu:=y9 (c:=c) (kC hcur);cases hfi:p.2.1.find? (λx=>x.client==c)with
              |none=>
                have hso:(p.2.1.find? (λx=>x.client==c)).isSome=false:=by rw[hfi];rfl
                rw[hfi]at hsu;simp only[Option.toList_none,List.append_nil]at hsu;repeat'((first|refine awz ?_|refine Xz ari ari ?_|refine Yo (id:=24) (N:=s.length+p.1) (s:=p.2.1) rfl rfl rfl rfl (oL aa aa) ?_|refine tB ?_ ?_|intro h)<;>conv=>whnf)
                all_goals first
                  | (refine aT.mk ⟨c + 1, ⟨ari, ari⟩, ari, ?_, Xu (congrArg some (congrArg (AO.row 247 3) (by rw [hsu]))) sbW⟩
                     exact hds)
                  | (have h4 : c = 6 := ari
                     subst h4;have:=xU hcur;simp only[uK,this])
              |some m=>
                have hso:(p.2.1.find? (λx=>x.client==c)).isSome=true:=by rw[hfi];rfl
                have hmo:bU p.2.1 c=m:=by unfold bU;rw[hfi];rfl
                rw[hfi]at hsu;simp only[Option.toList_some]at hsu;repeat'((first|refine awz ?_|refine Xz ari ari ?_|refine Yo (id:=24) (N:=s.length+p.1) (s:=p.2.1) rfl rfl rfl rfl (oL aa aa) ?_|refine bc au ?_|refine tB ?_ ?_|intro h)<;>conv=>whnf)
                all_goals first
                  | (refine aT.mk ⟨c + 1, ⟨ari, ari⟩, ari, ?_, Xu (congrArg some (congrArg (AO.row 247 3) (by rw [hsu, hmo, List.map_append]; rfl))) sbW⟩
                     exact hds)
                  | (have h4 : c = 6 := ari
                     subst h4;have:=xU hcur;simp only[uK,this])
end
end
section
open Go.Proofs.Tryz
open Go.ChangeShapes Go.WideShapes Go.RowKit
variable {b:DBook}{l:List DEntry}
def mz:List (List Nat):=cz [0,1,129,12354,1056835,84676740,1056835,118231172,26665322041863,0x40810c91c8146,0x2861481c90c1084,0xb10204324720518a,0x30a18520724304210b,0xd2c40810c91c814628c,0x2c40810c91c814628e30d,0xf34c38a18520724304210b,0x40b10204324720518a38c34f,0x113cd30e2861481c90c10842d0,0x4902c40810c91c814628e30d3d1,0x1344f34c38a18520724304210b412,0x51240b10204324720518a38c34f453,0x154d13cd30e2861481c90c10842d0494,0x5944902c40810c91c814628e30d3d14d5,0x144902c40810c91c814628e30d3d14d7556,0x40b10204324720518a38c34f6165574d1494,0x195124535d55983cd30e2861481c90c10842d0,0x6902c40810c91c814628e30d3d85955d3452519,0x1b6544914d755660f34c38a18520724304210b41a,0x71a40b10204324720518a38c34f6165574d149465b,0x1a40b10204324720518a38c34f6165574d149465d6dc,0x79c6dd6544914d755660f34c38a18520724304210b41a,0x1f6902c40810c91c814628e30d3d85955d345251975b71e,0x81e71b7595124535d55983cd30e2861481c90c10842d069f,0x217da40b10204324720518a38c34f6165574d149465d6dc7a0,0x1f6902c40810c91c814628e30d3d85955d345251975b71e,0x8de71b7595124535d55983cd30e2861481c90c10842d069f,0x8a079c6dd6544914d755660f34c38a18520724304210b41a7e1923,0x1f6902c40810c91c814628e30d3d85955d345251975b71e963921822,0x9a282192395e71b7595124535d55983cd30e2861481c90c10842d069f]
def mD:List (List Nat):=eK 36 [0,1,4,13,5872,5953,688,1417,3280,9841,29524,88573,265720,797161,2391484,7174453,21523360,64570081,193710244,581130733,1743392200,5230176601,15690529804,47071589413,141214768240,423644304721,1270932914164,3812798742493,0xa67358b3f98,34315188682441,0x5da0e1e53c5c,0x1db175a3e31495d,0x1dd491f8990b388,0x1e3de6f6baef209,0x3a26ec4d607d73,0x7566bb4070affc]
def pQ:List (List Nat):=cz [0,1,129,12354,1056835,84676740,6510088389,486455648518,35601017745735,486455648518,486455648518,48795157279047,0x28610204314730b,0xd2cc1c50c108418a,0x38a1840810c51cc2cd,0xf34b30714304210628e,0x24714304210621038a30b34f,0x113cd2cc28e4081840810c51c9,0x4891c50c108418840e28c2cd3d1,0x1344f34b30a390206102043147252,0x4891c50c108418840e28c2cd3d1,0x4891c50c108418840e28c2cd3d1,0x1644f34b30a390206102043147252,0x1544f34b30a3902061020431472525d6,0x6165d224714304210621038a30b34f455,0x195513cd2cc28e4081840810c51c9497598,0x51224714304210621038a30b34f453698597559,0x1224714304210621038a30b34f45b6555d661a4d4,0x1c50c108419c5136985975596d13cd2cc28e408252,0x40810dd48921038a30b34f45b6555d661a4d4706147]
def pZ:List (List Nat):=eK 26 [0,1,4,13,40,121,364,43028131,43030318,490981,57955,117004,274468,805909,2400232,7183201,21523360,64570081,2538572754172,2538960174661,86975899780,10266642958,20726996161,48621271369,142764450196,425193986677]
def pR:List (List Nat):=cz [0,0,66,12417,1052803,84680772,6509830341,486455906566,35601001230663,0x91c50c2044188,0x2881840420c51c9,0x2881840420c51c9,0x2c91c50c204418828c,0xd30a20610108314724b,0x38b24714308110620a30d,0x2881840420c51c9,0x2881840420c51c9,0x1124714308110620a,0x1024714308110620a491,0x4d148a206101083147250,0x144091c50c2044188292453,0x5534522881840420c51c9414,0x3cd30a20610108314724b3965104914d5,0x1755345241458e2c91c50c204418828c34f,0x60f34c2881840420c51c92ce594412453557,0x60f34c2881840420c51c92ce594412453557,0x65755345241458e2c91c50c204418828c34f61a,0x1b6983cd30a20610108314724b3965104914d55d9,0x7195d54d149051638b24714308110620a30d3d869b,0x60f34c2881840420c51c92ce594412453557,0x60f34c2881840420c51c92ce594412453557,0x1f5d54d149051638b24714308110620a30d3d8,0x1e5d54d149051638b24714308110620a30d3d881f,0x85f8183cd30a20610108314724b3965104914d55de,0x2279755345241458e2c91c50c204418828c34f6207e1,0x1d6da60f34c2881840420c51c92ce59441245355765c8e17e07a2,0x60f34c2881840420c51c92ce5944124535579227a07e18dc65a6dd,0xa20610108314726575b69972385f81e8a45d54d149051638b30d3d8,0x1c50c20441a660f34c2ce5944124535579227a07e18dc65a6dd94920a]
def p3:List (List Nat):=eK 35 [6,2,4,13,40,121,364,1093,3280,9841,31367094520,31366858324,31366976422,31367507863,31369102186,358693150,43017196,86063917,200855173,588275662,1750537129,5237321530,15690529804,47071589413,0xb182ad05a7cbbe,0xb181a5fd34e83a,0xb18229816e59fc,0xb184795470d9e5,0xb18b68cd7859a0,0x618587e88e6ea,0xbb20e2bc1c48,411641049421057,960684068340121,0x9ff0c92c0c01a,8372764823747485]
def gL:List (List Nat):=cz [0,1,129,12354,1056835,84676740,6510088389,486455648518,35601017745735,0x91c50c1084188,84676740,11878797509,830053032203,0xa20610204314724d2cc,0x38c2cd24714304210620a,0xf2881840810c51c934b30e,0x40e30b3491c50c108418828f,0x113ca20610204314724d2cc390,0x49038c2cd24714304210620a3d1,0x1344f2881840810c51c934b30e412,0xf2881840810c51c934b30e,0x54e30b3491c50c108418828f,0x51240e30b3491c50c108418828f453595,0xf2881840810c51c934b30e5d5593450494,0x1430421185124114d655738c2cd24718828f,0x193ca2061c934b30e5d55934504946040810c5]
def gN:List (List Nat):=eK 22 [0,1,4,13,40,1535395,1535638,1536367,1538554,1545115,58927,117976,295123,797161,2391484,27901449661,27915798568,27958845289,28087985452,28475405941,3479609947,6966394348]
theorem lS(hh:DHead)(hs:hh.seen.length<=9223372036854775806):aL av 324 [.agg hh.ds] (rB (di hh)):=by
  have seen_le6:∀{s:List DMark},cA s=true->s.length<=1000000:=λh=>Nat.le_trans (em h) aa;refine pO func324 call324 ntmps324 results324 λS=>?_;conv=>whnf
  repeat'((first|refine awz ?_|refine XB aM 1 36 mz mD ac ac ac rfl ?_|refine cP (bf _ _ _) ?_|refine cP (dM _) ?_|refine cP (lV hh.seen hs) ?_|refine cP (ku hh.seen (seen_le6 aj)) ?_|refine tB ?_ ?_|intro h)<;>conv=>whnf)
  all_goals
    refine bM ?_;first
      |(simp_all[di,tOk];done)
      |(simp_all[di,tOk];intros;omega)
theorem mg(hh:DHead)(hs:hh.seen.length<=9223372036854775806):aL av 215 [.agg hh.ds] (rB (di hh)):=by
  have seen_le6:∀{s:List DMark},cA s=true->s.length<=1000000:=λh=>Nat.le_trans (em h) aa;refine pO func215 call215 ntmps215 results215 λS=>?_;conv=>whnf
  repeat'((first|refine awz ?_|refine XB aM 1 36 mz mD ac ac ac rfl ?_|refine cP (bh _ _ _) ?_|refine cP (fc _) ?_|refine cP (fI hh.seen) ?_|refine cP (oY hh.seen aj) ?_|refine tB ?_ ?_|intro h)<;>conv=>whnf)
  all_goals
    refine bM ?_;first
      |(simp_all[di,tOk];done)
      |(simp_all[di,tOk];intros;omega)
theorem wn(h:¬l.length<=2000):dT l=false:=by simp[dT,h]
theorem xT{k:Nat}(hk:k<l.length)(h:cK cj mN l k hk=false):dT l=false:=by
  have:=pM hk h;simp only[dT,Bool.and_assoc]at*
  simp only[this,Bool.and_false]
theorem wq(h:l.length<=2000)(hc:(l.all cj&&kE mN l)=true):dT l=true:=by
  simp only[dT,Bool.and_assoc,hc,h,decide_true,Bool.and_self]
theorem zS{e:DEntry}(h:cj e=true):1<=e.index/\e.index<=2000:=by
  have:=(nt h).2.2;simp only[aJ,Bool.and_eq_true,decide_eq_true_eq]at this;exact this
theorem HA{α:Type}{P:α->Bool}{Q:α->α->Bool}{l:List α}{j:Nat}{hl:j<l.length}(h:cK P Q l j hl=true):P l[j]=true:=by
  unfold cK at h;exact(Bool.and_eq_true_iff.1 h).1
theorem ny(l:List DEntry):aL av 376 [.one (.sl (l.map DEntry.ds))] (rB (dT l)):=by
  refine pO func376 call376 ntmps376 results376 λS=>?_;conv=>whnf
  repeat'(first|refine awz ?_|refine tB ?_ ?_|(intro h;conv=>whnf))
  · rw[wn ari]
  · have h1:l.length<=2000:=ari;clear h;refine XA (λk:Nat=>k<=l.length/\∀(j:Nat) (hj:j<k) (hl:j<l.length),cK cj mN l j hl=true) (2::3::4::rg 10 36) (λk=>[(10,vI .i64 (k:Int))]) (λ_=>[]) (λk=>l.length-k) 0 ⟨aa,aa⟩ ?_ Xv (λk hR=>?_)<;>(conv=>whnf)
    · exact whd
    · obtain⟨hk,hall⟩:=hR;have hprev:∀h0:0<k,1<=(l[k-1]'(aa)).index/\(l[k-1]'(aa)).index<=2000:=λh0=>zS (HA (hall (k-1) aa aa));repeat'((first|refine awz ?_|refine XB aM 6 26 pQ pZ ac ac ac rfl ?_|refine XI ari (λhlt=>?_)|refine Yj ari ari (λhpv=>?_)|refine Xz (n:=_-_) ari ari ?_|refine Xz (by have:=hprev ari;omega) (by have:=hprev ari;omega) ?_|refine Xz ari ari ?_|refine cP (gd _) ?_|refine tB ?_ ?_|intro h)<;>conv=>whnf)
      all_goals first
        |(rw[xT hlt (by first|(refine ch _ ?_;simp_all;done)|(rw[br _ ari];simp_all[mN];done)|(rw[bw _ ari];simp_all;done)|(rw[br _ ari];simp_all[mN];omega)|(exfalso;assumption))];done)
        | (refine aT.mk ⟨k + 1, ⟨ari, fL hall ari (by first | (refine ch _ ?_; simp_all; done) | (rw [br _ ari]; simp_all [mN]; done) | (rw [bw _ ari]; simp_all; done) | (rw [br _ ari]; simp_all [mN]; omega) | (exfalso; assumption))⟩, ari, ?_, Xv⟩
           exact hds)
        |(rw[wq h1 (iQ hall ari)])
theorem nC(l:List DEntry):aL av 286 [.one (.sl (l.map DEntry.ds))] (rB (dT l)):=by
  refine pO func286 call286 ntmps286 results286 λS=>?_;conv=>whnf
  repeat'(first|refine awz ?_|refine tB ?_ ?_|(intro h;conv=>whnf))
  · rw[wn ari]
  · have h1:l.length<=2000:=ari;clear h;refine XA (λk:Nat=>k<=l.length/\∀(j:Nat) (hj:j<k) (hl:j<l.length),cK cj mN l j hl=true) (2::3::rg 7 45) (λk=>[(3,vI .i64 (k:Int))]) (λ_=>[]) (λk=>l.length-k) 0 ⟨aa,aa⟩ ?_ Xv (λk hR=>?_)<;>(conv=>whnf)
    · exact whd
    · obtain⟨hk,hall⟩:=hR;have hprev:∀h0:0<k,1<=(l[k-1]'(aa)).index/\(l[k-1]'(aa)).index<=2000:=λh0=>zS (HA (hall (k-1) aa aa));repeat'((first|refine awz ?_|refine XB aM 6 35 pR p3 ac ac ac rfl ?_|refine XI ari (λhlt=>?_)|refine Yj ari ari (λhpv=>?_)|refine Xz (n:=_-_) ari ari ?_|refine Xz (by have:=hprev ari;omega) (by have:=hprev ari;omega) ?_|refine Xz ari ari ?_|refine cP (cy _) ?_|refine tB ?_ ?_|intro h)<;>conv=>whnf)
      all_goals first
        |(rw[xT hlt (by first|(refine ch _ ?_;simp_all;done)|(rw[br _ ari];simp_all[mN];done)|(rw[bw _ ari];simp_all;done)|(rw[br _ ari];simp_all[mN];omega)|(exfalso;assumption))];done)
        | (refine aT.mk ⟨k + 1, ⟨ari, fL hall ari (by first | (refine ch _ ?_; simp_all; done) | (rw [br _ ari]; simp_all [mN]; done) | (rw [bw _ ari]; simp_all; done) | (rw [br _ ari]; simp_all [mN]; omega) | (exfalso; assumption))⟩, ari, ?_, Xv⟩
           exact hds)
        |(rw[wq h1 (iQ hall ari)])
theorem xJ(h:(aJ b.base 0 2000&&tOk b.time&& !(b.base==0&&b.time !=0))=false):cF b=false:=by simp only[cF,h,Bool.false_and]
theorem xK(h:(decide (b.entries.length<=20)&&dT b.entries)=false):cF b=false:=by
  simp only[Bool.and_eq_false_iff]at h;rcases h with h|h<;>simp only[cF,h,Bool.and_false,Bool.false_and]
theorem FI{x lo hi:Int}(h:(!aJ x lo hi)=false):lo<=x/\x<=hi:=by
  have:aJ x lo hi=true:=by simpa using h
  simpa only[aJ,Bool.and_eq_true,decide_eq_true_eq]using this
theorem vu(b:DBook):aL av 325 [.agg b.ds] (rB (cF b)):=by
  rcases he:b.entries with _|⟨e,r⟩
  · have he0:(((b.entries.map DEntry.ds).length:Int)==0)=true:=by simp[he]
    refine pO func325 call325 ntmps325 results325 λS=>?_;conv=>whnf
    repeat'((first|refine awz ?_|refine XB aM 5 22 gL gN ac ac ac rfl ?_|refine cP (bf _ _ _) ?_|refine cP (dM _) ?_|refine cP (ny b.entries) ?_|refine tB ?_ ?_|intro h)<;>conv=>whnf)
    all_goals
      refine bM ?_;first
        |(rw[xJ (by first|(simp_all[tOk];done)|(exfalso;assumption))];done)
        |(rw[xK ax];done)
        |(simp_all[cF,tOk];done)
  · have he0:(((b.entries.map DEntry.ds).length:Int)==0)=false:=by simp[he];omega
    have i0:∀{K:Nat->List AD->Prop},K 0 e.ds->AIx (b.entries.map DEntry.ds) 0 K:=λh=>Xw 0 _ rfl (by rw[he];rfl) h;refine pO func325 call325 ntmps325 results325 λS=>?_;conv=>whnf
    repeat'((first|refine awz ?_|refine XB aM 5 22 gL gN ac ac ac rfl ?_|refine i0 ?_|refine Xz (by have:=FI (x:=b.base) aj;omega) (by have:=FI (x:=b.base) aj;omega) ?_|refine cP (bf _ _ _) ?_|refine cP (dM _) ?_|refine cP (ny b.entries) ?_|refine tB ?_ ?_|intro h)<;>conv=>whnf)
    all_goals
      refine bM ?_;first
        |(rw[xJ (by first|(simp_all[tOk];done)|(exfalso;assumption))];done)
        |(rw[xK (by simp only[Bool.and_eq_false_iff,decide_eq_false_iff_not];first|(exact .inl ari)|(refine .inr ?_;simp_all;done)|(exfalso;assumption))];done)
        | (have hlen : b.entries.length ≤ 20 := ari
           simp_all[cF,tOk];done)
        | (have hlen : b.entries.length ≤ 20 := ari
           simp_all[cF,tOk];intros;omega)
theorem gC(b:DBook):aL av 216 [.agg b.ds] (rB (cF b)):=by
  rcases he:b.entries with _|⟨e,r⟩
  · have he0:(((b.entries.map DEntry.ds).length:Int)==0)=true:=by simp[he]
    refine pO func216 call216 ntmps216 results216 λS=>?_;conv=>whnf
    repeat'((first|refine awz ?_|refine XB aM 3 22 gL gN ac ac ac rfl ?_|refine cP (bh _ _ _) ?_|refine cP (fc _) ?_|refine cP (nC b.entries) ?_|refine tB ?_ ?_|intro h)<;>conv=>whnf)
    all_goals
      refine bM ?_;first
        |(rw[xJ (by first|(simp_all[tOk];done)|(exfalso;assumption))];done)
        |(rw[xK ax];done)
        |(simp_all[cF,tOk];done)
  · have he0:(((b.entries.map DEntry.ds).length:Int)==0)=false:=by simp[he];omega
    have i0:∀{K:Nat->List AD->Prop},K 0 e.ds->AIx (b.entries.map DEntry.ds) 0 K:=λh=>Xw 0 _ rfl (by rw[he];rfl) h;refine pO func216 call216 ntmps216 results216 λS=>?_;conv=>whnf
    repeat'((first|refine awz ?_|refine XB aM 3 22 gL gN ac ac ac rfl ?_|refine i0 ?_|refine Xz (by have:=FI (x:=b.base) aj;omega) (by have:=FI (x:=b.base) aj;omega) ?_|refine cP (bh _ _ _) ?_|refine cP (fc _) ?_|refine cP (nC b.entries) ?_|refine tB ?_ ?_|intro h)<;>conv=>whnf)
    all_goals
      refine bM ?_;first
        |(rw[xJ (by first|(simp_all[tOk];done)|(exfalso;assumption))];done)
        |(rw[xK (by simp only[Bool.and_eq_false_iff,decide_eq_false_iff_not];first|(exact .inl ari)|(refine .inr ?_;simp_all;done)|(exfalso;assumption))];done)
        | (have hlen : b.entries.length ≤ 20 := ari
           simp_all[cF,tOk];done)
        | (have hlen : b.entries.length ≤ 20 := ari
           simp_all[cF,tOk];intros;omega)
theorem jn(x:Int):aL av 372 [pI x] (rB (jG x)):=by
  refine pO func372 call372 ntmps372 results372 λS=>?_;conv=>whnf
  repeat'(first|refine awz ?_|refine tB ?_ ?_|(intro h;conv=>whnf))
  all_goals
    refine bM ?_;simp_all[jG]
theorem vW(x:Int):aL av 227 [pI x] (rB (jG x)):=by
  refine pO func227 call227 ntmps227 results227 λS=>?_;conv=>whnf
  repeat'(first|refine awz ?_|refine tB ?_ ?_|(intro h;conv=>whnf))
  all_goals
    refine bM ?_;simp_all[jG]
theorem A3(x:Int):aL av 357 [pI x] (rB (jG x)):=by
  refine pO func357 call357 ntmps357 results357 λS=>?_;conv=>whnf
  repeat'(first|refine awz ?_|refine tB ?_ ?_|(intro h;conv=>whnf))
  all_goals
    refine bM ?_;simp_all[jG]
theorem A4(p:DPair):aL av 355 [.agg p.ds] (rB (fU p)):=by
  refine pO func355 call355 ntmps355 results355 λS=>?_;conv=>whnf
  repeat'((first|refine awz ?_|refine cP (bh _ _ _) ?_|refine tB ?_ ?_|intro h)<;>conv=>whnf)
  all_goals
    refine bM ?_;simp_all[fU]
theorem JH(p:DJob):aL av 426 [.agg p.ds] (rB (oP p)):=by
  refine pO func426 call426 ntmps426 results426 λS=>?_;conv=>whnf
  repeat'((first|refine awz ?_|refine cP (vA _) ?_|refine cP (dM _) ?_|refine cP (mH _) ?_|refine cP (jo _) ?_|refine cP (bf _ _ _) ?_|refine tB ?_ ?_|intro h)<;>conv=>whnf)
  all_goals
    refine bM ?_;simp_all[oP,tOk]
theorem KU(p:DJob):aL av 356 [.agg p.ds] (rB (oP p)):=by
  refine pO func356 call356 ntmps356 results356 λS=>?_;conv=>whnf
  repeat'((first|refine awz ?_|refine cP (bh _ _ _) ?_|refine tB ?_ ?_|intro h)<;>conv=>whnf)
  all_goals
    refine bM ?_;simp_all[oP,tOk]
theorem Gd(p:DJob):aL av 427 [.agg p.ds] (rB (p.fired !=0)):=by
  refine pO func427 call427 ntmps427 results427 λS=>?_;conv=>whnf
  repeat'(first|refine awz ?_|exact rr|fail)
theorem CY(l:DLease):aL av 389 [.agg l.ds] (rB (iD l)):=by
  refine pO func389 call389 ntmps389 results389 λS=>?_;conv=>whnf
  repeat'((first|refine awz ?_|refine Yb (oH l ⟨0,0,0⟩) rfl rfl rfl rfl rfl ?_|refine cP (jn _) ?_|refine cP (bf _ _ _) ?_|refine tB ?_ ?_|intro h)<;>conv=>whnf)
  all_goals
    refine bM ?_;simp_all[iD]
theorem jr(l:DLease):aL av 293 [.agg l.ds] (rB (iD l)):=by
  refine pO func293 call293 ntmps293 results293 λS=>?_;conv=>whnf
  repeat'((first|refine awz ?_|refine Yb (oH l ⟨0,0,0⟩) rfl rfl rfl rfl rfl ?_|refine cP (vW _) ?_|refine cP (bh _ _ _) ?_|refine tB ?_ ?_|intro h)<;>conv=>whnf)
  all_goals
    refine bM ?_;simp_all[iD]
end
section
section
open Go.Proofs.Tryz
open Go.ChangeShapes Go.WideShapes Go.RowKit
def sR:List (List Nat):=cz [0,1,129,12354,1056835,84676740,6510088389,486455648518,35601017745735,0x50c1084247188,0x2881872440810c5,0xb1430421091c620a,0x30a2061c910204314b,0xd2c50c108424718828c,0x38c2881872440810c52cd,0x38c2881872440810c52cd,0x1034b1430421091c620a30e,0xf34b1430421091c620a30e450,0x49044e30a2061c910204314b34f,0x133cd2c50c108424718828c391412,0x38c2881872440810c52cd,0x1534b1430421091c620a30e,0x51241138c2881872440810c52cd3d3595,0xe30a2061c910204314b3575564cf450494,0x2c50c10842471882985124113d35955cd30e]
def tj:List (List Nat):=eK 22 [0,1,4,13,40,121,364,1093,3280,9841,29524,88573,265720,797161,28011457948,27906232630,27920581537,27958845289,28087985452,28475405941,3484392916,6971177317]
def lB:List (List Nat):=cz [0,0,66,12417,1052803,84680772,6509830341,486455906566,35601001230663,0x91c50c2044188,0x2881840420c51c9,0x2881840420c51c9,0xc24714308110620a,0xb24714308110620a34c,0x38c34a20610108314724b,0xf2c91c50c204418828d30e,0x2881840420c51c9,0x2881840420c51c9,0x4491c50c2044188292,0x1348a206101083147251,0x51124714308110620a493,0x1038c34a20610108314724b3d54d2454,0x2881840420c51c95944524d53cb34c390,0x71430811065d038c34b3d54d245458920a]
def lH:List (List Nat):=eK 21 [6,2,4,13,40,121,364,1093,3280,9841,10418753182,10417454104,10417631251,10418103643,10419697966,10424480935,301297522,129110638,215204080,602624569,1764886036]
def uc:List (List Nat):=cz [0,1,129,12354,1056835,84676740,6510088389,486455648518,486455648518,39999064256839,0x206102043147289,0xb24a1c50c1084188,0x3081840810c51ca24b,486455648518,61989296812359,0xd2c928714304210620c3ce,0x1c50c108419038f3082892cd,0x40810d134b24a20c3ce406147,0x48714640e3cc20a24b3510c1084,0x1310204344d2c928830f3901851d2,0x5121c519038f3082892cd443042113,0x154c40810d134b24a20c3ce406147494,0x59448714640e3cc20a24b3510c10844d5,0x59448714640e3cc20a24b3510c10844d5,0x1855310204344d2c928830f3901851d2516,0x1755310204344d2c928830f3901851d2516658,0x59448714640e3cc20a24b3510c10844d5698657,0x1310204344d2c928830f3901851d26d7658695516]
def uk:List (List Nat):=eK 25 [0,1,4,13,40,121,364,12808165,12760051,12766612,12784108,12843157,13020304,1593229,3187552,7174453,21523360,64570081,193710244,581130733,1743392200,5230176601,768835960420,78452649022,172595827849]
def sS:List (List Nat):=cz [0,0,66,12417,1052803,84680772,6509830341,486455906566,486455906566,0x81840420c51c9,0x2891c50c2044188,0xb20610108314724a,486455906566,486455906566,0xd1840420c51ce,0x3ce1c50c204418d,0x1034610108314738f,0xc2891c50c20441882d13ce350,0x1c50c204419240d38f44b20928c]
def tl:List (List Nat):=eK 17 [6,2,4,13,40,121,364,128622937,128614189,128618563,128638246,128697295,3718993,1593229,2656111,7439080,21787987]
section
variable {α:Type} {P:α->Bool} {Q R:α->α->Bool} {l:List α}
theorem sc{k:Nat}(hlt:k<l.length)(hd:∀(i j:Nat) (hi:i<j) (hj:j<k) (hl:j<l.length),R (l[i]'(aa)) l[j]=false)(h:∀(i:Nat) (hi:i<k),R (l[i]'(aa)) l[k]=false):∀(i j:Nat) (hi:i<j) (hj:j<k+1) (hl:j<l.length),R (l[i]'(aa)) l[j]=false:=by
  intro i j hi hj hl;by_cases hjk:j=k
  · subst hjk;exact h i hi
  · exact hd i j hi aa hl
theorem vp{k:Nat}(hk:k=l.length)(hd:∀(i j:Nat) (hi:i<j) (hj:j<k) (hl:j<l.length),R (l[i]'(aa)) l[j]=false):fA R l=true:=qS λi j hi hl=>hd i j hi aa hl
end
theorem DK{l:List DPair}{k:Nat}(hk:k<l.length)(h:cK fU j9 l k hk=false):da l=false:=by
  simp only[da,pM hk h]
theorem Az{l:List DPair}(hc:(l.all fU&&kE j9 l)=true):da l=true:=by simp only[da,hc]
theorem QV{l:List DPair}(h:da l=true):l.length<=10:=by
  simp only[da,and_eq_true]at h;obtain⟨h1,h2⟩:=h;have key:∀(j:Nat) (hj:j<l.length),(j:Int)<=l[j].key:=by
    intro j;induction j with
    |zero=>
      intro hj;have:=vm h1 hj;simp only[fU,aJ,and_eq_true,decide_eq_true_eq]at this;omega
    |succ j ih=>
      intro hj;have:=nW h2 hj;simp only[j9,decide_eq_true_eq]at this;have:=ih aa;omega
  rcases Nat.lt_or_ge 10 l.length with hl|hl
  · have h5:=key 10 hl;have:=vm h1 hl;simp only[fU,aJ,and_eq_true,decide_eq_true_eq]at this;omega
  · exact hl
theorem KH{l:List DPair}(h:¬l.length<=10):da l=false:=by
  cases hp:da l with
  |false=>rfl
  |true=>exact absurd (QV hp) h
theorem lT(l:List DPair)(hs:l.length<=9223372036854775806):aL av 387 [.one (.sl (l.map DPair.ds))] (rB (da l)):=by
  refine pO func387 call387 ntmps387 results387 λS=>?_;conv=>whnf
  repeat'(first|refine awz ?_|fail)
  refine XA (λk:Nat=>k<=l.length/\∀(j:Nat) (hj:j<k) (hl:j<l.length),cK fU j9 l j hl=true) (2::3::4::rg 7 31) (λk=>[(7,vI .i64 (k:Int))]) (λ_=>[]) (λk=>l.length-k) 0 ⟨aa,aa⟩ ?_ Xv (λk hR=>?_)<;>(conv=>whnf)
  · exact whd
  · obtain⟨hk,hall⟩:=hR;repeat'((first|refine awz ?_|refine XB aM 4 22 sR tj ac ac ac rfl ?_|refine XI ari (λhlt=>?_)|refine Yj ari ari (λhpv=>?_)|refine Xz (n:=_-_) ari ari ?_|refine Xz ari ari ?_|refine cP (mH _) ?_|refine cP (jo _) ?_|refine tB ?_ ?_|intro h)<;>conv=>whnf)
    all_goals first
      |(rw[DK hlt (by first|(refine ch _ ?_;simp_all;done)|(refine ch _ ?_;simp_all[fU];done)|(rw[br _ ari];simp_all[j9];done)|(rw[bw _ ari];simp_all;done)|(rw[br _ ari];simp_all[fU,j9];done)|(rw[bw _ ari];simp_all[fU];done)|(exfalso;assumption))];done)
      | (refine aT.mk ⟨k + 1, ⟨ari, fL hall ari (by first | (refine ch _ ?_; simp_all; done) | (refine ch _ ?_; simp_all [fU]; done) | (rw [br _ ari]; simp_all [j9]; done) | (rw [bw _ ari]; simp_all; done) | (rw [br _ ari]; simp_all [fU, j9]; done) | (rw [bw _ ari]; simp_all [fU]; done) | (exfalso; assumption))⟩, ari, ?_, Xv⟩
         exact hds)
      |(rw[Az (iQ hall ari)])
theorem gX(l:List DPair):aL av 291 [.one (.sl (l.map DPair.ds))] (rB (da l)):=by
  refine pO func291 call291 ntmps291 results291 λS=>?_;conv=>whnf
  repeat'(first|refine awz ?_|refine tB ?_ ?_|(intro h;conv=>whnf))
  · rw[KH ari]
  · have h1:l.length<=10:=ari;clear h;refine XA (λk:Nat=>k<=l.length/\∀(j:Nat) (hj:j<k) (hl:j<l.length),cK fU j9 l j hl=true) (2::3::rg 7 30) (λk=>[(3,vI .i64 (k:Int))]) (λ_=>[]) (λk=>l.length-k) 0 ⟨aa,aa⟩ ?_ Xv (λk hR=>?_)<;>(conv=>whnf)
    · exact whd
    · obtain⟨hk,hall⟩:=hR;repeat'((first|refine awz ?_|refine XB aM 6 21 lB lH ac ac ac rfl ?_|refine XI ari (λhlt=>?_)|refine Yj ari ari (λhpv=>?_)|refine Xz (n:=_-_) ari ari ?_|refine Xz ari ari ?_|refine cP (A4 _) ?_|refine tB ?_ ?_|intro h)<;>conv=>whnf)
      all_goals first
        |(rw[DK hlt (by first|(refine ch _ ?_;simp_all;done)|(refine ch _ ?_;simp_all[fU];done)|(rw[br _ ari];simp_all[j9];done)|(rw[bw _ ari];simp_all;done)|(rw[br _ ari];simp_all[fU,j9];done)|(rw[bw _ ari];simp_all[fU];done)|(exfalso;assumption))];done)
        | (refine aT.mk ⟨k + 1, ⟨ari, fL hall ari (by first | (refine ch _ ?_; simp_all; done) | (refine ch _ ?_; simp_all [fU]; done) | (rw [br _ ari]; simp_all [j9]; done) | (rw [bw _ ari]; simp_all; done) | (rw [br _ ari]; simp_all [fU, j9]; done) | (rw [bw _ ari]; simp_all [fU]; done) | (exfalso; assumption))⟩, ari, ?_, Xv⟩
           exact hds)
        |(rw[Az (iQ hall ari)])
theorem Dd{l:List DJob}(h:¬l.length<=8):dA l=false:=by simp[dA,h]
theorem yp{l:List DJob}{k:Nat}(hk:k<l.length)(h:cK oP wC l k hk=false):dA l=false:=by
  rcases Bool.and_eq_false_iff.1 (pM hk h)with h|h<;>simp only[dA,h,Bool.and_false,Bool.false_and]
theorem Dc{l:List DJob}{j k:Nat}(hj:j<k)(hk:k<l.length)(h:oq (l[j]'(aa)) l[k]=true):dA l=false:=by
  have:=tQ (R:=oq) hj hk h;simp only[dA,this,Bool.and_false]
theorem De{l:List DJob}(h:l.length<=8)(hc:(l.all oP&&kE wC l)=true)(hd:fA oq l=true):dA l=true:=by
  rw[and_eq_true]at hc;simp only[dA,h,hc.1,hc.2,hd,decide_true,Bool.and_self]
theorem J4{l:List DJob}{k:Nat}(hk:k<l.length)(h0:(l[k].fired !=0)=true)(h:decide (l[k].fired∈(l.take k).map (·.fired))=true):dA l=false:=by
  obtain⟨m,hm,e⟩:=List.mem_map.1 (of_decide_eq_true h);obtain⟨j,hj,rfl⟩:=List.getElem_of_mem hm;simp at hj e;exact Dc (j:=j) aa hk (by simp only[oq,h0,Bool.true_and];simpa using e)
theorem Sj{l:List DJob}{k:Nat}(hk:k<l.length)(h:(l[k].fired !=0)=false\/decide (l[k].fired∈(l.take k).map (·.fired))=false){i:Nat}(hi:i<k):oq (l[i]'(aa)) l[k]=false:=by
  rcases h with h|h
  · simp only[oq,h,Bool.false_and]
  · have:=of_decide_eq_false h;simp only[oq,Bool.and_eq_false_iff];refine .inr ?_;simp only[beq_eq_false_iff_ne,ne_eq];intro e;refine this (List.mem_map.2 ⟨l[i],?_,e⟩);rw[List.mem_take_iff_getElem];exact⟨i,aa,rfl⟩
theorem QG{x y:DJob}(h:¬x.fired=y.fired\/y.fired=0):oq x y=false:=by
  simp only[oq,Bool.and_eq_false_iff];rcases h with h|h
  · exact .inr (by simpa using h)
  · exact .inl (by simp[h])
theorem Nb{l:List DJob}{k:Nat}(hlt:k<l.length):((l.take k).map (·.fired))++[l[k].fired]=(l.take (k+1)).map (·.fired):=(eE (λm:DJob=>m.fired) hlt).symm
theorem Ey{j:DJob}(h:(!oP j)=false):(Lit.int .i64 j.fired).wf=true:=by
  have:oP j=true:=by simpa using h
  simp only[oP,aJ,and_eq_true,decide_eq_true_eq]at this;exact oL aa aa
theorem nK(l:List DJob):aL av 388 [.one (.sl (l.map DJob.ds))] (rB (dA l)):=by
  refine pO func388 call388 ntmps388 results388 λS=>?_;conv=>whnf
  repeat'((first|refine awz ?_|refine YN rfl rfl ?_|refine tB ?_ ?_|intro h)<;>conv=>whnf)
  · rw[Dd ari]
  · have h1:l.length<=8:=ari;clear h;refine XA (λk:Nat=>k<=l.length/\(∀(j:Nat) (hj:j<k) (hl:j<l.length),cK oP wC l j hl=true)/\∀(i j:Nat) (hi:i<j) (hj:j<k) (hl:j<l.length),oq (l[i]'(aa)) l[j]=false) (2::4::5::rg 12 37) (λk=>[(12,vI .i64 (k:Int))]) (λk=>[(9,iV Tryz.prog 2 k (lJ ((l.take k).map (·.fired))))]) (λk=>l.length-k) 0 ⟨aa,aa,aa⟩ ?_ sbW (λk hR=>?_)<;>(conv=>whnf)
    · exact whd
    · obtain⟨hk,hall,hdup⟩:=hR;repeat'((first|refine awz ?_|refine XB aM 7 25 uc uk ac ac ac rfl ?_|refine XI ari (λhlt=>?_)|refine Yj ari ari (λhpv=>?_)|refine Xz (n:=_-_) ari ari ?_|refine Xz ari ari ?_|refine cP (JH _) ?_|refine cP (Gd _) ?_|refine YM (id:=9) (N:=k) rfl rfl rfl rfl (Ey aj) ?_|refine YY (id:=9) (N:=k) rfl aa rfl rfl rfl (Ey aj) ?_|refine tB ?_ ?_|intro h)<;>conv=>whnf)
      all_goals first
        |(rw[yp hlt (by first|(refine ch _ ?_;simp_all;done)|(rw[br _ ari];simp_all[wC];done)|(rw[bw _ ari];simp_all;done)|(exfalso;assumption))];done)
        |(rw[J4 hlt aj aj];done)
        | (refine aT.mk ⟨k + 1, ⟨ari, fL hall ari (by first | (refine ch _ ?_; simp_all; done) | (rw [br _ ari]; simp_all [wC]; done) | (rw [bw _ ari]; simp_all; done) | (exfalso; assumption)), sc ari hdup fun i hi => Sj ari (by first | exact .inl aj | exact .inr aj) hi⟩, ari, ?_, Xu (congrArg some (congrArg (fun l => iV Tryz.prog 2 (k + 1) (lJ l)) (Nb ari))) Xv⟩
           exact hds)
        |(rw[De h1 (iQ hall ari) (vp ari hdup)])
theorem iS(l:List DJob):aL av 292 [.one (.sl (l.map DJob.ds))] (rB (dA l)):=by
  refine pO func292 call292 ntmps292 results292 λS=>?_;conv=>whnf
  repeat'(first|refine awz ?_|refine tB ?_ ?_|(intro h;conv=>whnf))
  · rw[Dd ari]
  · have h1:l.length<=8:=ari;clear h;refine XA (λk:Nat=>k<=l.length/\(∀(j:Nat) (hj:j<k) (hl:j<l.length),cK oP wC l j hl=true)/\∀(i j:Nat) (hi:i<j) (hj:j<k) (hl:j<l.length),oq (l[i]'(aa)) l[j]=false) (2::3::4::rg 8 54) (λk=>[(3,vI .i64 (k:Int))]) (λk=>[]) (λk=>l.length-k) 0 ⟨aa,aa,aa⟩ ?_ Xv (λk hR=>?_)<;>(conv=>whnf)
    · exact whd
    · obtain⟨hk,hall,hdup⟩:=hR;repeat'((first|refine awz ?_|refine XB aM 6 21 lB lH ac ac ac rfl ?_|refine XI ari (λhlt=>?_)|refine Yj ari ari (λhpv=>?_)|refine Xz (n:=_-_) ari ari ?_|refine cP (KU _) ?_|refine tB ?_ ?_|intro h)<;>conv=>whnf)
      all_goals first
        |(rw[yp hlt (by first|(refine ch _ ?_;simp_all;done)|(rw[br _ ari];simp_all[wC];done)|(rw[bw _ ari];simp_all;done)|(exfalso;assumption))];done)
        |(rw[De h1 (iQ hall ari) (vp ari hdup)];done)
        |skip
      all_goals
        have hkl:k<l.length:=ari;have hch:cK oP wC l k hkl=true:=(by first|(refine ch _ ?_;simp_all;done)|(rw[br _ ari];simp_all[wC];done)|(rw[bw _ ari];simp_all;done)|(exfalso;assumption));have hfk:0<=l[k].fired:=by
          have:=HA hch;simp only[oP,aJ,and_eq_true,decide_eq_true_eq]at this;omega
        refine XA (λq:Nat=>q<=k/\∀(i:Nat) (hi:i<q) (hik:i<k),oq (l[i]'(aa)) l[k]=false) (2::4::rg 38 24) (λq=>[(4,vI .i64 (q:Int))]) (λ_=>[]) (λq=>k-q) 0 ⟨aa,aa⟩ ?_ Xv (λq hQ=>?_)<;>(conv=>whnf)
        · exact whd
        · obtain⟨hq,hno⟩:=hQ;repeat'((first|refine awz ?_|refine XB aM 11 17 sS tl ac ac ac rfl ?_|refine XI (k:=q) ari (λhqt=>?_)|refine XI (k:=k) ari (λhlt=>?_)|refine Xz ari ari ?_|refine tB ?_ ?_|intro h)<;>conv=>whnf)
          all_goals first
            |(rw[Dc (j:=q) (k:=k) ari ari (by simp_all[oq];omega)];done)
            | (have hjq : ∀ hqk : q < k, oq (l[q]'(aa)) l[k] = false := fun hqk => QG (by first | exact .inl (by simpa using h) | (refine .inr ?_; simp only [gt_iff_lt, decide_eq_false_iff_not] at h; omega))
               refine aT.mk ⟨q+1,⟨ari,λi hi hik=>?_⟩,ari,?_,Xv⟩
               · by_cases hiq:i=q
                 · subst hiq;exact hjq hik
                 · exact hno i aa hik
               · exact hds)
            | (refine aT.mk ⟨k + 1, ⟨ari, fL hall ari hch, sc ari hdup fun i hi => hno i ari hi⟩, ari, ?_, Xv⟩
               exact hds)
end
section
open Go.Proofs.Tryz
open Go.ChangeShapes Go.WideShapes Go.RowKit
def sU:List (List Nat):=cz [0,1,129,12354,1056835,84676740,6510088389,486455648518,35601017745735,0x50c1084247188,0x2881872440810c5,0xb1430421091c620a,0xb1430421091c620a,0x34a2061c910204314b,0x30a2061c910204314b38d,0xb1430421091c620a3cd38c,0x40c38d3ca2061c910204314b,0x112c50c108424718828f34e310,0x49030e34f2881872440810c52d1,0x1344b1430421091c620a3cd38c412,0x51240c38d3ca2061c910204314b453,0x154d12c50c108424718828f34e310494,0x51240c38d3ca2061c910204314b453,0x174d12c50c108424718828f34e310494,0x59449030e34f2881872440810c52d14d5617,0x195d855344b1430421091c620a3cd38c412516,0x51240c38d3ca2061c910204314b453,0x1a59449030e34f2881872440810c52d14d561765b,0x71b6576154d12c50c108424718828f34e31049459a,0x1449030e34f2881872440810c52d14dd6965585d96dc,0x44b1430421091c620a3cd38c41e71b65761559a753494]
def tp:List (List Nat):=eK 27 [0,1,4,13,40,121,364,1093,3280,9841,29524,4340101,442867,974308,2391484,7174453,21523360,64570081,193710244,581130733,5336523525730,5340010310131,5113369324066,5144750383675,5224946424898,5507375961379,2540122436128]
def sV:List (List Nat):=cz [0,0,66,12417,1052803,84680772,6509830341,486455906566,35601001230663,35601001230663,0x24714308110620a,0xb2881840420c51c9,0x3091c50c204418828b,0xd2ca20610108314724c,0x38c24714308110620a2cd,0x81840420c51cf34b28930e,0x40e30928b34f1c50c2044188,0x112061010831473cd2ca24c390,0x49038c24a2cd3c7143081106211,0x134481840420c51cf34b28930e412,0x51240e30928b34f1c50c2044188453,0x51240e30928b34f1c50c2044188453,0x164d12061010831473cd2ca24c390494,0x154d12061010831473cd2ca24c3904945d6,0x6165d449038c24a2cd3c71430811062114d5,0x51240e30928b34f1c50c2044188453,0x51240e30928b34f1c50c2044188453,0x6934481840420c51cf34b28930e41251b,0x1c6d449038c24a2cd3c71430811062114da,0x195534481840420c51cf34b28930e41251759875a6dc,0x79c6da75859751240e30928b34f1c50c2044188453559,0x1449038c24a2cd3c71430811062114df6555d661d69b71e,0x4481840420c51cf34b28930e42079c6da7585975597d3494]
def tq:List (List Nat):=eK 29 [6,2,4,13,40,121,364,1093,42646,16402,29524,88573,265720,797161,2391484,7174453,21523360,64570081,193710244,581130733,67868514973264,67791805716442,67802266069645,67830160344853,67924303523680,5929276873900,2540122436128,4234699655014,0xac970cc4721]
theorem C7(x y:DDue):aL av 441 [.agg x.ds,.agg y.ds] (rB (pU x y)):=by
  refine pO func441 call441 ntmps441 results441 λS=>?_;conv=>whnf
  repeat'(first|refine awz ?_|refine tB ?_ ?_|(intro h;conv=>whnf))
  all_goals
    refine bM ?_;first
      |(simp_all[pU];done)
      |(simp_all[pU];omega)
theorem wK(x y:DDue):aL av 410 [.agg x.ds,.agg y.ds] (rB (pU x y)):=by
  refine pO func410 call410 ntmps410 results410 λS=>?_;conv=>whnf
  repeat'(first|refine awz ?_|refine tB ?_ ?_|(intro h;conv=>whnf))
  all_goals
    refine bM ?_;first
      |(simp_all[pU];done)
      |(simp_all[pU];omega)
def jY(l:List DDue):Bool:=decide (l.length<=8)&&l.all kP&&kE pU l&&fA ue l
theorem Db(j:DJobs):rn j=(aJ j.index 0 2000&&tOk j.time&&(j.holder==0||jG j.holder)&&aJ j.epoch 0 1000&&aJ j.til 0 1001000&&jY j.opens):=by simp only[rn,jY,Bool.and_assoc]
theorem Av{l:List DDue}(h:¬l.length<=8):jY l=false:=by simp[jY,h]
theorem wE{l:List DDue}{k:Nat}(hk:k<l.length)(h:cK kP pU l k hk=false):jY l=false:=by
  rcases Bool.and_eq_false_iff.1 (pM hk h)with h|h<;>simp only[jY,h,Bool.and_false,Bool.false_and]
theorem Au{l:List DDue}{j k:Nat}(hj:j<k)(hk:k<l.length)(h:(l[j]'(aa)).id=l[k].id):jY l=false:=by
  have:=tQ (R:=ue) hj hk (by simp[ue,h]);simp only[jY,this,Bool.and_false]
theorem Aw{l:List DDue}(h:l.length<=8)(hc:(l.all kP&&kE pU l)=true)(hd:fA ue l=true):jY l=true:=by
  rw[and_eq_true]at hc;simp only[jY,h,hc.1,hc.2,hd,decide_true,Bool.and_self]
theorem Iq{l:List DDue}{k:Nat}(hk:k<l.length)(h:decide (l[k].id∈(l.take k).map (·.id))=true):jY l=false:=by
  obtain⟨m,hm,e⟩:=List.mem_map.1 (of_decide_eq_true h);obtain⟨j,hj,rfl⟩:=List.getElem_of_mem hm;simp at hj e;exact Au (j:=j) aa hk e
theorem RW{l:List DDue}{k:Nat}(hk:k<l.length)(h:decide (l[k].id∈(l.take k).map (·.id))=false){i:Nat}(hi:i<k):ue (l[i]'(aa)) l[k]=false:=by
  have:=of_decide_eq_false h;simp only[ue,beq_eq_false_iff_ne,ne_eq];intro e;refine this (List.mem_map.2 ⟨l[i],?_,e⟩);rw[List.mem_take_iff_getElem];exact⟨i,aa,rfl⟩
theorem SQ{l:List DDue}{k:Nat}(hlt:k<l.length):((l.take k).map (·.id))++[l[k].id]=(l.take (k+1)).map (·.id):=(eE (λm:DDue=>m.id) hlt).symm
theorem RP{n:Int}(h:(!aJ n 1 20)=false):(Lit.int .i64 n).wf=true:=Ez h ae ae
theorem CX(j:DJobs):aL av 421 [.agg j.ds] (rB (rn j)):=by
  rw[Db];refine pO func421 call421 ntmps421 results421 λS=>?_;conv=>whnf
  repeat'((first|refine awz ?_|refine YN rfl rfl ?_|refine cP (bf _ _ _) ?_|refine cP (dM _) ?_|refine cP (jn _) ?_|refine tB ?_ ?_|intro h)<;>conv=>whnf)
  all_goals first
    |(refine bM ?_;simp_all[tOk];done)
    |(refine bM ?_;rw[Av ari,Bool.and_false];done)
    |skip
  all_goals
    have h1:j.opens.length<=8:=ari;have hpre:(aJ j.index 0 2000&&tOk j.time&&(j.holder==0||jG j.holder)&&aJ j.epoch 0 1000&&aJ j.til 0 1001000)=true:=by simp_all[tOk]
    rw[hpre,Bool.true_and];clear hpre;refine XA (λk:Nat=>k<=j.opens.length/\(∀(q:Nat) (hj:q<k) (hl:q<j.opens.length),cK kP pU j.opens q hl=true)/\∀(i q:Nat) (hi:i<q) (hj:q<k) (hl:q<j.opens.length),ue (j.opens[i]'(aa)) j.opens[q]=false) (2::4::5::rg 47 40) (λk=>[(47,vI .i64 (k:Int))]) (λk=>[(43,iV Tryz.prog 2 k (lJ ((j.opens.take k).map (·.id)))),(1,.cells 90 (j.ds.map .d))]) (λk=>j.opens.length-k) 0 ⟨aa,aa,aa⟩ ?_ sbW (λk hR=>?_)<;>(conv=>whnf)
    · exact whd
    · obtain⟨hk,hall,hdup⟩:=hR;repeat'((first|refine awz ?_|refine XB aM 9 27 sU tp ac ac ac rfl ?_|refine XI ari (λhlt=>?_)|refine Yj ari ari (λhpv=>?_)|refine Xz (n:=_-_) ari ari ?_|refine Xz ari ari ?_|refine cP (vA _) ?_|refine cP (dM _) ?_|refine cP (C7 _ _) ?_|refine Y2 (id:=43) (N:=k) rfl rfl rfl rfl (RP aj) ?_|refine YY (id:=43) (N:=k) rfl aa rfl rfl rfl (RP aj) ?_|refine tB ?_ ?_|intro h)<;>conv=>whnf)
      all_goals first
        |(rw[wE (k:=k) ari (by first|(refine ch _ ?_;simp_all[kP,tOk];done)|(rw[br _ ari];simp_all[kP,tOk];done)|(rw[bw _ ari];simp_all[kP,tOk];done)|(exfalso;assumption))];done)
        |(rw[Iq (k:=k) ari aj];done)
        | (refine aT.mk ⟨k + 1, ⟨ari, fL hall ari (by first | (refine ch _ ?_; simp_all [kP, tOk]; done) | (rw [br _ ari]; simp_all [kP, tOk]; done) | (rw [bw _ ari]; simp_all [kP, tOk]; done) | (exfalso; assumption)), sc ari hdup fun i hi => RW ari aj hi⟩, ari, ?_, Xu (congrArg some (congrArg (fun l => iV Tryz.prog 2 (k + 1) (lJ l)) (SQ ari))) sbW⟩
           exact hds)
        |(rw[Aw h1 (iQ hall ari) (vp ari hdup)])
theorem Ee(l:List DDue):aL av 358 [.one (.sl (l.map DDue.ds))] (rB (jY l)):=by
  refine pO func358 call358 ntmps358 results358 λS=>?_;conv=>whnf
  repeat'(first|refine awz ?_|refine tB ?_ ?_|(intro h;conv=>whnf))
  · rw[Av ari]
  · have h1:l.length<=8:=ari;clear h;refine XA (λk:Nat=>k<=l.length/\(∀(j:Nat) (hj:j<k) (hl:j<l.length),cK kP pU l j hl=true)/\∀(i j:Nat) (hi:i<j) (hj:j<k) (hl:j<l.length),ue (l[i]'(aa)) l[j]=false) (2::3::4::rg 8 55) (λk=>[(3,vI .i64 (k:Int))]) (λk=>[]) (λk=>l.length-k) 0 ⟨aa,aa,aa⟩ ?_ Xv (λk hR=>?_)<;>(conv=>whnf)
    · exact whd
    · obtain⟨hk,hall,hdup⟩:=hR;repeat'((first|refine awz ?_|refine XB aM 6 29 sV tq ac ac ac rfl ?_|refine XI ari (λhlt=>?_)|refine Yj ari ari (λhpv=>?_)|refine Xz (n:=_-_) ari ari ?_|refine cP (Bz _) ?_|refine cP (fc _) ?_|refine cP (wK _ _) ?_|refine tB ?_ ?_|intro h)<;>conv=>whnf)
      all_goals first
        |(rw[wE (k:=k) ari (by first|(refine ch _ ?_;simp_all[kP,tOk];done)|(rw[br _ ari];simp_all[kP,tOk];done)|(rw[bw _ ari];simp_all[kP,tOk];done)|(exfalso;assumption))];done)
        |(rw[Aw h1 (iQ hall ari) (vp ari hdup)];done)
        |skip
      all_goals
        have hkl:k<l.length:=ari;have hch:cK kP pU l k hkl=true:=(by first|(refine ch _ ?_;simp_all[kP,tOk];done)|(rw[br _ ari];simp_all[kP,tOk];done)|(rw[bw _ ari];simp_all[kP,tOk];done)|(exfalso;assumption));refine XA (λq:Nat=>q<=k/\∀(i:Nat) (hi:i<q) (hik:i<k),ue (l[i]'(aa)) l[k]=false) (2::4::rg 47 16) (λq=>[(4,vI .i64 (q:Int))]) (λ_=>[]) (λq=>k-q) 0 ⟨aa,aa⟩ ?_ Xv (λq hQ=>?_)<;>(conv=>whnf)
        · exact whd
        · obtain⟨hq,hno⟩:=hQ;repeat'((first|refine awz ?_|refine XB aM 11 10 lA lG ac ac ac rfl ?_|refine XI (k:=q) ari (λhqt=>?_)|refine XI (k:=k) ari (λhlt=>?_)|refine Xz ari ari ?_|refine tB ?_ ?_|intro h)<;>conv=>whnf)
          all_goals first
            |(rw[Au (j:=q) (k:=k) ari ari (by simpa using h)];done)
            | (have hjq : ∀ hqk : q < k, ue (l[q]'(aa)) l[k] = false := fun hqk => h
               refine aT.mk ⟨q+1,⟨ari,λi hi hik=>?_⟩,ari,?_,Xv⟩
               · by_cases hiq:i=q
                 · subst hiq;exact hjq hik
                 · exact hno i aa hik
               · exact hds)
            | (refine aT.mk ⟨k + 1, ⟨ari, fL hall ari hch, sc ari hdup fun i hi => hno i ari hi⟩, ari, ?_, Xv⟩
               exact hds)
theorem D0(j:DJobs):aL av 297 [.agg j.ds] (rB (rn j)):=by
  rw[Db];refine pO func297 call297 ntmps297 results297 λS=>?_;conv=>whnf
  repeat'((first|refine awz ?_|refine cP (bh _ _ _) ?_|refine cP (fc _) ?_|refine cP (A3 _) ?_|refine cP (Ee j.opens) ?_|refine tB ?_ ?_|intro h)<;>conv=>whnf)
  all_goals
    refine bM ?_;simp_all[tOk]
theorem Gb(v:DView):aL av 373 [.agg v.ds] (rB (rn v.jobs)):=by
  refine pO func373 call373 ntmps373 results373 λS=>?_;conv=>whnf
  repeat'(first|refine awz ?_|(refine cP (CX v.jobs) ?_;conv=>whnf)|exact rr|fail)
theorem GO(v:DView):aL av 228 [.agg v.ds] (rB (rn v.jobs)):=by
  refine pO func228 call228 ntmps228 results228 λS=>?_;conv=>whnf
  repeat'(first|refine awz ?_|(refine cP (D0 v.jobs) ?_;conv=>whnf)|exact rr|fail)
theorem C3(s:DSched):aL av 320 [.agg s.ds] (rB (jV s)):=by
  refine pO func320 call320 ntmps320 results320 λS=>?_;conv=>whnf
  repeat'((first|refine awz ?_|refine cP (jn _) ?_|refine cP (bf _ _ _) ?_|refine cP (Gb s.view) ?_|refine cP (vw s.op) ?_|refine Yb (pX s.op op0) rfl rfl rfl rfl rfl ?_|refine tB ?_ ?_|intro h)<;>conv=>whnf)
  all_goals
    refine bM ?_;first
      |(simp_all[jV];done)
      |(simp_all[jV,aJ];omega)
      | (have hb := FI (x := s.seq) aj
         simp_all[jV];rw[Bool.eq_iff_iff];simp;omega)
theorem D3(s:DSched):aL av 143 [.agg s.ds] (rB (jV s)):=by
  refine pO func143 call143 ntmps143 results143 λS=>?_;conv=>whnf
  repeat'((first|refine awz ?_|refine cP (vW _) ?_|refine cP (bh _ _ _) ?_|refine cP (GO s.view) ?_|refine cP (jZ s.op) ?_|refine Yb (pX s.op op0) rfl rfl rfl rfl rfl ?_|refine tB ?_ ?_|intro h)<;>conv=>whnf)
  all_goals
    refine bM ?_;first
      |(simp_all[jV];done)
      |(simp_all[jV,aJ];omega)
      | (have hb := FI (x := s.seq) aj
         simp_all[jV];rw[Bool.eq_iff_iff];simp;omega)
end
end
section
open Go.Proofs.Tryz
open Go.ChangeShapes Go.WideShapes Go.RowKit
variable {b:Bool}{c:DClient}{s:DState}{k:Nat}
def sT:List (List Nat):=cz [0,1,0,8259,1060930,84414660,0,7,26666395521543]
def tn:List (List Nat):=eK 8 [5850,5851,5840,5845,5872,5953,728,1457]
theorem GY(h:(aJ s.index 0 2000&&tOk s.time&&da s.pairs&&dA s.jobs&&iD s.lease)=false):cH s=false:=by simp only[cH,h,Bool.false_and]
theorem G0(hk:k<s.jobs.length)(h:decide (s.jobs[k].fired<=s.index)=false):cH s=false:=by
  have:=qR (p:=λj:DJob=>decide (j.fired<=s.index)) hk h;simp only[cH,this,Bool.and_false]
theorem A7(h:(aJ s.index 0 2000&&tOk s.time&&da s.pairs&&dA s.jobs&&iD s.lease)=true)(hj:s.jobs.all (λj=>decide (j.fired<=s.index))=true):cH s=true:=by simp only[cH,h,hj,Bool.and_self]
theorem NF{l:List DJob}(h:dA l=true):l.length<=8:=by
  simp only[dA,Bool.and_eq_true,decide_eq_true_eq]at h;exact h.1.1.1
theorem iC(s:DState)(hs:s.pairs.length<=9223372036854775806):aL av 333 [.agg s.ds] (rB (cH s)):=by
  refine pO func333 call333 ntmps333 results333 λS=>?_;conv=>whnf
  repeat'((first|refine awz ?_|refine cP (bf _ _ _) ?_|refine cP (dM _) ?_|refine cP (lT s.pairs hs) ?_|refine cP (nK s.jobs) ?_|refine cP (CY s.lease) ?_|refine tB ?_ ?_|intro h)<;>conv=>whnf)
  all_goals first
    |(rw[GY (by first|(simp_all[tOk];done)|(exfalso;assumption))];done)
    |skip
  have hyes:(aJ s.index 0 2000&&tOk s.time&&da s.pairs&&dA s.jobs&&iD s.lease)=true:=by simp_all[tOk]
  have h8:s.jobs.length<=8:=NF ao;refine XA (λk:Nat=>k<=s.jobs.length/\∀(j:Nat) (hj:j<k) (hl:j<s.jobs.length),decide (s.jobs[j].fired<=s.index)=true) (2::4::rg 36 10) (λk=>[(36,vI .i64 (k:Int))]) (λ_=>[(1,.cells 85 (s.ds.map .d))]) (λk=>s.jobs.length-k) 0 ⟨aa,aa⟩ ?_ sbW (λk hR=>?_)<;>(conv=>whnf)
  · exact whd
  · obtain⟨hk,hall⟩:=hR;repeat'((first|refine awz ?_|refine XI ari (λhlt=>?_)|refine Xz ari ari ?_|refine tB ?_ ?_|intro h)<;>conv=>whnf)
    all_goals first
      |(rw[G0 (k:=k) ari ax];done)
      | (refine aT.mk ⟨k + 1, ⟨ari, gS (p := fun j : DJob => decide (j.fired ≤ s.index)) hall ari ao⟩, ari, ?_, sbW⟩
         exact hds)
      |(rw[A7 hyes (i6 (p:=λj:DJob=>decide (j.fired<=s.index)) hall ari)])
theorem fv(s:DState)(hs:s.pairs.length<=9223372036854775806):aL av 223 [.agg s.ds] (rB (cH s)):=by
  refine pO func223 call223 ntmps223 results223 λS=>?_;conv=>whnf
  repeat'((first|refine awz ?_|refine cP (bh _ _ _) ?_|refine cP (Eh _) ?_|refine cP (gX s.pairs) ?_|refine cP (iS s.jobs) ?_|refine cP (jr s.lease) ?_|refine tB ?_ ?_|intro h)<;>conv=>whnf)
  all_goals first
    |(rw[GY (by first|(simp_all[tOk];done)|(exfalso;assumption))];done)
    |skip
  have hyes:(aJ s.index 0 2000&&tOk s.time&&da s.pairs&&dA s.jobs&&iD s.lease)=true:=by simp_all[tOk]
  have h8:s.jobs.length<=8:=NF ao;refine XA (λk:Nat=>k<=s.jobs.length/\∀(j:Nat) (hj:j<k) (hl:j<s.jobs.length),decide (s.jobs[j].fired<=s.index)=true) (2::3::rg 32 16) (λk=>[(3,vI .i64 (k:Int))]) (λ_=>[(1,.cells 85 (s.ds.map .d))]) (λk=>s.jobs.length-k) 0 ⟨aa,aa⟩ ?_ sbW (λk hR=>?_)<;>(conv=>whnf)
  · exact whd
  · obtain⟨hk,hall⟩:=hR;repeat'((first|refine awz ?_|refine XB aM 6 8 sT tn ac ac ac rfl ?_|refine XI ari (λhlt=>?_)|refine Xz ari ari ?_|refine tB ?_ ?_|intro h)<;>conv=>whnf)
    all_goals first
      |(rw[G0 (k:=k) ari ax];done)
      | (refine aT.mk ⟨k + 1, ⟨ari, gS (p := fun j : DJob => decide (j.fired ≤ s.index)) hall ari ao⟩, ari, ?_, sbW⟩
         exact hds)
      |(rw[A7 hyes (i6 (p:=λj:DJob=>decide (j.fired<=s.index)) hall ari)])
theorem yd(a b:List DPair)(ha:a.length<=9223372036854775806)(hb:b.length<=9223372036854775806):aL av 335 [.one (.sl (a.map DPair.ds)),.one (.sl (b.map DPair.ds))] (rB (da a&&da b&&decide (a=b))):=by
  refine pO func335 call335 ntmps335 results335 λS=>?_;conv=>whnf
  repeat'((first|refine awz ?_|refine cP (lT a ha) ?_|refine cP (lT b hb) ?_|refine cP (Ej a b ha) ?_|refine tB ?_ ?_|intro h)<;>conv=>whnf)
  all_goals
    refine bM ?_;simp_all
theorem Aa(a b:List DJob)(ha:a.length<=9223372036854775806):aL av 336 [.one (.sl (a.map DJob.ds)),.one (.sl (b.map DJob.ds))] (rB (dA a&&dA b&&decide (a=b))):=by
  refine pO func336 call336 ntmps336 results336 λS=>?_;conv=>whnf
  repeat'((first|refine awz ?_|refine cP (nK a) ?_|refine cP (nK b) ?_|refine cP (GU a b ha) ?_|refine tB ?_ ?_|intro h)<;>conv=>whnf)
  all_goals
    refine bM ?_;simp_all
theorem yJ(a b:List DPair)(ha:a.length<=9223372036854775806):aL av 295 [.one (.sl (a.map DPair.ds)),.one (.sl (b.map DPair.ds))] (rB (da a&&da b&&decide (a=b))):=by
  refine pO func295 call295 ntmps295 results295 λS=>?_;conv=>whnf
  repeat'((first|refine awz ?_|refine cP (gX a) ?_|refine cP (gX b) ?_|refine tB ?_ ?_|intro h)<;>conv=>whnf)
  · refine bM ?_;have e:da a=false:=ao;rw[e];rfl
  · refine bM ?_;have e:da b=false:=ao;rw[e,Bool.and_false];rfl
  · rw[m0 an,Bool.and_false]
  · have hlen:a.length=b.length:=an;have ea:da a=true:=ao;have eb:da b=true:=ao;rw[ea,eb];refine XA (λk:Nat=>k<=a.length/\∀(j:Nat) (hj:j<k) (h1:j<a.length) (h2:j<b.length),a[j]=b[j]) (4::5::rg 21 15) (λk=>[(5,vI .i64 (k:Int))]) (λ_=>[]) (λk=>a.length-k) 0 ⟨aa,aa⟩ ?_ Xv (λk hR=>?_)<;>(conv=>whnf)
    · exact whd
    · obtain⟨hk,hall⟩:=hR;repeat'((first|refine awz ?_|refine XB aM 6 8 aU aR ac ac ac rfl ?_|refine XI ari (λhlt=>?_)|refine Xz ari ari ?_|refine Yb (rE _ _) rfl rfl rfl rfl rfl ?_|refine tB ?_ ?_|intro h)<;>conv=>whnf)
      all_goals first
        |(rw[sv (k:=k) ari ari (by first|(simpa using h)|(exfalso;assumption)),Bool.and_false];done)
        | (refine aT.mk ⟨k + 1, ⟨ari, j3 hall fun h1 h2 => by simpa using h⟩, ari, ?_, Xv⟩
           exact hds)
        | (have hkk : k = a.length := ari
           rw[mY hlen λj h1 h2=>hall j aa h1 h2];rfl)
theorem AY(a b:List DJob)(ha:a.length<=9223372036854775806):aL av 296 [.one (.sl (a.map DJob.ds)),.one (.sl (b.map DJob.ds))] (rB (dA a&&dA b&&decide (a=b))):=by
  refine pO func296 call296 ntmps296 results296 λS=>?_;conv=>whnf
  repeat'((first|refine awz ?_|refine cP (iS a) ?_|refine cP (iS b) ?_|refine tB ?_ ?_|intro h)<;>conv=>whnf)
  · refine bM ?_;have e:dA a=false:=ao;rw[e];rfl
  · refine bM ?_;have e:dA b=false:=ao;rw[e,Bool.and_false];rfl
  · rw[m0 an,Bool.and_false]
  · have hlen:a.length=b.length:=an;have ea:dA a=true:=ao;have eb:dA b=true:=ao;rw[ea,eb];refine XA (λk:Nat=>k<=a.length/\∀(j:Nat) (hj:j<k) (h1:j<a.length) (h2:j<b.length),a[j]=b[j]) (4::5::rg 21 15) (λk=>[(5,vI .i64 (k:Int))]) (λ_=>[]) (λk=>a.length-k) 0 ⟨aa,aa⟩ ?_ Xv (λk hR=>?_)<;>(conv=>whnf)
    · exact whd
    · obtain⟨hk,hall⟩:=hR;repeat'((first|refine awz ?_|refine XB aM 6 8 aU aR ac ac ac rfl ?_|refine XI ari (λhlt=>?_)|refine Xz ari ari ?_|refine Yb (vH _ _) rfl rfl rfl rfl rfl ?_|refine tB ?_ ?_|intro h)<;>conv=>whnf)
      all_goals first
        |(rw[sv (k:=k) ari ari (by first|(simpa using h)|(exfalso;assumption)),Bool.and_false];done)
        | (refine aT.mk ⟨k + 1, ⟨ari, j3 hall fun h1 h2 => by simpa using h⟩, ari, ?_, Xv⟩
           exact hds)
        | (have hkk : k = a.length := ari
           rw[mY hlen λj h1 h2=>hall j aa h1 h2];rfl)
theorem ir(h:cH s=true):da s.pairs=true/\dA s.jobs=true:=by
  simp only[cH,Bool.and_eq_true]at h;exact⟨h.1.1.1.2,h.1.1.2⟩
theorem ye(a b:DState)(ha:a.pairs.length<=9223372036854775806)(hb:b.pairs.length<=9223372036854775806)(hj:a.jobs.length<=9223372036854775806):aL av 263 [.agg a.ds,.agg b.ds] (rB (cH a&&cH b&&decide (a=b))):=by
  refine pO func263 call263 ntmps263 results263 λS=>?_;conv=>whnf
  repeat'((first|refine awz ?_|refine cP (iC a ha) ?_|refine cP (iC b hb) ?_|refine cP (yd a.pairs b.pairs ha hb) ?_|refine cP (Aa a.jobs b.jobs hj) ?_|refine Yb (oH a.lease b.lease) rfl rfl rfl rfl rfl ?_|refine tB ?_ ?_|intro h)<;>conv=>whnf)
  all_goals
    refine bM ?_;obtain⟨i1,t1,p1,j1,l1⟩:=a;obtain⟨i2,t2,p2,j2,l2⟩:=b;first
      | (have q1 := ir (s := ⟨i1, t1, p1, j1, l1⟩) aj
         have q2:=ir (s:=⟨i2,t2,p2,j2,l2⟩) aj;simp_all[DState.mk.injEq];done)
      | (have q1 := ir (s := ⟨i1, t1, p1, j1, l1⟩) aj
         have q2:=ir (s:=⟨i2,t2,p2,j2,l2⟩) aj;simp_all[DState.mk.injEq];rw[Bool.eq_iff_iff];simp;done)
      |(simp_all[DState.mk.injEq];done)
      |(simp_all[DState.mk.injEq];rw[Bool.eq_iff_iff];simp;done)
theorem yK(a b:DState)(ha:a.pairs.length<=9223372036854775806)(hb:b.pairs.length<=9223372036854775806)(hj:a.jobs.length<=9223372036854775806):aL av 225 [.agg a.ds,.agg b.ds] (rB (cH a&&cH b&&decide (a=b))):=by
  refine pO func225 call225 ntmps225 results225 λS=>?_;conv=>whnf
  repeat'((first|refine awz ?_|refine cP (fv a ha) ?_|refine cP (fv b hb) ?_|refine cP (yJ a.pairs b.pairs ha) ?_|refine cP (AY a.jobs b.jobs hj) ?_|refine Yb (oH a.lease b.lease) rfl rfl rfl rfl rfl ?_|refine tB ?_ ?_|intro h)<;>conv=>whnf)
  all_goals
    refine bM ?_;obtain⟨i1,t1,p1,j1,l1⟩:=a;obtain⟨i2,t2,p2,j2,l2⟩:=b;first
      | (have q1 := ir (s := ⟨i1, t1, p1, j1, l1⟩) aj
         have q2:=ir (s:=⟨i2,t2,p2,j2,l2⟩) aj;simp_all[DState.mk.injEq];done)
      | (have q1 := ir (s := ⟨i1, t1, p1, j1, l1⟩) aj
         have q2:=ir (s:=⟨i2,t2,p2,j2,l2⟩) aj;simp_all[DState.mk.injEq];rw[Bool.eq_iff_iff];simp;done)
      |(simp_all[DState.mk.injEq];done)
      |(simp_all[DState.mk.injEq];rw[Bool.eq_iff_iff];simp;done)
theorem AT:aL av 226 [] (.val (.agg gZ.ds)):=by
  refine pO func226 call226 ntmps226 results226 λS=>?_;conv=>whnf
  repeat'(first|refine awz ?_|fail)
  all_goals rfl
theorem G3{s:DStore}(h:(eZ s.disk&&cH s.state&&aJ s.num 0 1000000000&&aJ s.last 0 s.state.index&&((s.num==0)==(s.last==0))&&(s.busy==0||(decide (s.num<1000000000)&&decide (s.last<s.busy)&&decide (s.busy<=s.state.index))))=b):b=jJ s:=h.symm
theorem C5(s:DStore)(hs:s.state.pairs.length<=9223372036854775806):aL av 261 [.agg s.ds] (rB (jJ s)):=by
  refine pO func261 call261 ntmps261 results261 λS=>?_;conv=>whnf
  repeat'((first|refine awz ?_|refine cP (ol s.disk) ?_|refine cP (iC s.state hs) ?_|refine cP (bf _ _ _) ?_|refine tB ?_ ?_|intro h)<;>conv=>whnf)
  all_goals
    refine bM (G3 ?_);first
      |(simp_all;done)
      |(simp_all;omega)
theorem D5(s:DStore)(hs:s.state.pairs.length<=9223372036854775806):aL av 141 [.agg s.ds] (rB (jJ s)):=by
  refine pO func141 call141 ntmps141 results141 λS=>?_;conv=>whnf
  repeat'((first|refine awz ?_|refine Xz (by simp_all[aJ,cH];omega) (by simp_all[aJ,cH];omega) ?_|refine cP (ka s.disk) ?_|refine cP (fv s.state hs) ?_|refine cP (bh _ _ _) ?_|refine tB ?_ ?_|intro h)<;>conv=>whnf)
  all_goals
    refine bM (G3 ?_);first
      |(simp_all;done)
      |(simp_all;omega)
      |(simp_all[aJ];rw[Bool.eq_iff_iff];simp;omega)
def oa:List (List Nat):=cz [0,1,129,12354,1056835,84676740,1056835,416645656903,17730751197510,0x91851c80c1084,0x2840810c81c5189,0xb24614720304210a,0x30a10204320714624b,0xa10204320714624d2cc,0x38c2cd24614720304210a,0xf2840810c81c518934b30e,0x40e30b3491851c80c108428f,0x113ca10204320714624d2cc390,0x3ca10204320714624d2cc392411,0x1345048e30b3491851c80c108428f,0x50f2840810c81c518934b30e490453,0x154d141238c2cd24614720304210a3d4,0x5943ca10204320714624d2cc3924114d5,0x143ca10204320714624d2cc3924114d7556,0x6165574d141238c2cd24614720304210a3d4]
def od:List (List Nat):=eK 7 [0,1,4,13,1498,1579,688]
def ud:List (List Nat):=cz [0,1,129,12354,1056835,84676740,6510088389,486455648518,84676740,9731313861,692614078729,0x81840810c51cb24a,0x14304210c2892c7188,0xd2061cb24a3040810c5,0x3850c108430a24b1c620d,0xf3481872c928c10204314e,0x40e14304210c2892c718834f,0xe14304210c2892c71883513d0,0x4903d13481872c928c10204314e,0x133850c108430a24b1c620d44f412,0x51240f44d2061cb24a3040810c5393,0x154ce14304210c2892c71883513d0494,0x4ce14304210c2892c71883513d0496515,0x1755459240f44d2061cb24a3040810c5393]
def ul:List (List Nat):=eK 11 [0,1,4,13,40,170707,170950,171679,6439,13000,32683]
def qY:List (List Nat):=cz [0,1,0,8259,1060930,0,0,7,0,0x50810c41881c9,0x2891c81840c1085]
def q6:List (List Nat):=eK 9 [19458,19459,19448,19453,19480,19196,13850,14579,6560]
def pT:List (List Nat):=cz [0,1,0,8259,1060930,0,6,0,29064,2392455,0,11,0,0x50810c428718824c2cd,0x38d2cc2481872840c1085]
def p5:List (List Nat):=eK 13 [1594098,1594099,1594088,1594093,1594120,1539890,1540133,1537460,1538675,1545236,1121930,1180979,531440]
theorem Li{a b:DStore}:a=b↔(a.disk=b.disk/\a.state=b.state/\a.num=b.num/\a.last=b.last/\a.busy=b.busy):=by
  cases a;cases b;simp[DStore.mk.injEq]
theorem Pn:cH gZ=true:=by decide
theorem Tz(s:DState):(cH s&&cH gZ&&decide (s=gZ))=decide (s=gZ):=by
  by_cases h:s=gZ
  · simp[h,Pn]
  · simp[h]
theorem sD(s:DStore)(hs:s.state.pairs.length<=9223372036854775806)(hj:s.state.jobs.length<=9223372036854775806):aL av 142 [.agg s.ds] (rB (kD s)):=by
  refine pO func142 call142 ntmps142 results142 λS=>?_;conv=>whnf
  repeat'((first|refine awz ?_|refine XB aM 1 7 oa od ac ac ac rfl ?_|refine cP (d7 s.disk) ?_|refine cP (AT) ?_|refine cP (yK s.state gZ hs ae hj) ?_|refine tB ?_ ?_|intro h)<;>conv=>whnf)
  all_goals
    refine bM ?_;try simp only[Tz]at*
    rw[Bool.eq_iff_iff];simp[kD,Li];simp_all
theorem A5(s:DStore)(up:Bool)(hs:s.state.pairs.length<=9223372036854775806)(hj:s.state.jobs.length<=9223372036854775806):aL av 65 [.agg s.ds,.one (dB up)] (rB (if up then jJ s else kD s)):=by
  refine pO func65 call65 ntmps65 results65 λS=>?_;conv=>whnf
  repeat'((first|refine awz ?_|refine cP (D5 s hs) ?_|refine cP (sD s hs hj) ?_|refine tB ?_ ?_|intro h)<;>conv=>whnf)
  all_goals
    refine bM ?_;simp_all
theorem Gc(w:DWant):aL av 370 [.agg w.ds] (rB (jw w)):=by
  refine pO func370 call370 ntmps370 results370 λS=>?_;conv=>whnf
  repeat'((first|refine awz ?_|refine cP (vw w.op) ?_|refine cP (mH _) ?_|refine Yb (pX w.op op0) rfl rfl rfl rfl rfl ?_|refine tB ?_ ?_|intro h)<;>conv=>whnf)
  all_goals
    refine bM ?_;simp_all[jw,op0]
def l13(k:Int):Int:=if k==1 then 1 else if k==2 then 2 else if k==3 then 3 else 0
theorem Lc(k:Int):aL av 231 [.one (dI k)] (.val (pI (l13 k))):=by
  refine pO func231 call231 ntmps231 results231 λS=>?_;conv=>whnf
  repeat'(first|refine awz ?_|refine tB ?_ ?_|(intro h;conv=>whnf))
  all_goals simp_all[l13]
theorem GP(w:DWant):aL av 145 [.agg w.ds] (rB (jw w)):=by
  refine pO func145 call145 ntmps145 results145 λS=>?_;conv=>whnf
  repeat'((first|refine awz ?_|refine XB aM 3 11 ud ul ac ac ac rfl ?_|refine cP (jZ w.op) ?_|refine cP (yP _) ?_|refine cP (Lc w.kind) ?_|refine Yb (pX w.op op0) rfl rfl rfl rfl rfl ?_|refine tB ?_ ?_|intro h)<;>conv=>whnf)
  all_goals
    refine bM ?_;first
      |(simp_all[jw,op0,l13];done)
      |(by_cases k1:w.kind=1<;>by_cases k2:w.kind=2<;>by_cases k3:w.kind=3<;>simp_all[jw,op0,l13])
theorem C8(a b:Int):aL av 371 [.one (dI a),.one (dI b)] (rB ((a==0&&b==0)||(a==1&&aJ b 0 999))):=by
  refine pO func371 call371 ntmps371 results371 λS=>?_;conv=>whnf
  repeat'((first|refine awz ?_|refine cP (jo _) ?_|refine tB ?_ ?_|intro h)<;>conv=>whnf)
  all_goals
    refine bM ?_;simp_all
theorem JV(w:DWant)(g:DGot)(q l:Int):aL av 319 [.agg w.ds,.agg g.ds,.one (dI q),.one (dI l)] (rB (x9 w g q l)):=by
  refine pO func319 call319 ntmps319 results319 λS=>?_;conv=>whnf
  repeat'((first|refine awz ?_|refine cP (bf _ _ _) ?_|refine cP (C8 _ _) ?_|refine tB ?_ ?_|intro h)<;>conv=>whnf)
  all_goals
    refine bM ?_;first
      |(simp_all[x9];done)
      |(simp_all[x9];intros;omega)
theorem VT(x:Int):aJ x 0 1=(x==0||x==1):=by
  rw[Bool.eq_iff_iff];simp[aJ];omega
theorem GQ(w:DWant)(g:DGot)(q l:Int):aL av 146 [.agg w.ds,.agg g.ds,.one (dI q),.one (dI l)] (rB (x9 w g q l)):=by
  refine pO func146 call146 ntmps146 results146 λS=>?_;conv=>whnf
  repeat'((first|refine awz ?_|refine cP (bh _ _ _) ?_|refine cP (rV _) ?_|refine tB ?_ ?_|intro h)<;>conv=>whnf)
  all_goals
    refine bM ?_;try simp only[VT]at*
    first
      |(simp_all[x9];done)
      | (have e0 : aJ 0 0 999 = true := by decide
         rw[Bool.eq_iff_iff];simp_all[x9,aJ];omega)
theorem HQ{α:Type}{l:List α}{d:α}(h:k<l.length):l.getD k d=l[k]:=by simp[List.getD_eq_getElem?_getD,h]
def clG(c:DClient)(k:Nat):Bool:=x9 (c.todo.getD k ⟨0,op0,0⟩) (c.gots.getD k ⟨0,0,0,0⟩) ((k:Int)+1) (rq c.gots k)
theorem HB{l:Int}(h1:k<c.todo.length)(h2:k<c.gots.length)(hl:l=rq c.gots k)(h:x9 c.todo[k] c.gots[k] ((k:Int)+1) l=b):clG c k=b:=by
  rw[<-h,hl];simp only[clG,HQ h1,HQ h2]
theorem Gm(h2:k<c.gots.length):c.gots[k].index=rq c.gots (k+1):=by
  simp only[rq,HQ h2]
theorem L9(h:((c.id==4||c.id==5)&&c.todo.all jw&&decide (c.todo.length<=12)&&decide (c.gots.length<=c.todo.length))=false):fB c=false:=by simp only[fB,h,Bool.false_and]
theorem Cw(hk:k<c.gots.length)(h:clG c k=false):fB c=false:=by
  have:=RT (ok:=clG c) hk h;simp only[fB];unfold clG at this;rw[this];simp
theorem xL(h:((c.id==4||c.id==5)&&c.todo.all jw&&decide (c.todo.length<=12)&&decide (c.gots.length<=c.todo.length))=true)(ha:∀k,k<c.gots.length->clG c k=true)(hb:(c.last==rq c.gots c.gots.length)=b):fB c=b:=by
  have:=Qd (ok:=clG c) ha;unfold clG at this;simp only[fB,h,this,hb,Bool.true_and]
theorem NV{p:Nat->Bool}(h:∀j,j<k->p j=true)(hk:p k=true):∀j,j<k+1->p j=true:=λj hj=>by
  rcases Nat.lt_succ_iff_lt_or_eq.1 hj with h1|h1
  · exact h j h1
  · rw[h1];exact hk
theorem Gj(l:List DWant)(hs:l.length<=9223372036854775806):aL av 318 [.one (.sl (l.map DWant.ds))] (rB (l.all jw&&decide (l.length<=12))):=by
  refine pO func318 call318 ntmps318 results318 λS=>?_;conv=>whnf
  repeat'(first|refine awz ?_|fail)
  refine XA (λk:Nat=>k<=l.length/\∀(j:Nat) (hj:j<k) (hl:j<l.length),jw l[j]=true) (2::4::rg 7 8) (λk=>[(7,vI .i64 (k:Int))]) (λ_=>[]) (λk=>l.length-k) 0 ⟨aa,aa⟩ ?_ Xv (λk hR=>?_)<;>(conv=>whnf)
  · exact whd
  · obtain⟨hk,hall⟩:=hR;repeat'((first|refine awz ?_|refine XI ari (λhlt=>?_)|refine Xz ari ari ?_|refine cP (Gc l[k]) ?_|refine tB ?_ ?_|intro h)<;>conv=>whnf)
    all_goals first
      |(rw[qR (k:=k) ari (by first|(simpa using h)|(exfalso;assumption)),Bool.false_and];done)
      | (refine aT.mk ⟨k + 1, ⟨ari, gS hall ari ao⟩, ari, ?_, Xv⟩
         exact hds)
      |(rw[i6 (p:=jw) hall ari,Bool.true_and];first|done|(refine bM ?_;simp;done)|(refine bM ?_;simp;omega))
def kp(c:DClient):Bool:=(c.id==4||c.id==5)&&c.todo.all jw&&decide (c.todo.length<=12)&&decide (c.gots.length<=c.todo.length)
theorem MO(h:kp c=false):fB c=false:=L9 h
theorem QZ(h:(!(c.todo.all jw&&decide (c.todo.length<=12)))=true):kp c=false:=by
  rw[Bool.not_eq_true']at h;rcases Bool.and_eq_false_iff.1 h with e|e<;>simp only[kp,e,Bool.and_false,Bool.false_and]
theorem oM(c:DClient)(ht:c.todo.length<=9223372036854775806)(hg:c.gots.length<=9223372036854775806):aL av 256 [.agg c.ds] (rB (fB c)):=by
  refine pO func256 call256 ntmps256 results256 λS=>?_;conv=>whnf
  repeat'((first|refine awz ?_|refine cP (Gj c.todo ht) ?_|refine tB ?_ ?_|intro h)<;>conv=>whnf)
  all_goals first
    | (have hno : kp c = false := by (first | exact QZ aj | (simp_all [kp]; done) | (rw [← Bool.not_eq_true]; simp_all [kp]; done) | (rw [← Bool.not_eq_true]; simp_all [kp]; intros; omega) | (by_cases hw : c.todo.all jw = true <;> simp_all [kp] <;> intros <;> omega))
       rw[MO hno];done)
    |skip
  all_goals
    have hpre:kp c=true:=by(first|(simp_all[kp];done)|(simp_all[kp];omega))
    have hle:c.gots.length<=c.todo.length:=by simp only[kp,Bool.and_eq_true,decide_eq_true_iff]at hpre;exact hpre.2
    refine XA (λg:Nat×Int=>g.1<=c.gots.length/\g.2=rq c.gots g.1/\∀j,j<g.1->clG c j=true) (2::3::4::5::rg 32 19) (λg=>[(3,vI .i64 g.2),(32,vI .i64 (g.1:Int))]) (λ_=>[(1,.cells 99 (c.ds.map .d))]) (λg=>c.gots.length-g.1) (0,0) ⟨aa,rfl,aa⟩ ?_ sbW (λg hR=>?_)<;>(conv=>whnf)
    · exact whd
    · obtain⟨hk,hl,hall⟩:=hR;repeat'((first|refine awz ?_|refine XB aM 7 9 qY q6 ac ac ac rfl ?_|refine XI ari (λhlt=>?_)|refine Xz ari ari ?_|refine cP (JV c.todo[g.1] c.gots[g.1] _ _) ?_|refine tB ?_ ?_|intro h)<;>conv=>whnf)
      all_goals first
        |(rw[Cw (k:=g.1) ari (HB ari ari hl (by first|(simpa using h)|(exfalso;assumption)))];done)
        | (refine aT.mk ⟨(g.1 + 1, c.gots[g.1].index), ⟨ari, Gm ari, NV hall (HB ari ari hl (by first | (simpa using h) | (exfalso; assumption)))⟩, ari, ?_, sbW⟩
           exact hds)
        | (have hkk : g.1 = c.gots.length := ari
           rw[xL hpre (λk hk'=>hall k aa) (by rw[<-hkk,<-hl])])
theorem oX(c:DClient)(ht:c.todo.length<=9223372036854775806)(hg:c.gots.length<=9223372036854775806):aL av 67 [.agg c.ds] (rB (fB c)):=by
  refine pO func67 call67 ntmps67 results67 λS=>?_;conv=>whnf
  repeat'(first|refine awz ?_|refine tB ?_ ?_|(intro h;conv=>whnf))
  all_goals first
    | (have hno : kp c = false := by (first | (simp_all [kp]; done) | (rw [← Bool.not_eq_true]; simp_all [kp]; done) | (rw [← Bool.not_eq_true]; simp_all [kp]; intros; omega))
       rw[MO hno];done)
    |skip
  all_goals
    have hpre0:((c.id==4||c.id==5)&&decide (c.todo.length<=12)&&decide (c.gots.length<=c.todo.length))=true:=by(first|(simp_all;done)|(simp_all;omega))
    have hle:c.gots.length<=c.todo.length:=by simp only[Bool.and_eq_true,decide_eq_true_iff]at hpre0;exact hpre0.2
    refine XA (λk:Nat=>k<=c.todo.length/\∀(j:Nat) (hj:j<k) (hl:j<c.todo.length),jw c.todo[j]=true) (2::3::rg 29 14) (λk=>[(3,vI .i64 (k:Int))]) (λ_=>[(1,.cells 99 (c.ds.map .d))]) (λk=>c.todo.length-k) 0 ⟨aa,aa⟩ ?_ sbW (λk hR=>?_)<;>(conv=>whnf)
    · exact whd
    · obtain⟨hk,hall⟩:=hR;repeat'((first|refine awz ?_|refine XI ari (λhlt=>?_)|refine Xz ari ari ?_|refine cP (GP c.todo[k]) ?_|refine tB ?_ ?_|intro h)<;>conv=>whnf)
      all_goals first
        | (have hno:kp c=false:=by
             have:=qR (p:=jw) (k:=k) ari (by first|(simpa using h)|(exfalso;assumption));simp only[kp,this,Bool.and_false,Bool.false_and]
           rw[MO hno];done)
        | (refine aT.mk ⟨k + 1, ⟨ari, gS hall ari ao⟩, ari, ?_, sbW⟩
           exact hds)
        |skip
      have hpre:kp c=true:=by
        have e:=i6 (p:=jw) hall ari;simp only[kp,e,Bool.and_true];exact hpre0
      refine XA (λg:Nat×Int=>g.1<=c.gots.length/\g.2=rq c.gots g.1/\∀j,j<g.1->clG c j=true) (2::4::5::rg 43 28) (λg=>[(4,vI .i64 g.2),(5,vI .i64 (g.1:Int))]) (λ_=>[(1,.cells 99 (c.ds.map .d))]) (λg=>c.gots.length-g.1) (0,0) ⟨aa,rfl,aa⟩ ?_ sbW (λg hR=>?_)<;>(conv=>whnf)
      · exact whd
      · obtain⟨hk,hl,hall⟩:=hR;repeat'((first|refine awz ?_|refine XB aM 12 13 pT p5 ac ac ac rfl ?_|refine XI ari (λhlt=>?_)|refine Xz ari ari ?_|refine cP (GQ c.todo[g.1] c.gots[g.1] _ _) ?_|refine tB ?_ ?_|intro h)<;>conv=>whnf)
        all_goals first
          |(rw[Cw (k:=g.1) ari (HB ari ari hl (by first|(simpa using h)|(exfalso;assumption)))];done)
          | (refine aT.mk ⟨(g.1 + 1, c.gots[g.1].index), ⟨ari, Gm ari, NV hall (HB ari ari hl (by first | (simpa using h) | assumption | (exfalso; assumption)))⟩, ari, ?_, sbW⟩
             exact hds)
          | (have hkk : g.1 = c.gots.length := ari
             rw[xL hpre (λk hk'=>hall k aa) (by rw[<-hkk,<-hl])])
end
end Go.Proofs.YtpdmakdpnejnfaaGreat
