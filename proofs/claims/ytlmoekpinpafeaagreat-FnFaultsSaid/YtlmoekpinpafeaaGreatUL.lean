/- UL -/
import Derived.Test.YtlmoekpinpafeaaGreatAvJ3
import Derived.Test.YtlmoekpinpafeaaGreatAvMD
import Derived.Test.YtlmoekpinpafeaaGreatWR4
import Derived.Test.YtlmoekpinpafeaaGreatWData
import Derived.Test.YtlmoekpinpafeaaGreatWB8
import Derived.Test.YtlmoekpinpafeaaGreatUG
import Derived.Laws.Cover3
import Derived.StillTailTactics
import Derived.Deep.QuietTactic
import Derived.BigQuiet
import Derived.Outline
import Derived.Deep.Draws
set_option maxHeartbeats 16000000
set_option linter.unusedVariables false
set_option linter.unusedSimpArgs false
set_option maxRecDepth 100000
namespace Go.Proofs.YtlmoekpinpafeaaGreat
section
open Go.Proofs.Tryz
open Go.ChangeShapes Go.WideShapes Go.RowKit
def k7:List (List Nat):=a8 [0,1,129,12354,1056835,0,6,454,33159,2388360,90920957427868105,0xb2471882840810c5,0x3050c108428818724b]
def ld:List (List Nat):=dN 10 [58806,58807,58810,58819,58846,242,485,1214,3401,9962]
def k8:List (List Nat):=a8 [0,1,129,12354,0,5,389,28998,2122055,0x40810c91c5188]
def lg:List (List Nat):=dN 9 [19602,19603,19606,19615,80,161,404,1133,3320]
def tN:List (List Nat):=a8 [0,0,2,194,16515,0,6,454,33159,22198607966600,0xa2061c91020c5,0x2c50c21091c620a,0x4c28818724408314b,0xd2c50c21091c620a301,0x38130a2061c91020c52cd]
def tR:List (List Nat):=dN 12 [531438,19442,19445,19454,19481,242,485,1214,3401,9842,29525,88574]
def isI:AD:= .x λ_ _ v=>∃n:Int,v= .int .i64 n
def isB:AD:= .x λ_ _ v=>∃n:Int,v= .int .i64 n/\0<=n/\n<=255
def cD(x:AV):Prop:=∀(Z:Nat->Prop) (w:World) (ρ:Nat->Value) (u:Value),bv Z w ρ x u->∃n:Int,u= .int .i64 n
theorem PY{Z:Nat->Prop}{w:World}{ρ:Nat->Value}{R:(Nat->Prop)->World->Value->Prop}{u:Value}(h:bv Z w ρ (.one (.d (.x R))) u):R Z w u:=by
 cases h with
 |one _ _ h=>
  have h:bK Z w (.x R) u:=h;cases h with
  |x _ _ _ h=>exact h Z w (λ_ h=>h) λ_ _=>rfl
theorem TV:cD (.one (.d isI)):=λ_ _ _ _ h=>PY h
theorem TU:cD (.one (.d isB)):=λ_ _ _ _ h=>by obtain⟨n,e,_⟩:=PY h;exact⟨n,e⟩
theorem cD.int(n:Int):cD (.one (.d (.pv (.int .i64 n)))):=λ_ _ _ _ h=>⟨n,bE h⟩
def FN:BinOp->Bool
 | .mul| .add| .xor| .and=>true
 |_=>false
theorem PI{P:Program}{op:BinOp}(h:FN op=true)(t:TypeId)(a b:Int):∃r:Int,∀w,(binOp op t (.int .i64 a) (.int .i64 b)).run P w= .ok (.int .i64 r) w:=by
 cases op<;>simp[FN]at h
 case add=>exact⟨IntKind.i64.wrap (a+b),λw=>by simp[binOp,Op.intArith]⟩
 case mul=>exact⟨IntKind.i64.wrap (a*b),λw=>by simp[binOp,Op.intArith]⟩
 case and=>exact⟨Fu .i64 a b,λw=>by simp[binOp,Op.intBits,Fu]⟩
 case xor=>exact⟨Oj .i64 a b,λw=>by simp[binOp,Op.intBits,Oj]⟩
theorem PH{P:Program}(t:TypeId)(a:Int):∃r:Int,(0<=r/\r<=255)/\∀w,(binOp .and t (.int .i64 a) (.int .i64 255)).run P w= .ok (.int .i64 r) w:=by
 have h1:(BitVec.ofInt 64 a&&&BitVec.ofInt 64 255).toNat<=255:=by
  rw[BitVec.toNat_and];exact Nat.le_trans Nat.and_le_right ah
 have h2:Fu .i64 a 255=((BitVec.ofInt 64 a&&&BitVec.ofInt 64 255).toNat:Int):=by
  show IntKind.i64.wrap ((BitVec.ofInt 64 a&&&BitVec.ofInt 64 255).toNat:Int)=_;exact mH ac ac
 exact⟨Fu .i64 a 255,by rw[h2];omega,λw=>by simp[binOp,Op.intBits,Fu]⟩
theorem P0{P:Program}(t:TypeId)(a b:Int)(hb:0<=b):∃r:Int,∀w,(binOp .shr t (.int .i64 a) (.int .u64 b)).run P w= .ok (.int .i64 r) w:=
 ⟨Mx .i64 a b,λw=>by simp[binOp,Op.shift,Mx,show¬b<0 by omega]⟩
section
variable {S:bj} {Z:Nat->Prop} {ρ:Nat->Value} {st:ASt} {a:Act} {w:World} {o:Oper} {x y:Operand} {op:BinOp} {t t2:TypeId}
theorem PX{Z:Nat->Prop}{w:World}{ρ:Nat->Value}(n:Int):bv Z w ρ (.one (.d isI)) (.int .i64 n):= .one _ _ (show bK Z w isI _ from .x _ _ rfl λ_ _ _ _=>⟨n,rfl⟩)
theorem Sq{Z:Nat->Prop}{w:World}{ρ:Nat->Value}{n:Int}(h:0<=n/\n<=255):bv Z w ρ (.one (.d isB)) (.int .i64 n):= .one _ _ (show bK Z w isB _ from .x _ _ rfl λ_ _ _ _=>⟨n,rfl,h⟩)
theorem CX(ho:o.op= .binOp op t x y t2)(hop:FN op=true)(hx:aEv st x cD)(hy:aEv st y cD)(hs:Sim av.W S Z ρ st a w):∃u,bv Z w ρ (.one (.d isI)) u/\(execOp a.eval o).run av.P w= .ok (.value u) w:=by
 obtain⟨v,hv,h1⟩:=a7 hs hx;obtain⟨u,hu,h2⟩:=a7 hs hy;obtain⟨n,e1⟩:=h1 _ _ _ _ hv;obtain⟨m,e2⟩:=h2 _ _ _ _ hu;obtain⟨r,hr⟩:=PI (P:=av.P) hop t n m;refine⟨_,PX r,?_⟩;simp only[execOp,ho,e1,e2];rw[fJ (by rfl)];simp[hr]
theorem CW(ho:o.op= .binOp .and t x y t2)(hx:aEv st x cD)(hy:aEv st y λv=>v= .one (.d (.pv (.int .i64 255))))(hs:Sim av.W S Z ρ st a w):∃u,bv Z w ρ (.one (.d isB)) u/\(execOp a.eval o).run av.P w= .ok (.value u) w:=by
 obtain⟨v,hv,h1⟩:=a7 hs hx;obtain⟨u,hu,rfl⟩:=a7 hs hy;obtain⟨n,e1⟩:=h1 _ _ _ _ hv;have e2:=bE hu;obtain⟨r,hr0,hr⟩:=PH (P:=av.P) t n;refine⟨_,Sq hr0,?_⟩;simp only[execOp,ho,e1,e2];rw[fJ (by rfl)];simp[hr]
theorem CY(ho:o.op= .binOp .shr t x y t2)(hx:aEv st x cD)(hy:aEv st y λv=>∃b:Nat,v= .one (.d (.pv (.int .u64 (b:Int)))))(hs:Sim av.W S Z ρ st a w):∃u,bv Z w ρ (.one (.d isI)) u/\(execOp a.eval o).run av.P w= .ok (.value u) w:=by
 obtain⟨v,hv,h1⟩:=a7 hs hx;obtain⟨u,hu,b,rfl⟩:=a7 hs hy;obtain⟨n,e1⟩:=h1 _ _ _ _ hv;have e2:=bE hu;obtain⟨r,hr⟩:=P0 (P:=av.P) t n b ac;refine⟨_,PX r,?_⟩;simp only[execOp,ho,e1,e2];rw[fJ (by rfl)];simp[hr]
end
section
variable {S:bj} {st:ASt} {o:Oper} {x y:Operand} {op:BinOp} {t t2:TypeId}
theorem Vf{K:ASt->Prop}(ho:o.op= .binOp op t x y t2)(hop:FN op=true)(hx:aEv st x cD)(hy:aEv st y cD)(hk:eT st o.dst (.one (.d isI)) K):AOp av S o st K:=
 .reads λZ ρ a w hs=>by
  obtain⟨u,hu,hr⟩:=CX ho hop hx hy hs;exact⟨_,u,hu,hr,hk⟩
theorem UT{K:AV->Prop}(ho:o.op= .binOp op t x y t2)(hop:FN op=true)(hx:aEv st x cD)(hy:aEv st y cD)(hk:K (.one (.d isI))):kT av o st K:=
 ⟨_,hk,λS Z ρ a w hs=>CX ho hop hx hy hs⟩
theorem VI{K:ASt->Prop}(ho:o.op= .binOp .and t x y t2)(hx:aEv st x cD)(hy:aEv st y λv=>v= .one (.d (.pv (.int .i64 255))))(hk:eT st o.dst (.one (.d isB)) K):AOp av S o st K:=
 .reads λZ ρ a w hs=>by
  obtain⟨u,hu,hr⟩:=CW ho hx hy hs;exact⟨_,u,hu,hr,hk⟩
theorem Vl{K:AV->Prop}(ho:o.op= .binOp .and t x y t2)(hx:aEv st x cD)(hy:aEv st y λv=>v= .one (.d (.pv (.int .i64 255))))(hk:K (.one (.d isB))):kT av o st K:=
 ⟨_,hk,λS Z ρ a w hs=>CW ho hx hy hs⟩
theorem VJ{K:ASt->Prop}(ho:o.op= .binOp .shr t x y t2)(hx:aEv st x cD)(hy:aEv st y λv=>∃b:Nat,v= .one (.d (.pv (.int .u64 (b:Int)))))(hk:eT st o.dst (.one (.d isI)) K):AOp av S o st K:=
 .reads λZ ρ a w hs=>by
  obtain⟨u,hu,hr⟩:=CY ho hx hy hs;exact⟨_,u,hu,hr,hk⟩
theorem Vm{K:AV->Prop}(ho:o.op= .binOp .shr t x y t2)(hx:aEv st x cD)(hy:aEv st y λv=>∃b:Nat,v= .one (.d (.pv (.int .u64 (b:Int)))))(hk:K (.one (.d isI))):kT av o st K:=
 ⟨_,hk,λS Z ρ a w hs=>CY ho hx hy hs⟩
end
theorem Wf{S:bj}{c:Code}{K:Exit->ASt->Prop}{tm tm':List AV}{ob:List (Nat×AO)}(s:Nat)(n:Int)(h0:tm[s]? =some (vI .i64 n))(e:tm.set s (.one (.d isI))=tm')(h:AWP av S c K ⟨tm',ob⟩):AWP av S c K ⟨tm,ob⟩:=by
 subst e;refine⟨λa w hw=>?_⟩;obtain⟨Z,ρ,hs⟩:=hw;refine h.run a w ⟨Z,ρ,hs.ws,by simpa using hs.len,λi x v hx hv=>?_,hs.df⟩;rw[List.getElem?_set]at hx;split at hx
 ·rename_i e;subst e;split at hx
  ·injection hx with hx
   subst hx;have:=bE (hs.tm s _ v h0 hv);subst this;exact PX n
  ·cases hx
 ·exact hs.tm i x v hx hv
structure Cr where
 b:List Int
 i:Nat
structure Cr.ok (c:Cr):Prop where
 len:c.b.length<=4096
 le:c.i<=c.b.length
 rng:∀x∈c.b,0<=x/\x<=255
def Cr.o(c:Cr):AO:= .cells 94 [.d (.sl (c.b.map eU)),.d (dI (c.i:Int)),.d isI]
def Cr.next(c:Cr):Cr:=⟨c.b,if c.i<c.b.length then c.i+1 else c.i⟩
theorem Cr.ok.next{c:Cr}(h:c.ok):c.next.ok:=by
 refine⟨h.len,?_,h.rng⟩;have:=h.le;show(if c.i<c.b.length then c.i+1 else c.i)<=c.b.length;split<;>omega
theorem My(c:Cr)(hc:c.ok):cV av 34 [.one (.ref 1000 0 0 0)] [(1000,c.o)] [(1000,c.next.o)] [1000] (.val (.one (.d isB))):=by
 obtain⟨b,i⟩:=c;have h1:=hc.len;have h2:=hc.le;simp only at h1 h2;by_cases hi:i<b.length
 ·have q:decide (((i:Nat):Int)<((b.map eU).length:Int))=true:=by simp[hi]
  have hb:=hc.rng _ (List.getElem_mem hi);have e:(Cr.next ⟨b,i⟩)=⟨b,i+1⟩:=by unfold Cr.next;simp only[if_pos hi]
  rw[e];dsimp only[Cr.o];refine bL aL func34 rfl call34 ntmps34 (WA results34) rfl λS pv=>?_;conv=>whnf
  repeat'((first|refine awz ?_|refine VI rfl (by first|exact TV|exact TU|exact cD.int _) rfl ?_|refine Vf rfl rfl (by first|exact TV|exact TU|exact cD.int _) (by first|exact TV|exact TU|exact cD.int _) ?_|refine Vm rfl (by first|exact TV|exact TU|exact cD.int _) (by first|exact⟨33,rfl⟩|exact⟨45,rfl⟩) ?_|refine TB aL 2 10 k7 ld ae ae ae rfl ?_|refine TB aL 3 9 k8 lg ae ae ae rfl ?_|refine TB aL 4 12 tN tR ae ae ae rfl ?_|refine TJ hi ?_|refine Tz (n:=b[i]) ac ac ?_|refine Tz ac ac ?_|exact rZ|fail)<;>conv=>whnf)
 ·have q:decide (((i:Nat):Int)<((b.map eU).length:Int))=false:=al;have e:(Cr.next ⟨b,i⟩)=⟨b,i⟩:=by unfold Cr.next;simp only[if_neg hi]
  rw[e];dsimp only[Cr.o];refine bL aL func34 rfl call34 ntmps34 (WA results34) rfl λS pv=>?_;conv=>whnf
  repeat'((first|refine awz ?_|refine VI rfl (by first|exact TV|exact TU|exact cD.int _) rfl ?_|refine Vf rfl rfl (by first|exact TV|exact TU|exact cD.int _) (by first|exact TV|exact TU|exact cD.int _) ?_|refine Vm rfl (by first|exact TV|exact TU|exact cD.int _) (by first|exact⟨33,rfl⟩|exact⟨45,rfl⟩) ?_|refine TB aL 2 10 k7 ld ae ae ae rfl ?_|refine TB aL 3 9 k8 lg ae ae ae rfl ?_|exact rZ|fail)<;>conv=>whnf)
theorem Dx{a n:Int}(ha:0<=a)(hn:0<n):0<=a.tmod n/\a.tmod n<n:=by
 rw[Int.tmod_eq_emod_of_nonneg ha];exact⟨Int.emod_nonneg _ ac,Int.emod_lt_of_pos _ hn⟩
theorem cV.num{E:a6}{f:FuncId}{args:List AA}{pre post:List (Nat×AO)}{keep:List Nat}(hc:cV E f args pre post keep (.val (.one (.d isB)))):de E f args pre (λn:Int=>0<=n/\n<=255) (post.map (·.1)) (λ_=>post) keep (λn=> .val (.one (.d (dI n)))):=
 ⟨hc.enter,λZ w ρ us h1 h2 h3=>(hc.run Z w ρ us h1 h2 h3).mono λe w' ⟨v,Z',ρ',h4,h5,h6,h7⟩=>by
  obtain⟨n,rfl,h8⟩:=PY (show bv Z' w' ρ' (.one (.d isB)) v from h7);exact⟨n,_,Z',ρ',h8,h4,h5,h6,.one _ _ (bK.pv _ rfl)⟩⟩
abbrev crO(c:Cr):List (Nat×AO):=[(1000,c.o)]
theorem ou(c:Cr)(hc:c.ok):de av 34 [.one (.ref 1000 0 0 0)] (crO c) (λn:Int=>0<=n/\n<=255) [1000] (λ_=>crO c.next) [1000] (λn=> .val (.one (.d (dI n)))):=(My c hc).num
structure RZ (n:Int) (y:Int×Cr):Prop where
 ok:y.2.ok
 lo:0<=y.1
 hi:y.1<n
abbrev Oz(y:Int×Cr):List (Nat×AO):=crO y.2
abbrev OA(y:Int×Cr):AR:= .val (.one (.d (dI y.1)))
theorem bg(c:Cr)(n:Int)(hc:c.ok)(hn:1<=n/\n<=4294967296):de av 15 [.one (.ref 1000 0 0 0),.one (.d (dI n))] (crO c) (RZ n) [1000] Oz [1000] OA:=by
 have q0:decide (n<=0)=false:=al;have hne:n≠0:=ac;by_cases hb:n<=256
 ·have q1:decide (n<=256)=true:=by simpa using hb
  refine aT aL func15 rfl call15 ntmps15 (WA results15) (λ_=>rfl) rfl (λ_=>rfl) λS pv=>?_;conv=>whnf
  repeat'((first|refine awz ?_|refine And.intro hne ?_|refine TF (ou c hc) [(1000,1000)] 0 (λ_=>rfl) rfl ⟨rfl,trivial⟩ λx hx=>?_|fail)<;>conv=>whnf)
  all_goals
   have ht:=Dx (n:=n) hx.1 ac;exact⟨(x.tmod n,c.next),⟨hc.next,ht.1,ht.2⟩,rfl,rfl,rfl,trivial⟩
 ·have q1:decide (n<=256)=false:=by simpa using hb
  refine aT aL func15 rfl call15 ntmps15 (WA results15) (λ_=>rfl) rfl (λ_=>rfl) λS pv=>?_;conv=>whnf
  repeat'(first|refine awz ?_|fail)
  refine TF (ou c hc) [(1000,1000)] 0 (λ_=>rfl) rfl ⟨rfl,trivial⟩ λx hx=>?_;(conv=>whnf)
  repeat'(first|refine awz ?_|fail)
  refine TF (ou c.next hc.next) [(1000,1000)] 0 (λ_=>rfl) rfl ⟨rfl,trivial⟩ λy hy=>?_;(conv=>whnf)
  repeat'(first|refine awz ?_|fail)
  refine TF (ou c.next.next hc.next.next) [(1000,1000)] 0 (λ_=>rfl) rfl ⟨rfl,trivial⟩ λz hz=>?_;(conv=>whnf)
  repeat'(first|refine awz ?_|fail)
  refine TF (ou c.next.next.next hc.next.next.next) [(1000,1000)] 0 (λ_=>rfl) rfl ⟨rfl,trivial⟩ λv hv=>?_;(conv=>whnf)
  repeat'((first|refine awz ?_|refine And.intro hne ?_|refine Tz ac ac ?_|fail)<;>conv=>whnf)
  all_goals
   have ht:=Dx (a:=x*16777216+y*65536+z*256+v) (n:=n) ac ac;exact⟨((x*16777216+y*65536+z*256+v).tmod n,c.next.next.next.next),⟨hc.next.next.next.next,ht.1,ht.2⟩,rfl,rfl,rfl,trivial⟩
end
open Go.Proofs.Tryz
open Go.ChangeShapes Go.WideShapes Go.RowKit
def Ni(b:List Int):Prop:=b.length<=4096/\∀x∈b,0<=x/\x<=255
theorem N6(b:List Int)(hb:Ni b):cV av 12 [.one (.d (.sl (b.map eU)))] [] [(27,(Cr.mk b 0).o)] [] (.val (.one (.ref 27 0 0 0))):=by
 obtain⟨h1,h2⟩:=hb;dsimp only[Cr.o];refine bL aL func12 rfl call12 ntmps12 (WA results12) rfl λS pv=>?_;conv=>whnf
 repeat'(first|refine awz ?_|(refine Tz aj aj ?_;conv=>whnf)|fail)
 refine Wf 3 _ rfl rfl ?_;conv=>whnf
 refine TE (λk:Nat=>k<=b.length) (3::4::rg 8 16) (λk=>[(3,.one (.d isI)),(4,vI .i64 (k:Int))]) (λk=>[(9999,.frame (cE []) pv)]) (λk=>b.length-k) 0 (Nat.zero_le _) ?_ sbW (λk hk=>?_)<;>(conv=>whnf)
 ·exact whd
 ·by_cases hlt:k<b.length
  ·have hc:decide ((k:Int)<((b.map eU).length:Int))=true:=al;have hx:=h2 _ (List.getElem_mem hlt);repeat'((first|refine awz ?_|refine Vf rfl rfl (by first|exact TV|exact TU|exact cD.int _) (by first|exact TV|exact TU|exact cD.int _) ?_|refine TJ hlt ?_|refine Tz (n:=b[k]) ac ac ?_|refine Tz ac ac ?_|fail)<;>conv=>whnf)
   all_goals
    refine aW.mk ⟨k+1,hlt,ac,?_,sbW⟩;exact hds
  ·have e:k=b.length:=ac;subst e;have hc:decide ((b.length:Int)<((b.map eU).length:Int))=false:=ai;repeat'(first|refine awz ?_|exact rZ|fail)
structure Qk (y:Bool×Cr):Prop where
 ok:y.2.ok
abbrev QL(y:Bool×Cr):List (Nat×AO):=crO y.2
abbrev QM(y:Bool×Cr):AR:= .val (.one (.d (dB y.1)))
theorem lz(c:Cr)(n:Int)(hc:c.ok)(hn:1<=n/\n<=256):de av 14 [.one (.ref 1000 0 0 0),.one (.d (dI n))] (crO c) Qk [1000] QL [1000] QM:=by
 refine aT aL func14 rfl call14 ntmps14 (WA results14) (λ_=>rfl) rfl (λ_=>rfl) λS pv=>?_;conv=>whnf
 repeat'(first|refine awz ?_|(refine TF (bg c n hc ac) [(1000,1000)] (0,c) (λ_=>rfl) rfl ⟨rfl,trivial⟩ λy hy=>?_;conv=>whnf)|fail)
 all_goals exact⟨(_,y.2),⟨hy.ok⟩,rfl,rfl,rfl,trivial⟩
structure Qg (lo hi:Int) (y:Int×Cr):Prop where
 ok:y.2.ok
 lo:lo<=y.1
 hi:y.1<=hi
theorem je(c:Cr)(lo hi:Int)(hc:c.ok)(hl: -1000000000<=lo/\lo<=hi)(hh:hi<=1000000000):de av 16 [.one (.ref 1000 0 0 0),.one (.d (dI lo)),.one (.d (dI hi))] (crO c) (Qg lo hi) [1000] Oz [1000] OA:=by
 refine aT aL func16 rfl call16 ntmps16 (WA results16) (λ_=>rfl) rfl (λ_=>rfl) λS pv=>?_;conv=>whnf
 repeat'((first|refine awz ?_|refine Tz ac ac ?_|(refine TF (bg c (hi-lo+1) hc ac) [(1000,1000)] (0,c) (λ_=>rfl) rfl ⟨rfl,trivial⟩ λy hy=>?_;have hy0:=hy.lo;have hy1:=hy.hi)|fail)<;>conv=>whnf)
 all_goals exact⟨(lo+y.1,y.2),⟨hy.ok,by simp only;omega,by simp only;omega⟩,rfl,rfl,rfl,trivial⟩
theorem Kx{l:List Int}{k:Nat}(hk:k<l.length):(l.map eI)[k]? =some (eI l[k]):=by rw[List.getElem?_map,List.getElem?_eq_getElem hk];rfl
def Qd(y:Int×Cr):Prop:=y.2.ok
theorem Hq(c:Cr)(hc:c.ok):de av 76 [.one (.ref 1000 0 0 0)] (crO c) Qd [1000] Oz [1000] OA:=by
 refine aT aL func76 rfl call76 ntmps76 (WA results76) (λ_=>rfl) rfl (λ_=>rfl) λS pv=>?_;conv=>whnf
 repeat'(first|refine awz ?_|fail)
 refine TF (bg c 10 hc ac) [(1000,1000)] (0,c) (λ_=>rfl) rfl ⟨rfl,trivial⟩ λy hy=>?_;obtain⟨y1,c9⟩:=y;have h9:c9.ok:=hy.ok;obtain⟨k,hk⟩:∃k:Nat,y1=(k:Int):=⟨y1.toNat,by have:0<=y1:=hy.lo;omega⟩;have hk2:k< [-1,0,1,2147483648,-2147483648,1099511627776,4611686018427387904,-4611686018427387904,9223372036854775807,-9223372036854775808].length:=by have:y1<10:=hy.hi;show k<10;omega
 (conv=>whnf)
 repeat'(first|refine awz ?_|(refine Ty k _ (by first|rfl|exact hk) (Kx hk2) ?_;conv=>whnf)|fail)
 all_goals exact⟨(_,c9),h9,rfl,rfl,rfl,trivial⟩
theorem N5(a b:Int):aM av 77 [pI a,pI b] (rI (if a<b then a else b)):=by
 by_cases h:a<b
 ·have q:decide (a<b)=true:=by simpa using h
  rw[if_pos h];refine pO func77 call77 ntmps77 results77 λS=>?_;conv=>whnf
  repeat'(first|refine awz ?_|exact rZ|fail)
 ·have q:decide (a<b)=false:=by simpa using h
  rw[if_neg h];refine pO func77 call77 ntmps77 results77 λS=>?_;conv=>whnf
  repeat'(first|refine awz ?_|exact rZ|fail)
theorem sT(c:Cr)(n:Int)(hc:c.ok)(hn:5<=n/\n<=1000000000):de av 59 [.one (.ref 1000 0 0 0),.one (.d (dI n))] (crO c) Qd [1000] Oz [1000] OA:=by
 have q4:(if n<4 then n else 4)=4:=if_neg ac;have c4:=N5 n 4;rw[q4]at c4;refine aT aL func59 rfl call59 ntmps59 (WA results59) (λ_=>rfl) rfl (λ_=>rfl) λS pv=>?_;conv=>whnf
 repeat'(first|refine awz ?_|fail)
 refine TF (lz c 10 hc ac) [(1000,1000)] (true,c) (λ_=>rfl) rfl ⟨rfl,trivial⟩ λx hx=>?_;obtain⟨b1,c1⟩:=x;have h1:c1.ok:=hx.ok;cases b1 with
 |true=>
  (conv=>whnf)
  repeat'(first|refine awz ?_|(refine Tz ac ac ?_;conv=>whnf)|fail)
  refine TF (Hq c1 h1) [(1000,1000)] (0,c1) (λ_=>rfl) rfl ⟨rfl,trivial⟩ λz hz=>?_;(conv=>whnf)
  skip
  refine TF (bg z.2 4 hz ac) [(1000,1000)] (0,c1) (λ_=>rfl) rfl ⟨rfl,trivial⟩ λy hy=>?_;obtain⟨y1,c9⟩:=y;have h9:c9.ok:=hy.ok;obtain⟨k,hk⟩:∃k:Nat,y1=(k:Int):=⟨y1.toNat,by have:0<=y1:=hy.lo;omega⟩;have hk2:k< [-1,n,n+1,z.1].length:=by have:y1<4:=hy.hi;show k<4;omega
  (conv=>whnf)
  repeat'(first|refine awz ?_|(refine Ty k _ (by first|rfl|exact hk) (Kx hk2) ?_;conv=>whnf)|fail)
  all_goals exact⟨(_,c9),h9,rfl,rfl,rfl,trivial⟩
 |false=>
  (conv=>whnf)
  repeat'(first|refine awz ?_|fail)
  refine TF (lz c1 2 h1 ac) [(1000,1000)] (true,c) (λ_=>rfl) rfl ⟨rfl,trivial⟩ λx hx=>?_;obtain⟨b2,c2⟩:=x;have h2:c2.ok:=hx.ok;cases b2 with
  |true=>
   (conv=>whnf)
   repeat'((first|refine awz ?_|refine Tz ac ac ?_|refine cP (c4) ?_|refine TF (bg c2 (4+1) h2 ac) [(1000,1000)] (0,c1) (λ_=>rfl) rfl ⟨rfl,trivial⟩ λy hy=>?_|fail)<;>conv=>whnf)
   all_goals exact⟨y,hy.ok,rfl,rfl,rfl,trivial⟩
  |false=>
   (conv=>whnf)
   repeat'((first|refine awz ?_|refine Tz ac ac ?_|refine TF (bg c2 (n+1) h2 ac) [(1000,1000)] (0,c1) (λ_=>rfl) rfl ⟨rfl,trivial⟩ λy hy=>?_|fail)<;>conv=>whnf)
   all_goals exact⟨y,hy.ok,rfl,rfl,rfl,trivial⟩
structure Qn (n:Nat) (y:List Int×Cr):Prop where
 ok:y.2.ok
 len:y.1.length<=n
abbrev QQ(y:List Int×Cr):List (Nat×AO):=[(1000,y.2.o),(5,.row 2 1 (y.1.map eI))]
theorem E5(c:Cr)(hc:c.ok):de av 78 [.one (.ref 1000 0 0 0)] (crO c) (Qn 8) [1000,5] QQ [1000] (λ_=> .val (.one (.own 5))):=by
 refine aT aL func78 rfl call78 ntmps78 (WA results78) (λ_=>rfl) rfl (λ_=>rfl) λS pv=>?_;conv=>whnf
 repeat'(first|refine awz ?_|fail)
 refine TF (bg c 8 hc ac) [(1000,1000)] (0,c) (λ_=>rfl) rfl ⟨rfl,trivial⟩ λy hy=>?_;obtain⟨y1,c1⟩:=y;have h1:c1.ok:=hy.ok;have hy0:0<=y1:=hy.lo;have hy1:y1<8:=hy.hi;obtain⟨m,rfl⟩:∃m:Nat,y1=(m:Int):=⟨y1.toNat,ac⟩;(conv=>whnf)
 repeat'(first|refine awz ?_|fail)
 refine TE (λg:List Int×Cr×Nat=>g.2.1.ok/\g.1.length+g.2.2<=8) (5::[3,4,8,9,10,11,12,13,14,15,16]) (λg=>[(3,.one (.own 5)),(4,vI .i64 (g.2.2:Int))]) (λg=>[(9999,.frame (cE [1000]) pv),(1000,g.2.1.o),(5,.row 2 1 (g.1.map eI))]) (λg=>g.2.2) ([],c1,m) ⟨h1,by simp;omega⟩ ?_ sbW (λg hg=>?_)<;>(conv=>whnf)
 ·exact whd
 ·obtain⟨l,d,n⟩:=g;obtain⟨hd,hl⟩:=hg;simp only at hd hl;cases n with
  |zero=>
   repeat'(first|refine awz ?_|fail)
   all_goals exact⟨(l,d),⟨hd,by simp only;omega⟩,rfl,rfl,rfl,rfl,trivial⟩
  |succ n=>
   have q:decide (((n+1:Nat):Int)>0)=true:=by simp only[decide_eq_true_eq];omega
   have ew:IntKind.i64.wrap (((n+1:Nat):Int)-1)=(n:Int):=by rw[mH ac ac];omega
   repeat'(first|refine awz ?_|fail)
   refine TF (bg d 50 hd ac) [(1000,1000)] (0,c) (λ_=>rfl) rfl ⟨rfl,trivial⟩ λz hz=>?_;(conv=>whnf)
   repeat'((first|refine awz ?_|refine aQ ak ?_|refine Wh (n:Int) ew ?_|fail)<;>conv=>whnf)
   all_goals
    refine aW.mk ⟨(l++[z.1],z.2,n),⟨hz.ok,by simp;omega⟩,by show n<n+1;omega,?_,Tu rfl (Tu rfl (Tu (by rw[List.map_append];rfl) Tx))⟩;exact hds
abbrev QP(y:List Int×Cr):AR:= .val (.one (.d (.sl (y.1.map eI))))
abbrev QO(y:List Int×Cr):List (Nat×AO):=crO y.2
theorem E4(c:Cr)(hc:c.ok):de av 60 [.one (.ref 1000 0 0 0)] (crO c) (Qn 60) [1000] QO [1000] QP:=by
 refine aT aL func60 rfl call60 ntmps60 (WA results60) (λ_=>rfl) rfl (λ_=>rfl) λS pv=>?_;conv=>whnf
 repeat'(first|refine awz ?_|fail)
 refine TF (E5 c hc) [(1000,1000),(5,45)] ([],c) (λ_=>rfl) rfl ⟨rfl,trivial⟩ λx hx=>?_;obtain⟨l,c1⟩:=x;have h1:c1.ok:=hx.ok;have hl:l.length<=8:=hx.len;(conv=>whnf)
 repeat'(first|refine awz ?_|fail)
 refine TF (lz c1 6 h1 ac) [(1000,1000)] (true,c) (λ_=>rfl) rfl ⟨rfl,trivial⟩ λx hx=>?_;obtain⟨b1,c2⟩:=x;have h2:c2.ok:=hx.ok;cases b1 with
 |false=>
  (conv=>whnf)
  repeat'(first|refine awz ?_|fail)
  all_goals exact⟨(l,c2),⟨h2,by simp only;omega⟩,rfl,rfl,rfl,trivial⟩
 |true=>
  (conv=>whnf)
  repeat'(first|refine awz ?_|fail)
  refine TF (bg c2 3 h2 ac) [(1000,1000)] (0,c) (λ_=>rfl) rfl ⟨rfl,trivial⟩ λx hx=>?_;obtain⟨y1,c3⟩:=x;have h3:c3.ok:=hx.ok;(conv=>whnf)
  repeat'((first|refine awz ?_|refine aQ ak ?_|refine Tz ac ac ?_|(refine TF (sT c3 1000000000 h3 ac) [(1000,1000)] (0,c) (λ_=>rfl) rfl ⟨rfl,trivial⟩ λz hz=>?_;obtain⟨z1,c4⟩:=z)|(refine TF (Hq c3 h3) [(1000,1000)] (0,c) (λ_=>rfl) rfl ⟨rfl,trivial⟩ λz hz=>?_;obtain⟨z1,c4⟩:=z)|(refine TF (je c3 (-1) 1 h3 ac ac) [(1000,1000)] (0,c) (λ_=>rfl) rfl ⟨rfl,trivial⟩ λz hz=>?_;obtain⟨z1,c4⟩:=z;have z0: -1<=z1:=hz.lo;have zh:z1<=1:=hz.hi)|refine⟨(48+z1).toNat,ao,ao,Nat.le_trans (Nat.mul_le_mul_left _ (show(48+z1).toNat<=49 by omega)) ah,ac,?_⟩|refine tW ?_ ?_|intro h)<;>conv=>whnf)
  all_goals first
   |exact⟨(l,c3),⟨h3,by simp only;omega⟩,rfl,rfl,rfl,trivial⟩
   |exact⟨(l++[z1],c4),⟨hz,by simp;omega⟩,by show AR.val (.one (.d (.sl _)))=AR.val (.one (.d (.sl _)));rw[List.map_append];rfl,rfl,rfl,trivial⟩
   |exact⟨(List.replicate (48+z1).toNat 0,c4),⟨hz.ok,by simp;omega⟩,by show AR.val (.one (.d (.sl _)))=AR.val (.one (.d (.sl _)));rw[List.map_replicate];rfl,rfl,rfl,trivial⟩
structure Qp (y:DWant×Cr):Prop where
 ok:y.2.ok
 want:eC y.1=true
abbrev RX(y:DWant×Cr):List (Nat×AO):=crO y.2
abbrev RY(y:DWant×Cr):AR:= .val (.agg (y.1.ds.map .d))
theorem Bp(c:Cr)(hc:c.ok):de av 51 [.one (.ref 1000 0 0 0)] (crO c) Qp [1000] RX [1000] RY:=by
 refine aT aL func51 rfl call51 ntmps51 (WA results51) (λ_=>rfl) rfl (λ_=>rfl) λS pv=>?_;conv=>whnf
 repeat'(first|refine awz ?_|fail)
 refine TF (bg c 4 hc ac) [(1000,1000)] (0,c) (λ_=>rfl) rfl ⟨rfl,trivial⟩ λx hx=>?_;obtain⟨k,c1⟩:=x;have h1:c1.ok:=hx.ok;have k0:0<=k:=hx.lo;have k1:k<4:=hx.hi;(conv=>whnf)
 repeat'(first|refine awz ?_|fail)
 refine TF (bg c1 5 h1 ac) [(1000,1000)] (0,c) (λ_=>rfl) rfl ⟨rfl,trivial⟩ λx hx=>?_;obtain⟨y1,c2⟩:=x;have h2:c2.ok:=hx.ok;by_cases e2:y1=2
 ·have q0:(y1==0)=false:=by rw[e2];rfl
  have q1:(y1==1)=false:=by rw[e2];rfl
  have q2:(y1==2)=true:=by rw[e2];rfl
  (conv=>whnf)
  repeat'(first|refine awz ?_|fail)
  refine TF (bg c2 5 h2 ac) [(1000,1000)] (0,c) (λ_=>rfl) rfl ⟨rfl,trivial⟩ λx hx=>?_;obtain⟨a,c3⟩:=x;have h3:c3.ok:=hx.ok;have a0:0<=a:=hx.lo;have a1:a<5:=hx.hi;(conv=>whnf)
  repeat'(first|(refine Tz ac ac ?_;conv=>whnf)|fail)
  refine TF (bg c3 40 h3 ac) [(1000,1000)] (0,c) (λ_=>rfl) rfl ⟨rfl,trivial⟩ λx hx=>?_;obtain⟨b,c4⟩:=x;have h4:c4.ok:=hx.ok;have b0:0<=b:=hx.lo;have b1:b<40:=hx.hi;(conv=>whnf)
  skip
  refine TF (bg c4 100 h4 ac) [(1000,1000)] (0,c) (λ_=>rfl) rfl ⟨rfl,trivial⟩ λx hx=>?_;obtain⟨d,c5⟩:=x;have h5:c5.ok:=hx.ok;have d0:0<=d:=hx.lo;have d1:d<100:=hx.hi;(conv=>whnf)
  repeat'(first|refine awz ?_|fail)
  all_goals exact⟨(⟨3,⟨3,1+a,b,k,d⟩,0⟩,c5),⟨h5,by simp[eC,lT,aI];omega⟩,rfl,rfl,rfl,trivial⟩
 ·have q2:(y1==2)=false:=by simpa using e2
  (conv=>whnf)
  repeat'((first|refine awz ?_|(refine TF (bg c2 100 h2 ac) [(1000,1000)] (0,c) (λ_=>rfl) rfl ⟨rfl,trivial⟩ λz hz=>?_;obtain⟨b,c3⟩:=z;have b0:0<=b:=hz.lo;have b1:b<100:=hz.hi)|refine tW ?_ ?_|intro h)<;>conv=>whnf)
  all_goals first
   |exact⟨(⟨4,op0,k⟩,c2),⟨h2,by simp[eC,op0,aI];omega⟩,rfl,rfl,rfl,trivial⟩
   |exact⟨(⟨2,⟨2,k,0,0,0⟩,0⟩,c2),⟨h2,by simp[eC,lT,aI];omega⟩,rfl,rfl,rfl,trivial⟩
   |exact⟨(⟨1,⟨1,k,b,0,0⟩,0⟩,c3),⟨hz.ok,by simp[eC,lT,aI];omega⟩,rfl,rfl,rfl,trivial⟩
structure Qo (y:List DWant×Cr):Prop where
 ok:y.2.ok
 want:∀x∈y.1,eC x=true
 len:y.1.length<=5
abbrev Rf(y:List DWant×Cr):List (Nat×AO):=crO y.2
abbrev Rg(y:List DWant×Cr):AR:= .val (.one (.d (.sl (y.1.map DWant.ds))))
theorem jJ(c:Cr)(hc:c.ok):de av 29 [.one (.ref 1000 0 0 0)] (crO c) Qo [1000] Rf [1000] Rg:=by
 refine aT aL func29 rfl call29 ntmps29 (WA results29) (λ_=>rfl) rfl (λ_=>rfl) λS pv=>?_;conv=>whnf
 repeat'(first|refine awz ?_|fail)
 refine TF (bg c 5 hc ac) [(1000,1000)] (0,c) (λ_=>rfl) rfl ⟨rfl,trivial⟩ λy hy=>?_;obtain⟨y1,c1⟩:=y;have h1:c1.ok:=hy.ok;have hy0:0<=y1:=hy.lo;have hy1:y1<5:=hy.hi;obtain⟨m,rfl⟩:∃m:Nat,y1=(m:Int):=⟨y1.toNat,ac⟩;(conv=>whnf)
 repeat'(first|refine awz ?_|fail)
 refine TE (λg:List DWant×Cr×Nat=>g.2.1.ok/\g.1.length+g.2.2<=5/\∀x∈g.1,eC x=true) (5::[3,4,8,9,10,11,12,13,14,15,16]) (λg=>[(3,.one (.own 5)),(4,vI .i64 (g.2.2:Int))]) (λg=>[(9999,.frame (cE [1000]) pv),(1000,g.2.1.o),(5,.row 110 7 (g.1.map DWant.ds))]) (λg=>g.2.2) ([],c1,m) ⟨h1,by simp;omega,by simp⟩ ?_ sbW (λg hg=>?_)<;>(conv=>whnf)
 ·exact whd
 ·obtain⟨l,d,n⟩:=g;obtain⟨hd,hl,hw⟩:=hg;simp only at hd hl hw;cases n with
  |zero=>
   repeat'(first|refine awz ?_|fail)
   all_goals exact⟨(l,d),⟨hd,hw,by simp only;omega⟩,rfl,rfl,rfl,trivial⟩
  |succ n=>
   have q:decide (((n+1:Nat):Int)>0)=true:=by simp only[decide_eq_true_eq];omega
   have ew:IntKind.i64.wrap (((n+1:Nat):Int)-1)=(n:Int):=by rw[mH ac ac];omega
   repeat'(first|refine awz ?_|fail)
   refine TF (Bp d hd) [(1000,1000)] (⟨0,op0,0⟩,c) (λ_=>rfl) rfl ⟨rfl,trivial⟩ λz hz=>?_;(conv=>whnf)
   repeat'((first|refine awz ?_|refine aQ ak ?_|refine Wh (n:Int) ew ?_|fail)<;>conv=>whnf)
   all_goals
    refine aW.mk ⟨(l++[z.1],z.2,n),⟨hz.ok,by simp;omega,λx hx=>?_⟩,by show n<n+1;omega,?_,Tu rfl (Tu rfl (Tu (by rw[List.map_append];rfl) Tx))⟩
    ·rcases List.mem_append.1 hx with hx|hx
     ·exact hw x hx
     ·rw[List.mem_singleton.1 hx];exact hz.want
    ·exact hds
theorem KA{id:Int}(hi:id=4\/id=5){l:List DWant}(h:∀x∈l,eC x=true)(hl:l.length<=12):cr (dU id l)=true/\(dU id l).id=id:=by
 have hc:cr ⟨id,l,[],0⟩=true:=wK.ok ⟨hi,h,hl,by simp,by simp,rfl⟩;have e:dU id l=⟨id,l,[],0⟩:=by simp[dU,hc]
 rw[e];exact⟨hc,rfl⟩
theorem F5:bN it=true:=iW (jn (pi ac) ah ah (fx vh ah))
theorem KB{a b:List DWant}(ha:∀x∈a,eC x=true)(la:a.length<=12)(hb:∀x∈b,eC x=true)(lb:b.length<=12):bz (pk a b)=true:=by
 obtain⟨a1,a2⟩:=KA (.inl rfl) ha la;obtain⟨b1,b2⟩:=KA (.inr rfl) hb lb;have kd:=F5;have hl:logOk (pW ⟨it,it⟩)=true:=by
  refine kx.ok ⟨w8 (oC ⟨kd,kd,rfl⟩) rfl,by decide,by decide,rfl,rfl,rfl,by decide,by decide,rfl,by decide⟩
 have hs:storeOk vX=true:=ah;exact gG.ok ⟨rfl,rfl,rfl,rfl,rfl,a1,a2,b1,b2,rfl,rfl,hl,hs⟩
theorem yg(ann bob:List DWant)(ha:ann.length<=1000)(hb:bob.length<=1000)(hw:bz (pk ann bob)=true):aM av 30 [.one (.sl (ann.map DWant.ds)),.one (.sl (bob.map DWant.ds))] (.tup [.agg (pk ann bob).ds,.one (dB true)]):=by
 have hsm:=IO ann bob ha hb;have c1:=wh 4 ann ac;have c2:=wh 5 bob ac;refine pO func30 call30 ntmps30 results30 λS=>?_;conv=>whnf
 repeat'((first|refine awz ?_|refine cP (c1) ?_|refine cP (c2) ?_|exact rZ|refine tW ?_ ?_|intro h)<;>conv=>whnf)
 refine V5 [8,14,15,16,17,18,19,20,21,22] [(8,.one (.ref 8 0 0 0))] [(4,.cells 78 (uN.ds.map λd=>match d with| .pv v=> .d (.pv v)|_=> .nil)),(8,.cells 78 ((((pk ann bob).ds.map .d).set 71 (.own 21)).set 72 .nil)),(21,.row 2 1 (List.replicate 6 [dI 0]))] ?_ ?_<;>(conv=>whnf)
 ·(refine TD aL 3 (.take 4 (.take 5 (.three 0 (.three 1 (.three 2 (.three 3 (.three 6 (.two 7 (.two 8 (.one 9 (.one 10 .done)) 9 (.one 8 (.one 10 .done))) 9 (onc [7,8,10] .done)) 7 (.two 6 (.two 8 (.one 9 (.one 10 .done)) 9 (.one 8 (.one 10 .done))) 9 (onc [6,8,10] .done)) 9 (.two 6 (onc [7,8,10] .done) 7 (onc [6,8,10] .done))) 7 (.two 3 (.two 6 (.two 8 (.one 9 (.one 10 .done)) 9 (.one 8 (.one 10 .done))) 9 (onc [6,8,10] .done)) 9 (onc [3,6,8,10] .done)) 9 (.two 3 (.two 6 (onc [7,8,10] .done) 7 (onc [6,8,10] .done)) 7 (onc [3,6,8,10] .done))) 7 (.two 2 (.two 3 (.two 6 (.two 8 (.one 9 (.one 10 .done)) 9 (.one 8 (.one 10 .done))) 9 (onc [6,8,10] .done)) 9 (onc [3,6,8,10] .done)) 9 (onc [2,3,6,8,10] .done)) 9 (.two 2 (.two 3 (.two 6 (onc [7,8,10] .done) 7 (onc [6,8,10] .done)) 7 (onc [3,6,8,10] .done)) 7 (onc [2,3,6,8,10] .done))) 7 (.two 1 (.two 2 (.two 3 (.two 6 (.two 8 (.one 9 (.one 10 .done)) 9 (.one 8 (.one 10 .done))) 9 (onc [6,8,10] .done)) 9 (onc [3,6,8,10] .done)) 9 (onc [2,3,6,8,10] .done)) 9 (onc [1,2,3,6,8,10] .done)) 9 (.two 1 (.two 2 (.two 3 (.two 6 (onc [7,8,10] .done) 7 (onc [6,8,10] .done)) 7 (onc [3,6,8,10] .done)) 7 (onc [2,3,6,8,10] .done)) 7 (onc [1,2,3,6,8,10] .done))) 7 (.two 0 (.two 1 (.two 2 (.two 3 (.two 6 (.two 8 (.one 9 (.one 10 .done)) 9 (.one 8 (.one 10 .done))) 9 (onc [6,8,10] .done)) 9 (onc [3,6,8,10] .done)) 9 (onc [2,3,6,8,10] .done)) 9 (onc [1,2,3,6,8,10] .done)) 9 (onc [0,1,2,3,6,8,10] .done)) 9 (.two 0 (.two 1 (.two 2 (.two 3 (.two 6 (onc [7,8,10] .done) 7 (onc [6,8,10] .done)) 7 (onc [3,6,8,10] .done)) 7 (onc [2,3,6,8,10] .done)) 7 (onc [1,2,3,6,8,10] .done)) 7 (onc [0,1,2,3,6,8,10] .done))))) [(6,9980),(7,9981)] oL ae ae ae ae (λRz=>?_);(conv=>whnf);intro bp0 up0;(conv=>whnf);intro bp1 up1;(conv=>whnf))
  repeat'(first|refine awz ?_|((first|refine cP (Db) ?_|refine cP (yf) ?_|refine cP (sL) ?_|refine cP (sM) ?_|refine cP (Dc) ?_|refine⟨6,rfl,rfl,by decide,ac,?_⟩|fail)<;>conv=>whnf)|(exact And.intro whd sbW)|exact rZ|refine tW ?_ ?_|(intro h;conv=>whnf))
 ·have n1:(!bz (pk ann bob))=false:=by rw[hw];rfl
  repeat'(first|refine awz ?_|exact rZ|refine tW ?_ ?_|(intro h;conv=>whnf))
  refine TZ 8 72 930 4 1 ah ?_;conv=>whnf
  repeat'(first|refine awz ?_|exact rZ|refine tW ?_ ?_|(intro h;conv=>whnf))
  refine Ub 7 ?_;conv=>whnf
  repeat'((first|refine awz ?_|refine Tw ah ?_|refine Tv ah ?_|refine Tz ah ah ?_|refine aP (by first|(intro y hy;obtain⟨a,_,rfl⟩:=List.mem_map.1 hy;rfl)|(simp;done)) ?_|refine aQ an ?_|refine aG.scalar (cJ (pk ann bob) hsm) rfl rfl ?_|exact rZ|refine tW ?_ ?_|intro h)<;>conv=>whnf)
def rn:List (List Nat):=a8 [0,0,2,195,0,261,1597697,7,8,8,0x2892071851030811ca]
structure Qf (y:DWorld×Cr):Prop where
 ok:y.2.ok
 world:bz y.1=true
abbrev QC(y:DWorld×Cr):List (Nat×AO):=(1000,y.2.o)::wO y.1
abbrev QD(y:DWorld×Cr):AR:=wR y.1
theorem JO(c:Cr)(hc:c.ok):de av 58 [.one (.ref 1000 0 0 0)] (crO c) Qf [1000,41,42,43] QC [1000] QD:=by
 refine aT aL func58 rfl call58 ntmps58 (WA results58) (λ_=>rfl) rfl (λ_=>rfl) λS pv=>?_;conv=>whnf
 repeat'(first|refine awz ?_|exact rZ|refine tW ?_ ?_|(intro h;conv=>whnf))
 refine TF (jJ c hc) [(1000,1000)] ([],c) (λ_=>rfl) rfl ⟨rfl,trivial⟩ λx hx=>?_;obtain⟨a,c1⟩:=x;have h1:c1.ok:=hx.ok;have wa:∀x∈a,eC x=true:=hx.want;have la:a.length<=5:=hx.len;(conv=>whnf)
 repeat'(first|refine awz ?_|exact rZ|refine tW ?_ ?_|(intro h;conv=>whnf))
 refine TF (jJ c1 h1) [(1000,1000)] ([],c) (λ_=>rfl) rfl ⟨rfl,trivial⟩ λx hx=>?_;obtain⟨b,c2⟩:=x;have h2:c2.ok:=hx.ok;have wb:∀x∈b,eC x=true:=hx.want;have lb:b.length<=5:=hx.len;have hok:=KB wa ac wb ac;have nw:=yg a b ac ac hok;generalize pk a b=w at hok nw;(conv=>whnf)
 repeat'((first|refine awz ?_|refine cP (nw) ?_|exact rZ|refine tW ?_ ?_|intro h)<;>conv=>whnf)
 (refine TD aL 4 (.take 1 (.take 4 (.two 0 (onc [2,3,5,6] (tkc [7,8,9] (.one 10 .done))) 2 (.two 0 (onc [3,5,6] (tkc [7,8,9] (.one 10 .done))) 3 (.two 0 (.one 5 (.one 6 (tkc [7,8,9] (.one 10 .done)))) 5 (.one 0 (.one 6 (tkc [7,8,9] (.one 10 .done))))))))) [] rn ae ae ae ae (λRz=>?_);(conv=>whnf))
 repeat'((first|refine awz ?_|(refine TF (bg c2 1000000 h2 ac) [(1000,1000)] (0,c) (λ_=>rfl) rfl ⟨rfl,trivial⟩ λx hx=>?_;obtain⟨sd,c3⟩:=x;have h3:c3.ok:=hx.ok;have s0:0<=sd:=hx.lo;have s1:sd<1000000:=hx.hi;have hdi:gx sd:=⟨s0,ac⟩)|refine Tt (tu sd ⟨s0,ac⟩) rfl ?_|(refine TF (bg c3 50 h3 ac) [(1000,1000)] (0,c) (λ_=>rfl) rfl ⟨rfl,trivial⟩ λx hx=>?_;obtain⟨mm,c4⟩:=x;have h4:c4.ok:=hx.ok;have m0:0<=mm:=hx.lo;have m1:mm<50:=hx.hi;obtain⟨m,rfl⟩:∃m:Nat,mm=(m:Int):=⟨mm.toNat,ac⟩)|(refine TF (uW w sd m hok hdi ac) [(41,41),(42,42),(43,43)] ([],w) (λ_=>rfl) rfl trivial λz hz=>?_;obtain⟨ls,v⟩:=z)|exact rZ|refine tW ?_ ?_|intro h)<;>conv=>whnf)
 all_goals exact⟨(v,c4),⟨h4,hz.1⟩,rfl,rfl,rfl,rfl,rfl,rfl,trivial⟩
def nA:List (List Nat):=a8 [0,1,0,3,0,261,26736222277890,0x61440c2046187]
def nB:List (List Nat):=a8 [0,1,0,0,4,0,389,7,8,0x92071851030810c2,0x920718510308124a]
def mN:List (List Nat):=a8 [0,1,2,0,4,0,326,0,456,37317,10,37571,0x30b289207185103081,0xc2ca2481c61440c204d,0xc2ca2481c61440c204c30e]
structure Qe (y:DWorld×Cr):Prop where
 ok:y.2.ok
 small:DWorld.small 1048576 y.1
abbrev Qy(y:DWorld×Cr):List (Nat×AO):=crO y.2
abbrev Kj(y:DWorld×Cr):AR:= .val (.agg (y.1.ds.map .d))
theorem B4(c:Cr)(hc:c.ok):de av 31 [.one (.ref 1000 0 0 0)] (crO c) Qe [1000] Qy [1000] Kj:=by
 refine aT aL func31 rfl call31 ntmps31 (WA results31) (λ_=>rfl) rfl (λ_=>rfl) λS pv=>?_;conv=>whnf
 repeat'(first|refine awz ?_|exact rZ|refine tW ?_ ?_|(intro h;conv=>whnf))
 refine TF (JO c hc) [(1000,1000),(41,41),(42,42),(43,43)] (uN,c) (λ_=>rfl) rfl ⟨rfl,trivial⟩ λx hx=>?_;obtain⟨v,c1⟩:=x;have h1:c1.ok:=hx.ok;have hv:bz v=true:=hx.world;have f:=qQ hv;have hu6:=f.ul;obtain⟨hc6,_⟩:=j6 f.clocks;have hfl:=(cI f.net).1;obtain⟨s1,s2,s3,s4,s5,s6,s7,s8,s9⟩:=bp hv;(conv=>whnf)
 repeat'(first|refine awz ?_|exact rZ|refine tW ?_ ?_|(intro h;conv=>whnf))
 refine TF (lz c1 6 h1 ac) [(1000,1000)] (true,c) (λ_=>rfl) rfl ⟨rfl,trivial⟩ λx hx=>?_;obtain⟨b1,c2⟩:=x;have h2:c2.ok:=hx.ok;cases b1 with
 |false=>
  (conv=>whnf)
  repeat'((first|refine awz ?_|refine Tw ah ?_|refine Tv ah ?_|exact rZ|refine tW ?_ ?_|intro h)<;>conv=>whnf)
  all_goals exact⟨(v,c2),⟨h2,s1,s2,s3,s4,s5,s6,s7,s8,s9⟩,rfl,rfl,rfl,trivial⟩
 |true=>
  (conv=>whnf)
  repeat'((first|refine awz ?_|refine Tw ah ?_|refine Tv ah ?_|exact rZ|refine tW ?_ ?_|intro h)<;>conv=>whnf)
  refine TF (bg c2 8 h2 ac) [(1000,1000)] (0,c) (λ_=>rfl) rfl ⟨rfl,trivial⟩ λx hx=>?_;obtain⟨kd,c3⟩:=x;have h3:c3.ok:=hx.ok;have hk0:0<=kd:=hx.lo;have hk1:kd<8:=hx.hi;have e:kd=0\/kd=1\/kd=2\/kd=3\/kd=4\/kd=5\/kd=6\/kd=7:=ac;clear hk0 hk1 hx;rcases e with rfl|rfl|rfl|rfl|rfl|rfl|rfl|rfl
  ·(conv=>whnf)
   repeat'(first|((first|refine awz ?_|refine Tw ah ?_|refine Tv ah ?_|fail)<;>conv=>whnf)|(refine TD aL 5 (tkc [0,2,4] (.two 1 (onc [3,5,6,7] .done) 3 (.two 1 (onc [5,6,7] .done) 5 (onc [1,6,7] .done)))) [] nA ae ae ae ae (λRz=>?_);(conv=>whnf))|((first|(refine TF (bg c3 6 h3 ac) [(1000,1000)] (0,c) (λ_=>rfl) rfl ⟨rfl,trivial⟩ λx hx=>?_;obtain⟨i,c4⟩:=x;have h4:c4.ok:=hx.ok;have i0:0<=i:=hx.lo;have i1:i<6:=hx.hi;obtain⟨k,rfl⟩:∃k:Nat,i=(k:Int):=⟨i.toNat,ac⟩)|(refine TF (sT c4 1000000 h4 ac) [(1000,1000)] (0,c) (λ_=>rfl) rfl ⟨rfl,trivial⟩ λx hx=>?_;obtain⟨n,c5⟩:=x;have h5:c5.ok:=hx)|refine TJ (show k<v.clocks.length by omega) ?_|exact rZ|refine tW ?_ ?_|intro h)<;>conv=>whnf))
   all_goals
    have es:(v.clocks.set k n).map eI=(v.clocks.map eI).set k (eI n):=List.map_set ..;exact⟨({v with clocks:=v.clocks.set k n},c5),⟨h5,s1,s2,s3,s4,s5,s6,s7,by simpa using s8,s9⟩,by simp only[Kj,DWorld.ds,es];rfl,rfl,rfl,trivial⟩
  ·(conv=>whnf)
   repeat'(first|((first|refine awz ?_|refine Tw ah ?_|refine Tv ah ?_|(refine TF (bg c3 6 h3 ac) [(1000,1000)] (0,c) (λ_=>rfl) rfl ⟨rfl,trivial⟩ λx hx=>?_;obtain⟨i,c4⟩:=x;have h4:c4.ok:=hx.ok;have i0:0<=i:=hx.lo;have i1:i<6:=hx.hi;obtain⟨k,rfl⟩:∃k:Nat,i=(k:Int):=⟨i.toNat,ac⟩)|fail)<;>conv=>whnf)|(refine TD aL 8 (tkc [0,2,3,5] (.two 1 (onc [4,6,7,8,9,10] .done) 4 (.two 1 (onc [6,7,8,9,10] .done) 6 (.two 1 (onc [7,8,9,10] .done) 7 (.two 1 (onc [8,9,10] .done) 8 (onc [1,9,10] .done)))))) [] nB ae ae ae ae (λRz=>?_);(conv=>whnf))|((first|refine TJ (show k<v.up.length by omega) ?_|exact rZ|refine tW ?_ ?_|intro h)<;>conv=>whnf))
   all_goals
    have es:(v.up.set k (!v.up[k]'(ac))).map eB=(v.up.map eB).set k (eB (!v.up[k]'(ac))):=List.map_set ..;exact⟨({v with up:=v.up.set k (!v.up[k]'(ac))},c4),⟨h4,s1,s2,s3,s4,s5,s6,s7,s8,by simpa using s9⟩,by simp only[Kj,DWorld.ds,es];rfl,rfl,rfl,trivial⟩
  ·have e1:List.drop 1 (List.take v.up.length (v.up.map eB))=(v.up.drop 1).map eB:=by rw[List.take_of_length_le ai,List.map_drop]
   (conv=>whnf)
   repeat'(first|((first|refine Ug (rid:=10) aL 0 43 4 1 (v.up.map eB) ?_|refine awz ?_|refine Tw ah ?_|refine Tv ah ?_|fail)<;>conv=>whnf)|(refine⟨1,v.up.length,rfl,(by simp[rW]),ac,ai,(λx hx=>by obtain⟨a,_,rfl⟩:=List.mem_map.1 hx;rfl),?_⟩;conv=>whnf;rw[e1])|((first|exact rZ|refine tW ?_ ?_|intro h)<;>conv=>whnf))
   all_goals exact⟨({v with up:=v.up.drop 1},c3),⟨h3,s1,s2,s3,s4,s5,s6,s7,s8,by simp only[List.length_drop];omega⟩,rfl,rfl,rfl,trivial⟩
  ·(conv=>whnf)
   repeat'((first|refine awz ?_|refine Tw ah ?_|refine Tv ah ?_|(refine TF (sT c3 9 h3 ac) [(1000,1000)] (0,c) (λ_=>rfl) rfl ⟨rfl,trivial⟩ λx hx=>?_;obtain⟨n,c4⟩:=x;have h4:c4.ok:=hx)|exact rZ|refine tW ?_ ?_|intro h)<;>conv=>whnf)
   all_goals exact⟨({v with log:={v.log with durable:=n}},c4),⟨h4,s1,s2,s3,s4,s5,s6,s7,s8,s9⟩,rfl,rfl,rfl,trivial⟩
  ·(conv=>whnf)
   repeat'((first|refine awz ?_|refine Tw ah ?_|refine Tv ah ?_|(refine TF (sT c3 9 h3 ac) [(1000,1000)] (0,c) (λ_=>rfl) rfl ⟨rfl,trivial⟩ λx hx=>?_;obtain⟨n,c4⟩:=x;have h4:c4.ok:=hx)|exact rZ|refine tW ?_ ?_|intro h)<;>conv=>whnf)
   all_goals exact⟨({v with store:={v.store with busy:=n}},c4),⟨h4,s1,s2,s3,s4,s5,s6,s7,s8,s9⟩,rfl,rfl,rfl,trivial⟩
  ·(conv=>whnf)
   repeat'((first|refine awz ?_|refine Tw ah ?_|refine Tv ah ?_|(refine TF (je c3 1 4 h3 ac ac) [(1000,1000)] (0,c) (λ_=>rfl) rfl ⟨rfl,trivial⟩ λx hx=>?_;obtain⟨n,c4⟩:=x;have h4:c4.ok:=hx.ok)|exact rZ|refine tW ?_ ?_|intro h)<;>conv=>whnf)
   all_goals exact⟨({v with left:={v.left with id:=n}},c4),⟨h4,s1,s2,s3,s4,s5,s6,s7,s8,s9⟩,rfl,rfl,rfl,trivial⟩
  ·(conv=>whnf)
   repeat'((first|refine awz ?_|refine Tw ah ?_|refine Tv ah ?_|(refine TF (sT c3 9 h3 ac) [(1000,1000)] (0,c) (λ_=>rfl) rfl ⟨rfl,trivial⟩ λx hx=>?_;obtain⟨n,c4⟩:=x;have h4:c4.ok:=hx)|exact rZ|refine tW ?_ ?_|intro h)<;>conv=>whnf)
   all_goals exact⟨({v with bob:={v.bob with last:=n}},c4),⟨h4,s1,s2,s3,s4,s5,s6,s7,s8,s9⟩,rfl,rfl,rfl,trivial⟩
  ·(conv=>whnf)
   repeat'(first|((first|refine awz ?_|refine Tw ah ?_|refine Tv ah ?_|fail)<;>conv=>whnf)|(refine TD aL 20 (tkc [0,1,3,5,7] (.two 2 (onc [4,6,8,9,10,11] (.take 12 (.take 13 (.one 14 .done)))) 4 (.two 2 (onc [6,8,9,10,11] (.take 12 (.take 13 (.one 14 .done)))) 6 (.two 2 (onc [8,9,10,11] (.take 12 (.take 13 (.one 14 .done)))) 8 (.two 2 (onc [9,10,11] (.take 12 (.take 13 (.one 14 .done)))) 9 (.two 2 (.one 10 (.one 11 (.take 12 (.take 13 (.one 14 .done))))) 10 (.one 2 (.one 11 (.take 12 (.take 13 (.one 14 .done))))))))))) [] mN ae ae ae ae (λRz=>?_);(conv=>whnf))|((first|(refine TF (je c3 (-1) 6 h3 ac ac) [(1000,1000)] (0,c) (λ_=>rfl) rfl ⟨rfl,trivial⟩ λx hx=>?_;obtain⟨a,c4⟩:=x;have h4:c4.ok:=hx.ok)|(refine TF (je c4 (-1) 6 h4 ac ac) [(1000,1000)] (0,c) (λ_=>rfl) rfl ⟨rfl,trivial⟩ λx hx=>?_;obtain⟨b,c5⟩:=x;have h5:c5.ok:=hx.ok)|(refine TF (E4 c5 h5) [(1000,1000)] ([],c) (λ_=>rfl) rfl ⟨rfl,trivial⟩ λx hx=>?_;obtain⟨r,c6⟩:=x;have h6:c6.ok:=hx.ok;have hr:r.length<=60:=hx.len)|refine aP (by first|(intro y hy;obtain⟨a,_,rfl⟩:=List.mem_map.1 hy;rfl)|(simp;done)) ?_|refine aQ an ?_|exact rZ|refine tW ?_ ?_|intro h)<;>conv=>whnf))
   all_goals
    have es:(v.net.flight++[(⟨a,b,r⟩:DMsg)]).map DMsg.ds=v.net.flight.map DMsg.ds++[[dI a,dI b,.sl (r.map eI)]]:=by rw[List.map_append];rfl
    have sm:∀m∈v.net.flight++[(⟨a,b,r⟩:DMsg)],DMsg.small 1048576 m:=λm hm=>by
     rcases List.mem_append.1 hm with hm|hm
     ·exact s7.2.1 m hm
     ·rw[List.mem_singleton.1 hm];show r.length<=1048576;omega
    exact⟨({v with net:=⟨v.net.flight++[⟨a,b,r⟩],v.net.cuts⟩},c6),⟨h6,s1,s2,s3,s4,s5,s6,⟨by simp;omega,sm,s7.2.2⟩,s8,s9⟩,by simp only[Kj,DWorld.ds,es];rfl,rfl,rfl,trivial⟩
def gN:List (List Nat):=a8 [0,0,2,195,0,261,1597697,7,8,8,0,0x2c92071851030811c9,0xc2ca2481c61440c204c28b]
theorem Hg(w:DWorld)(d m:Int)(hs:DWorld.small 1048576 w)(hw:bz w=false):aM av 32 [.agg w.ds,.agg [dI d],pI m] (.tup [.one (.sl []),.agg uN.ds]):=by
 have wo:=cJ w hs;rw[hw]at wo;refine pO func32 call32 ntmps32 results32 λS=>?_;conv=>whnf
 repeat'((first|refine awz ?_|refine cP (wo) ?_|refine Tw ah ?_|refine Tv ah ?_|exact rZ|refine tW ?_ ?_|intro h)<;>conv=>whnf)
structure R8 (y:DWorld×List DStep×Cr):Prop where
 ok:y.2.2.ok
 len:y.2.1.length<=600
 fates:∀s∈y.2.1,s.fates.length<=12
abbrev Sw(y:DWorld×List DStep×Cr):List (Nat×AO):=crO y.2.2
abbrev Sx(y:DWorld×List DStep×Cr):AR:= .tup [.agg (y.1.ds.map .d),.one (.d (.sl (y.2.1.map DStep.dsW)))]
theorem JR(c:Cr)(hc:c.ok):de av 13 [.one (.ref 1000 0 0 0)] (crO c) R8 [1000] Sw [1000] Sx:=by
 refine aT aL func13 rfl call13 ntmps13 (WA results13) (λ_=>rfl) rfl (λ_=>rfl) λS pv=>?_;conv=>whnf
 repeat'(first|refine awz ?_|exact rZ|refine tW ?_ ?_|(intro h;conv=>whnf))
 refine TF (jJ c hc) [(1000,1000)] ([],c) (λ_=>rfl) rfl ⟨rfl,trivial⟩ λx hx=>?_;obtain⟨a,c1⟩:=x;have h1:c1.ok:=hx.ok;have wa:∀x∈a,eC x=true:=hx.want;have la:a.length<=5:=hx.len;(conv=>whnf)
 repeat'(first|refine awz ?_|exact rZ|refine tW ?_ ?_|(intro h;conv=>whnf))
 refine TF (jJ c1 h1) [(1000,1000)] ([],c) (λ_=>rfl) rfl ⟨rfl,trivial⟩ λx hx=>?_;obtain⟨b,c0⟩:=x;have h0:c0.ok:=hx.ok;have wb:∀x∈b,eC x=true:=hx.want;have lb:b.length<=5:=hx.len;have hok:=KB wa ac wb ac;have nw:=yg a b ac ac hok;generalize pk a b=w at hok nw;(conv=>whnf)
 repeat'((first|refine awz ?_|refine cP (nw) ?_|exact rZ|refine tW ?_ ?_|intro h)<;>conv=>whnf)
 refine TF (lz c0 6 h0 ac) [(1000,1000)] (true,c) (λ_=>rfl) rfl ⟨rfl,trivial⟩ λx hx=>?_;obtain⟨b1,c2⟩:=x;have h2:c2.ok:=hx.ok;cases b1 with
 |false=>
  (conv=>whnf)
  repeat'(first|((first|refine awz ?_|refine Tw ah ?_|refine Tv ah ?_|fail)<;>conv=>whnf)|(refine TD aL 6 (.take 1 (.take 4 (.three 0 (.two 2 (.two 3 (.two 5 (.two 6 (tkc [7,8,9] (.one 10 (.take 11 (.one 12 .done)))) 10 (.one 6 (tkc [7,8,9,11] (.one 12 .done)))) 10 (.one 5 (.one 6 (tkc [7,8,9,11] (.one 12 .done))))) 10 (onc [3,5,6] (tkc [7,8,9,11] (.one 12 .done)))) 10 (onc [2,3,5,6] (tkc [7,8,9,11] (.one 12 .done)))) 2 (.three 0 (.two 3 (.two 5 (.two 6 (tkc [7,8,9] (.one 10 (.take 11 (.one 12 .done)))) 10 (.one 6 (tkc [7,8,9,11] (.one 12 .done)))) 10 (.one 5 (.one 6 (tkc [7,8,9,11] (.one 12 .done))))) 10 (onc [3,5,6] (tkc [7,8,9,11] (.one 12 .done)))) 3 (.three 0 (.two 5 (.two 6 (tkc [7,8,9] (.one 10 (.take 11 (.one 12 .done)))) 10 (.one 6 (tkc [7,8,9,11] (.one 12 .done)))) 10 (.one 5 (.one 6 (tkc [7,8,9,11] (.one 12 .done))))) 5 (.two 0 (.two 6 (tkc [7,8,9] (.one 10 (.take 11 (.one 12 .done)))) 10 (.one 6 (tkc [7,8,9,11] (.one 12 .done)))) 10 (.one 0 (.one 6 (tkc [7,8,9,11] (.one 12 .done))))) 10 (.two 0 (.one 5 (.one 6 (tkc [7,8,9,11] (.one 12 .done)))) 5 (.one 0 (.one 6 (tkc [7,8,9,11] (.one 12 .done)))))) 10 (.two 0 (onc [3,5,6] (tkc [7,8,9,11] (.one 12 .done))) 3 (.two 0 (.one 5 (.one 6 (tkc [7,8,9,11] (.one 12 .done)))) 5 (.one 0 (.one 6 (tkc [7,8,9,11] (.one 12 .done))))))) 10 (.two 0 (onc [2,3,5,6] (tkc [7,8,9,11] (.one 12 .done))) 2 (.two 0 (onc [3,5,6] (tkc [7,8,9,11] (.one 12 .done))) 3 (.two 0 (.one 5 (.one 6 (tkc [7,8,9,11] (.one 12 .done)))) 5 (.one 0 (.one 6 (tkc [7,8,9,11] (.one 12 .done)))))))))) [] gN ae ae ae ae (λRz=>?_);(conv=>whnf))|((first|(refine TF (bg c2 1000000 h2 ac) [(1000,1000)] (0,c) (λ_=>rfl) rfl ⟨rfl,trivial⟩ λx hx=>?_;obtain⟨sd,c3⟩:=x;have h3:c3.ok:=hx.ok;have s0:0<=sd:=hx.lo;have s1:sd<1000000:=hx.hi;have hdi:gx sd:=⟨s0,ac⟩)|refine Tt (tu sd ⟨s0,ac⟩) rfl ?_|(refine TF (bg c3 25 h3 ac) [(1000,1000)] (0,c) (λ_=>rfl) rfl ⟨rfl,trivial⟩ λx hx=>?_;obtain⟨mm,c4⟩:=x;have h4:c4.ok:=hx.ok;have m0:0<=mm:=hx.lo;have m1:mm<25:=hx.hi;obtain⟨m,rfl⟩:∃m:Nat,mm=(m:Int):=⟨mm.toNat,ac⟩)|(refine TF (uW w sd m hok hdi ac) [(41,41),(42,42),(43,43)] ([],w) (λ_=>rfl) rfl trivial λz hz=>?_;obtain⟨ls,v⟩:=z)|exact rZ|refine tW ?_ ?_|intro h)<;>conv=>whnf))
  all_goals exact⟨(w,ls,c4),⟨h4,hz.2.1,hz.2.2⟩,rfl,rfl,rfl,trivial⟩
 |true=>
  (conv=>whnf)
  repeat'((first|refine awz ?_|refine Tw ah ?_|refine Tv ah ?_|exact rZ|refine tW ?_ ?_|intro h)<;>conv=>whnf)
  refine TF (B4 c2 h2) [(1000,1000)] (uN,c) (λ_=>rfl) rfl ⟨rfl,trivial⟩ λx hx=>?_;clear h2 hok nw;obtain⟨w,c2⟩:=x;have h2:c2.ok:=hx.ok;have hsm:DWorld.small 1048576 w:=hx.small;cases hok:bz w with
  |true=>
   (conv=>whnf)
   repeat'(first|((first|refine awz ?_|refine Tw ah ?_|refine Tv ah ?_|fail)<;>conv=>whnf)|(refine TD aL 6 (.take 1 (.take 4 (.three 0 (.two 2 (.two 3 (.two 5 (.two 6 (tkc [7,8,9] (.one 10 (.take 11 (.one 12 .done)))) 10 (.one 6 (tkc [7,8,9,11] (.one 12 .done)))) 10 (.one 5 (.one 6 (tkc [7,8,9,11] (.one 12 .done))))) 10 (onc [3,5,6] (tkc [7,8,9,11] (.one 12 .done)))) 10 (onc [2,3,5,6] (tkc [7,8,9,11] (.one 12 .done)))) 2 (.three 0 (.two 3 (.two 5 (.two 6 (tkc [7,8,9] (.one 10 (.take 11 (.one 12 .done)))) 10 (.one 6 (tkc [7,8,9,11] (.one 12 .done)))) 10 (.one 5 (.one 6 (tkc [7,8,9,11] (.one 12 .done))))) 10 (onc [3,5,6] (tkc [7,8,9,11] (.one 12 .done)))) 3 (.three 0 (.two 5 (.two 6 (tkc [7,8,9] (.one 10 (.take 11 (.one 12 .done)))) 10 (.one 6 (tkc [7,8,9,11] (.one 12 .done)))) 10 (.one 5 (.one 6 (tkc [7,8,9,11] (.one 12 .done))))) 5 (.two 0 (.two 6 (tkc [7,8,9] (.one 10 (.take 11 (.one 12 .done)))) 10 (.one 6 (tkc [7,8,9,11] (.one 12 .done)))) 10 (.one 0 (.one 6 (tkc [7,8,9,11] (.one 12 .done))))) 10 (.two 0 (.one 5 (.one 6 (tkc [7,8,9,11] (.one 12 .done)))) 5 (.one 0 (.one 6 (tkc [7,8,9,11] (.one 12 .done)))))) 10 (.two 0 (onc [3,5,6] (tkc [7,8,9,11] (.one 12 .done))) 3 (.two 0 (.one 5 (.one 6 (tkc [7,8,9,11] (.one 12 .done)))) 5 (.one 0 (.one 6 (tkc [7,8,9,11] (.one 12 .done))))))) 10 (.two 0 (onc [2,3,5,6] (tkc [7,8,9,11] (.one 12 .done))) 2 (.two 0 (onc [3,5,6] (tkc [7,8,9,11] (.one 12 .done))) 3 (.two 0 (.one 5 (.one 6 (tkc [7,8,9,11] (.one 12 .done)))) 5 (.one 0 (.one 6 (tkc [7,8,9,11] (.one 12 .done)))))))))) [] gN ae ae ae ae (λRz=>?_);(conv=>whnf))|((first|(refine TF (bg c2 1000000 h2 ac) [(1000,1000)] (0,c) (λ_=>rfl) rfl ⟨rfl,trivial⟩ λx hx=>?_;obtain⟨sd,c3⟩:=x;have h3:c3.ok:=hx.ok;have s0:0<=sd:=hx.lo;have s1:sd<1000000:=hx.hi;have hdi:gx sd:=⟨s0,ac⟩)|refine Tt (tu sd ⟨s0,ac⟩) rfl ?_|(refine TF (bg c3 25 h3 ac) [(1000,1000)] (0,c) (λ_=>rfl) rfl ⟨rfl,trivial⟩ λx hx=>?_;obtain⟨mm,c4⟩:=x;have h4:c4.ok:=hx.ok;have m0:0<=mm:=hx.lo;have m1:mm<25:=hx.hi;obtain⟨m,rfl⟩:∃m:Nat,mm=(m:Int):=⟨mm.toNat,ac⟩)|(refine TF (uW w sd m hok hdi ac) [(41,41),(42,42),(43,43)] ([],w) (λ_=>rfl) rfl trivial λz hz=>?_;obtain⟨ls,v⟩:=z)|exact rZ|refine tW ?_ ?_|intro h)<;>conv=>whnf))
   all_goals exact⟨(w,ls,c4),⟨h4,hz.2.1,hz.2.2⟩,rfl,rfl,rfl,trivial⟩
  |false=>
   (conv=>whnf)
   repeat'(first|((first|refine awz ?_|refine Tw ah ?_|refine Tv ah ?_|fail)<;>conv=>whnf)|(refine TD aL 6 (.take 1 (.take 4 (.three 0 (.two 2 (.two 3 (.two 5 (.two 6 (tkc [7,8,9] (.one 10 (.take 11 (.one 12 .done)))) 10 (.one 6 (tkc [7,8,9,11] (.one 12 .done)))) 10 (.one 5 (.one 6 (tkc [7,8,9,11] (.one 12 .done))))) 10 (onc [3,5,6] (tkc [7,8,9,11] (.one 12 .done)))) 10 (onc [2,3,5,6] (tkc [7,8,9,11] (.one 12 .done)))) 2 (.three 0 (.two 3 (.two 5 (.two 6 (tkc [7,8,9] (.one 10 (.take 11 (.one 12 .done)))) 10 (.one 6 (tkc [7,8,9,11] (.one 12 .done)))) 10 (.one 5 (.one 6 (tkc [7,8,9,11] (.one 12 .done))))) 10 (onc [3,5,6] (tkc [7,8,9,11] (.one 12 .done)))) 3 (.three 0 (.two 5 (.two 6 (tkc [7,8,9] (.one 10 (.take 11 (.one 12 .done)))) 10 (.one 6 (tkc [7,8,9,11] (.one 12 .done)))) 10 (.one 5 (.one 6 (tkc [7,8,9,11] (.one 12 .done))))) 5 (.two 0 (.two 6 (tkc [7,8,9] (.one 10 (.take 11 (.one 12 .done)))) 10 (.one 6 (tkc [7,8,9,11] (.one 12 .done)))) 10 (.one 0 (.one 6 (tkc [7,8,9,11] (.one 12 .done))))) 10 (.two 0 (.one 5 (.one 6 (tkc [7,8,9,11] (.one 12 .done)))) 5 (.one 0 (.one 6 (tkc [7,8,9,11] (.one 12 .done)))))) 10 (.two 0 (onc [3,5,6] (tkc [7,8,9,11] (.one 12 .done))) 3 (.two 0 (.one 5 (.one 6 (tkc [7,8,9,11] (.one 12 .done)))) 5 (.one 0 (.one 6 (tkc [7,8,9,11] (.one 12 .done))))))) 10 (.two 0 (onc [2,3,5,6] (tkc [7,8,9,11] (.one 12 .done))) 2 (.two 0 (onc [3,5,6] (tkc [7,8,9,11] (.one 12 .done))) 3 (.two 0 (.one 5 (.one 6 (tkc [7,8,9,11] (.one 12 .done)))) 5 (.one 0 (.one 6 (tkc [7,8,9,11] (.one 12 .done)))))))))) [] gN ae ae ae ae (λRz=>?_);(conv=>whnf))|((first|(refine TF (bg c2 1000000 h2 ac) [(1000,1000)] (0,c) (λ_=>rfl) rfl ⟨rfl,trivial⟩ λx hx=>?_;obtain⟨sd,c3⟩:=x;have h3:c3.ok:=hx.ok;have s0:0<=sd:=hx.lo;have s1:sd<1000000:=hx.hi;have hdi:gx sd:=⟨s0,ac⟩)|refine Tt (tu sd ⟨s0,ac⟩) rfl ?_|(refine TF (bg c3 25 h3 ac) [(1000,1000)] (0,c) (λ_=>rfl) rfl ⟨rfl,trivial⟩ λx hx=>?_;obtain⟨mm,c4⟩:=x;have h4:c4.ok:=hx.ok;have m0:0<=mm:=hx.lo;have m1:mm<25:=hx.hi;obtain⟨m,rfl⟩:∃m:Nat,mm=(m:Int):=⟨mm.toNat,ac⟩)|refine Tt (Hg w sd m hsm hok) rfl ?_|exact rZ|refine tW ?_ ?_|intro h)<;>conv=>whnf))
   all_goals exact⟨(w,[],c4),⟨h4,by simp,by simp⟩,rfl,rfl,rfl,trivial⟩
def K8:DStep:=⟨0,0,0,0,[]⟩
structure PB (y:List DStep×Int×Int):Prop where
 len:y.1.length<=600
 fates:∀s∈y.1,s.fates.length<=12
 lo: -1<=y.2.1
 hi:y.2.1<=(y.1.length:Int)+1
 k0: -1<=y.2.2
 k1:y.2.2<=14
theorem xj(b:List Int)(hb:Ni b):bq av 5 [.one (.sl (b.map eU))] PB (λy=> .tup [.one (.sl (y.1.map DStep.dsW)),.one (dI y.2.1),.one (dI y.2.2)]):=by
 have hc:(Cr.mk b 0).ok:=⟨hb.1,Nat.zero_le _,hb.2⟩;generalize hcr:Cr.mk b 0=c at hc;have cn:=N6 b hb;rw[hcr]at cn;refine aO aL func5 rfl call5 ntmps5 (WA results5) λS=>?_;conv=>whnf
 repeat'((first|refine awz ?_|refine TA cn [(27,70)] rfl rfl ?_|exact rZ|refine tW ?_ ?_|intro h)<;>conv=>whnf)
 refine TF (JR c hc) [(1000,70)] (uN,[],c) (λ_=>rfl) rfl ⟨rfl,trivial⟩ λx hx=>?_;obtain⟨w,l,c1⟩:=x;have h1:c1.ok:=hx.ok;have hl:l.length<=600:=hx.len;have hfs:∀s∈l,s.fates.length<=12:=hx.fates;(conv=>whnf)
 repeat'(first|refine awz ?_|exact rZ|refine tW ?_ ?_|(intro h;conv=>whnf))
 refine TF (lz c1 20 h1 ac) [(1000,70)] (true,c) (λ_=>rfl) rfl ⟨rfl,trivial⟩ λx hx=>?_;obtain⟨b1,c2⟩:=x;have h2:c2.ok:=hx.ok;cases b1 with
 |false=>
  (conv=>whnf)
  repeat'((first|refine awz ?_|refine Tw ah ?_|refine Tv ah ?_|refine Tz aj aj ?_|(refine TF (je c2 (-1) (((l.map DStep.dsW).length:Int)+1) h2 aj aj) [(1000,70)] (0,c) (λ_=>rfl) rfl ⟨rfl,trivial⟩ λx hx=>?_;obtain⟨p,c3⟩:=x;have h3:c3.ok:=hx.ok;have p0: -1<=p:=hx.lo;have p1:p<=((l.map DStep.dsW).length:Int)+1:=hx.hi)|(refine TF (je c3 (-1) 14 h3 ac ac) [(1000,70)] (0,c) (λ_=>rfl) rfl ⟨rfl,trivial⟩ λx hx=>?_;obtain⟨q,c4⟩:=x;have q0: -1<=q:=hx.lo;have q1:q<=14:=hx.hi)|exact rZ|refine tW ?_ ?_|intro h)<;>conv=>whnf)
  all_goals
   rw[List.length_map]at p1;exact⟨(l,p,q),⟨hl,hfs,p0,p1,q0,q1⟩,rfl⟩
 |true=>
  (conv=>whnf)
  repeat'((first|refine awz ?_|refine Tw ah ?_|refine Tv ah ?_|exact rZ|refine tW ?_ ?_|intro h)<;>conv=>whnf)
  refine TF (bg c2 5 h2 ac) [(1000,70)] (0,c) (λ_=>rfl) rfl ⟨rfl,trivial⟩ λx hx=>?_;obtain⟨n,c9⟩:=x;have h9:c9.ok:=hx.ok;have n0:0<=n:=hx.lo;have n1:n<5:=hx.hi;(conv=>whnf)
  repeat'((first|refine awz ?_|refine Tw ah ?_|refine Tv ah ?_|refine Tz ac ac ?_|exact rZ|refine tW ?_ ?_|intro h)<;>conv=>whnf)
  refine⟨(600-n).toNat,ao,ao,Nat.le_trans (Nat.mul_le_mul_left _ (show(600-n).toNat<=600 by omega)) ah,ac,?_⟩;(conv=>whnf)
  repeat'((first|refine awz ?_|refine Tw ah ?_|refine Tv ah ?_|refine Tz ax ax ?_|(refine TF (je c9 (-1) (((List.replicate (600-n).toNat K8.dsW).length:Int)+1) h9 ax ax) [(1000,70)] (0,c) (λ_=>rfl) rfl ⟨rfl,trivial⟩ λx hx=>?_;obtain⟨p,c3⟩:=x;have h3:c3.ok:=hx.ok;have p0: -1<=p:=hx.lo;have p1:p<=((List.replicate (600-n).toNat K8.dsW).length:Int)+1:=hx.hi)|(refine TF (je c3 (-1) 14 h3 ac ac) [(1000,70)] (0,c) (λ_=>rfl) rfl ⟨rfl,trivial⟩ λx hx=>?_;obtain⟨q,c4⟩:=x;have q0: -1<=q:=hx.lo;have q1:q<=14:=hx.hi)|exact rZ|refine tW ?_ ?_|intro h)<;>conv=>whnf)
  all_goals
   rw[List.length_replicate]at p1;exact⟨(List.replicate (600-n).toNat K8,p,q),⟨by simp;omega,λs hs=>(by rw[(List.mem_replicate.1 hs).2];simp[K8]),p0,by simp only[List.length_replicate];exact p1,q0,q1⟩,by show AP.tup [.one (.sl _),_,_]=AP.tup [.one (.sl _),_,_];rw[List.map_replicate];rfl⟩
section
section
variable {E:a6}
abbrev Sj:AD:= .pv (.slice none 0 0)
def Qs(v:AV)(b:Bool):Prop:=(v= .one (.d Sj)/\b=true)\/(v= .one .nil/\b=true)\/(∃x y xs,v= .one (.d (.sl ((x::y)::xs)))/\b=false)
theorem Uj{S:bj}{o:Oper}{st:ASt}{K:ASt->Prop}{t e:TypeId}{x:Operand}{p:TypeId}(b:Bool)(ho:o.op= .binOp .eql t x (.const (.slice none 0 0)) p)(ht:E.P.underlying t=some (.slice e))
  (hx:aEv st x λv=>Qs v b) (hk:eT st o.dst (vB b) K):AOp E S o st K:=by
 refine .reads λZ ρ a w hsim=>?_;obtain⟨v,hv,hx⟩:=a7 hsim hx;have key:∃A l c,a.eval x= .slice A l c/\A.isNone=b:=by
  rcases hx with⟨rfl,rfl⟩|⟨rfl,rfl⟩|⟨y,ys,xs,rfl,rfl⟩
  ·cases hv with|one _ _ hv=>
    have:a.eval x= .slice none 0 0:=NU hv;exact⟨_,_,_,this,rfl⟩
  ·cases hv with|one _ _ hv=>exact⟨_,_,_,hv,rfl⟩
  ·cases hv with|one _ _ hv=>
    have hv:bK Z w (.sl ((y::ys)::xs)) (a.eval x):=hv;generalize a.eval x=u at hv;cases hv with
    |sl _ A cap s us h1 h2 h3 h4 h5 h6 h7=>
     refine⟨_,_,_,rfl,?_⟩;rcases h6 with h6|⟨b,off,rfl,_⟩
     ·exfalso;have hs:s=ys.length+1:=(h4 (y::ys) ai).symm;match us,h3 with
      |u::r,_=>
       have:=h5 u ai;rw[List.flatten_cons,List.append_eq_nil_iff]at h6;rw[h6.1,hs]at this;simp at this
     ·rfl
 obtain⟨A,l,c,e1,e2⟩:=key;refine⟨_,.bool b,cC rfl,?_,hk⟩;have hb:(binOp .eql t (.slice A l c) (.slice none 0 0)).run E.P w= .ok (.bool b) w:=by
  simp only[binOp];simp[run_equal_slice_nil w t e A l c ht,e2]
 have hc:a.eval (.const (.slice none 0 0))= .slice none 0 0:=rfl;simp[execOp,ho,e1,hc,eqGuard_at_slice,hb]
end
end
section
def fH{α:Type}(R:Rep α)(e:TypeId)(B:Nat)(w:World)(v:Value)(n:Nat)(l:List α):Prop:=
 n=l.length/\∃xs F,w.ownsRow B e R.size v n xs/\R.all w xs l F/\bQ B w F/\(∀b∈F,v.ownBlock≠some b)
section
variable {α:Type} {R:Rep α} {e:TypeId} {B:Nat} {w w':World} {v:Value} {n:Nat} {l:List α}
theorem Wm(R:Rep α)(e:TypeId)(B:Nat)(w:World):fH R e B w (.slice none 0 0) 0 []:=
 ⟨rfl,[],[],World.ownsRow_nil w B e R.size,⟨rfl,rfl⟩,bQ.nil _ _,by simp⟩
theorem fH.empty(R:Rep α)(e:TypeId){B:Nat}(w:World)(hB:B<=w.heap.size):fH R e B (w.alloc (.cells #[] e)) (.slice (some ⟨w.heap.size,0,none⟩) 0 0) 0 []:=
 ⟨rfl,[],[],World.ownsRow_made w #[] 0 hB (Nat.zero_le _) (by simp),⟨rfl,rfl⟩,bQ.nil _ _,by simp⟩
theorem fH.keep(h:fH R e B w v n l)(hk:∀b,B<=b->b<w.heap.size->w'.heap[b]? =w.heap[b]?):fH R e B w' v n l:=by
 obtain⟨hn,xs,F,ho,ha,hf,hd⟩:=h;have hF:∀b∈F,w'.heap[b]? =w.heap[b]? :=λb hb=>hk b (hf.2 b hb).1 (hf.lt b hb);refine⟨hn,xs,F,⟨ho.1,?_⟩,TW ha hF,hf.keep hF,hd⟩;rcases ho.2 with h|⟨g,cap,cur,hv,hb,hg,r⟩
 ·exact .inl h
 ·exact .inr ⟨g,cap,cur,hv,hb,(hk g hb (Array.getElem?_eq_some_iff.1 hg).1).trans hg,r⟩
theorem fH.below(h:fH R e B w v n l)(hb:Below w.heap.size w w'):fH R e B w' v n l:=h.keep λb _ hl=>hb.block b hl
theorem fH.alloc(h:fH R e B w v n l)(o:Obj):fH R e B (w.alloc o) v n l:=h.keep λb _ hl=>Below.heap_alloc w o b hl
theorem fH.drew(h:fH R e B w v n l):fH R e B w.drew v n l:=h.keep λ_ _ _=>rfl
theorem V1(h:fH R e B w v n l){p:Addr}(hp:p.block<B)(u:Value):fH R e B (w.setCell p u) v n l:=
 h.keep λb hb _=>Below.heap_setCell w p u b (by omega)
theorem fH.form(h:fH R e B w v n l):∃A cap,v= .slice A n cap:=by
 obtain⟨hn,xs,F,ho,_⟩:=h;rcases ho.2 with⟨rfl,rfl⟩|⟨g,cap,cur,rfl,_⟩
 ·exact⟨none,0,rfl⟩
 ·exact⟨_,cap,rfl⟩
theorem fH.own_lt(h:fH R e B w v n l):∀k,v.ownBlock=some k->B<=k/\k<w.heap.size:=by
 obtain⟨hn,xs,F,ho,_⟩:=h;exact ho.lt
theorem fH.out{A:Option Addr}{cap:Nat}{w0:World}(h:fH R e w0.heap.size w (.slice A n cap) n l)(hb:Below w0.heap.size w0 w):bd R l w0 (.returned (.slice A n cap)) w:=by
 obtain⟨rfl,xs,F,ho,ha,hf,hd⟩:=h;obtain⟨A',cap',e1,hrd,hh⟩:=Va (R:=R) ho ha rfl;injection e1 with e1 _ e2
 subst e1 e2;refine⟨A,cap,_,rfl,hrd,(bQ.own ho rfl).join hf (λb hb hb'=>hd b hb' (hh b hb).1),hb⟩
theorem Wr{A:Option Addr}{cap:Nat}(h:fH R e B w (.slice A n cap) n l):∃F,Res R.sl B w [.slice A l.length cap] l F:=by
 obtain⟨rfl,xs,F,ho,ha,hf,hd⟩:=h;obtain⟨A',cap',e1,hrd,hh⟩:=Va (R:=R) ho ha rfl;injection e1 with e1 _ e2
 subst e1 e2;exact⟨_,hrd,(bQ.own ho rfl).join hf (λb hb hb'=>hd b hb' (hh b hb).1)⟩
end
section
variable {α:Type} {P:Program}
theorem NY{R:Rep α}(w0 w:World)(t ty e:TypeId)(B:Nat)(i:TypeInfo)(z:Value)(bytes:Nat)(ht:P.underlying t=some (.slice e))(hi:P.info? e=some i)(hz:i.zero=some z)
  (hsize:i.size=R.size) (hby:i.bytes=bytes) (hzs:z.cells.size=R.size) (hsz:0<R.size)
  (v:Value) (n:Nat) (l:List α) (hg:fH R e B w0 v n l) (hbl:Below w0.heap.size w0 w)
  (A:Option Addr) (m c:Nat) (news:List Value) (l2:List α) (F2:List Nat) (hm:m=l2.length) (hr:Row w A news) (hall:R.all w news l2 F2) (hfr:bQ w0.heap.size w F2) (hB:B<=w0.heap.size)
  (h63:n+m<=1000000000) (hbytes:bytes<=100000):
  ∃A' c' w',(Builtin.append_ #[t,t] ty #[v,.slice A m c]).run P w= .ok (.slice A' (n+m) c') w'/\fH R e B w' (.slice A' (n+m) c') (n+m) (l++l2)/\Below B w w'/\w.grownBy w' v.ownBlock:=by
 have hg':=hg.below hbl;have hlt:=hg.own_lt;obtain⟨hn,xs,F,ho,ha,hf,hd⟩:=hg;obtain⟨hn',xs',F',ho',ha',hf',hd'⟩:=hg';subst hm;have hsz2:=hbl.size;have hx:w.ownsRow B e R.size v n xs:=by
  refine⟨ho.1,?_⟩;rcases ho.2 with h|⟨g,cap,cur,hv,hb,hg,r⟩
  ·exact .inl h
  ·exact .inr ⟨g,cap,cur,hv,hb,(hbl.block g (Array.getElem?_eq_some_iff.1 hg).1).trans hg,r⟩
 have hax:R.all w xs l F:=TW ha λb hb=>hbl.block b (hf.lt b hb);have hb1:(n+l2.length)*bytes<=1000000000*100000:=Nat.mul_le_mul h63 hbytes;obtain⟨v',w',hrun,h2,h3,h5⟩:=sH (P:=P) w B t ty e i z R.size bytes ht hi hz hsize hby hzs hsz v n xs hx A l2.length c news (Ui hall) hr (UO hall)
  (by unfold maxLen;omega) (by omega) (by omega)
 have hF:∀b∈F,w'.heap[b]? =w.heap[b]? :=λb hb=>h3.block b (by have:=hf.lt b hb;omega) (λe=>hd b hb e.symm);have hF2:∀b∈F2,w'.heap[b]? =w.heap[b]? :=λb hb=>h3.block b (hfr.lt b hb) (λe=>by have:=(hlt b e.symm).2;have:=(hfr.2 b hb).1;omega);have hG:fH R e B w' v' (n+l2.length) (l++l2):=by
  refine⟨by simp[hn],xs++news,F++F2,h2,TR (TW hax hF) (TW hall hF2),?_,?_⟩
  ·refine bQ.join ((hf.keep (w':=w) λb hb=>hbl.block b (hf.lt b hb)).keep hF) ((hfr.mono hB).keep hF2) λb hb hb'=>?_;have:=hf.lt b hb;have:=(hfr.2 b hb').1;omega
  ·intro b hb;rcases List.mem_append.1 hb with hb|hb
   ·rcases h5 with h|h
    ·rw[h];exact hd b hb
    ·rw[h];intro e;injection e with e;have:=hf.lt b hb;omega
   ·rcases h5 with h|h
    ·rw[h];intro e;have:=(hlt b e).2;have:=(hfr.2 b hb).1;omega
    ·rw[h];intro e;injection e with e;have:=hfr.lt b hb;omega
 obtain⟨A',c',rfl⟩:=hG.form;exact⟨A',c',w',hrun,hG,(Below.refl B w).grown h3 (by omega) (λk hk=>(hlt k hk).1),h3⟩
theorem yr{R:Rep α}{ops:Array Oper}{rest:List Oper}{o:Oper}{a:Act}{Q:Exit->Act->World->Prop}{w:World}(hgd:o.guard=none)(s x:Operand)(t:TypeId)
  (ho:o.op= .call {callee:= .builtin .append,args:= #[s,x],argTypes:= #[t,t]})
  (w0:World) (e:TypeId) (B:Nat) {z:Value} {bytes:Nat} (ht:P.underlying t=some (.slice e)) (hinfo:(P.info? e).map (λi=>(i.zero,i.size,i.bytes))=some (some z,R.size,bytes))
  (hzs:z.cells.size=R.size) (hsz:0<R.size)
  (v:Value) (n:Nat) (l:List α) (hs:a.eval s=v) (hg:fH R e B w0 v n l) (hbl:Below w0.heap.size w0 w)
  (A:Option Addr) (m c:Nat) (news:List Value) (l2:List α) (F2:List Nat) (hx:a.eval x= .slice A m c) (hm:m=l2.length) (hr:Row w A news) (hall:R.all w news l2 F2) (hfr:bQ w0.heap.size w F2) (hB:B<=w0.heap.size)
  (h63:n+m<=1000000000) (hbytes:bytes<=100000)
  (h:∀A' c' w',fH R e B w' (.slice A' (n+m) c') (n+m) (l++l2)->Below B w w'->w.grownBy w' v.ownBlock->wpList P ops Q rest (a.put o.dst (.slice A' (n+m) c')) w'):wpList P ops Q (o::rest) a w:=by
 obtain⟨i0,hi,hz0,hz1,hz2⟩:=info_parts hinfo;refine wpList_plain hgd λK hK=>?_;obtain⟨A',c',w',hrun,h2,h3,h4⟩:=NY (P:=P) w0 w t o.type e B i0 z bytes ht hi hz0 hz1 hz2 hzs hsz v n l hg hbl A m c news l2 F2 hm hr hall hfr hB h63 hbytes;unfold Oper.wp execOp;simp only[ho,resolve,invoke,builtin,Sem.run_bind,Sem.run_pure,Result.andThen_ok,List.map_toArray,List.map_cons,List.map_nil,hs,hx,hrun];exact hK _ _ (h A' c' w' h2 h3 h4)
end
theorem KT{w:World}(cs:Array Value)(t:TypeId):Row (w.alloc (.cells cs t)) (some ⟨w.heap.size,0,none⟩) cs.toList:=VL w cs t
end
theorem Kv:(Tryz.prog.info? 2).map (λi=>(i.zero,i.size,i.bytes))=some (some (.int .i64 0),1,8):=by kernel_rfl
def eW(node:Int)(fs:List Int):List DStep:=[⟨5,node,0,0,fs⟩,⟨6,node,0,0,[]⟩]
def cy:List Int:=[1,0,0,1,2,1,1,2,0,2,1,0]
def bA:List Int:=[1,2,0,1,0,2,1,1,2,0,1,2]
def aV(k:Int):List DStep:=
 if k=0 then eW 0 []else if k=1 then eW 0 (List.replicate 12 1)else if k=2 then eW 0 (List.replicate 12 2)else if k=3 then eW 0 cy else if k=4 then eW 1 []
 else if k=5 then eW 1 bA else if k=6 then eW 2 []else if k=7 then [⟨7,0,0,0,[]⟩]else if k=8 then [⟨8,0,0,0,[]⟩]else if k=9 then [⟨9,0,1,0,[]⟩]
 else if k=10 then [⟨4,0,0,0,[]⟩]else if k=11 then [⟨4,3,60,0,[]⟩]else if k=12 then [⟨11,3,1,5,[]⟩]else if k=13 then [⟨5,0,0,0,cy⟩,⟨5,1,0,0,bA⟩,⟨6,1,0,0,[]⟩,⟨6,0,0,0,[]⟩]else []
def fA{α:Type}(R:Rep α)(B:Nat)(l:List α)(w:World)(e:Ending)(w':World):Prop:=
 ∃A cap F,e= .returned (.slice A l.length cap)/\Res R.sl B w' [.slice A l.length cap] l F/\Below w.heap.size w w'
theorem fA.out{α:Type}{R:Rep α}{l:List α}{w:World}{e:Ending}{w':World}(h:fA R w.heap.size l w e w'):bd R l w e w':=by
 obtain⟨A,cap,F,e,hr,hb⟩:=h;exact⟨A,cap,F,e,hr.rd,hr.fresh,hb⟩
theorem ka(w:World):(Rep.sl (Rep.int .i64)).rd w [.slice none 0 0] [] []:=⟨none,0,[],[],rfl,Nat.le_refl _,Nat.zero_le _,λj hj=>absurd hj (Nat.not_lt_zero _),⟨rfl,rfl⟩,rfl⟩
theorem iI{α:Type}{R:Rep α}(w:World)(t:TypeId)(cs:Array Value)(l:List α)(F:List Nat)(B:Nat)(hB:B<=w.heap.size)(hall:R.all w cs.toList l F)(hfr:bQ B w F)(hl:l.length<=1000000000):
  ∃G,Res R.sl B (w.alloc (.cells cs t)) [.slice (some ⟨w.heap.size,0,none⟩) l.length l.length] l G/\∀g∈G,g=w.heap.size\/g∈F:=by
 have hkeep:∀b∈F,(w.alloc (.cells cs t)).heap[b]? =w.heap[b]? :=λb hb=>Below.heap_alloc w _ b (hfr.lt b hb);refine⟨fu (some ⟨w.heap.size,0,none⟩) cs.toList++F,⟨⟨_,_,_,F,rfl,Nat.le_refl _,by unfold maxLen;omega,VL w cs t,TW hall hkeep,rfl⟩,?_⟩,?_⟩
 ·refine bQ.join ?_ (hfr.keep hkeep) ?_
  ·unfold fu;split
   ·exact bQ.nil _ _
   ·exact⟨by simp,λb hb=>by simp only[List.mem_singleton]at hb;subst hb;exact⟨hB,_,_,heap_alloc_new w _⟩⟩
  ·intro b hb hb';unfold fu at hb;split at hb
   ·cases hb
   ·simp only[List.mem_singleton]at hb;have:=hfr.lt b hb';omega
 ·intro g hg;rcases List.mem_append.1 hg with hg|hg
  ·unfold fu at hg;split at hg
   ·cases hg
   ·simp only[List.mem_singleton]at hg;exact .inl hg
  ·exact .inr hg
theorem cB(node:Int)(fs:List Int)(A:Option Addr)(n cap:Nat)(F:List Nat)(B:Nat)(w:World)(h:Res (Rep.sl (Rep.int .i64)) B w [.slice A n cap] fs F)(hB:B<=w.heap.size)(hnode:(Lit.int .i64 node).wf=true):
  Calls Tryz.prog 38 #[.int .i64 node,.slice A n cap] w (fA TC B (eW node fs) w):=by
 obtain⟨rfl,_⟩:=T2 h.rd;have hall:TC.all w [.int .i64 5,.int .i64 node,.int .i64 0,.int .i64 0,.slice A fs.length cap,.int .i64 6,.int .i64 node,.int .i64 0,.int .i64 0,.slice none 0 0] (eW node fs) F:=by
  have h1:=TR (R:=TC) (TN (eR (x:=⟨5,node,0,0,fs⟩) (by dsimp only;decide) hnode (by dsimp only;decide) (by dsimp only;decide) h.rd)) (TN (eR (x:=⟨6,node,0,0,[]⟩) (by dsimp only;decide) hnode (by dsimp only;decide) (by dsimp only;decide) (ka w)));rw[List.append_nil]at h1;exact h1
 obtain⟨G,hG,_⟩:=iI (R:=TC) w 32 #[.int .i64 5,.int .i64 node,.int .i64 0,.int .i64 0,.slice A fs.length cap,.int .i64 6,.int .i64 node,.int .i64 0,.int .i64 0,.slice none 0 0] (eW node fs) F B hB hall h.fresh (by simp[eW]);clear hall;have HG:=Lib.hid hG;clear hG h;go_enter Tryz.func38,Tryz.ntmps38
 go_wp2
 go_ret
 exact⟨_,_,G,rfl,HG.out,(by repeat (first|with_reducible exact Below.refl _ _|with_reducible assumption|(with_reducible refine Below.drew ?_)|(with_reducible refine Below.alloc ?_ (by first|with_reducible exact Nat.le_refl _|omega|(simp;done)|(simp;omega)|(simp[World.setCell];omega)|(simp[World.setCell];done)) _)|(with_reducible refine Below.setCell ?_ (by first|with_reducible exact Nat.le_refl _|omega|(simp;done)|(simp;omega)|(simp[World.setCell];omega)|(simp[World.setCell];done)) _)))⟩
theorem fa(node:Int)(fs:List Int)(A:Option Addr)(n cap:Nat)(F:List Nat)(B:Nat)(w:World)(h:Res (Rep.sl (Rep.int .i64)) B w [.slice A n cap] fs F)(hB:B<=w.heap.size)(hnode:(Lit.int .i64 node).wf=true):
  Calls Tryz.prog 23 #[.int .i64 node,.slice A n cap] w (fA TC B (eW node fs) w):=by
 obtain⟨rfl,_⟩:=T2 h.rd;have hall:TC.all w [.int .i64 5,.int .i64 node,.int .i64 0,.int .i64 0,.slice A fs.length cap,.int .i64 6,.int .i64 node,.int .i64 0,.int .i64 0,.slice none 0 0] (eW node fs) F:=by
  have h1:=TR (R:=TC) (TN (eR (x:=⟨5,node,0,0,fs⟩) (by dsimp only;decide) hnode (by dsimp only;decide) (by dsimp only;decide) h.rd)) (TN (eR (x:=⟨6,node,0,0,[]⟩) (by dsimp only;decide) hnode (by dsimp only;decide) (by dsimp only;decide) (ka w)));rw[List.append_nil]at h1;exact h1
 obtain⟨G,hG,_⟩:=iI (R:=TC) w 32 #[.int .i64 5,.int .i64 node,.int .i64 0,.int .i64 0,.slice A fs.length cap,.int .i64 6,.int .i64 node,.int .i64 0,.int .i64 0,.slice none 0 0] (eW node fs) F B hB hall h.fresh (by simp[eW]);clear hall;have HG:=Lib.hid hG;clear hG h;go_enter Tryz.func23,Tryz.ntmps23
 go_wp2
 go_ret
 exact⟨_,_,G,rfl,HG.out,(by repeat (first|with_reducible exact Below.refl _ _|with_reducible assumption|(with_reducible refine Below.drew ?_)|(with_reducible refine Below.alloc ?_ (by first|with_reducible exact Nat.le_refl _|omega|(simp;done)|(simp;omega)|(simp[World.setCell];omega)|(simp[World.setCell];done)) _)|(with_reducible refine Below.setCell ?_ (by first|with_reducible exact Nat.le_refl _|omega|(simp;done)|(simp;omega)|(simp[World.setCell];omega)|(simp[World.setCell];done)) _)))⟩
theorem pT(w:World):Calls Tryz.prog 43 #[] w (bd (Rep.int .i64) cy w):=by
 obtain⟨G,hG,_⟩:=iI (R:=Rep.int .i64) w 2 (cy.map (Value.int .i64)).toArray cy [] w.heap.size (Nat.le_refl _) (rX w .i64 cy (by decide)) (bQ.nil _ _) (by decide);have HG:=Lib.hid hG;clear hG;go_enter Tryz.func43,Tryz.ntmps43
 go_wp2
 go_ret
 exact⟨_,_,G,rfl,HG.out.rd,HG.out.fresh,(by repeat (first|with_reducible exact Below.refl _ _|with_reducible assumption|(with_reducible refine Below.drew ?_)|(with_reducible refine Below.alloc ?_ (by first|with_reducible exact Nat.le_refl _|omega|(simp;done)|(simp;omega)|(simp[World.setCell];omega)|(simp[World.setCell];done)) _)|(with_reducible refine Below.setCell ?_ (by first|with_reducible exact Nat.le_refl _|omega|(simp;done)|(simp;omega)|(simp[World.setCell];omega)|(simp[World.setCell];done)) _)))⟩
theorem mc(w:World):Calls Tryz.prog 25 #[] w (bd (Rep.int .i64) cy w):=by
 obtain⟨G,hG,_⟩:=iI (R:=Rep.int .i64) w 2 (cy.map (Value.int .i64)).toArray cy [] w.heap.size (Nat.le_refl _) (rX w .i64 cy (by decide)) (bQ.nil _ _) (by decide);have HG:=Lib.hid hG;clear hG;go_enter Tryz.func25,Tryz.ntmps25
 go_wp2
 go_ret
 exact⟨_,_,G,rfl,HG.out.rd,HG.out.fresh,(by repeat (first|with_reducible exact Below.refl _ _|with_reducible assumption|(with_reducible refine Below.drew ?_)|(with_reducible refine Below.alloc ?_ (by first|with_reducible exact Nat.le_refl _|omega|(simp;done)|(simp;omega)|(simp[World.setCell];omega)|(simp[World.setCell];done)) _)|(with_reducible refine Below.setCell ?_ (by first|with_reducible exact Nat.le_refl _|omega|(simp;done)|(simp;omega)|(simp[World.setCell];omega)|(simp[World.setCell];done)) _)))⟩
theorem mt(w:World):Calls Tryz.prog 46 #[] w (bd (Rep.int .i64) bA w):=by
 obtain⟨G,hG,_⟩:=iI (R:=Rep.int .i64) w 2 (bA.map (Value.int .i64)).toArray bA [] w.heap.size (Nat.le_refl _) (rX w .i64 bA (by decide)) (bQ.nil _ _) (by decide);have HG:=Lib.hid hG;clear hG;go_enter Tryz.func46,Tryz.ntmps46
 go_wp2
 go_ret
 exact⟨_,_,G,rfl,HG.out.rd,HG.out.fresh,(by repeat (first|with_reducible exact Below.refl _ _|with_reducible assumption|(with_reducible refine Below.drew ?_)|(with_reducible refine Below.alloc ?_ (by first|with_reducible exact Nat.le_refl _|omega|(simp;done)|(simp;omega)|(simp[World.setCell];omega)|(simp[World.setCell];done)) _)|(with_reducible refine Below.setCell ?_ (by first|with_reducible exact Nat.le_refl _|omega|(simp;done)|(simp;omega)|(simp[World.setCell];omega)|(simp[World.setCell];done)) _)))⟩
theorem kS(w:World):Calls Tryz.prog 26 #[] w (bd (Rep.int .i64) bA w):=by
 obtain⟨G,hG,_⟩:=iI (R:=Rep.int .i64) w 2 (bA.map (Value.int .i64)).toArray bA [] w.heap.size (Nat.le_refl _) (rX w .i64 bA (by decide)) (bQ.nil _ _) (by decide);have HG:=Lib.hid hG;clear hG;go_enter Tryz.func26,Tryz.ntmps26
 go_wp2
 go_ret
 exact⟨_,_,G,rfl,HG.out.rd,HG.out.fresh,(by repeat (first|with_reducible exact Below.refl _ _|with_reducible assumption|(with_reducible refine Below.drew ?_)|(with_reducible refine Below.alloc ?_ (by first|with_reducible exact Nat.le_refl _|omega|(simp;done)|(simp;omega)|(simp[World.setCell];omega)|(simp[World.setCell];done)) _)|(with_reducible refine Below.setCell ?_ (by first|with_reducible exact Nat.le_refl _|omega|(simp;done)|(simp;omega)|(simp[World.setCell];omega)|(simp[World.setCell];done)) _)))⟩
theorem pU(fate:Int)(w:World)(hf:(Lit.int .i64 fate).wf=true):Calls Tryz.prog 40 #[.int .i64 fate] w (bd (Rep.int .i64) (List.replicate 12 fate) w):=by
 go_enter Tryz.func40,Tryz.ntmps40
 go_wp2
 go_loopw [3] (λout wr=>∃(k:Nat) (A':Option Addr) (c':Nat),k<=12/\out= .slice A' k c'/\fH (Rep.int .i64) 2 w.heap.size wr (.slice A' k c') k (List.replicate k fate)/\Below w.heap.size w wr) (λout _=>12-(match out with| .slice _ n _=>n|_=>0))
 case atStart=>exact⟨0,_,_,Nat.zero_le _,rfl,fH.empty _ _ _ (Nat.le_refl _),(by repeat (first|with_reducible exact Below.refl _ _|with_reducible assumption|(with_reducible refine Below.drew ?_)|(with_reducible refine Below.alloc ?_ (by first|with_reducible exact Nat.le_refl _|omega|(simp;done)|(simp;omega)|(simp[World.setCell];omega)|(simp[World.setCell];done)) _)|(with_reducible refine Below.setCell ?_ (by first|with_reducible exact Nat.le_refl _|omega|(simp;done)|(simp;omega)|(simp[World.setCell];omega)|(simp[World.setCell];done)) _)))⟩
 case round=>
  obtain⟨k,B',c',hk,rfl,hg,hb⟩:=hrel;by_cases hlt:k<12
  ·have hz:=hb.size;go_wp2_with (at_builtin;refine yr (R:=Rep.int .i64) rfl _ _ 30 rfl wr 2 w.heap.size Tryz.underlying30 Kv rfl (by decide) _ k (List.replicate k fate) rfl hg (by repeat (first|with_reducible exact Below.refl _ _|with_reducible assumption|(with_reducible refine Below.drew ?_)|(with_reducible refine Below.alloc ?_ (by first|with_reducible exact Nat.le_refl _|omega|(simp;done)|(simp;omega)|(simp[World.setCell];omega)|(simp[World.setCell];done)) _)|(with_reducible refine Below.setCell ?_ (by first|with_reducible exact Nat.le_refl _|omega|(simp;done)|(simp;omega)|(simp[World.setCell];omega)|(simp[World.setCell];done)) _))) _ 1 _ _ [fate] [] rfl rfl (KT _ _) (TN ⟨rfl,hf,rfl⟩) (bQ.nil _ _) hb.size (by omega) (by decide) ?_;intro A2 c2 w2 hg2 hb2 hgr2)
   have hb3:=Below.trans (a:=w) (by repeat (first|with_reducible exact Below.refl _ _|with_reducible assumption|(with_reducible refine Below.drew ?_)|(with_reducible refine Below.alloc ?_ (by first|with_reducible exact Nat.le_refl _|omega|(simp;done)|(simp;omega)|(simp[World.setCell];omega)|(simp[World.setCell];done)) _)|(with_reducible refine Below.setCell ?_ (by first|with_reducible exact Nat.le_refl _|omega|(simp;done)|(simp;omega)|(simp[World.setCell];omega)|(simp[World.setCell];done)) _))) hb2;have hg3:fH (Rep.int .i64) 2 w.heap.size w2 (.slice A2 (k+1) c2) (k+1) (List.replicate (k+1) fate):=by rw[List.replicate_succ'];exact hg2
   exact⟨⟨k+1,A2,c2,by omega,rfl,hg3,hb3⟩,by simp;omega⟩
  ·have e:k=12:=by omega
   subst e;have H:=fH.out hg hb;clear hg hb;go_wp2
   go_ret
   exact H
theorem ox(fate:Int)(w:World)(hf:(Lit.int .i64 fate).wf=true):Calls Tryz.prog 24 #[.int .i64 fate] w (bd (Rep.int .i64) (List.replicate 12 fate) w):=by
 go_enter Tryz.func24,Tryz.ntmps24
 go_wp2
 go_loopw [3,4] (λout i wr=>∃(k:Nat) (A':Option Addr) (c':Nat),k<=12/\i= .int .i64 k/\out= .slice A' k c'/\fH (Rep.int .i64) 2 w.heap.size wr (.slice A' k c') k (List.replicate k fate)/\Below w.heap.size w wr) (λ_ i _=>12-(intOf i).toNat)
 case atStart=>exact⟨0,_,_,Nat.zero_le _,rfl,rfl,fH.empty _ _ _ (Nat.le_refl _),(by repeat (first|with_reducible exact Below.refl _ _|with_reducible assumption|(with_reducible refine Below.drew ?_)|(with_reducible refine Below.alloc ?_ (by first|with_reducible exact Nat.le_refl _|omega|(simp;done)|(simp;omega)|(simp[World.setCell];omega)|(simp[World.setCell];done)) _)|(with_reducible refine Below.setCell ?_ (by first|with_reducible exact Nat.le_refl _|omega|(simp;done)|(simp;omega)|(simp[World.setCell];omega)|(simp[World.setCell];done)) _)))⟩
 case round=>
  obtain⟨k,B',c',hk,rfl,rfl,hg,hb⟩:=hrel;by_cases hlt:k<12
  ·have hz:=hb.size;go_wp2_with (at_builtin;refine yr (R:=Rep.int .i64) rfl _ _ 30 rfl wr 2 w.heap.size Tryz.underlying30 Kv rfl (by decide) _ k (List.replicate k fate) rfl hg (by repeat (first|with_reducible exact Below.refl _ _|with_reducible assumption|(with_reducible refine Below.drew ?_)|(with_reducible refine Below.alloc ?_ (by first|with_reducible exact Nat.le_refl _|omega|(simp;done)|(simp;omega)|(simp[World.setCell];omega)|(simp[World.setCell];done)) _)|(with_reducible refine Below.setCell ?_ (by first|with_reducible exact Nat.le_refl _|omega|(simp;done)|(simp;omega)|(simp[World.setCell];omega)|(simp[World.setCell];done)) _))) _ 1 _ _ [fate] [] rfl rfl (KT _ _) (TN ⟨rfl,hf,rfl⟩) (bQ.nil _ _) hb.size (by omega) (by decide) ?_;intro A2 c2 w2 hg2 hb2 hgr2)
   have hb3:=Below.trans (a:=w) (by repeat (first|with_reducible exact Below.refl _ _|with_reducible assumption|(with_reducible refine Below.drew ?_)|(with_reducible refine Below.alloc ?_ (by first|with_reducible exact Nat.le_refl _|omega|(simp;done)|(simp;omega)|(simp[World.setCell];omega)|(simp[World.setCell];done)) _)|(with_reducible refine Below.setCell ?_ (by first|with_reducible exact Nat.le_refl _|omega|(simp;done)|(simp;omega)|(simp[World.setCell];omega)|(simp[World.setCell];done)) _))) hb2;have hg3:fH (Rep.int .i64) 2 w.heap.size w2 (.slice A2 (k+1) c2) (k+1) (List.replicate (k+1) fate):=by rw[List.replicate_succ'];exact hg2
   exact⟨⟨k+1,A2,c2,by omega,by go_num,rfl,hg3,hb3⟩,by simp[intOf];omega⟩
  ·have e:k=12:=by omega
   subst e;have H:=fH.out hg hb;clear hg hb;go_wp2
   go_ret
   exact H
theorem fq(w:World)(kd a b c:Int)(h0:(Lit.int .i64 kd).wf=true)(h1:(Lit.int .i64 a).wf=true)(h2:(Lit.int .i64 b).wf=true)(h3:(Lit.int .i64 c).wf=true):
  TC.all w [.int .i64 kd,.int .i64 a,.int .i64 b,.int .i64 c,.slice none 0 0] [⟨kd,a,b,c,[]⟩] []:=
 TN (eR (x:=⟨kd,a,b,c,[]⟩) h0 h1 h2 h3 (ka w))
theorem Es(w:World)(t:TypeId):Res (Rep.sl (Rep.int .i64)) w.heap.size (w.alloc (.cells #[] t)) [.slice (some ⟨w.heap.size,0,none⟩) 0 0] [] []:=
 ⟨⟨_,0,[],[],rfl,Nat.le_refl _,Nat.zero_le _,λj hj=>absurd hj (Nat.not_lt_zero _),⟨rfl,rfl⟩,rfl⟩,bQ.nil _ _⟩
theorem fA.up{α:Type}{R:Rep α}{l:List α}{w W:World}{e:Ending}{w':World}(h:fA R w.heap.size l W e w')(hb:Below w.heap.size w W):bd R l w e w':=by
 obtain⟨A,cap,F,e,hr,hb1⟩:=h;exact⟨A,cap,F,e,hr.rd,hr.fresh,hb.trans (hb1.mono hb.size)⟩
theorem I7(w:World):Calls Tryz.prog 9 #[.int .i64 0] w (bd TC (aV 0) w):=by
 go_enter Tryz.func9,Tryz.ntmps9
 go_wp2_with fail
 refine(fa 0 [] _ 0 0 [] w.heap.size _ (Es w _) (by simp) (by decide)).mono ?_;rintro e W2 ⟨A2,c2,F2,rfl,h2,hb2⟩;have H:bd TC (aV 0) w (.returned (.slice A2 (eW 0 []).length c2)) W2:=fA.up ⟨A2,c2,F2,rfl,h2,hb2⟩ (by repeat (first|with_reducible exact Below.refl _ _|with_reducible assumption|(with_reducible refine Below.drew ?_)|(with_reducible refine Below.alloc ?_ (by first|with_reducible exact Nat.le_refl _|omega|(simp;done)|(simp;omega)|(simp[World.setCell];omega)|(simp[World.setCell];done)) _)|(with_reducible refine Below.setCell ?_ (by first|with_reducible exact Nat.le_refl _|omega|(simp;done)|(simp;omega)|(simp[World.setCell];omega)|(simp[World.setCell];done)) _)));clear h2 hb2;go_wp2_with fail
 go_ret
 exact H
theorem I8(w:World):Calls Tryz.prog 9 #[.int .i64 1] w (bd TC (aV 1) w):=by
 go_enter Tryz.func9,Tryz.ntmps9
 go_wp2_with fail
 refine(ox 1 _ (by decide)).mono ?_;rintro e W1 ⟨A1,c1,F1,rfl,h1,hf1,hb1⟩;go_wp2_with fail
 refine(fa 0 (List.replicate 12 1) A1 _ c1 F1 w.heap.size _ ⟨h1,hf1⟩ hb1.size (by decide)).mono ?_;rintro e W2 ⟨A2,c2,F2,rfl,h2,hb2⟩;have H:bd TC (aV 1) w (.returned (.slice A2 (eW 0 (List.replicate 12 1)).length c2)) W2:=fA.up ⟨A2,c2,F2,rfl,h2,hb2⟩ hb1;clear h2 hb2;go_wp2_with fail
 go_ret
 exact H
theorem I9(w:World):Calls Tryz.prog 9 #[.int .i64 2] w (bd TC (aV 2) w):=by
 go_enter Tryz.func9,Tryz.ntmps9
 go_wp2_with fail
 refine(ox 2 _ (by decide)).mono ?_;rintro e W1 ⟨A1,c1,F1,rfl,h1,hf1,hb1⟩;go_wp2_with fail
 refine(fa 0 (List.replicate 12 2) A1 _ c1 F1 w.heap.size _ ⟨h1,hf1⟩ hb1.size (by decide)).mono ?_;rintro e W2 ⟨A2,c2,F2,rfl,h2,hb2⟩;have H:bd TC (aV 2) w (.returned (.slice A2 (eW 0 (List.replicate 12 2)).length c2)) W2:=fA.up ⟨A2,c2,F2,rfl,h2,hb2⟩ hb1;clear h2 hb2;go_wp2_with fail
 go_ret
 exact H
theorem Ja(w:World):Calls Tryz.prog 9 #[.int .i64 3] w (bd TC (aV 3) w):=by
 go_enter Tryz.func9,Tryz.ntmps9
 go_wp2_with fail
 refine(mc _).mono ?_;rintro e W1 ⟨A1,c1,F1,rfl,h1,hf1,hb1⟩;go_wp2_with fail
 refine(fa 0 cy A1 _ c1 F1 w.heap.size _ ⟨h1,hf1⟩ hb1.size (by decide)).mono ?_;rintro e W2 ⟨A2,c2,F2,rfl,h2,hb2⟩;have H:bd TC (aV 3) w (.returned (.slice A2 (eW 0 cy).length c2)) W2:=fA.up ⟨A2,c2,F2,rfl,h2,hb2⟩ hb1;clear h2 hb2;go_wp2_with fail
 go_ret
 exact H
theorem Jb(w:World):Calls Tryz.prog 9 #[.int .i64 4] w (bd TC (aV 4) w):=by
 go_enter Tryz.func9,Tryz.ntmps9
 go_wp2_with fail
 refine(fa 1 [] _ 0 0 [] w.heap.size _ (Es w _) (by simp) (by decide)).mono ?_;rintro e W2 ⟨A2,c2,F2,rfl,h2,hb2⟩;have H:bd TC (aV 4) w (.returned (.slice A2 (eW 1 []).length c2)) W2:=fA.up ⟨A2,c2,F2,rfl,h2,hb2⟩ (by repeat (first|with_reducible exact Below.refl _ _|with_reducible assumption|(with_reducible refine Below.drew ?_)|(with_reducible refine Below.alloc ?_ (by first|with_reducible exact Nat.le_refl _|omega|(simp;done)|(simp;omega)|(simp[World.setCell];omega)|(simp[World.setCell];done)) _)|(with_reducible refine Below.setCell ?_ (by first|with_reducible exact Nat.le_refl _|omega|(simp;done)|(simp;omega)|(simp[World.setCell];omega)|(simp[World.setCell];done)) _)));clear h2 hb2;go_wp2_with fail
 go_ret
 exact H
theorem Jc(w:World):Calls Tryz.prog 9 #[.int .i64 5] w (bd TC (aV 5) w):=by
 go_enter Tryz.func9,Tryz.ntmps9
 go_wp2_with fail
 refine(kS _).mono ?_;rintro e W1 ⟨A1,c1,F1,rfl,h1,hf1,hb1⟩;go_wp2_with fail
 refine(fa 1 bA A1 _ c1 F1 w.heap.size _ ⟨h1,hf1⟩ hb1.size (by decide)).mono ?_;rintro e W2 ⟨A2,c2,F2,rfl,h2,hb2⟩;have H:bd TC (aV 5) w (.returned (.slice A2 (eW 1 bA).length c2)) W2:=fA.up ⟨A2,c2,F2,rfl,h2,hb2⟩ hb1;clear h2 hb2;go_wp2_with fail
 go_ret
 exact H
theorem Jd(w:World):Calls Tryz.prog 9 #[.int .i64 6] w (bd TC (aV 6) w):=by
 go_enter Tryz.func9,Tryz.ntmps9
 go_wp2_with fail
 refine(fa 2 [] _ 0 0 [] w.heap.size _ (Es w _) (by simp) (by decide)).mono ?_;rintro e W2 ⟨A2,c2,F2,rfl,h2,hb2⟩;have H:bd TC (aV 6) w (.returned (.slice A2 (eW 2 []).length c2)) W2:=fA.up ⟨A2,c2,F2,rfl,h2,hb2⟩ (by repeat (first|with_reducible exact Below.refl _ _|with_reducible assumption|(with_reducible refine Below.drew ?_)|(with_reducible refine Below.alloc ?_ (by first|with_reducible exact Nat.le_refl _|omega|(simp;done)|(simp;omega)|(simp[World.setCell];omega)|(simp[World.setCell];done)) _)|(with_reducible refine Below.setCell ?_ (by first|with_reducible exact Nat.le_refl _|omega|(simp;done)|(simp;omega)|(simp[World.setCell];omega)|(simp[World.setCell];done)) _)));clear h2 hb2;go_wp2_with fail
 go_ret
 exact H
theorem Je(w:World):Calls Tryz.prog 9 #[.int .i64 7] w (bd TC (aV 7) w):=by
 obtain⟨G,hG,_⟩:=iI (R:=TC) w 32 #[.int .i64 7,.int .i64 0,.int .i64 0,.int .i64 0,.slice none 0 0] [⟨7,0,0,0,[]⟩] [] w.heap.size (Nat.le_refl _) (fq w 7 0 0 0 (by decide) (by decide) (by decide) (by decide)) (bQ.nil _ _) (by simp);have HG:=Lib.hid hG;clear hG;go_enter Tryz.func9,Tryz.ntmps9
 go_wp2
 go_ret
 exact⟨_,_,G,rfl,HG.out.rd,HG.out.fresh,(by repeat (first|with_reducible exact Below.refl _ _|with_reducible assumption|(with_reducible refine Below.drew ?_)|(with_reducible refine Below.alloc ?_ (by first|with_reducible exact Nat.le_refl _|omega|(simp;done)|(simp;omega)|(simp[World.setCell];omega)|(simp[World.setCell];done)) _)|(with_reducible refine Below.setCell ?_ (by first|with_reducible exact Nat.le_refl _|omega|(simp;done)|(simp;omega)|(simp[World.setCell];omega)|(simp[World.setCell];done)) _)))⟩
theorem Jf(w:World):Calls Tryz.prog 9 #[.int .i64 8] w (bd TC (aV 8) w):=by
 obtain⟨G,hG,_⟩:=iI (R:=TC) w 32 #[.int .i64 8,.int .i64 0,.int .i64 0,.int .i64 0,.slice none 0 0] [⟨8,0,0,0,[]⟩] [] w.heap.size (Nat.le_refl _) (fq w 8 0 0 0 (by decide) (by decide) (by decide) (by decide)) (bQ.nil _ _) (by simp);have HG:=Lib.hid hG;clear hG;go_enter Tryz.func9,Tryz.ntmps9
 go_wp2
 go_ret
 exact⟨_,_,G,rfl,HG.out.rd,HG.out.fresh,(by repeat (first|with_reducible exact Below.refl _ _|with_reducible assumption|(with_reducible refine Below.drew ?_)|(with_reducible refine Below.alloc ?_ (by first|with_reducible exact Nat.le_refl _|omega|(simp;done)|(simp;omega)|(simp[World.setCell];omega)|(simp[World.setCell];done)) _)|(with_reducible refine Below.setCell ?_ (by first|with_reducible exact Nat.le_refl _|omega|(simp;done)|(simp;omega)|(simp[World.setCell];omega)|(simp[World.setCell];done)) _)))⟩
theorem Jg(w:World):Calls Tryz.prog 9 #[.int .i64 9] w (bd TC (aV 9) w):=by
 obtain⟨G,hG,_⟩:=iI (R:=TC) w 32 #[.int .i64 9,.int .i64 0,.int .i64 1,.int .i64 0,.slice none 0 0] [⟨9,0,1,0,[]⟩] [] w.heap.size (Nat.le_refl _) (fq w 9 0 1 0 (by decide) (by decide) (by decide) (by decide)) (bQ.nil _ _) (by simp);have HG:=Lib.hid hG;clear hG;go_enter Tryz.func9,Tryz.ntmps9
 go_wp2
 go_ret
 exact⟨_,_,G,rfl,HG.out.rd,HG.out.fresh,(by repeat (first|with_reducible exact Below.refl _ _|with_reducible assumption|(with_reducible refine Below.drew ?_)|(with_reducible refine Below.alloc ?_ (by first|with_reducible exact Nat.le_refl _|omega|(simp;done)|(simp;omega)|(simp[World.setCell];omega)|(simp[World.setCell];done)) _)|(with_reducible refine Below.setCell ?_ (by first|with_reducible exact Nat.le_refl _|omega|(simp;done)|(simp;omega)|(simp[World.setCell];omega)|(simp[World.setCell];done)) _)))⟩
theorem GQ(w:World):Calls Tryz.prog 9 #[.int .i64 10] w (bd TC (aV 10) w):=by
 obtain⟨G,hG,_⟩:=iI (R:=TC) w 32 #[.int .i64 4,.int .i64 0,.int .i64 0,.int .i64 0,.slice none 0 0] [⟨4,0,0,0,[]⟩] [] w.heap.size (Nat.le_refl _) (fq w 4 0 0 0 (by decide) (by decide) (by decide) (by decide)) (bQ.nil _ _) (by simp);have HG:=Lib.hid hG;clear hG;go_enter Tryz.func9,Tryz.ntmps9
 go_wp2
 go_ret
 exact⟨_,_,G,rfl,HG.out.rd,HG.out.fresh,(by repeat (first|with_reducible exact Below.refl _ _|with_reducible assumption|(with_reducible refine Below.drew ?_)|(with_reducible refine Below.alloc ?_ (by first|with_reducible exact Nat.le_refl _|omega|(simp;done)|(simp;omega)|(simp[World.setCell];omega)|(simp[World.setCell];done)) _)|(with_reducible refine Below.setCell ?_ (by first|with_reducible exact Nat.le_refl _|omega|(simp;done)|(simp;omega)|(simp[World.setCell];omega)|(simp[World.setCell];done)) _)))⟩
theorem GR(w:World):Calls Tryz.prog 9 #[.int .i64 11] w (bd TC (aV 11) w):=by
 obtain⟨G,hG,_⟩:=iI (R:=TC) w 32 #[.int .i64 4,.int .i64 3,.int .i64 60,.int .i64 0,.slice none 0 0] [⟨4,3,60,0,[]⟩] [] w.heap.size (Nat.le_refl _) (fq w 4 3 60 0 (by decide) (by decide) (by decide) (by decide)) (bQ.nil _ _) (by simp);have HG:=Lib.hid hG;clear hG;go_enter Tryz.func9,Tryz.ntmps9
 go_wp2
 go_ret
 exact⟨_,_,G,rfl,HG.out.rd,HG.out.fresh,(by repeat (first|with_reducible exact Below.refl _ _|with_reducible assumption|(with_reducible refine Below.drew ?_)|(with_reducible refine Below.alloc ?_ (by first|with_reducible exact Nat.le_refl _|omega|(simp;done)|(simp;omega)|(simp[World.setCell];omega)|(simp[World.setCell];done)) _)|(with_reducible refine Below.setCell ?_ (by first|with_reducible exact Nat.le_refl _|omega|(simp;done)|(simp;omega)|(simp[World.setCell];omega)|(simp[World.setCell];done)) _)))⟩
theorem GS(w:World):Calls Tryz.prog 9 #[.int .i64 12] w (bd TC (aV 12) w):=by
 obtain⟨G,hG,_⟩:=iI (R:=TC) w 32 #[.int .i64 11,.int .i64 3,.int .i64 1,.int .i64 5,.slice none 0 0] [⟨11,3,1,5,[]⟩] [] w.heap.size (Nat.le_refl _) (fq w 11 3 1 5 (by decide) (by decide) (by decide) (by decide)) (bQ.nil _ _) (by simp);have HG:=Lib.hid hG;clear hG;go_enter Tryz.func9,Tryz.ntmps9
 go_wp2
 go_ret
 exact⟨_,_,G,rfl,HG.out.rd,HG.out.fresh,(by repeat (first|with_reducible exact Below.refl _ _|with_reducible assumption|(with_reducible refine Below.drew ?_)|(with_reducible refine Below.alloc ?_ (by first|with_reducible exact Nat.le_refl _|omega|(simp;done)|(simp;omega)|(simp[World.setCell];omega)|(simp[World.setCell];done)) _)|(with_reducible refine Below.setCell ?_ (by first|with_reducible exact Nat.le_refl _|omega|(simp;done)|(simp;omega)|(simp[World.setCell];omega)|(simp[World.setCell];done)) _)))⟩
theorem GT(w:World):Calls Tryz.prog 9 #[.int .i64 13] w (bd TC (aV 13) w):=by
 go_enter Tryz.func9,Tryz.ntmps9
 go_wp2_with fail
 refine(mc _).mono ?_;rintro e W1 ⟨A1,c1,F1,rfl,h1,hf1,hb1⟩;go_wp2_with fail
 refine(kS _).mono ?_;rintro e W2 ⟨A2,c2,F2,rfl,h2,hf2,hb2⟩;have h1':(Rep.sl (Rep.int .i64)).rd W2 [.slice A1 cy.length c1] cy F1:=Vc h1 hb2;have hf1':=hf1.below hb2;have hb:=hb1.trans (hb2.mono hb1.size);have hfr:bQ w.heap.size W2 (F1++F2):=hf1'.join (hf2.mono hb1.size) (λb h h'=>by have:=hf1.lt b h;have:=(hf2.2 b h').1;omega);have hall:TC.all W2 [.int .i64 5,.int .i64 0,.int .i64 0,.int .i64 0,.slice A1 cy.length c1,.int .i64 5,.int .i64 1,.int .i64 0,.int .i64 0,.slice A2 bA.length c2,.int .i64 6,.int .i64 1,.int .i64 0,.int .i64 0,.slice none 0 0,.int .i64 6,.int .i64 0,.int .i64 0,.int .i64 0,.slice none 0 0] (aV 13) (F1++F2):=by
  have q1:=eR (x:=⟨5,0,0,0,cy⟩) (by dsimp only;decide) (by dsimp only;decide) (by dsimp only;decide) (by dsimp only;decide) h1';have q2:=eR (x:=⟨5,1,0,0,bA⟩) (by dsimp only;decide) (by dsimp only;decide) (by dsimp only;decide) (by dsimp only;decide) h2;have q3:=fq W2 6 1 0 0 (by decide) (by decide) (by decide) (by decide);have q4:=fq W2 6 0 0 0 (by decide) (by decide) (by decide) (by decide);have:=TR (R:=TC) (TR (R:=TC) (TN q1) (TN q2)) (TR (R:=TC) q3 q4);simp only[List.append_nil]at this;exact this
 obtain⟨G,hG,_⟩:=iI (R:=TC) W2 32 #[.int .i64 5,.int .i64 0,.int .i64 0,.int .i64 0,.slice A1 cy.length c1,.int .i64 5,.int .i64 1,.int .i64 0,.int .i64 0,.slice A2 bA.length c2,.int .i64 6,.int .i64 1,.int .i64 0,.int .i64 0,.slice none 0 0,.int .i64 6,.int .i64 0,.int .i64 0,.int .i64 0,.slice none 0 0] (aV 13) (F1++F2) w.heap.size hb.size hall hfr (by decide);have HG:=Lib.hid hG;have hz:=hb.size;clear hG hall hfr h1 h1' h2 hf1 hf1' hf2 hb1 hb2;go_wp2
 go_ret
 exact⟨_,_,G,rfl,HG.out.rd,HG.out.fresh,(by repeat (first|with_reducible exact Below.refl _ _|with_reducible assumption|(with_reducible refine Below.drew ?_)|(with_reducible refine Below.alloc ?_ (by first|with_reducible exact Nat.le_refl _|omega|(simp;done)|(simp;omega)|(simp[World.setCell];omega)|(simp[World.setCell];done)) _)|(with_reducible refine Below.setCell ?_ (by first|with_reducible exact Nat.le_refl _|omega|(simp;done)|(simp;omega)|(simp[World.setCell];omega)|(simp[World.setCell];done)) _)))⟩
theorem EI(k:Int)(w:World)(h:¬(0<=k/\k<=13)):Calls Tryz.prog 9 #[.int .i64 k] w (bd TC (aV k) w):=by
 have e:aV k=[]:=by unfold aV;repeat rw[if_neg (by omega)]
 rw[e];have n0:(k==0)=false:=beq_eq_false_iff_ne.2 (by omega);have n1:(k==1)=false:=beq_eq_false_iff_ne.2 (by omega);have n2:(k==2)=false:=beq_eq_false_iff_ne.2 (by omega);have n3:(k==3)=false:=beq_eq_false_iff_ne.2 (by omega);have n4:(k==4)=false:=beq_eq_false_iff_ne.2 (by omega);have n5:(k==5)=false:=beq_eq_false_iff_ne.2 (by omega);have n6:(k==6)=false:=beq_eq_false_iff_ne.2 (by omega);have n7:(k==7)=false:=beq_eq_false_iff_ne.2 (by omega);have n8:(k==8)=false:=beq_eq_false_iff_ne.2 (by omega);have n9:(k==9)=false:=beq_eq_false_iff_ne.2 (by omega);have n10:(k==10)=false:=beq_eq_false_iff_ne.2 (by omega);have n11:(k==11)=false:=beq_eq_false_iff_ne.2 (by omega);have n12:(k==12)=false:=beq_eq_false_iff_ne.2 (by omega);have n13:(k==13)=false:=beq_eq_false_iff_ne.2 (by omega);clear e h;go_enter Tryz.func9,Tryz.ntmps9
 go_wp2
 go_ret
 exact⟨_,0,[],rfl,⟨_,0,[],[],rfl,Nat.le_refl _,Nat.zero_le _,λj hj=>absurd hj (Nat.not_lt_zero _),⟨rfl,rfl⟩,rfl⟩,bQ.nil _ _,(by repeat (first|with_reducible exact Below.refl _ _|with_reducible assumption|(with_reducible refine Below.drew ?_)|(with_reducible refine Below.alloc ?_ (by first|with_reducible exact Nat.le_refl _|omega|(simp;done)|(simp;omega)|(simp[World.setCell];omega)|(simp[World.setCell];done)) _)|(with_reducible refine Below.setCell ?_ (by first|with_reducible exact Nat.le_refl _|omega|(simp;done)|(simp;omega)|(simp[World.setCell];omega)|(simp[World.setCell];done)) _)))⟩
theorem kI{k:Int}(h:0<=k/\k<=13):k=0\/k=1\/k=2\/k=3\/k=4\/k=5\/k=6\/k=7\/k=8\/k=9\/k=10\/k=11\/k=12\/k=13:=by omega
theorem AX(k:Int)(w:World):Calls Tryz.prog 9 #[.int .i64 k] w (bd TC (aV k) w):=by
 by_cases h:0<=k/\k<=13
 ·rcases kI h with rfl|rfl|rfl|rfl|rfl|rfl|rfl|rfl|rfl|rfl|rfl|rfl|rfl|rfl
  ·exact I7 w
  ·exact I8 w
  ·exact I9 w
  ·exact Ja w
  ·exact Jb w
  ·exact Jc w
  ·exact Jd w
  ·exact Je w
  ·exact Jf w
  ·exact Jg w
  ·exact GQ w
  ·exact GR w
  ·exact GS w
  ·exact GT w
 ·exact EI k w h
section
section
variable {α:Type} {R:Rep α} {w w':World} {B:Nat}
theorem Un:∀{l:List α} {cs:List Value} {F:List Nat},R.all w cs l F->∀{k:Nat} (hk:k<l.length),
  ∃c1 c c2 F1 Fk F2,cs=c1++c++c2/\c1.length=k*R.size/\F=F1++Fk++F2/\R.all w c1 (l.take k) F1/\R.rd w c l[k] Fk/\R.all w c2 (l.drop (k+1)) F2
 |[],_,_,_,k,hk=>absurd hk (Nat.not_lt_zero _)
 |a::l,_,_,⟨c1,c2,F1,F2,rfl,rfl,h1,h2⟩,0,_=>⟨[],c1,c2,[],F1,F2,by simp,by simp,by simp,⟨rfl,rfl⟩,h1,h2⟩
 |a::l,_,_,⟨c1,c2,F1,F2,rfl,rfl,h1,h2⟩,k+1,hk=>by
  obtain⟨d1,d,d2,G1,Gk,G2,rfl,hl,rfl,k1,k2,k3⟩:=Un h2 (k:=k) (by simpa using hk);exact⟨c1++d1,d,d2,F1++G1,Gk,G2,by simp,by rw[List.length_append,R.len h1,hl,Nat.add_mul];omega,by simp,⟨c1,d1,F1,G1,rfl,rfl,h1,k1⟩,k2,k3⟩
theorem US{l:List α}{k:Nat}(hk:k<l.length){c1 c c2:List Value}{F1 Fk F2:List Nat}{a:α}(h1:R.all w c1 (l.take k) F1)(h2:R.rd w c a Fk)(h3:R.all w c2 (l.drop (k+1)) F2):
  R.all w (c1++c++c2) (l.set k a) (F1++Fk++F2):=by
 rw[show l.set k a=l.take k++[a]++l.drop (k+1)by rw[List.set_eq_take_append_cons_drop,if_pos hk];simp];exact TR (Uy h1 h2) h3
theorem Res.lens{A:Option Addr}{n cap:Nat}{l:List α}{F:List Nat}(h:Res R.sl B w [.slice A n cap] l F)(hs:0<R.size){k:Nat}(hk:k<l.length):
  ∃b off c Fk,A=some ⟨b,off,none⟩/\b∈F/\b∉Fk/\(∀g∈Fk,g∈F)/\B<=b/\b<w.heap.size/\Res R B w c l[k] Fk/\(∀j u,c[j]? =some u->w.cell? ⟨b,off+k*R.size+j,none⟩=some u)/\(∀o,w.frozen? ⟨b,o,none⟩=false)/\
   ∀w' c' a',Res R B w' c' a' Fk->(∀j u,c'[j]? =some u->w'.cell? ⟨b,off+k*R.size+j,none⟩=some u)->
    (∀o,(o<off+k*R.size\/off+k*R.size+R.size<=o)->w'.cell? ⟨b,o,none⟩=w.cell? ⟨b,o,none⟩)->(∃cur t,w'.heap[b]? =some (.cells cur t (0,0)))->
    (∀g∈F,g≠b->g∉Fk->w'.heap[g]? =w.heap[g]?)->Res R.sl B w' [.slice A n cap] (l.set k a') F:=by
 obtain⟨hrd,hfr⟩:=h;obtain⟨rfl,hc1,hc2,xs,F0,hr,ha,rfl⟩:=T2 hrd;obtain⟨c1,c,c2,F1,Fk,F2,rfl,hl1,rfl,k1,k2,k3⟩:=Un ha hk;have hcl:=R.len k2;have hne:c1++c++c2≠ []:=by
  intro e;have:=congrArg List.length e;simp only[List.length_append,List.length_nil]at this;omega
 obtain⟨b,off,rfl,hbl,hc⟩:=hr 0 (List.length_pos_iff.2 hne);have hhead:fu (some ⟨b,off,none⟩) (c1++c++c2)=[b]:=by unfold fu;rw[if_neg hne]
 rw[hhead]at hfr⊢;have hnd:=hfr.1;have hb1:=hfr.2 b (by simp);obtain⟨hBb,cur,t,hcur⟩:=hb1;have hnot:∀g∈F1++Fk++F2,g≠b:=λg hg e=>by
  subst e;exact(List.nodup_cons.1 hnd).1 hg
 have hnd2:(F1++Fk++F2).Nodup:=(List.nodup_cons.1 hnd).2;have hsub:Fk.Sublist ([b]++(F1++Fk++F2)):=by
  refine List.Sublist.trans ?_ (List.sublist_append_right _ _);exact List.Sublist.trans (List.sublist_append_right F1 Fk) (List.sublist_append_left _ _)
 refine⟨b,off,c,Fk,rfl,by simp,λhm=>hnot b (by simp[hm]) rfl,λg hg=>by simp[hg],hBb,hbl,⟨k2,hfr.sub hsub⟩,?_,?_,?_⟩
 ·intro j u hu;rw[Nat.add_assoc];refine hc _ _ ?_;rw[List.append_assoc,List.getElem?_append_right (by omega),hl1,Nat.add_sub_cancel_left,List.getElem?_append_left (List.getElem?_eq_some_iff.1 hu).1];exact hu
 ·intro o;simp[World.frozen?,hcur]
 ·intro w' c' a' hr' hcells hother ⟨cur',t',hcur'⟩ hrest;have hcl':=R.len hr'.rd;have hF1:∀g∈F1,w'.heap[g]? =w.heap[g]? :=λg hg=>hrest g (by simp[hg]) (hnot g (by simp[hg])) (λhm=>by
   have:=(List.nodup_append.1 (List.nodup_append.1 hnd2).1).2.2 g hg g hm;exact this rfl)
  have hF2:∀g∈F2,w'.heap[g]? =w.heap[g]? :=λg hg=>hrest g (by simp[hg]) (hnot g (by simp[hg])) (λhm=>by
   have:=(List.nodup_append.1 hnd2).2.2 g (by simp[hm]) g hg;exact this rfl)
  have hb':b<w'.heap.size:=(Array.getElem?_eq_some_iff.1 hcur').1;have hall:R.all w' (c1++c'++c2) (l.set k a') (F1++Fk++F2):=US hk (TW k1 hF1) hr'.rd (TW k3 hF2);have hne':c1++c'++c2≠ []:=by
   intro e;have:=congrArg List.length e;simp only[List.length_append,List.length_nil]at this;omega
  have hrow:Row w' (some ⟨b,off,none⟩) (c1++c'++c2):=by
   intro j0 _;refine⟨b,off,rfl,hb',λi u hu=>?_⟩;by_cases h1:i<k*R.size
   ·rw[hother _ (.inl (by omega))];refine hc i u ?_;rw[List.append_assoc,List.getElem?_append_left (by omega)]at hu⊢;exact hu
   ·by_cases h2:i<k*R.size+R.size
    ·have:=hcells (i-k*R.size) u (by
      rw[List.append_assoc,List.getElem?_append_right (by omega),List.getElem?_append_left (by omega),hl1]at hu;exact hu)
     rw[show off+k*R.size+(i-k*R.size)=off+i by omega]at this;exact this
    ·rw[hother _ (.inr (by omega))];refine hc i u ?_;rw[List.getElem?_append_right (by rw[List.length_append];omega)]at hu⊢;rw[List.length_append]at hu⊢;rw[hcl];rwa[hcl']at hu
  refine⟨?_,hfr.1,λg hg=>⟨(hfr.2 g hg).1,?_⟩⟩
  ·refine⟨some ⟨b,off,none⟩,cap,c1++c'++c2,F1++Fk++F2,by simp,by simpa using hc1,hc2,hrow,hall,?_⟩;unfold fu;rw[if_neg hne']
  ·by_cases e:g=b
   ·subst e;exact⟨cur',t',hcur'⟩
   ·by_cases hm:g∈Fk
    ·exact(hr'.fresh.2 g hm).2
    ·rw[hrest g hg e hm];exact(hfr.2 g hg).2
end
end
end Go.Proofs.YtlmoekpinpafeaaGreat
