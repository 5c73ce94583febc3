/- AvCT -/
import Derived.Test.YthgkdhnlehneeaaGreatDoorAvJ3
import Derived.Test.YthgkdhnlehneeaaGreatDoorAvFQ
import Derived.Test.YthgkdhnlehneeaaGreatDoorAvFX
import Derived.Test.YthgkdhnlehneeaaGreatDoorAwx
import Derived.Test.YthgkdhnlehneeaaGreatDoorAvFO
import Derived.Test.YthgkdhnlehneeaaGreatDoorAvQ
import Derived.Test.YthgkdhnlehneeaaGreatDoorText1
import Derived.Test.YthgkdhnlehneeaaGreatDoorWC2
set_option maxHeartbeats 8000000
set_option linter.unusedVariables false
set_option linter.unusedSimpArgs false
set_option maxRecDepth 100000
namespace Go.Proofs.YthgkdhnlehneeaaGreatDoor
open Go.RowKit
def Zh(tm':List AV)(ob':List (Nat×AO)):Exit->ASt->Prop
 | .normal,st=>And (Jy st.tm tm') (aK st.ob ob')
 |_,_=>False
theorem aca{E:bx}{S:bZ}{x y:Code}{K:Exit->ASt->Prop}{tm:List AV}{ob:List (Nat×AO)}(ws:List Nat)(sl:List (Nat×AV))(ob':List (Nat×AO))
  (h1:Hn tm ws sl λtm'=>AWP E S x (Zh tm' ob') ⟨tm,ob⟩) (h2:Hn tm ws sl λtm'=>AWP E S y K ⟨tm',ob'⟩):AWP E S x (WU E S y K) ⟨tm,ob⟩:=by
 have g1:=pE h1;have g2:=pE h2;refine⟨λa w hs=>wp_mono (g1.run a w hs) λe a' w' h'=>?_⟩;obtain⟨st',hs',hk⟩:=h';cases e with
 |normal=>
  refine⟨⟨ll (JM tm ws) sl,ob'⟩,hs'.sub (ut hk.1) hk.2,g2⟩
 |_=>exact hk.elim
section
variable {Z Z':Nat->Prop}{ρ:Nat->Value}{v:Value}{w w':World}
def AD.anyC:AD->AC
 | .pv v=> .d (.pv v)
 |_=> .d (.x λ_ _ _=>True)
def AP1.anyV:AP1->AV
 | .one d=> .one d.anyC
 | .agg ds=> .agg (ds.map AD.anyC)
def AP.anyV:AP->AV
 | .val p=>p.anyV
 | .tup ps=> .tup (ps.map AP1.anyV)
theorem co.anyC{d:AD}(h:co Z w d v):fp Z' w' ρ d.anyC v:=by
 have h1:=h.one;cases h with
 |pv _ h1=>exact co.pv _ h1
 |_=>exact co.x _ _ h1 λ_ _ _ _=>trivial
theorem fF.anyV{p:AP1}(h:fF Z w p v):cu Z' w' ρ p.anyV v:=by
 cases p with
 |one d=>exact .one _ _ (co.anyC h)
 |agg ds=>
  obtain⟨us,rfl,hl,hr⟩:=h;refine .agg _ us (by simp[hl]) λi c u hc hu=>?_;rw[List.getElem?_map]at hc;obtain⟨d,hd,rfl⟩:=Option.map_eq_some_iff.1 hc;exact(hr i d u hd hu).anyC
theorem xr.anyV{p:AP}(h:xr Z w p v):cu Z' w' ρ p.anyV v:=by
 cases p with
 |val p=>exact fF.anyV h
 |tup ps=>
  obtain⟨us,rfl,hl,hr⟩:=h;refine .tup _ us (by simp[hl]) λi x u hx hu=>?_;rw[List.getElem?_map]at hx;obtain⟨q,hq,rfl⟩:=Option.map_eq_some_iff.1 hx;exact(hr i q u hq hu).anyV
theorem aa8{E:bx}{S:bZ}{st:ASt}{f:FuncId}{args:List AV}{K:AV->ASt->Prop}{ps:List AP1}{res:AP}(hc:aN E f ps res)(hps:aRs st.ob args (· =ps))(hk:K res.anyV st):aI E S f args st K:=by
 refine⟨hc.enter,λZ ρ a w us hs hl hr=>?_⟩;obtain⟨ps',h1,h2,rfl⟩:=kO hs.ws hl hr hps;refine(hc.run (kL Z ρ st.ob) w us (kL.lt hs.ws) ?_ h1 h2).mono ?_
 ·obtain⟨w1,g1,g2,g3⟩:=hs.ws.g;exact⟨w1,g1,g2,λb hb=> .inl (g3 b hb)⟩
 ·rintro e w' ⟨v,Z',rfl,hb,hz,hz2,hv⟩;exact⟨v,res.anyV,st,Z,ρ,rfl,hs.grow (gC hb) (λ_ h=>h) (λ_ h=> .inl h),hv.anyV,hk⟩
end
open Go.ChangeShapes Go.WideShapes
abbrev mkS(w:List UInt8):ByteArray:=⟨w.toArray⟩
theorem C4(c:UInt8):∀(ws:List (List UInt8)) (w:List UInt8),(∀v∈w::ws,c∉v)->Lib.countB (mkS (jy c (w::ws))) (mkS [c])=ws.length/\Lib.splitB (mkS [c]) 0 ws.length (mkS (jy c (w::ws)))=(w::ws).map mkS
 |[],w,h=>by
  have hi:Lib.indexB (mkS (jy c [w])) (mkS [c])= -1:=E3 (h w ah);exact⟨Lib.countB_miss _ _ hi,rfl⟩
 |v::r,w,h=>by
  have hi:Lib.indexB (mkS (jy c (w::v::r))) (mkS [c])=(w.length:Int):=H6 (h w ah);obtain⟨h1,h2⟩:=C4 c r v λx hx=>h x (by simp only[List.mem_cons]at hx⊢;exact .inr hx);have hsz:(mkS [c]).size=1:=rfl;have e1:(mkS (jy c (w::v::r))).extract (w.length+1) (mkS (jy c (w::v::r))).size=mkS (jy c (v::r)):=by
   rw[yH,fD,List.take_length];show mkS ((w++c::jy c (v::r)).drop (w.length+1))=_;congr 2;rw[show w++c::jy c (v::r)=(w++[c])++jy c (v::r)by simp];exact List.drop_left' ah
  have e2:(mkS (jy c (w::v::r))).extract 0 (w.length+0)=mkS w:=by
   rw[yH];show mkS (((w++c::jy c (v::r)).take (w.length+0)).drop 0)=_;simp
  refine⟨?_,?_⟩
  ·rw[Lib.countB_hit _ _ _ (by rw[hsz];exact Nat.le_refl 1) hi,hsz,e1,h1,List.length_cons];omega
  ·rw[List.length_cons,Lib.splitB_hit _ _ _ _ _ hi,hsz,e1,e2,h2];rfl
theorem Ng(c:UInt8)(l:List UInt8)(hl:l.length<=2000000)(W:World)(m:Int)(hm:W.cell? ⟨0,0,none⟩=some (.int .i64 m)):
  Calls Tryz.prog 27 #[.string ⟨l.toArray⟩,.string ⟨#[c]⟩] W λe w'=>e= .returned (.slice (some ⟨W.heap.size,0,none⟩) (dv c l).length (dv c l).length)/\w'=W.alloc (.cells (xl (dv c l)).toArray 9):=by
 obtain⟨w,ws,e⟩:=na (c:=c) (s:=l);have hj:jy c (w::ws)=l:=by rw[<-e,Fa]
 obtain⟨h1,h2⟩:=C4 c ws w (by rw[<-e];exact Nt);rw[hj]at h1 h2;have:=Tryz.strings_Split (mkS l) (mkS [c]) m W (by rw[fD];omega) hm (Nat.le_refl 1);rw[h1,h2]at this;rw[e];refine this.mono ?_;rintro e2 w' ⟨rfl,rfl⟩;refine⟨rfl,?_⟩;rw[List.map_map];rfl
open Go.Proofs.Tryz
theorem Ta{a b:Int}(hb:0<=b/\b<=18446744073709551615):0<=JC .u64 a b/\JC .u64 a b<=b:=by
 obtain⟨n,rfl⟩:=Int.eq_ofNat_of_zero_le hb.1;have h1:(BitVec.ofInt 64 a&&&BitVec.ofInt 64 (n:Int)).toNat<=n:=by
  rw[BitVec.toNat_and];refine Nat.le_trans Nat.and_le_right ?_;rw[BitVec.toNat_ofInt];omega
 unfold JC;rw[IntKind.wrap_u64];show 0<=((BitVec.ofInt 64 a&&&BitVec.ofInt 64 (n:Int)).toNat:Int) % _/\((BitVec.ofInt 64 a&&&BitVec.ofInt 64 (n:Int)).toNat:Int) % _<=_;generalize (BitVec.ofInt 64 a&&&BitVec.ofInt 64 (n:Int)).toNat=m at h1;omega
structure Dc where
 b:List Int
 i:Nat
 h:Int
def Dc.ok(d:Dc):Prop:=d.b.length<=4096/\d.i<=d.b.length/\∀x∈d.b,0<=x/\x<=255
abbrev VQ(h:Int):AD:= .pv (.int .u64 h)
abbrev Dc.o(d:Dc):AO:= .cells 81 [.d (.sl (d.b.map eU)),.d (dI d.i),.d (VQ d.h)]
theorem TY:∃f:Int->Int,∀h,f h=IntKind.u64.wrap (h*6364136223846793005):=⟨_,λ_=>rfl⟩
noncomputable def Ti:Int->Int:=Classical.choose TY
theorem P4(h:Int):IntKind.u64.wrap (h*6364136223846793005)=Ti h:=(Classical.choose_spec TY h).symm
theorem TW:∃f:Int->Int,∀h,f h=IntKind.u64.wrap (Ti h+1442695040888963407):=⟨_,λ_=>rfl⟩
noncomputable def Bl:Int->Int:=Classical.choose TW
theorem P0(h:Int):IntKind.u64.wrap (Ti h+1442695040888963407)=Bl h:=(Classical.choose_spec TW h).symm
theorem PW:∃f:Int->Int,∀h,f h=JC .u64 (Ph .u64 h 33) 16777215:=⟨_,λ_=>rfl⟩
noncomputable def zz:Int->Int:=Classical.choose PW
theorem HO(h:Int):zz h=JC .u64 (Ph .u64 h 33) 16777215:=Classical.choose_spec PW h
theorem uQ(h:Int):0<=zz h/\zz h<=16777215:=by rw[HO];exact Ta ac
theorem Lf(h:Int):IntKind.i64.wrap (JC .u64 (Ph .u64 h 33) 16777215)=zz h:=by
 have:=uQ h;rw[<-HO,oZ ac ac]
noncomputable def Dc.raw (d:Dc):Int:=zz (Bl d.h)+(d.b.getD d.i 0)
noncomputable def Dc.val (d:Dc) (n:Int):Int:=d.raw.tmod n
noncomputable def Dc.next (d:Dc):Dc:=⟨d.b,if d.i<d.b.length then d.i+1 else d.i,Bl d.h⟩
theorem Dc.ok.next{d:Dc}(h:d.ok):d.next.ok:=by
 refine⟨h.1,?_,h.2.2⟩;have:=h.2.1;show(if d.i<d.b.length then d.i+1 else d.i)<=d.b.length;split<;>omega
theorem Dc.ok.get{d:Dc}(h:d.ok):0<=d.b.getD d.i 0/\d.b.getD d.i 0<=255:=by
 rw[List.getD_eq_getElem?_getD];cases e:d.b[d.i]? with
 |none=>simp
 |some x=>exact h.2.2 x (List.mem_of_getElem? e)
theorem Dc.ok.raw{d:Dc}(h:d.ok):0<=d.raw/\d.raw<=16777470:=by
 have h1:=h.get;have h2:=uQ (Bl d.h);unfold Dc.raw;omega
theorem Dc.ok.val{d:Dc}(h:d.ok){n:Int}(hn:0<n):0<=d.val n/\d.val n<n:=by
 have h1:=h.raw;unfold Dc.val;rw[Int.tmod_eq_emod_of_nonneg h1.1];exact⟨Int.emod_nonneg _ ac,Int.emod_lt_of_pos _ hn⟩
theorem UQ(d:Dc)(n:Int)(hd:d.ok)(hn:0<n):dd av 17 [.one (.ref 1000 0 0 0),.one (.d (dI n))] [(1000,d.o)] [(1000,d.next.o)] [1000] (.val (.one (.d (dI (d.val n))))):=by
 have hr:=hd.raw;have hne:n≠0:=ac;obtain⟨b,i,h⟩:=d;have h2:=uQ (Bl h);have hb3:=hd.2.2;by_cases hi:i<b.length
 ·have hi':decide (((i:Nat):Int)<((b.map eU).length:Int))=true:=by simp[hi]
  have hbi:=hb3 b[i] (List.getElem_mem hi);have hg:b.getD i 0=b[i]:=by simp[hi]
  have hi2:i+1<=4096:=by have:=hd.1;simp only at this;omega
  have e1:(⟨b,i,h⟩:Dc).next=⟨b,i+1,Bl h⟩:=by unfold Dc.next;simp only[if_pos hi]
  have e2:(⟨b,i,h⟩:Dc).val n=(zz (Bl h)+b[i]).tmod n:=by unfold Dc.val Dc.raw;simp only[hg]
  rw[e1,e2];dsimp only[Dc.o];refine cH aM func17 rfl call17 ntmps17 (ace results17) rfl λS pv=>?_;conv=>whnf
  repeat'((first|refine awz ?_|refine abp (Ti h) (P4 h) ?_|refine abp (Bl h) (P0 h) ?_|refine abp (zz (Bl h)) (Lf _) ?_|exact rr|refine tB ?_ ?_|intro h)<;>conv=>whnf)
  refine' abu aM 9 [[],[0],[0,1],[1,0,2],[],[4],[4,5],[5,4,6],[6,4,5,7],[7,5,4,6,8,2,0,1,3]] [(_,_),(_,_),(_,_),(_,_),(_,_),(_,_),(_,_),(_,_),(_,_)] ?hD ?hok ?hl ?hf ?hno ?ht
  case hD=>kernel_rfl
  case hok=>kernel_rfl
  case hl=>rfl
  case hf=>
   conv=>whnf
   repeat'(first|(refine⟨rfl,rfl⟩)|exact trivial|(refine And.intro ?_ ?_<;>conv=>whnf)|fail)
  case hno=>rfl
  case ht=>
   conv=>whnf
   repeat'(first|refine awz ?_|exact rr|refine tB ?_ ?_|(intro h;conv=>whnf))
   refine' abu aM 12 [[],[],[1],[1,2],[2,1,3],[],[5],[5,6],[6,5,7],[7,5,6,8,3,1,2,4],[4,2,1,3,8,6,5,7,9],[9,7,5,6,8,3,1,2,4,10],[10,4,2,1,3,8,6,5,7,9,11,0],[0,11,9,7,5,6,8,3,1,2,4,10,12]] [(_,_),(_,_),(_,_),(_,_),(_,_),(_,_),(_,_),(_,_),(_,_),(_,_),(_,_),(_,_)] ?hD ?hok ?hl ?hf ?hno ?ht
   case hD=>kernel_rfl
   case hok=>kernel_rfl
   case hl=>rfl
   case hf=>
    conv=>whnf
    repeat'(first|(refine⟨rfl,rfl⟩)|exact trivial|((first|refine aaM hi ?_|refine aaH ac ac ?_|refine And.intro ?_ ?_|fail)<;>conv=>whnf))
   case hno=>rfl
   case ht=>
    conv=>whnf
    repeat'((first|refine awz ?_|refine aaH ac ac ?_|refine And.intro hne ?_|exact rr|refine tB ?_ ?_|intro h)<;>conv=>whnf)
 ·have hi':decide (((i:Nat):Int)<((b.map eU).length:Int))=false:=al;have hg:b.getD i 0=0:=by simp[hi]
  have e1:(⟨b,i,h⟩:Dc).next=⟨b,i,Bl h⟩:=by unfold Dc.next;simp only[if_neg hi]
  have e2:(⟨b,i,h⟩:Dc).val n=(zz (Bl h)).tmod n:=by unfold Dc.val Dc.raw;simp only[hg,Int.add_zero]
  rw[e1,e2];dsimp only[Dc.o];refine cH aM func17 rfl call17 ntmps17 (ace results17) rfl λS pv=>?_;conv=>whnf
  repeat'((first|refine awz ?_|refine abp (Ti h) (P4 h) ?_|refine abp (Bl h) (P0 h) ?_|refine abp (zz (Bl h)) (Lf _) ?_|exact rr|refine tB ?_ ?_|intro h)<;>conv=>whnf)
  refine' abu aM 9 [[],[0],[0,1],[1,0,2],[],[4],[4,5],[5,4,6],[6,4,5,7],[7,5,4,6,8,2,0,1,3]] [(_,_),(_,_),(_,_),(_,_),(_,_),(_,_),(_,_),(_,_),(_,_)] ?hD ?hok ?hl ?hf ?hno ?ht
  case hD=>kernel_rfl
  case hok=>kernel_rfl
  case hl=>rfl
  case hf=>
   conv=>whnf
   repeat'(first|(refine⟨rfl,rfl⟩)|exact trivial|(refine And.intro ?_ ?_<;>conv=>whnf)|fail)
  case hno=>rfl
  case ht=>
   conv=>whnf
   repeat'((first|refine awz ?_|refine And.intro hne ?_|exact rr|refine tB ?_ ?_|intro h)<;>conv=>whnf)
theorem Wr:∃f:Int->Int,∀x,f x=IntKind.u64.wrap x:=⟨_,λ_=>rfl⟩
noncomputable def wU:Int->Int:=Classical.choose Wr
theorem Wq(x:Int):IntKind.u64.wrap x=wU x:=(Classical.choose_spec Wr x).symm
noncomputable def V1 (h b:Int):Int:=wU (wU (wU (h*1099511628211)+wU b)+3)
noncomputable def MD (l:List Int) (h:Int):Int:=l.foldl V1 h
noncomputable def Kl (l:List Int) (s:Int):Dc:=⟨l,0,MD l (wU (wU (s*7919)+wU ((l.map eU).length:Int)))⟩
noncomputable def Dc.skip (d:Dc):Nat->Dc
 |0=>d
 |k+1=>(d.skip k).next
theorem Dc.ok.skip{d:Dc}(h:d.ok):∀k,(d.skip k).ok
 |0=>h
 |k+1=>(h.skip k).next
theorem WT(l:List Int)(s:Int)(hl:l.length<=4096):dd av 5 [.one (.d (.sl (l.map eU))),.one (.d (VQ s))] [] [(15,(Kl l s).o)] [] (.val (.one (.ref 15 0 0 0))):=by
 refine cH aM func5 rfl call5 ntmps5 (ace results5) rfl λS pv=>?_;conv=>whnf
 repeat'((first|refine awz ?_|refine abp (wU _) (Wq _) ?_|exact rr|refine tB ?_ ?_|intro h)<;>conv=>whnf)
 refine aaK (λk:Nat=>k<=l.length) (6::rg 16 21) (λk=>[(6,vI .i64 (k:Int))]) (λk=>[(9999,.frame (dC []) pv),(15,.cells 81 [.d (.sl (l.map eU)),.d (dI 0),.d (VQ (MD (l.take k) (wU (wU (s*7919)+wU ((l.map eU).length:Int)))))])]) (λk=>l.length-k) 0 ac ?_ sbW (λk hR=>?_)<;>(conv=>whnf)
 ·repeat'(first|exact trivial|(refine And.intro rfl ?_;conv=>whnf)|fail)
 ·repeat'(first|refine awz ?_|fail)
  refine AB.mk (λh=>?_) (λh=>?_)<;>(conv=>whnf)
  ·have hlt:k<l.length:=ari;repeat'(first|refine awz ?_|fail)
   refine' abu aM 13 [[],[],[1],[1,2],[2,1,3],[3,1,2,4],[],[],[7,6],[6,7,8],[8,7,6,9],[9,6,7,8,10,4,2,1,3,5],[5,3,1,2,4,10,8,7,6,9,11],[12,11,10,9,8,7,6,5,4,3,2,1,0],[0,1,2,3,4,5,6,7,8,9,10,11,12,13],[13,12,11,10,9,8,7,6,5,4,3,2,1,0,14]] [(_,_),(_,_),(_,_),(_,_),(_,_),(_,_),(_,_),(_,_),(_,_),(_,_),(_,_),(_,_),(_,_)] ?hD ?hok ?hl ?hf ?hno ?ht
   case hD=>kernel_rfl
   case hok=>kernel_rfl
   case hl=>rfl
   case hf=>
    conv=>whnf
    repeat'(first|(refine⟨rfl,rfl⟩)|exact trivial|((first|refine aaM hlt ?_|refine abp (wU _) (Wq _) ?_|refine And.intro ?_ ?_|fail)<;>conv=>whnf))
   case hno=>rfl
   case ht=>
    conv=>whnf
    repeat'(first|refine awz ?_|(refine aaH ari ari ?_;conv=>whnf)|(exact trivial)|fail)
    have hstep:V1 (MD (l.take k) (wU (wU (s*7919)+wU ((l.map eU).length:Int)))) l[k]=MD (l.take (k+1)) (wU (wU (s*7919)+wU ((l.map eU).length:Int))):=by
     unfold MD;rw[<-List.take_append_getElem hlt,List.foldl_append];rfl
    refine a8.mk ⟨k+1,hlt,ac,?_,aaC rfl (aaC (congrArg (λh=>some (AO.cells 81 [.d (.sl (l.map eU)),.d (dI 0),.d (VQ h)])) hstep) aaE)⟩;exact hds
  ·have hk:k=l.length:=ari;subst hk;rw[List.take_length];unfold Kl;repeat'(first|refine awz ?_|exact rr|refine tB ?_ ?_|(intro h;conv=>whnf))
def qO:List (List Nat):=bC [0,1,2,3,0,0,4,0,35671935824001,0,0xa2481c61440c204724a]
def By:aP:=⟨oK ⟨⟨[],[]⟩,⟨[],[]⟩⟩,⟨⟨[],[]⟩,fT,0,0,0⟩,gj 0,gj 0,⟨0,[],[],0⟩,⟨0,[],[],0⟩,⟨[],[]⟩,[],[]⟩
theorem On(ann bob:List dD)(ha:ann.length<=1000)(hb:bob.length<=1000):aaN 1048576 (ub ann bob):=by
 have c1:aaR 1048576 (fy 4 ann):=by
  unfold fy;simp only;split
  ·exact⟨by simp only;omega,by simp⟩
  ·exact⟨by simp,by simp⟩
 have c2:aaR 1048576 (fy 5 bob):=by
  unfold fy;simp only;split
  ·exact⟨by simp only;omega,by simp⟩
  ·exact⟨by simp,by simp⟩
 have d1:aaY 1048576 jN:=eF (kw (kS (rS ac) ai ai (gR zf ai)));have d2:aaY 1048576 (io 8):=eF (rS ac);refine⟨?_,?_,?_,?_,c1,c2,?_,?_⟩
 ·exact⟨⟨d1,d1⟩,by simp[ub,oK,fw,aaV],by simp[ub,oK,fw,aaV],by simp[ub,oK,aa9],by simp[ub,oK],by simp[ub,oK]⟩
 ·exact⟨d2,by simp[ub,Aa,fT,aa2]⟩
 ·simp[ub,gj,aaX,abb,aba]
 ·simp[ub,gj,aaX,abb,aba]
 ·simp[ub,aa5]
 ·simp[ub]
end Go.Proofs.YthgkdhnlehneeaaGreatDoor
