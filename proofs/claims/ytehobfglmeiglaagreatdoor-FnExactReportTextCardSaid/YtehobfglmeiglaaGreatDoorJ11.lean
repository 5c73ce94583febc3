/- J11 -/
import Derived.Test.YtehobfglmeiglaaGreatDoorJ10
import Derived.Test.YtehobfglmeiglaaGreatDoorJ02
import Derived.Test.YtehobfglmeiglaaGreatDoorJ07
set_option linter.unusedVariables false
set_option linter.unusedSimpArgs false
set_option maxRecDepth 100000
namespace Go.Proofs.YtehobfglmeiglaaGreatDoor
open Go.Proofs.Tryz
open Go.ChangeShapes Go.WideShapes Go.RowKit
def kQ:List (List Nat):=bk [0,1,129,12354,0,0,6,0,29064,1134768026845575,0,12864277808390344836]
def ll:List (List Nat):=bj 11 [137700,137701,137704,137713,137618,122714,122957,120284,121499,127939,59048]
def kR:List (List Nat):=bk [0,1,129,0,4,0,6,454,33159,0,348045206026,3477390936682303749,891282945137324073027,61613317297253055217996,61613317297253055217996,311902252276487849558862,313778539262838596778864769]
def lm:List (List Nat):=bj 16 [177120,177121,177124,58832,58859,39608,39851,40580,42767,19682,29537,88573,265720,10363099,32683621,11957422]
def nB:List (List Nat):=bk [0,1,129,12354,12354,1318979,4328796549,486506500228,13265141784903,2564411225022531,180992954169053641,12846258869076758730,180992954169053641,15152101878290452682,1044601217194554323533,180992954169053641,18610866392110993610,1265962146079068942928,61643244241572623809819474207761,6253342968646612939663330639098508,208670669043823421316907952234890323,28314001861476616795539653203079991498,1884907940883966248012842449817758143701,127036007146039858029436393339887821271702,8483413557665557517948716269031472085939543,494117307255086448119078571165026390822458840]
def nF:List (List Nat):=bj 18 [0,1,4,661,67,148,364,1093,3280,9841,386918572,386977621,373573498,374104939,375699262,14319382,28668289,71715010]
def nC:List (List Nat):=bk [0,1,129,0,4,324,24837,0,8,848968016749128,182435784024662083,12736470503747260938,897119605715636850891,12736470503747260938,12736470503747260938,1118480534600151470283,76372997838154148119183,273860148148388040230638544,66793074800348938976694370366542,3584997738418217364984844423078669,419664783318470256266126788995322059]
def nG:List (List Nat):=bj 18 [19656,19657,19660,17522,17549,17630,17873,2186,4373,9841,29524,385914739,386091886,125862943,4694395,9477364,23826271,65278669]
def tG(n:DLogNode)(i:Int):DHead:=⟨n.head.num+1,i,xN n.book i,(aK n.head.seen (f8 n.book (n.book.base+1) i)).1⟩
theorem ui(n:DLogNode)(i:Int)(hb:bd n.book=true)(hn:0<=n.head.num/\n.head.num<=2000)(h1:n.book.base+1<=i)(h2:i<=bO n.book):aj av 218 [.agg n.ds,.one (dI i)] (.val (.agg (tG n i).ds)):=by
  have hp:=bJ hb
  have hq:=co hb
  have h20:=hp.2.2.1
  refine ae ah func218 rfl call218 ntmps218 (MC results218) λS=>?_;conv=>whnf
  repeat'((first|refine aw0 ?_|refine aw1 ?_|refine aw2 ?_|refine aw3 ?_|refine aw4 ?_|refine aw5 ?_|refine aw6 ?_|refine aw7 ?_|refine aw8 ?_|refine bT ?_|refine bF ?_|refine AWP.drawK ah 1 11 kQ ll Mp Mp Mp rfl ?_|refine AW.i64 Mo Mo ?_|refine cP (ru n.book i hb h1 h2) ?_|exact rr|refine And.intro rfl ?_|refine AB.mk (λh=>?_) (λh=>?_))<;>conv=>whnf)
  refine AWP.drawSO ah 2 16 kR lm 15 13 Mp Mp Mp rfl ⟨_,rfl,rfl,rfl,rfl⟩ rfl rfl rfl rfl ?_;conv=>whnf
  repeat'((first|refine aw0 ?_|refine aw1 ?_|refine aw2 ?_|refine aw3 ?_|refine aw4 ?_|refine aw5 ?_|refine aw6 ?_|refine aw7 ?_|refine aw8 ?_|refine bT ?_|refine bF ?_|refine AW.i64 Mo Mo ?_|refine cP (j9 n.book _ _ h20) ?_|refine cP (ie n.head.seen (f8 n.book (n.book.base+1) i)) ?_|exact rr|refine And.intro rfl ?_|refine AB.mk (λh=>?_) (λh=>?_))<;>conv=>whnf)
  refine⟨_,_,_,_,_,?o1,rfl,rfl,rfl,rfl,?hst,?hk⟩
  case hst=>
    conv=>whnf
  conv=>whnf
  refine⟨rfl,?_,?_⟩
  · repeat'(first|exact trivial|exact⟨rfl,rfl⟩|(refine⟨?_,?_⟩)|((first|refine aw0 ?_|refine aw1 ?_|refine aw2 ?_|refine aw3 ?_|refine aw4 ?_|refine aw5 ?_|refine aw6 ?_|refine aw7 ?_|refine aw8 ?_|refine bT ?_|refine bF ?_)<;>conv=>whnf)|(conv=>whnf))
  conv=>whnf
  repeat'((first|refine aw0 ?_|refine aw1 ?_|refine aw2 ?_|refine aw3 ?_|refine aw4 ?_|refine aw5 ?_|refine aw6 ?_|refine aw7 ?_|refine aw8 ?_|refine bT ?_|refine bF ?_|exact rr|refine And.intro rfl ?_|refine AB.mk (λh=>?_) (λh=>?_))<;>conv=>whnf)
  all_goals rfl
theorem Gh{α:Type}[BEq α][LawfulBEq α][DecidableEq α](x:α×Bool)(s:α):(x==(s,true))=(x.2&&decide (x.1=s)):=by
  obtain⟨a,b⟩:=x
  cases b<;>(rw[Bool.eq_iff_iff];simp[Prod.mk.injEq])
def g7(n:DLogNode):Bool:=oz n.two&&dg n.head&&bd n.book&&n.book.base==n.head.base&&n.book.time==n.head.time
def gI(n:DLogNode):Bool:=(aK n.head.seen n.book.entries).2&&decide ((aK n.head.seen n.book.entries).1=n.seen)&&ai n.durable n.book.base (bO n.book)
theorem rM{α:Type}[BEq α][LawfulBEq α][DecidableEq α](a b:α):(a==b)=decide (a=b):=by
  rw[Bool.eq_iff_iff];simp
theorem gH(n:DLogNode):gG n=(g7 n&&gI n&&decide (n.owe=(cY n.book n.durable).map bb)&&fF n):=by
  simp only[gG,g7,gI,Gh,Bool.and_assoc,rM n.owe]
theorem xA{n:DLogNode}(h:g7 n=true):oz n.two=true/\dg n.head=true/\bd n.book=true/\n.book.base=n.head.base/\n.book.time=n.head.time:=by
  simp only[g7,Bool.and_eq_true,beq_iff_eq]at h
  exact⟨h.1.1.1.1,h.1.1.1.2,h.1.1.2,h.1.2,h.2⟩
theorem gV{h:DHead}(hh:dg h=true):(0<=h.num/\h.num<=2000)/\(0<=h.base/\h.base<=2000)/\aW h.seen=true:=by
  simp only[dg,Bool.and_eq_true,ai,decide_eq_true_eq]at hh
  exact⟨by omega,by omega,hh.1.2⟩
theorem Cc{n:DLogNode}(h:g7 n=false):gG n=false:=by simp only[gH,h,Bool.false_and]
theorem ne{n:DLogNode}(h:gI n=false):gG n=false:=by simp only[gH,h,Bool.false_and,Bool.and_false]
theorem FY{n:DLogNode}(h:decide (n.owe=(cY n.book n.durable).map bb)=false):gG n=false:=by simp only[gH,h,Bool.false_and,Bool.and_false]
theorem FZ{n:DLogNode}{b:Bool}(h1:g7 n=true)(h2:gI n=true)(h3:decide (n.owe=(cY n.book n.durable).map bb)=true)(h:b=fF n):b=gG n:=by simp only[gH,h1,h2,h3,h,Bool.true_and]
theorem xo{n:DLogNode}(h:(!ai n.durable n.book.base (bO n.book))=false):n.book.base<=n.durable/\n.durable<=bO n.book:=by
  simpa[ai]using h
theorem Iq{n:DLogNode}(h:(!(aK n.head.seen n.book.entries).snd)=true):gI n=false:=by
  rw[Bool.not_eq_true']at h;simp only[gI,h,Bool.false_and]
theorem Ir{n:DLogNode}(h:(!decide ((aK n.head.seen n.book.entries).fst=n.seen))=true):gI n=false:=by
  rw[Bool.not_eq_true']at h;simp only[gI,h,Bool.false_and,Bool.and_false]
theorem Is{n:DLogNode}(h:(!ai n.durable n.book.base (bO n.book))=true):gI n=false:=by
  rw[Bool.not_eq_true']at h;simp only[gI,h,Bool.and_false]
theorem It{n:DLogNode}(h1:(!(aK n.head.seen n.book.entries).snd)=false)(h2:(!decide ((aK n.head.seen n.book.entries).fst=n.seen))=false)(h3:(!ai n.durable n.book.base (bO n.book))=false):gI n=true:=by
  rw[Bool.not_eq_false']at h1 h2 h3;simp only[gI,h1,h2,h3,Bool.and_self]
theorem tM{s:List DMark}{l:List DEntry}(h:aW s=true):(aK s l).1.length<=4:=by
  unfold aK
  simp only[h,Bool.not_true,Bool.false_eq_true,if_false]
  split
  · exact dc h
  · cases hf:bg s l with
    |none=>exact dc h
    |some c=>exact dc (iY h hf)
theorem q5{n:DLogNode}(h:(!n.more)=true):decide (n.nxt=kv)=fF n:=by
  rw[Bool.not_eq_true']at h;simp only[fF,h,Bool.false_eq_true,if_false,rM n.nxt]
theorem q4{n:DLogNode}(hb:bd n.book=true):tG n n.nxt.base=fT n:=by
  simp only[tG,fT,Gj hb,xN,xp]
theorem ni{n:DLogNode}(hm:(!n.more)=false):fF n=(ai n.nxt.base (n.head.base+1) n.durable&&decide (n.nxt=fT n)):=by
  rw[Bool.not_eq_false']at hm;simp only[fF,hm,if_true,rM n.nxt]
theorem Ce{n:DLogNode}(hbb:n.book.base=n.head.base)(h:ai n.nxt.base (n.head.base+1) n.durable=true):n.book.base+1<=n.nxt.base:=by
  simp only[ai,Bool.and_eq_true,decide_eq_true_eq]at h;omega
theorem Cd{n:DLogNode}(h3:(!ai n.durable n.book.base (bO n.book))=false)(h:ai n.nxt.base (n.head.base+1) n.durable=true):n.nxt.base<=bO n.book:=by
  have:=xo h3
  simp only[ai,Bool.and_eq_true,decide_eq_true_eq]at h;omega
set_option maxHeartbeats 2000000 in
theorem zH(n:DLogNode)(hhs:n.head.seen.length<=9223372036854775806)(ho:n.owe.length<=9223372036854775806)(hs:n.seen.length<=9223372036854775806)(hx:n.nxt.seen.length<=9223372036854775806):aj av 117 [.agg n.ds] (rB (gG n)):=by
  refine ae ah func117 rfl call117 ntmps117 (MC results117) λS=>?_;conv=>whnf
  repeat'((first|refine aw0 ?_|refine aw1 ?_|refine aw2 ?_|refine aw3 ?_|refine aw4 ?_|refine aw5 ?_|refine aw6 ?_|refine aw7 ?_|refine aw8 ?_|refine bT ?_|refine bF ?_|refine cP (wm n.two) ?_|refine cP (wl n.head hhs) ?_|refine cP (np n.book) ?_|refine cP (ie n.head.seen n.book.entries) ?_|exact rr|refine And.intro rfl ?_|refine AB.mk (λh=>?_) (λh=>?_))<;>conv=>whnf)
  all_goals first
    | (have hno : g7 n = false := by simp_all [g7]
       rw[Cc hno];done)
    |skip
  have h1:g7 n=true:=by simp_all[g7]
  obtain⟨hk,hh,hb,hbb,htt⟩:=xA h1
  have hq:=gV hh
  have hp:=bJ hb
  have hl:=co hb
  have hsv:(aK n.head.seen n.book.entries).1.length<=9223372036854775806:=Nat.le_trans (tM hq.2.2) Mq
  repeat'((first|refine aw0 ?_|refine aw1 ?_|refine aw2 ?_|refine aw3 ?_|refine aw4 ?_|refine aw5 ?_|refine aw6 ?_|refine aw7 ?_|refine aw8 ?_|refine bT ?_|refine bF ?_|refine AWP.drawK ah 4 18 nB nF Mp Mp Mp rfl ?_|refine cP (ic (aK n.head.seen n.book.entries).1 n.seen hsv) ?_|refine cP (nv n.book hb) ?_|refine cP (aA _ _ _) ?_|refine cP (uj n hb (xo Mt) ho) ?_|exact rr|refine And.intro rfl ?_|refine AB.mk (λh=>?_) (λh=>?_))<;>conv=>whnf)
  all_goals first
    |(rw[ne (Iq h)];done)
    |(rw[ne (Ir h)];done)
    |(rw[ne (Is h)];done)
    |(rw[FY (by rwa[Bool.not_eq_true']at h)];done)
    |skip
  all_goals
    have h2:gI n=true:=It Mt Mt Mt
    have h3:decide (n.owe=(cY n.book n.durable).map bb)=true:=by
      have:(!decide (n.owe=List.map bb (cY n.book n.durable)))=false:=by assumption
      rwa[Bool.not_eq_false']at this
    repeat'((first|refine aw0 ?_|refine aw1 ?_|refine aw2 ?_|refine aw3 ?_|refine aw4 ?_|refine aw5 ?_|refine aw6 ?_|refine aw7 ?_|refine aw8 ?_|refine bT ?_|refine bF ?_|refine AWP.drawK ah 8 18 nC nG Mp Mp Mp rfl ?_|refine AW.i64 Mo Mo ?_|refine cP (aA _ _ _) ?_|refine cP (fe n.nxt kv hx) ?_|refine cP (ui n n.nxt.base hb hq.1 (Ce hbb Mt) (Cd Mt Mt)) ?_|refine cP (fe n.nxt (tG n n.nxt.base) hx) ?_|exact rr|refine And.intro rfl ?_|refine AB.mk (λh=>?_) (λh=>?_))<;>conv=>whnf)
    all_goals
      refine aG (FZ h1 h2 h3 ?_)
      first
        |exact q5 Mt
        |(rw[ni Mt,q4 hb];simp_all;done)
        |(rw[ni Mt,<-q4 hb];simp_all;done)
end Go.Proofs.YtehobfglmeiglaaGreatDoor
namespace Go.Proofs.YtehobfglmeiglaaGreatDoor
open Go.Proofs.Tryz
open Go.ChangeShapes Go.WideShapes Go.RowKit
def kS:List (List Nat):=bk [0,1,129,12354,1056835,1056835,101453956,7583830214,1056835,151785604,90920957393793673,12847112094327771333,297472660140854125131]
def ln:List (List Nat):=bj 10 [0,1,4,13,58846,52690,52933,53662,6520,13081]
def jC:List (List Nat):=bk [0,1,0,3,0,0,6,20934,4347421125,567971962978500,181283635458248770,181283635458248770,813983152403580207756,56817288236698778510155]
def jN:List (List Nat):=bj 12 [19674,19675,6488,6497,2024,242,485,1133,3284,9841,383818,147622]
def nD:List (List Nat):=bk [0,1,129,12354,12354,1318979,4328796549,486506500228,13265141784903,2564411225022531,180992954169053641,12846258869076758730,180992954169053641,15152101878290452682,1044601217194554323533,180992954169053641,18610866392110993610,1265962146079068942928,61643244241572623809819474207761,6253342968646612939663330639098508,208670669043823421316907952234890323]
def nH:List (List Nat):=bj 18 [0,1,4,661,67,148,364,1093,3280,9841,386918572,386977621,373573498,374104939,375699262,14319382,28668289,71715010]
def nE:List (List Nat):=bk [0,1,129,12354,1056835,12354,1581123,12354,2105411,484274889288,90920957427880327,3477390728426987781,891283231214307909699]
def nI:List (List Nat):=bj 10 [0,1,4,58819,58846,17725,17968,2173,4360,9949]
theorem qM{s c:List DMark}{l:List DEntry}(h:bg s l=some c)(k:Nat):∃c',bg s (l.take k)=some c':=by
  rw[<-List.take_append_drop k l,gU]at h
  cases hk:bg s (l.take k)with
  |none=>rw[hk]at h;cases h
  |some c'=>exact⟨c',rfl⟩
theorem C0{s c:List DMark}{l:List DEntry}{k:Nat}(hk:k<l.length)(h:bg s (l.take (k+1))=some c):aN c=l[k].index:=by
  obtain⟨c0,h0⟩:=qM h k
  rw[List.take_take,Nat.min_eq_left Mo]at h0
  rw[m2 hk h0]at h
  unfold bS at h
  split at h
  · rename_i hc
    injection h with h
    subst h
    simp only[Bool.and_eq_true,decide_eq_true_eq]at hc
    exact vZ Mo
  · cases h
theorem EU{s:List DMark}{l:List DEntry}(hs:aW s=true)(h:(aK s l).2=true):l.length<=2000/\∃c,bg s l=some c:=by
  unfold aK at h
  simp only[hs,Bool.not_true,Bool.false_eq_true,if_false]at h
  split at h
  · cases h
  · rename_i hl
    refine⟨by omega,?_⟩
    cases hf:bg s l with
    |none=>rw[hf]at h;cases h
    |some c=>exact⟨c,rfl⟩
theorem zn{n:DLogNode}(hb:bd n.book=true)(hh:dg n.head=true)(hbb:n.book.base=n.head.base)(hso:(aK n.head.seen n.book.entries).2=true)(h1:n.head.base+1<=n.nxt.base)(h2:n.nxt.base<=bO n.book):dg (fT n)=true:=by
  have hq:=gV hh
  have hl:=co hb
  obtain⟨hlen,c,hc⟩:=EU hq.2.2 hso
  obtain⟨k,hk⟩:∃k:Nat,n.nxt.base=n.book.base+1+k:=⟨(n.nxt.base-n.book.base-1).toNat,by omega⟩
  have hkl:k<n.book.entries.length:=by unfold bO at h2;omega
  obtain⟨c',hc'⟩:=qM hc (k+1)
  have e1:(n.nxt.base-n.book.base).toNat=k+1:=by omega
  have e2:(n.nxt.base-n.book.base-1).toNat=k:=by omega
  have hov:aK n.head.seen (iP n.book n.nxt.base)=(c',true):=by
    unfold iP
    rw[e1]
    exact qt hq.2.2 Mv hc'
  have hlast:=C0 hkl hc'
  have hidx:=jw hb k hkl
  have hent:=ot hb hkl
  have ht:tOk n.book.entries[k].time=true:=by
    simp only[bu,Bool.and_eq_true]at hent
    simpa[tOk]using hent.1.1.1.2
  have hnum:n.head.num<=n.head.base:=by
    simp only[dg,Bool.and_eq_true,ai,decide_eq_true_eq]at hh
    omega
  have eH:fT n=⟨n.head.num+1,n.nxt.base,n.book.entries[k].time,c'⟩:=by
    simp only[fT,hov,e2,List.getD_eq_getElem?_getD,List.getElem?_eq_getElem hkl,Option.getD_some]
  have hcs:=iY hq.2.2 hc'
  rw[eH]
  simp only[dg,Bool.and_eq_true,ai,decide_eq_true_eq,Bool.or_eq_true,beq_iff_eq]
  exact⟨⟨⟨⟨⟨⟨by omega,by omega⟩,by omega,by omega⟩,ht⟩,.inl Mo⟩,hcs⟩,by omega⟩
def yA(b:DBook)(i:Int):DEntry:=b.entries.getD (i-b.base-1).toNat xp
theorem GM{x lo hi:Int}(h1:lo<=x)(h2:x<=hi):ai x lo hi=true:=by simp[ai,h1,h2]
theorem ta(b:DBook)(i:Int)(hb:bd b=true)(h1:b.base+1<=i)(h2:i<=bO b):aj av 299 [.agg b.ds,.one (dI i)] (.tup [.agg (yA b i).ds,.one (dB true)]):=by
  have hp:=bJ hb
  have hq:=co hb
  have hbt:(!ai i (b.base+1) (bO b))=false:=by rw[GM h1 h2];rfl
  have hbn:(!bd b)=false:=by rw[hb];rfl
  obtain⟨k,hk⟩:∃k:Nat,i-b.base-1=k:=⟨(i-b.base-1).toNat,by omega⟩
  have hkl:k<b.entries.length:=by unfold bO at h2;omega
  refine ae ah func299 rfl call299 ntmps299 (MC results299) λS=>?_;conv=>whnf
  repeat'((first|refine aw0 ?_|refine aw1 ?_|refine aw2 ?_|refine aw3 ?_|refine aw4 ?_|refine aw5 ?_|refine aw6 ?_|refine aw7 ?_|refine aw8 ?_|refine bT ?_|refine bF ?_|refine AWP.drawK ah 1 10 kS ln Mp Mp Mp rfl ?_|refine AW.i64 Mo Mo ?_|refine AIx.at k (DEntry.ds (b.entries[k]'hkl)) hk (by simp[hkl]) ?_|refine cP (m5 b) ?_|refine cP (gn b hb) ?_|refine cP (aq _ _ _) ?_|exact rr|refine And.intro rfl ?_|refine AB.mk (λh=>?_) (λh=>?_))<;>conv=>whnf)
  have e:yA b i=b.entries[k]'hkl:=by
    have e2:(i-b.base-1).toNat=k:=by omega
    simp only[yA,e2,List.getD_eq_getElem?_getD,List.getElem?_eq_getElem hkl,Option.getD_some]
  rw[e];rfl
theorem qY(h:DHead)(b:DBook)(i:Int)(hs:h.seen.length<=9223372036854775806)(h0:(0<=b.base/\b.base<=2000)/\b.entries.length<=20)(h1:b.base<=i)(h2:i<=bO b):aj av 300 [.agg h.ds,.agg b.ds,.one (dI i)] (tO (aK h.seen (iP b i))):=by
  obtain⟨k,hk⟩:∃k:Nat,i-b.base=k:=⟨(i-b.base).toNat,by omega⟩
  have hkl:k<=b.entries.length:=by unfold bO at h2;omega
  have hlb:bO b<=3000:=by unfold bO;omega
  have hx:List.drop 0 (List.take k (b.entries.map DEntry.ds))=(iP b i).map DEntry.ds:=by
    have e2:(i-b.base).toNat=k:=by omega
    simp only[List.drop_zero,iP,e2,List.map_take]
  refine ae ah func300 rfl call300 ntmps300 (MC results300) λS=>?_;conv=>whnf
  repeat'(first|((first|refine aw0 ?_|refine aw1 ?_|refine aw2 ?_|refine aw3 ?_|refine aw4 ?_|refine aw5 ?_|refine aw6 ?_|refine aw7 ?_|refine aw8 ?_|refine bT ?_|refine bF ?_|refine AWP.drawK ah 1 12 jC jN Mp Mp Mp rfl ?_|refine AW.i64 Mo Mo ?_|refine⟨0,k,rfl,hk,Nat.zero_le _,(by simpa using hkl),?_⟩)<;>conv=>whnf)|(refine ce (λx hx=>by obtain⟨y,_,rfl⟩:=List.mem_map.1 hx;rfl) ?_;conv=>whnf;rw[hx])|((first|refine cP (gX h.seen (iP b i) hs) ?_|exact rr|refine And.intro rfl ?_|refine AB.mk (λh=>?_) (λh=>?_))<;>conv=>whnf))
theorem nj{n:DLogNode}(hm:(!n.more)=false)(hb:bd n.book=true)(hh:dg n.head=true)(hbb:n.book.base=n.head.base)(hd:n.book.base<=n.durable/\n.durable<=bO n.book)(hso:(aK n.head.seen n.book.entries).2=true)
    (h:dg n.nxt=false\/n.nxt.num≠n.head.num+1\/n.nxt.base<=n.head.base\/n.durable<n.nxt.base):fF n=false:=by
  rw[ni hm,<-Bool.not_eq_true]
  simp only[Bool.and_eq_true,ai,decide_eq_true_eq]
  rintro⟨⟨h1,h2⟩,h3⟩
  rcases h with h|h|h|h
  · have:=zn hb hh hbb hso h1 Mo
    rw[<-h3,h]at this
    cases this
  · exact h (congrArg DHead.num h3)
  · omega
  · omega
theorem Bn{n:DLogNode}(hm:(!n.more)=false)(h1:n.nxt.num=n.head.num+1)(h2:¬n.nxt.base<=n.head.base)(h3:¬n.nxt.base>n.durable):fF n=((n.nxt.time==(yA n.book n.nxt.base).time)&&decide (n.nxt.seen=(aK n.head.seen (iP n.book n.nxt.base)).1)):=by
  have hbt:ai n.nxt.base (n.head.base+1) n.durable=true:=GM Mo Mo
  rw[ni hm,hbt,Bool.true_and,Bool.eq_iff_iff]
  simp only[decide_eq_true_eq,Bool.and_eq_true,beq_iff_eq,rN,fT,yA,xp,h1,true_and]
set_option maxHeartbeats 1000000 in
theorem vV(n:DLogNode)(hb:bd n.book=true)(hh:dg n.head=true)(hbb:n.book.base=n.head.base)(hd:n.book.base<=n.durable/\n.durable<=bO n.book)(hso:(aK n.head.seen n.book.entries).2=true)(hhs:n.head.seen.length<=9223372036854775806)(hx:n.nxt.seen.length<=9223372036854775806):aj av 250 [.agg n.ds] (rB (fF n)):=by
  have hq:=gV hh
  have hp:=bJ hb
  have hl:=co hb
  refine ae ah func250 rfl call250 ntmps250 (MC results250) λS=>?_;conv=>whnf
  repeat'((first|refine aw0 ?_|refine aw1 ?_|refine aw2 ?_|refine aw3 ?_|refine aw4 ?_|refine aw5 ?_|refine aw6 ?_|refine aw7 ?_|refine aw8 ?_|refine bT ?_|refine bF ?_|refine AW.i64 Mo Mo ?_|refine cP (eC n.nxt kv hx) ?_|refine cP (m6 n.nxt hx) ?_|exact rr|refine And.intro rfl ?_|refine AB.mk (λh=>?_) (λh=>?_))<;>conv=>whnf)
  · exact congrArg rB (q5 h)
  all_goals first
    |(rw[nj Mt hb hh hbb hd hso (.inl (by simpa using h))];done)
    |(rw[nj Mt hb hh hbb hd hso (.inr (.inl (by simpa using h)))];done)
    |(rw[nj Mt hb hh hbb hd hso (.inr (.inr (.inl (by simpa using h))))];done)
    |(rw[nj Mt hb hh hbb hd hso (.inr (.inr (.inr (by simpa using h))))];done)
    |skip
  have hm:(!n.more)=false:=by assumption
  have g1:n.nxt.num=n.head.num+1:=by
    have:(n.nxt.num !=n.head.num+1)=false:=by assumption
    simpa using this
  have g2:¬n.nxt.base<=n.head.base:=by
    have:decide (n.nxt.base<=n.head.base)=false:=by assumption
    simpa using this
  have g3:¬n.nxt.base>n.durable:=by simpa using h
  repeat'((first|refine aw0 ?_|refine aw1 ?_|refine aw2 ?_|refine aw3 ?_|refine aw4 ?_|refine aw5 ?_|refine aw6 ?_|refine aw7 ?_|refine aw8 ?_|refine bT ?_|refine bF ?_|refine cP (ta n.book n.nxt.base hb Mo Mo) ?_|refine cP (qY n.head n.book n.nxt.base hhs ⟨hp.1,hp.2.2.1⟩ Mo Mo) ?_|refine cP (cO n.nxt.seen (aK n.head.seen (iP n.book n.nxt.base)).1 hx) ?_|exact rr|refine And.intro rfl ?_|refine AB.mk (λh=>?_) (λh=>?_))<;>conv=>whnf)
  all_goals
    refine aG ?_
    rw[Bn hm g1 g2 g3]
    simp_all
theorem Ie{a b:DTwo}:a=b↔(a.a=b.a/\a.b=b.b):=by
  cases a;cases b;simp[DTwo.mk.injEq]
theorem EO{a b:DLogNode}:a=b↔(a.two.a=b.two.a/\a.two.b=b.two.b/\a.head=b.head/\a.nxt=b.nxt/\a.more=b.more/\a.book=b.book/\a.seen=b.seen/\a.durable=b.durable/\a.owe=b.owe):=by
  cases a;cases b
  simp[DLogNode.mk.injEq,Ie,and_assoc]
structure lD (n:DLogNode):Prop where
  a1:n.two.a.kept.length<=9223372036854775806
  a2:∀y∈n.two.a.kept,y.length<=9223372036854775806
  a3:n.two.a.wait.length<=9223372036854775806
  a4:∀y∈n.two.a.wait,y.row.length<=9223372036854775806
  b1:n.two.b.kept.length<=9223372036854775806
  b2:∀y∈n.two.b.kept,y.length<=9223372036854775806
  b3:n.two.b.wait.length<=9223372036854775806
  b4:∀y∈n.two.b.wait,y.row.length<=9223372036854775806
  head:n.head.seen.length<=9223372036854775806
  nxt:n.nxt.seen.length<=9223372036854775806
  book:n.book.entries.length<=9223372036854775806
  seen:n.seen.length<=9223372036854775806
  owe:n.owe.length<=9223372036854775806
set_option maxHeartbeats 1000000 in
theorem te(a b:DLogNode)(hs:lD a):aj av 157 [.agg a.ds,.agg b.ds] (rB (decide (a=b))):=by
  refine ae ah func157 rfl call157 ntmps157 (MC results157) λS=>?_;conv=>whnf
  repeat'((first|refine aw0 ?_|refine aw1 ?_|refine aw2 ?_|refine aw3 ?_|refine aw4 ?_|refine aw5 ?_|refine aw6 ?_|refine aw7 ?_|refine aw8 ?_|refine bT ?_|refine bF ?_|refine cP (g0 a.two.a b.two.a hs.a1 hs.a2 hs.a3 hs.a4) ?_|refine cP (g0 a.two.b b.two.b hs.b1 hs.b2 hs.b3 hs.b4) ?_|refine cP (eC a.head b.head hs.head) ?_|refine cP (eC a.nxt b.nxt hs.nxt) ?_|refine cP (qQ a.book b.book hs.book) ?_|refine cP (cO a.seen b.seen hs.seen) ?_|refine cP (nw a.owe b.owe hs.owe) ?_|exact rr|refine And.intro rfl ?_|refine AB.mk (λh=>?_) (λh=>?_))<;>conv=>whnf)
  all_goals
    refine aG ?_
    rw[Bool.eq_iff_iff]
    simp only[decide_eq_true_iff,EO]
    simp_all
def DM:Prop:=∀(b:DBook) (d:Int),bd b=true->b.base<=d->d<=bO b->aj av 252 [.agg b.ds,.one (dI d)] (.val (.one (.sl (((cY b d).map bb).map DAck.ds))))
set_option maxHeartbeats 1000000 in
theorem yS(how:DM)(n:DLogNode)(hs:lD n):aj av 155 [.agg n.ds] (rB (gG n)):=by
  refine ae ah func155 rfl call155 ntmps155 (MC results155) λS=>?_;conv=>whnf
  repeat'((first|refine aw0 ?_|refine aw1 ?_|refine aw2 ?_|refine aw3 ?_|refine aw4 ?_|refine aw5 ?_|refine aw6 ?_|refine aw7 ?_|refine aw8 ?_|refine bT ?_|refine bF ?_|refine cP (vP n.two) ?_|refine cP (m6 n.head hs.head) ?_|refine cP (m5 n.book) ?_|refine cP (gX n.head.seen n.book.entries hs.head) ?_|exact rr|refine And.intro rfl ?_|refine AB.mk (λh=>?_) (λh=>?_))<;>conv=>whnf)
  all_goals first
    | (have hno : g7 n = false := by simp_all [g7]
       rw[Cc hno];done)
    |skip
  have h1:g7 n=true:=by simp_all[g7]
  obtain⟨hk,hh,hb,hbb,htt⟩:=xA h1
  have hq:=gV hh
  have hp:=bJ hb
  have hl:=co hb
  have hsv:(aK n.head.seen n.book.entries).1.length<=9223372036854775806:=Nat.le_trans (tM hq.2.2) Mq
  repeat'((first|refine aw0 ?_|refine aw1 ?_|refine aw2 ?_|refine aw3 ?_|refine aw4 ?_|refine aw5 ?_|refine aw6 ?_|refine aw7 ?_|refine aw8 ?_|refine bT ?_|refine bF ?_|refine AWP.drawK ah 4 18 nD nH Mp Mp Mp rfl ?_|refine cP (cO (aK n.head.seen n.book.entries).1 n.seen hsv) ?_|refine cP (gn n.book hb) ?_|refine cP (aq _ _ _) ?_|exact rr|refine And.intro rfl ?_|refine AB.mk (λh=>?_) (λh=>?_))<;>conv=>whnf)
  all_goals first
    |(rw[ne (Iq h)];done)
    |(rw[ne (Ir h)];done)
    |(rw[ne (Is h)];done)
    |skip
  have h2:gI n=true:=It Mt Mt Mt
  have hd:=xo h
  have hso:(aK n.head.seen n.book.entries).2=true:=by
    have:(!(aK n.head.seen n.book.entries).snd)=false:=by assumption
    rwa[Bool.not_eq_false']at this
  repeat'((first|refine aw0 ?_|refine aw1 ?_|refine aw2 ?_|refine aw3 ?_|refine aw4 ?_|refine aw5 ?_|refine aw6 ?_|refine aw7 ?_|refine aw8 ?_|refine bT ?_|refine bF ?_|refine AWP.drawK ah 6 10 nE nI Mp Mp Mp rfl ?_|refine cP (vV n hb hh hbb hd hso hs.head hs.nxt) ?_|refine cP (how n.book n.durable hb hd.1 hd.2) ?_|refine cP (nw n.owe ((cY n.book n.durable).map bb) hs.owe) ?_|exact rr|refine And.intro rfl ?_|refine AB.mk (λh=>?_) (λh=>?_))<;>conv=>whnf)
  all_goals
    refine aG ?_
    simp only[gH,h1,h2,Bool.true_and]
    simp_all
end Go.Proofs.YtehobfglmeiglaaGreatDoor
