/- WH -/
import Derived.Test.YthgkdhnlehneeaaGreatDoorAwx
import Derived.Test.YthgkdhnlehneeaaGreatDoorAvFC
import Derived.Test.YthgkdhnlehneeaaGreatDoorWA1
set_option maxHeartbeats 8000000
set_option linter.unusedVariables false
set_option linter.unusedSimpArgs false
set_option maxRecDepth 100000
namespace Go.Proofs.YthgkdhnlehneeaaGreatDoor
open Go.Proofs.Tryz
open Go.ChangeShapes Go.WideShapes Go.RowKit
variable {k:Nat}{α:Type}
def aX:List (List Nat):=bC [0,0,66,12417,0,0,326,29061,17663105454471]
def aR:List (List Nat):=dW 8 [6486,6482,6484,6493,566,242,404,1133]
theorem mJ[DecidableEq α]{a b:List α}(h:¬a.length=b.length):decide (a=b)=false:=decide_eq_false λe=>h (by rw[e])
theorem sT[DecidableEq α]{a b:List α}(h1:k<a.length)(h2:k<b.length)(h:a[k]≠b[k]):decide (a=b)=false:=decide_eq_false λe=>h (by subst e;rfl)
theorem mI[DecidableEq α]{a b:List α}(hl:a.length=b.length)(h:∀(j:Nat) (h1:j<a.length) (h2:j<b.length),a[j]=b[j]):decide (a=b)=true:=decide_eq_true (List.ext_getElem hl h)
theorem jY{a b:List α}(h:∀(j:Nat) (hj:j<k) (h1:j<a.length) (h2:j<b.length),a[j]=b[j])(hk:∀(h1:k<a.length) (h2:k<b.length),a[k]=b[k]):∀(j:Nat) (hj:j<k+1) (h1:j<a.length) (h2:j<b.length),a[j]=b[j]:=by
  intro j hj h1 h2;by_cases hjk:j=k
  · subst hjk;exact hk h1 h2
  · exact h j ac h1 h2
theorem Gm(a b:List aT)(ha:a.length<=9223372036854775806):aN av 297 [.one (.sl (a.map aT.ds)),.one (.sl (b.map aT.ds))] (rB (decide (a=b))):=by
  refine pO func297 call297 ntmps297 results297 λS=>?_;conv=>whnf
  repeat'(first|refine awz ?_|refine tB ?_ ?_|(intro h;conv=>whnf))
  · rw[mJ an]
  · have hlen:a.length=b.length:=an;clear h;refine aaK (λk:Nat=>k<=a.length/\∀(j:Nat) (hj:j<k) (h1:j<a.length) (h2:j<b.length),a[j]=b[j]) (4::5::rg 13 13) (λk=>[(13,vI .i64 (k:Int))]) (λ_=>[]) (λk=>a.length-k) 0 ⟨ac,ac⟩ ?_ aaE (λk hR=>?_)<;>(conv=>whnf)
    · exact whd
    · obtain⟨hk,hall⟩:=hR;repeat'((first|refine awz ?_|refine aaJ aM 6 8 aX aR ae ae ae rfl ?_|refine aaO ari (λhlt=>?_)|refine aaH ari ari ?_|refine aaW (rP _ _) rfl rfl rfl rfl rfl ?_|refine tB ?_ ?_|intro h)<;>conv=>whnf)
      all_goals first
        |(rw[sT (k:=k) ari ari ar];done)
        | (refine a8.mk ⟨k + 1, ⟨ari, jY hall fun h1 h2 => by simpa using h⟩, ari, ?_, aaE⟩
           exact hds)
        | (have hkk : k = a.length := ari
           rw[mI hlen λj h1 h2=>hall j ac h1 h2])
theorem xj(a b:List fE)(ha:a.length<=9223372036854775806):aN av 210 [.one (.sl (a.map fE.ds)),.one (.sl (b.map fE.ds))] (rB (decide (a=b))):=by
  refine pO func210 call210 ntmps210 results210 λS=>?_;conv=>whnf
  repeat'(first|refine awz ?_|refine tB ?_ ?_|(intro h;conv=>whnf))
  · rw[mJ an]
  · have hlen:a.length=b.length:=an;clear h;refine aaK (λk:Nat=>k<=a.length/\∀(j:Nat) (hj:j<k) (h1:j<a.length) (h2:j<b.length),a[j]=b[j]) (4::5::rg 13 13) (λk=>[(13,vI .i64 (k:Int))]) (λ_=>[]) (λk=>a.length-k) 0 ⟨ac,ac⟩ ?_ aaE (λk hR=>?_)<;>(conv=>whnf)
    · exact whd
    · obtain⟨hk,hall⟩:=hR;repeat'((first|refine awz ?_|refine aaJ aM 6 8 aX aR ae ae ae rfl ?_|refine aaO ari (λhlt=>?_)|refine aaH ari ari ?_|refine aaW (Bv _ _) rfl rfl rfl rfl rfl ?_|refine tB ?_ ?_|intro h)<;>conv=>whnf)
      all_goals first
        |(rw[sT (k:=k) ari ari ar];done)
        | (refine a8.mk ⟨k + 1, ⟨ari, jY hall fun h1 h2 => by simpa using h⟩, ari, ?_, aaE⟩
           exact hds)
        | (have hkk : k = a.length := ari
           rw[mI hlen λj h1 h2=>hall j ac h1 h2])
theorem C3(a b:List aO)(ha:a.length<=9223372036854775806):aN av 306 [.one (.sl (a.map aO.ds)),.one (.sl (b.map aO.ds))] (rB (decide (a=b))):=by
  refine pO func306 call306 ntmps306 results306 λS=>?_;conv=>whnf
  repeat'(first|refine awz ?_|refine tB ?_ ?_|(intro h;conv=>whnf))
  · rw[mJ an]
  · have hlen:a.length=b.length:=an;clear h;refine aaK (λk:Nat=>k<=a.length/\∀(j:Nat) (hj:j<k) (h1:j<a.length) (h2:j<b.length),a[j]=b[j]) (4::5::rg 13 13) (λk=>[(13,vI .i64 (k:Int))]) (λ_=>[]) (λk=>a.length-k) 0 ⟨ac,ac⟩ ?_ aaE (λk hR=>?_)<;>(conv=>whnf)
    · exact whd
    · obtain⟨hk,hall⟩:=hR;repeat'((first|refine awz ?_|refine aaJ aM 6 8 aX aR ae ae ae rfl ?_|refine aaO ari (λhlt=>?_)|refine aaH ari ari ?_|refine aaW (Ct _ _) rfl rfl rfl rfl rfl ?_|refine tB ?_ ?_|intro h)<;>conv=>whnf)
      all_goals first
        |(rw[sT (k:=k) ari ari ar];done)
        | (refine a8.mk ⟨k + 1, ⟨ari, jY hall fun h1 h2 => by simpa using h⟩, ari, ?_, aaE⟩
           exact hds)
        | (have hkk : k = a.length := ari
           rw[mI hlen λj h1 h2=>hall j ac h1 h2])
theorem Gn(a b:List br)(ha:a.length<=9223372036854775806):aN av 310 [.one (.sl (a.map br.ds)),.one (.sl (b.map br.ds))] (rB (decide (a=b))):=by
  refine pO func310 call310 ntmps310 results310 λS=>?_;conv=>whnf
  repeat'(first|refine awz ?_|refine tB ?_ ?_|(intro h;conv=>whnf))
  · rw[mJ an]
  · have hlen:a.length=b.length:=an;clear h;refine aaK (λk:Nat=>k<=a.length/\∀(j:Nat) (hj:j<k) (h1:j<a.length) (h2:j<b.length),a[j]=b[j]) (4::5::rg 13 13) (λk=>[(13,vI .i64 (k:Int))]) (λ_=>[]) (λk=>a.length-k) 0 ⟨ac,ac⟩ ?_ aaE (λk hR=>?_)<;>(conv=>whnf)
    · exact whd
    · obtain⟨hk,hall⟩:=hR;repeat'((first|refine awz ?_|refine aaJ aM 6 8 aX aR ae ae ae rfl ?_|refine aaO ari (λhlt=>?_)|refine aaH ari ari ?_|refine aaW (rR _ _) rfl rfl rfl rfl rfl ?_|refine tB ?_ ?_|intro h)<;>conv=>whnf)
      all_goals first
        |(rw[sT (k:=k) ari ari ar];done)
        | (refine a8.mk ⟨k + 1, ⟨ari, jY hall fun h1 h2 => by simpa using h⟩, ari, ?_, aaE⟩
           exact hds)
        | (have hkk : k = a.length := ari
           rw[mI hlen λj h1 h2=>hall j ac h1 h2])
theorem I1(a b:List bo)(ha:a.length<=9223372036854775806):aN av 311 [.one (.sl (a.map bo.ds)),.one (.sl (b.map bo.ds))] (rB (decide (a=b))):=by
  refine pO func311 call311 ntmps311 results311 λS=>?_;conv=>whnf
  repeat'(first|refine awz ?_|refine tB ?_ ?_|(intro h;conv=>whnf))
  · rw[mJ an]
  · have hlen:a.length=b.length:=an;clear h;refine aaK (λk:Nat=>k<=a.length/\∀(j:Nat) (hj:j<k) (h1:j<a.length) (h2:j<b.length),a[j]=b[j]) (4::5::rg 13 13) (λk=>[(13,vI .i64 (k:Int))]) (λ_=>[]) (λk=>a.length-k) 0 ⟨ac,ac⟩ ?_ aaE (λk hR=>?_)<;>(conv=>whnf)
    · exact whd
    · obtain⟨hk,hall⟩:=hR;repeat'((first|refine awz ?_|refine aaJ aM 6 8 aX aR ae ae ae rfl ?_|refine aaO ari (λhlt=>?_)|refine aaH ari ari ?_|refine aaW (w8 _ _) rfl rfl rfl rfl rfl ?_|refine tB ?_ ?_|intro h)<;>conv=>whnf)
      all_goals first
        |(rw[sT (k:=k) ari ari ar];done)
        | (refine a8.mk ⟨k + 1, ⟨ari, jY hall fun h1 h2 => by simpa using h⟩, ari, ?_, aaE⟩
           exact hds)
        | (have hkk : k = a.length := ari
           rw[mI hlen λj h1 h2=>hall j ac h1 h2])
theorem IZ(a b:List eG)(ha:a.length<=9223372036854775806):aN av 393 [.one (.sl (a.map eG.ds)),.one (.sl (b.map eG.ds))] (rB (decide (a=b))):=by
  refine pO func393 call393 ntmps393 results393 λS=>?_;conv=>whnf
  repeat'(first|refine awz ?_|refine tB ?_ ?_|(intro h;conv=>whnf))
  · rw[mJ an]
  · have hlen:a.length=b.length:=an;clear h;refine aaK (λk:Nat=>k<=a.length/\∀(j:Nat) (hj:j<k) (h1:j<a.length) (h2:j<b.length),a[j]=b[j]) (4::5::rg 13 13) (λk=>[(13,vI .i64 (k:Int))]) (λ_=>[]) (λk=>a.length-k) 0 ⟨ac,ac⟩ ?_ aaE (λk hR=>?_)<;>(conv=>whnf)
    · exact whd
    · obtain⟨hk,hall⟩:=hR;repeat'((first|refine awz ?_|refine aaJ aM 6 8 aX aR ae ae ae rfl ?_|refine aaO ari (λhlt=>?_)|refine aaH ari ari ?_|refine aaW (Ih _ _) rfl rfl rfl rfl rfl ?_|refine tB ?_ ?_|intro h)<;>conv=>whnf)
      all_goals first
        |(rw[sT (k:=k) ari ari ar];done)
        | (refine a8.mk ⟨k + 1, ⟨ari, jY hall fun h1 h2 => by simpa using h⟩, ari, ?_, aaE⟩
           exact hds)
        | (have hkk : k = a.length := ari
           rw[mI hlen λj h1 h2=>hall j ac h1 h2])
theorem I0(a b:List Int)(ha:a.length<=9223372036854775806):aN av 398 [.one (.sl (a.map eI)),.one (.sl (b.map eI))] (rB (decide (a=b))):=by
  refine pO func398 call398 ntmps398 results398 λS=>?_;conv=>whnf
  repeat'(first|refine awz ?_|refine tB ?_ ?_|(intro h;conv=>whnf))
  · rw[mJ an]
  · have hlen:a.length=b.length:=an;clear h;refine aaK (λk:Nat=>k<=a.length/\∀(j:Nat) (hj:j<k) (h1:j<a.length) (h2:j<b.length),a[j]=b[j]) (4::5::rg 13 13) (λk=>[(13,vI .i64 (k:Int))]) (λ_=>[]) (λk=>a.length-k) 0 ⟨ac,ac⟩ ?_ aaE (λk hR=>?_)<;>(conv=>whnf)
    · exact whd
    · obtain⟨hk,hall⟩:=hR;repeat'((first|refine awz ?_|refine aaJ aM 6 8 aX aR ae ae ae rfl ?_|refine aaO ari (λhlt=>?_)|refine aaH ari ari ?_|refine tB ?_ ?_|intro h)<;>conv=>whnf)
      all_goals first
        |(rw[sT (k:=k) ari ari ar];done)
        | (refine a8.mk ⟨k + 1, ⟨ari, jY hall fun h1 h2 => by simpa using h⟩, ari, ?_, aaE⟩
           exact hds)
        | (have hkk : k = a.length := ari
           rw[mI hlen λj h1 h2=>hall j ac h1 h2])
theorem oS(a b:List aT)(ha:a.length<=9223372036854775806):aN av 233 [.one (.sl (a.map aT.ds)),.one (.sl (b.map aT.ds))] (rB (decide (a=b))):=by
  refine pO func233 call233 ntmps233 results233 λS=>?_;conv=>whnf
  repeat'(first|refine awz ?_|refine tB ?_ ?_|(intro h;conv=>whnf))
  · rw[mJ an]
  · have hlen:a.length=b.length:=an;clear h;refine aaK (λk:Nat=>k<=a.length/\∀(j:Nat) (hj:j<k) (h1:j<a.length) (h2:j<b.length),a[j]=b[j]) (4::5::rg 11 15) (λk=>[(5,vI .i64 (k:Int))]) (λ_=>[]) (λk=>a.length-k) 0 ⟨ac,ac⟩ ?_ aaE (λk hR=>?_)<;>(conv=>whnf)
    · exact whd
    · obtain⟨hk,hall⟩:=hR;repeat'((first|refine awz ?_|refine aaJ aM 6 8 aX aR ae ae ae rfl ?_|refine aaO ari (λhlt=>?_)|refine aaH ari ari ?_|refine aaW (rP _ _) rfl rfl rfl rfl rfl ?_|refine tB ?_ ?_|intro h)<;>conv=>whnf)
      all_goals first
        |(rw[sT (k:=k) ari ari ar];done)
        | (refine a8.mk ⟨k + 1, ⟨ari, jY hall fun h1 h2 => by simpa using h⟩, ari, ?_, aaE⟩
           exact hds)
        | (have hkk : k = a.length := ari
           rw[mI hlen λj h1 h2=>hall j ac h1 h2])
theorem hG(a b:List aT)(ha:a.length<=9223372036854775806):aN av 208 [.one (.sl (a.map aT.ds)),.one (.sl (b.map aT.ds))] (rB (decide (a=b))):=by
  refine pO func208 call208 ntmps208 results208 λS=>?_;conv=>whnf
  repeat'(first|refine awz ?_|(refine cP (Gm a b ha) ?_;conv=>whnf)|exact rr|fail)
theorem rG(a b:List Int)(ha:a.length<=9223372036854775806):aN av 303 [.one (dIs a),.one (dIs b)] (rB (decide (a=b))):=by
  refine pO func303 call303 ntmps303 results303 λS=>?_;conv=>whnf
  repeat'(first|refine awz ?_|(refine cP (I0 a b ha) ?_;conv=>whnf)|exact rr|fail)
theorem zS(x y:cz)(hx:x.row.length<=9223372036854775806):aN av 305 [.agg x.ds,.agg y.ds] (rB (decide (x=y))):=by
  obtain⟨a,r⟩:=x;obtain⟨b,q⟩:=y;refine pO func305 call305 ntmps305 results305 λS=>?_;conv=>whnf
  repeat'((first|refine awz ?_|refine cP (rG r q hx) ?_|refine tB ?_ ?_|intro h)<;>conv=>whnf)
  all_goals
    refine congrArg (λb=>AP.val (AP1.one (dB b))) ?_;simp_all[cz.mk.injEq]
theorem Gp(a b:List (List Int))(ha:a.length<=9223372036854775806)(hr:∀y∈a,y.length<=9223372036854775806):aN av 302 [.one (.sl (a.map dO)),.one (.sl (b.map dO)),.one (.pv (.func (.func 303) #[] #[]))] (rB (decide (a=b))):=by
  refine pO func302 call302 ntmps302 results302 λS=>?_;conv=>whnf
  repeat'(first|refine awz ?_|refine tB ?_ ?_|(intro h;conv=>whnf))
  · rw[mJ an]
  · have hlen:a.length=b.length:=an;clear h;refine aaK (λk:Nat=>k<=a.length/\∀(j:Nat) (hj:j<k) (h1:j<a.length) (h2:j<b.length),a[j]=b[j]) (6::7::8::9::rg 17 15) (λk=>[(17,vI .i64 (k:Int))]) (λ_=>[]) (λk=>a.length-k) 0 ⟨ac,ac⟩ ?_ aaE (λk hR=>?_)<;>(conv=>whnf)
    · exact whd
    · obtain⟨hk,hall⟩:=hR;repeat'((first|refine awz ?_|refine aaO ari (λhlt=>?_)|refine aaH ari ari ?_|refine cP (rG _ _ (hr _ (List.getElem_mem ari))) ?_|refine tB ?_ ?_|intro h)<;>conv=>whnf)
      all_goals first
        |(rw[sT (k:=k) ari ari ar];done)
        | (refine a8.mk ⟨k + 1, ⟨ari, jY hall fun h1 h2 => by simpa using h⟩, ari, ?_, aaE⟩
           exact hds)
        | (have hkk : k = a.length := ari
           rw[mI hlen λj h1 h2=>hall j ac h1 h2])
theorem AN(a b:List (cz))(ha:a.length<=9223372036854775806)(hr:∀y∈a,y.row.length<=9223372036854775806):aN av 304 [.one (.sl (a.map cz.ds)),.one (.sl (b.map cz.ds)),.one (.pv (.func (.func 305) #[] #[]))] (rB (decide (a=b))):=by
  refine pO func304 call304 ntmps304 results304 λS=>?_;conv=>whnf
  repeat'(first|refine awz ?_|refine tB ?_ ?_|(intro h;conv=>whnf))
  · rw[mJ an]
  · have hlen:a.length=b.length:=an;clear h;refine aaK (λk:Nat=>k<=a.length/\∀(j:Nat) (hj:j<k) (h1:j<a.length) (h2:j<b.length),a[j]=b[j]) (6::7::8::9::rg 17 15) (λk=>[(17,vI .i64 (k:Int))]) (λ_=>[]) (λk=>a.length-k) 0 ⟨ac,ac⟩ ?_ aaE (λk hR=>?_)<;>(conv=>whnf)
    · exact whd
    · obtain⟨hk,hall⟩:=hR;repeat'((first|refine awz ?_|refine aaO ari (λhlt=>?_)|refine aaH ari ari ?_|refine cP (zS _ _ (hr _ (List.getElem_mem ari))) ?_|refine tB ?_ ?_|intro h)<;>conv=>whnf)
      all_goals first
        |(rw[sT (k:=k) ari ari ar];done)
        | (refine a8.mk ⟨k + 1, ⟨ari, jY hall fun h1 h2 => by simpa using h⟩, ari, ?_, aaE⟩
           exact hds)
        | (have hkk : k = a.length := ari
           rw[mI hlen λj h1 h2=>hall j ac h1 h2])
end Go.Proofs.YthgkdhnlehneeaaGreatDoor
