/- WB3 -/
import Derived.Test.YthgkdhnlehneeaaGreatDoorAwx
import Derived.Test.YthgkdhnlehneeaaGreatDoorWA4
import Derived.RangeFuncNested
import Derived.RangeFuncBound
import Derived.RangeFuncCalls
import Derived.RangeFuncLeaves
import Derived.Shelf.Abstract
import Derived.Shelf.RegionOpen
import Derived.WalkKit
import Derived.OwnWalkIn
import Derived.TacticsInMore
import Derived.LoopNIn
import Derived.LoopIn
import Derived.Maps.AppendAt
set_option maxHeartbeats 8000000
set_option linter.unusedVariables false
set_option linter.unusedSimpArgs false
set_option maxRecDepth 100000
namespace Go.Proofs.YthgkdhnlehneeaaGreatDoor
section
open Go.Proofs.Tryz
open Go.ChangeShapes Go.WideShapes Go.RowKit
variable {s:bf}
def tE:List (List Nat):=bC [0,1,0,8259,1060930,84414660,0,7,26666395521543]
def tT:List (List Nat):=dW 8 [5850,5851,5840,5845,5872,5953,728,1457]
theorem I5(h:(aJ s.index 0 2000&&tOk s.time&&bS s.pairs&&bO s.jobs&&d9 s.lease)=false):bB s=false:=by simp only[bB,h,Bool.false_and]
theorem I6{k:Nat}(hk:k<s.jobs.length)(h:decide (s.jobs[k].fired<=s.index)=false):bB s=false:=by
  have:=q8 (p:=λj:bo=>decide (j.fired<=s.index)) hk h;simp only[bB,this,Bool.and_false]
theorem C5(h:(aJ s.index 0 2000&&tOk s.time&&bS s.pairs&&bO s.jobs&&d9 s.lease)=true)(hj:s.jobs.all (λj=>decide (j.fired<=s.index))=true):bB s=true:=by simp only[bB,h,hj,Bool.and_self]
theorem Qn{l:List bo}(h:bO l=true):l.length<=8:=by
  simp only[bO,Bool.and_eq_true,decide_eq_true_eq]at h;exact h.1.1.1
theorem lW(s:bf)(hs:s.pairs.length<=9223372036854775806):aN av 216 [.agg s.ds] (rB (bB s)):=by
  refine pO func216 call216 ntmps216 results216 λS=>?_;conv=>whnf
  repeat'((first|refine awz ?_|refine cP (ba _ _ _) ?_|refine cP (dM _) ?_|refine cP (lV s.pairs hs) ?_|refine cP (np s.jobs) ?_|refine cP (ES s.lease) ?_|refine tB ?_ ?_|intro h)<;>conv=>whnf)
  all_goals first
    |(rw[I5 (by first|(simp_all[tOk];done)|(exfalso;assumption))];done)
    |skip
  have hyes:(aJ s.index 0 2000&&tOk s.time&&bS s.pairs&&bO s.jobs&&d9 s.lease)=true:=by simp_all[tOk]
  have h8:s.jobs.length<=8:=Qn ar;refine aaK (λk:Nat=>k<=s.jobs.length/\∀(j:Nat) (hj:j<k) (hl:j<s.jobs.length),decide (s.jobs[j].fired<=s.index)=true) (2::4::rg 36 10) (λk=>[(36,vI .i64 (k:Int))]) (λ_=>[(1,.cells 47 (s.ds.map .d))]) (λk=>s.jobs.length-k) 0 ⟨ac,ac⟩ ?_ sbW (λk hR=>?_)<;>(conv=>whnf)
  · exact whd
  · obtain⟨hk,hall⟩:=hR;repeat'((first|refine awz ?_|refine aaO ari (λhlt=>?_)|refine aaH ari ari ?_|refine tB ?_ ?_|intro h)<;>conv=>whnf)
    all_goals first
      |(rw[I6 (k:=k) ari aA];done)
      | (refine a8.mk ⟨k + 1, ⟨ari, gJ (p := fun j : bo => decide (j.fired ≤ s.index)) hall ari ar⟩, ari, ?_, sbW⟩
         exact hds)
      |(rw[C5 hyes (iM (p:=λj:bo=>decide (j.fired<=s.index)) hall ari)])
theorem eK(s:bf)(hs:s.pairs.length<=9223372036854775806):aN av 240 [.agg s.ds] (rB (bB s)):=by
  refine pO func240 call240 ntmps240 results240 λS=>?_;conv=>whnf
  repeat'((first|refine awz ?_|refine cP (aQ _ _ _) ?_|refine cP (dR _) ?_|refine cP (fB s.pairs) ?_|refine cP (fh s.jobs) ?_|refine cP (fA s.lease) ?_|refine tB ?_ ?_|intro h)<;>conv=>whnf)
  all_goals first
    |(rw[I5 (by first|(simp_all[tOk];done)|(exfalso;assumption))];done)
    |skip
  have hyes:(aJ s.index 0 2000&&tOk s.time&&bS s.pairs&&bO s.jobs&&d9 s.lease)=true:=by simp_all[tOk]
  have h8:s.jobs.length<=8:=Qn ar;refine aaK (λk:Nat=>k<=s.jobs.length/\∀(j:Nat) (hj:j<k) (hl:j<s.jobs.length),decide (s.jobs[j].fired<=s.index)=true) (2::3::rg 32 16) (λk=>[(3,vI .i64 (k:Int))]) (λ_=>[(1,.cells 47 (s.ds.map .d))]) (λk=>s.jobs.length-k) 0 ⟨ac,ac⟩ ?_ sbW (λk hR=>?_)<;>(conv=>whnf)
  · exact whd
  · obtain⟨hk,hall⟩:=hR;repeat'((first|refine awz ?_|refine aaJ aM 6 8 tE tT ae ae ae rfl ?_|refine aaO ari (λhlt=>?_)|refine aaH ari ari ?_|refine tB ?_ ?_|intro h)<;>conv=>whnf)
    all_goals first
      |(rw[I6 (k:=k) ari aA];done)
      | (refine a8.mk ⟨k + 1, ⟨ari, gJ (p := fun j : bo => decide (j.fired ≤ s.index)) hall ari ar⟩, ari, ?_, sbW⟩
         exact hds)
      |(rw[C5 hyes (iM (p:=λj:bo=>decide (j.fired<=s.index)) hall ari)])
theorem zJ(a b:List br)(ha:a.length<=9223372036854775806)(hb:b.length<=9223372036854775806):aN av 218 [.one (.sl (a.map br.ds)),.one (.sl (b.map br.ds))] (rB (bS a&&bS b&&decide (a=b))):=by
  refine pO func218 call218 ntmps218 results218 λS=>?_;conv=>whnf
  repeat'((first|refine awz ?_|refine cP (lV a ha) ?_|refine cP (lV b hb) ?_|refine cP (Gn a b ha) ?_|refine tB ?_ ?_|intro h)<;>conv=>whnf)
  all_goals
    refine bE ?_;simp_all
theorem Ch(a b:List bo)(ha:a.length<=9223372036854775806):aN av 219 [.one (.sl (a.map bo.ds)),.one (.sl (b.map bo.ds))] (rB (bO a&&bO b&&decide (a=b))):=by
  refine pO func219 call219 ntmps219 results219 λS=>?_;conv=>whnf
  repeat'((first|refine awz ?_|refine cP (np a) ?_|refine cP (np b) ?_|refine cP (I1 a b ha) ?_|refine tB ?_ ?_|intro h)<;>conv=>whnf)
  all_goals
    refine bE ?_;simp_all
theorem Aw(a b:List br)(ha:a.length<=9223372036854775806):aN av 336 [.one (.sl (a.map br.ds)),.one (.sl (b.map br.ds))] (rB (bS a&&bS b&&decide (a=b))):=by
  refine pO func336 call336 ntmps336 results336 λS=>?_;conv=>whnf
  repeat'((first|refine awz ?_|refine cP (fB a) ?_|refine cP (fB b) ?_|refine tB ?_ ?_|intro h)<;>conv=>whnf)
  · refine bE ?_;have e:bS a=false:=ar;rw[e];rfl
  · refine bE ?_;have e:bS b=false:=ar;rw[e,Bool.and_false];rfl
  · rw[mJ an,Bool.and_false]
  · have hlen:a.length=b.length:=an;have ea:bS a=true:=ar;have eb:bS b=true:=ar;rw[ea,eb];refine aaK (λk:Nat=>k<=a.length/\∀(j:Nat) (hj:j<k) (h1:j<a.length) (h2:j<b.length),a[j]=b[j]) (4::5::rg 21 15) (λk=>[(5,vI .i64 (k:Int))]) (λ_=>[]) (λk=>a.length-k) 0 ⟨ac,ac⟩ ?_ aaE (λk hR=>?_)<;>(conv=>whnf)
    · exact whd
    · obtain⟨hk,hall⟩:=hR;repeat'((first|refine awz ?_|refine aaJ aM 6 8 aX aR ae ae ae rfl ?_|refine aaO ari (λhlt=>?_)|refine aaH ari ari ?_|refine aaW (rR _ _) rfl rfl rfl rfl rfl ?_|refine tB ?_ ?_|intro h)<;>conv=>whnf)
      all_goals first
        |(rw[sT (k:=k) ari ari (by first|(simpa using h)|(exfalso;assumption)),Bool.and_false];done)
        | (refine a8.mk ⟨k + 1, ⟨ari, jY hall fun h1 h2 => by simpa using h⟩, ari, ?_, aaE⟩
           exact hds)
        | (have hkk : k = a.length := ari
           rw[mI hlen λj h1 h2=>hall j ac h1 h2];rfl)
theorem CY(a b:List bo)(ha:a.length<=9223372036854775806):aN av 337 [.one (.sl (a.map bo.ds)),.one (.sl (b.map bo.ds))] (rB (bO a&&bO b&&decide (a=b))):=by
  refine pO func337 call337 ntmps337 results337 λS=>?_;conv=>whnf
  repeat'((first|refine awz ?_|refine cP (fh a) ?_|refine cP (fh b) ?_|refine tB ?_ ?_|intro h)<;>conv=>whnf)
  · refine bE ?_;have e:bO a=false:=ar;rw[e];rfl
  · refine bE ?_;have e:bO b=false:=ar;rw[e,Bool.and_false];rfl
  · rw[mJ an,Bool.and_false]
  · have hlen:a.length=b.length:=an;have ea:bO a=true:=ar;have eb:bO b=true:=ar;rw[ea,eb];refine aaK (λk:Nat=>k<=a.length/\∀(j:Nat) (hj:j<k) (h1:j<a.length) (h2:j<b.length),a[j]=b[j]) (4::5::rg 21 15) (λk=>[(5,vI .i64 (k:Int))]) (λ_=>[]) (λk=>a.length-k) 0 ⟨ac,ac⟩ ?_ aaE (λk hR=>?_)<;>(conv=>whnf)
    · exact whd
    · obtain⟨hk,hall⟩:=hR;repeat'((first|refine awz ?_|refine aaJ aM 6 8 aX aR ae ae ae rfl ?_|refine aaO ari (λhlt=>?_)|refine aaH ari ari ?_|refine aaW (w8 _ _) rfl rfl rfl rfl rfl ?_|refine tB ?_ ?_|intro h)<;>conv=>whnf)
      all_goals first
        |(rw[sT (k:=k) ari ari (by first|(simpa using h)|(exfalso;assumption)),Bool.and_false];done)
        | (refine a8.mk ⟨k + 1, ⟨ari, jY hall fun h1 h2 => by simpa using h⟩, ari, ?_, aaE⟩
           exact hds)
        | (have hkk : k = a.length := ari
           rw[mI hlen λj h1 h2=>hall j ac h1 h2];rfl)
theorem hI(h:bB s=true):bS s.pairs=true/\bO s.jobs=true:=by
  simp only[bB,Bool.and_eq_true]at h;exact⟨h.1.1.1.2,h.1.1.2⟩
theorem zK(a b:bf)(ha:a.pairs.length<=9223372036854775806)(hb:b.pairs.length<=9223372036854775806)(hj:a.jobs.length<=9223372036854775806):aN av 142 [.agg a.ds,.agg b.ds] (rB (bB a&&bB b&&decide (a=b))):=by
  refine pO func142 call142 ntmps142 results142 λS=>?_;conv=>whnf
  repeat'((first|refine awz ?_|refine cP (lW a ha) ?_|refine cP (lW b hb) ?_|refine cP (zJ a.pairs b.pairs ha hb) ?_|refine cP (Ch a.jobs b.jobs hj) ?_|refine aaW (oB a.lease b.lease) rfl rfl rfl rfl rfl ?_|refine tB ?_ ?_|intro h)<;>conv=>whnf)
  all_goals
    refine bE ?_;obtain⟨i1,t1,p1,j1,l1⟩:=a;obtain⟨i2,t2,p2,j2,l2⟩:=b;first
      | (have q1 := hI (s := ⟨i1, t1, p1, j1, l1⟩) aj
         have q2:=hI (s:=⟨i2,t2,p2,j2,l2⟩) aj;simp_all[bf.mk.injEq];done)
      | (have q1 := hI (s := ⟨i1, t1, p1, j1, l1⟩) aj
         have q2:=hI (s:=⟨i2,t2,p2,j2,l2⟩) aj;simp_all[bf.mk.injEq];rw[Bool.eq_iff_iff];simp;done)
      |(simp_all[bf.mk.injEq];done)
      |(simp_all[bf.mk.injEq];rw[Bool.eq_iff_iff];simp;done)
theorem Ax(a b:bf)(ha:a.pairs.length<=9223372036854775806)(hb:b.pairs.length<=9223372036854775806)(hj:a.jobs.length<=9223372036854775806):aN av 242 [.agg a.ds,.agg b.ds] (rB (bB a&&bB b&&decide (a=b))):=by
  refine pO func242 call242 ntmps242 results242 λS=>?_;conv=>whnf
  repeat'((first|refine awz ?_|refine cP (eK a ha) ?_|refine cP (eK b hb) ?_|refine cP (Aw a.pairs b.pairs ha) ?_|refine cP (CY a.jobs b.jobs hj) ?_|refine aaW (oB a.lease b.lease) rfl rfl rfl rfl rfl ?_|refine tB ?_ ?_|intro h)<;>conv=>whnf)
  all_goals
    refine bE ?_;obtain⟨i1,t1,p1,j1,l1⟩:=a;obtain⟨i2,t2,p2,j2,l2⟩:=b;first
      | (have q1 := hI (s := ⟨i1, t1, p1, j1, l1⟩) aj
         have q2:=hI (s:=⟨i2,t2,p2,j2,l2⟩) aj;simp_all[bf.mk.injEq];done)
      | (have q1 := hI (s := ⟨i1, t1, p1, j1, l1⟩) aj
         have q2:=hI (s:=⟨i2,t2,p2,j2,l2⟩) aj;simp_all[bf.mk.injEq];rw[Bool.eq_iff_iff];simp;done)
      |(simp_all[bf.mk.injEq];done)
      |(simp_all[bf.mk.injEq];rw[Bool.eq_iff_iff];simp;done)
theorem CT:aN av 243 [] (.val (.agg fT.ds)):=by
  refine pO func243 call243 ntmps243 results243 λS=>?_;conv=>whnf
  repeat'(first|refine awz ?_|fail)
  all_goals rfl
theorem I9{s:bK}{b:Bool}(h:(dw s.disk&&bB s.state&&aJ s.num 0 1000000000&&aJ s.last 0 s.state.index&&((s.num==0)==(s.last==0))&&(s.busy==0||(decide (s.num<1000000000)&&decide (s.last<s.busy)&&decide (s.busy<=s.state.index))))=b):b=storeOk s:=h.symm
theorem EW(s:bK)(hs:s.state.pairs.length<=9223372036854775806):aN av 140 [.agg s.ds] (rB (storeOk s)):=by
  refine pO func140 call140 ntmps140 results140 λS=>?_;conv=>whnf
  repeat'((first|refine awz ?_|refine cP (EV s.disk) ?_|refine cP (lW s.state hs) ?_|refine cP (ba _ _ _) ?_|refine tB ?_ ?_|intro h)<;>conv=>whnf)
  all_goals
    refine bE (I9 ?_);first
      |(simp_all;done)
      |(simp_all;omega)
theorem ip(s:bK)(hs:s.state.pairs.length<=9223372036854775806):aN av 153 [.agg s.ds] (rB (storeOk s)):=by
  refine pO func153 call153 ntmps153 results153 λS=>?_;conv=>whnf
  repeat'((first|refine awz ?_|refine aaH (by simp_all[aJ,bB];omega) (by simp_all[aJ,bB];omega) ?_|refine cP (jd s.disk) ?_|refine cP (eK s.state hs) ?_|refine cP (aQ _ _ _) ?_|refine tB ?_ ?_|intro h)<;>conv=>whnf)
  all_goals
    refine bE (I9 ?_);first
      |(simp_all;done)
      |(simp_all;omega)
      |(simp_all[aJ];rw[Bool.eq_iff_iff];simp;omega)
end
section
open Go.RowKit Go.Shelf
variable {d:Int}{es:List aO}{Bb Bd k n₀:Nat}{W W':World}
attribute [local go_sem] Oper.semAt_some
def jL(e:aO):Array Value:= #[.int .i64 e.index,.int .i64 e.time,.int .i64 e.client,.int .i64 e.seq,.int .i64 e.op.kind,.int .i64 e.op.a,.int .i64 e.op.b,.int .i64 e.op.c,.int .i64 e.op.d]
def gM(n₀ Bb Bd:Nat)(W W':World):Prop:=W.heap.size<=W'.heap.size/\∀k,(k<n₀\/k=Bb\/k=Bd)->W'.heap[k]? =W.heap[k]?
theorem gM.refl(W:World):gM n₀ Bb Bd W W:=⟨Nat.le_refl _,λ_ _=>rfl⟩
theorem gM.trans{A B C:World}(h:gM n₀ Bb Bd A B)(h':gM n₀ Bb Bd B C):gM n₀ Bb Bd A C:=⟨Nat.le_trans h.1 h'.1,λk hk=>(h'.2 k hk).trans (h.2 k hk)⟩
theorem gM.cell(h:gM n₀ Bb Bd W W'){p:Addr}(hk:p.block<n₀\/p.block=Bb\/p.block=Bd):W'.cell? p=W.cell? p:=by
 unfold World.cell?;rw[h.2 _ hk]
theorem gM.alloc(W:World)(o:Obj)(h0:n₀<=W.heap.size)(hb:Bb<W.heap.size)(hd:Bd<W.heap.size):gM n₀ Bb Bd W (W.alloc o):=
 ⟨by simp,λk hk=>Below.heap_alloc _ _ k ac⟩
def ug(n₀:Nat)(W:World)(A:Option Addr)(es:List aO):Prop:=es=[]\/∃b off,A=some ⟨b,off,none⟩/\b<n₀/\∀(k:Nat) (hk:k<es.length) (j:Nat) (u:Value),(jL es[k])[j]? =some u->W.cell? ⟨b,off+k*9+j,none⟩=some u
theorem ug.keep{A:Option Addr}(h:gM n₀ Bb Bd W W'):ug n₀ W A es->ug n₀ W' A es
 | .inl e=> .inl e
 | .inr ⟨b,off,e,hb,hc⟩=> .inr ⟨b,off,e,hb,λk hk j u hu=>(h.cell (p:=⟨b,off+k*9+j,none⟩) (.inl hb)).trans (hc k hk j u hu)⟩
def jx(d:Int)(es:List aO):List aO:=es.filter λe=>decide (d<=e.index)
theorem Lr(hk:k<es.length)(h:d<=es[k].index):jx d (es.take (k+1))=jx d (es.take k)++[es[k]]:=by
 simp only[jx];rw[List.take_succ_eq_append_getElem hk,List.filter_append,List.filter_cons_of_pos (by simpa using h),List.filter_nil]
theorem UZ(hk:k<es.length)(h:¬d<=es[k].index):jx d (es.take (k+1))=jx d (es.take k):=by
 simp only[jx];rw[List.take_succ_eq_append_getElem hk,List.filter_append,List.filter_cons_of_neg (by simpa using h),List.filter_nil,List.append_nil]
theorem Tq(k:Nat):jx d (es.take k)<+:jx d es:=by
 have:jx d es=jx d (es.take k)++jx d (es.drop k):=by
  simp only[jx];rw[<-List.filter_append,List.take_append_drop]
 rw[this];exact List.prefix_append _ _
theorem RK(F:Fence)(n:Nat)(hf:F.fn 397)(hro:F.round=none)(hn:1<=n)(l Bb Bd n₀:Nat)(A:Option Addr)(cap:Nat)(es:List aO)(d:Int)(hes:es.length<=20)(J Jx:List aO->World->Prop)
  (hY:∀pre x W,J pre W->pre.length<es.length->YieldAt F (n-1) Tryz.prog l #[.agg (jL x)] W λe W'=>
   (e= .returned (.bool true)/\J (pre++[x]) W'/\gM n₀ Bb Bd W W')\/(e= .returned (.bool false)/\Jx (pre++[x]) W'))
  (W:World) (hJ:AbidesFrom W.heap.size J) (h0n:n₀<=W.heap.size) (hBbl:Bb<W.heap.size) (hBdl:Bd<W.heap.size) (hBb:W.cell? ⟨Bb,2,none⟩=some (.slice A es.length cap)) (hBd:W.cell? ⟨Bd,0,none⟩=some (.int .i64 d)) (hA:ug n₀ W A es) (h0:J [] W):
  CallsIn F n Tryz.prog 397 #[.func (.yield l) #[] #[],.pointer (some ⟨Bb,0,none⟩),.pointer (some ⟨Bd,0,none⟩)] W λe W'=>(∃v,e= .returned v)/\
   ((∃ys,ys=jx d es/\J ys W')\/(∃pre,pre<+:jx d es/\Jx pre W')):=by
 refine callsIn_of_wp Tryz.func397 rfl hf ?_ hro;simp only[Tryz.ntmps397,List.size_toArray,List.length_cons,List.length_nil,Nat.reduceAdd,Nat.reduceSub,Array.replicate_succ,Array.replicate_zero,List.push_toArray,List.append_toArray,List.nil_append,List.cons_append];gi_wp2
 gi_loopw [9] (λi wr=>∃k:Nat,k<=es.length/\i= .int .i64 k/\J (jx d (es.take k)) wr/\gM n₀ Bb Bd W wr)
  (λi _=>es.length-(intOf i).toNat)
 case atStart=>exact⟨0,Nat.zero_le _,rfl,h0,gM.refl _⟩
 case round=>
  obtain⟨k,hk,rfl,hJs,hnx⟩:=hrel;by_cases hlt:k<es.length
  ·obtain⟨b,off,rfl,hb0,hc⟩:∃b off,A=some ⟨b,off,none⟩/\b<n₀/\∀(k:Nat) (hk:k<es.length) (j:Nat) (u:Value),(jL es[k])[j]? =some u->W.cell? ⟨b,off+k*9+j,none⟩=some u:=by
    rcases hA with rfl|h
    ·simp at hlt
    ·exact h
   have rd:∀(j:Nat) (u:Value),(jL es[k])[j]? =some u->wr.cell? ⟨b,off+k*9+j,none⟩=some u:=λj u hu=>(hnx.cell (p:=⟨b,off+k*9+j,none⟩) (.inl hb0)).trans (hc k hlt j u hu);have c0:wr.cell? ⟨b,off+k*9,none⟩=some (.int .i64 es[k].index):=rd 0 _ rfl;have c1:wr.cell? ⟨b,off+k*9+1,none⟩=some (.int .i64 es[k].time):=rd 1 _ rfl;have c2:wr.cell? ⟨b,off+k*9+2,none⟩=some (.int .i64 es[k].client):=rd 2 _ rfl;have c3:wr.cell? ⟨b,off+k*9+3,none⟩=some (.int .i64 es[k].seq):=rd 3 _ rfl;have c4:wr.cell? ⟨b,off+k*9+4,none⟩=some (.int .i64 es[k].op.kind):=rd 4 _ rfl;have c5:wr.cell? ⟨b,off+k*9+5,none⟩=some (.int .i64 es[k].op.a):=rd 5 _ rfl;have c6:wr.cell? ⟨b,off+k*9+6,none⟩=some (.int .i64 es[k].op.b):=rd 6 _ rfl;have c7:wr.cell? ⟨b,off+k*9+7,none⟩=some (.int .i64 es[k].op.c):=rd 7 _ rfl;have c8:wr.cell? ⟨b,off+k*9+8,none⟩=some (.int .i64 es[k].op.d):=rd 8 _ rfl;have cd:wr.cell? ⟨Bd,0,none⟩=some (.int .i64 d):=(hnx.cell (p:=⟨Bd,0,none⟩) (.inr (.inr rfl))).trans hBd;clear rd;have hsz:=hnx.1;have cd2:=((gM.alloc (n₀:=n₀) (Bb:=Bb) (Bd:=Bd) wr (.cells #[.int .i64 es[k].index,.int .i64 es[k].time,.int .i64 es[k].client,.int .i64 es[k].seq,.int .i64 es[k].op.kind,.int .i64 es[k].op.a,.int .i64 es[k].op.b,.int .i64 es[k].op.c,.int .i64 es[k].op.d] 275) ac ac ac).cell (p:=⟨Bd,0,none⟩) (.inr (.inr rfl))).trans cd;obtain⟨w2,hw2⟩:∃w2,wr.alloc (.cells #[.int .i64 es[k].index,.int .i64 es[k].time,.int .i64 es[k].client,.int .i64 es[k].seq,.int .i64 es[k].op.kind,.int .i64 es[k].op.a,.int .i64 es[k].op.b,.int .i64 es[k].op.c,.int .i64 es[k].op.d] 275)=w2:=⟨_,rfl⟩;have hJ2:J (jx d (es.take k)) w2:=hw2▸hJ _ _ _ none hJs (World.grownBy_alloc wr _ none) (λr e=>by cases e);have hk2:gM n₀ Bb Bd W w2:=hw2▸hnx.trans (gM.alloc wr _ ac ac ac);have hpl:(jx d (es.take k)).length<es.length:=Nat.lt_of_le_of_lt (List.length_filter_le ..) al;by_cases hge:d<=es[k].index
   ·obtain⟨fn,tmps,assign,body,hy,hR⟩:=hY _ es[k] w2 hJ2 hpl;simp only[jL]at hy;subst hw2;gi_wp2
    refine hR.mono ?_;rintro e W3 (⟨rfl,hJ3,hk3⟩|⟨rfl,hJx3⟩)
    ·gi_wp2
     go_roundw
     case rel=>exact⟨k+1,ac,by simp,by rw[Lr hlt hge];exact hJ3,hk2.trans hk3⟩
     case measure=>simp[intOf];omega
    ·gi_wp2
     refine bodyPost_ret (results_none rfl _ _ _) rfl ?_;exact⟨⟨_,rfl⟩,.inr ⟨_,by rw[<-Lr hlt hge];exact Tq _,hJx3⟩⟩
   ·subst hw2;gi_wp2
    refine⟨λ_ h=>(by cases h),?_⟩;gi_wp2
    go_roundw
    case rel=>exact⟨k+1,ac,by simp,by rw[UZ (d:=d) hlt ac];exact hJ2,hk2⟩
    case measure=>simp[intOf];omega
  ·obtain rfl:k=es.length:=ac;gi_wp2
   go_end0
   exact⟨⟨_,rfl⟩,.inl ⟨_,by rw[List.take_length],hJs⟩⟩
end
end Go.Proofs.YthgkdhnlehneeaaGreatDoor
