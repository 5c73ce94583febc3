/- MkB -/
import Derived.Test.YtehobfglmeiglaaGreatDoorJ02
import Derived.OpenShut
set_option linter.unusedVariables false
set_option linter.unusedSimpArgs false
set_option maxRecDepth 100000
namespace Go.Proofs.YtehobfglmeiglaaGreatDoor
open Go.RowKit
structure f7 (P:Nat->Prop) (w w':World):Prop where
 os:w'.os=w.os
 tape:w'.tape=w.tape
 output:w'.output=w.output
 size:w'.heap.size=w.heap.size
 block:∀b,¬P b->w'.heap[b]? =w.heap[b]?
section
variable {P P':Nat->Prop} {w w1 w':World}
theorem f7.refl(P:Nat->Prop)(w:World):f7 P w w:=⟨rfl,rfl,rfl,rfl,λ_ _=>rfl⟩
theorem f7.trans(h:f7 P w w1)(h':f7 P w1 w'):f7 P w w':=⟨h'.os.trans h.os,h'.tape.trans h.tape,h'.output.trans h.output,h'.size.trans h.size,λb hb=>(h'.block b hb).trans (h.block b hb)⟩
theorem f7.mono(h:f7 P w w')(hp:∀b,P b->P' b):f7 P' w w':=⟨h.os,h.tape,h.output,h.size,λb hb=>h.block b λhq=>hb (hp b hq)⟩
theorem f7.setCell{a:Addr}(ha:P a.block)(u:Value):f7 P w (w.setCell a u):=⟨rfl,rfl,rfl,by simp[World.setCell],λb hb=>Below.heap_setCell _ _ _ _ (λe=>hb (e▸ha))⟩
theorem f7.below{B:Nat}(h:f7 P w w')(hp:∀b,P b->B<=b):Below B w w':=⟨h.os,h.tape,h.output,by rw[h.size];exact Nat.le_refl _,λk hk=>h.block k λhq=>by have:=hp k hq;omega⟩
end
theorem dp.set{w:World}{P:Nat->Prop}{x:List AD}{us:List Value}(h:dp w P x us){c:Nat}{u:Value}(h1:u.oneCell'=true):dp w P (x.set c (.pv u)) (us.set c u):=by
 obtain⟨l,Q,q,e,r⟩:=h
 refine⟨by simp[l],Q,q,e,λi a y ha hy=>?_⟩
 rw[List.getElem?_set]at ha hy
 by_cases hi:c=i
 ·subst hi
  simp only[if_true]at ha hy
  split at ha
  ·split at hy
   ·injection ha with ha;injection hy with hy;subst ha hy;exact .pv _ _ h1
   ·cases hy
  ·cases ha
 ·rw[if_neg hi]at ha hy
  exact r i a y ha hy
structure El (w0:World) (b o s:Nat) (Q:Nat->Prop) (w:World) (x:List AD) (us:List Value):Prop where
 len:us.length=s
 fam:dp w Q x us
 cell:∀(c:Nat) u,us[c]? =some u->w.cell? ⟨b,o+c,none⟩=some u
 oth:∀o',(o'<o\/o+s<=o')->w.cell? ⟨b,o',none⟩=w0.cell? ⟨b,o',none⟩
 row:∃cur cur' t,w0.heap[b]? =some (.cells cur t (0,0))/\w.heap[b]? =some (.cells cur' t (0,0))/\cur'.size=cur.size
 turn:f7 (λg=>g=b\/Q g) w0 w
 nb:¬Q b
section
variable {w0 w:World} {b o s:Nat} {Q:Nat->Prop} {x:List AD} {us:List Value}
theorem El.frozen(h:El w0 b o s Q w x us)(o':Nat):w.frozen? ⟨b,o',none⟩=false:=by
 obtain⟨cur,cur',t,_,h2,_⟩:=h.row
 simp[World.frozen?,h2]
theorem El.set(h:El w0 b o s Q w x us){c:Nat}(hc:c<s)(u:Value)(h1:u.oneCell'=true):El w0 b o s Q (w.setCell ⟨b,o+c,none⟩ u) (x.set c (.pv u)) (us.set c u):=by
 have hlt:c<us.length:=by rw[h.len];exact hc
 obtain⟨cur,cur',t,r1,r2,r3⟩:=h.row
 refine⟨by simp[h.len],?_,λc' y hy=>?_,λo' ho=>?_,⟨cur,cur'.setIfInBounds (o+c) u,t,r1,by simp[World.setCell,Array.getElem?_modify,r2],by simp[r3]⟩,h.turn.trans (f7.setCell (.inl rfl) u),h.nb⟩
 ·exact dp.set (h.fam.keep λg hg=>Below.heap_setCell w ⟨b,o+c,none⟩ u g (λe=>h.nb (by have e2:g=b:=e;subst e2;exact hg))) h1
 ·rw[List.getElem?_set]at hy
  by_cases hcc:c=c'
  ·subst hcc
   rw[if_pos rfl,if_pos hlt]at hy
   injection hy with hy
   subst hy
   exact World.cell?_setCell_same _ _ _ (h.cell c _ (List.getElem?_eq_getElem hlt))
  ·rw[if_neg hcc]at hy
   exact(World.cell?_setCell_other _ _ _ _ (by intro e;injection e;omega)).trans (h.cell c' y hy)
 ·exact(World.cell?_setCell_other _ _ _ _ (by intro e;injection e;omega)).trans (h.oth o' ho)
theorem El.sub(h:El w0 b o s Q w x us){c:Nat}{a:AD}{u:Value}(ha:x[c]? =some a)(hu:us[c]? =some u):
  ∃Qc,(∀g,Qc g->Q g)/\gq w Qc a u/\∀w' a',f7 Qc w w'->gq w' Qc a' u->El w0 b o s Q w' (x.set c a') us:=by
 obtain⟨l,R,q,e,r⟩:=h.fam
 refine⟨R c,q c,r c a u ha hu,λw' a' ht hr=>?_⟩
 have hb:w'.heap[b]? =w.heap[b]? :=ht.block b λhq=>h.nb (q c b hq)
 have hcell:∀o',w'.cell? ⟨b,o',none⟩=w.cell? ⟨b,o',none⟩:=λo'=>World.cell?_of_block (a:=⟨b,o',none⟩) hb
 obtain⟨cur,cur',t,r1,r2,r3⟩:=h.row
 refine⟨h.len,⟨by simp[l],R,q,e,λi a2 y h1 h2=>?_⟩,λc' y hy=>(hcell _).trans (h.cell c' y hy),λo' ho=>(hcell _).trans (h.oth o' ho),⟨cur,cur',t,r1,hb.trans r2,r3⟩,h.turn.trans (ht.mono λg hg=> .inr (q c g hg)),h.nb⟩
 rw[List.getElem?_set]at h1
 by_cases hi:c=i
 ·subst hi
  rw[hu]at h2
  injection h2 with h2
  subst h2
  rw[if_pos rfl]at h1
  split at h1
  ·injection h1 with h1;subst h1;exact hr
  ·cases h1
 ·rw[if_neg hi]at h1
  exact(r i a2 y h1 h2).keep λg hg=>ht.block g λhq=>hi (e _ _ g hq hg)
end
theorem gq.form{w:World}{P:Nat->Prop}{xs:List (List AD)}{v:Value}(h:gq w P (.sl xs) v):∃A cap,v= .slice A xs.length cap/\xs.length<=cap/\cap<=maxLen:=by
 cases h with
 |emp P A cap hm=>exact⟨A,cap,rfl,Nat.zero_le _,hm⟩
 |sl P xs e s us v Q hs hl hx hu hown hb hQ hd h=>
  rcases hown.2 with⟨hv,hn⟩|⟨g,cap,cur,hv,_,hg,h1,h2,h3,h4⟩
  ·exact⟨none,0,by rw[hv,hn],by omega,Nat.zero_le _⟩
  ·exact⟨_,cap,hv,h1,h2⟩
section
variable {α:Type} {mk:Int->α->α} {cnt:α->Int}
theorem kn{l:List α}{k:Nat}(hk:k<l.length):l.take (k+1)=l.take k++[l[k]]:=by rw[List.take_add_one,List.getElem?_eq_getElem hk];rfl
end
end Go.Proofs.YtehobfglmeiglaaGreatDoor
