/- FaultImpl -/
import Derived.Test.YtlmoekpinpafeaaGreatUL
import Derived.Laws.EntriesVeiled
import Derived.Test.YtlmoekpinpafeaaGreatAvJ3
import Derived.Test.YtlmoekpinpafeaaGreatUG
set_option maxHeartbeats 16000000
set_option linter.unusedVariables false
set_option linter.unusedSimpArgs false
set_option maxRecDepth 100000
open List (getElem_mem length_map length_take mem_map)
namespace Go.Proofs.YtlmoekpinpafeaaGreat
open Go.Proofs.Tryz
open Go.ChangeShapes Go.WideShapes Go.RowKit
theorem E3(cs:Array Value)(w:World):Calls Tryz.prog 35 #[.agg cs] w λe w'=>e= .returned (.func (.func 36) #[] #[.pointer (some ⟨w.heap.size,0,none⟩)])/\w.alloc (.cells cs 32)=w':=by
 go_enter Tryz.func35,Tryz.ntmps35
 go_wp2
 go_ret
 exact⟨rfl,rfl⟩
theorem FS{w:World}{k:Nat}{o:Obj}(h:k=w.heap.size):(w.alloc o).heap[k]? =some o:=by subst h;exact heap_alloc_new w o
def d7(w:World):Array Value:= #[.func (.func 37) #[] #[],.func (.func 39) #[] #[],.func (.func 41) #[] #[],.func (.func 42) #[] #[],.func (.func 44) #[] #[],.func (.func 45) #[] #[],.func (.func 47) #[] #[],.func (.func 36) #[] #[.pointer (some ⟨w.heap.size+1,0,none⟩)],.func (.func 36) #[] #[.pointer (some ⟨w.heap.size+1+1,0,none⟩)],.func (.func 36) #[] #[.pointer (some ⟨w.heap.size+1+1+1,0,none⟩)],.func (.func 36) #[] #[.pointer (some ⟨w.heap.size+1+1+1+1,0,none⟩)],.func (.func 36) #[] #[.pointer (some ⟨w.heap.size+1+1+1+1+1,0,none⟩)],.func (.func 36) #[] #[.pointer (some ⟨w.heap.size+1+1+1+1+1+1,0,none⟩)],.func (.func 48) #[] #[]]
def Ig(w w':World):Prop:=Below w.heap.size w w'/\w'.heap[w.heap.size+1]? =some (.cells #[.int .i64 7,.int .i64 0,.int .i64 0,.int .i64 0,.slice none 0 0] 32 (0,0))/\w'.heap[w.heap.size+1+1]? =some (.cells #[.int .i64 8,.int .i64 0,.int .i64 0,.int .i64 0,.slice none 0 0] 32 (0,0))/\w'.heap[w.heap.size+1+1+1]? =some (.cells #[.int .i64 9,.int .i64 0,.int .i64 1,.int .i64 0,.slice none 0 0] 32 (0,0))/\w'.heap[w.heap.size+1+1+1+1]? =some (.cells #[.int .i64 4,.int .i64 0,.int .i64 0,.int .i64 0,.slice none 0 0] 32 (0,0))/\w'.heap[w.heap.size+1+1+1+1+1]? =some (.cells #[.int .i64 4,.int .i64 3,.int .i64 60,.int .i64 0,.slice none 0 0] 32 (0,0))/\w'.heap[w.heap.size+1+1+1+1+1+1]? =some (.cells #[.int .i64 11,.int .i64 3,.int .i64 1,.int .i64 5,.slice none 0 0] 32 (0,0))
theorem cL(w:World):Calls Tryz.prog 18 #[] w λe w'=>e= .returned (.agg (d7 w))/\Ig w w':=by
 go_enter Tryz.func18,Tryz.ntmps18
 go_wp2_with (go_at_call 35;refine(E3 _ _).mono ?_;rintro e w' ⟨rfl,rfl⟩)
 refine bodyPost_ret (v:= .agg (d7 w)) (by simp[results,Tryz.results18,go_sem,d7]) rfl ⟨rfl,(by repeat (first|with_reducible exact Below.refl _ _|with_reducible assumption|(with_reducible refine Below.drew ?_)|(with_reducible refine Below.alloc ?_ (by first|with_reducible exact Nat.le_refl _|omega|(simp;done)|(simp;omega)|(simp[World.setCell];omega)|(simp[World.setCell];done)) _)|(with_reducible refine Below.setCell ?_ (by first|with_reducible exact Nat.le_refl _|omega|(simp;done)|(simp;omega)|(simp[World.setCell];omega)|(simp[World.setCell];done)) _))),?_,?_,?_,?_,?_,?_⟩;all_goals repeat (first|exact FS (by first|(simp;done)|(simp;omega))|refine(Below.heap_alloc _ _ _ (by first|(simp;done)|(simp;omega))).trans ?_)
theorem BG(w:World):Calls Tryz.prog 48 #[] w (bd TC (aV 13) w):=by
 go_enter Tryz.func48,Tryz.ntmps48
 go_wp2_with fail
 refine(pT _).mono ?_;rintro e W1 ⟨A1,c1,F1,rfl,h1,hf1,hb1⟩;go_wp2_with fail
 refine(cB 0 cy A1 _ c1 F1 w.heap.size _ ⟨h1,hf1⟩ hb1.size (by decide)).mono ?_;rintro e W2 ⟨A2,c2,F2,rfl,h2,hb2⟩;go_wp2_with fail
 refine(mt _).mono ?_;rintro e W3 ⟨A3,c3,F3,rfl,h3,hf3,hb3⟩;go_wp2_with fail
 refine(cB 1 bA A3 _ c3 F3 W2.heap.size _ ⟨h3,hf3⟩ hb3.size (by decide)).mono ?_;rintro e W4 ⟨A4,c4,F4,rfl,h4,hb4⟩;have hbA:=hb1.trans (hb2.mono hb1.size);have hbB:=hb3.trans (hb4.mono hb3.size);have h2':=h2.below hbB;have hbb:=hbA.trans (hbB.mono hbA.size);have hF2:=h2.fresh.lt;have hF4:∀g∈F4,W2.heap.size<=g:=λg hg=>(h4.fresh.2 g hg).1;clear h1 hf1 hb1 hb2 h3 hf3 hb3 hb4 h2;obtain⟨b,off,q0,G0,rfl,_,_,hs0,_,_,k0,hc0,_⟩:=h2'.lens (by decide) (k:=0) (by decide);obtain⟨_,_,q1,G1,e1,_,_,hs1,_,_,k1,hc1,_⟩:=h2'.lens (by decide) (k:=1) (by decide);injection e1 with e1
 injection e1 with e1 e2 _
 subst e1 e2;obtain⟨b',off',r0,J0,rfl,_,_,ht0,_,_,l0,hd0,_⟩:=h4.lens (by decide) (k:=0) (by decide);obtain⟨_,_,r1,J1,e1,_,_,ht1,_,_,l1,hd1,_⟩:=h4.lens (by decide) (k:=1) (by decide);injection e1 with e1
 injection e1 with e1 e2 _
 subst e1 e2;rw[show TC.size=5 from rfl]at hc0 hc1 hd0 hd1;obtain⟨B0,p0,_,rfl,rfl,_,_,_,_,m0⟩:=oD k0.rd;obtain⟨B1,p1,_,rfl,rfl,_,_,_,_,m1⟩:=oD k1.rd;obtain⟨B2,p2,_,rfl,rfl,_,_,_,_,m2⟩:=oD l0.rd;obtain⟨B3,p3,_,rfl,rfl,_,_,_,_,m3⟩:=oD l1.rd;have ca0:W4.cell? ⟨b,off,none⟩=some (.int .i64 5):=hc0 0 _ rfl;have ca1:W4.cell? ⟨b,off+1,none⟩=some (.int .i64 0):=hc0 1 _ rfl;have ca2:W4.cell? ⟨b,off+2,none⟩=some (.int .i64 0):=hc0 2 _ rfl;have ca3:W4.cell? ⟨b,off+3,none⟩=some (.int .i64 0):=hc0 3 _ rfl;have ca4:W4.cell? ⟨b,off+4,none⟩=some (.slice B0 12 p0):=hc0 4 _ rfl;have cb0:W4.cell? ⟨b,off+5,none⟩=some (.int .i64 6):=hc1 0 _ rfl;have cb1:W4.cell? ⟨b,off+5+1,none⟩=some (.int .i64 0):=hc1 1 _ rfl;have cb2:W4.cell? ⟨b,off+5+2,none⟩=some (.int .i64 0):=hc1 2 _ rfl;have cb3:W4.cell? ⟨b,off+5+3,none⟩=some (.int .i64 0):=hc1 3 _ rfl;have cb4:W4.cell? ⟨b,off+5+4,none⟩=some (.slice B1 0 p1):=hc1 4 _ rfl;have cc0:W4.cell? ⟨b',off',none⟩=some (.int .i64 5):=hd0 0 _ rfl;have cc1:W4.cell? ⟨b',off'+1,none⟩=some (.int .i64 1):=hd0 1 _ rfl;have cc2:W4.cell? ⟨b',off'+2,none⟩=some (.int .i64 0):=hd0 2 _ rfl;have cc3:W4.cell? ⟨b',off'+3,none⟩=some (.int .i64 0):=hd0 3 _ rfl;have cc4:W4.cell? ⟨b',off'+4,none⟩=some (.slice B2 12 p2):=hd0 4 _ rfl;have cd0:W4.cell? ⟨b',off'+5,none⟩=some (.int .i64 6):=hd1 0 _ rfl;have cd1:W4.cell? ⟨b',off'+5+1,none⟩=some (.int .i64 1):=hd1 1 _ rfl;have cd2:W4.cell? ⟨b',off'+5+2,none⟩=some (.int .i64 0):=hd1 2 _ rfl;have cd3:W4.cell? ⟨b',off'+5+3,none⟩=some (.int .i64 0):=hd1 3 _ rfl;have cd4:W4.cell? ⟨b',off'+5+4,none⟩=some (.slice B3 0 p3):=hd1 4 _ rfl;have m0':Res (Rep.sl (Rep.int .i64)) w.heap.size W4 [.slice B0 cy.length p0] cy G0:=⟨m0,k0.fresh⟩;have m2':Res (Rep.sl (Rep.int .i64)) W2.heap.size W4 [.slice B2 bA.length p2] bA J0:=⟨m2,l0.fresh⟩;have m1':(Rep.sl (Rep.int .i64)).rd W4 [.slice B1 0 p1] [] []:=by
  have m1a:(Rep.sl (Rep.int .i64)).rd W4 [.slice B1 0 p1] [] G1:=m1;obtain⟨_,_,_,xs,F1,hr,ha,hF⟩:=T2 m1a;obtain⟨rfl,rfl⟩:=ha;rw[show G1=[]by rw[hF];simp[fu]]at m1a;exact m1a
 have m3':(Rep.sl (Rep.int .i64)).rd W4 [.slice B3 0 p3] [] []:=by
  have m3a:(Rep.sl (Rep.int .i64)).rd W4 [.slice B3 0 p3] [] J1:=m3;obtain⟨_,_,_,xs,F1,hr,ha,hF⟩:=T2 m3a;obtain⟨rfl,rfl⟩:=ha;rw[show J1=[]by rw[hF];simp[fu]]at m3a;exact m3a
 have hall:TC.all W4 [.int .i64 5,.int .i64 0,.int .i64 0,.int .i64 0,.slice B0 cy.length p0,.int .i64 5,.int .i64 1,.int .i64 0,.int .i64 0,.slice B2 bA.length p2,.int .i64 6,.int .i64 1,.int .i64 0,.int .i64 0,.slice B3 0 p3,.int .i64 6,.int .i64 0,.int .i64 0,.int .i64 0,.slice B1 0 p1] (aV 13) (G0++J0):=by
  have q1:=eR (x:=⟨5,0,0,0,cy⟩) (by dsimp only;decide) (by dsimp only;decide) (by dsimp only;decide) (by dsimp only;decide) m0'.rd;have q2:=eR (x:=⟨5,1,0,0,bA⟩) (by dsimp only;decide) (by dsimp only;decide) (by dsimp only;decide) (by dsimp only;decide) m2'.rd;have q3:=eR (x:=⟨6,1,0,0,[]⟩) (by dsimp only;decide) (by dsimp only;decide) (by dsimp only;decide) (by dsimp only;decide) m3';have q4:=eR (x:=⟨6,0,0,0,[]⟩) (by dsimp only;decide) (by dsimp only;decide) (by dsimp only;decide) (by dsimp only;decide) m1';have:=TR (R:=TC) (TR (R:=TC) (TN q1) (TN q2)) (TR (R:=TC) (TN q3) (TN q4));simp only[List.append_nil]at this;exact this
 have hfr:bQ w.heap.size W4 (G0++J0):=m0'.fresh.join (m2'.fresh.mono hbA.size) (λg h h'=>by have:=hF2 g (hs0 g h);have:=hF4 g (ht0 g h');omega);clear h2' h4 hc0 hc1 hd0 hd1 k0 k1 l0 l1 m0 m1 m2 m3 m0' m1' m2' m3' hs0 hs1 ht0 ht1 hF2 hF4;have el0:(eW 0 cy).length=2:=rfl;have el1:(eW 1 bA).length=2:=rfl;go_wp2
 go_still_tail 12,(by kernel_rfl)
 obtain⟨G,hG,_⟩:=iI (R:=TC) W4 32 #[.int .i64 5,.int .i64 0,.int .i64 0,.int .i64 0,.slice B0 cy.length p0,.int .i64 5,.int .i64 1,.int .i64 0,.int .i64 0,.slice B2 bA.length p2,.int .i64 6,.int .i64 1,.int .i64 0,.int .i64 0,.slice B3 0 p3,.int .i64 6,.int .i64 0,.int .i64 0,.int .i64 0,.slice B1 0 p1] (aV 13) (G0++J0) w.heap.size hbb.size hall hfr (by decide);have HG:=Lib.hid hG;have hz:=hbb.size;clear hG hall hfr;go_wp2
 go_ret
 exact⟨_,_,G,rfl,HG.out.drew.rd,HG.out.drew.fresh,(by repeat (first|with_reducible exact Below.refl _ _|with_reducible assumption|(with_reducible refine Below.drew ?_)|(with_reducible refine Below.alloc ?_ (by first|with_reducible exact Nat.le_refl _|omega|(simp;done)|(simp;omega)|(simp[World.setCell];omega)|(simp[World.setCell];done)) _)|(with_reducible refine Below.setCell ?_ (by first|with_reducible exact Nat.le_refl _|omega|(simp;done)|(simp;omega)|(simp[World.setCell];omega)|(simp[World.setCell];done)) _)))⟩
theorem D5(w:World):Calls Tryz.prog 37 #[] w (bd TC (aV 0) w):=by
 go_enter Tryz.func37,Tryz.ntmps37
 go_wp2_with fail
 refine(cB 0 [] none 0 0 [] w.heap.size _ ⟨ka w,bQ.nil _ _⟩ (Nat.le_refl _) (by decide)).mono ?_;rintro e W2 ⟨A2,c2,F2,rfl,h2,hb2⟩;have H:bd TC (aV 0) w (.returned (.slice A2 (eW 0 []).length c2)) W2:=fA.up ⟨A2,c2,F2,rfl,h2,hb2⟩ (by repeat (first|with_reducible exact Below.refl _ _|with_reducible assumption|(with_reducible refine Below.drew ?_)|(with_reducible refine Below.alloc ?_ (by first|with_reducible exact Nat.le_refl _|omega|(simp;done)|(simp;omega)|(simp[World.setCell];omega)|(simp[World.setCell];done)) _)|(with_reducible refine Below.setCell ?_ (by first|with_reducible exact Nat.le_refl _|omega|(simp;done)|(simp;omega)|(simp[World.setCell];omega)|(simp[World.setCell];done)) _)));clear h2 hb2;go_wp2_with fail
 go_ret
 exact H
theorem D6(w:World):Calls Tryz.prog 39 #[] w (bd TC (aV 1) w):=by
 go_enter Tryz.func39,Tryz.ntmps39
 go_wp2_with fail
 refine(pU 1 _ (by decide)).mono ?_;rintro e W1 ⟨A1,c1,F1,rfl,h1,hf1,hb1⟩;go_wp2_with fail
 refine(cB 0 (List.replicate 12 1) A1 _ c1 F1 w.heap.size _ ⟨h1,hf1⟩ hb1.size (by decide)).mono ?_;rintro e W2 ⟨A2,c2,F2,rfl,h2,hb2⟩;have H:bd TC (aV 1) w (.returned (.slice A2 (eW 0 (List.replicate 12 1)).length c2)) W2:=fA.up ⟨A2,c2,F2,rfl,h2,hb2⟩ hb1;clear h2 hb2;go_wp2_with fail
 go_ret
 exact H
theorem D7(w:World):Calls Tryz.prog 41 #[] w (bd TC (aV 2) w):=by
 go_enter Tryz.func41,Tryz.ntmps41
 go_wp2_with fail
 refine(pU 2 _ (by decide)).mono ?_;rintro e W1 ⟨A1,c1,F1,rfl,h1,hf1,hb1⟩;go_wp2_with fail
 refine(cB 0 (List.replicate 12 2) A1 _ c1 F1 w.heap.size _ ⟨h1,hf1⟩ hb1.size (by decide)).mono ?_;rintro e W2 ⟨A2,c2,F2,rfl,h2,hb2⟩;have H:bd TC (aV 2) w (.returned (.slice A2 (eW 0 (List.replicate 12 2)).length c2)) W2:=fA.up ⟨A2,c2,F2,rfl,h2,hb2⟩ hb1;clear h2 hb2;go_wp2_with fail
 go_ret
 exact H
theorem D8(w:World):Calls Tryz.prog 42 #[] w (bd TC (aV 3) w):=by
 go_enter Tryz.func42,Tryz.ntmps42
 go_wp2_with fail
 refine(pT _).mono ?_;rintro e W1 ⟨A1,c1,F1,rfl,h1,hf1,hb1⟩;go_wp2_with fail
 refine(cB 0 cy A1 _ c1 F1 w.heap.size _ ⟨h1,hf1⟩ hb1.size (by decide)).mono ?_;rintro e W2 ⟨A2,c2,F2,rfl,h2,hb2⟩;have H:bd TC (aV 3) w (.returned (.slice A2 (eW 0 cy).length c2)) W2:=fA.up ⟨A2,c2,F2,rfl,h2,hb2⟩ hb1;clear h2 hb2;go_wp2_with fail
 go_ret
 exact H
theorem D9(w:World):Calls Tryz.prog 44 #[] w (bd TC (aV 4) w):=by
 go_enter Tryz.func44,Tryz.ntmps44
 go_wp2_with fail
 refine(cB 1 [] none 0 0 [] w.heap.size _ ⟨ka w,bQ.nil _ _⟩ (Nat.le_refl _) (by decide)).mono ?_;rintro e W2 ⟨A2,c2,F2,rfl,h2,hb2⟩;have H:bd TC (aV 4) w (.returned (.slice A2 (eW 1 []).length c2)) W2:=fA.up ⟨A2,c2,F2,rfl,h2,hb2⟩ (by repeat (first|with_reducible exact Below.refl _ _|with_reducible assumption|(with_reducible refine Below.drew ?_)|(with_reducible refine Below.alloc ?_ (by first|with_reducible exact Nat.le_refl _|omega|(simp;done)|(simp;omega)|(simp[World.setCell];omega)|(simp[World.setCell];done)) _)|(with_reducible refine Below.setCell ?_ (by first|with_reducible exact Nat.le_refl _|omega|(simp;done)|(simp;omega)|(simp[World.setCell];omega)|(simp[World.setCell];done)) _)));clear h2 hb2;go_wp2_with fail
 go_ret
 exact H
theorem Ea(w:World):Calls Tryz.prog 45 #[] w (bd TC (aV 5) w):=by
 go_enter Tryz.func45,Tryz.ntmps45
 go_wp2_with fail
 refine(mt _).mono ?_;rintro e W1 ⟨A1,c1,F1,rfl,h1,hf1,hb1⟩;go_wp2_with fail
 refine(cB 1 bA A1 _ c1 F1 w.heap.size _ ⟨h1,hf1⟩ hb1.size (by decide)).mono ?_;rintro e W2 ⟨A2,c2,F2,rfl,h2,hb2⟩;have H:bd TC (aV 5) w (.returned (.slice A2 (eW 1 bA).length c2)) W2:=fA.up ⟨A2,c2,F2,rfl,h2,hb2⟩ hb1;clear h2 hb2;go_wp2_with fail
 go_ret
 exact H
theorem Eb(w:World):Calls Tryz.prog 47 #[] w (bd TC (aV 6) w):=by
 go_enter Tryz.func47,Tryz.ntmps47
 go_wp2_with fail
 refine(cB 2 [] none 0 0 [] w.heap.size _ ⟨ka w,bQ.nil _ _⟩ (Nat.le_refl _) (by decide)).mono ?_;rintro e W2 ⟨A2,c2,F2,rfl,h2,hb2⟩;have H:bd TC (aV 6) w (.returned (.slice A2 (eW 2 []).length c2)) W2:=fA.up ⟨A2,c2,F2,rfl,h2,hb2⟩ (by repeat (first|with_reducible exact Below.refl _ _|with_reducible assumption|(with_reducible refine Below.drew ?_)|(with_reducible refine Below.alloc ?_ (by first|with_reducible exact Nat.le_refl _|omega|(simp;done)|(simp;omega)|(simp[World.setCell];omega)|(simp[World.setCell];done)) _)|(with_reducible refine Below.setCell ?_ (by first|with_reducible exact Nat.le_refl _|omega|(simp;done)|(simp;omega)|(simp[World.setCell];omega)|(simp[World.setCell];done)) _)));clear h2 hb2;go_wp2_with fail
 go_ret
 exact H
theorem gj(kd a b c:Int)(p:Nat)(w:World)(h0:(Lit.int .i64 kd).wf=true)(h1:(Lit.int .i64 a).wf=true)(h2:(Lit.int .i64 b).wf=true)(h3:(Lit.int .i64 c).wf=true)(hp:w.heap[p]? =some (.cells #[.int .i64 kd,.int .i64 a,.int .i64 b,.int .i64 c,.slice none 0 0] 32 (0,0))):
  Calls Tryz.prog 36 #[.pointer (some ⟨p,0,none⟩)] w (bd TC [⟨kd,a,b,c,[]⟩] w):=by
 have c0:w.cell? ⟨p,0,none⟩=some (.int .i64 kd):=by rw[cell_of_row w p 0 _ _ _ hp];rfl
 have c1:w.cell? ⟨p,1,none⟩=some (.int .i64 a):=by rw[cell_of_row w p 1 _ _ _ hp];rfl
 have c2:w.cell? ⟨p,2,none⟩=some (.int .i64 b):=by rw[cell_of_row w p 2 _ _ _ hp];rfl
 have c3:w.cell? ⟨p,3,none⟩=some (.int .i64 c):=by rw[cell_of_row w p 3 _ _ _ hp];rfl
 have c4:w.cell? ⟨p,4,none⟩=some (.slice none 0 0):=by rw[cell_of_row w p 4 _ _ _ hp];rfl
 obtain⟨G,hG,_⟩:=iI (R:=TC) w 32 #[.int .i64 kd,.int .i64 a,.int .i64 b,.int .i64 c,.slice none 0 0] [⟨kd,a,b,c,[]⟩] [] w.heap.size (Nat.le_refl _) (fq w kd a b c h0 h1 h2 h3) (bQ.nil _ _) (by simp);have HG:=Lib.hid hG;clear hG hp;go_enter Tryz.func36,Tryz.ntmps36
 go_wp2
 go_ret
 exact⟨_,_,G,rfl,HG.out.rd,HG.out.fresh,(by repeat (first|with_reducible exact Below.refl _ _|with_reducible assumption|(with_reducible refine Below.drew ?_)|(with_reducible refine Below.alloc ?_ (by first|with_reducible exact Nat.le_refl _|omega|(simp;done)|(simp;omega)|(simp[World.setCell];omega)|(simp[World.setCell];done)) _)|(with_reducible refine Below.setCell ?_ (by first|with_reducible exact Nat.le_refl _|omega|(simp;done)|(simp;omega)|(simp[World.setCell];omega)|(simp[World.setCell];done)) _)))⟩
theorem Il(w:World):Calls Tryz.prog 6 #[.int .i64 0] w (bd TC (aV 0) w):=by
 have ix:∀W:World,(Instr.index 86 (.agg (d7 w)) (.int .i64 0)).run Tryz.prog W= .ok (.func (.func 37) #[] #[]) W:=λ_=>by kernel_rfl
 have IX:=Lib.hid ix;clear ix;go_enter Tryz.func6,Tryz.ntmps6
 go_wp2_with (go_at_call 17;refine(bO _ _ _ _ true (by decide)).mono ?_;rintro e w' ⟨rfl,rfl⟩)
 refine(cL _).mono ?_;rintro e W1 ⟨rfl,hbx⟩;have hb1:=hbx.1;have ix:=IX.out;clear hbx IX;go_wp2_with fail
 refine(D5 _).mono ?_;rintro e W2 ⟨A2,c2,F2,rfl,h2,hf2,hb2⟩;have H:bd TC (aV 0) w (.returned (.slice A2 (aV 0).length c2)) W2:=⟨A2,c2,F2,rfl,h2,hf2.mono hb1.size,hb1.trans (hb2.mono hb1.size)⟩;clear h2 hf2 hb1 hb2;go_wp2_with fail
 go_ret
 exact H
theorem Im(w:World):Calls Tryz.prog 6 #[.int .i64 1] w (bd TC (aV 1) w):=by
 have ix:∀W:World,(Instr.index 86 (.agg (d7 w)) (.int .i64 1)).run Tryz.prog W= .ok (.func (.func 39) #[] #[]) W:=λ_=>by kernel_rfl
 have IX:=Lib.hid ix;clear ix;go_enter Tryz.func6,Tryz.ntmps6
 go_wp2_with (go_at_call 17;refine(bO _ _ _ _ true (by decide)).mono ?_;rintro e w' ⟨rfl,rfl⟩)
 refine(cL _).mono ?_;rintro e W1 ⟨rfl,hbx⟩;have hb1:=hbx.1;have ix:=IX.out;clear hbx IX;go_wp2_with fail
 refine(D6 _).mono ?_;rintro e W2 ⟨A2,c2,F2,rfl,h2,hf2,hb2⟩;have H:bd TC (aV 1) w (.returned (.slice A2 (aV 1).length c2)) W2:=⟨A2,c2,F2,rfl,h2,hf2.mono hb1.size,hb1.trans (hb2.mono hb1.size)⟩;clear h2 hf2 hb1 hb2;go_wp2_with fail
 go_ret
 exact H
theorem In(w:World):Calls Tryz.prog 6 #[.int .i64 2] w (bd TC (aV 2) w):=by
 have ix:∀W:World,(Instr.index 86 (.agg (d7 w)) (.int .i64 2)).run Tryz.prog W= .ok (.func (.func 41) #[] #[]) W:=λ_=>by kernel_rfl
 have IX:=Lib.hid ix;clear ix;go_enter Tryz.func6,Tryz.ntmps6
 go_wp2_with (go_at_call 17;refine(bO _ _ _ _ true (by decide)).mono ?_;rintro e w' ⟨rfl,rfl⟩)
 refine(cL _).mono ?_;rintro e W1 ⟨rfl,hbx⟩;have hb1:=hbx.1;have ix:=IX.out;clear hbx IX;go_wp2_with fail
 refine(D7 _).mono ?_;rintro e W2 ⟨A2,c2,F2,rfl,h2,hf2,hb2⟩;have H:bd TC (aV 2) w (.returned (.slice A2 (aV 2).length c2)) W2:=⟨A2,c2,F2,rfl,h2,hf2.mono hb1.size,hb1.trans (hb2.mono hb1.size)⟩;clear h2 hf2 hb1 hb2;go_wp2_with fail
 go_ret
 exact H
theorem Io(w:World):Calls Tryz.prog 6 #[.int .i64 3] w (bd TC (aV 3) w):=by
 have ix:∀W:World,(Instr.index 86 (.agg (d7 w)) (.int .i64 3)).run Tryz.prog W= .ok (.func (.func 42) #[] #[]) W:=λ_=>by kernel_rfl
 have IX:=Lib.hid ix;clear ix;go_enter Tryz.func6,Tryz.ntmps6
 go_wp2_with (go_at_call 17;refine(bO _ _ _ _ true (by decide)).mono ?_;rintro e w' ⟨rfl,rfl⟩)
 refine(cL _).mono ?_;rintro e W1 ⟨rfl,hbx⟩;have hb1:=hbx.1;have ix:=IX.out;clear hbx IX;go_wp2_with fail
 refine(D8 _).mono ?_;rintro e W2 ⟨A2,c2,F2,rfl,h2,hf2,hb2⟩;have H:bd TC (aV 3) w (.returned (.slice A2 (aV 3).length c2)) W2:=⟨A2,c2,F2,rfl,h2,hf2.mono hb1.size,hb1.trans (hb2.mono hb1.size)⟩;clear h2 hf2 hb1 hb2;go_wp2_with fail
 go_ret
 exact H
theorem Ip(w:World):Calls Tryz.prog 6 #[.int .i64 4] w (bd TC (aV 4) w):=by
 have ix:∀W:World,(Instr.index 86 (.agg (d7 w)) (.int .i64 4)).run Tryz.prog W= .ok (.func (.func 44) #[] #[]) W:=λ_=>by kernel_rfl
 have IX:=Lib.hid ix;clear ix;go_enter Tryz.func6,Tryz.ntmps6
 go_wp2_with (go_at_call 17;refine(bO _ _ _ _ true (by decide)).mono ?_;rintro e w' ⟨rfl,rfl⟩)
 refine(cL _).mono ?_;rintro e W1 ⟨rfl,hbx⟩;have hb1:=hbx.1;have ix:=IX.out;clear hbx IX;go_wp2_with fail
 refine(D9 _).mono ?_;rintro e W2 ⟨A2,c2,F2,rfl,h2,hf2,hb2⟩;have H:bd TC (aV 4) w (.returned (.slice A2 (aV 4).length c2)) W2:=⟨A2,c2,F2,rfl,h2,hf2.mono hb1.size,hb1.trans (hb2.mono hb1.size)⟩;clear h2 hf2 hb1 hb2;go_wp2_with fail
 go_ret
 exact H
theorem Iq(w:World):Calls Tryz.prog 6 #[.int .i64 5] w (bd TC (aV 5) w):=by
 have ix:∀W:World,(Instr.index 86 (.agg (d7 w)) (.int .i64 5)).run Tryz.prog W= .ok (.func (.func 45) #[] #[]) W:=λ_=>by kernel_rfl
 have IX:=Lib.hid ix;clear ix;go_enter Tryz.func6,Tryz.ntmps6
 go_wp2_with (go_at_call 17;refine(bO _ _ _ _ true (by decide)).mono ?_;rintro e w' ⟨rfl,rfl⟩)
 refine(cL _).mono ?_;rintro e W1 ⟨rfl,hbx⟩;have hb1:=hbx.1;have ix:=IX.out;clear hbx IX;go_wp2_with fail
 refine(Ea _).mono ?_;rintro e W2 ⟨A2,c2,F2,rfl,h2,hf2,hb2⟩;have H:bd TC (aV 5) w (.returned (.slice A2 (aV 5).length c2)) W2:=⟨A2,c2,F2,rfl,h2,hf2.mono hb1.size,hb1.trans (hb2.mono hb1.size)⟩;clear h2 hf2 hb1 hb2;go_wp2_with fail
 go_ret
 exact H
theorem Ir(w:World):Calls Tryz.prog 6 #[.int .i64 6] w (bd TC (aV 6) w):=by
 have ix:∀W:World,(Instr.index 86 (.agg (d7 w)) (.int .i64 6)).run Tryz.prog W= .ok (.func (.func 47) #[] #[]) W:=λ_=>by kernel_rfl
 have IX:=Lib.hid ix;clear ix;go_enter Tryz.func6,Tryz.ntmps6
 go_wp2_with (go_at_call 17;refine(bO _ _ _ _ true (by decide)).mono ?_;rintro e w' ⟨rfl,rfl⟩)
 refine(cL _).mono ?_;rintro e W1 ⟨rfl,hbx⟩;have hb1:=hbx.1;have ix:=IX.out;clear hbx IX;go_wp2_with fail
 refine(Eb _).mono ?_;rintro e W2 ⟨A2,c2,F2,rfl,h2,hf2,hb2⟩;have H:bd TC (aV 6) w (.returned (.slice A2 (aV 6).length c2)) W2:=⟨A2,c2,F2,rfl,h2,hf2.mono hb1.size,hb1.trans (hb2.mono hb1.size)⟩;clear h2 hf2 hb1 hb2;go_wp2_with fail
 go_ret
 exact H
theorem Is(w:World):Calls Tryz.prog 6 #[.int .i64 7] w (bd TC (aV 7) w):=by
 have ix:∀W:World,(Instr.index 86 (.agg (d7 w)) (.int .i64 7)).run Tryz.prog W= .ok (.func (.func 36) #[] #[.pointer (some ⟨w.heap.size+1,0,none⟩)]) W:=λ_=>by kernel_rfl
 have IX:=Lib.hid ix;clear ix;go_enter Tryz.func6,Tryz.ntmps6
 go_wp2_with (go_at_call 17;refine(bO _ _ _ _ true (by decide)).mono ?_;rintro e w' ⟨rfl,rfl⟩)
 refine(cL _).mono ?_;rintro e W1 ⟨rfl,hbx⟩;have hb1:=hbx.1;have ix:=IX.out;have hp:=hbx.2.1;clear hbx IX;go_wp2_with fail
 refine(gj 7 0 0 0 _ _ (by decide) (by decide) (by decide) (by decide) hp).mono ?_;rintro e W2 ⟨A2,c2,F2,rfl,h2,hf2,hb2⟩;have H:bd TC (aV 7) w (.returned (.slice A2 (aV 7).length c2)) W2:=⟨A2,c2,F2,rfl,h2,hf2.mono hb1.size,hb1.trans (hb2.mono hb1.size)⟩;clear h2 hf2 hb1 hb2;go_wp2_with fail
 go_ret
 exact H
theorem It(w:World):Calls Tryz.prog 6 #[.int .i64 8] w (bd TC (aV 8) w):=by
 have ix:∀W:World,(Instr.index 86 (.agg (d7 w)) (.int .i64 8)).run Tryz.prog W= .ok (.func (.func 36) #[] #[.pointer (some ⟨w.heap.size+1+1,0,none⟩)]) W:=λ_=>by kernel_rfl
 have IX:=Lib.hid ix;clear ix;go_enter Tryz.func6,Tryz.ntmps6
 go_wp2_with (go_at_call 17;refine(bO _ _ _ _ true (by decide)).mono ?_;rintro e w' ⟨rfl,rfl⟩)
 refine(cL _).mono ?_;rintro e W1 ⟨rfl,hbx⟩;have hb1:=hbx.1;have ix:=IX.out;have hp:=hbx.2.2.1;clear hbx IX;go_wp2_with fail
 refine(gj 8 0 0 0 _ _ (by decide) (by decide) (by decide) (by decide) hp).mono ?_;rintro e W2 ⟨A2,c2,F2,rfl,h2,hf2,hb2⟩;have H:bd TC (aV 8) w (.returned (.slice A2 (aV 8).length c2)) W2:=⟨A2,c2,F2,rfl,h2,hf2.mono hb1.size,hb1.trans (hb2.mono hb1.size)⟩;clear h2 hf2 hb1 hb2;go_wp2_with fail
 go_ret
 exact H
theorem Iu(w:World):Calls Tryz.prog 6 #[.int .i64 9] w (bd TC (aV 9) w):=by
 have ix:∀W:World,(Instr.index 86 (.agg (d7 w)) (.int .i64 9)).run Tryz.prog W= .ok (.func (.func 36) #[] #[.pointer (some ⟨w.heap.size+1+1+1,0,none⟩)]) W:=λ_=>by kernel_rfl
 have IX:=Lib.hid ix;clear ix;go_enter Tryz.func6,Tryz.ntmps6
 go_wp2_with (go_at_call 17;refine(bO _ _ _ _ true (by decide)).mono ?_;rintro e w' ⟨rfl,rfl⟩)
 refine(cL _).mono ?_;rintro e W1 ⟨rfl,hbx⟩;have hb1:=hbx.1;have ix:=IX.out;have hp:=hbx.2.2.2.1;clear hbx IX;go_wp2_with fail
 refine(gj 9 0 1 0 _ _ (by decide) (by decide) (by decide) (by decide) hp).mono ?_;rintro e W2 ⟨A2,c2,F2,rfl,h2,hf2,hb2⟩;have H:bd TC (aV 9) w (.returned (.slice A2 (aV 9).length c2)) W2:=⟨A2,c2,F2,rfl,h2,hf2.mono hb1.size,hb1.trans (hb2.mono hb1.size)⟩;clear h2 hf2 hb1 hb2;go_wp2_with fail
 go_ret
 exact H
theorem FT(w:World):Calls Tryz.prog 6 #[.int .i64 10] w (bd TC (aV 10) w):=by
 have ix:∀W:World,(Instr.index 86 (.agg (d7 w)) (.int .i64 10)).run Tryz.prog W= .ok (.func (.func 36) #[] #[.pointer (some ⟨w.heap.size+1+1+1+1,0,none⟩)]) W:=λ_=>by kernel_rfl
 have IX:=Lib.hid ix;clear ix;go_enter Tryz.func6,Tryz.ntmps6
 go_wp2_with (go_at_call 17;refine(bO _ _ _ _ true (by decide)).mono ?_;rintro e w' ⟨rfl,rfl⟩)
 refine(cL _).mono ?_;rintro e W1 ⟨rfl,hbx⟩;have hb1:=hbx.1;have ix:=IX.out;have hp:=hbx.2.2.2.2.1;clear hbx IX;go_wp2_with fail
 refine(gj 4 0 0 0 _ _ (by decide) (by decide) (by decide) (by decide) hp).mono ?_;rintro e W2 ⟨A2,c2,F2,rfl,h2,hf2,hb2⟩;have H:bd TC (aV 10) w (.returned (.slice A2 (aV 10).length c2)) W2:=⟨A2,c2,F2,rfl,h2,hf2.mono hb1.size,hb1.trans (hb2.mono hb1.size)⟩;clear h2 hf2 hb1 hb2;go_wp2_with fail
 go_ret
 exact H
theorem FU(w:World):Calls Tryz.prog 6 #[.int .i64 11] w (bd TC (aV 11) w):=by
 have ix:∀W:World,(Instr.index 86 (.agg (d7 w)) (.int .i64 11)).run Tryz.prog W= .ok (.func (.func 36) #[] #[.pointer (some ⟨w.heap.size+1+1+1+1+1,0,none⟩)]) W:=λ_=>by kernel_rfl
 have IX:=Lib.hid ix;clear ix;go_enter Tryz.func6,Tryz.ntmps6
 go_wp2_with (go_at_call 17;refine(bO _ _ _ _ true (by decide)).mono ?_;rintro e w' ⟨rfl,rfl⟩)
 refine(cL _).mono ?_;rintro e W1 ⟨rfl,hbx⟩;have hb1:=hbx.1;have ix:=IX.out;have hp:=hbx.2.2.2.2.2.1;clear hbx IX;go_wp2_with fail
 refine(gj 4 3 60 0 _ _ (by decide) (by decide) (by decide) (by decide) hp).mono ?_;rintro e W2 ⟨A2,c2,F2,rfl,h2,hf2,hb2⟩;have H:bd TC (aV 11) w (.returned (.slice A2 (aV 11).length c2)) W2:=⟨A2,c2,F2,rfl,h2,hf2.mono hb1.size,hb1.trans (hb2.mono hb1.size)⟩;clear h2 hf2 hb1 hb2;go_wp2_with fail
 go_ret
 exact H
theorem FV(w:World):Calls Tryz.prog 6 #[.int .i64 12] w (bd TC (aV 12) w):=by
 have ix:∀W:World,(Instr.index 86 (.agg (d7 w)) (.int .i64 12)).run Tryz.prog W= .ok (.func (.func 36) #[] #[.pointer (some ⟨w.heap.size+1+1+1+1+1+1,0,none⟩)]) W:=λ_=>by kernel_rfl
 have IX:=Lib.hid ix;clear ix;go_enter Tryz.func6,Tryz.ntmps6
 go_wp2_with (go_at_call 17;refine(bO _ _ _ _ true (by decide)).mono ?_;rintro e w' ⟨rfl,rfl⟩)
 refine(cL _).mono ?_;rintro e W1 ⟨rfl,hbx⟩;have hb1:=hbx.1;have ix:=IX.out;have hp:=hbx.2.2.2.2.2.2;clear hbx IX;go_wp2_with fail
 refine(gj 11 3 1 5 _ _ (by decide) (by decide) (by decide) (by decide) hp).mono ?_;rintro e W2 ⟨A2,c2,F2,rfl,h2,hf2,hb2⟩;have H:bd TC (aV 12) w (.returned (.slice A2 (aV 12).length c2)) W2:=⟨A2,c2,F2,rfl,h2,hf2.mono hb1.size,hb1.trans (hb2.mono hb1.size)⟩;clear h2 hf2 hb1 hb2;go_wp2_with fail
 go_ret
 exact H
theorem FW(w:World):Calls Tryz.prog 6 #[.int .i64 13] w (bd TC (aV 13) w):=by
 have ix:∀W:World,(Instr.index 86 (.agg (d7 w)) (.int .i64 13)).run Tryz.prog W= .ok (.func (.func 48) #[] #[]) W:=λ_=>by kernel_rfl
 have IX:=Lib.hid ix;clear ix;go_enter Tryz.func6,Tryz.ntmps6
 go_wp2_with (go_at_call 17;refine(bO _ _ _ _ true (by decide)).mono ?_;rintro e w' ⟨rfl,rfl⟩)
 refine(cL _).mono ?_;rintro e W1 ⟨rfl,hbx⟩;have hb1:=hbx.1;have ix:=IX.out;clear hbx IX;go_wp2_with fail
 refine(BG _).mono ?_;rintro e W2 ⟨A2,c2,F2,rfl,h2,hf2,hb2⟩;have H:bd TC (aV 13) w (.returned (.slice A2 (aV 13).length c2)) W2:=⟨A2,c2,F2,rfl,h2,hf2.mono hb1.size,hb1.trans (hb2.mono hb1.size)⟩;clear h2 hf2 hb1 hb2;go_wp2_with fail
 go_ret
 exact H
theorem Eg(k:Int)(w:World)(h:¬(0<=k/\k<=13)):Calls Tryz.prog 6 #[.int .i64 k] w (bd TC (aV k) w):=by
 have e:aV k=[]:=by unfold aV;repeat rw[if_neg (by omega)]
 rw[e];have hf:=Lib.hid (lH h);clear e h;go_enter Tryz.func6,Tryz.ntmps6
 go_wp2_with (go_at_call 17;refine(bO _ _ _ _ false hf.out).mono ?_;rintro e w' ⟨rfl,rfl⟩)
 go_ret
 exact⟨_,0,[],rfl,⟨none,0,[],[],rfl,Nat.le_refl _,Nat.zero_le _,λj hj=>absurd hj (Nat.not_lt_zero _),⟨rfl,rfl⟩,rfl⟩,bQ.nil _ _,(by repeat (first|with_reducible exact Below.refl _ _|with_reducible assumption|(with_reducible refine Below.drew ?_)|(with_reducible refine Below.alloc ?_ (by first|with_reducible exact Nat.le_refl _|omega|(simp;done)|(simp;omega)|(simp[World.setCell];omega)|(simp[World.setCell];done)) _)|(with_reducible refine Below.setCell ?_ (by first|with_reducible exact Nat.le_refl _|omega|(simp;done)|(simp;omega)|(simp[World.setCell];omega)|(simp[World.setCell];done)) _)))⟩
theorem Aa(k:Int)(w:World):Calls Tryz.prog 6 #[.int .i64 k] w (bd TC (aV k) w):=by
 by_cases h:0<=k/\k<=13
 ·rcases kI h with rfl|rfl|rfl|rfl|rfl|rfl|rfl|rfl|rfl|rfl|rfl|rfl|rfl|rfl
  ·exact Il w
  ·exact Im w
  ·exact In w
  ·exact Io w
  ·exact Ip w
  ·exact Iq w
  ·exact Ir w
  ·exact Is w
  ·exact It w
  ·exact Iu w
  ·exact FT w
  ·exact FU w
  ·exact FV w
  ·exact FW w
 ·exact Eg k w h
def oW:List (List Nat):=a8 [0,0,129,3,0,16708,0,0,519,393,41606,0xb2892071851030812cb]
theorem z3:aS TC DStep.dsW:=
 TQ (f:=λx:DStep=>(x.kind,x.a,x.b,x.c,x.fates)) (TG aS.int (TG aS.int (TG aS.int (TG aS.int (aS.sl aS.int)))))
theorem Ab(k:Int):aM av 6 [pI k] (.val (.one (.sl ((aV k).map DStep.dsW)))):=by
 refine⟨call6,λZ w us hz hg hul hr=>?_⟩;obtain⟨w1,hw1,hb1,hz1⟩:=hg;match us,hul,hr with
 |[],hul,_=>simp at hul
 |a::b::r,hul,_=>simp at hul
 |[a],hul,hr=>
  have ha:a= .int .i64 k:=Ez rfl (show bK Z w (dI k) a from hr 0 _ a rfl rfl);subst ha;refine(Aa k w).mono ?_;rintro e w' ⟨A,cap,F,rfl,hrd,hf,hbl⟩;have hzz:∀b∈F,Z b\/(w.heap.size<=b/\b<w'.heap.size):=λb hb=> .inr ⟨(hf.2 b hb).1,hf.lt b hb⟩;have:=aS.sl z3 hzz hrd;exact⟨_,λb=>Z b\/(w.heap.size<=b/\b<w'.heap.size),rfl,hbl,λb h=> .inl h,λb h=>h,this.2 0 _ _ rfl rfl⟩
theorem AY(k:Int):aM av 9 [pI k] (.val (.one (.sl ((aV k).map DStep.dsW)))):=by
 refine⟨call9,λZ w us hz hg hul hr=>?_⟩;obtain⟨w1,hw1,hb1,hz1⟩:=hg;match us,hul,hr with
 |[],hul,_=>simp at hul
 |a::b::r,hul,_=>simp at hul
 |[a],hul,hr=>
  have ha:a= .int .i64 k:=Ez rfl (show bK Z w (dI k) a from hr 0 _ a rfl rfl);subst ha;refine(AX k w).mono ?_;rintro e w' ⟨A,cap,F,rfl,hrd,hf,hbl⟩;have hzz:∀b∈F,Z b\/(w.heap.size<=b/\b<w'.heap.size):=λb hb=> .inr ⟨(hf.2 b hb).1,hf.lt b hb⟩;have:=aS.sl z3 hzz hrd;exact⟨_,λb=>Z b\/(w.heap.size<=b/\b<w'.heap.size),rfl,hbl,λb h=> .inl h,λb h=>h,this.2 0 _ _ rfl rfl⟩
theorem Iw(l:List Int)(hl:l.length<=1048576):aM av 65 [.one (.sl (l.map eI))] (.val (.one (.sl (l.map eI)))):=by
 refine pO func65 call65 ntmps65 results65 λS=>?_;conv=>whnf
 repeat'((first|refine awz ?_|refine aP (by first|(intro y hy;obtain⟨a,_,rfl⟩:=mem_map.1 hy;rfl)|(simp;done)) ?_|refine aQ ak ?_|exact rZ|refine tW ?_ ?_|intro h)<;>conv=>whnf)
theorem FX(s:DStep)(hs:s.fates.length<=12):aM av 49 [.agg s.dsW] (.val (.agg s.dsW)):=by
 have c:=Iw s.fates ac;refine pO func49 call49 ntmps49 results49 λS=>?_;conv=>whnf
 repeat'((first|refine awz ?_|refine cP (c) ?_|exact rZ|refine tW ?_ ?_|intro h)<;>conv=>whnf)
theorem vL(l:List DStep)(hl:l.length<=1000)(hf:∀s∈l,s.fates.length<=12):cV av 19 [.one (.d (.sl (l.map DStep.dsW)))] [] [(6,.row 32 5 (l.map DStep.dsW))] [] (.val (.one (.own 6))):=by
 refine bL aL func19 rfl call19 ntmps19 (WA results19) rfl λS pv=>?_;conv=>whnf
 repeat'(first|refine awz ?_|exact rZ|refine tW ?_ ?_|(intro h;conv=>whnf))
 refine TE (λk:Nat=>k<=l.length) (6::[3,5,9,10,11,12,13,14,15,16,17,18]) (λk=>[(3,.one (.own 6)),(9,vI .i64 (k:Int))]) (λk=>[(9999,.frame (cE []) pv),(6,.row 32 5 ((l.take k).map DStep.dsW))]) (λk=>l.length-k) 0 (Nat.zero_le _) ?_ sbW (λk hk=>?_)<;>(conv=>whnf)
 ·exact whd
 ·by_cases hlt:k<l.length
  ·have hc:decide ((k:Int)<((l.map DStep.dsW).length:Int))=true:=al;have c:=FX l[k] (hf _ (List.getElem_mem hlt));repeat'((first|refine awz ?_|refine Tw hc ?_|refine TJ hlt ?_|refine cP (c) ?_|refine aP (by first|(intro y hy;obtain⟨a,_,rfl⟩:=mem_map.1 hy;rfl)|(simp;done)) ?_|refine aQ ak ?_|refine Tz ac ac ?_|exact rZ|refine tW ?_ ?_|intro h)<;>conv=>whnf)
   all_goals
    refine aW.mk ⟨k+1,hlt,ac,?_,Tu rfl (Tu (congrArg some (congrArg (AO.row 32 5) (gY DStep.dsW hlt).symm)) Tx)⟩;exact hds
  ·have e:k=l.length:=ac;subst e;have hc:decide ((l.length:Int)<((l.map DStep.dsW).length:Int))=false:=ai;rw[List.take_length];repeat'((first|refine awz ?_|refine Tv hc ?_|exact rZ|refine tW ?_ ?_|intro h)<;>conv=>whnf)
theorem Br(l:List DStep)(hl:l.length<=1000)(hf:∀s∈l,s.fates.length<=12):cV av 28 [.one (.d (.sl (l.map DStep.dsW)))] [] [(6,.row 32 5 (l.map DStep.dsW))] [] (.val (.one (.own 6))):=by
 refine bL aL func28 rfl call28 ntmps28 (WA results28) rfl λS pv=>?_;conv=>whnf
 repeat'(first|refine awz ?_|exact rZ|refine tW ?_ ?_|(intro h;conv=>whnf))
 refine TE (λk:Nat=>k<=l.length) (6::[3,4,5,7,8,9,10,11,12,13,14,15,16,17,18,19,20,21,22,23,24]) (λk=>[(3,.one (.own 6)),(4,vI .i64 (k:Int))]) (λk=>[(9999,.frame (cE []) pv),(6,.row 32 5 ((l.take k).map DStep.dsW))]) (λk=>l.length-k) 0 (Nat.zero_le _) ?_ sbW (λk hk=>?_)<;>(conv=>whnf)
 ·exact whd
 ·by_cases hlt:k<l.length
  ·have hc:decide ((k:Int)<((l.map DStep.dsW).length:Int))=true:=al;have c:=cH l[k].fates (by have:=hf _ (List.getElem_mem hlt);omega);repeat'((first|refine awz ?_|refine Tw hc ?_|refine TJ hlt ?_|refine cP (c) ?_|refine aP (by first|(intro y hy;obtain⟨a,_,rfl⟩:=mem_map.1 hy;rfl)|(simp;done)) ?_|refine aQ ak ?_|refine Tz ac ac ?_|exact rZ|refine tW ?_ ?_|intro h)<;>conv=>whnf)
   all_goals
    refine aW.mk ⟨k+1,hlt,ac,?_,Tu rfl (Tu (congrArg some (congrArg (AO.row 32 5) (gY DStep.dsW hlt).symm)) Tx)⟩;exact hds
  ·have e:k=l.length:=ac;subst e;have hc:decide ((l.length:Int)<((l.map DStep.dsW).length:Int))=false:=ai;rw[List.take_length];repeat'((first|refine awz ?_|refine Tv hc ?_|exact rZ|refine tW ?_ ?_|intro h)<;>conv=>whnf)
def lh(l:List DStep)(a:Int)(f:List DStep):List DStep:=
 if f.length=0\/600<l.length+f.length\/¬(0<=a/\a<=l.length)then []else l.take a.toNat++f++l.drop a.toNat
theorem w4(k:Int):(aV k).length<=4:=by
 by_cases h:0<=k/\k<=13
 ·rcases kI h with rfl|rfl|rfl|rfl|rfl|rfl|rfl|rfl|rfl|rfl|rfl|rfl|rfl|rfl
  all_goals decide
 ·have e:aV k=[]:=by unfold aV;repeat rw[if_neg ac]
  rw[e];decide
theorem Lv{k:Int}(h:0<=k/\k<=13):∃s r,aV k=s::r:=by
 rcases kI h with rfl|rfl|rfl|rfl|rfl|rfl|rfl|rfl|rfl|rfl|rfl|rfl|rfl|rfl
 all_goals exact⟨_,_,rfl⟩
theorem CJ{k:Int}(h:¬(0<=k/\k<=13)):aV k=[]:=by unfold aV;repeat rw[if_neg ac]
theorem EX(l:List DStep)(a k:Int)(hl:l.length<=600)(hf:∀s∈l,s.fates.length<=12):aM av 10 [.one (.sl (l.map DStep.dsW)),pI a,pI k] (.val (.one (.sl ((lh l a (aV k)).map DStep.dsW)))):=by
 have c0:=AY k;have h4:=w4 k;generalize aV k=f at c0 h4;have el:((l.map DStep.dsW).length:Int)=(l.length:Int):=by rw[length_map]
 have ef:((f.map DStep.dsW).length:Int)=(f.length:Int):=by rw[length_map]
 by_cases h0:f.length=0
 ·have e:lh l a f=[]:=if_pos (.inl h0);have q:(((f.map DStep.dsW).length:Int)==0)=true:=by rw[ef];simp[h0]
  rw[e];refine pO func10 call10 ntmps10 results10 λS=>?_;conv=>whnf
  repeat'((first|refine awz ?_|refine cP (c0) ?_|refine Tw q ?_|refine Tw ah ?_|refine Tv ah ?_|exact rZ|refine tW ?_ ?_|intro h)<;>conv=>whnf)
 ·have q0:(((f.map DStep.dsW).length:Int)==0)=false:=by rw[ef];simp only[beq_eq_false_iff_ne,ne_eq];omega
  by_cases h6:600<l.length+f.length
  ·have e:lh l a f=[]:=if_pos (.inr (.inl h6));have q:decide (((l.map DStep.dsW).length:Int)+((f.map DStep.dsW).length:Int)>600)=true:=by rw[el,ef,decide_eq_true_eq];omega
   rw[e];refine pO func10 call10 ntmps10 results10 λS=>?_;conv=>whnf
   repeat'((first|refine awz ?_|refine cP (c0) ?_|refine Tv q0 ?_|refine Tw q ?_|refine Tw ah ?_|refine Tv ah ?_|refine Tz aj aj ?_|exact rZ|refine tW ?_ ?_|intro h)<;>conv=>whnf)
  ·have q1:decide (((l.map DStep.dsW).length:Int)+((f.map DStep.dsW).length:Int)>600)=false:=by rw[el,ef,decide_eq_false_iff_not];omega
   have ci:=aN a 0 ((l.map DStep.dsW).length:Int);by_cases ha:0<=a/\a<=l.length
   ·rw[show aI a 0 ((l.map DStep.dsW).length:Int)=true by rw[el];simp only[aI,Bool.and_eq_true,decide_eq_true_eq];exact ha]at ci;obtain⟨n,rfl⟩:∃n:Nat,a=(n:Int):=⟨a.toNat,ac⟩;have hn:n<=l.length:=ac;have e:lh l n f=l.take n++f++l.drop n:=by unfold lh;rw[if_neg ac];rfl
    have e1:List.drop 0 (List.take n (l.map DStep.dsW))=(l.take n).map DStep.dsW:=by simp[List.map_take]
    have e2:List.drop n (List.take l.length (l.map DStep.dsW))=(l.drop n).map DStep.dsW:=by rw[List.take_of_length_le ai,List.map_drop]
    have e3:(l.take n++f++l.drop n).map DStep.dsW=(l.take n).map DStep.dsW++f.map DStep.dsW++(l.drop n).map DStep.dsW:=ai;have k1:=Br (l.take n) (by rw[List.length_take];omega) λs hs=>hf s (List.mem_of_mem_take hs);have k2:=Br (l.drop n) (by rw[List.length_drop];omega) λs hs=>hf s (List.mem_of_mem_drop hs);rw[e,e3];refine pO func10 call10 ntmps10 results10 λS=>?_;conv=>whnf
    repeat'(first|((first|refine awz ?_|refine cP (c0) ?_|refine cP (ci) ?_|refine Tv q0 ?_|refine Tv q1 ?_|fail)<;>conv=>whnf)|(refine⟨0,n,rfl,rfl,Nat.zero_le _,aj,(λx hx=>by obtain⟨a,_,rfl⟩:=mem_map.1 hx;rfl),?_⟩;conv=>whnf;rw[e1])|(refine⟨n,l.length,rfl,(by simp[rW]),ac,ai,(λx hx=>by obtain⟨a,_,rfl⟩:=mem_map.1 hx;rfl),?_⟩;conv=>whnf;rw[e2])|((first|refine TA k1 [(6,61)] rfl rfl ?_|refine TA k2 [(6,62)] rfl rfl ?_|refine aP (by first|(intro y hy;obtain⟨a,_,rfl⟩:=mem_map.1 hy;rfl)|(simp;done)) ?_|refine aQ ak ?_|refine Tw ah ?_|refine Tv ah ?_|refine Tz aj aj ?_|exact rZ|refine tW ?_ ?_|intro h)<;>conv=>whnf))
   ·rw[show aI a 0 ((l.map DStep.dsW).length:Int)=false by rw[el];simp only[aI,Bool.and_eq_false_iff,decide_eq_false_iff_not];omega]at ci;have e:lh l a f=[]:=if_pos (.inr (.inr ha));rw[e];refine pO func10 call10 ntmps10 results10 λS=>?_;conv=>whnf
    repeat'((first|refine awz ?_|refine cP (c0) ?_|refine cP (ci) ?_|refine Tv q0 ?_|refine Tv q1 ?_|refine Tw ah ?_|refine Tv ah ?_|refine Tz aj aj ?_|exact rZ|refine tW ?_ ?_|intro h)<;>conv=>whnf)
theorem Iv(k:Int)(h:¬(0<=k/\k<=13)):cV av 6 [.one (.d (dI k))] [] [] [] (.val (.one .nil)):=by
 have c:=fv k 0 13;rw[show aI k 0 13=false by simp only[aI,Bool.and_eq_false_iff,decide_eq_false_iff_not];omega]at c;refine bL aL func6 rfl call6 ntmps6 (WA results6) rfl λS pv=>?_;conv=>whnf
 repeat'((first|refine awz ?_|refine cP (c) ?_|refine Tw ah ?_|refine Tv ah ?_|exact rZ|refine tW ?_ ?_|intro h)<;>conv=>whnf)
theorem Eh(l:List DStep)(a k:Int)(hl:l.length<=600)(hf:∀s∈l,s.fates.length<=12):aM av 7 [.one (.sl (l.map DStep.dsW)),pI a,pI k] (.val (.one (.sl ((lh l a (aV k)).map DStep.dsW)))):=by
 have el:((l.map DStep.dsW).length:Int)=(l.length:Int):=by rw[length_map]
 by_cases hk:0<=k/\k<=13
 ·have c0:=Ab k;have h4:=w4 k;obtain⟨f0,fr,hfe⟩:=Lv hk;rw[hfe]at c0 h4⊢;have hfr:fr.length<=4:=by simp only[List.length_cons]at h4;omega
  have ef:(((f0::fr).map DStep.dsW).length:Int)=((f0::fr).length:Int):=by rw[length_map]
  have ci:=fv a 0 ((l.map DStep.dsW).length:Int);by_cases ha:0<=a/\a<=l.length
  ·rw[show aI a 0 ((l.map DStep.dsW).length:Int)=true by rw[el];simp only[aI,Bool.and_eq_true,decide_eq_true_eq];exact ha]at ci;by_cases h6:600<l.length+(f0::fr).length
   ·have e:lh l a (f0::fr)=[]:=if_pos (.inr (.inl h6));have q:decide (((l.map DStep.dsW).length:Int)+(((f0::fr).map DStep.dsW).length:Int)>600)=true:=by rw[el,ef,decide_eq_true_eq];omega
    rw[e];refine pO func7 call7 ntmps7 results7 λS=>?_;conv=>whnf
    repeat'((first|refine awz ?_|refine cP (c0) ?_|refine cP (ci) ?_|refine Uj false rfl underlying24 (.inr (.inr ⟨_,_,_,rfl,rfl⟩)) ?_|refine Tw q ?_|refine Tw ah ?_|refine Tv ah ?_|refine Tz aj aj ?_|exact rZ|refine tW ?_ ?_|intro h)<;>conv=>whnf)
   ·have q1:decide (((l.map DStep.dsW).length:Int)+(((f0::fr).map DStep.dsW).length:Int)>600)=false:=by rw[el,ef,decide_eq_false_iff_not];omega
    obtain⟨n,rfl⟩:∃n:Nat,a=(n:Int):=⟨a.toNat,ac⟩;have hn:n<=l.length:=ac;have e:lh l n (f0::fr)=l.take n++(f0::fr)++l.drop n:=by unfold lh;rw[if_neg (by simp only[List.length_cons]at*;omega)];rfl
    have e1:List.drop 0 (List.take n (l.map DStep.dsW))=(l.take n).map DStep.dsW:=by simp[List.map_take]
    have e2:List.drop n (List.take l.length (l.map DStep.dsW))=(l.drop n).map DStep.dsW:=by rw[List.take_of_length_le ai,List.map_drop]
    have e3:(l.take n++(f0::fr)++l.drop n).map DStep.dsW=(l.take n).map DStep.dsW++(f0::fr).map DStep.dsW++(l.drop n).map DStep.dsW:=ai;have k1:=vL (l.take n) (by rw[List.length_take];omega) λs hs=>hf s (List.mem_of_mem_take hs);have k2:=vL (l.drop n) (by rw[List.length_drop];omega) λs hs=>hf s (List.mem_of_mem_drop hs);rw[e,e3];refine pO func7 call7 ntmps7 results7 λS=>?_;conv=>whnf
    repeat'((first|refine awz ?_|refine cP (c0) ?_|refine cP (ci) ?_|refine Uj false rfl underlying24 (.inr (.inr ⟨_,_,_,rfl,rfl⟩)) ?_|refine Tv q1 ?_|refine Tw ah ?_|refine Tv ah ?_|refine Tz aj aj ?_|exact rZ|refine tW ?_ ?_|intro h)<;>conv=>whnf)
    (refine TD aL 4 (tkc [0,1,4,6,7] (.two 2 (.two 3 (.two 5 (onc [8,9,10] (.take 11 .done)) 8 (onc [5,9,10] (.take 11 .done))) 8 (onc [3,5,9,10] (.take 11 .done))) 8 (onc [2,3,5,9,10] (.take 11 .done)))) [] oW ae ae ae ae (λRz=>?_);(conv=>whnf))
    repeat'(first|(refine awz ?_;conv=>whnf)|(refine⟨0,n,rfl,rfl,Nat.zero_le _,aj,(λx hx=>by obtain⟨a,_,rfl⟩:=mem_map.1 hx;rfl),?_⟩;conv=>whnf;rw[e1])|(refine⟨n,l.length,rfl,(by simp[rW]),ac,ai,(λx hx=>by obtain⟨a,_,rfl⟩:=mem_map.1 hx;rfl),?_⟩;conv=>whnf;rw[e2])|((first|refine TA k1 [(6,61)] rfl rfl ?_|refine TA k2 [(6,62)] rfl rfl ?_|refine aP (by first|(intro y hy;obtain⟨a,_,rfl⟩:=mem_map.1 hy;rfl)|(simp;done)) ?_|refine aQ ak ?_|exact rZ|refine tW ?_ ?_|intro h)<;>conv=>whnf))
  ·rw[show aI a 0 ((l.map DStep.dsW).length:Int)=false by rw[el];simp only[aI,Bool.and_eq_false_iff,decide_eq_false_iff_not];omega]at ci;have e:lh l a (f0::fr)=[]:=if_pos (.inr (.inr ha));rw[e];refine pO func7 call7 ntmps7 results7 λS=>?_;conv=>whnf
   repeat'((first|refine awz ?_|refine cP (c0) ?_|refine cP (ci) ?_|refine Uj false rfl underlying24 (.inr (.inr ⟨_,_,_,rfl,rfl⟩)) ?_|refine Tw ah ?_|refine Tv ah ?_|refine Tz aj aj ?_|exact rZ|refine tW ?_ ?_|intro h)<;>conv=>whnf)
 ·have e:lh l a (aV k)=[]:=by rw[CJ hk];exact if_pos (.inl rfl)
  rw[e];refine pO func7 call7 ntmps7 results7 λS=>?_;conv=>whnf
  repeat'((first|refine awz ?_|refine TA (Iv k hk) [] rfl rfl ?_|refine Uj true rfl underlying24 (.inr (.inl ⟨rfl,rfl⟩)) ?_|refine Tw ah ?_|refine Tv ah ?_|exact rZ|refine tW ?_ ?_|intro h)<;>conv=>whnf)
theorem Qz(b:List Int):aM av 4 [.one (.sl (b.map eU))] (rB (decide ((b.length:Int)>4096))):=by
 have e:((b.map eU).length:Int)=b.length:=ai;refine pO func4 call4 ntmps4 results4 λS=>?_;conv=>whnf
 repeat'(first|refine awz ?_|exact rZ|refine tW ?_ ?_|(intro h;conv=>whnf))
 rw[e]
theorem uL(l:List Int)(hl:l.length<=1000):aM av 11 [.one (.sl (l.map eI)),.one (.sl (l.map eI))] (rB true):=by
 have h0:(((l.map eI).length:Int) !=((l.map eI).length:Int))=false:=ai;refine pO func11 call11 ntmps11 results11 λS=>?_;conv=>whnf
 repeat'((first|refine awz ?_|refine Tv h0 ?_|exact rZ|refine tW ?_ ?_|intro h)<;>conv=>whnf)
 refine TE (λk:Nat=>k<=l.length) (4::5::rg 11 15) (λk=>[(5,vI .i64 (k:Int))]) (λk=>[]) (λk=>l.length-k) 0 ac ?_ Tx (λk hk=>?_)<;>(conv=>whnf)
 ·exact whd
 ·by_cases hlt:k<l.length
  ·have hc:decide ((k:Int)<((l.map eI).length:Int))=true:=al;have hne:(l[k] !=l[k])=false:=ai;repeat'((first|refine awz ?_|refine Tw hc ?_|refine TB aL 6 8 db bX ae ae ae rfl ?_|refine TJ hlt ?_|refine Tv hne ?_|refine Tz ac ac ?_|exact rZ|refine tW ?_ ?_|intro h)<;>conv=>whnf)
   all_goals
    refine aW.mk ⟨k+1,hlt,ac,?_,Tx⟩;exact hds
  ·have e:k=l.length:=ac;subst e;have hc:decide ((l.length:Int)<((l.map eI).length:Int))=false:=ai;repeat'((first|refine awz ?_|refine Tv hc ?_|exact rZ|refine tW ?_ ?_|intro h)<;>conv=>whnf)
theorem Ej(s:DStep)(hf:s.fates.length<=12)(hr:∀x∈s.fates,aI x 0 2=true)(ha:aI s.a 0 1000000000=true)(hb:aI s.b 0 1000000000=true)(hc:aI s.c 0 1000000000=true):aM av 20 [.agg s.dsW] (rB true):=by
 have q:decide (((s.fates.map eI).length:Int)>120)=false:=al;have ca:=fv s.a 0 1000000000;have cb:=fv s.b 0 1000000000;have cc:=fv s.c 0 1000000000;rw[ha]at ca;rw[hb]at cb;rw[hc]at cc;refine pO func20 call20 ntmps20 results20 λS=>?_;conv=>whnf
 repeat'((first|refine awz ?_|refine Tv q ?_|exact rZ|refine tW ?_ ?_|intro h)<;>conv=>whnf)
 refine TE (λk:Nat=>k<=s.fates.length) (2::4::rg 12 8) (λk=>[(12,vI .i64 (k:Int))]) (λk=>[(1,.cells 32 (s.dsW.map .d))]) (λk=>s.fates.length-k) 0 (Nat.zero_le _) ?_ sbW (λk hk=>?_)<;>(conv=>whnf)
 ·exact whd
 ·by_cases hlt:k<s.fates.length
  ·have hc2:decide ((k:Int)<((s.fates.map eI).length:Int))=true:=al;have cx:=fv s.fates[k] 0 2;rw[hr _ (List.getElem_mem hlt)]at cx;repeat'((first|refine awz ?_|refine Tw hc2 ?_|refine TJ hlt ?_|refine cP (cx) ?_|refine Tw ah ?_|refine Tv ah ?_|refine Tz ac ac ?_|exact rZ|refine tW ?_ ?_|intro h)<;>conv=>whnf)
   all_goals
    refine aW.mk ⟨k+1,hlt,ac,?_,sbW⟩;exact hds
  ·have e:k=s.fates.length:=ac;subst e;have hc2:decide ((s.fates.length:Int)<((s.fates.map eI).length:Int))=false:=ai;repeat'((first|refine awz ?_|refine Tv hc2 ?_|refine cP (ca) ?_|refine cP (cb) ?_|refine cP (cc) ?_|refine Tw ah ?_|refine Tv ah ?_|exact rZ|refine tW ?_ ?_|intro h)<;>conv=>whnf)
def okW(s:DStep):Bool:=decide (s.fates.length<=12)&&s.fates.all (λx=>aI x 0 2)&&aI s.a 0 1000000000&&aI s.b 0 1000000000&&aI s.c 0 1000000000&&
 ((s.kind==5&&aI s.a 0 5&&s.b==0&&s.c==0)||(s.fates==[]&&((s.kind==6&&aI s.a 0 5&&s.b==0&&s.c==0)||((s.kind==7||s.kind==8)&&s.b==0&&s.c==0)||(s.kind==9&&aI s.a 0 5&&aI s.b 0 5&&s.c==0)||(s.kind==4&&aI s.a 0 5&&aI s.b 0 1000000&&s.c==0)||s.kind==11)))
theorem Nl(k:Int):∀s∈aV k,okW s=true:=by
 rw[<-List.all_eq_true];by_cases h:0<=k/\k<=13
 ·rcases kI h with rfl|rfl|rfl|rfl|rfl|rfl|rfl|rfl|rfl|rfl|rfl|rfl|rfl|rfl
  all_goals decide
 ·rw[CJ h];rfl
theorem LC(s:DStep)(h:okW s=true):aM av 8 [.agg s.dsW] (rB true):=by
 obtain⟨kd,a,b,c,fs⟩:=s;simp only[okW,Bool.and_eq_true,Bool.or_eq_true,beq_iff_eq,decide_eq_true_eq,List.all_eq_true]at h;obtain⟨⟨⟨⟨⟨h1,h2⟩,h3⟩,h4⟩,h5⟩,h6⟩:=h;have cn:=Ej ⟨kd,a,b,c,fs⟩ h1 h2 h3 h4 h5;rcases h6 with⟨⟨⟨rfl,ha⟩,rfl⟩,rfl⟩|⟨rfl,h6⟩
 ·have c1:=nP a;rw[ha]at c1;refine pO func8 call8 ntmps8 results8 λS=>?_;conv=>whnf
  repeat'((first|refine awz ?_|refine cP (cn) ?_|refine cP (c1) ?_|refine Tw ah ?_|refine Tv ah ?_|exact rZ|refine tW ?_ ?_|intro h)<;>conv=>whnf)
 ·rcases h6 with(((⟨⟨⟨rfl,ha⟩,rfl⟩,rfl⟩|⟨⟨rfl|rfl,rfl⟩,rfl⟩)|⟨⟨⟨rfl,ha⟩,hb⟩,rfl⟩)|⟨⟨⟨rfl,ha⟩,hb⟩,rfl⟩)|rfl
  ·have c1:=nP a;rw[ha]at c1;refine pO func8 call8 ntmps8 results8 λS=>?_;conv=>whnf
   repeat'((first|refine awz ?_|refine cP (cn) ?_|refine cP (c1) ?_|refine Tw ah ?_|refine Tv ah ?_|exact rZ|refine tW ?_ ?_|intro h)<;>conv=>whnf)
  ·refine pO func8 call8 ntmps8 results8 λS=>?_;conv=>whnf
   repeat'((first|refine awz ?_|refine cP (cn) ?_|refine Tw ah ?_|refine Tv ah ?_|exact rZ|refine tW ?_ ?_|intro h)<;>conv=>whnf)
  ·refine pO func8 call8 ntmps8 results8 λS=>?_;conv=>whnf
   repeat'((first|refine awz ?_|refine cP (cn) ?_|refine Tw ah ?_|refine Tv ah ?_|exact rZ|refine tW ?_ ?_|intro h)<;>conv=>whnf)
  ·have c1:=nP a;have c2:=nP b;rw[ha]at c1;rw[hb]at c2;refine pO func8 call8 ntmps8 results8 λS=>?_;conv=>whnf
   repeat'((first|refine awz ?_|refine cP (cn) ?_|refine cP (c1) ?_|refine cP (c2) ?_|refine Tw ah ?_|refine Tv ah ?_|exact rZ|refine tW ?_ ?_|intro h)<;>conv=>whnf)
  ·have c1:=nP a;have c2:=LD b;rw[ha]at c1;rw[hb]at c2;refine pO func8 call8 ntmps8 results8 λS=>?_;conv=>whnf
   repeat'((first|refine awz ?_|refine cP (cn) ?_|refine cP (c1) ?_|refine cP (c2) ?_|refine Tw ah ?_|refine Tv ah ?_|exact rZ|refine tW ?_ ?_|intro h)<;>conv=>whnf)
  ·refine pO func8 call8 ntmps8 results8 λS=>?_;conv=>whnf
   repeat'((first|refine awz ?_|refine cP (cn) ?_|refine Tw ah ?_|refine Tv ah ?_|exact rZ|refine tW ?_ ?_|intro h)<;>conv=>whnf)
def fN:List (List Nat):=a8 [0,0,66,12417,1052803,0,6,346852442566,35604272521413,0x9143081107188,0x9143081107188,0xa2061c40420c524b,0x30b2450c20441c620a,0xd2881871010831492cc,0x9143081107188,0x3c8187101083149,0x38c2c914308110718828d40f,0x914308110718844f40d28b30e,0x48e30b28d40f448187101083149,0x132450c20441c62113d034a2cc392,0x132450c20441c62113d034a2cc392,0x1448e30b28d40f4481871010831494d5,0x5954c914308110718844f40d28b30e494,0x1751238c2ca3503d12061c40420c5253556,0x132450c20441c62113d034a2cc392,0x65238c2ca3503d12061c40420c5253,0x6165532450c20441c62113d034a2cc392517699,0x132450c20441c62113d034a2cc3926d9697515598,0x7185955176996d238c2ca3503d12061c40420c5253,0x1d4c914308110718844f40d28b30e49b65a5d455661c,0x1d4c914308110718844f40d28b30e49b65a5d455661c,0x1e7185955176996d238c2ca3503d12061c40420c525375f,0x81f7532450c20441c62113d034a2cc3926d969751559871e,0x2179c6165545da65b48e30b28d40f4481871010831494dd7e0,0x1d4c914308110718844f40d28b30e49b65a5d455661c,0x8dc6165545da65b48e30b28d40f4481871010831494dd,0x8a07dd4c914308110718844f40d28b30e49b65a5d455661c7a1923,0x1d4c914308110718844f40d28b30e49b65a5d455661c96392179f822,0x9a281f7a192395c6165545da65b48e30b28d40f4481871010831494dd,0x277532450c20441c62113d034a2cc3926d96975155987258e485e7e08a6,0x277532450c20441c62113d034a2cc3926d96975155987258e485e7e08a6,0x289a281f7a192395c6165545da65b48e30b28d40f4481871010831494dd9e9,0xaa99dd4c914308110718844f40d28b30e49b65a5d455661c96392179f8229a8,0x2ba268a07de8648e57185955176996d238c2ca3503d12061c40420c5253767a6a,0x277532450c20441c62113d034a2cc3926d96975155987258e485e7e08a6,0xb668a07de8648e57185955176996d238c2ca3503d12061c40420c5253767,0xb2aa677532450c20441c62113d034a2cc3926d96975155987258e485e7e08a6a2bbad,0x2fb6eae89a281f7a192395c6165545da65b48e30b28d40f4481871010831494dd9e9aac,0x9dd4c914308110718844f40d28b30e49b65a5d455661c96392179f8229b0b2aa68aeeb6f]
def fQ:List (List Nat):=dN 46 [1950,1946,1948,1957,1984,242,485,1093,3280,38391691,38312959,38352325,38529472,39060913,4773127,9556096,21523360,64570081,193710244,2266990991383,2262341945515,2264666468449,2275126821652,2306507881261,281848405747,564277942228,1270932914164,3812798742493,0xa67358b3f98,0x1db9430c0b84483,0x1da9a83bbaa4e37,0x1db175a3e31495d,0x1dd491f8990b388,0x1e3de6f6baef209,0x3b2099526e73bf,0x766068457ea648,75047317648499560,0x31fdd69d15aaa39,0x95f983d740ffeac,0x1ac8118a154c7335fcf,0x1aba0225b91e5b37fa3,0x1ac109d7e7356736fb9,0x1ae0ac79b69d1d3281c,0x1b3f945f24d43f25145,0x3546524546a6e8766b,0x6aa8c35345aa00e8dc]
theorem OW{s:DStep}(h:okW s=true):s.fates.length<=12:=by
 simp only[okW,Bool.and_eq_true,decide_eq_true_eq]at h;exact h.1.1.1.1.1
theorem Ii{l:List DStep}{i:Nat}(h:i<l.length):(l.map DStep.dsW)[i]? =some (l[i]).dsW:=by rw[List.getElem?_map,List.getElem?_eq_getElem h];rfl
theorem J3(l f:List DStep)(a:Int):(lh l a f=[]/\(f.length=0\/a<0\/(l.length:Int)<a\/600<l.length+f.length))\/(∃n:Nat,a=(n:Int)/\n<=l.length/\0<f.length/\l.length+f.length<=600/\lh l a f=l.take n++f++l.drop n):=by
 unfold lh;by_cases h:f.length=0\/600<l.length+f.length\/¬(0<=a/\a<=l.length)
 ·rw[if_pos h];exact .inl ⟨rfl,ac⟩
 ·rw[if_neg h];exact .inr ⟨a.toNat,ac,ac,ac,ac,rfl⟩
theorem lawFaults_p(b:List Int)(hb:∀x∈b,0<=x/\x<=255):aM av 3 [.one (.sl (b.map eU))] (rB true):=by
 have cb:=Qz b;by_cases hlen:b.length<=4096
 ·rw[show decide ((b.length:Int)>4096)=false by simp only[decide_eq_false_iff_not];omega]at cb;have cd:=xj b ⟨hlen,hb⟩;refine pO func3 call3 ntmps3 results3 λS=>?_;conv=>whnf
  repeat'((first|refine awz ?_|refine cP (cb) ?_|refine Tw ah ?_|refine Tv ah ?_|exact rZ|refine tW ?_ ?_|intro h)<;>conv=>whnf)
  refine aG.q cd rfl λy hy=>?_;obtain⟨l,a,k⟩:=y;have hl:l.length<=600:=hy.len;have hfs:∀s∈l,s.fates.length<=12:=hy.fates;have a0: -1<=a:=hy.lo;have a1:a<=(l.length:Int)+1:=hy.hi;clear hy;have c1:=Ab k;have c2:=AY k;have c3:=Eh l a k hl hfs;have c4:=EX l a k hl hfs;have h4:=w4 k;have hok:=Nl k;generalize aV k=f at c1 c2 c3 c4 h4 hok;have hwc:=J3 l f a;generalize lh l a f=x at c3 c4 hwc;have el:((l.map DStep.dsW).length:Int)=(l.length:Int):=by rw[length_map]
  have ef:((f.map DStep.dsW).length:Int)=(f.length:Int):=by rw[length_map]
  have ex:((x.map DStep.dsW).length:Int)=(x.length:Int):=by rw[length_map]
  have q1:(((f.map DStep.dsW).length:Int) !=((f.map DStep.dsW).length:Int))=false:=ai;have q2:(((x.map DStep.dsW).length:Int) !=((x.map DStep.dsW).length:Int))=false:=ai;(conv=>whnf)
  repeat'((first|refine awz ?_|refine cP (c1) ?_|refine cP (c3) ?_|exact rZ|refine tW ?_ ?_|intro h)<;>conv=>whnf)
  refine TE (λi:Nat=>i<=f.length) (2::8::rg 25 12) (λi=>[(8,vI .i64 (i:Int))]) (λi=>[]) (λi=>f.length-i) 0 (Nat.zero_le _) ?_ Tx (λi hi=>?_)<;>(conv=>whnf)
  ·exact whd
  ·by_cases hlt:i<f.length
   ·have hc:decide ((i:Int)<((f.map DStep.dsW).length:Int))=true:=by rw[ef,decide_eq_true_eq];omega
    have co:=LC f[i] (hok _ (getElem_mem hlt));repeat'((first|refine awz ?_|refine Tw hc ?_|refine TJ hlt ?_|refine cP (co) ?_|refine Tw ah ?_|refine Tv ah ?_|refine Tz ac ac ?_|exact rZ|refine tW ?_ ?_|intro h)<;>conv=>whnf)
    all_goals
     refine aW.mk ⟨i+1,hlt,ac,?_,Tx⟩;exact hds
   ·have e:i=f.length:=ac;subst e;have hc:decide ((f.length:Int)<((f.map DStep.dsW).length:Int))=false:=by rw[ef];simp
    rcases hwc with⟨rfl,hw⟩|⟨n,rfl,hn,hf0,h6,hx⟩
    ·by_cases w1:f.length=0
     ·have t1:(((f.map DStep.dsW).length:Int)==0)=true:=by rw[ef];simp[w1]
      repeat'((first|refine awz ?_|refine Tv hc ?_|refine cP (c2) ?_|refine cP (c4) ?_|refine Tv q1 ?_|refine Tv q2 ?_|refine Tw t1 ?_|refine Tw ah ?_|refine Tv ah ?_|exact rZ|refine tW ?_ ?_|intro h)<;>conv=>whnf)
     ·have t1:(((f.map DStep.dsW).length:Int)==0)=false:=by rw[ef];simp only[beq_eq_false_iff_ne,ne_eq];omega
      by_cases w2:a<0
      ·have t2:decide (a<0)=true:=by simpa using w2
       repeat'((first|refine awz ?_|refine Tv hc ?_|refine cP (c2) ?_|refine cP (c4) ?_|refine Tv q1 ?_|refine Tv q2 ?_|refine Tv t1 ?_|refine Tw t2 ?_|refine Tw ah ?_|refine Tv ah ?_|exact rZ|refine tW ?_ ?_|intro h)<;>conv=>whnf)
      ·have t2:decide (a<0)=false:=by simpa using w2
       by_cases w3:(l.length:Int)<a
       ·have t3:decide (a>((l.map DStep.dsW).length:Int))=true:=by rw[el,decide_eq_true_eq];omega
        repeat'((first|refine awz ?_|refine Tv hc ?_|refine cP (c2) ?_|refine cP (c4) ?_|refine Tv q1 ?_|refine Tv q2 ?_|refine Tv t1 ?_|refine Tv t2 ?_|refine Tw t3 ?_|refine Tw ah ?_|refine Tv ah ?_|exact rZ|refine tW ?_ ?_|intro h)<;>conv=>whnf)
       ·have t3:decide (a>((l.map DStep.dsW).length:Int))=false:=by rw[el,decide_eq_false_iff_not];omega
        have t4:decide (((l.map DStep.dsW).length:Int)+((f.map DStep.dsW).length:Int)>600)=true:=by rw[el,ef,decide_eq_true_eq];omega
        repeat'((first|refine awz ?_|refine Tv hc ?_|refine cP (c2) ?_|refine cP (c4) ?_|refine Tv q1 ?_|refine Tv q2 ?_|refine Tv t1 ?_|refine Tv t2 ?_|refine Tv t3 ?_|refine Tw ah ?_|refine Tv ah ?_|refine Tz aj aj ?_|exact rZ|refine tW ?_ ?_|intro h)<;>conv=>whnf)
        all_goals(show AP.val _=AP.val _;rw[t4])
    ·have hxl:x.length=l.length+f.length:=by rw[hx];simp only[List.length_append,length_take,List.length_drop];omega
     have gA:∀i (h:i<n),x[i]? =some (l[i]'(ac)):=λi h=>by
      subst hx;rw[List.getElem?_append_left ay,List.getElem?_append_left (by rw[length_take];omega),List.getElem?_take,if_pos h,List.getElem?_eq_getElem ac]
     have gB:∀i (h1:n<=i) (h2:i<n+f.length),x[i]? =some (f[i-n]'(ac)):=λi h1 h2=>by
      subst hx;rw[List.getElem?_append_left ay,List.getElem?_append_right (by rw[length_take];omega),length_take,Nat.min_eq_left hn,List.getElem?_eq_getElem ac]
     have gC:∀i (h1:n+f.length<=i) (h2:i<l.length+f.length),x[i]? =some (l[i-f.length]'(ac)):=λi h1 h2=>by
      subst hx;rw[List.getElem?_append_right ay,List.getElem?_drop,List.length_append,length_take,Nat.min_eq_left hn,show n+(i-(n+f.length))=i-f.length by omega,List.getElem?_eq_getElem ac]
     have gM:∀{i:Nat} {s:DStep},x[i]? =some s->(x.map DStep.dsW)[i]? =some s.dsW:=λh=>by rw[List.getElem?_map,h];rfl
     have t0:(((x.map DStep.dsW).length:Int)==0)=false:=by rw[ex];simp only[beq_eq_false_iff_ne,ne_eq];omega
     repeat'((first|refine awz ?_|refine Tv hc ?_|refine cP (c2) ?_|refine cP (c4) ?_|refine Tv q1 ?_|refine Tv q2 ?_|refine Tv t0 ?_|exact rZ|refine tW ?_ ?_|intro h)<;>conv=>whnf)
     refine TE (λi:Nat=>i<=x.length) (13::15::[2,9,10,77,78,79,80,81,82,83,84,85,86,87,88,89,90,91,92,93,94,95,96,97,98,99,100,101,102,103,104,105,106,107,108,109,110,111,112,113,114,115,116,117,118,119,120,121,122,123,124,125,126,127,128,129,130,131,132,133,134,135,136,137,138,139,140,141,142,143,144,145,146,147,148,149,150,151,152,153,154,155,156,157,158,159,160,161,162,163,164,165,166,167,168]) (λi=>[(9,vI .i64 (i:Int))]) (λi=>[]) (λi=>x.length-i) 0 (Nat.zero_le _) ?_ Tx (λi hi=>?_)<;>(conv=>whnf)
     ·exact whd
     ·have qs:∀z:Int,(z !=z)=false:=ai;by_cases hlt:i<x.length
      ·have hc2:decide ((i:Int)<((x.map DStep.dsW).length:Int))=true:=by rw[ex,decide_eq_true_eq];omega
       by_cases u1:i<n
       ·have v1:decide ((i:Int)<(n:Int))=true:=by rw[decide_eq_true_eq];omega
        have g1:=gM (gA i u1);have g2:=Ii (l:=l) (i:=i) ac;have cl:=uL (l[i]'(ac)).fates (by have:=hfs _ (getElem_mem (show i<l.length by omega));omega);generalize l[i]'(ac)=s at g1 g2 cl;repeat'((first|refine awz ?_|refine Tw hc2 ?_|refine Tw v1 ?_|refine TB aL 25 46 fN fQ ae ae ae rfl ?_|refine Ty i _ rfl g1 ?_|refine Ty i _ rfl g2 ?_|refine Tv (qs _) ?_|refine cP (cl) ?_|refine Tw ah ?_|refine Tv ah ?_|refine Tz ac ac ?_|exact rZ|refine tW ?_ ?_|intro h)<;>conv=>whnf)
        all_goals
         refine aW.mk ⟨i+1,hlt,ac,?_,Tx⟩;exact hds
       ·have v1:decide ((i:Int)<(n:Int))=false:=by rw[decide_eq_false_iff_not];omega
        by_cases u2:i<n+f.length
        ·have v2:decide ((i:Int)<(n:Int)+((f.map DStep.dsW).length:Int))=true:=by rw[ef,decide_eq_true_eq];omega
         have g1:=gM (gB i ac u2);have g2:=Ii (l:=f) (i:=i-n) ac;have cl:=uL (f[i-n]'(ac)).fates (by have:=OW (hok _ (getElem_mem (show i-n<f.length by omega)));omega);generalize f[i-n]'(ac)=s at g1 g2 cl;repeat'((first|refine awz ?_|refine Tw hc2 ?_|refine Tv v1 ?_|refine Tw v2 ?_|refine TB aL 25 46 fN fQ ae ae ae rfl ?_|refine Ty i _ rfl g1 ?_|refine Ty (i-n) _ (by show(i:Int)-(n:Int)=_;omega) g2 ?_|refine Tv (qs _) ?_|refine cP (cl) ?_|refine Tw ah ?_|refine Tv ah ?_|refine Tz aj aj ?_|refine Tz ac ac ?_|exact rZ|refine tW ?_ ?_|intro h)<;>conv=>whnf)
         all_goals
          refine aW.mk ⟨i+1,hlt,ac,?_,Tx⟩;exact hds
        ·have v2:decide ((i:Int)<(n:Int)+((f.map DStep.dsW).length:Int))=false:=by rw[ef,decide_eq_false_iff_not];omega
         have v3:decide ((i:Int)-((f.map DStep.dsW).length:Int)<((l.map DStep.dsW).length:Int))=true:=by rw[ef,el,decide_eq_true_eq];omega
         have g1:=gM (gC i ac ac);have g2:=Ii (l:=l) (i:=i-f.length) ac;have cl:=uL (l[i-f.length]'(ac)).fates (by have:=hfs _ (getElem_mem (show i-f.length<l.length by omega));omega);generalize l[i-f.length]'(ac)=s at g1 g2 cl;repeat'((first|refine awz ?_|refine Tw hc2 ?_|refine Tv v1 ?_|refine Tv v2 ?_|refine Tw v3 ?_|refine TB aL 25 46 fN fQ ae ae ae rfl ?_|refine Ty i _ rfl g1 ?_|refine Ty (i-f.length) _ aj g2 ?_|refine Tv (qs _) ?_|refine cP (cl) ?_|refine Tw ah ?_|refine Tv ah ?_|refine Tz aj aj ?_|refine Tz ac ac ?_|exact rZ|refine tW ?_ ?_|intro h)<;>conv=>whnf)
         all_goals
          refine aW.mk ⟨i+1,hlt,ac,?_,Tx⟩;exact hds
      ·have e:i=x.length:=ac;subst e;have hc2:decide ((x.length:Int)<((x.map DStep.dsW).length:Int))=false:=by rw[ex];simp
       have z1:(((x.map DStep.dsW).length:Int)==((l.map DStep.dsW).length:Int)+((f.map DStep.dsW).length:Int))=true:=by rw[ex,el,ef,hxl];simp
       have z2:decide (((f.map DStep.dsW).length:Int)>0)=true:=by rw[ef,decide_eq_true_eq];omega
       repeat'((first|refine awz ?_|refine Tv hc2 ?_|refine Tw z1 ?_|refine Tw ah ?_|refine Tv ah ?_|refine Tz aj aj ?_|exact rZ|refine tW ?_ ?_|intro h)<;>conv=>whnf)
       all_goals(show AP.val _=AP.val _;rw[z2])
 ·rw[show decide ((b.length:Int)>4096)=true by simp only[decide_eq_true_eq];omega]at cb;refine pO func3 call3 ntmps3 results3 λS=>?_;conv=>whnf
  repeat'((first|refine awz ?_|refine cP (cb) ?_|refine Tw ah ?_|refine Tv ah ?_|exact rZ|refine tW ?_ ?_|intro h)<;>conv=>whnf)
end Go.Proofs.YtlmoekpinpafeaaGreat
