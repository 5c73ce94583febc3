/- J14 -/
import Derived.Test.YtcmknngafflcnaaGreatJ02
import Derived.Test.YtcmknngafflcnaaGreatJ04
set_option linter.unusedVariables false
set_option linter.unusedSimpArgs false
set_option maxRecDepth 100000
namespace Go.Proofs.YtcmknngafflcnaaGreat
open Go.ChangeShapes Go.WideShapes Go.RowKit
theorem dD {α : Type} (a : α) : 0 ≤ (cI a : Int) := by unfold cI; omega
theorem aQ {α : Type} {us : List α} {n : Nat} (h : us.length = n + 1) : ∃ u r, us = u :: r ∧ r.length = n := by
 cases us with
 | nil => simp at h
 | cons u r => exact ⟨u, r, rfl, by simpa using h⟩
theorem ep {α : Type} {us : List α} (h : us.length = 0) : us = [] := List.eq_nil_of_length_eq_zero h
def dm (k : Int) (y : (List Int)) : (List Int) := mkL mI cI k y
def aE (y : (List Int)) : Int := ao cI y
theorem cS (y : (List Int)) : 0 ≤ aE y := am dD y
def dF (k : Int) (x : DWrite) : DWrite := ⟨k, mkL mI cI (k + 1) x.row⟩
def aI (x : DWrite) : Int := 1 + ao cI x.row
theorem cR (x : DWrite) : 0 ≤ aI x := by
 unfold aI
 have := am dD x.row
 omega
def dW (k : Int) (x : DMark) : DMark := ⟨k, k + 1, k + 1 + 1⟩
def aD (x : DMark) : Int := 3
theorem ck (x : DMark) : 0 ≤ aD x := by
 unfold aD
 omega
def dE (k : Int) (x : DEntry) : DEntry := ⟨k, k + 1, k + 1 + 1, k + 1 + 1 + 1, ⟨k + 1 + 1 + 1 + 1, k + 1 + 1 + 1 + 1 + 1, k + 1 + 1 + 1 + 1 + 1 + 1, k + 1 + 1 + 1 + 1 + 1 + 1 + 1, k + 1 + 1 + 1 + 1 + 1 + 1 + 1 + 1⟩⟩
def aK (x : DEntry) : Int := 9
theorem cQ (x : DEntry) : 0 ≤ aK x := by
 unfold aK
 omega
def gx (k : Int) (x : DAck) : DAck := ⟨k, k + 1, k + 1 + 1, k + 1 + 1 + 1⟩
def bc (x : DAck) : Int := 4
theorem dQ (x : DAck) : 0 ≤ bc x := by
 unfold bc
 omega
def eq (k : Int) (x : DPair) : DPair := ⟨k, k + 1⟩
def aM (x : DPair) : Int := 2
theorem dg (x : DPair) : 0 ≤ aM x := by
 unfold aM
 omega
def gA (k : Int) (x : DJob) : DJob := ⟨k, k + 1, k + 1 + 1, k + 1 + 1 + 1, k + 1 + 1 + 1 + 1⟩
def bf (x : DJob) : Int := 5
theorem dT (x : DJob) : 0 ≤ bf x := by
 unfold bf
 omega
def gy (k : Int) (x : DDue) : DDue := ⟨k, k + 1⟩
def bd (x : DDue) : Int := 2
theorem dR (x : DDue) : 0 ≤ bd x := by
 unfold bd
 omega
def er (k : Int) (x : DWant) : DWant := ⟨k, ⟨k + 1, k + 1 + 1, k + 1 + 1 + 1, k + 1 + 1 + 1 + 1, k + 1 + 1 + 1 + 1 + 1⟩, k + 1 + 1 + 1 + 1 + 1 + 1⟩
def aN (x : DWant) : Int := 7
theorem dh (x : DWant) : 0 ≤ aN x := by
 unfold aN
 omega
def gz (k : Int) (x : DGot) : DGot := ⟨k, k + 1, k + 1 + 1, k + 1 + 1 + 1⟩
def be (x : DGot) : Int := 4
theorem dS (x : DGot) : 0 ≤ be x := by
 unfold be
 omega
def fQ (k : Int) (x : DMsg) : DMsg := ⟨k, k + 1, mkL mI cI (k + 1 + 1) x.row⟩
def aV (x : DMsg) : Int := 2 + ao cI x.row
theorem dU (x : DMsg) : 0 ≤ aV x := by
 unfold aV
 have := am dD x.row
 omega
def eM (k : Int) (x : DLink) : DLink := ⟨k, k + 1⟩
def aU (x : DLink) : Int := 2
theorem de (x : DLink) : 0 ≤ aU x := by
 unfold aU
 omega
end Go.Proofs.YtcmknngafflcnaaGreat
namespace Go.Proofs.YtcmknngafflcnaaGreat
open Go.ChangeShapes Go.WideShapes Go.RowKit
set_option maxHeartbeats 4000000 in
theorem gG (l : (List Int)) (P : Nat → Prop) (w : World) (k : Int) (v : Value) (h : bb w P (.sl (l.map eI)) v) (h0 : 0 ≤ k) (hk : k + ao cI l ≤ 1000000000000) :
  Calls Tryz.prog 44 #[v, .int .i64 k] w (fH (k + ao cI l) P w fun w' => bb w' P (.sl ((mkL mI cI k l).map eI)) v) := by
 obtain ⟨A, cap, rfl, hcl, hcm⟩ := h.form
 rw [List.length_map] at hcl h ⊢
 unfold maxLen at hcm
 have hcn := aO (cnt := cI) dD l
 go_enter Tryz.func44, Tryz.ntmps44
 go_wp2
 go_loopw [1, 5] (fun c i wr => ∃ (j : Nat) (q : Int), j ≤ l.length ∧ i = .int .i64 j ∧ c = .int .i64 q ∧ Hid (q = k + ao cI (l.take j)) ∧ bb wr P (.sl ((mkP mI cI k j l).map eI)) (.slice A l.length cap) ∧ bN P w wr) (fun _ i _ => l.length - (intOf i).toNat)
 case atStart => exact ⟨0, k, Nat.zero_le _, rfl, rfl, by simp [Hid, ao], by rw [dp]; exact h, bN.refl _ _⟩
 case round =>
  obtain ⟨j, q, hj, rfl, rfl, hq, hres, ht⟩ := hrel
  by_cases hlt : j < l.length
  ·have hc1 := hcn (j + 1)
   rw [aB hlt] at hc1
   have hc0 : 0 ≤ ao cI (l.take j) := am dD _
   have hn := dD l[j]
   have hq1 : 0 ≤ q := by have := hq.out; omega
   have hq2 : q + cI l[j] ≤ 1000000000000 := by have := hq.out; omega
   have hq3 : q + 1 ≤ 1000000000000 := hq2
   clear hc1 hc0 hcn hn
   obtain ⟨b, off, cap1, us, Q, e1, hPb, hQP, hel, hclose⟩ := hres.lens (fS eI k hlt)
   have e2 : A = some ⟨b, off, none⟩ := by injection e1
   subst e2
   clear e1
   have hone : off + j * (eI l[j]).length = off + j := by show off + j * 1 = _; rw [Nat.mul_one]
   rw [hone] at hel hclose
   obtain ⟨u0, us0, e0, hl0⟩ := aQ (n := 0) hel.len
   subst e0
   obtain rfl := ep hl0
   clear hl0
   have hel : El wr b (off + j) 1 Q wr (eI l[j]) [u0] := hel
   have c0 : wr.cell? ⟨b, off + j, none⟩ = some (u0) := hel.cell 0 _ rfl
   have f0 := hel.frozen (off + j)
   have HC := Lib.hid hclose
   clear hclose hres h
   have hfin := HC.out _ _ _ (hel.set (c := 0) (by decide) (.int .i64 (q)) rfl)
   have htt := ht.trans (((hel.set (c := 0) (by decide) (.int .i64 (q)) rfl)).turn.mono (P' := P) (by rintro g (rfl | hg); exact hPb; exact hQP _ hg))
   have e1 := hq.out
   have hq' : Hid (q + 1 = k + ao cI (l.take (j + 1))) := by
    unfold Hid
    rw [aB hlt, e1]
    first | (unfold cI; omega) | omega
   have hm : bb _ P (.sl (((mkP mI cI k j l).map eI).set j (eI (mI q l[j])))) _ := hfin
   rw [e1, dn eI k hlt] at hm
   try rw [← e1] at hm
   clear HC hq hfin e1
   have HM := Lib.hid hm
   have HT := Lib.hid htt
   clear hm htt ht hel
   go_wp2
   exact ⟨⟨j + 1, _, by omega, by go_num, rfl, hq', HM.out, HT.out⟩, by simp [intOf]; omega⟩
  ·have e : j = l.length := by omega
   subst e
   have H : fH (k + ao cI l) P w (fun w' => bb w' P (.sl ((mkL mI cI k l).map eI)) (.slice A l.length cap)) (.returned (.int .i64 q)) wr := by
    rw [et] at hres
    have e1 := hq.out
    rw [List.take_length] at e1
    exact ⟨by rw [e1], ht, hres⟩
   clear hres ht h hcn
   go_wp2
   go_ret
   exact H
theorem vY (l : (List Int)) (k : Int) (h0 : 0 ≤ k) (hk : k + ao cI l ≤ 1000000000000) : bR av 44 (.one (.sl (l.map eI))) k (.one (.sl ((mkL mI cI k l).map eI))) (k + ao cI l) := bR.of Tryz.call44 fun P w v h => gG l P w k v h h0 hk
set_option maxHeartbeats 4000000 in
theorem uG (l : (List (List Int))) (P : Nat → Prop) (w : World) (k : Int) (v : Value) (h : bb w P (.sl (l.map cG)) v) (h0 : 0 ≤ k) (hk : k + ao aE l ≤ 1000000000000) :
  Calls Tryz.prog 194 #[v, .int .i64 k] w (fH (k + ao aE l) P w fun w' => bb w' P (.sl ((mkL dm aE k l).map cG)) v) := by
 obtain ⟨A, cap, rfl, hcl, hcm⟩ := h.form
 rw [List.length_map] at hcl h ⊢
 unfold maxLen at hcm
 have hcn := aO (cnt := aE) cS l
 go_enter Tryz.func194, Tryz.ntmps194
 go_wp2
 go_loopw [1, 5] (fun c i wr => ∃ (j : Nat) (q : Int), j ≤ l.length ∧ i = .int .i64 j ∧ c = .int .i64 q ∧ Hid (q = k + ao aE (l.take j)) ∧ bb wr P (.sl ((mkP dm aE k j l).map cG)) (.slice A l.length cap) ∧ bN P w wr) (fun _ i _ => l.length - (intOf i).toNat)
 case atStart => exact ⟨0, k, Nat.zero_le _, rfl, rfl, by simp [Hid, ao], by rw [dp]; exact h, bN.refl _ _⟩
 case round =>
  obtain ⟨j, q, hj, rfl, rfl, hq, hres, ht⟩ := hrel
  by_cases hlt : j < l.length
  ·have hc1 := hcn (j + 1)
   rw [aB hlt] at hc1
   have hc0 : 0 ≤ ao aE (l.take j) := am cS _
   have hn := cS l[j]
   have hq1 : 0 ≤ q := by have := hq.out; omega
   have hq2 : q + aE l[j] ≤ 1000000000000 := by have := hq.out; omega
   have hi0 := am dD l[j]
   have hq3 : q + ao cI l[j] ≤ 1000000000000 := by unfold aE at hq2; omega
   clear hc1 hc0 hcn hn
   obtain ⟨b, off, cap1, us, Q, e1, hPb, hQP, hel, hclose⟩ := hres.lens (fS cG k hlt)
   have e2 : A = some ⟨b, off, none⟩ := by injection e1
   subst e2
   clear e1
   have hone : off + j * (cG l[j]).length = off + j := by show off + j * 1 = _; rw [Nat.mul_one]
   rw [hone] at hel hclose
   obtain ⟨u0, us0, e0, hl0⟩ := aQ (n := 0) hel.len
   subst e0
   obtain rfl := ep hl0
   clear hl0
   have hel : El wr b (off + j) 1 Q wr (cG l[j]) [u0] := hel
   obtain ⟨A0, cap0, rfl, _, _⟩ := bb.form (xs := l[j].map eI) (hel.fam.get (i := 0) rfl rfl)
   rw [List.length_map] at hel
   have c0 : wr.cell? ⟨b, off + j, none⟩ = some (.slice A0 l[j].length cap0) := hel.cell 0 _ rfl
   have f0 := hel.frozen (off + j)
   have HC := Lib.hid hclose
   clear hclose hres h
   have he0 := hel
   obtain ⟨Q0, hQ0, hr0, hcl0⟩ := he0.sub (c := 0) rfl rfl
   have HL0 := Lib.hid hcl0
   clear hcl0 hel
   go_wp2_with fail
   refine (gG l[j] Q0 _ (q) _ hr0 (by omega) (by omega)).mono ?_
   rintro e W0 ⟨rfl, t0, g0⟩
   have hf0 := HL0.out W0 _ t0 g0
   clear HL0 hr0
   have hfin := HC.out _ _ _ hf0
   have htt := ht.trans ((hf0).turn.mono (P' := P) (by rintro g (rfl | hg); exact hPb; exact hQP _ hg))
   have e1 := hq.out
   have hq' : Hid (q + ao cI l[j] = k + ao aE (l.take (j + 1))) := by
    unfold Hid
    rw [aB hlt, e1]
    first | (unfold aE; omega) | omega
   have hm : bb _ P (.sl (((mkP dm aE k j l).map cG).set j (cG (dm q l[j])))) _ := hfin
   rw [e1, dn cG k hlt] at hm
   try rw [← e1] at hm
   clear HC hq e1 hfin hf0 t0 g0 he0 c0 f0
   have HM := Lib.hid hm
   have HT := Lib.hid htt
   clear hm htt ht
   go_wp2_with fail
   exact ⟨⟨j + 1, _, by omega, by go_num, rfl, hq', HM.out, HT.out⟩, by simp [intOf]; omega⟩
  ·have e : j = l.length := by omega
   subst e
   have H : fH (k + ao aE l) P w (fun w' => bb w' P (.sl ((mkL dm aE k l).map cG)) (.slice A l.length cap)) (.returned (.int .i64 q)) wr := by
    rw [et] at hres
    have e1 := hq.out
    rw [List.take_length] at e1
    exact ⟨by rw [e1], ht, hres⟩
   clear hres ht h hcn
   go_wp2
   go_ret
   exact H
theorem uH (l : (List (List Int))) (k : Int) (h0 : 0 ≤ k) (hk : k + ao aE l ≤ 1000000000000) : bR av 194 (.one (.sl (l.map cG))) k (.one (.sl ((mkL dm aE k l).map cG))) (k + ao aE l) := bR.of Tryz.call194 fun P w v h => uG l P w k v h h0 hk
set_option maxHeartbeats 4000000 in
theorem vZ (l : (List DWrite)) (P : Nat → Prop) (w : World) (k : Int) (v : Value) (h : bb w P (.sl (l.map DWrite.ds)) v) (h0 : 0 ≤ k) (hk : k + ao aI l ≤ 1000000000000) :
  Calls Tryz.prog 195 #[v, .int .i64 k] w (fH (k + ao aI l) P w fun w' => bb w' P (.sl ((mkL dF aI k l).map DWrite.ds)) v) := by
 obtain ⟨A, cap, rfl, hcl, hcm⟩ := h.form
 rw [List.length_map] at hcl h ⊢
 unfold maxLen at hcm
 have hcn := aO (cnt := aI) cR l
 go_enter Tryz.func195, Tryz.ntmps195
 go_wp2
 go_loopw [1, 5] (fun c i wr => ∃ (j : Nat) (q : Int), j ≤ l.length ∧ i = .int .i64 j ∧ c = .int .i64 q ∧ Hid (q = k + ao aI (l.take j)) ∧ bb wr P (.sl ((mkP dF aI k j l).map DWrite.ds)) (.slice A l.length cap) ∧ bN P w wr) (fun _ i _ => l.length - (intOf i).toNat)
 case atStart => exact ⟨0, k, Nat.zero_le _, rfl, rfl, by simp [Hid, ao], by rw [dp]; exact h, bN.refl _ _⟩
 case round =>
  obtain ⟨j, q, hj, rfl, rfl, hq, hres, ht⟩ := hrel
  by_cases hlt : j < l.length
  ·have hc1 := hcn (j + 1)
   rw [aB hlt] at hc1
   have hc0 : 0 ≤ ao aI (l.take j) := am cR _
   have hn := cR l[j]
   have hq1 : 0 ≤ q := by have := hq.out; omega
   have hq2 : q + aI l[j] ≤ 1000000000000 := by have := hq.out; omega
   have hi0 := am dD l[j].row
   have hq3 : q + 1 + ao cI l[j].row ≤ 1000000000000 := by unfold aI at hq2; omega
   clear hc1 hc0 hcn hn
   obtain ⟨b, off, cap1, us, Q, e1, hPb, hQP, hel, hclose⟩ := hres.lens (fS DWrite.ds k hlt)
   have e2 : A = some ⟨b, off, none⟩ := by injection e1
   subst e2
   clear e1
   obtain ⟨u0, us0, e0, hl0⟩ := aQ (n := 1) hel.len
   subst e0
   obtain ⟨u1, us1, e0, hl1⟩ := aQ (n := 0) hl0
   subst e0
   obtain rfl := ep hl1
   clear hl1
   have hel : El wr b (off + j * 2) 2 Q wr (DWrite.ds l[j]) [u0, u1] := hel
   obtain ⟨A1, cap1, rfl, _, _⟩ := bb.form (xs := l[j].row.map eI) (hel.fam.get (i := 1) rfl rfl)
   rw [List.length_map] at hel
   have c0 : wr.cell? ⟨b, off + j * 2, none⟩ = some (u0) := hel.cell 0 _ rfl
   have f0 := hel.frozen (off + j * 2)
   have c1 : wr.cell? ⟨b, off + j * 2 + 1, none⟩ = some (.slice A1 l[j].row.length cap1) := hel.cell 1 _ rfl
   have f1 := hel.frozen (off + j * 2 + 1)
   have HC := Lib.hid hclose
   clear hclose hres h
   have he1 := (hel.set (c := 0) (by decide) (.int .i64 (q)) rfl)
   obtain ⟨Q1, hQ1, hr1, hcl1⟩ := he1.sub (c := 1) rfl rfl
   have HL1 := Lib.hid hcl1
   clear hcl1 hel
   go_wp2_with fail
   refine (gG l[j].row Q1 _ (q + 1) _ hr1 (by omega) (by omega)).mono ?_
   rintro e W1 ⟨rfl, t1, g1⟩
   have hf1 := HL1.out W1 _ t1 g1
   clear HL1 hr1
   have hfin := HC.out _ _ _ hf1
   have htt := ht.trans ((hf1).turn.mono (P' := P) (by rintro g (rfl | hg); exact hPb; exact hQP _ hg))
   have e1 := hq.out
   have hq' : Hid (q + 1 + ao cI l[j].row = k + ao aI (l.take (j + 1))) := by
    unfold Hid
    rw [aB hlt, e1]
    first | (unfold aI; omega) | omega
   have hm : bb _ P (.sl (((mkP dF aI k j l).map DWrite.ds).set j (DWrite.ds (dF q l[j])))) _ := hfin
   rw [e1, dn DWrite.ds k hlt] at hm
   try rw [← e1] at hm
   clear HC hq e1 hfin hf1 t1 g1 he1 c0 f0 c1 f1
   have HM := Lib.hid hm
   have HT := Lib.hid htt
   clear hm htt ht
   go_wp2_with fail
   exact ⟨⟨j + 1, _, by omega, by go_num, rfl, hq', HM.out, HT.out⟩, by simp [intOf]; omega⟩
  ·have e : j = l.length := by omega
   subst e
   have H : fH (k + ao aI l) P w (fun w' => bb w' P (.sl ((mkL dF aI k l).map DWrite.ds)) (.slice A l.length cap)) (.returned (.int .i64 q)) wr := by
    rw [et] at hres
    have e1 := hq.out
    rw [List.take_length] at e1
    exact ⟨by rw [e1], ht, hres⟩
   clear hres ht h hcn
   go_wp2
   go_ret
   exact H
theorem v4 (l : (List DWrite)) (k : Int) (h0 : 0 ≤ k) (hk : k + ao aI l ≤ 1000000000000) : bR av 195 (.one (.sl (l.map DWrite.ds))) k (.one (.sl ((mkL dF aI k l).map DWrite.ds))) (k + ao aI l) := bR.of Tryz.call195 fun P w v h => vZ l P w k v h h0 hk
set_option maxHeartbeats 4000000 in
theorem Ah (l : (List DMsg)) (P : Nat → Prop) (w : World) (k : Int) (v : Value) (h : bb w P (.sl (l.map DMsg.ds)) v) (h0 : 0 ≤ k) (hk : k + ao aV l ≤ 1000000000000) :
  Calls Tryz.prog 118 #[v, .int .i64 k] w (fH (k + ao aV l) P w fun w' => bb w' P (.sl ((mkL fQ aV k l).map DMsg.ds)) v) := by
 obtain ⟨A, cap, rfl, hcl, hcm⟩ := h.form
 rw [List.length_map] at hcl h ⊢
 unfold maxLen at hcm
 have hcn := aO (cnt := aV) dU l
 go_enter Tryz.func118, Tryz.ntmps118
 go_wp2
 go_loopw [1, 5] (fun c i wr => ∃ (j : Nat) (q : Int), j ≤ l.length ∧ i = .int .i64 j ∧ c = .int .i64 q ∧ Hid (q = k + ao aV (l.take j)) ∧ bb wr P (.sl ((mkP fQ aV k j l).map DMsg.ds)) (.slice A l.length cap) ∧ bN P w wr) (fun _ i _ => l.length - (intOf i).toNat)
 case atStart => exact ⟨0, k, Nat.zero_le _, rfl, rfl, by simp [Hid, ao], by rw [dp]; exact h, bN.refl _ _⟩
 case round =>
  obtain ⟨j, q, hj, rfl, rfl, hq, hres, ht⟩ := hrel
  by_cases hlt : j < l.length
  ·have hc1 := hcn (j + 1)
   rw [aB hlt] at hc1
   have hc0 : 0 ≤ ao aV (l.take j) := am dU _
   have hn := dU l[j]
   have hq1 : 0 ≤ q := by have := hq.out; omega
   have hq2 : q + aV l[j] ≤ 1000000000000 := by have := hq.out; omega
   have hi0 := am dD l[j].row
   have hq3 : q + 2 + ao cI l[j].row ≤ 1000000000000 := by unfold aV at hq2; omega
   clear hc1 hc0 hcn hn
   obtain ⟨b, off, cap1, us, Q, e1, hPb, hQP, hel, hclose⟩ := hres.lens (fS DMsg.ds k hlt)
   have e2 : A = some ⟨b, off, none⟩ := by injection e1
   subst e2
   clear e1
   obtain ⟨u0, us0, e0, hl0⟩ := aQ (n := 2) hel.len
   subst e0
   obtain ⟨u1, us1, e0, hl1⟩ := aQ (n := 1) hl0
   subst e0
   obtain ⟨u2, us2, e0, hl2⟩ := aQ (n := 0) hl1
   subst e0
   obtain rfl := ep hl2
   clear hl2
   have hel : El wr b (off + j * 3) 3 Q wr (DMsg.ds l[j]) [u0, u1, u2] := hel
   obtain ⟨A2, cap2, rfl, _, _⟩ := bb.form (xs := l[j].row.map eI) (hel.fam.get (i := 2) rfl rfl)
   rw [List.length_map] at hel
   have c0 : wr.cell? ⟨b, off + j * 3, none⟩ = some (u0) := hel.cell 0 _ rfl
   have f0 := hel.frozen (off + j * 3)
   have c1 : wr.cell? ⟨b, off + j * 3 + 1, none⟩ = some (u1) := hel.cell 1 _ rfl
   have f1 := hel.frozen (off + j * 3 + 1)
   have c2 : wr.cell? ⟨b, off + j * 3 + 2, none⟩ = some (.slice A2 l[j].row.length cap2) := hel.cell 2 _ rfl
   have f2 := hel.frozen (off + j * 3 + 2)
   have HC := Lib.hid hclose
   clear hclose hres h
   have he2 := ((hel.set (c := 0) (by decide) (.int .i64 (q)) rfl).set (c := 1) (by decide) (.int .i64 (q + 1)) rfl)
   obtain ⟨Q2, hQ2, hr2, hcl2⟩ := he2.sub (c := 2) rfl rfl
   have HL2 := Lib.hid hcl2
   clear hcl2 hel
   go_wp2_with fail
   refine (gG l[j].row Q2 _ (q + 1 + 1) _ hr2 (by omega) (by omega)).mono ?_
   rintro e W2 ⟨rfl, t2, g2⟩
   have hf2 := HL2.out W2 _ t2 g2
   clear HL2 hr2
   have hfin := HC.out _ _ _ hf2
   have htt := ht.trans ((hf2).turn.mono (P' := P) (by rintro g (rfl | hg); exact hPb; exact hQP _ hg))
   have e1 := hq.out
   have hq' : Hid (q + 1 + 1 + ao cI l[j].row = k + ao aV (l.take (j + 1))) := by
    unfold Hid
    rw [aB hlt, e1]
    first | (unfold aV; omega) | omega
   have hm : bb _ P (.sl (((mkP fQ aV k j l).map DMsg.ds).set j (DMsg.ds (fQ q l[j])))) _ := hfin
   rw [e1, dn DMsg.ds k hlt] at hm
   try rw [← e1] at hm
   clear HC hq e1 hfin hf2 t2 g2 he2 c0 f0 c1 f1 c2 f2
   have HM := Lib.hid hm
   have HT := Lib.hid htt
   clear hm htt ht
   go_wp2_with fail
   exact ⟨⟨j + 1, _, by omega, by go_num, rfl, hq', HM.out, HT.out⟩, by simp [intOf]; omega⟩
  ·have e : j = l.length := by omega
   subst e
   have H : fH (k + ao aV l) P w (fun w' => bb w' P (.sl ((mkL fQ aV k l).map DMsg.ds)) (.slice A l.length cap)) (.returned (.int .i64 q)) wr := by
    rw [et] at hres
    have e1 := hq.out
    rw [List.take_length] at e1
    exact ⟨by rw [e1], ht, hres⟩
   clear hres ht h hcn
   go_wp2
   go_ret
   exact H
theorem Ai (l : (List DMsg)) (k : Int) (h0 : 0 ≤ k) (hk : k + ao aV l ≤ 1000000000000) : bR av 118 (.one (.sl (l.map DMsg.ds))) k (.one (.sl ((mkL fQ aV k l).map DMsg.ds))) (k + ao aV l) := bR.of Tryz.call118 fun P w v h => Ah l P w k v h h0 hk
set_option maxHeartbeats 4000000 in
theorem yt (l : (List Bool)) (P : Nat → Prop) (w : World) (k : Int) (v : Value) (h : bb w P (.sl (l.map eB)) v) (h0 : 0 ≤ k) (hk : k + ao cI l ≤ 1000000000000) :
  Calls Tryz.prog 45 #[v, .int .i64 k] w (fH (k + ao cI l) P w fun w' => bb w' P (.sl ((mkL mB cI k l).map eB)) v) := by
 obtain ⟨A, cap, rfl, hcl, hcm⟩ := h.form
 rw [List.length_map] at hcl h ⊢
 unfold maxLen at hcm
 have hcn := aO (cnt := cI) dD l
 go_enter Tryz.func45, Tryz.ntmps45
 go_wp2
 go_loopw [1, 5] (fun c i wr => ∃ (j : Nat) (q : Int), j ≤ l.length ∧ i = .int .i64 j ∧ c = .int .i64 q ∧ Hid (q = k + ao cI (l.take j)) ∧ bb wr P (.sl ((mkP mB cI k j l).map eB)) (.slice A l.length cap) ∧ bN P w wr) (fun _ i _ => l.length - (intOf i).toNat)
 case atStart => exact ⟨0, k, Nat.zero_le _, rfl, rfl, by simp [Hid, ao], by rw [dp]; exact h, bN.refl _ _⟩
 case round =>
  obtain ⟨j, q, hj, rfl, rfl, hq, hres, ht⟩ := hrel
  by_cases hlt : j < l.length
  ·have hc1 := hcn (j + 1)
   rw [aB hlt] at hc1
   have hc0 : 0 ≤ ao cI (l.take j) := am dD _
   have hn := dD l[j]
   have hq1 : 0 ≤ q := by have := hq.out; omega
   have hq2 : q + cI l[j] ≤ 1000000000000 := by have := hq.out; omega
   have hq3 : q + 1 ≤ 1000000000000 := hq2
   clear hc1 hc0 hcn hn
   obtain ⟨b, off, cap1, us, Q, e1, hPb, hQP, hel, hclose⟩ := hres.lens (fS eB k hlt)
   have e2 : A = some ⟨b, off, none⟩ := by injection e1
   subst e2
   clear e1
   have hone : off + j * (eB l[j]).length = off + j := by show off + j * 1 = _; rw [Nat.mul_one]
   rw [hone] at hel hclose
   obtain ⟨u0, us0, e0, hl0⟩ := aQ (n := 0) hel.len
   subst e0
   obtain rfl := ep hl0
   clear hl0
   have hel : El wr b (off + j) 1 Q wr (eB l[j]) [u0] := hel
   have c0 : wr.cell? ⟨b, off + j, none⟩ = some (u0) := hel.cell 0 _ rfl
   have f0 := hel.frozen (off + j)
   have HC := Lib.hid hclose
   clear hclose hres h
   have hfin := HC.out _ _ _ (hel.set (c := 0) (by decide) (.bool ((q) % 3 == 0)) rfl)
   have htt := ht.trans (((hel.set (c := 0) (by decide) (.bool ((q) % 3 == 0)) rfl)).turn.mono (P' := P) (by rintro g (rfl | hg); exact hPb; exact hQP _ hg))
   have e1 := hq.out
   have hq' : Hid (q + 1 = k + ao cI (l.take (j + 1))) := by
    unfold Hid
    rw [aB hlt, e1]
    first | (unfold cI; omega) | omega
   have hm : bb _ P (.sl (((mkP mB cI k j l).map eB).set j (eB (mB q l[j])))) _ := hfin
   rw [e1, dn eB k hlt] at hm
   try rw [← e1] at hm
   clear HC hq hfin e1
   have HM := Lib.hid hm
   have HT := Lib.hid htt
   clear hm htt ht hel
   go_wp2
   exact ⟨⟨j + 1, _, by omega, by go_num, rfl, hq', HM.out, HT.out⟩, by simp [intOf]; omega⟩
  ·have e : j = l.length := by omega
   subst e
   have H : fH (k + ao cI l) P w (fun w' => bb w' P (.sl ((mkL mB cI k l).map eB)) (.slice A l.length cap)) (.returned (.int .i64 q)) wr := by
    rw [et] at hres
    have e1 := hq.out
    rw [List.take_length] at e1
    exact ⟨by rw [e1], ht, hres⟩
   clear hres ht h hcn
   go_wp2
   go_ret
   exact H
theorem yu (l : (List Bool)) (k : Int) (h0 : 0 ≤ k) (hk : k + ao cI l ≤ 1000000000000) : bR av 45 (.one (.sl (l.map eB))) k (.one (.sl ((mkL mB cI k l).map eB))) (k + ao cI l) := bR.of Tryz.call45 fun P w v h => yt l P w k v h h0 hk
end Go.Proofs.YtcmknngafflcnaaGreat
namespace Go.Proofs.YtcmknngafflcnaaGreat
open Go.ChangeShapes Go.WideShapes Go.RowKit
set_option maxHeartbeats 4000000 in
theorem yx (l : (List DMark)) (P : Nat → Prop) (w : World) (k : Int) (v : Value) (h : bb w P (.sl (l.map DMark.ds)) v) (h0 : 0 ≤ k) (hk : k + ao aD l ≤ 1000000000000) :
  Calls Tryz.prog 111 #[v, .int .i64 k] w (fH (k + ao aD l) P w fun w' => bb w' P (.sl ((mkL dW aD k l).map DMark.ds)) v) := by
 obtain ⟨A, cap, rfl, hcl, hcm⟩ := h.form
 rw [List.length_map] at hcl h ⊢
 unfold maxLen at hcm
 have hcn := aO (cnt := aD) ck l
 go_enter Tryz.func111, Tryz.ntmps111
 go_wp2
 go_loopw [1, 5] (fun c i wr => ∃ (j : Nat) (q : Int), j ≤ l.length ∧ i = .int .i64 j ∧ c = .int .i64 q ∧ Hid (q = k + ao aD (l.take j)) ∧ bb wr P (.sl ((mkP dW aD k j l).map DMark.ds)) (.slice A l.length cap) ∧ bN P w wr) (fun _ i _ => l.length - (intOf i).toNat)
 case atStart => exact ⟨0, k, Nat.zero_le _, rfl, rfl, by simp [Hid, ao], by rw [dp]; exact h, bN.refl _ _⟩
 case round =>
  obtain ⟨j, q, hj, rfl, rfl, hq, hres, ht⟩ := hrel
  by_cases hlt : j < l.length
  ·have hc1 := hcn (j + 1)
   rw [aB hlt] at hc1
   have hc0 : 0 ≤ ao aD (l.take j) := am ck _
   have hn := ck l[j]
   have hq1 : 0 ≤ q := by have := hq.out; omega
   have hq2 : q + aD l[j] ≤ 1000000000000 := by have := hq.out; omega
   have hq3 : q + 3 ≤ 1000000000000 := by unfold aD at hq2; omega
   clear hc1 hc0 hcn hn
   obtain ⟨b, off, cap1, us, Q, e1, hPb, hQP, hel, hclose⟩ := hres.lens (fS DMark.ds k hlt)
   have e2 : A = some ⟨b, off, none⟩ := by injection e1
   subst e2
   clear e1
   obtain ⟨u0, us0, e0, hl0⟩ := aQ (n := 2) hel.len
   subst e0
   obtain ⟨u1, us1, e0, hl1⟩ := aQ (n := 1) hl0
   subst e0
   obtain ⟨u2, us2, e0, hl2⟩ := aQ (n := 0) hl1
   subst e0
   obtain rfl := ep hl2
   clear hl2
   have hel : El wr b (off + j * 3) 3 Q wr (DMark.ds l[j]) [u0, u1, u2] := hel
   have c0 : wr.cell? ⟨b, off + j * 3, none⟩ = some (u0) := hel.cell 0 _ rfl
   have f0 := hel.frozen (off + j * 3)
   have c1 : wr.cell? ⟨b, off + j * 3 + 1, none⟩ = some (u1) := hel.cell 1 _ rfl
   have f1 := hel.frozen (off + j * 3 + 1)
   have c2 : wr.cell? ⟨b, off + j * 3 + 2, none⟩ = some (u2) := hel.cell 2 _ rfl
   have f2 := hel.frozen (off + j * 3 + 2)
   have HC := Lib.hid hclose
   clear hclose hres h
   have hfin := HC.out _ _ _ (((hel.set (c := 0) (by decide) (.int .i64 (q)) rfl).set (c := 1) (by decide) (.int .i64 (q + 1)) rfl).set (c := 2) (by decide) (.int .i64 (q + 1 + 1)) rfl)
   have htt := ht.trans (((((hel.set (c := 0) (by decide) (.int .i64 (q)) rfl).set (c := 1) (by decide) (.int .i64 (q + 1)) rfl).set (c := 2) (by decide) (.int .i64 (q + 1 + 1)) rfl)).turn.mono (P' := P) (by rintro g (rfl | hg); exact hPb; exact hQP _ hg))
   have e1 := hq.out
   have hq' : Hid (q + 1 + 1 + 1 = k + ao aD (l.take (j + 1))) := by
    unfold Hid
    rw [aB hlt, e1]
    first | (unfold aD; omega) | omega
   have hm : bb _ P (.sl (((mkP dW aD k j l).map DMark.ds).set j (DMark.ds (dW q l[j])))) _ := hfin
   rw [e1, dn DMark.ds k hlt] at hm
   try rw [← e1] at hm
   clear HC hq hfin e1
   have HM := Lib.hid hm
   have HT := Lib.hid htt
   clear hm htt ht hel
   go_wp2
   exact ⟨⟨j + 1, _, by omega, by go_num, rfl, hq', HM.out, HT.out⟩, by simp [intOf]; omega⟩
  ·have e : j = l.length := by omega
   subst e
   have H : fH (k + ao aD l) P w (fun w' => bb w' P (.sl ((mkL dW aD k l).map DMark.ds)) (.slice A l.length cap)) (.returned (.int .i64 q)) wr := by
    rw [et] at hres
    have e1 := hq.out
    rw [List.take_length] at e1
    exact ⟨by rw [e1], ht, hres⟩
   clear hres ht h hcn
   go_wp2
   go_ret
   exact H
theorem qX (l : (List DMark)) (k : Int) (h0 : 0 ≤ k) (hk : k + ao aD l ≤ 1000000000000) : bR av 111 (.one (.sl (l.map DMark.ds))) k (.one (.sl ((mkL dW aD k l).map DMark.ds))) (k + ao aD l) := bR.of Tryz.call111 fun P w v h => yx l P w k v h h0 hk
set_option maxHeartbeats 4000000 in
theorem vW (l : (List DEntry)) (P : Nat → Prop) (w : World) (k : Int) (v : Value) (h : bb w P (.sl (l.map DEntry.ds)) v) (h0 : 0 ≤ k) (hk : k + ao aK l ≤ 1000000000000) :
  Calls Tryz.prog 193 #[v, .int .i64 k] w (fH (k + ao aK l) P w fun w' => bb w' P (.sl ((mkL dE aK k l).map DEntry.ds)) v) := by
 obtain ⟨A, cap, rfl, hcl, hcm⟩ := h.form
 rw [List.length_map] at hcl h ⊢
 unfold maxLen at hcm
 have hcn := aO (cnt := aK) cQ l
 go_enter Tryz.func193, Tryz.ntmps193
 go_wp2
 go_loopw [1, 5] (fun c i wr => ∃ (j : Nat) (q : Int), j ≤ l.length ∧ i = .int .i64 j ∧ c = .int .i64 q ∧ Hid (q = k + ao aK (l.take j)) ∧ bb wr P (.sl ((mkP dE aK k j l).map DEntry.ds)) (.slice A l.length cap) ∧ bN P w wr) (fun _ i _ => l.length - (intOf i).toNat)
 case atStart => exact ⟨0, k, Nat.zero_le _, rfl, rfl, by simp [Hid, ao], by rw [dp]; exact h, bN.refl _ _⟩
 case round =>
  obtain ⟨j, q, hj, rfl, rfl, hq, hres, ht⟩ := hrel
  by_cases hlt : j < l.length
  ·have hc1 := hcn (j + 1)
   rw [aB hlt] at hc1
   have hc0 : 0 ≤ ao aK (l.take j) := am cQ _
   have hn := cQ l[j]
   have hq1 : 0 ≤ q := by have := hq.out; omega
   have hq2 : q + aK l[j] ≤ 1000000000000 := by have := hq.out; omega
   have hq3 : q + 9 ≤ 1000000000000 := by unfold aK at hq2; omega
   clear hc1 hc0 hcn hn
   obtain ⟨b, off, cap1, us, Q, e1, hPb, hQP, hel, hclose⟩ := hres.lens (fS DEntry.ds k hlt)
   have e2 : A = some ⟨b, off, none⟩ := by injection e1
   subst e2
   clear e1
   obtain ⟨u0, us0, e0, hl0⟩ := aQ (n := 8) hel.len
   subst e0
   obtain ⟨u1, us1, e0, hl1⟩ := aQ (n := 7) hl0
   subst e0
   obtain ⟨u2, us2, e0, hl2⟩ := aQ (n := 6) hl1
   subst e0
   obtain ⟨u3, us3, e0, hl3⟩ := aQ (n := 5) hl2
   subst e0
   obtain ⟨u4, us4, e0, hl4⟩ := aQ (n := 4) hl3
   subst e0
   obtain ⟨u5, us5, e0, hl5⟩ := aQ (n := 3) hl4
   subst e0
   obtain ⟨u6, us6, e0, hl6⟩ := aQ (n := 2) hl5
   subst e0
   obtain ⟨u7, us7, e0, hl7⟩ := aQ (n := 1) hl6
   subst e0
   obtain ⟨u8, us8, e0, hl8⟩ := aQ (n := 0) hl7
   subst e0
   obtain rfl := ep hl8
   clear hl8
   have hel : El wr b (off + j * 9) 9 Q wr (DEntry.ds l[j]) [u0, u1, u2, u3, u4, u5, u6, u7, u8] := hel
   have c0 : wr.cell? ⟨b, off + j * 9, none⟩ = some (u0) := hel.cell 0 _ rfl
   have f0 := hel.frozen (off + j * 9)
   have c1 : wr.cell? ⟨b, off + j * 9 + 1, none⟩ = some (u1) := hel.cell 1 _ rfl
   have f1 := hel.frozen (off + j * 9 + 1)
   have c2 : wr.cell? ⟨b, off + j * 9 + 2, none⟩ = some (u2) := hel.cell 2 _ rfl
   have f2 := hel.frozen (off + j * 9 + 2)
   have c3 : wr.cell? ⟨b, off + j * 9 + 3, none⟩ = some (u3) := hel.cell 3 _ rfl
   have f3 := hel.frozen (off + j * 9 + 3)
   have c4 : wr.cell? ⟨b, off + j * 9 + 4, none⟩ = some (u4) := hel.cell 4 _ rfl
   have f4 := hel.frozen (off + j * 9 + 4)
   have c5 : wr.cell? ⟨b, off + j * 9 + 5, none⟩ = some (u5) := hel.cell 5 _ rfl
   have f5 := hel.frozen (off + j * 9 + 5)
   have c6 : wr.cell? ⟨b, off + j * 9 + 6, none⟩ = some (u6) := hel.cell 6 _ rfl
   have f6 := hel.frozen (off + j * 9 + 6)
   have c7 : wr.cell? ⟨b, off + j * 9 + 7, none⟩ = some (u7) := hel.cell 7 _ rfl
   have f7 := hel.frozen (off + j * 9 + 7)
   have c8 : wr.cell? ⟨b, off + j * 9 + 8, none⟩ = some (u8) := hel.cell 8 _ rfl
   have f8 := hel.frozen (off + j * 9 + 8)
   have HC := Lib.hid hclose
   clear hclose hres h
   have hfin := HC.out _ _ _ (((((((((hel.set (c := 0) (by decide) (.int .i64 (q)) rfl).set (c := 1) (by decide) (.int .i64 (q + 1)) rfl).set (c := 2) (by decide) (.int .i64 (q + 1 + 1)) rfl).set (c := 3) (by decide) (.int .i64 (q + 1 + 1 + 1)) rfl).set (c := 4) (by decide) (.int .i64 (q + 1 + 1 + 1 + 1)) rfl).set (c := 5) (by decide) (.int .i64 (q + 1 + 1 + 1 + 1 + 1)) rfl).set (c := 6) (by decide) (.int .i64 (q + 1 + 1 + 1 + 1 + 1 + 1)) rfl).set (c := 7) (by decide) (.int .i64 (q + 1 + 1 + 1 + 1 + 1 + 1 + 1)) rfl).set (c := 8) (by decide) (.int .i64 (q + 1 + 1 + 1 + 1 + 1 + 1 + 1 + 1)) rfl)
   have htt := ht.trans (((((((((((hel.set (c := 0) (by decide) (.int .i64 (q)) rfl).set (c := 1) (by decide) (.int .i64 (q + 1)) rfl).set (c := 2) (by decide) (.int .i64 (q + 1 + 1)) rfl).set (c := 3) (by decide) (.int .i64 (q + 1 + 1 + 1)) rfl).set (c := 4) (by decide) (.int .i64 (q + 1 + 1 + 1 + 1)) rfl).set (c := 5) (by decide) (.int .i64 (q + 1 + 1 + 1 + 1 + 1)) rfl).set (c := 6) (by decide) (.int .i64 (q + 1 + 1 + 1 + 1 + 1 + 1)) rfl).set (c := 7) (by decide) (.int .i64 (q + 1 + 1 + 1 + 1 + 1 + 1 + 1)) rfl).set (c := 8) (by decide) (.int .i64 (q + 1 + 1 + 1 + 1 + 1 + 1 + 1 + 1)) rfl)).turn.mono (P' := P) (by rintro g (rfl | hg); exact hPb; exact hQP _ hg))
   have e1 := hq.out
   have hq' : Hid (q + 1 + 1 + 1 + 1 + 1 + 1 + 1 + 1 + 1 = k + ao aK (l.take (j + 1))) := by
    unfold Hid
    rw [aB hlt, e1]
    first | (unfold aK; omega) | omega
   have hm : bb _ P (.sl (((mkP dE aK k j l).map DEntry.ds).set j (DEntry.ds (dE q l[j])))) _ := hfin
   rw [e1, dn DEntry.ds k hlt] at hm
   try rw [← e1] at hm
   clear HC hq hfin e1
   have HM := Lib.hid hm
   have HT := Lib.hid htt
   clear hm htt ht hel
   go_wp2
   exact ⟨⟨j + 1, _, by omega, by go_num, rfl, hq', HM.out, HT.out⟩, by simp [intOf]; omega⟩
  ·have e : j = l.length := by omega
   subst e
   have H : fH (k + ao aK l) P w (fun w' => bb w' P (.sl ((mkL dE aK k l).map DEntry.ds)) (.slice A l.length cap)) (.returned (.int .i64 q)) wr := by
    rw [et] at hres
    have e1 := hq.out
    rw [List.take_length] at e1
    exact ⟨by rw [e1], ht, hres⟩
   clear hres ht h hcn
   go_wp2
   go_ret
   exact H
theorem vX (l : (List DEntry)) (k : Int) (h0 : 0 ≤ k) (hk : k + ao aK l ≤ 1000000000000) : bR av 193 (.one (.sl (l.map DEntry.ds))) k (.one (.sl ((mkL dE aK k l).map DEntry.ds))) (k + ao aK l) := bR.of Tryz.call193 fun P w v h => vW l P w k v h h0 hk
set_option maxHeartbeats 4000000 in
theorem z7 (l : (List DAck)) (P : Nat → Prop) (w : World) (k : Int) (v : Value) (h : bb w P (.sl (l.map DAck.ds)) v) (h0 : 0 ≤ k) (hk : k + ao bc l ≤ 1000000000000) :
  Calls Tryz.prog 112 #[v, .int .i64 k] w (fH (k + ao bc l) P w fun w' => bb w' P (.sl ((mkL gx bc k l).map DAck.ds)) v) := by
 obtain ⟨A, cap, rfl, hcl, hcm⟩ := h.form
 rw [List.length_map] at hcl h ⊢
 unfold maxLen at hcm
 have hcn := aO (cnt := bc) dQ l
 go_enter Tryz.func112, Tryz.ntmps112
 go_wp2
 go_loopw [1, 5] (fun c i wr => ∃ (j : Nat) (q : Int), j ≤ l.length ∧ i = .int .i64 j ∧ c = .int .i64 q ∧ Hid (q = k + ao bc (l.take j)) ∧ bb wr P (.sl ((mkP gx bc k j l).map DAck.ds)) (.slice A l.length cap) ∧ bN P w wr) (fun _ i _ => l.length - (intOf i).toNat)
 case atStart => exact ⟨0, k, Nat.zero_le _, rfl, rfl, by simp [Hid, ao], by rw [dp]; exact h, bN.refl _ _⟩
 case round =>
  obtain ⟨j, q, hj, rfl, rfl, hq, hres, ht⟩ := hrel
  by_cases hlt : j < l.length
  ·have hc1 := hcn (j + 1)
   rw [aB hlt] at hc1
   have hc0 : 0 ≤ ao bc (l.take j) := am dQ _
   have hn := dQ l[j]
   have hq1 : 0 ≤ q := by have := hq.out; omega
   have hq2 : q + bc l[j] ≤ 1000000000000 := by have := hq.out; omega
   have hq3 : q + 4 ≤ 1000000000000 := by unfold bc at hq2; omega
   clear hc1 hc0 hcn hn
   obtain ⟨b, off, cap1, us, Q, e1, hPb, hQP, hel, hclose⟩ := hres.lens (fS DAck.ds k hlt)
   have e2 : A = some ⟨b, off, none⟩ := by injection e1
   subst e2
   clear e1
   obtain ⟨u0, us0, e0, hl0⟩ := aQ (n := 3) hel.len
   subst e0
   obtain ⟨u1, us1, e0, hl1⟩ := aQ (n := 2) hl0
   subst e0
   obtain ⟨u2, us2, e0, hl2⟩ := aQ (n := 1) hl1
   subst e0
   obtain ⟨u3, us3, e0, hl3⟩ := aQ (n := 0) hl2
   subst e0
   obtain rfl := ep hl3
   clear hl3
   have hel : El wr b (off + j * 4) 4 Q wr (DAck.ds l[j]) [u0, u1, u2, u3] := hel
   have c0 : wr.cell? ⟨b, off + j * 4, none⟩ = some (u0) := hel.cell 0 _ rfl
   have f0 := hel.frozen (off + j * 4)
   have c1 : wr.cell? ⟨b, off + j * 4 + 1, none⟩ = some (u1) := hel.cell 1 _ rfl
   have f1 := hel.frozen (off + j * 4 + 1)
   have c2 : wr.cell? ⟨b, off + j * 4 + 2, none⟩ = some (u2) := hel.cell 2 _ rfl
   have f2 := hel.frozen (off + j * 4 + 2)
   have c3 : wr.cell? ⟨b, off + j * 4 + 3, none⟩ = some (u3) := hel.cell 3 _ rfl
   have f3 := hel.frozen (off + j * 4 + 3)
   have HC := Lib.hid hclose
   clear hclose hres h
   have hfin := HC.out _ _ _ ((((hel.set (c := 0) (by decide) (.int .i64 (q)) rfl).set (c := 1) (by decide) (.int .i64 (q + 1)) rfl).set (c := 2) (by decide) (.int .i64 (q + 1 + 1)) rfl).set (c := 3) (by decide) (.int .i64 (q + 1 + 1 + 1)) rfl)
   have htt := ht.trans ((((((hel.set (c := 0) (by decide) (.int .i64 (q)) rfl).set (c := 1) (by decide) (.int .i64 (q + 1)) rfl).set (c := 2) (by decide) (.int .i64 (q + 1 + 1)) rfl).set (c := 3) (by decide) (.int .i64 (q + 1 + 1 + 1)) rfl)).turn.mono (P' := P) (by rintro g (rfl | hg); exact hPb; exact hQP _ hg))
   have e1 := hq.out
   have hq' : Hid (q + 1 + 1 + 1 + 1 = k + ao bc (l.take (j + 1))) := by
    unfold Hid
    rw [aB hlt, e1]
    first | (unfold bc; omega) | omega
   have hm : bb _ P (.sl (((mkP gx bc k j l).map DAck.ds).set j (DAck.ds (gx q l[j])))) _ := hfin
   rw [e1, dn DAck.ds k hlt] at hm
   try rw [← e1] at hm
   clear HC hq hfin e1
   have HM := Lib.hid hm
   have HT := Lib.hid htt
   clear hm htt ht hel
   go_wp2
   exact ⟨⟨j + 1, _, by omega, by go_num, rfl, hq', HM.out, HT.out⟩, by simp [intOf]; omega⟩
  ·have e : j = l.length := by omega
   subst e
   have H : fH (k + ao bc l) P w (fun w' => bb w' P (.sl ((mkL gx bc k l).map DAck.ds)) (.slice A l.length cap)) (.returned (.int .i64 q)) wr := by
    rw [et] at hres
    have e1 := hq.out
    rw [List.take_length] at e1
    exact ⟨by rw [e1], ht, hres⟩
   clear hres ht h hcn
   go_wp2
   go_ret
   exact H
theorem z8 (l : (List DAck)) (k : Int) (h0 : 0 ≤ k) (hk : k + ao bc l ≤ 1000000000000) : bR av 112 (.one (.sl (l.map DAck.ds))) k (.one (.sl ((mkL gx bc k l).map DAck.ds))) (k + ao bc l) := bR.of Tryz.call112 fun P w v h => z7 l P w k v h h0 hk
set_option maxHeartbeats 4000000 in
theorem yy (l : (List DPair)) (P : Nat → Prop) (w : World) (k : Int) (v : Value) (h : bb w P (.sl (l.map DPair.ds)) v) (h0 : 0 ≤ k) (hk : k + ao aM l ≤ 1000000000000) :
  Calls Tryz.prog 196 #[v, .int .i64 k] w (fH (k + ao aM l) P w fun w' => bb w' P (.sl ((mkL eq aM k l).map DPair.ds)) v) := by
 obtain ⟨A, cap, rfl, hcl, hcm⟩ := h.form
 rw [List.length_map] at hcl h ⊢
 unfold maxLen at hcm
 have hcn := aO (cnt := aM) dg l
 go_enter Tryz.func196, Tryz.ntmps196
 go_wp2
 go_loopw [1, 5] (fun c i wr => ∃ (j : Nat) (q : Int), j ≤ l.length ∧ i = .int .i64 j ∧ c = .int .i64 q ∧ Hid (q = k + ao aM (l.take j)) ∧ bb wr P (.sl ((mkP eq aM k j l).map DPair.ds)) (.slice A l.length cap) ∧ bN P w wr) (fun _ i _ => l.length - (intOf i).toNat)
 case atStart => exact ⟨0, k, Nat.zero_le _, rfl, rfl, by simp [Hid, ao], by rw [dp]; exact h, bN.refl _ _⟩
 case round =>
  obtain ⟨j, q, hj, rfl, rfl, hq, hres, ht⟩ := hrel
  by_cases hlt : j < l.length
  ·have hc1 := hcn (j + 1)
   rw [aB hlt] at hc1
   have hc0 : 0 ≤ ao aM (l.take j) := am dg _
   have hn := dg l[j]
   have hq1 : 0 ≤ q := by have := hq.out; omega
   have hq2 : q + aM l[j] ≤ 1000000000000 := by have := hq.out; omega
   have hq3 : q + 2 ≤ 1000000000000 := by unfold aM at hq2; omega
   clear hc1 hc0 hcn hn
   obtain ⟨b, off, cap1, us, Q, e1, hPb, hQP, hel, hclose⟩ := hres.lens (fS DPair.ds k hlt)
   have e2 : A = some ⟨b, off, none⟩ := by injection e1
   subst e2
   clear e1
   obtain ⟨u0, us0, e0, hl0⟩ := aQ (n := 1) hel.len
   subst e0
   obtain ⟨u1, us1, e0, hl1⟩ := aQ (n := 0) hl0
   subst e0
   obtain rfl := ep hl1
   clear hl1
   have hel : El wr b (off + j * 2) 2 Q wr (DPair.ds l[j]) [u0, u1] := hel
   have c0 : wr.cell? ⟨b, off + j * 2, none⟩ = some (u0) := hel.cell 0 _ rfl
   have f0 := hel.frozen (off + j * 2)
   have c1 : wr.cell? ⟨b, off + j * 2 + 1, none⟩ = some (u1) := hel.cell 1 _ rfl
   have f1 := hel.frozen (off + j * 2 + 1)
   have HC := Lib.hid hclose
   clear hclose hres h
   have hfin := HC.out _ _ _ ((hel.set (c := 0) (by decide) (.int .i64 (q)) rfl).set (c := 1) (by decide) (.int .i64 (q + 1)) rfl)
   have htt := ht.trans ((((hel.set (c := 0) (by decide) (.int .i64 (q)) rfl).set (c := 1) (by decide) (.int .i64 (q + 1)) rfl)).turn.mono (P' := P) (by rintro g (rfl | hg); exact hPb; exact hQP _ hg))
   have e1 := hq.out
   have hq' : Hid (q + 1 + 1 = k + ao aM (l.take (j + 1))) := by
    unfold Hid
    rw [aB hlt, e1]
    first | (unfold aM; omega) | omega
   have hm : bb _ P (.sl (((mkP eq aM k j l).map DPair.ds).set j (DPair.ds (eq q l[j])))) _ := hfin
   rw [e1, dn DPair.ds k hlt] at hm
   try rw [← e1] at hm
   clear HC hq hfin e1
   have HM := Lib.hid hm
   have HT := Lib.hid htt
   clear hm htt ht hel
   go_wp2
   exact ⟨⟨j + 1, _, by omega, by go_num, rfl, hq', HM.out, HT.out⟩, by simp [intOf]; omega⟩
  ·have e : j = l.length := by omega
   subst e
   have H : fH (k + ao aM l) P w (fun w' => bb w' P (.sl ((mkL eq aM k l).map DPair.ds)) (.slice A l.length cap)) (.returned (.int .i64 q)) wr := by
    rw [et] at hres
    have e1 := hq.out
    rw [List.take_length] at e1
    exact ⟨by rw [e1], ht, hres⟩
   clear hres ht h hcn
   go_wp2
   go_ret
   exact H
theorem yz (l : (List DPair)) (k : Int) (h0 : 0 ≤ k) (hk : k + ao aM l ≤ 1000000000000) : bR av 196 (.one (.sl (l.map DPair.ds))) k (.one (.sl ((mkL eq aM k l).map DPair.ds))) (k + ao aM l) := bR.of Tryz.call196 fun P w v h => yy l P w k v h h0 hk
set_option maxHeartbeats 4000000 in
theorem Ae (l : (List DJob)) (P : Nat → Prop) (w : World) (k : Int) (v : Value) (h : bb w P (.sl (l.map DJob.ds)) v) (h0 : 0 ≤ k) (hk : k + ao bf l ≤ 1000000000000) :
  Calls Tryz.prog 197 #[v, .int .i64 k] w (fH (k + ao bf l) P w fun w' => bb w' P (.sl ((mkL gA bf k l).map DJob.ds)) v) := by
 obtain ⟨A, cap, rfl, hcl, hcm⟩ := h.form
 rw [List.length_map] at hcl h ⊢
 unfold maxLen at hcm
 have hcn := aO (cnt := bf) dT l
 go_enter Tryz.func197, Tryz.ntmps197
 go_wp2
 go_loopw [1, 5] (fun c i wr => ∃ (j : Nat) (q : Int), j ≤ l.length ∧ i = .int .i64 j ∧ c = .int .i64 q ∧ Hid (q = k + ao bf (l.take j)) ∧ bb wr P (.sl ((mkP gA bf k j l).map DJob.ds)) (.slice A l.length cap) ∧ bN P w wr) (fun _ i _ => l.length - (intOf i).toNat)
 case atStart => exact ⟨0, k, Nat.zero_le _, rfl, rfl, by simp [Hid, ao], by rw [dp]; exact h, bN.refl _ _⟩
 case round =>
  obtain ⟨j, q, hj, rfl, rfl, hq, hres, ht⟩ := hrel
  by_cases hlt : j < l.length
  ·have hc1 := hcn (j + 1)
   rw [aB hlt] at hc1
   have hc0 : 0 ≤ ao bf (l.take j) := am dT _
   have hn := dT l[j]
   have hq1 : 0 ≤ q := by have := hq.out; omega
   have hq2 : q + bf l[j] ≤ 1000000000000 := by have := hq.out; omega
   have hq3 : q + 5 ≤ 1000000000000 := by unfold bf at hq2; omega
   clear hc1 hc0 hcn hn
   obtain ⟨b, off, cap1, us, Q, e1, hPb, hQP, hel, hclose⟩ := hres.lens (fS DJob.ds k hlt)
   have e2 : A = some ⟨b, off, none⟩ := by injection e1
   subst e2
   clear e1
   obtain ⟨u0, us0, e0, hl0⟩ := aQ (n := 4) hel.len
   subst e0
   obtain ⟨u1, us1, e0, hl1⟩ := aQ (n := 3) hl0
   subst e0
   obtain ⟨u2, us2, e0, hl2⟩ := aQ (n := 2) hl1
   subst e0
   obtain ⟨u3, us3, e0, hl3⟩ := aQ (n := 1) hl2
   subst e0
   obtain ⟨u4, us4, e0, hl4⟩ := aQ (n := 0) hl3
   subst e0
   obtain rfl := ep hl4
   clear hl4
   have hel : El wr b (off + j * 5) 5 Q wr (DJob.ds l[j]) [u0, u1, u2, u3, u4] := hel
   have c0 : wr.cell? ⟨b, off + j * 5, none⟩ = some (u0) := hel.cell 0 _ rfl
   have f0 := hel.frozen (off + j * 5)
   have c1 : wr.cell? ⟨b, off + j * 5 + 1, none⟩ = some (u1) := hel.cell 1 _ rfl
   have f1 := hel.frozen (off + j * 5 + 1)
   have c2 : wr.cell? ⟨b, off + j * 5 + 2, none⟩ = some (u2) := hel.cell 2 _ rfl
   have f2 := hel.frozen (off + j * 5 + 2)
   have c3 : wr.cell? ⟨b, off + j * 5 + 3, none⟩ = some (u3) := hel.cell 3 _ rfl
   have f3 := hel.frozen (off + j * 5 + 3)
   have c4 : wr.cell? ⟨b, off + j * 5 + 4, none⟩ = some (u4) := hel.cell 4 _ rfl
   have f4 := hel.frozen (off + j * 5 + 4)
   have HC := Lib.hid hclose
   clear hclose hres h
   have hfin := HC.out _ _ _ (((((hel.set (c := 0) (by decide) (.int .i64 (q)) rfl).set (c := 1) (by decide) (.int .i64 (q + 1)) rfl).set (c := 2) (by decide) (.int .i64 (q + 1 + 1)) rfl).set (c := 3) (by decide) (.int .i64 (q + 1 + 1 + 1)) rfl).set (c := 4) (by decide) (.int .i64 (q + 1 + 1 + 1 + 1)) rfl)
   have htt := ht.trans (((((((hel.set (c := 0) (by decide) (.int .i64 (q)) rfl).set (c := 1) (by decide) (.int .i64 (q + 1)) rfl).set (c := 2) (by decide) (.int .i64 (q + 1 + 1)) rfl).set (c := 3) (by decide) (.int .i64 (q + 1 + 1 + 1)) rfl).set (c := 4) (by decide) (.int .i64 (q + 1 + 1 + 1 + 1)) rfl)).turn.mono (P' := P) (by rintro g (rfl | hg); exact hPb; exact hQP _ hg))
   have e1 := hq.out
   have hq' : Hid (q + 1 + 1 + 1 + 1 + 1 = k + ao bf (l.take (j + 1))) := by
    unfold Hid
    rw [aB hlt, e1]
    first | (unfold bf; omega) | omega
   have hm : bb _ P (.sl (((mkP gA bf k j l).map DJob.ds).set j (DJob.ds (gA q l[j])))) _ := hfin
   rw [e1, dn DJob.ds k hlt] at hm
   try rw [← e1] at hm
   clear HC hq hfin e1
   have HM := Lib.hid hm
   have HT := Lib.hid htt
   clear hm htt ht hel
   go_wp2
   exact ⟨⟨j + 1, _, by omega, by go_num, rfl, hq', HM.out, HT.out⟩, by simp [intOf]; omega⟩
  ·have e : j = l.length := by omega
   subst e
   have H : fH (k + ao bf l) P w (fun w' => bb w' P (.sl ((mkL gA bf k l).map DJob.ds)) (.slice A l.length cap)) (.returned (.int .i64 q)) wr := by
    rw [et] at hres
    have e1 := hq.out
    rw [List.take_length] at e1
    exact ⟨by rw [e1], ht, hres⟩
   clear hres ht h hcn
   go_wp2
   go_ret
   exact H
theorem Af (l : (List DJob)) (k : Int) (h0 : 0 ≤ k) (hk : k + ao bf l ≤ 1000000000000) : bR av 197 (.one (.sl (l.map DJob.ds))) k (.one (.sl ((mkL gA bf k l).map DJob.ds))) (k + ao bf l) := bR.of Tryz.call197 fun P w v h => Ae l P w k v h h0 hk
set_option maxHeartbeats 4000000 in
theorem Aa (l : (List DDue)) (P : Nat → Prop) (w : World) (k : Int) (v : Value) (h : bb w P (.sl (l.map DDue.ds)) v) (h0 : 0 ≤ k) (hk : k + ao bd l ≤ 1000000000000) :
  Calls Tryz.prog 262 #[v, .int .i64 k] w (fH (k + ao bd l) P w fun w' => bb w' P (.sl ((mkL gy bd k l).map DDue.ds)) v) := by
 obtain ⟨A, cap, rfl, hcl, hcm⟩ := h.form
 rw [List.length_map] at hcl h ⊢
 unfold maxLen at hcm
 have hcn := aO (cnt := bd) dR l
 go_enter Tryz.func262, Tryz.ntmps262
 go_wp2
 go_loopw [1, 5] (fun c i wr => ∃ (j : Nat) (q : Int), j ≤ l.length ∧ i = .int .i64 j ∧ c = .int .i64 q ∧ Hid (q = k + ao bd (l.take j)) ∧ bb wr P (.sl ((mkP gy bd k j l).map DDue.ds)) (.slice A l.length cap) ∧ bN P w wr) (fun _ i _ => l.length - (intOf i).toNat)
 case atStart => exact ⟨0, k, Nat.zero_le _, rfl, rfl, by simp [Hid, ao], by rw [dp]; exact h, bN.refl _ _⟩
 case round =>
  obtain ⟨j, q, hj, rfl, rfl, hq, hres, ht⟩ := hrel
  by_cases hlt : j < l.length
  ·have hc1 := hcn (j + 1)
   rw [aB hlt] at hc1
   have hc0 : 0 ≤ ao bd (l.take j) := am dR _
   have hn := dR l[j]
   have hq1 : 0 ≤ q := by have := hq.out; omega
   have hq2 : q + bd l[j] ≤ 1000000000000 := by have := hq.out; omega
   have hq3 : q + 2 ≤ 1000000000000 := by unfold bd at hq2; omega
   clear hc1 hc0 hcn hn
   obtain ⟨b, off, cap1, us, Q, e1, hPb, hQP, hel, hclose⟩ := hres.lens (fS DDue.ds k hlt)
   have e2 : A = some ⟨b, off, none⟩ := by injection e1
   subst e2
   clear e1
   obtain ⟨u0, us0, e0, hl0⟩ := aQ (n := 1) hel.len
   subst e0
   obtain ⟨u1, us1, e0, hl1⟩ := aQ (n := 0) hl0
   subst e0
   obtain rfl := ep hl1
   clear hl1
   have hel : El wr b (off + j * 2) 2 Q wr (DDue.ds l[j]) [u0, u1] := hel
   have c0 : wr.cell? ⟨b, off + j * 2, none⟩ = some (u0) := hel.cell 0 _ rfl
   have f0 := hel.frozen (off + j * 2)
   have c1 : wr.cell? ⟨b, off + j * 2 + 1, none⟩ = some (u1) := hel.cell 1 _ rfl
   have f1 := hel.frozen (off + j * 2 + 1)
   have HC := Lib.hid hclose
   clear hclose hres h
   have hfin := HC.out _ _ _ ((hel.set (c := 0) (by decide) (.int .i64 (q)) rfl).set (c := 1) (by decide) (.int .i64 (q + 1)) rfl)
   have htt := ht.trans ((((hel.set (c := 0) (by decide) (.int .i64 (q)) rfl).set (c := 1) (by decide) (.int .i64 (q + 1)) rfl)).turn.mono (P' := P) (by rintro g (rfl | hg); exact hPb; exact hQP _ hg))
   have e1 := hq.out
   have hq' : Hid (q + 1 + 1 = k + ao bd (l.take (j + 1))) := by
    unfold Hid
    rw [aB hlt, e1]
    first | (unfold bd; omega) | omega
   have hm : bb _ P (.sl (((mkP gy bd k j l).map DDue.ds).set j (DDue.ds (gy q l[j])))) _ := hfin
   rw [e1, dn DDue.ds k hlt] at hm
   try rw [← e1] at hm
   clear HC hq hfin e1
   have HM := Lib.hid hm
   have HT := Lib.hid htt
   clear hm htt ht hel
   go_wp2
   exact ⟨⟨j + 1, _, by omega, by go_num, rfl, hq', HM.out, HT.out⟩, by simp [intOf]; omega⟩
  ·have e : j = l.length := by omega
   subst e
   have H : fH (k + ao bd l) P w (fun w' => bb w' P (.sl ((mkL gy bd k l).map DDue.ds)) (.slice A l.length cap)) (.returned (.int .i64 q)) wr := by
    rw [et] at hres
    have e1 := hq.out
    rw [List.take_length] at e1
    exact ⟨by rw [e1], ht, hres⟩
   clear hres ht h hcn
   go_wp2
   go_ret
   exact H
theorem Ab (l : (List DDue)) (k : Int) (h0 : 0 ≤ k) (hk : k + ao bd l ≤ 1000000000000) : bR av 262 (.one (.sl (l.map DDue.ds))) k (.one (.sl ((mkL gy bd k l).map DDue.ds))) (k + ao bd l) := bR.of Tryz.call262 fun P w v h => Aa l P w k v h h0 hk
set_option maxHeartbeats 4000000 in
theorem yC (l : (List DWant)) (P : Nat → Prop) (w : World) (k : Int) (v : Value) (h : bb w P (.sl (l.map DWant.ds)) v) (h0 : 0 ≤ k) (hk : k + ao aN l ≤ 1000000000000) :
  Calls Tryz.prog 116 #[v, .int .i64 k] w (fH (k + ao aN l) P w fun w' => bb w' P (.sl ((mkL er aN k l).map DWant.ds)) v) := by
 obtain ⟨A, cap, rfl, hcl, hcm⟩ := h.form
 rw [List.length_map] at hcl h ⊢
 unfold maxLen at hcm
 have hcn := aO (cnt := aN) dh l
 go_enter Tryz.func116, Tryz.ntmps116
 go_wp2
 go_loopw [1, 5] (fun c i wr => ∃ (j : Nat) (q : Int), j ≤ l.length ∧ i = .int .i64 j ∧ c = .int .i64 q ∧ Hid (q = k + ao aN (l.take j)) ∧ bb wr P (.sl ((mkP er aN k j l).map DWant.ds)) (.slice A l.length cap) ∧ bN P w wr) (fun _ i _ => l.length - (intOf i).toNat)
 case atStart => exact ⟨0, k, Nat.zero_le _, rfl, rfl, by simp [Hid, ao], by rw [dp]; exact h, bN.refl _ _⟩
 case round =>
  obtain ⟨j, q, hj, rfl, rfl, hq, hres, ht⟩ := hrel
  by_cases hlt : j < l.length
  ·have hc1 := hcn (j + 1)
   rw [aB hlt] at hc1
   have hc0 : 0 ≤ ao aN (l.take j) := am dh _
   have hn := dh l[j]
   have hq1 : 0 ≤ q := by have := hq.out; omega
   have hq2 : q + aN l[j] ≤ 1000000000000 := by have := hq.out; omega
   have hq3 : q + 7 ≤ 1000000000000 := by unfold aN at hq2; omega
   clear hc1 hc0 hcn hn
   obtain ⟨b, off, cap1, us, Q, e1, hPb, hQP, hel, hclose⟩ := hres.lens (fS DWant.ds k hlt)
   have e2 : A = some ⟨b, off, none⟩ := by injection e1
   subst e2
   clear e1
   obtain ⟨u0, us0, e0, hl0⟩ := aQ (n := 6) hel.len
   subst e0
   obtain ⟨u1, us1, e0, hl1⟩ := aQ (n := 5) hl0
   subst e0
   obtain ⟨u2, us2, e0, hl2⟩ := aQ (n := 4) hl1
   subst e0
   obtain ⟨u3, us3, e0, hl3⟩ := aQ (n := 3) hl2
   subst e0
   obtain ⟨u4, us4, e0, hl4⟩ := aQ (n := 2) hl3
   subst e0
   obtain ⟨u5, us5, e0, hl5⟩ := aQ (n := 1) hl4
   subst e0
   obtain ⟨u6, us6, e0, hl6⟩ := aQ (n := 0) hl5
   subst e0
   obtain rfl := ep hl6
   clear hl6
   have hel : El wr b (off + j * 7) 7 Q wr (DWant.ds l[j]) [u0, u1, u2, u3, u4, u5, u6] := hel
   have c0 : wr.cell? ⟨b, off + j * 7, none⟩ = some (u0) := hel.cell 0 _ rfl
   have f0 := hel.frozen (off + j * 7)
   have c1 : wr.cell? ⟨b, off + j * 7 + 1, none⟩ = some (u1) := hel.cell 1 _ rfl
   have f1 := hel.frozen (off + j * 7 + 1)
   have c2 : wr.cell? ⟨b, off + j * 7 + 2, none⟩ = some (u2) := hel.cell 2 _ rfl
   have f2 := hel.frozen (off + j * 7 + 2)
   have c3 : wr.cell? ⟨b, off + j * 7 + 3, none⟩ = some (u3) := hel.cell 3 _ rfl
   have f3 := hel.frozen (off + j * 7 + 3)
   have c4 : wr.cell? ⟨b, off + j * 7 + 4, none⟩ = some (u4) := hel.cell 4 _ rfl
   have f4 := hel.frozen (off + j * 7 + 4)
   have c5 : wr.cell? ⟨b, off + j * 7 + 5, none⟩ = some (u5) := hel.cell 5 _ rfl
   have f5 := hel.frozen (off + j * 7 + 5)
   have c6 : wr.cell? ⟨b, off + j * 7 + 6, none⟩ = some (u6) := hel.cell 6 _ rfl
   have f6 := hel.frozen (off + j * 7 + 6)
   have HC := Lib.hid hclose
   clear hclose hres h
   have hfin := HC.out _ _ _ (((((((hel.set (c := 0) (by decide) (.int .i64 (q)) rfl).set (c := 1) (by decide) (.int .i64 (q + 1)) rfl).set (c := 2) (by decide) (.int .i64 (q + 1 + 1)) rfl).set (c := 3) (by decide) (.int .i64 (q + 1 + 1 + 1)) rfl).set (c := 4) (by decide) (.int .i64 (q + 1 + 1 + 1 + 1)) rfl).set (c := 5) (by decide) (.int .i64 (q + 1 + 1 + 1 + 1 + 1)) rfl).set (c := 6) (by decide) (.int .i64 (q + 1 + 1 + 1 + 1 + 1 + 1)) rfl)
   have htt := ht.trans (((((((((hel.set (c := 0) (by decide) (.int .i64 (q)) rfl).set (c := 1) (by decide) (.int .i64 (q + 1)) rfl).set (c := 2) (by decide) (.int .i64 (q + 1 + 1)) rfl).set (c := 3) (by decide) (.int .i64 (q + 1 + 1 + 1)) rfl).set (c := 4) (by decide) (.int .i64 (q + 1 + 1 + 1 + 1)) rfl).set (c := 5) (by decide) (.int .i64 (q + 1 + 1 + 1 + 1 + 1)) rfl).set (c := 6) (by decide) (.int .i64 (q + 1 + 1 + 1 + 1 + 1 + 1)) rfl)).turn.mono (P' := P) (by rintro g (rfl | hg); exact hPb; exact hQP _ hg))
   have e1 := hq.out
   have hq' : Hid (q + 1 + 1 + 1 + 1 + 1 + 1 + 1 = k + ao aN (l.take (j + 1))) := by
    unfold Hid
    rw [aB hlt, e1]
    first | (unfold aN; omega) | omega
   have hm : bb _ P (.sl (((mkP er aN k j l).map DWant.ds).set j (DWant.ds (er q l[j])))) _ := hfin
   rw [e1, dn DWant.ds k hlt] at hm
   try rw [← e1] at hm
   clear HC hq hfin e1
   have HM := Lib.hid hm
   have HT := Lib.hid htt
   clear hm htt ht hel
   go_wp2
   exact ⟨⟨j + 1, _, by omega, by go_num, rfl, hq', HM.out, HT.out⟩, by simp [intOf]; omega⟩
  ·have e : j = l.length := by omega
   subst e
   have H : fH (k + ao aN l) P w (fun w' => bb w' P (.sl ((mkL er aN k l).map DWant.ds)) (.slice A l.length cap)) (.returned (.int .i64 q)) wr := by
    rw [et] at hres
    have e1 := hq.out
    rw [List.take_length] at e1
    exact ⟨by rw [e1], ht, hres⟩
   clear hres ht h hcn
   go_wp2
   go_ret
   exact H
theorem yD (l : (List DWant)) (k : Int) (h0 : 0 ≤ k) (hk : k + ao aN l ≤ 1000000000000) : bR av 116 (.one (.sl (l.map DWant.ds))) k (.one (.sl ((mkL er aN k l).map DWant.ds))) (k + ao aN l) := bR.of Tryz.call116 fun P w v h => yC l P w k v h h0 hk
set_option maxHeartbeats 4000000 in
theorem Ac (l : (List DGot)) (P : Nat → Prop) (w : World) (k : Int) (v : Value) (h : bb w P (.sl (l.map DGot.ds)) v) (h0 : 0 ≤ k) (hk : k + ao be l ≤ 1000000000000) :
  Calls Tryz.prog 117 #[v, .int .i64 k] w (fH (k + ao be l) P w fun w' => bb w' P (.sl ((mkL gz be k l).map DGot.ds)) v) := by
 obtain ⟨A, cap, rfl, hcl, hcm⟩ := h.form
 rw [List.length_map] at hcl h ⊢
 unfold maxLen at hcm
 have hcn := aO (cnt := be) dS l
 go_enter Tryz.func117, Tryz.ntmps117
 go_wp2
 go_loopw [1, 5] (fun c i wr => ∃ (j : Nat) (q : Int), j ≤ l.length ∧ i = .int .i64 j ∧ c = .int .i64 q ∧ Hid (q = k + ao be (l.take j)) ∧ bb wr P (.sl ((mkP gz be k j l).map DGot.ds)) (.slice A l.length cap) ∧ bN P w wr) (fun _ i _ => l.length - (intOf i).toNat)
 case atStart => exact ⟨0, k, Nat.zero_le _, rfl, rfl, by simp [Hid, ao], by rw [dp]; exact h, bN.refl _ _⟩
 case round =>
  obtain ⟨j, q, hj, rfl, rfl, hq, hres, ht⟩ := hrel
  by_cases hlt : j < l.length
  ·have hc1 := hcn (j + 1)
   rw [aB hlt] at hc1
   have hc0 : 0 ≤ ao be (l.take j) := am dS _
   have hn := dS l[j]
   have hq1 : 0 ≤ q := by have := hq.out; omega
   have hq2 : q + be l[j] ≤ 1000000000000 := by have := hq.out; omega
   have hq3 : q + 4 ≤ 1000000000000 := by unfold be at hq2; omega
   clear hc1 hc0 hcn hn
   obtain ⟨b, off, cap1, us, Q, e1, hPb, hQP, hel, hclose⟩ := hres.lens (fS DGot.ds k hlt)
   have e2 : A = some ⟨b, off, none⟩ := by injection e1
   subst e2
   clear e1
   obtain ⟨u0, us0, e0, hl0⟩ := aQ (n := 3) hel.len
   subst e0
   obtain ⟨u1, us1, e0, hl1⟩ := aQ (n := 2) hl0
   subst e0
   obtain ⟨u2, us2, e0, hl2⟩ := aQ (n := 1) hl1
   subst e0
   obtain ⟨u3, us3, e0, hl3⟩ := aQ (n := 0) hl2
   subst e0
   obtain rfl := ep hl3
   clear hl3
   have hel : El wr b (off + j * 4) 4 Q wr (DGot.ds l[j]) [u0, u1, u2, u3] := hel
   have c0 : wr.cell? ⟨b, off + j * 4, none⟩ = some (u0) := hel.cell 0 _ rfl
   have f0 := hel.frozen (off + j * 4)
   have c1 : wr.cell? ⟨b, off + j * 4 + 1, none⟩ = some (u1) := hel.cell 1 _ rfl
   have f1 := hel.frozen (off + j * 4 + 1)
   have c2 : wr.cell? ⟨b, off + j * 4 + 2, none⟩ = some (u2) := hel.cell 2 _ rfl
   have f2 := hel.frozen (off + j * 4 + 2)
   have c3 : wr.cell? ⟨b, off + j * 4 + 3, none⟩ = some (u3) := hel.cell 3 _ rfl
   have f3 := hel.frozen (off + j * 4 + 3)
   have HC := Lib.hid hclose
   clear hclose hres h
   have hfin := HC.out _ _ _ ((((hel.set (c := 0) (by decide) (.int .i64 (q)) rfl).set (c := 1) (by decide) (.int .i64 (q + 1)) rfl).set (c := 2) (by decide) (.int .i64 (q + 1 + 1)) rfl).set (c := 3) (by decide) (.int .i64 (q + 1 + 1 + 1)) rfl)
   have htt := ht.trans ((((((hel.set (c := 0) (by decide) (.int .i64 (q)) rfl).set (c := 1) (by decide) (.int .i64 (q + 1)) rfl).set (c := 2) (by decide) (.int .i64 (q + 1 + 1)) rfl).set (c := 3) (by decide) (.int .i64 (q + 1 + 1 + 1)) rfl)).turn.mono (P' := P) (by rintro g (rfl | hg); exact hPb; exact hQP _ hg))
   have e1 := hq.out
   have hq' : Hid (q + 1 + 1 + 1 + 1 = k + ao be (l.take (j + 1))) := by
    unfold Hid
    rw [aB hlt, e1]
    first | (unfold be; omega) | omega
   have hm : bb _ P (.sl (((mkP gz be k j l).map DGot.ds).set j (DGot.ds (gz q l[j])))) _ := hfin
   rw [e1, dn DGot.ds k hlt] at hm
   try rw [← e1] at hm
   clear HC hq hfin e1
   have HM := Lib.hid hm
   have HT := Lib.hid htt
   clear hm htt ht hel
   go_wp2
   exact ⟨⟨j + 1, _, by omega, by go_num, rfl, hq', HM.out, HT.out⟩, by simp [intOf]; omega⟩
  ·have e : j = l.length := by omega
   subst e
   have H : fH (k + ao be l) P w (fun w' => bb w' P (.sl ((mkL gz be k l).map DGot.ds)) (.slice A l.length cap)) (.returned (.int .i64 q)) wr := by
    rw [et] at hres
    have e1 := hq.out
    rw [List.take_length] at e1
    exact ⟨by rw [e1], ht, hres⟩
   clear hres ht h hcn
   go_wp2
   go_ret
   exact H
theorem Ad (l : (List DGot)) (k : Int) (h0 : 0 ≤ k) (hk : k + ao be l ≤ 1000000000000) : bR av 117 (.one (.sl (l.map DGot.ds))) k (.one (.sl ((mkL gz be k l).map DGot.ds))) (k + ao be l) := bR.of Tryz.call117 fun P w v h => Ac l P w k v h h0 hk
set_option maxHeartbeats 4000000 in
theorem yv (l : (List DLink)) (P : Nat → Prop) (w : World) (k : Int) (v : Value) (h : bb w P (.sl (l.map DLink.ds)) v) (h0 : 0 ≤ k) (hk : k + ao aU l ≤ 1000000000000) :
  Calls Tryz.prog 119 #[v, .int .i64 k] w (fH (k + ao aU l) P w fun w' => bb w' P (.sl ((mkL eM aU k l).map DLink.ds)) v) := by
 obtain ⟨A, cap, rfl, hcl, hcm⟩ := h.form
 rw [List.length_map] at hcl h ⊢
 unfold maxLen at hcm
 have hcn := aO (cnt := aU) de l
 go_enter Tryz.func119, Tryz.ntmps119
 go_wp2
 go_loopw [1, 5] (fun c i wr => ∃ (j : Nat) (q : Int), j ≤ l.length ∧ i = .int .i64 j ∧ c = .int .i64 q ∧ Hid (q = k + ao aU (l.take j)) ∧ bb wr P (.sl ((mkP eM aU k j l).map DLink.ds)) (.slice A l.length cap) ∧ bN P w wr) (fun _ i _ => l.length - (intOf i).toNat)
 case atStart => exact ⟨0, k, Nat.zero_le _, rfl, rfl, by simp [Hid, ao], by rw [dp]; exact h, bN.refl _ _⟩
 case round =>
  obtain ⟨j, q, hj, rfl, rfl, hq, hres, ht⟩ := hrel
  by_cases hlt : j < l.length
  ·have hc1 := hcn (j + 1)
   rw [aB hlt] at hc1
   have hc0 : 0 ≤ ao aU (l.take j) := am de _
   have hn := de l[j]
   have hq1 : 0 ≤ q := by have := hq.out; omega
   have hq2 : q + aU l[j] ≤ 1000000000000 := by have := hq.out; omega
   have hq3 : q + 2 ≤ 1000000000000 := by unfold aU at hq2; omega
   clear hc1 hc0 hcn hn
   obtain ⟨b, off, cap1, us, Q, e1, hPb, hQP, hel, hclose⟩ := hres.lens (fS DLink.ds k hlt)
   have e2 : A = some ⟨b, off, none⟩ := by injection e1
   subst e2
   clear e1
   obtain ⟨u0, us0, e0, hl0⟩ := aQ (n := 1) hel.len
   subst e0
   obtain ⟨u1, us1, e0, hl1⟩ := aQ (n := 0) hl0
   subst e0
   obtain rfl := ep hl1
   clear hl1
   have hel : El wr b (off + j * 2) 2 Q wr (DLink.ds l[j]) [u0, u1] := hel
   have c0 : wr.cell? ⟨b, off + j * 2, none⟩ = some (u0) := hel.cell 0 _ rfl
   have f0 := hel.frozen (off + j * 2)
   have c1 : wr.cell? ⟨b, off + j * 2 + 1, none⟩ = some (u1) := hel.cell 1 _ rfl
   have f1 := hel.frozen (off + j * 2 + 1)
   have HC := Lib.hid hclose
   clear hclose hres h
   have hfin := HC.out _ _ _ ((hel.set (c := 0) (by decide) (.int .i64 (q)) rfl).set (c := 1) (by decide) (.int .i64 (q + 1)) rfl)
   have htt := ht.trans ((((hel.set (c := 0) (by decide) (.int .i64 (q)) rfl).set (c := 1) (by decide) (.int .i64 (q + 1)) rfl)).turn.mono (P' := P) (by rintro g (rfl | hg); exact hPb; exact hQP _ hg))
   have e1 := hq.out
   have hq' : Hid (q + 1 + 1 = k + ao aU (l.take (j + 1))) := by
    unfold Hid
    rw [aB hlt, e1]
    first | (unfold aU; omega) | omega
   have hm : bb _ P (.sl (((mkP eM aU k j l).map DLink.ds).set j (DLink.ds (eM q l[j])))) _ := hfin
   rw [e1, dn DLink.ds k hlt] at hm
   try rw [← e1] at hm
   clear HC hq hfin e1
   have HM := Lib.hid hm
   have HT := Lib.hid htt
   clear hm htt ht hel
   go_wp2
   exact ⟨⟨j + 1, _, by omega, by go_num, rfl, hq', HM.out, HT.out⟩, by simp [intOf]; omega⟩
  ·have e : j = l.length := by omega
   subst e
   have H : fH (k + ao aU l) P w (fun w' => bb w' P (.sl ((mkL eM aU k l).map DLink.ds)) (.slice A l.length cap)) (.returned (.int .i64 q)) wr := by
    rw [et] at hres
    have e1 := hq.out
    rw [List.take_length] at e1
    exact ⟨by rw [e1], ht, hres⟩
   clear hres ht h hcn
   go_wp2
   go_ret
   exact H
theorem yw (l : (List DLink)) (k : Int) (h0 : 0 ≤ k) (hk : k + ao aU l ≤ 1000000000000) : bR av 119 (.one (.sl (l.map DLink.ds))) k (.one (.sl ((mkL eM aU k l).map DLink.ds))) (k + ao aU l) := bR.of Tryz.call119 fun P w v h => yv l P w k v h h0 hk
end Go.Proofs.YtcmknngafflcnaaGreat
