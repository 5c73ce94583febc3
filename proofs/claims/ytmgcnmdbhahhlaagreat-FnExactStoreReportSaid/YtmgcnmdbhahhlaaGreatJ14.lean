/- Joined: MkA MkC MkE -/
import Derived.Test.YtmgcnmdbhahhlaaGreatJ02
import Derived.Test.YtmgcnmdbhahhlaaGreatJ04
set_option linter.unusedVariables false
set_option linter.unusedSimpArgs false
set_option maxRecDepth 100000
namespace Go.Proofs.YtmgcnmdbhahhlaaGreat
open Go.ChangeShapes Go.WideShapes Go.RowKit

theorem cI_nn {α : Type} (a : α) : 0 ≤ (cI a : Int) := by unfold cI; omega
theorem len_cons {α : Type} {us : List α} {n : Nat} (h : us.length = n + 1) : ∃ u r, us = u :: r ∧ r.length = n := by
  cases us with
  | nil => simp at h
  | cons u r => exact ⟨u, r, rfl, by simpa using h⟩
theorem len_nil {α : Type} {us : List α} (h : us.length = 0) : us = [] := List.eq_nil_of_length_eq_zero h

def mkInt64S (k : Int) (y : (List Int)) : (List Int) := mkL mI cI k y
def cntInt64S (y : (List Int)) : Int := cntL cI y
theorem cntInt64S_nn (y : (List Int)) : 0 ≤ cntInt64S y := cntL_nonneg cI_nn y
def mkEWrite (k : Int) (x : DWrite) : DWrite := ⟨k, mkL mI cI (k + 1) x.row⟩
def cntEWrite (x : DWrite) : Int := 1 + cntL cI x.row
theorem cntEWrite_nn (x : DWrite) : 0 ≤ cntEWrite x := by
  unfold cntEWrite
  have := cntL_nonneg cI_nn x.row
  omega
def mkEMark (k : Int) (x : DMark) : DMark := ⟨k, k + 1, k + 1 + 1⟩
def cntEMark (x : DMark) : Int := 3
theorem cntEMark_nn (x : DMark) : 0 ≤ cntEMark x := by
  unfold cntEMark
  omega
def mkEEntry (k : Int) (x : DEntry) : DEntry := ⟨k, k + 1, k + 1 + 1, k + 1 + 1 + 1, ⟨k + 1 + 1 + 1 + 1, k + 1 + 1 + 1 + 1 + 1, k + 1 + 1 + 1 + 1 + 1 + 1, k + 1 + 1 + 1 + 1 + 1 + 1 + 1, k + 1 + 1 + 1 + 1 + 1 + 1 + 1 + 1⟩⟩
def cntEEntry (x : DEntry) : Int := 9
theorem cntEEntry_nn (x : DEntry) : 0 ≤ cntEEntry x := by
  unfold cntEEntry
  omega
def mkEAck (k : Int) (x : DAck) : DAck := ⟨k, k + 1, k + 1 + 1, k + 1 + 1 + 1⟩
def cntEAck (x : DAck) : Int := 4
theorem cntEAck_nn (x : DAck) : 0 ≤ cntEAck x := by
  unfold cntEAck
  omega
def mkEPair (k : Int) (x : DPair) : DPair := ⟨k, k + 1⟩
def cntEPair (x : DPair) : Int := 2
theorem cntEPair_nn (x : DPair) : 0 ≤ cntEPair x := by
  unfold cntEPair
  omega
def mkEJob (k : Int) (x : DJob) : DJob := ⟨k, k + 1, k + 1 + 1, k + 1 + 1 + 1, k + 1 + 1 + 1 + 1⟩
def cntEJob (x : DJob) : Int := 5
theorem cntEJob_nn (x : DJob) : 0 ≤ cntEJob x := by
  unfold cntEJob
  omega
def mkEDue (k : Int) (x : DDue) : DDue := ⟨k, k + 1⟩
def cntEDue (x : DDue) : Int := 2
theorem cntEDue_nn (x : DDue) : 0 ≤ cntEDue x := by
  unfold cntEDue
  omega
def mkEWant (k : Int) (x : DWant) : DWant := ⟨k, ⟨k + 1, k + 1 + 1, k + 1 + 1 + 1, k + 1 + 1 + 1 + 1, k + 1 + 1 + 1 + 1 + 1⟩, k + 1 + 1 + 1 + 1 + 1 + 1⟩
def cntEWant (x : DWant) : Int := 7
theorem cntEWant_nn (x : DWant) : 0 ≤ cntEWant x := by
  unfold cntEWant
  omega
def mkEGot (k : Int) (x : DGot) : DGot := ⟨k, k + 1, k + 1 + 1, k + 1 + 1 + 1⟩
def cntEGot (x : DGot) : Int := 4
theorem cntEGot_nn (x : DGot) : 0 ≤ cntEGot x := by
  unfold cntEGot
  omega
def mkEMsg (k : Int) (x : DMsg) : DMsg := ⟨k, k + 1, mkL mI cI (k + 1 + 1) x.row⟩
def cntEMsg (x : DMsg) : Int := 2 + cntL cI x.row
theorem cntEMsg_nn (x : DMsg) : 0 ≤ cntEMsg x := by
  unfold cntEMsg
  have := cntL_nonneg cI_nn x.row
  omega
def mkELink (k : Int) (x : DLink) : DLink := ⟨k, k + 1⟩
def cntELink (x : DLink) : Int := 2
theorem cntELink_nn (x : DLink) : 0 ≤ cntELink x := by
  unfold cntELink
  omega
end Go.Proofs.YtmgcnmdbhahhlaaGreat
namespace Go.Proofs.YtmgcnmdbhahhlaaGreat
open Go.ChangeShapes Go.WideShapes Go.RowKit


set_option maxHeartbeats 4000000 in
theorem lmarkInt64S_c (l : (List Int)) (P : Nat → Prop) (w : World) (k : Int) (v : Value) (h : RelT w P (.sl (l.map eI)) v) (h0 : 0 ≤ k) (hk : k + cntL cI l ≤ 1000000000000) :
    Calls Tryz.prog 16 #[v, .int .i64 k] w (OutM (k + cntL cI l) P w fun w' => RelT w' P (.sl ((mkL mI cI k l).map eI)) v) := by
  obtain ⟨A, cap, rfl, hcl, hcm⟩ := h.form
  rw [List.length_map] at hcl h ⊢
  unfold maxLen at hcm
  have hcn := cntL_take_le (cnt := cI) cI_nn l
  go_enter Tryz.func16, Tryz.ntmps16
  go_wp2
  go_loopw [1, 5] (fun c i wr => ∃ (j : Nat) (q : Int), j ≤ l.length ∧ i = .int .i64 j ∧ c = .int .i64 q ∧ Hid (q = k + cntL cI (l.take j)) ∧ RelT wr P (.sl ((mkP mI cI k j l).map eI)) (.slice A l.length cap) ∧ TurnP P w wr) (fun _ i _ => l.length - (intOf i).toNat)
  case atStart => exact ⟨0, k, Nat.zero_le _, rfl, rfl, by simp [Hid, cntL], by rw [mkP_zero]; exact h, TurnP.refl _ _⟩
  case round =>
    obtain ⟨j, q, hj, rfl, rfl, hq, hres, ht⟩ := hrel
    by_cases hlt : j < l.length
    · have hc1 := hcn (j + 1)
      rw [cntL_take hlt] at hc1
      have hc0 : 0 ≤ cntL cI (l.take j) := cntL_nonneg cI_nn _
      have hn := cI_nn l[j]
      have hq1 : 0 ≤ q := by have := hq.out; omega
      have hq2 : q + cI l[j] ≤ 1000000000000 := by have := hq.out; omega
      have hq3 : q + 1 ≤ 1000000000000 := hq2
      clear hc1 hc0 hcn hn
      obtain ⟨b, off, cap1, us, Q, e1, hPb, hQP, hel, hclose⟩ := hres.lens (mkP_at eI k hlt)
      have e2 : A = some ⟨b, off, none⟩ := by injection e1
      subst e2
      clear e1
      have hone : off + j * (eI l[j]).length = off + j := by show off + j * 1 = _; rw [Nat.mul_one]
      rw [hone] at hel hclose
      obtain ⟨u0, us0, e0, hl0⟩ := len_cons (n := 0) hel.len
      subst e0
      obtain rfl := len_nil hl0
      clear hl0
      have hel : El wr b (off + j) 1 Q wr (eI l[j]) [u0] := hel
      have c0 : wr.cell? ⟨b, off + j, none⟩ = some (u0) := hel.cell 0 _ rfl
      have f0 := hel.frozen (off + j)
      have HC := Lib.hid hclose
      clear hclose hres h
      have hfin := HC.out _ _ _ (hel.set (c := 0) (by decide) (.int .i64 (q)) rfl)
      have htt := ht.trans (((hel.set (c := 0) (by decide) (.int .i64 (q)) rfl)).turn.mono (P' := P) (by rintro g (rfl | hg); exact hPb; exact hQP _ hg))
      have e1 := hq.out
      have hq' : Hid (q + 1 = k + cntL cI (l.take (j + 1))) := by
        unfold Hid
        rw [cntL_take hlt, e1]
        first | (unfold cI; omega) | omega
      have hm : RelT _ P (.sl (((mkP mI cI k j l).map eI).set j (eI (mI q l[j])))) _ := hfin
      rw [e1, mkP_setE eI k hlt] at hm
      try rw [← e1] at hm
      clear HC hq hfin e1
      have HM := Lib.hid hm
      have HT := Lib.hid htt
      clear hm htt ht hel
      go_wp2
      exact ⟨⟨j + 1, _, by omega, by go_num, rfl, hq', HM.out, HT.out⟩, by simp [intOf]; omega⟩
    · have e : j = l.length := by omega
      subst e
      have H : OutM (k + cntL cI l) P w (fun w' => RelT w' P (.sl ((mkL mI cI k l).map eI)) (.slice A l.length cap)) (.returned (.int .i64 q)) wr := by
        rw [mkP_all] at hres
        have e1 := hq.out
        rw [List.take_length] at e1
        exact ⟨by rw [e1], ht, hres⟩
      clear hres ht h hcn
      go_wp2
      go_ret
      exact H
theorem lmarkInt64S_w (l : (List Int)) (k : Int) (h0 : 0 ≤ k) (hk : k + cntL cI l ≤ 1000000000000) : WCall av 16 (.one (.sl (l.map eI))) k (.one (.sl ((mkL mI cI k l).map eI))) (k + cntL cI l) := WCall.of Tryz.call16 fun P w v h => lmarkInt64S_c l P w k v h h0 hk
set_option maxHeartbeats 4000000 in
theorem lmarkInt64SS_c (l : (List (List Int))) (P : Nat → Prop) (w : World) (k : Int) (v : Value) (h : RelT w P (.sl (l.map eIIw)) v) (h0 : 0 ≤ k) (hk : k + cntL cntInt64S l ≤ 1000000000000) :
    Calls Tryz.prog 233 #[v, .int .i64 k] w (OutM (k + cntL cntInt64S l) P w fun w' => RelT w' P (.sl ((mkL mkInt64S cntInt64S k l).map eIIw)) v) := by
  obtain ⟨A, cap, rfl, hcl, hcm⟩ := h.form
  rw [List.length_map] at hcl h ⊢
  unfold maxLen at hcm
  have hcn := cntL_take_le (cnt := cntInt64S) cntInt64S_nn l
  go_enter Tryz.func233, Tryz.ntmps233
  go_wp2
  go_loopw [1, 5] (fun c i wr => ∃ (j : Nat) (q : Int), j ≤ l.length ∧ i = .int .i64 j ∧ c = .int .i64 q ∧ Hid (q = k + cntL cntInt64S (l.take j)) ∧ RelT wr P (.sl ((mkP mkInt64S cntInt64S k j l).map eIIw)) (.slice A l.length cap) ∧ TurnP P w wr) (fun _ i _ => l.length - (intOf i).toNat)
  case atStart => exact ⟨0, k, Nat.zero_le _, rfl, rfl, by simp [Hid, cntL], by rw [mkP_zero]; exact h, TurnP.refl _ _⟩
  case round =>
    obtain ⟨j, q, hj, rfl, rfl, hq, hres, ht⟩ := hrel
    by_cases hlt : j < l.length
    · have hc1 := hcn (j + 1)
      rw [cntL_take hlt] at hc1
      have hc0 : 0 ≤ cntL cntInt64S (l.take j) := cntL_nonneg cntInt64S_nn _
      have hn := cntInt64S_nn l[j]
      have hq1 : 0 ≤ q := by have := hq.out; omega
      have hq2 : q + cntInt64S l[j] ≤ 1000000000000 := by have := hq.out; omega
      have hi0 := cntL_nonneg cI_nn l[j]
      have hq3 : q + cntL cI l[j] ≤ 1000000000000 := by unfold cntInt64S at hq2; omega
      clear hc1 hc0 hcn hn
      obtain ⟨b, off, cap1, us, Q, e1, hPb, hQP, hel, hclose⟩ := hres.lens (mkP_at eIIw k hlt)
      have e2 : A = some ⟨b, off, none⟩ := by injection e1
      subst e2
      clear e1
      have hone : off + j * (eIIw l[j]).length = off + j := by show off + j * 1 = _; rw [Nat.mul_one]
      rw [hone] at hel hclose
      obtain ⟨u0, us0, e0, hl0⟩ := len_cons (n := 0) hel.len
      subst e0
      obtain rfl := len_nil hl0
      clear hl0
      have hel : El wr b (off + j) 1 Q wr (eIIw l[j]) [u0] := hel
      obtain ⟨A0, cap0, rfl, _, _⟩ := RelT.form (xs := l[j].map eI) (hel.fam.get (i := 0) rfl rfl)
      rw [List.length_map] at hel
      have c0 : wr.cell? ⟨b, off + j, none⟩ = some (.slice A0 l[j].length cap0) := hel.cell 0 _ rfl
      have f0 := hel.frozen (off + j)
      have HC := Lib.hid hclose
      clear hclose hres h
      have he0 := hel
      obtain ⟨Q0, hQ0, hr0, hcl0⟩ := he0.sub (c := 0) rfl rfl
      have HL0 := Lib.hid hcl0
      clear hcl0 hel
      go_wp2_with fail
      refine (lmarkInt64S_c l[j] Q0 _ (q) _ hr0 (by omega) (by omega)).mono ?_
      rintro e W0 ⟨rfl, t0, g0⟩
      have hf0 := HL0.out W0 _ t0 g0
      clear HL0 hr0
      have hfin := HC.out _ _ _ hf0
      have htt := ht.trans ((hf0).turn.mono (P' := P) (by rintro g (rfl | hg); exact hPb; exact hQP _ hg))
      have e1 := hq.out
      have hq' : Hid (q + cntL cI l[j] = k + cntL cntInt64S (l.take (j + 1))) := by
        unfold Hid
        rw [cntL_take hlt, e1]
        first | (unfold cntInt64S; omega) | omega
      have hm : RelT _ P (.sl (((mkP mkInt64S cntInt64S k j l).map eIIw).set j (eIIw (mkInt64S q l[j])))) _ := hfin
      rw [e1, mkP_setE eIIw k hlt] at hm
      try rw [← e1] at hm
      clear HC hq e1 hfin hf0 t0 g0 he0 c0 f0
      have HM := Lib.hid hm
      have HT := Lib.hid htt
      clear hm htt ht
      go_wp2_with fail
      exact ⟨⟨j + 1, _, by omega, by go_num, rfl, hq', HM.out, HT.out⟩, by simp [intOf]; omega⟩
    · have e : j = l.length := by omega
      subst e
      have H : OutM (k + cntL cntInt64S l) P w (fun w' => RelT w' P (.sl ((mkL mkInt64S cntInt64S k l).map eIIw)) (.slice A l.length cap)) (.returned (.int .i64 q)) wr := by
        rw [mkP_all] at hres
        have e1 := hq.out
        rw [List.take_length] at e1
        exact ⟨by rw [e1], ht, hres⟩
      clear hres ht h hcn
      go_wp2
      go_ret
      exact H
theorem lmarkInt64SS_w (l : (List (List Int))) (k : Int) (h0 : 0 ≤ k) (hk : k + cntL cntInt64S l ≤ 1000000000000) : WCall av 233 (.one (.sl (l.map eIIw))) k (.one (.sl ((mkL mkInt64S cntInt64S k l).map eIIw))) (k + cntL cntInt64S l) := WCall.of Tryz.call233 fun P w v h => lmarkInt64SS_c l P w k v h h0 hk
set_option maxHeartbeats 4000000 in
theorem lmarkWriteS_c (l : (List DWrite)) (P : Nat → Prop) (w : World) (k : Int) (v : Value) (h : RelT w P (.sl (l.map DWrite.ds)) v) (h0 : 0 ≤ k) (hk : k + cntL cntEWrite l ≤ 1000000000000) :
    Calls Tryz.prog 234 #[v, .int .i64 k] w (OutM (k + cntL cntEWrite l) P w fun w' => RelT w' P (.sl ((mkL mkEWrite cntEWrite k l).map DWrite.ds)) v) := by
  obtain ⟨A, cap, rfl, hcl, hcm⟩ := h.form
  rw [List.length_map] at hcl h ⊢
  unfold maxLen at hcm
  have hcn := cntL_take_le (cnt := cntEWrite) cntEWrite_nn l
  go_enter Tryz.func234, Tryz.ntmps234
  go_wp2
  go_loopw [1, 5] (fun c i wr => ∃ (j : Nat) (q : Int), j ≤ l.length ∧ i = .int .i64 j ∧ c = .int .i64 q ∧ Hid (q = k + cntL cntEWrite (l.take j)) ∧ RelT wr P (.sl ((mkP mkEWrite cntEWrite k j l).map DWrite.ds)) (.slice A l.length cap) ∧ TurnP P w wr) (fun _ i _ => l.length - (intOf i).toNat)
  case atStart => exact ⟨0, k, Nat.zero_le _, rfl, rfl, by simp [Hid, cntL], by rw [mkP_zero]; exact h, TurnP.refl _ _⟩
  case round =>
    obtain ⟨j, q, hj, rfl, rfl, hq, hres, ht⟩ := hrel
    by_cases hlt : j < l.length
    · have hc1 := hcn (j + 1)
      rw [cntL_take hlt] at hc1
      have hc0 : 0 ≤ cntL cntEWrite (l.take j) := cntL_nonneg cntEWrite_nn _
      have hn := cntEWrite_nn l[j]
      have hq1 : 0 ≤ q := by have := hq.out; omega
      have hq2 : q + cntEWrite l[j] ≤ 1000000000000 := by have := hq.out; omega
      have hi0 := cntL_nonneg cI_nn l[j].row
      have hq3 : q + 1 + cntL cI l[j].row ≤ 1000000000000 := by unfold cntEWrite at hq2; omega
      clear hc1 hc0 hcn hn
      obtain ⟨b, off, cap1, us, Q, e1, hPb, hQP, hel, hclose⟩ := hres.lens (mkP_at DWrite.ds k hlt)
      have e2 : A = some ⟨b, off, none⟩ := by injection e1
      subst e2
      clear e1
      obtain ⟨u0, us0, e0, hl0⟩ := len_cons (n := 1) hel.len
      subst e0
      obtain ⟨u1, us1, e0, hl1⟩ := len_cons (n := 0) hl0
      subst e0
      obtain rfl := len_nil hl1
      clear hl1
      have hel : El wr b (off + j * 2) 2 Q wr (DWrite.ds l[j]) [u0, u1] := hel
      obtain ⟨A1, cap1, rfl, _, _⟩ := RelT.form (xs := l[j].row.map eI) (hel.fam.get (i := 1) rfl rfl)
      rw [List.length_map] at hel
      have c0 : wr.cell? ⟨b, off + j * 2, none⟩ = some (u0) := hel.cell 0 _ rfl
      have f0 := hel.frozen (off + j * 2)
      have c1 : wr.cell? ⟨b, off + j * 2 + 1, none⟩ = some (.slice A1 l[j].row.length cap1) := hel.cell 1 _ rfl
      have f1 := hel.frozen (off + j * 2 + 1)
      have HC := Lib.hid hclose
      clear hclose hres h
      have he1 := (hel.set (c := 0) (by decide) (.int .i64 (q)) rfl)
      obtain ⟨Q1, hQ1, hr1, hcl1⟩ := he1.sub (c := 1) rfl rfl
      have HL1 := Lib.hid hcl1
      clear hcl1 hel
      go_wp2_with fail
      refine (lmarkInt64S_c l[j].row Q1 _ (q + 1) _ hr1 (by omega) (by omega)).mono ?_
      rintro e W1 ⟨rfl, t1, g1⟩
      have hf1 := HL1.out W1 _ t1 g1
      clear HL1 hr1
      have hfin := HC.out _ _ _ hf1
      have htt := ht.trans ((hf1).turn.mono (P' := P) (by rintro g (rfl | hg); exact hPb; exact hQP _ hg))
      have e1 := hq.out
      have hq' : Hid (q + 1 + cntL cI l[j].row = k + cntL cntEWrite (l.take (j + 1))) := by
        unfold Hid
        rw [cntL_take hlt, e1]
        first | (unfold cntEWrite; omega) | omega
      have hm : RelT _ P (.sl (((mkP mkEWrite cntEWrite k j l).map DWrite.ds).set j (DWrite.ds (mkEWrite q l[j])))) _ := hfin
      rw [e1, mkP_setE DWrite.ds k hlt] at hm
      try rw [← e1] at hm
      clear HC hq e1 hfin hf1 t1 g1 he1 c0 f0 c1 f1
      have HM := Lib.hid hm
      have HT := Lib.hid htt
      clear hm htt ht
      go_wp2_with fail
      exact ⟨⟨j + 1, _, by omega, by go_num, rfl, hq', HM.out, HT.out⟩, by simp [intOf]; omega⟩
    · have e : j = l.length := by omega
      subst e
      have H : OutM (k + cntL cntEWrite l) P w (fun w' => RelT w' P (.sl ((mkL mkEWrite cntEWrite k l).map DWrite.ds)) (.slice A l.length cap)) (.returned (.int .i64 q)) wr := by
        rw [mkP_all] at hres
        have e1 := hq.out
        rw [List.take_length] at e1
        exact ⟨by rw [e1], ht, hres⟩
      clear hres ht h hcn
      go_wp2
      go_ret
      exact H
theorem lmarkWriteS_w (l : (List DWrite)) (k : Int) (h0 : 0 ≤ k) (hk : k + cntL cntEWrite l ≤ 1000000000000) : WCall av 234 (.one (.sl (l.map DWrite.ds))) k (.one (.sl ((mkL mkEWrite cntEWrite k l).map DWrite.ds))) (k + cntL cntEWrite l) := WCall.of Tryz.call234 fun P w v h => lmarkWriteS_c l P w k v h h0 hk
set_option maxHeartbeats 4000000 in
theorem lmarkMsgS_c (l : (List DMsg)) (P : Nat → Prop) (w : World) (k : Int) (v : Value) (h : RelT w P (.sl (l.map DMsg.ds)) v) (h0 : 0 ≤ k) (hk : k + cntL cntEMsg l ≤ 1000000000000) :
    Calls Tryz.prog 161 #[v, .int .i64 k] w (OutM (k + cntL cntEMsg l) P w fun w' => RelT w' P (.sl ((mkL mkEMsg cntEMsg k l).map DMsg.ds)) v) := by
  obtain ⟨A, cap, rfl, hcl, hcm⟩ := h.form
  rw [List.length_map] at hcl h ⊢
  unfold maxLen at hcm
  have hcn := cntL_take_le (cnt := cntEMsg) cntEMsg_nn l
  go_enter Tryz.func161, Tryz.ntmps161
  go_wp2
  go_loopw [1, 5] (fun c i wr => ∃ (j : Nat) (q : Int), j ≤ l.length ∧ i = .int .i64 j ∧ c = .int .i64 q ∧ Hid (q = k + cntL cntEMsg (l.take j)) ∧ RelT wr P (.sl ((mkP mkEMsg cntEMsg k j l).map DMsg.ds)) (.slice A l.length cap) ∧ TurnP P w wr) (fun _ i _ => l.length - (intOf i).toNat)
  case atStart => exact ⟨0, k, Nat.zero_le _, rfl, rfl, by simp [Hid, cntL], by rw [mkP_zero]; exact h, TurnP.refl _ _⟩
  case round =>
    obtain ⟨j, q, hj, rfl, rfl, hq, hres, ht⟩ := hrel
    by_cases hlt : j < l.length
    · have hc1 := hcn (j + 1)
      rw [cntL_take hlt] at hc1
      have hc0 : 0 ≤ cntL cntEMsg (l.take j) := cntL_nonneg cntEMsg_nn _
      have hn := cntEMsg_nn l[j]
      have hq1 : 0 ≤ q := by have := hq.out; omega
      have hq2 : q + cntEMsg l[j] ≤ 1000000000000 := by have := hq.out; omega
      have hi0 := cntL_nonneg cI_nn l[j].row
      have hq3 : q + 2 + cntL cI l[j].row ≤ 1000000000000 := by unfold cntEMsg at hq2; omega
      clear hc1 hc0 hcn hn
      obtain ⟨b, off, cap1, us, Q, e1, hPb, hQP, hel, hclose⟩ := hres.lens (mkP_at DMsg.ds k hlt)
      have e2 : A = some ⟨b, off, none⟩ := by injection e1
      subst e2
      clear e1
      obtain ⟨u0, us0, e0, hl0⟩ := len_cons (n := 2) hel.len
      subst e0
      obtain ⟨u1, us1, e0, hl1⟩ := len_cons (n := 1) hl0
      subst e0
      obtain ⟨u2, us2, e0, hl2⟩ := len_cons (n := 0) hl1
      subst e0
      obtain rfl := len_nil hl2
      clear hl2
      have hel : El wr b (off + j * 3) 3 Q wr (DMsg.ds l[j]) [u0, u1, u2] := hel
      obtain ⟨A2, cap2, rfl, _, _⟩ := RelT.form (xs := l[j].row.map eI) (hel.fam.get (i := 2) rfl rfl)
      rw [List.length_map] at hel
      have c0 : wr.cell? ⟨b, off + j * 3, none⟩ = some (u0) := hel.cell 0 _ rfl
      have f0 := hel.frozen (off + j * 3)
      have c1 : wr.cell? ⟨b, off + j * 3 + 1, none⟩ = some (u1) := hel.cell 1 _ rfl
      have f1 := hel.frozen (off + j * 3 + 1)
      have c2 : wr.cell? ⟨b, off + j * 3 + 2, none⟩ = some (.slice A2 l[j].row.length cap2) := hel.cell 2 _ rfl
      have f2 := hel.frozen (off + j * 3 + 2)
      have HC := Lib.hid hclose
      clear hclose hres h
      have he2 := ((hel.set (c := 0) (by decide) (.int .i64 (q)) rfl).set (c := 1) (by decide) (.int .i64 (q + 1)) rfl)
      obtain ⟨Q2, hQ2, hr2, hcl2⟩ := he2.sub (c := 2) rfl rfl
      have HL2 := Lib.hid hcl2
      clear hcl2 hel
      go_wp2_with fail
      refine (lmarkInt64S_c l[j].row Q2 _ (q + 1 + 1) _ hr2 (by omega) (by omega)).mono ?_
      rintro e W2 ⟨rfl, t2, g2⟩
      have hf2 := HL2.out W2 _ t2 g2
      clear HL2 hr2
      have hfin := HC.out _ _ _ hf2
      have htt := ht.trans ((hf2).turn.mono (P' := P) (by rintro g (rfl | hg); exact hPb; exact hQP _ hg))
      have e1 := hq.out
      have hq' : Hid (q + 1 + 1 + cntL cI l[j].row = k + cntL cntEMsg (l.take (j + 1))) := by
        unfold Hid
        rw [cntL_take hlt, e1]
        first | (unfold cntEMsg; omega) | omega
      have hm : RelT _ P (.sl (((mkP mkEMsg cntEMsg k j l).map DMsg.ds).set j (DMsg.ds (mkEMsg q l[j])))) _ := hfin
      rw [e1, mkP_setE DMsg.ds k hlt] at hm
      try rw [← e1] at hm
      clear HC hq e1 hfin hf2 t2 g2 he2 c0 f0 c1 f1 c2 f2
      have HM := Lib.hid hm
      have HT := Lib.hid htt
      clear hm htt ht
      go_wp2_with fail
      exact ⟨⟨j + 1, _, by omega, by go_num, rfl, hq', HM.out, HT.out⟩, by simp [intOf]; omega⟩
    · have e : j = l.length := by omega
      subst e
      have H : OutM (k + cntL cntEMsg l) P w (fun w' => RelT w' P (.sl ((mkL mkEMsg cntEMsg k l).map DMsg.ds)) (.slice A l.length cap)) (.returned (.int .i64 q)) wr := by
        rw [mkP_all] at hres
        have e1 := hq.out
        rw [List.take_length] at e1
        exact ⟨by rw [e1], ht, hres⟩
      clear hres ht h hcn
      go_wp2
      go_ret
      exact H
theorem lmarkMsgS_w (l : (List DMsg)) (k : Int) (h0 : 0 ≤ k) (hk : k + cntL cntEMsg l ≤ 1000000000000) : WCall av 161 (.one (.sl (l.map DMsg.ds))) k (.one (.sl ((mkL mkEMsg cntEMsg k l).map DMsg.ds))) (k + cntL cntEMsg l) := WCall.of Tryz.call161 fun P w v h => lmarkMsgS_c l P w k v h h0 hk
set_option maxHeartbeats 4000000 in
theorem lmarkBoolS_c (l : (List Bool)) (P : Nat → Prop) (w : World) (k : Int) (v : Value) (h : RelT w P (.sl (l.map eB)) v) (h0 : 0 ≤ k) (hk : k + cntL cI l ≤ 1000000000000) :
    Calls Tryz.prog 61 #[v, .int .i64 k] w (OutM (k + cntL cI l) P w fun w' => RelT w' P (.sl ((mkL mB cI k l).map eB)) v) := by
  obtain ⟨A, cap, rfl, hcl, hcm⟩ := h.form
  rw [List.length_map] at hcl h ⊢
  unfold maxLen at hcm
  have hcn := cntL_take_le (cnt := cI) cI_nn l
  go_enter Tryz.func61, Tryz.ntmps61
  go_wp2
  go_loopw [1, 5] (fun c i wr => ∃ (j : Nat) (q : Int), j ≤ l.length ∧ i = .int .i64 j ∧ c = .int .i64 q ∧ Hid (q = k + cntL cI (l.take j)) ∧ RelT wr P (.sl ((mkP mB cI k j l).map eB)) (.slice A l.length cap) ∧ TurnP P w wr) (fun _ i _ => l.length - (intOf i).toNat)
  case atStart => exact ⟨0, k, Nat.zero_le _, rfl, rfl, by simp [Hid, cntL], by rw [mkP_zero]; exact h, TurnP.refl _ _⟩
  case round =>
    obtain ⟨j, q, hj, rfl, rfl, hq, hres, ht⟩ := hrel
    by_cases hlt : j < l.length
    · have hc1 := hcn (j + 1)
      rw [cntL_take hlt] at hc1
      have hc0 : 0 ≤ cntL cI (l.take j) := cntL_nonneg cI_nn _
      have hn := cI_nn l[j]
      have hq1 : 0 ≤ q := by have := hq.out; omega
      have hq2 : q + cI l[j] ≤ 1000000000000 := by have := hq.out; omega
      have hq3 : q + 1 ≤ 1000000000000 := hq2
      clear hc1 hc0 hcn hn
      obtain ⟨b, off, cap1, us, Q, e1, hPb, hQP, hel, hclose⟩ := hres.lens (mkP_at eB k hlt)
      have e2 : A = some ⟨b, off, none⟩ := by injection e1
      subst e2
      clear e1
      have hone : off + j * (eB l[j]).length = off + j := by show off + j * 1 = _; rw [Nat.mul_one]
      rw [hone] at hel hclose
      obtain ⟨u0, us0, e0, hl0⟩ := len_cons (n := 0) hel.len
      subst e0
      obtain rfl := len_nil hl0
      clear hl0
      have hel : El wr b (off + j) 1 Q wr (eB l[j]) [u0] := hel
      have c0 : wr.cell? ⟨b, off + j, none⟩ = some (u0) := hel.cell 0 _ rfl
      have f0 := hel.frozen (off + j)
      have HC := Lib.hid hclose
      clear hclose hres h
      have hfin := HC.out _ _ _ (hel.set (c := 0) (by decide) (.bool ((q) % 3 == 0)) rfl)
      have htt := ht.trans (((hel.set (c := 0) (by decide) (.bool ((q) % 3 == 0)) rfl)).turn.mono (P' := P) (by rintro g (rfl | hg); exact hPb; exact hQP _ hg))
      have e1 := hq.out
      have hq' : Hid (q + 1 = k + cntL cI (l.take (j + 1))) := by
        unfold Hid
        rw [cntL_take hlt, e1]
        first | (unfold cI; omega) | omega
      have hm : RelT _ P (.sl (((mkP mB cI k j l).map eB).set j (eB (mB q l[j])))) _ := hfin
      rw [e1, mkP_setE eB k hlt] at hm
      try rw [← e1] at hm
      clear HC hq hfin e1
      have HM := Lib.hid hm
      have HT := Lib.hid htt
      clear hm htt ht hel
      go_wp2
      exact ⟨⟨j + 1, _, by omega, by go_num, rfl, hq', HM.out, HT.out⟩, by simp [intOf]; omega⟩
    · have e : j = l.length := by omega
      subst e
      have H : OutM (k + cntL cI l) P w (fun w' => RelT w' P (.sl ((mkL mB cI k l).map eB)) (.slice A l.length cap)) (.returned (.int .i64 q)) wr := by
        rw [mkP_all] at hres
        have e1 := hq.out
        rw [List.take_length] at e1
        exact ⟨by rw [e1], ht, hres⟩
      clear hres ht h hcn
      go_wp2
      go_ret
      exact H
theorem lmarkBoolS_w (l : (List Bool)) (k : Int) (h0 : 0 ≤ k) (hk : k + cntL cI l ≤ 1000000000000) : WCall av 61 (.one (.sl (l.map eB))) k (.one (.sl ((mkL mB cI k l).map eB))) (k + cntL cI l) := WCall.of Tryz.call61 fun P w v h => lmarkBoolS_c l P w k v h h0 hk
end Go.Proofs.YtmgcnmdbhahhlaaGreat
namespace Go.Proofs.YtmgcnmdbhahhlaaGreat
open Go.ChangeShapes Go.WideShapes Go.RowKit


set_option maxHeartbeats 4000000 in
theorem lmarkMarkS_c (l : (List DMark)) (P : Nat → Prop) (w : World) (k : Int) (v : Value) (h : RelT w P (.sl (l.map DMark.ds)) v) (h0 : 0 ≤ k) (hk : k + cntL cntEMark l ≤ 1000000000000) :
    Calls Tryz.prog 154 #[v, .int .i64 k] w (OutM (k + cntL cntEMark l) P w fun w' => RelT w' P (.sl ((mkL mkEMark cntEMark k l).map DMark.ds)) v) := by
  obtain ⟨A, cap, rfl, hcl, hcm⟩ := h.form
  rw [List.length_map] at hcl h ⊢
  unfold maxLen at hcm
  have hcn := cntL_take_le (cnt := cntEMark) cntEMark_nn l
  go_enter Tryz.func154, Tryz.ntmps154
  go_wp2
  go_loopw [1, 5] (fun c i wr => ∃ (j : Nat) (q : Int), j ≤ l.length ∧ i = .int .i64 j ∧ c = .int .i64 q ∧ Hid (q = k + cntL cntEMark (l.take j)) ∧ RelT wr P (.sl ((mkP mkEMark cntEMark k j l).map DMark.ds)) (.slice A l.length cap) ∧ TurnP P w wr) (fun _ i _ => l.length - (intOf i).toNat)
  case atStart => exact ⟨0, k, Nat.zero_le _, rfl, rfl, by simp [Hid, cntL], by rw [mkP_zero]; exact h, TurnP.refl _ _⟩
  case round =>
    obtain ⟨j, q, hj, rfl, rfl, hq, hres, ht⟩ := hrel
    by_cases hlt : j < l.length
    · have hc1 := hcn (j + 1)
      rw [cntL_take hlt] at hc1
      have hc0 : 0 ≤ cntL cntEMark (l.take j) := cntL_nonneg cntEMark_nn _
      have hn := cntEMark_nn l[j]
      have hq1 : 0 ≤ q := by have := hq.out; omega
      have hq2 : q + cntEMark l[j] ≤ 1000000000000 := by have := hq.out; omega
      have hq3 : q + 3 ≤ 1000000000000 := by unfold cntEMark at hq2; omega
      clear hc1 hc0 hcn hn
      obtain ⟨b, off, cap1, us, Q, e1, hPb, hQP, hel, hclose⟩ := hres.lens (mkP_at DMark.ds k hlt)
      have e2 : A = some ⟨b, off, none⟩ := by injection e1
      subst e2
      clear e1
      obtain ⟨u0, us0, e0, hl0⟩ := len_cons (n := 2) hel.len
      subst e0
      obtain ⟨u1, us1, e0, hl1⟩ := len_cons (n := 1) hl0
      subst e0
      obtain ⟨u2, us2, e0, hl2⟩ := len_cons (n := 0) hl1
      subst e0
      obtain rfl := len_nil hl2
      clear hl2
      have hel : El wr b (off + j * 3) 3 Q wr (DMark.ds l[j]) [u0, u1, u2] := hel
      have c0 : wr.cell? ⟨b, off + j * 3, none⟩ = some (u0) := hel.cell 0 _ rfl
      have f0 := hel.frozen (off + j * 3)
      have c1 : wr.cell? ⟨b, off + j * 3 + 1, none⟩ = some (u1) := hel.cell 1 _ rfl
      have f1 := hel.frozen (off + j * 3 + 1)
      have c2 : wr.cell? ⟨b, off + j * 3 + 2, none⟩ = some (u2) := hel.cell 2 _ rfl
      have f2 := hel.frozen (off + j * 3 + 2)
      have HC := Lib.hid hclose
      clear hclose hres h
      have hfin := HC.out _ _ _ (((hel.set (c := 0) (by decide) (.int .i64 (q)) rfl).set (c := 1) (by decide) (.int .i64 (q + 1)) rfl).set (c := 2) (by decide) (.int .i64 (q + 1 + 1)) rfl)
      have htt := ht.trans (((((hel.set (c := 0) (by decide) (.int .i64 (q)) rfl).set (c := 1) (by decide) (.int .i64 (q + 1)) rfl).set (c := 2) (by decide) (.int .i64 (q + 1 + 1)) rfl)).turn.mono (P' := P) (by rintro g (rfl | hg); exact hPb; exact hQP _ hg))
      have e1 := hq.out
      have hq' : Hid (q + 1 + 1 + 1 = k + cntL cntEMark (l.take (j + 1))) := by
        unfold Hid
        rw [cntL_take hlt, e1]
        first | (unfold cntEMark; omega) | omega
      have hm : RelT _ P (.sl (((mkP mkEMark cntEMark k j l).map DMark.ds).set j (DMark.ds (mkEMark q l[j])))) _ := hfin
      rw [e1, mkP_setE DMark.ds k hlt] at hm
      try rw [← e1] at hm
      clear HC hq hfin e1
      have HM := Lib.hid hm
      have HT := Lib.hid htt
      clear hm htt ht hel
      go_wp2
      exact ⟨⟨j + 1, _, by omega, by go_num, rfl, hq', HM.out, HT.out⟩, by simp [intOf]; omega⟩
    · have e : j = l.length := by omega
      subst e
      have H : OutM (k + cntL cntEMark l) P w (fun w' => RelT w' P (.sl ((mkL mkEMark cntEMark k l).map DMark.ds)) (.slice A l.length cap)) (.returned (.int .i64 q)) wr := by
        rw [mkP_all] at hres
        have e1 := hq.out
        rw [List.take_length] at e1
        exact ⟨by rw [e1], ht, hres⟩
      clear hres ht h hcn
      go_wp2
      go_ret
      exact H
theorem lmarkMarkS_w (l : (List DMark)) (k : Int) (h0 : 0 ≤ k) (hk : k + cntL cntEMark l ≤ 1000000000000) : WCall av 154 (.one (.sl (l.map DMark.ds))) k (.one (.sl ((mkL mkEMark cntEMark k l).map DMark.ds))) (k + cntL cntEMark l) := WCall.of Tryz.call154 fun P w v h => lmarkMarkS_c l P w k v h h0 hk
set_option maxHeartbeats 4000000 in
theorem lmarkEntryS_c (l : (List DEntry)) (P : Nat → Prop) (w : World) (k : Int) (v : Value) (h : RelT w P (.sl (l.map DEntry.ds)) v) (h0 : 0 ≤ k) (hk : k + cntL cntEEntry l ≤ 1000000000000) :
    Calls Tryz.prog 232 #[v, .int .i64 k] w (OutM (k + cntL cntEEntry l) P w fun w' => RelT w' P (.sl ((mkL mkEEntry cntEEntry k l).map DEntry.ds)) v) := by
  obtain ⟨A, cap, rfl, hcl, hcm⟩ := h.form
  rw [List.length_map] at hcl h ⊢
  unfold maxLen at hcm
  have hcn := cntL_take_le (cnt := cntEEntry) cntEEntry_nn l
  go_enter Tryz.func232, Tryz.ntmps232
  go_wp2
  go_loopw [1, 5] (fun c i wr => ∃ (j : Nat) (q : Int), j ≤ l.length ∧ i = .int .i64 j ∧ c = .int .i64 q ∧ Hid (q = k + cntL cntEEntry (l.take j)) ∧ RelT wr P (.sl ((mkP mkEEntry cntEEntry k j l).map DEntry.ds)) (.slice A l.length cap) ∧ TurnP P w wr) (fun _ i _ => l.length - (intOf i).toNat)
  case atStart => exact ⟨0, k, Nat.zero_le _, rfl, rfl, by simp [Hid, cntL], by rw [mkP_zero]; exact h, TurnP.refl _ _⟩
  case round =>
    obtain ⟨j, q, hj, rfl, rfl, hq, hres, ht⟩ := hrel
    by_cases hlt : j < l.length
    · have hc1 := hcn (j + 1)
      rw [cntL_take hlt] at hc1
      have hc0 : 0 ≤ cntL cntEEntry (l.take j) := cntL_nonneg cntEEntry_nn _
      have hn := cntEEntry_nn l[j]
      have hq1 : 0 ≤ q := by have := hq.out; omega
      have hq2 : q + cntEEntry l[j] ≤ 1000000000000 := by have := hq.out; omega
      have hq3 : q + 9 ≤ 1000000000000 := by unfold cntEEntry at hq2; omega
      clear hc1 hc0 hcn hn
      obtain ⟨b, off, cap1, us, Q, e1, hPb, hQP, hel, hclose⟩ := hres.lens (mkP_at DEntry.ds k hlt)
      have e2 : A = some ⟨b, off, none⟩ := by injection e1
      subst e2
      clear e1
      obtain ⟨u0, us0, e0, hl0⟩ := len_cons (n := 8) hel.len
      subst e0
      obtain ⟨u1, us1, e0, hl1⟩ := len_cons (n := 7) hl0
      subst e0
      obtain ⟨u2, us2, e0, hl2⟩ := len_cons (n := 6) hl1
      subst e0
      obtain ⟨u3, us3, e0, hl3⟩ := len_cons (n := 5) hl2
      subst e0
      obtain ⟨u4, us4, e0, hl4⟩ := len_cons (n := 4) hl3
      subst e0
      obtain ⟨u5, us5, e0, hl5⟩ := len_cons (n := 3) hl4
      subst e0
      obtain ⟨u6, us6, e0, hl6⟩ := len_cons (n := 2) hl5
      subst e0
      obtain ⟨u7, us7, e0, hl7⟩ := len_cons (n := 1) hl6
      subst e0
      obtain ⟨u8, us8, e0, hl8⟩ := len_cons (n := 0) hl7
      subst e0
      obtain rfl := len_nil hl8
      clear hl8
      have hel : El wr b (off + j * 9) 9 Q wr (DEntry.ds l[j]) [u0, u1, u2, u3, u4, u5, u6, u7, u8] := hel
      have c0 : wr.cell? ⟨b, off + j * 9, none⟩ = some (u0) := hel.cell 0 _ rfl
      have f0 := hel.frozen (off + j * 9)
      have c1 : wr.cell? ⟨b, off + j * 9 + 1, none⟩ = some (u1) := hel.cell 1 _ rfl
      have f1 := hel.frozen (off + j * 9 + 1)
      have c2 : wr.cell? ⟨b, off + j * 9 + 2, none⟩ = some (u2) := hel.cell 2 _ rfl
      have f2 := hel.frozen (off + j * 9 + 2)
      have c3 : wr.cell? ⟨b, off + j * 9 + 3, none⟩ = some (u3) := hel.cell 3 _ rfl
      have f3 := hel.frozen (off + j * 9 + 3)
      have c4 : wr.cell? ⟨b, off + j * 9 + 4, none⟩ = some (u4) := hel.cell 4 _ rfl
      have f4 := hel.frozen (off + j * 9 + 4)
      have c5 : wr.cell? ⟨b, off + j * 9 + 5, none⟩ = some (u5) := hel.cell 5 _ rfl
      have f5 := hel.frozen (off + j * 9 + 5)
      have c6 : wr.cell? ⟨b, off + j * 9 + 6, none⟩ = some (u6) := hel.cell 6 _ rfl
      have f6 := hel.frozen (off + j * 9 + 6)
      have c7 : wr.cell? ⟨b, off + j * 9 + 7, none⟩ = some (u7) := hel.cell 7 _ rfl
      have f7 := hel.frozen (off + j * 9 + 7)
      have c8 : wr.cell? ⟨b, off + j * 9 + 8, none⟩ = some (u8) := hel.cell 8 _ rfl
      have f8 := hel.frozen (off + j * 9 + 8)
      have HC := Lib.hid hclose
      clear hclose hres h
      have hfin := HC.out _ _ _ (((((((((hel.set (c := 0) (by decide) (.int .i64 (q)) rfl).set (c := 1) (by decide) (.int .i64 (q + 1)) rfl).set (c := 2) (by decide) (.int .i64 (q + 1 + 1)) rfl).set (c := 3) (by decide) (.int .i64 (q + 1 + 1 + 1)) rfl).set (c := 4) (by decide) (.int .i64 (q + 1 + 1 + 1 + 1)) rfl).set (c := 5) (by decide) (.int .i64 (q + 1 + 1 + 1 + 1 + 1)) rfl).set (c := 6) (by decide) (.int .i64 (q + 1 + 1 + 1 + 1 + 1 + 1)) rfl).set (c := 7) (by decide) (.int .i64 (q + 1 + 1 + 1 + 1 + 1 + 1 + 1)) rfl).set (c := 8) (by decide) (.int .i64 (q + 1 + 1 + 1 + 1 + 1 + 1 + 1 + 1)) rfl)
      have htt := ht.trans (((((((((((hel.set (c := 0) (by decide) (.int .i64 (q)) rfl).set (c := 1) (by decide) (.int .i64 (q + 1)) rfl).set (c := 2) (by decide) (.int .i64 (q + 1 + 1)) rfl).set (c := 3) (by decide) (.int .i64 (q + 1 + 1 + 1)) rfl).set (c := 4) (by decide) (.int .i64 (q + 1 + 1 + 1 + 1)) rfl).set (c := 5) (by decide) (.int .i64 (q + 1 + 1 + 1 + 1 + 1)) rfl).set (c := 6) (by decide) (.int .i64 (q + 1 + 1 + 1 + 1 + 1 + 1)) rfl).set (c := 7) (by decide) (.int .i64 (q + 1 + 1 + 1 + 1 + 1 + 1 + 1)) rfl).set (c := 8) (by decide) (.int .i64 (q + 1 + 1 + 1 + 1 + 1 + 1 + 1 + 1)) rfl)).turn.mono (P' := P) (by rintro g (rfl | hg); exact hPb; exact hQP _ hg))
      have e1 := hq.out
      have hq' : Hid (q + 1 + 1 + 1 + 1 + 1 + 1 + 1 + 1 + 1 = k + cntL cntEEntry (l.take (j + 1))) := by
        unfold Hid
        rw [cntL_take hlt, e1]
        first | (unfold cntEEntry; omega) | omega
      have hm : RelT _ P (.sl (((mkP mkEEntry cntEEntry k j l).map DEntry.ds).set j (DEntry.ds (mkEEntry q l[j])))) _ := hfin
      rw [e1, mkP_setE DEntry.ds k hlt] at hm
      try rw [← e1] at hm
      clear HC hq hfin e1
      have HM := Lib.hid hm
      have HT := Lib.hid htt
      clear hm htt ht hel
      go_wp2
      exact ⟨⟨j + 1, _, by omega, by go_num, rfl, hq', HM.out, HT.out⟩, by simp [intOf]; omega⟩
    · have e : j = l.length := by omega
      subst e
      have H : OutM (k + cntL cntEEntry l) P w (fun w' => RelT w' P (.sl ((mkL mkEEntry cntEEntry k l).map DEntry.ds)) (.slice A l.length cap)) (.returned (.int .i64 q)) wr := by
        rw [mkP_all] at hres
        have e1 := hq.out
        rw [List.take_length] at e1
        exact ⟨by rw [e1], ht, hres⟩
      clear hres ht h hcn
      go_wp2
      go_ret
      exact H
theorem lmarkEntryS_w (l : (List DEntry)) (k : Int) (h0 : 0 ≤ k) (hk : k + cntL cntEEntry l ≤ 1000000000000) : WCall av 232 (.one (.sl (l.map DEntry.ds))) k (.one (.sl ((mkL mkEEntry cntEEntry k l).map DEntry.ds))) (k + cntL cntEEntry l) := WCall.of Tryz.call232 fun P w v h => lmarkEntryS_c l P w k v h h0 hk
set_option maxHeartbeats 4000000 in
theorem lmarkAckS_c (l : (List DAck)) (P : Nat → Prop) (w : World) (k : Int) (v : Value) (h : RelT w P (.sl (l.map DAck.ds)) v) (h0 : 0 ≤ k) (hk : k + cntL cntEAck l ≤ 1000000000000) :
    Calls Tryz.prog 155 #[v, .int .i64 k] w (OutM (k + cntL cntEAck l) P w fun w' => RelT w' P (.sl ((mkL mkEAck cntEAck k l).map DAck.ds)) v) := by
  obtain ⟨A, cap, rfl, hcl, hcm⟩ := h.form
  rw [List.length_map] at hcl h ⊢
  unfold maxLen at hcm
  have hcn := cntL_take_le (cnt := cntEAck) cntEAck_nn l
  go_enter Tryz.func155, Tryz.ntmps155
  go_wp2
  go_loopw [1, 5] (fun c i wr => ∃ (j : Nat) (q : Int), j ≤ l.length ∧ i = .int .i64 j ∧ c = .int .i64 q ∧ Hid (q = k + cntL cntEAck (l.take j)) ∧ RelT wr P (.sl ((mkP mkEAck cntEAck k j l).map DAck.ds)) (.slice A l.length cap) ∧ TurnP P w wr) (fun _ i _ => l.length - (intOf i).toNat)
  case atStart => exact ⟨0, k, Nat.zero_le _, rfl, rfl, by simp [Hid, cntL], by rw [mkP_zero]; exact h, TurnP.refl _ _⟩
  case round =>
    obtain ⟨j, q, hj, rfl, rfl, hq, hres, ht⟩ := hrel
    by_cases hlt : j < l.length
    · have hc1 := hcn (j + 1)
      rw [cntL_take hlt] at hc1
      have hc0 : 0 ≤ cntL cntEAck (l.take j) := cntL_nonneg cntEAck_nn _
      have hn := cntEAck_nn l[j]
      have hq1 : 0 ≤ q := by have := hq.out; omega
      have hq2 : q + cntEAck l[j] ≤ 1000000000000 := by have := hq.out; omega
      have hq3 : q + 4 ≤ 1000000000000 := by unfold cntEAck at hq2; omega
      clear hc1 hc0 hcn hn
      obtain ⟨b, off, cap1, us, Q, e1, hPb, hQP, hel, hclose⟩ := hres.lens (mkP_at DAck.ds k hlt)
      have e2 : A = some ⟨b, off, none⟩ := by injection e1
      subst e2
      clear e1
      obtain ⟨u0, us0, e0, hl0⟩ := len_cons (n := 3) hel.len
      subst e0
      obtain ⟨u1, us1, e0, hl1⟩ := len_cons (n := 2) hl0
      subst e0
      obtain ⟨u2, us2, e0, hl2⟩ := len_cons (n := 1) hl1
      subst e0
      obtain ⟨u3, us3, e0, hl3⟩ := len_cons (n := 0) hl2
      subst e0
      obtain rfl := len_nil hl3
      clear hl3
      have hel : El wr b (off + j * 4) 4 Q wr (DAck.ds l[j]) [u0, u1, u2, u3] := hel
      have c0 : wr.cell? ⟨b, off + j * 4, none⟩ = some (u0) := hel.cell 0 _ rfl
      have f0 := hel.frozen (off + j * 4)
      have c1 : wr.cell? ⟨b, off + j * 4 + 1, none⟩ = some (u1) := hel.cell 1 _ rfl
      have f1 := hel.frozen (off + j * 4 + 1)
      have c2 : wr.cell? ⟨b, off + j * 4 + 2, none⟩ = some (u2) := hel.cell 2 _ rfl
      have f2 := hel.frozen (off + j * 4 + 2)
      have c3 : wr.cell? ⟨b, off + j * 4 + 3, none⟩ = some (u3) := hel.cell 3 _ rfl
      have f3 := hel.frozen (off + j * 4 + 3)
      have HC := Lib.hid hclose
      clear hclose hres h
      have hfin := HC.out _ _ _ ((((hel.set (c := 0) (by decide) (.int .i64 (q)) rfl).set (c := 1) (by decide) (.int .i64 (q + 1)) rfl).set (c := 2) (by decide) (.int .i64 (q + 1 + 1)) rfl).set (c := 3) (by decide) (.int .i64 (q + 1 + 1 + 1)) rfl)
      have htt := ht.trans ((((((hel.set (c := 0) (by decide) (.int .i64 (q)) rfl).set (c := 1) (by decide) (.int .i64 (q + 1)) rfl).set (c := 2) (by decide) (.int .i64 (q + 1 + 1)) rfl).set (c := 3) (by decide) (.int .i64 (q + 1 + 1 + 1)) rfl)).turn.mono (P' := P) (by rintro g (rfl | hg); exact hPb; exact hQP _ hg))
      have e1 := hq.out
      have hq' : Hid (q + 1 + 1 + 1 + 1 = k + cntL cntEAck (l.take (j + 1))) := by
        unfold Hid
        rw [cntL_take hlt, e1]
        first | (unfold cntEAck; omega) | omega
      have hm : RelT _ P (.sl (((mkP mkEAck cntEAck k j l).map DAck.ds).set j (DAck.ds (mkEAck q l[j])))) _ := hfin
      rw [e1, mkP_setE DAck.ds k hlt] at hm
      try rw [← e1] at hm
      clear HC hq hfin e1
      have HM := Lib.hid hm
      have HT := Lib.hid htt
      clear hm htt ht hel
      go_wp2
      exact ⟨⟨j + 1, _, by omega, by go_num, rfl, hq', HM.out, HT.out⟩, by simp [intOf]; omega⟩
    · have e : j = l.length := by omega
      subst e
      have H : OutM (k + cntL cntEAck l) P w (fun w' => RelT w' P (.sl ((mkL mkEAck cntEAck k l).map DAck.ds)) (.slice A l.length cap)) (.returned (.int .i64 q)) wr := by
        rw [mkP_all] at hres
        have e1 := hq.out
        rw [List.take_length] at e1
        exact ⟨by rw [e1], ht, hres⟩
      clear hres ht h hcn
      go_wp2
      go_ret
      exact H
theorem lmarkAckS_w (l : (List DAck)) (k : Int) (h0 : 0 ≤ k) (hk : k + cntL cntEAck l ≤ 1000000000000) : WCall av 155 (.one (.sl (l.map DAck.ds))) k (.one (.sl ((mkL mkEAck cntEAck k l).map DAck.ds))) (k + cntL cntEAck l) := WCall.of Tryz.call155 fun P w v h => lmarkAckS_c l P w k v h h0 hk
set_option maxHeartbeats 4000000 in
theorem lmarkPairS_c (l : (List DPair)) (P : Nat → Prop) (w : World) (k : Int) (v : Value) (h : RelT w P (.sl (l.map DPair.ds)) v) (h0 : 0 ≤ k) (hk : k + cntL cntEPair l ≤ 1000000000000) :
    Calls Tryz.prog 235 #[v, .int .i64 k] w (OutM (k + cntL cntEPair l) P w fun w' => RelT w' P (.sl ((mkL mkEPair cntEPair k l).map DPair.ds)) v) := by
  obtain ⟨A, cap, rfl, hcl, hcm⟩ := h.form
  rw [List.length_map] at hcl h ⊢
  unfold maxLen at hcm
  have hcn := cntL_take_le (cnt := cntEPair) cntEPair_nn l
  go_enter Tryz.func235, Tryz.ntmps235
  go_wp2
  go_loopw [1, 5] (fun c i wr => ∃ (j : Nat) (q : Int), j ≤ l.length ∧ i = .int .i64 j ∧ c = .int .i64 q ∧ Hid (q = k + cntL cntEPair (l.take j)) ∧ RelT wr P (.sl ((mkP mkEPair cntEPair k j l).map DPair.ds)) (.slice A l.length cap) ∧ TurnP P w wr) (fun _ i _ => l.length - (intOf i).toNat)
  case atStart => exact ⟨0, k, Nat.zero_le _, rfl, rfl, by simp [Hid, cntL], by rw [mkP_zero]; exact h, TurnP.refl _ _⟩
  case round =>
    obtain ⟨j, q, hj, rfl, rfl, hq, hres, ht⟩ := hrel
    by_cases hlt : j < l.length
    · have hc1 := hcn (j + 1)
      rw [cntL_take hlt] at hc1
      have hc0 : 0 ≤ cntL cntEPair (l.take j) := cntL_nonneg cntEPair_nn _
      have hn := cntEPair_nn l[j]
      have hq1 : 0 ≤ q := by have := hq.out; omega
      have hq2 : q + cntEPair l[j] ≤ 1000000000000 := by have := hq.out; omega
      have hq3 : q + 2 ≤ 1000000000000 := by unfold cntEPair at hq2; omega
      clear hc1 hc0 hcn hn
      obtain ⟨b, off, cap1, us, Q, e1, hPb, hQP, hel, hclose⟩ := hres.lens (mkP_at DPair.ds k hlt)
      have e2 : A = some ⟨b, off, none⟩ := by injection e1
      subst e2
      clear e1
      obtain ⟨u0, us0, e0, hl0⟩ := len_cons (n := 1) hel.len
      subst e0
      obtain ⟨u1, us1, e0, hl1⟩ := len_cons (n := 0) hl0
      subst e0
      obtain rfl := len_nil hl1
      clear hl1
      have hel : El wr b (off + j * 2) 2 Q wr (DPair.ds l[j]) [u0, u1] := hel
      have c0 : wr.cell? ⟨b, off + j * 2, none⟩ = some (u0) := hel.cell 0 _ rfl
      have f0 := hel.frozen (off + j * 2)
      have c1 : wr.cell? ⟨b, off + j * 2 + 1, none⟩ = some (u1) := hel.cell 1 _ rfl
      have f1 := hel.frozen (off + j * 2 + 1)
      have HC := Lib.hid hclose
      clear hclose hres h
      have hfin := HC.out _ _ _ ((hel.set (c := 0) (by decide) (.int .i64 (q)) rfl).set (c := 1) (by decide) (.int .i64 (q + 1)) rfl)
      have htt := ht.trans ((((hel.set (c := 0) (by decide) (.int .i64 (q)) rfl).set (c := 1) (by decide) (.int .i64 (q + 1)) rfl)).turn.mono (P' := P) (by rintro g (rfl | hg); exact hPb; exact hQP _ hg))
      have e1 := hq.out
      have hq' : Hid (q + 1 + 1 = k + cntL cntEPair (l.take (j + 1))) := by
        unfold Hid
        rw [cntL_take hlt, e1]
        first | (unfold cntEPair; omega) | omega
      have hm : RelT _ P (.sl (((mkP mkEPair cntEPair k j l).map DPair.ds).set j (DPair.ds (mkEPair q l[j])))) _ := hfin
      rw [e1, mkP_setE DPair.ds k hlt] at hm
      try rw [← e1] at hm
      clear HC hq hfin e1
      have HM := Lib.hid hm
      have HT := Lib.hid htt
      clear hm htt ht hel
      go_wp2
      exact ⟨⟨j + 1, _, by omega, by go_num, rfl, hq', HM.out, HT.out⟩, by simp [intOf]; omega⟩
    · have e : j = l.length := by omega
      subst e
      have H : OutM (k + cntL cntEPair l) P w (fun w' => RelT w' P (.sl ((mkL mkEPair cntEPair k l).map DPair.ds)) (.slice A l.length cap)) (.returned (.int .i64 q)) wr := by
        rw [mkP_all] at hres
        have e1 := hq.out
        rw [List.take_length] at e1
        exact ⟨by rw [e1], ht, hres⟩
      clear hres ht h hcn
      go_wp2
      go_ret
      exact H
theorem lmarkPairS_w (l : (List DPair)) (k : Int) (h0 : 0 ≤ k) (hk : k + cntL cntEPair l ≤ 1000000000000) : WCall av 235 (.one (.sl (l.map DPair.ds))) k (.one (.sl ((mkL mkEPair cntEPair k l).map DPair.ds))) (k + cntL cntEPair l) := WCall.of Tryz.call235 fun P w v h => lmarkPairS_c l P w k v h h0 hk
set_option maxHeartbeats 4000000 in
theorem lmarkJobS_c (l : (List DJob)) (P : Nat → Prop) (w : World) (k : Int) (v : Value) (h : RelT w P (.sl (l.map DJob.ds)) v) (h0 : 0 ≤ k) (hk : k + cntL cntEJob l ≤ 1000000000000) :
    Calls Tryz.prog 236 #[v, .int .i64 k] w (OutM (k + cntL cntEJob l) P w fun w' => RelT w' P (.sl ((mkL mkEJob cntEJob k l).map DJob.ds)) v) := by
  obtain ⟨A, cap, rfl, hcl, hcm⟩ := h.form
  rw [List.length_map] at hcl h ⊢
  unfold maxLen at hcm
  have hcn := cntL_take_le (cnt := cntEJob) cntEJob_nn l
  go_enter Tryz.func236, Tryz.ntmps236
  go_wp2
  go_loopw [1, 5] (fun c i wr => ∃ (j : Nat) (q : Int), j ≤ l.length ∧ i = .int .i64 j ∧ c = .int .i64 q ∧ Hid (q = k + cntL cntEJob (l.take j)) ∧ RelT wr P (.sl ((mkP mkEJob cntEJob k j l).map DJob.ds)) (.slice A l.length cap) ∧ TurnP P w wr) (fun _ i _ => l.length - (intOf i).toNat)
  case atStart => exact ⟨0, k, Nat.zero_le _, rfl, rfl, by simp [Hid, cntL], by rw [mkP_zero]; exact h, TurnP.refl _ _⟩
  case round =>
    obtain ⟨j, q, hj, rfl, rfl, hq, hres, ht⟩ := hrel
    by_cases hlt : j < l.length
    · have hc1 := hcn (j + 1)
      rw [cntL_take hlt] at hc1
      have hc0 : 0 ≤ cntL cntEJob (l.take j) := cntL_nonneg cntEJob_nn _
      have hn := cntEJob_nn l[j]
      have hq1 : 0 ≤ q := by have := hq.out; omega
      have hq2 : q + cntEJob l[j] ≤ 1000000000000 := by have := hq.out; omega
      have hq3 : q + 5 ≤ 1000000000000 := by unfold cntEJob at hq2; omega
      clear hc1 hc0 hcn hn
      obtain ⟨b, off, cap1, us, Q, e1, hPb, hQP, hel, hclose⟩ := hres.lens (mkP_at DJob.ds k hlt)
      have e2 : A = some ⟨b, off, none⟩ := by injection e1
      subst e2
      clear e1
      obtain ⟨u0, us0, e0, hl0⟩ := len_cons (n := 4) hel.len
      subst e0
      obtain ⟨u1, us1, e0, hl1⟩ := len_cons (n := 3) hl0
      subst e0
      obtain ⟨u2, us2, e0, hl2⟩ := len_cons (n := 2) hl1
      subst e0
      obtain ⟨u3, us3, e0, hl3⟩ := len_cons (n := 1) hl2
      subst e0
      obtain ⟨u4, us4, e0, hl4⟩ := len_cons (n := 0) hl3
      subst e0
      obtain rfl := len_nil hl4
      clear hl4
      have hel : El wr b (off + j * 5) 5 Q wr (DJob.ds l[j]) [u0, u1, u2, u3, u4] := hel
      have c0 : wr.cell? ⟨b, off + j * 5, none⟩ = some (u0) := hel.cell 0 _ rfl
      have f0 := hel.frozen (off + j * 5)
      have c1 : wr.cell? ⟨b, off + j * 5 + 1, none⟩ = some (u1) := hel.cell 1 _ rfl
      have f1 := hel.frozen (off + j * 5 + 1)
      have c2 : wr.cell? ⟨b, off + j * 5 + 2, none⟩ = some (u2) := hel.cell 2 _ rfl
      have f2 := hel.frozen (off + j * 5 + 2)
      have c3 : wr.cell? ⟨b, off + j * 5 + 3, none⟩ = some (u3) := hel.cell 3 _ rfl
      have f3 := hel.frozen (off + j * 5 + 3)
      have c4 : wr.cell? ⟨b, off + j * 5 + 4, none⟩ = some (u4) := hel.cell 4 _ rfl
      have f4 := hel.frozen (off + j * 5 + 4)
      have HC := Lib.hid hclose
      clear hclose hres h
      have hfin := HC.out _ _ _ (((((hel.set (c := 0) (by decide) (.int .i64 (q)) rfl).set (c := 1) (by decide) (.int .i64 (q + 1)) rfl).set (c := 2) (by decide) (.int .i64 (q + 1 + 1)) rfl).set (c := 3) (by decide) (.int .i64 (q + 1 + 1 + 1)) rfl).set (c := 4) (by decide) (.int .i64 (q + 1 + 1 + 1 + 1)) rfl)
      have htt := ht.trans (((((((hel.set (c := 0) (by decide) (.int .i64 (q)) rfl).set (c := 1) (by decide) (.int .i64 (q + 1)) rfl).set (c := 2) (by decide) (.int .i64 (q + 1 + 1)) rfl).set (c := 3) (by decide) (.int .i64 (q + 1 + 1 + 1)) rfl).set (c := 4) (by decide) (.int .i64 (q + 1 + 1 + 1 + 1)) rfl)).turn.mono (P' := P) (by rintro g (rfl | hg); exact hPb; exact hQP _ hg))
      have e1 := hq.out
      have hq' : Hid (q + 1 + 1 + 1 + 1 + 1 = k + cntL cntEJob (l.take (j + 1))) := by
        unfold Hid
        rw [cntL_take hlt, e1]
        first | (unfold cntEJob; omega) | omega
      have hm : RelT _ P (.sl (((mkP mkEJob cntEJob k j l).map DJob.ds).set j (DJob.ds (mkEJob q l[j])))) _ := hfin
      rw [e1, mkP_setE DJob.ds k hlt] at hm
      try rw [← e1] at hm
      clear HC hq hfin e1
      have HM := Lib.hid hm
      have HT := Lib.hid htt
      clear hm htt ht hel
      go_wp2
      exact ⟨⟨j + 1, _, by omega, by go_num, rfl, hq', HM.out, HT.out⟩, by simp [intOf]; omega⟩
    · have e : j = l.length := by omega
      subst e
      have H : OutM (k + cntL cntEJob l) P w (fun w' => RelT w' P (.sl ((mkL mkEJob cntEJob k l).map DJob.ds)) (.slice A l.length cap)) (.returned (.int .i64 q)) wr := by
        rw [mkP_all] at hres
        have e1 := hq.out
        rw [List.take_length] at e1
        exact ⟨by rw [e1], ht, hres⟩
      clear hres ht h hcn
      go_wp2
      go_ret
      exact H
theorem lmarkJobS_w (l : (List DJob)) (k : Int) (h0 : 0 ≤ k) (hk : k + cntL cntEJob l ≤ 1000000000000) : WCall av 236 (.one (.sl (l.map DJob.ds))) k (.one (.sl ((mkL mkEJob cntEJob k l).map DJob.ds))) (k + cntL cntEJob l) := WCall.of Tryz.call236 fun P w v h => lmarkJobS_c l P w k v h h0 hk
set_option maxHeartbeats 4000000 in
theorem lmarkDueS_c (l : (List DDue)) (P : Nat → Prop) (w : World) (k : Int) (v : Value) (h : RelT w P (.sl (l.map DDue.ds)) v) (h0 : 0 ≤ k) (hk : k + cntL cntEDue l ≤ 1000000000000) :
    Calls Tryz.prog 294 #[v, .int .i64 k] w (OutM (k + cntL cntEDue l) P w fun w' => RelT w' P (.sl ((mkL mkEDue cntEDue k l).map DDue.ds)) v) := by
  obtain ⟨A, cap, rfl, hcl, hcm⟩ := h.form
  rw [List.length_map] at hcl h ⊢
  unfold maxLen at hcm
  have hcn := cntL_take_le (cnt := cntEDue) cntEDue_nn l
  go_enter Tryz.func294, Tryz.ntmps294
  go_wp2
  go_loopw [1, 5] (fun c i wr => ∃ (j : Nat) (q : Int), j ≤ l.length ∧ i = .int .i64 j ∧ c = .int .i64 q ∧ Hid (q = k + cntL cntEDue (l.take j)) ∧ RelT wr P (.sl ((mkP mkEDue cntEDue k j l).map DDue.ds)) (.slice A l.length cap) ∧ TurnP P w wr) (fun _ i _ => l.length - (intOf i).toNat)
  case atStart => exact ⟨0, k, Nat.zero_le _, rfl, rfl, by simp [Hid, cntL], by rw [mkP_zero]; exact h, TurnP.refl _ _⟩
  case round =>
    obtain ⟨j, q, hj, rfl, rfl, hq, hres, ht⟩ := hrel
    by_cases hlt : j < l.length
    · have hc1 := hcn (j + 1)
      rw [cntL_take hlt] at hc1
      have hc0 : 0 ≤ cntL cntEDue (l.take j) := cntL_nonneg cntEDue_nn _
      have hn := cntEDue_nn l[j]
      have hq1 : 0 ≤ q := by have := hq.out; omega
      have hq2 : q + cntEDue l[j] ≤ 1000000000000 := by have := hq.out; omega
      have hq3 : q + 2 ≤ 1000000000000 := by unfold cntEDue at hq2; omega
      clear hc1 hc0 hcn hn
      obtain ⟨b, off, cap1, us, Q, e1, hPb, hQP, hel, hclose⟩ := hres.lens (mkP_at DDue.ds k hlt)
      have e2 : A = some ⟨b, off, none⟩ := by injection e1
      subst e2
      clear e1
      obtain ⟨u0, us0, e0, hl0⟩ := len_cons (n := 1) hel.len
      subst e0
      obtain ⟨u1, us1, e0, hl1⟩ := len_cons (n := 0) hl0
      subst e0
      obtain rfl := len_nil hl1
      clear hl1
      have hel : El wr b (off + j * 2) 2 Q wr (DDue.ds l[j]) [u0, u1] := hel
      have c0 : wr.cell? ⟨b, off + j * 2, none⟩ = some (u0) := hel.cell 0 _ rfl
      have f0 := hel.frozen (off + j * 2)
      have c1 : wr.cell? ⟨b, off + j * 2 + 1, none⟩ = some (u1) := hel.cell 1 _ rfl
      have f1 := hel.frozen (off + j * 2 + 1)
      have HC := Lib.hid hclose
      clear hclose hres h
      have hfin := HC.out _ _ _ ((hel.set (c := 0) (by decide) (.int .i64 (q)) rfl).set (c := 1) (by decide) (.int .i64 (q + 1)) rfl)
      have htt := ht.trans ((((hel.set (c := 0) (by decide) (.int .i64 (q)) rfl).set (c := 1) (by decide) (.int .i64 (q + 1)) rfl)).turn.mono (P' := P) (by rintro g (rfl | hg); exact hPb; exact hQP _ hg))
      have e1 := hq.out
      have hq' : Hid (q + 1 + 1 = k + cntL cntEDue (l.take (j + 1))) := by
        unfold Hid
        rw [cntL_take hlt, e1]
        first | (unfold cntEDue; omega) | omega
      have hm : RelT _ P (.sl (((mkP mkEDue cntEDue k j l).map DDue.ds).set j (DDue.ds (mkEDue q l[j])))) _ := hfin
      rw [e1, mkP_setE DDue.ds k hlt] at hm
      try rw [← e1] at hm
      clear HC hq hfin e1
      have HM := Lib.hid hm
      have HT := Lib.hid htt
      clear hm htt ht hel
      go_wp2
      exact ⟨⟨j + 1, _, by omega, by go_num, rfl, hq', HM.out, HT.out⟩, by simp [intOf]; omega⟩
    · have e : j = l.length := by omega
      subst e
      have H : OutM (k + cntL cntEDue l) P w (fun w' => RelT w' P (.sl ((mkL mkEDue cntEDue k l).map DDue.ds)) (.slice A l.length cap)) (.returned (.int .i64 q)) wr := by
        rw [mkP_all] at hres
        have e1 := hq.out
        rw [List.take_length] at e1
        exact ⟨by rw [e1], ht, hres⟩
      clear hres ht h hcn
      go_wp2
      go_ret
      exact H
theorem lmarkDueS_w (l : (List DDue)) (k : Int) (h0 : 0 ≤ k) (hk : k + cntL cntEDue l ≤ 1000000000000) : WCall av 294 (.one (.sl (l.map DDue.ds))) k (.one (.sl ((mkL mkEDue cntEDue k l).map DDue.ds))) (k + cntL cntEDue l) := WCall.of Tryz.call294 fun P w v h => lmarkDueS_c l P w k v h h0 hk
set_option maxHeartbeats 4000000 in
theorem lmarkWantS_c (l : (List DWant)) (P : Nat → Prop) (w : World) (k : Int) (v : Value) (h : RelT w P (.sl (l.map DWant.ds)) v) (h0 : 0 ≤ k) (hk : k + cntL cntEWant l ≤ 1000000000000) :
    Calls Tryz.prog 159 #[v, .int .i64 k] w (OutM (k + cntL cntEWant l) P w fun w' => RelT w' P (.sl ((mkL mkEWant cntEWant k l).map DWant.ds)) v) := by
  obtain ⟨A, cap, rfl, hcl, hcm⟩ := h.form
  rw [List.length_map] at hcl h ⊢
  unfold maxLen at hcm
  have hcn := cntL_take_le (cnt := cntEWant) cntEWant_nn l
  go_enter Tryz.func159, Tryz.ntmps159
  go_wp2
  go_loopw [1, 5] (fun c i wr => ∃ (j : Nat) (q : Int), j ≤ l.length ∧ i = .int .i64 j ∧ c = .int .i64 q ∧ Hid (q = k + cntL cntEWant (l.take j)) ∧ RelT wr P (.sl ((mkP mkEWant cntEWant k j l).map DWant.ds)) (.slice A l.length cap) ∧ TurnP P w wr) (fun _ i _ => l.length - (intOf i).toNat)
  case atStart => exact ⟨0, k, Nat.zero_le _, rfl, rfl, by simp [Hid, cntL], by rw [mkP_zero]; exact h, TurnP.refl _ _⟩
  case round =>
    obtain ⟨j, q, hj, rfl, rfl, hq, hres, ht⟩ := hrel
    by_cases hlt : j < l.length
    · have hc1 := hcn (j + 1)
      rw [cntL_take hlt] at hc1
      have hc0 : 0 ≤ cntL cntEWant (l.take j) := cntL_nonneg cntEWant_nn _
      have hn := cntEWant_nn l[j]
      have hq1 : 0 ≤ q := by have := hq.out; omega
      have hq2 : q + cntEWant l[j] ≤ 1000000000000 := by have := hq.out; omega
      have hq3 : q + 7 ≤ 1000000000000 := by unfold cntEWant at hq2; omega
      clear hc1 hc0 hcn hn
      obtain ⟨b, off, cap1, us, Q, e1, hPb, hQP, hel, hclose⟩ := hres.lens (mkP_at DWant.ds k hlt)
      have e2 : A = some ⟨b, off, none⟩ := by injection e1
      subst e2
      clear e1
      obtain ⟨u0, us0, e0, hl0⟩ := len_cons (n := 6) hel.len
      subst e0
      obtain ⟨u1, us1, e0, hl1⟩ := len_cons (n := 5) hl0
      subst e0
      obtain ⟨u2, us2, e0, hl2⟩ := len_cons (n := 4) hl1
      subst e0
      obtain ⟨u3, us3, e0, hl3⟩ := len_cons (n := 3) hl2
      subst e0
      obtain ⟨u4, us4, e0, hl4⟩ := len_cons (n := 2) hl3
      subst e0
      obtain ⟨u5, us5, e0, hl5⟩ := len_cons (n := 1) hl4
      subst e0
      obtain ⟨u6, us6, e0, hl6⟩ := len_cons (n := 0) hl5
      subst e0
      obtain rfl := len_nil hl6
      clear hl6
      have hel : El wr b (off + j * 7) 7 Q wr (DWant.ds l[j]) [u0, u1, u2, u3, u4, u5, u6] := hel
      have c0 : wr.cell? ⟨b, off + j * 7, none⟩ = some (u0) := hel.cell 0 _ rfl
      have f0 := hel.frozen (off + j * 7)
      have c1 : wr.cell? ⟨b, off + j * 7 + 1, none⟩ = some (u1) := hel.cell 1 _ rfl
      have f1 := hel.frozen (off + j * 7 + 1)
      have c2 : wr.cell? ⟨b, off + j * 7 + 2, none⟩ = some (u2) := hel.cell 2 _ rfl
      have f2 := hel.frozen (off + j * 7 + 2)
      have c3 : wr.cell? ⟨b, off + j * 7 + 3, none⟩ = some (u3) := hel.cell 3 _ rfl
      have f3 := hel.frozen (off + j * 7 + 3)
      have c4 : wr.cell? ⟨b, off + j * 7 + 4, none⟩ = some (u4) := hel.cell 4 _ rfl
      have f4 := hel.frozen (off + j * 7 + 4)
      have c5 : wr.cell? ⟨b, off + j * 7 + 5, none⟩ = some (u5) := hel.cell 5 _ rfl
      have f5 := hel.frozen (off + j * 7 + 5)
      have c6 : wr.cell? ⟨b, off + j * 7 + 6, none⟩ = some (u6) := hel.cell 6 _ rfl
      have f6 := hel.frozen (off + j * 7 + 6)
      have HC := Lib.hid hclose
      clear hclose hres h
      have hfin := HC.out _ _ _ (((((((hel.set (c := 0) (by decide) (.int .i64 (q)) rfl).set (c := 1) (by decide) (.int .i64 (q + 1)) rfl).set (c := 2) (by decide) (.int .i64 (q + 1 + 1)) rfl).set (c := 3) (by decide) (.int .i64 (q + 1 + 1 + 1)) rfl).set (c := 4) (by decide) (.int .i64 (q + 1 + 1 + 1 + 1)) rfl).set (c := 5) (by decide) (.int .i64 (q + 1 + 1 + 1 + 1 + 1)) rfl).set (c := 6) (by decide) (.int .i64 (q + 1 + 1 + 1 + 1 + 1 + 1)) rfl)
      have htt := ht.trans (((((((((hel.set (c := 0) (by decide) (.int .i64 (q)) rfl).set (c := 1) (by decide) (.int .i64 (q + 1)) rfl).set (c := 2) (by decide) (.int .i64 (q + 1 + 1)) rfl).set (c := 3) (by decide) (.int .i64 (q + 1 + 1 + 1)) rfl).set (c := 4) (by decide) (.int .i64 (q + 1 + 1 + 1 + 1)) rfl).set (c := 5) (by decide) (.int .i64 (q + 1 + 1 + 1 + 1 + 1)) rfl).set (c := 6) (by decide) (.int .i64 (q + 1 + 1 + 1 + 1 + 1 + 1)) rfl)).turn.mono (P' := P) (by rintro g (rfl | hg); exact hPb; exact hQP _ hg))
      have e1 := hq.out
      have hq' : Hid (q + 1 + 1 + 1 + 1 + 1 + 1 + 1 = k + cntL cntEWant (l.take (j + 1))) := by
        unfold Hid
        rw [cntL_take hlt, e1]
        first | (unfold cntEWant; omega) | omega
      have hm : RelT _ P (.sl (((mkP mkEWant cntEWant k j l).map DWant.ds).set j (DWant.ds (mkEWant q l[j])))) _ := hfin
      rw [e1, mkP_setE DWant.ds k hlt] at hm
      try rw [← e1] at hm
      clear HC hq hfin e1
      have HM := Lib.hid hm
      have HT := Lib.hid htt
      clear hm htt ht hel
      go_wp2
      exact ⟨⟨j + 1, _, by omega, by go_num, rfl, hq', HM.out, HT.out⟩, by simp [intOf]; omega⟩
    · have e : j = l.length := by omega
      subst e
      have H : OutM (k + cntL cntEWant l) P w (fun w' => RelT w' P (.sl ((mkL mkEWant cntEWant k l).map DWant.ds)) (.slice A l.length cap)) (.returned (.int .i64 q)) wr := by
        rw [mkP_all] at hres
        have e1 := hq.out
        rw [List.take_length] at e1
        exact ⟨by rw [e1], ht, hres⟩
      clear hres ht h hcn
      go_wp2
      go_ret
      exact H
theorem lmarkWantS_w (l : (List DWant)) (k : Int) (h0 : 0 ≤ k) (hk : k + cntL cntEWant l ≤ 1000000000000) : WCall av 159 (.one (.sl (l.map DWant.ds))) k (.one (.sl ((mkL mkEWant cntEWant k l).map DWant.ds))) (k + cntL cntEWant l) := WCall.of Tryz.call159 fun P w v h => lmarkWantS_c l P w k v h h0 hk
set_option maxHeartbeats 4000000 in
theorem lmarkGotS_c (l : (List DGot)) (P : Nat → Prop) (w : World) (k : Int) (v : Value) (h : RelT w P (.sl (l.map DGot.ds)) v) (h0 : 0 ≤ k) (hk : k + cntL cntEGot l ≤ 1000000000000) :
    Calls Tryz.prog 160 #[v, .int .i64 k] w (OutM (k + cntL cntEGot l) P w fun w' => RelT w' P (.sl ((mkL mkEGot cntEGot k l).map DGot.ds)) v) := by
  obtain ⟨A, cap, rfl, hcl, hcm⟩ := h.form
  rw [List.length_map] at hcl h ⊢
  unfold maxLen at hcm
  have hcn := cntL_take_le (cnt := cntEGot) cntEGot_nn l
  go_enter Tryz.func160, Tryz.ntmps160
  go_wp2
  go_loopw [1, 5] (fun c i wr => ∃ (j : Nat) (q : Int), j ≤ l.length ∧ i = .int .i64 j ∧ c = .int .i64 q ∧ Hid (q = k + cntL cntEGot (l.take j)) ∧ RelT wr P (.sl ((mkP mkEGot cntEGot k j l).map DGot.ds)) (.slice A l.length cap) ∧ TurnP P w wr) (fun _ i _ => l.length - (intOf i).toNat)
  case atStart => exact ⟨0, k, Nat.zero_le _, rfl, rfl, by simp [Hid, cntL], by rw [mkP_zero]; exact h, TurnP.refl _ _⟩
  case round =>
    obtain ⟨j, q, hj, rfl, rfl, hq, hres, ht⟩ := hrel
    by_cases hlt : j < l.length
    · have hc1 := hcn (j + 1)
      rw [cntL_take hlt] at hc1
      have hc0 : 0 ≤ cntL cntEGot (l.take j) := cntL_nonneg cntEGot_nn _
      have hn := cntEGot_nn l[j]
      have hq1 : 0 ≤ q := by have := hq.out; omega
      have hq2 : q + cntEGot l[j] ≤ 1000000000000 := by have := hq.out; omega
      have hq3 : q + 4 ≤ 1000000000000 := by unfold cntEGot at hq2; omega
      clear hc1 hc0 hcn hn
      obtain ⟨b, off, cap1, us, Q, e1, hPb, hQP, hel, hclose⟩ := hres.lens (mkP_at DGot.ds k hlt)
      have e2 : A = some ⟨b, off, none⟩ := by injection e1
      subst e2
      clear e1
      obtain ⟨u0, us0, e0, hl0⟩ := len_cons (n := 3) hel.len
      subst e0
      obtain ⟨u1, us1, e0, hl1⟩ := len_cons (n := 2) hl0
      subst e0
      obtain ⟨u2, us2, e0, hl2⟩ := len_cons (n := 1) hl1
      subst e0
      obtain ⟨u3, us3, e0, hl3⟩ := len_cons (n := 0) hl2
      subst e0
      obtain rfl := len_nil hl3
      clear hl3
      have hel : El wr b (off + j * 4) 4 Q wr (DGot.ds l[j]) [u0, u1, u2, u3] := hel
      have c0 : wr.cell? ⟨b, off + j * 4, none⟩ = some (u0) := hel.cell 0 _ rfl
      have f0 := hel.frozen (off + j * 4)
      have c1 : wr.cell? ⟨b, off + j * 4 + 1, none⟩ = some (u1) := hel.cell 1 _ rfl
      have f1 := hel.frozen (off + j * 4 + 1)
      have c2 : wr.cell? ⟨b, off + j * 4 + 2, none⟩ = some (u2) := hel.cell 2 _ rfl
      have f2 := hel.frozen (off + j * 4 + 2)
      have c3 : wr.cell? ⟨b, off + j * 4 + 3, none⟩ = some (u3) := hel.cell 3 _ rfl
      have f3 := hel.frozen (off + j * 4 + 3)
      have HC := Lib.hid hclose
      clear hclose hres h
      have hfin := HC.out _ _ _ ((((hel.set (c := 0) (by decide) (.int .i64 (q)) rfl).set (c := 1) (by decide) (.int .i64 (q + 1)) rfl).set (c := 2) (by decide) (.int .i64 (q + 1 + 1)) rfl).set (c := 3) (by decide) (.int .i64 (q + 1 + 1 + 1)) rfl)
      have htt := ht.trans ((((((hel.set (c := 0) (by decide) (.int .i64 (q)) rfl).set (c := 1) (by decide) (.int .i64 (q + 1)) rfl).set (c := 2) (by decide) (.int .i64 (q + 1 + 1)) rfl).set (c := 3) (by decide) (.int .i64 (q + 1 + 1 + 1)) rfl)).turn.mono (P' := P) (by rintro g (rfl | hg); exact hPb; exact hQP _ hg))
      have e1 := hq.out
      have hq' : Hid (q + 1 + 1 + 1 + 1 = k + cntL cntEGot (l.take (j + 1))) := by
        unfold Hid
        rw [cntL_take hlt, e1]
        first | (unfold cntEGot; omega) | omega
      have hm : RelT _ P (.sl (((mkP mkEGot cntEGot k j l).map DGot.ds).set j (DGot.ds (mkEGot q l[j])))) _ := hfin
      rw [e1, mkP_setE DGot.ds k hlt] at hm
      try rw [← e1] at hm
      clear HC hq hfin e1
      have HM := Lib.hid hm
      have HT := Lib.hid htt
      clear hm htt ht hel
      go_wp2
      exact ⟨⟨j + 1, _, by omega, by go_num, rfl, hq', HM.out, HT.out⟩, by simp [intOf]; omega⟩
    · have e : j = l.length := by omega
      subst e
      have H : OutM (k + cntL cntEGot l) P w (fun w' => RelT w' P (.sl ((mkL mkEGot cntEGot k l).map DGot.ds)) (.slice A l.length cap)) (.returned (.int .i64 q)) wr := by
        rw [mkP_all] at hres
        have e1 := hq.out
        rw [List.take_length] at e1
        exact ⟨by rw [e1], ht, hres⟩
      clear hres ht h hcn
      go_wp2
      go_ret
      exact H
theorem lmarkGotS_w (l : (List DGot)) (k : Int) (h0 : 0 ≤ k) (hk : k + cntL cntEGot l ≤ 1000000000000) : WCall av 160 (.one (.sl (l.map DGot.ds))) k (.one (.sl ((mkL mkEGot cntEGot k l).map DGot.ds))) (k + cntL cntEGot l) := WCall.of Tryz.call160 fun P w v h => lmarkGotS_c l P w k v h h0 hk
set_option maxHeartbeats 4000000 in
theorem lmarkLinkS_c (l : (List DLink)) (P : Nat → Prop) (w : World) (k : Int) (v : Value) (h : RelT w P (.sl (l.map DLink.ds)) v) (h0 : 0 ≤ k) (hk : k + cntL cntELink l ≤ 1000000000000) :
    Calls Tryz.prog 162 #[v, .int .i64 k] w (OutM (k + cntL cntELink l) P w fun w' => RelT w' P (.sl ((mkL mkELink cntELink k l).map DLink.ds)) v) := by
  obtain ⟨A, cap, rfl, hcl, hcm⟩ := h.form
  rw [List.length_map] at hcl h ⊢
  unfold maxLen at hcm
  have hcn := cntL_take_le (cnt := cntELink) cntELink_nn l
  go_enter Tryz.func162, Tryz.ntmps162
  go_wp2
  go_loopw [1, 5] (fun c i wr => ∃ (j : Nat) (q : Int), j ≤ l.length ∧ i = .int .i64 j ∧ c = .int .i64 q ∧ Hid (q = k + cntL cntELink (l.take j)) ∧ RelT wr P (.sl ((mkP mkELink cntELink k j l).map DLink.ds)) (.slice A l.length cap) ∧ TurnP P w wr) (fun _ i _ => l.length - (intOf i).toNat)
  case atStart => exact ⟨0, k, Nat.zero_le _, rfl, rfl, by simp [Hid, cntL], by rw [mkP_zero]; exact h, TurnP.refl _ _⟩
  case round =>
    obtain ⟨j, q, hj, rfl, rfl, hq, hres, ht⟩ := hrel
    by_cases hlt : j < l.length
    · have hc1 := hcn (j + 1)
      rw [cntL_take hlt] at hc1
      have hc0 : 0 ≤ cntL cntELink (l.take j) := cntL_nonneg cntELink_nn _
      have hn := cntELink_nn l[j]
      have hq1 : 0 ≤ q := by have := hq.out; omega
      have hq2 : q + cntELink l[j] ≤ 1000000000000 := by have := hq.out; omega
      have hq3 : q + 2 ≤ 1000000000000 := by unfold cntELink at hq2; omega
      clear hc1 hc0 hcn hn
      obtain ⟨b, off, cap1, us, Q, e1, hPb, hQP, hel, hclose⟩ := hres.lens (mkP_at DLink.ds k hlt)
      have e2 : A = some ⟨b, off, none⟩ := by injection e1
      subst e2
      clear e1
      obtain ⟨u0, us0, e0, hl0⟩ := len_cons (n := 1) hel.len
      subst e0
      obtain ⟨u1, us1, e0, hl1⟩ := len_cons (n := 0) hl0
      subst e0
      obtain rfl := len_nil hl1
      clear hl1
      have hel : El wr b (off + j * 2) 2 Q wr (DLink.ds l[j]) [u0, u1] := hel
      have c0 : wr.cell? ⟨b, off + j * 2, none⟩ = some (u0) := hel.cell 0 _ rfl
      have f0 := hel.frozen (off + j * 2)
      have c1 : wr.cell? ⟨b, off + j * 2 + 1, none⟩ = some (u1) := hel.cell 1 _ rfl
      have f1 := hel.frozen (off + j * 2 + 1)
      have HC := Lib.hid hclose
      clear hclose hres h
      have hfin := HC.out _ _ _ ((hel.set (c := 0) (by decide) (.int .i64 (q)) rfl).set (c := 1) (by decide) (.int .i64 (q + 1)) rfl)
      have htt := ht.trans ((((hel.set (c := 0) (by decide) (.int .i64 (q)) rfl).set (c := 1) (by decide) (.int .i64 (q + 1)) rfl)).turn.mono (P' := P) (by rintro g (rfl | hg); exact hPb; exact hQP _ hg))
      have e1 := hq.out
      have hq' : Hid (q + 1 + 1 = k + cntL cntELink (l.take (j + 1))) := by
        unfold Hid
        rw [cntL_take hlt, e1]
        first | (unfold cntELink; omega) | omega
      have hm : RelT _ P (.sl (((mkP mkELink cntELink k j l).map DLink.ds).set j (DLink.ds (mkELink q l[j])))) _ := hfin
      rw [e1, mkP_setE DLink.ds k hlt] at hm
      try rw [← e1] at hm
      clear HC hq hfin e1
      have HM := Lib.hid hm
      have HT := Lib.hid htt
      clear hm htt ht hel
      go_wp2
      exact ⟨⟨j + 1, _, by omega, by go_num, rfl, hq', HM.out, HT.out⟩, by simp [intOf]; omega⟩
    · have e : j = l.length := by omega
      subst e
      have H : OutM (k + cntL cntELink l) P w (fun w' => RelT w' P (.sl ((mkL mkELink cntELink k l).map DLink.ds)) (.slice A l.length cap)) (.returned (.int .i64 q)) wr := by
        rw [mkP_all] at hres
        have e1 := hq.out
        rw [List.take_length] at e1
        exact ⟨by rw [e1], ht, hres⟩
      clear hres ht h hcn
      go_wp2
      go_ret
      exact H
theorem lmarkLinkS_w (l : (List DLink)) (k : Int) (h0 : 0 ≤ k) (hk : k + cntL cntELink l ≤ 1000000000000) : WCall av 162 (.one (.sl (l.map DLink.ds))) k (.one (.sl ((mkL mkELink cntELink k l).map DLink.ds))) (k + cntL cntELink l) := WCall.of Tryz.call162 fun P w v h => lmarkLinkS_c l P w k v h h0 hk
end Go.Proofs.YtmgcnmdbhahhlaaGreat
