/- The laws' own to.., sz.. and held.. over steps. -/
import Derived.Test.YtlhanpkfnhnegaaDoorMarkStep
import Derived.Test.YtlhanpkfnhnegaaDoorMake
import Derived.Test.YtlhanpkfnhnegaaDoorStep
set_option linter.unusedVariables false
set_option linter.unusedSimpArgs false
set_option maxRecDepth 100000
namespace Go.Proofs.YtlhanpkfnhnegaaDoor
open Go.ChangeShapes Go.WideShapes Go.RowKit
def zeroStep : DStep := ⟨0, 0, 0, 0, []⟩
theorem zeroStep_rd (W : World) : Rep.DStep.rd W (Value.agg #[.int .i64 0, .int .i64 0, .int .i64 0, .int .i64 0, .slice none 0 0]).cells.toList zeroStep [] :=
  DStep_make (x := zeroStep) (A0 := none) (cap0 := 0) (F0 := []) (by decide) (by decide) (by decide) (by decide) ⟨none, 0, [], [], rfl, Nat.le_refl _, Nat.zero_le _, fun j hj => absurd hj (Nat.not_lt_zero _), ⟨rfl, rfl⟩, rfl⟩

set_option maxHeartbeats 1000000 in
theorem ltoStep_calls (s : DStep) (cs : List Value) (F : List Nat) (w : World) (h : Rep.DStep.rd w cs s F) (hl : s.fates.length ≤ 100000000) :
    Calls Tryd.prog 26 #[.agg cs.toArray] w (OutAgg Rep.DStep s w) := by
  obtain ⟨A0, cap0, F0, rfl, rfl, w0, w1, w2, w3, h0⟩ := DStep_open h
  clear h
  go_enter Tryd.func26, Tryd.ntmps26
  go_wp2_with fail
  refine (ltoInt64S_calls s.fates _ _ _ F _ (Rep.below_all h0 (by repeat (first | with_reducible exact Below.refl _ _ | with_reducible assumption | (with_reducible refine Below.drew ?_) | (with_reducible refine Below.alloc ?_ (by first | with_reducible exact Nat.le_refl _ | omega | (simp; done) | (simp; omega) | (simp [World.setCell]; omega) | (simp [World.setCell]; done)) _) | (with_reducible refine Below.setCell ?_ (by first | with_reducible exact Nat.le_refl _ | omega | (simp; done) | (simp; omega) | (simp [World.setCell]; omega) | (simp [World.setCell]; done)) _)))) hl).mono ?_
  rintro e W1 ⟨A, cap, F1, rfl, hrd, hfr, hb1⟩
  obtain ⟨hc, hf⟩ := bcell hb1
  have hz : w.heap.size + 1 + 1 + 1 ≤ W1.heap.size := by simpa using hb1.size
  have hres : Res (Rep.sl (Rep.int .i64)) (w.heap.size + 1 + 1 + 1) W1 _ s.fates F1 := ⟨hrd, by simpa using hfr⟩
  clear hrd hfr
  go_wp2_with fail
  refine bodyPost_agg (R := Rep.DStep) (cs := [.int .i64 s.kind, .int .i64 s.a, .int .i64 s.b, .int .i64 s.c, .slice A s.fates.length cap]) (F := F1) ?_ rfl ?_ ?_
  · simp [results, Tryd.results26, go_sem, hc, hz]
  · refine DStep_res w0 w1 w2 w3 (Res.mono (B := w.heap.size + 1 + 1 + 1) (by repeat (first | with_reducible assumption | (with_reducible refine Res.setCell_lo ?_ (by first | with_reducible exact Nat.le_refl _ | omega | (simp; done) | (simp; omega) | (simp [World.setCell]; omega) | (simp [World.setCell]; done)) _) | (with_reducible refine Res.alloc ?_ _) | (with_reducible refine Res.drew ?_))) (by omega))
  · have hb2 := Below.trans (a := w) (B := w.heap.size) (by repeat (first | with_reducible exact Below.refl _ _ | with_reducible assumption | (with_reducible refine Below.drew ?_) | (with_reducible refine Below.alloc ?_ (by first | with_reducible exact Nat.le_refl _ | omega | (simp; done) | (simp; omega) | (simp [World.setCell]; omega) | (simp [World.setCell]; done)) _) | (with_reducible refine Below.setCell ?_ (by first | with_reducible exact Nat.le_refl _ | omega | (simp; done) | (simp; omega) | (simp [World.setCell]; omega) | (simp [World.setCell]; done)) _))) (hb1.mono (by simp; omega))
    exact (by repeat (first | with_reducible exact Below.refl _ _ | with_reducible assumption | (with_reducible refine Below.drew ?_) | (with_reducible refine Below.alloc ?_ (by first | with_reducible exact Nat.le_refl _ | omega | (simp; done) | (simp; omega) | (simp [World.setCell]; omega) | (simp [World.setCell]; done)) _) | (with_reducible refine Below.setCell ?_ (by first | with_reducible exact Nat.le_refl _ | omega | (simp; done) | (simp; omega) | (simp [World.setCell]; omega) | (simp [World.setCell]; done)) _)))
set_option maxHeartbeats 1000000 in
theorem ltoStepS_calls (l : List DStep) (A : Option Addr) (n cap : Nat) (F : List Nat) (w : World) (h : (Rep.sl Rep.DStep).rd w [.slice A n cap] l F) (hl : l.length ≤ 100000000) (hf : ∀ s ∈ l, s.fates.length ≤ 100000000) :
    Calls Tryd.prog 31 #[.slice A n cap] w (OutSl Rep.DStep l w) := by
  obtain ⟨rfl, hcl, hcm, xs, F1, hr, ha, _⟩ := Rep.sl_open h
  clear h
  have hmk := fun W => run_make0 (P := Tryd.prog) 54 47 Tryd.underlying54 infoStep l.length (by decide) (by omega) W
  obtain ⟨F0, hm, hF0⟩ := made_res (R := Rep.DStep) w 47 (.agg #[.int .i64 0, .int .i64 0, .int .i64 0, .int .i64 0, .slice none 0 0]) zeroStep l.length rfl (by decide) zeroStep_rd (by omega)
  have HM := Lib.hid hm
  clear hm
  go_enter Tryd.func31, Tryd.ntmps31
  go_wp2
  go_loopw [4] (fun i wr => ∃ (j : Nat) (F : List Nat), j ≤ l.length ∧ i = .int .i64 j ∧ Res (Rep.sl Rep.DStep) w.heap.size wr [.slice (some ⟨w.heap.size, 0, none⟩) l.length l.length] (cpP zeroStep j l) F ∧ Below w.heap.size w wr) (fun i _ => l.length - (intOf i).toNat)
  case atStart => exact ⟨0, F0, Nat.zero_le _, rfl, by rw [cpP_zero]; exact HM.out, (by repeat (first | with_reducible exact Below.refl _ _ | with_reducible assumption | (with_reducible refine Below.drew ?_) | (with_reducible refine Below.alloc ?_ (by first | with_reducible exact Nat.le_refl _ | omega | (simp; done) | (simp; omega) | (simp [World.setCell]; omega) | (simp [World.setCell]; done)) _) | (with_reducible refine Below.setCell ?_ (by first | with_reducible exact Nat.le_refl _ | omega | (simp; done) | (simp; omega) | (simp [World.setCell]; omega) | (simp [World.setCell]; done)) _)))⟩
  case round =>
    obtain ⟨j, G, hj, rfl, hres, hb⟩ := hrel
    by_cases hlt : j < l.length
    · have haux := Rep.all_keep (w' := wr) ha fun b hm => hb.block b (Rep.all_lt ha b hm)
      obtain ⟨b0, off0, A0, cap0, F2, rfl, c0, c1, c2, c3, c4, w0, w1, w2, w3, h0, hF⟩ := DStep_at (hr.below hb) haux hlt
      have hst : Rep.DStep.rd wr _ l[j] F2 := DStep_make w0 w1 w2 w3 h0
      have hsf := hf l[j] (List.getElem_mem hlt)
      obtain ⟨b, off, c, Fk, hbo, hbF, hbk, hsub, hBb, hbl, hel, hcell, hfro, hclose⟩ := hres.lens_new (by decide) (k := j) (by rw [cpP_length _ (by omega)]; exact hlt)
      injection hbo with hbo
      injection hbo with hbo1 hbo2 _
      subst hbo1 hbo2
      obtain ⟨A1, cap1, F3, rfl, rfl, _, _, _, _, _⟩ := DStep_open hel.rd
      rw [show Rep.DStep.size = 5 from rfl] at hcell hclose
      have d0 := hcell 0 _ rfl
      have d1 := hcell 1 _ rfl
      have d2 := hcell 2 _ rfl
      have d3 := hcell 3 _ rfl
      have d4 := hcell 4 _ rfl
      rw [Nat.zero_add] at d0 d1 d2 d3 d4 hclose
      rw [Nat.add_zero] at d0
      have f0 := hfro (j * 5)
      have f1 := hfro (j * 5 + 1)
      have f2 := hfro (j * 5 + 2)
      have f3 := hfro (j * 5 + 3)
      have f4 := hfro (j * 5 + 4)
      have hwh : Whole wr w.heap.size := (hres.fresh.2 _ hbF).2
      have hGlt := hres.fresh.lt
      have HC := Lib.hid hclose
      clear hclose hcell hfro hel hr haux HM hres ha h0 hf
      go_wp2_with fail
      refine (ltoStep_calls l[j] _ F2 _ hst (by omega)).mono ?_
      rintro e W1 ⟨cs1, F4, rfl, hrd1, hfr1, hb1⟩
      obtain ⟨A5, cap5, F5, rfl, rfl, u0, u1, u2, u3, k0⟩ := DStep_open hrd1
      have hcw : ∀ o, W1.cell? ⟨w.heap.size, o, none⟩ = wr.cell? ⟨w.heap.size, o, none⟩ := fun o => hb1.cell (p := ⟨w.heap.size, o, none⟩) hbl
      have hfw : ∀ o, W1.frozen? ⟨w.heap.size, o, none⟩ = wr.frozen? ⟨w.heap.size, o, none⟩ := fun o => hb1.frozen (p := ⟨w.heap.size, o, none⟩) hbl
      have hbW : Below w.heap.size w W1 := hb.trans (hb1.mono hb.size)
      have g0 := (hcw _).trans d0
      have g1 := (hcw _).trans d1
      have g2 := (hcw _).trans d2
      have g3 := (hcw _).trans d3
      have g4 := (hcw _).trans d4
      have p0 := (hfw _).trans f0
      have p1 := (hfw _).trans f1
      have p2 := (hfw _).trans f2
      have p3 := (hfw _).trans f3
      have p4 := (hfw _).trans f4
      have hwh1 : Whole W1 w.heap.size := hwh.of (hb1.block _ hbl)
      have HW := Lib.hid hcw
      clear d0 d1 d2 d3 d4 f0 f1 f2 f3 f4 hwh c0 c1 c2 c3 c4 hst hfw hF hcw
      go_wp2_with fail
      have hres1 : Res Rep.DStep w.heap.size W1 [.int .i64 l[j].kind, .int .i64 l[j].a, .int .i64 l[j].b, .int .i64 l[j].c, .slice A5 l[j].fates.length cap5] l[j] F4 := ⟨hrd1, hfr1.mono hb.size⟩
      have hnb : ∀ g ∈ F4, g ≠ w.heap.size := fun g hg e => by have := (hfr1.2 g hg).1; omega
      obtain ⟨G', hc1, hG'⟩ := HC.out (setsAt w.heap.size (j * 5) W1 0 [.int .i64 l[j].kind, .int .i64 l[j].a, .int .i64 l[j].b, .int .i64 l[j].c, .slice A5 l[j].fates.length cap5]) _ l[j] F4
        (hres1.keep fun g hg => setsAt_block (hnb g hg) _ _ _) (fun g hg => .inr (hfr1.2 g hg).1)
        (by
          have hex : ∀ i, i < 5 → ∃ v, W1.cell? ⟨w.heap.size, j * 5 + 0 + i, none⟩ = some v := by
            intro i hi
            match i, hi with
            | 0, _ => exact ⟨_, g0⟩
            | 1, _ => exact ⟨_, g1⟩
            | 2, _ => exact ⟨_, g2⟩
            | 3, _ => exact ⟨_, g3⟩
            | 4, _ => exact ⟨_, g4⟩
          exact setsAt_in _ W1 0 hex)
        (fun o ho => (setsAt_out _ _ _ _ (by simp; omega)).trans (HW.out o))
        (setsAt_whole _ _ _ hwh1) (fun g hg hgb _ => (setsAt_block hgb _ _ _).trans (hb1.block g (hGlt g hg)))
      rw [cpP_set zeroStep hlt] at hc1
      have hb3 := hbW.trans (setsAt_below (b := w.heap.size) (o := j * 5) (Nat.le_refl _) [.int .i64 l[j].kind, .int .i64 l[j].a, .int .i64 l[j].b, .int .i64 l[j].c, .slice A5 l[j].fates.length cap5] W1 0)
      simp only [setsAt, Nat.add_zero, Nat.zero_add, Nat.reduceAdd] at hc1 hb3
      exact ⟨⟨j + 1, G', by omega, by go_num, hc1, hb3⟩, by simp [intOf]; omega⟩
    · have e : j = l.length := by omega
      subst e
      have H : OutSl Rep.DStep l w (.returned (.slice (some ⟨w.heap.size, 0, none⟩) l.length l.length)) wr := by
        rw [cpP_all] at hres
        exact ⟨_, _, G, rfl, hres.rd, hres.fresh, hb⟩
      clear hres hb hr HM
      go_wp2
      go_ret
      exact H

def szStepD (s : DStep) : Int := s.fates.length
theorem szStepD_nonneg (s : DStep) : 0 ≤ szStepD s := by unfold szStepD; omega
set_option maxHeartbeats 1000000 in
theorem lszStep_calls (s : DStep) (cs : List Value) (F : List Nat) (w : World) (h : Rep.DStep.rd w cs s F) (left : Int) (h0 : 0 ≤ left) (hk : left ≤ 1000000000000) :
    Calls Tryd.prog 24 #[.agg cs.toArray, .int .i64 left] w (OutSz (szStepD s) left w) := by
  obtain ⟨A0, cap0, F0, rfl, rfl, _, _, _, _, h1⟩ := DStep_open h
  obtain ⟨_, hcl, hcm, _⟩ := Rep.sl_open h1
  unfold maxLen at hcm
  clear h h1
  go_enter Tryd.func24, Tryd.ntmps24
  go_wp2_with fail
  refine (lszInt64S_calls A0 s.fates.length cap0 _ left (by omega) h0 hk).mono ?_
  rintro e W1 ⟨r, rfl, hr1, hr2, hr3, hb1⟩
  by_cases hneg : r < 0
  · go_wp2_with fail
    go_ret
    exact ⟨-1, rfl, by omega, by omega, by omega, Below.trans (by repeat (first | with_reducible exact Below.refl _ _ | with_reducible assumption | (with_reducible refine Below.drew ?_) | (with_reducible refine Below.alloc ?_ (by first | with_reducible exact Nat.le_refl _ | omega | (simp; done) | (simp; omega) | (simp [World.setCell]; omega) | (simp [World.setCell]; done)) _) | (with_reducible refine Below.setCell ?_ (by first | with_reducible exact Nat.le_refl _ | omega | (simp; done) | (simp; omega) | (simp [World.setCell]; omega) | (simp [World.setCell]; done)) _))) (hb1.mono (by simp))⟩
  · go_wp2_with fail
    go_ret
    exact ⟨r, rfl, hr1, hr2, hr3, Below.trans (by repeat (first | with_reducible exact Below.refl _ _ | with_reducible assumption | (with_reducible refine Below.drew ?_) | (with_reducible refine Below.alloc ?_ (by first | with_reducible exact Nat.le_refl _ | omega | (simp; done) | (simp; omega) | (simp [World.setCell]; omega) | (simp [World.setCell]; done)) _) | (with_reducible refine Below.setCell ?_ (by first | with_reducible exact Nat.le_refl _ | omega | (simp; done) | (simp; omega) | (simp [World.setCell]; omega) | (simp [World.setCell]; done)) _))) (hb1.mono (by simp))⟩
set_option maxHeartbeats 1000000 in
theorem lszStepS_calls (l : List DStep) (A : Option Addr) (n cap : Nat) (F : List Nat) (w : World) (h : (Rep.sl Rep.DStep).rd w [.slice A n cap] l F) (left : Int) (h0 : 0 ≤ left) (hk : left ≤ 1000000000000) :
    Calls Tryd.prog 29 #[.slice A n cap, .int .i64 left] w (OutSz (l.length + cntL szStepD l) left w) := by
  obtain ⟨rfl, hcl, hcm, xs, F1, hr, ha, _⟩ := Rep.sl_open h
  unfold maxLen at hcm
  clear h
  have hnn := cntL_nonneg szStepD_nonneg l
  by_cases hneg : left - l.length < 0
  · clear hr ha
    go_enter Tryd.func29, Tryd.ntmps29
    go_wp2
    go_ret
    exact ⟨-1, rfl, by omega, by omega, by omega, Below.refl _ _⟩
  · go_enter Tryd.func29, Tryd.ntmps29
    go_wp2
    go_loopw [1, 5] (fun c i wr => ∃ (j : Nat) (q : Int), j ≤ l.length ∧ i = .int .i64 j ∧ c = .int .i64 q ∧ 0 ≤ q ∧ Hid (q + l.length + cntL szStepD (l.take j) ≤ left) ∧ q ≤ left ∧ Below w.heap.size w wr) (fun _ i _ => l.length - (intOf i).toNat)
    case atStart => exact ⟨0, _, Nat.zero_le _, rfl, rfl, by omega, by simp [Hid, cntL], by omega, Below.refl _ _⟩
    case round =>
      obtain ⟨j, q, hj, rfl, rfl, hq0, hq, hql, hb⟩ := hrel
      by_cases hlt : j < l.length
      · have haux := Rep.all_keep (w' := wr) ha fun b hm => hb.block b (Rep.all_lt ha b hm)
        obtain ⟨b0, off0, A0, cap0, F2, rfl, c0, c1, c2, c3, c4, w0, w1, w2, w3, h0', hF⟩ := DStep_at (hr.below hb) haux hlt
        have hst : Rep.DStep.rd wr _ l[j] F2 := DStep_make w0 w1 w2 w3 h0'
        clear haux hr ha hF h0' hnn
        go_wp2_with fail
        refine (lszStep_calls l[j] _ F2 _ hst q hq0 (by omega)).mono ?_
        rintro e W1 ⟨r, rfl, hr1, hr2, hr3, hb1⟩
        have hbW := hb.trans (hb1.mono hb.size)
        clear hst c0 c1 c2 c3 c4 hb1 hb
        by_cases hrn : r < 0
        · go_wp2_with fail
          go_ret
          exact ⟨-1, rfl, by omega, by omega, by omega, hbW⟩
        · have hr4 : Hid (r + l.length + cntL szStepD (l.take (j + 1)) ≤ left) := by
            have := hq.out; have := hr1 (by omega); unfold Hid; rw [cntL_take hlt]; omega
          clear hq hr1
          go_wp2_with fail
          exact ⟨⟨j + 1, r, by omega, by go_num, rfl, by omega, hr4, by omega, hbW⟩, by simp [intOf]; omega⟩
      · have e : j = l.length := by omega
        subst e
        have H : OutSz (l.length + cntL szStepD l) left w (.returned (.int .i64 q)) wr := by
          have := hq.out
          rw [List.take_length] at this
          exact ⟨q, rfl, by omega, by omega, by omega, hb⟩
        clear hq hb hr ha hnn
        go_wp2
        go_ret
        exact H
set_option maxHeartbeats 1000000 in
theorem lheldStepS_calls (l : List DStep) (A : Option Addr) (n cap : Nat) (F : List Nat) (w : World) (k : Int) (h : (Rep.sl Rep.DStep).rd w [.slice A n cap] (mkL mkStep cntStep k l) F) (h0 : 0 ≤ k) (hk : k + cntL cntStep l ≤ 1000000000000) :
    Calls Tryd.prog 62 #[.slice A n cap, .int .i64 k] w (OutHeld (k + cntL cntStep l) w) := by
  obtain ⟨hn, hcl, hcm, xs, F1, hr, ha, _⟩ := Rep.sl_open h
  rw [mkL_length] at hn hcl
  subst hn
  unfold maxLen at hcm
  clear h
  have hcn := cntL_take_le cntStep_nonneg l
  go_enter Tryd.func62, Tryd.ntmps62
  go_wp2
  go_loopw [1, 5] (fun c i wr => ∃ (j : Nat) (q : Int), j ≤ l.length ∧ i = .int .i64 j ∧ c = .int .i64 q ∧ Hid (q = k + cntL cntStep (l.take j)) ∧ Below w.heap.size w wr) (fun _ i _ => l.length - (intOf i).toNat)
  case atStart => exact ⟨0, k, Nat.zero_le _, rfl, rfl, by simp [Hid, cntL], Below.refl _ _⟩
  case round =>
    obtain ⟨j, q, hj, rfl, rfl, hq, hb⟩ := hrel
    by_cases hlt : j < l.length
    · have hc1 := hcn (j + 1)
      rw [cntL_take hlt] at hc1
      have hc0 : 0 ≤ cntL cntStep (l.take j) := cntL_nonneg cntStep_nonneg _
      have hq1 : 0 ≤ q := by have := hq.out; omega
      have hq2 : q + cntStep l[j] ≤ 1000000000000 := by have := hq.out; omega
      have hqc : q + 4 + cntL cI l[j].fates ≤ 1000000000000 := by unfold cntStep at hq2; omega
      have hq3 : q ≤ 1000000000000 := by have := cntStep_nonneg l[j]; omega
      clear hc1 hc0 hcn
      have haux := Rep.all_keep (w' := wr) ha fun b hm => hb.block b (Rep.all_lt ha b hm)
      obtain ⟨b0, off0, A0, cap0, F2, rfl, c0, c1, c2, c3, c4, w0, w1, w2, w3, h1, hF⟩ := DStep_at (hr.below hb) haux (k := j) (by rw [mkL_length]; exact hlt)
      have e1 := mkL_get (mk := mkStep) (cnt := cntStep) l k hlt
      have e2 := hq.out
      rw [e1, ← e2] at c0 c1 c2 c3 c4 h1
      rw [show (mkStep q l[j]).fates.length = l[j].fates.length from mkL_length _ _] at c4 h1
      simp only [mkStep] at c0 c1 c2 c3 h1
      have hq' : Hid (q + 1 + 1 + 1 + 1 + cntL cI l[j].fates = k + cntL cntStep (l.take (j + 1))) := by
        unfold Hid
        rw [cntL_take hlt, e2]
        unfold cntStep
        omega
      clear haux hr ha hF e1 e2 hq w0 w1 w2 w3
      go_wp2_with fail
      refine (lheldInt64S_calls l[j].fates A0 _ cap0 F2 _ (q + 1 + 1 + 1 + 1) h1 (by omega) (by omega)).mono ?_
      rintro e W1 ⟨rfl, hb1⟩
      have hbW := hb.trans (hb1.mono hb.size)
      have hnn : 0 ≤ cntL cI l[j].fates := by rw [cntI]; omega
      clear h1 c0 c1 c2 c3 c4 hb1 hb
      go_wp2_with fail
      exact ⟨⟨j + 1, _, by omega, by go_num, rfl, hq', hbW⟩, by simp [intOf]; omega⟩
    · have e : j = l.length := by omega
      subst e
      have H : OutHeld (k + cntL cntStep l) w (.returned (.int .i64 q)) wr := by
        have e1 := hq.out
        rw [List.take_length] at e1
        exact ⟨by rw [e1], hb⟩
      clear hq hb hr ha hcn
      go_wp2
      go_ret
      exact H
end Go.Proofs.YtlhanpkfnhnegaaDoor
