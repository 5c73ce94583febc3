/- Lists of lists of numbers: the laws' eq, mark and held. -/
import Derived.Test.YtlhanpkfnhnegaaDoorToStep
set_option linter.unusedVariables false
set_option linter.unusedSimpArgs false
set_option maxRecDepth 100000
namespace Go.Proofs.YtlhanpkfnhnegaaDoor
open Go.ChangeShapes Go.WideShapes Go.RowKit
abbrev RepRow : Rep (List Int) := Rep.sl (Rep.int .i64)
def mkR (k : Int) (l : List Int) : List Int := mkL mI cI k l
def cntR (l : List Int) : Int := cntL cI l
theorem cntR_nonneg (l : List Int) : 0 ≤ cntR l := by unfold cntR; rw [cntI]; omega
theorem row_at {w : World} {A : Option Addr} {xs : List Value} {l : List (List Int)} {G : List Nat} (hr : Row w A xs) (ha : RepRow.all w xs l G) {k : Nat} (hk : k < l.length) :
    ∃ (b off : Nat) (A0 : Option Addr) (cap0 : Nat) (F0 : List Nat), A = some ⟨b, off, none⟩ ∧ w.cell? ⟨b, off + k, none⟩ = some (.slice A0 l[k].length cap0) ∧ RepRow.rd w [.slice A0 l[k].length cap0] l[k] F0 := by
  obtain ⟨b, off, cs, F, rfl, hrd, hF, hc⟩ := Rep.sl_at hr ha (by decide) hk
  obtain ⟨A0, cap0, rfl⟩ := Rep.sl_cell hrd
  have := hc 0 _ rfl
  rw [show RepRow.size = 1 from rfl, Nat.mul_one] at this
  exact ⟨b, off, A0, cap0, F, rfl, this, hrd⟩
set_option maxHeartbeats 1000000 in
theorem leqInt64SS_same (l : List (List Int)) (A A' : Option Addr) (cap cap' : Nat) (F F' : List Nat) (w : World) (h : (Rep.sl RepRow).rd w [.slice A l.length cap] l F) (h' : (Rep.sl RepRow).rd w [.slice A' l.length cap'] l F') :
    Calls Tryd.prog 39 #[.slice A l.length cap, .slice A' l.length cap'] w (OutBool true w) := by
  obtain ⟨_, hcl, hcm, xs, F1, hr, ha, _⟩ := Rep.sl_open h
  obtain ⟨_, _, _, xs', F1', hr', ha', _⟩ := Rep.sl_open h'
  clear h h'
  unfold maxLen at hcm
  go_enter Tryd.func39, Tryd.ntmps39
  go_wp2
  go_loopw [5] (fun i wr => ∃ k : Nat, k ≤ l.length ∧ i = .int .i64 k ∧ Below w.heap.size w wr) (fun i _ => l.length - (intOf i).toNat)
  case atStart => exact ⟨0, Nat.zero_le _, rfl, Below.refl _ _⟩
  case round =>
    obtain ⟨k, hk, rfl, hb⟩ := hrel
    by_cases hlt : k < l.length
    · have hx := hr.below hb
      have hx' := hr'.below hb
      have hy := Rep.all_keep (w' := wr) ha fun b hm => hb.block b (Rep.all_lt ha b hm)
      have hy' := Rep.all_keep (w' := wr) ha' fun b hm => hb.block b (Rep.all_lt ha' b hm)
      obtain ⟨b, off, A0, cap0, F0, rfl, c0, hs⟩ := row_at hx hy hlt
      obtain ⟨b', off', A0', cap0', F0', rfl, c0', hs'⟩ := row_at hx' hy' hlt
      clear hx hx' hy hy' hr hr' ha ha'
      go_wp2
      go_still_tail 8, (by kernel_rfl)
      go_wp2_with fail
      refine (leqInt64S_same l[k] _ _ _ _ F0 F0' _ (Rep.drew (R := RepRow) hs) (Rep.drew (R := RepRow) hs')).mono ?_
      rintro e W1 ⟨rfl, hb1⟩
      have hb2 : Below w.heap.size w W1 := hb.trans ((Below.refl _ _).drew.trans (hb1.mono hb.size))
      clear hb1 hb hs hs' c0 c0'
      go_wp2_with fail
      exact ⟨⟨k + 1, by omega, by go_num, hb2⟩, by simp [intOf]; omega⟩
    · go_wp2
      go_ret
      exact ⟨rfl, hb⟩
set_option maxHeartbeats 1000000 in
theorem lmarkInt64SS_calls (l : List (List Int)) (A : Option Addr) (n cap : Nat) (F : List Nat) (B : Nat) (w : World) (k : Int) (h : Res (Rep.sl RepRow) B w [.slice A n cap] l F) (h0 : 0 ≤ k) (hk : k + cntL cntR l ≤ 1000000000000) :
    Calls Tryd.prog 40 #[.slice A n cap, .int .i64 k] w (OutMark (k + cntL cntR l) (Rep.sl RepRow) B w [.slice A n cap] (mkL mkR cntR k l) F) := by
  obtain ⟨rfl, hcl, hcm, _⟩ := Rep.sl_open h.rd
  unfold maxLen at hcm
  have hcn := cntL_take_le cntR_nonneg l
  go_enter Tryd.func40, Tryd.ntmps40
  go_wp2
  go_loopw [1, 5] (fun c i wr => ∃ (j : Nat) (q : Int), j ≤ l.length ∧ i = .int .i64 j ∧ c = .int .i64 q ∧ Hid (q = k + cntL cntR (l.take j)) ∧ Res (Rep.sl RepRow) B wr [.slice A l.length cap] (mkP mkR cntR k j l) F ∧ Turned F w wr) (fun _ i _ => l.length - (intOf i).toNat)
  case atStart => exact ⟨0, k, Nat.zero_le _, rfl, rfl, by simp [Hid, cntL], by rw [mkP_zero]; exact h, Turned.refl _ _⟩
  case round =>
    obtain ⟨j, q, hj, rfl, rfl, hq, hres, ht⟩ := hrel
    by_cases hlt : j < l.length
    · have hc1 := hcn (j + 1)
      rw [cntL_take hlt] at hc1
      have hc0 : 0 ≤ cntL cntR (l.take j) := cntL_nonneg cntR_nonneg _
      have hq1 : 0 ≤ q := by have := hq.out; omega
      have hq2 : q + cntR l[j] ≤ 1000000000000 := by have := hq.out; omega
      have hqc : q + cntL cI l[j] ≤ 1000000000000 := by unfold cntR at hq2; omega
      clear hc1 hc0 hcn
      obtain ⟨b, off, c, Fk, rfl, hbF, hbk, hsub, hBb, hbl, hel, hcell, hfro, hclose⟩ := hres.lens (by decide) (k := j) (by rw [mkP_length]; exact hlt)
      rw [mkP_get k hlt] at hel
      obtain ⟨A0, cap0, rfl⟩ := Rep.sl_cell hel.rd
      rw [show RepRow.size = 1 from rfl, Nat.mul_one] at hcell hclose
      have c0 := hcell 0 _ rfl
      rw [Nat.add_zero] at c0
      have hwh : Whole wr b := (hres.fresh.2 b hbF).2
      have HC := Lib.hid hclose
      have hFlt := hres.fresh.lt
      clear hclose hcell hfro h hres
      go_wp2_with fail
      refine (lmarkInt64S_calls l[j] A0 _ cap0 Fk B _ q hel (by omega) (by omega)).mono ?_
      rintro e W1 ⟨rfl, hr1, ht1⟩
      have hbl1 := ht1.block b hbl hbk
      have hcw : ∀ o, W1.cell? ⟨b, o, none⟩ = _ := fun o => World.cell?_of_block (a := ⟨b, o, none⟩) hbl1
      have d0 := (hcw (off + j)).trans c0
      have hwh1 : Whole W1 b := Whole.of hwh hbl1
      have hrest : ∀ g ∈ F, g ≠ b → g ∉ Fk → W1.heap[g]? = wr.heap[g]? := fun g hg hgb hgk => ht1.block g (hFlt g hg) hgk
      have htt : Turned F w W1 := ht.trans (ht1.mono hsub)
      have hfin := HC.out W1 _ _ hr1 (cellsAt_cons d0 cellsAt_nil) (fun o _ => hcw o) hwh1 hrest
      have e1 := hq.out
      rw [e1] at hfin
      rw [show mkL mI cI (k + cntL cntR (l.take j)) l[j] = mkR (k + cntL cntR (l.take j)) l[j] from rfl, mkP_set k hlt] at hfin
      have hq' : Hid (q + cntL cI l[j] = k + cntL cntR (l.take (j + 1))) := by
        unfold Hid
        rw [cntL_take hlt, e1]
        unfold cntR
        omega
      clear HC hq e1 hwh1 hrest d0 hcw hbl1 hr1 ht1 ht hwh hel c0 hFlt hsub
      go_wp2_with fail
      exact ⟨⟨j + 1, _, by omega, by go_num, rfl, hq', hfin, htt⟩, by simp [intOf]; omega⟩
    · have e : j = l.length := by omega
      subst e
      have H : OutMark (k + cntL cntR l) (Rep.sl RepRow) B w [.slice A l.length cap] (mkL mkR cntR k l) F (.returned (.int .i64 q)) wr := by
        rw [mkP_all] at hres
        have e1 := hq.out
        rw [List.take_length] at e1
        exact ⟨by rw [e1], hres, ht⟩
      clear hres ht h hcn
      go_wp2
      go_ret
      exact H
set_option maxHeartbeats 1000000 in
theorem lheldInt64SS_calls (l : List (List Int)) (A : Option Addr) (n cap : Nat) (F : List Nat) (w : World) (k : Int) (h : (Rep.sl RepRow).rd w [.slice A n cap] (mkL mkR cntR k l) F) (h0 : 0 ≤ k) (hk : k + cntL cntR l ≤ 1000000000000) :
    Calls Tryd.prog 41 #[.slice A n cap, .int .i64 k] w (OutHeld (k + cntL cntR l) w) := by
  obtain ⟨hn, hcl, hcm, xs, F1, hr, ha, _⟩ := Rep.sl_open h
  rw [mkL_length] at hn hcl
  subst hn
  unfold maxLen at hcm
  clear h
  have hcn := cntL_take_le cntR_nonneg l
  go_enter Tryd.func41, Tryd.ntmps41
  go_wp2
  go_loopw [1, 5] (fun c i wr => ∃ (j : Nat) (q : Int), j ≤ l.length ∧ i = .int .i64 j ∧ c = .int .i64 q ∧ Hid (q = k + cntL cntR (l.take j)) ∧ Below w.heap.size w wr) (fun _ i _ => l.length - (intOf i).toNat)
  case atStart => exact ⟨0, k, Nat.zero_le _, rfl, rfl, by simp [Hid, cntL], Below.refl _ _⟩
  case round =>
    obtain ⟨j, q, hj, rfl, rfl, hq, hb⟩ := hrel
    by_cases hlt : j < l.length
    · have hc1 := hcn (j + 1)
      rw [cntL_take hlt] at hc1
      have hc0 : 0 ≤ cntL cntR (l.take j) := cntL_nonneg cntR_nonneg _
      have hq1 : 0 ≤ q := by have := hq.out; omega
      have hq2 : q + cntR l[j] ≤ 1000000000000 := by have := hq.out; omega
      have hqc : q + cntL cI l[j] ≤ 1000000000000 := by unfold cntR at hq2; omega
      have hq4 : 0 ≤ cntL cI l[j] := cntR_nonneg _
      clear hc1 hc0 hcn
      have haux := Rep.all_keep (w' := wr) ha fun b hm => hb.block b (Rep.all_lt ha b hm)
      obtain ⟨b0, off0, A0, cap0, F2, rfl, c0, h1⟩ := row_at (hr.below hb) haux (k := j) (by rw [mkL_length]; exact hlt)
      have e1 := mkL_get (mk := mkR) (cnt := cntR) l k hlt
      have e2 := hq.out
      rw [e1, ← e2] at c0 h1
      rw [show (mkR q l[j]).length = l[j].length from mkL_length _ _] at c0 h1
      unfold mkR at h1
      have hq' : Hid (q + cntL cI l[j] = k + cntL cntR (l.take (j + 1))) := by
        unfold Hid
        rw [cntL_take hlt, e2]
        unfold cntR
        omega
      clear haux hr ha e1 e2 hq
      go_wp2_with fail
      refine (lheldInt64S_calls l[j] A0 _ cap0 F2 _ q h1 (by omega) (by omega)).mono ?_
      rintro e W1 ⟨rfl, hb1⟩
      have hb2 : Below w.heap.size w W1 := hb.trans (hb1.mono hb.size)
      clear hb1 hb h1 c0
      go_wp2_with fail
      exact ⟨⟨j + 1, _, by omega, by go_num, rfl, hq', hb2⟩, by simp [intOf]; omega⟩
    · have e : j = l.length := by omega
      subst e
      have H : OutHeld (k + cntL cntR l) w (.returned (.int .i64 q)) wr := by
        have e1 := hq.out
        rw [List.take_length] at e1
        exact ⟨by rw [e1], hb⟩
      clear hr ha hb hcn
      go_wp2
      go_ret
      exact H
end Go.Proofs.YtlhanpkfnhnegaaDoor
