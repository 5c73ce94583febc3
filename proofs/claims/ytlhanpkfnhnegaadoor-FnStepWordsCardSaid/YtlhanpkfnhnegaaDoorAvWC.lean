/- TextWant: the reference, the plain law, the law. -/
import Derived.Test.YtlhanpkfnhnegaaDoorAvWB
set_option linter.unusedVariables false
set_option linter.unusedSimpArgs false
set_option maxRecDepth 100000
namespace Go.Proofs.YtlhanpkfnhnegaaDoor
open Go.RowKit

theorem sTextWant_p (l : List UInt8) (hl : l.length ≤ 2000000) : PCall av 45 [pL l] (.tup [.agg (sTextWantL l).1.ds, .one (dB (sTextWantL l).2)]) := by
  have sp := sl1Split_p l 32 hl
  have hwl : ∀ w ∈ wordsL 32 l, w.length ≤ 2000000 := fun w h => Nat.le_trans (words_len w h) hl
  have tp := sTextOp_p l hl
  obtain ⟨w0, r, hw⟩ := wordsL_split (c := 32) (s := l)
  rw [hw] at sp hwl
  by_cases h60 : 60 < l.length
  · have e : sTextWantL l = (wantZ, false) := by unfold sTextWantL; rw [if_pos h60]
    have hlt : decide (((⟨l.toArray⟩ : ByteArray).size : Int) > 60) = true := by rw [sz_dL]; simp; omega
    rw [e]
    refine pcall_of av_ok Tryd.func45 rfl Tryd.call45 Tryd.ntmps45 (congrArg Array.toList Tryd.results45) fun S => ?_; conv => whnf
    repeat' (first | (refine AWP.seq ?_) | (refine AWP.region av_ok ?_; conv => whnf) | (refine AWP.ret ?_; conv => whnf) | (refine AWP.skip ?_; conv => whnf) | (refine AWP.exit ?_; conv => whnf) | (refine AWP.block ?_; conv => whnf) | (refine AWP.cond ?_; conv => whnf) | (refine AB.tt ?_; conv => whnf) | (refine AB.ff ?_; conv => whnf) | (refine AB.ofT (by assumption) ?_; conv => whnf) | (refine AB.ofF (by assumption) ?_; conv => whnf) | (exact trivial) | (refine And.intro rfl ?_; conv => whnf) | (refine AB.mk (fun h => ?_) (fun h => ?_) <;> (conv => whnf)) | (with_reducible_and_instances rfl) | (exact (rfl : AP.tup _ = AP.tup _)))
  · have hlt : decide (((⟨l.toArray⟩ : ByteArray).size : Int) > 60) = false := by rw [sz_dL]; simp; omega
    have key : ∀ x : DWant, sWant l = x → (wantOk x = true → wantTextL x = l → sTextWantL l = (x, true)) ∧ (¬ (wantOk x = true ∧ wantTextL x = l) → sTextWantL l = (wantZ, false)) := by
      rintro x rfl
      unfold sTextWantL
      rw [if_neg h60]
      refine ⟨fun h1 h2 => ?_, fun h => ?_⟩
      · rw [if_pos (by rw [h1, h2]; simp)]
      · rw [if_neg (by simpa using h)]
    have run : ∀ x : DWant, sWant l = x → ((w0 = readL ∧ x = ⟨4, opZ, atN (w0 :: r) 1⟩) ∨ (w0 ≠ readL ∧ x = ⟨(sTextOpL l).1.kind, (sTextOpL l).1, 0⟩)) → PCall av 45 [pL l] (.tup [.agg (sTextWantL l).1.ds, .one (dB (sTextWantL l).2)]) := by
      intro x hx hcase
      obtain ⟨k1, k2⟩ := key x hx
      rcases hcase with ⟨hr, rfl⟩ | ⟨hr, rfl⟩
      · have hr' : ((⟨w0.toArray⟩ : ByteArray).toList == (⟨readL.toArray⟩ : ByteArray).toList) = true := by rw [str_dec]; simp [hr]
        cases h2 : wantOk ⟨4, opZ, atN (w0 :: r) 1⟩ with
        | false =>
          have h2' : (!wantOk ⟨4, opZ, atN (w0 :: r) 1⟩) = true := by rw [h2]; rfl
          rw [k2 (by rw [h2]; simp)]
          refine pcall_of av_ok Tryd.func45 rfl Tryd.call45 Tryd.ntmps45 (congrArg Array.toList Tryd.results45) fun S => ?_; conv => whnf
          repeat' (first | (refine AWP.seq ?_) | (refine AWP.region av_ok ?_; conv => whnf) | (refine AWP.ret ?_; conv => whnf) | (refine AWP.skip ?_; conv => whnf) | (refine AWP.exit ?_; conv => whnf) | (refine AWP.block ?_; conv => whnf) | (refine AWP.cond ?_; conv => whnf) | (refine AB.tt ?_; conv => whnf) | (refine AB.ff ?_; conv => whnf) | (refine AB.ofT (by assumption) ?_; conv => whnf) | (refine AB.ofF (by assumption) ?_; conv => whnf) | (refine ACall.pure sp rfl ?_; conv => whnf) | (refine ACall.pure tp rfl ?_; conv => whnf) | (refine AIx.at 0 _ rfl rfl ?_; conv => whnf) | (refine ACall.pure (sl32At_p (w0 :: r) 1 hwl) rfl ?_; conv => whnf) | (refine ACall.pure (sWantOk_p ⟨4, opZ, atN (w0 :: r) 1⟩) rfl ?_; conv => whnf) | (refine ACall.pure (sWantText_p ⟨4, opZ, atN (w0 :: r) 1⟩) rfl ?_; conv => whnf) | (exact trivial) | (refine And.intro rfl ?_; conv => whnf) | (refine AB.mk (fun h => ?_) (fun h => ?_) <;> (conv => whnf)) | (with_reducible_and_instances rfl) | (exact (rfl : AP.tup _ = AP.tup _)))
        | true =>
          have h2' : (!wantOk ⟨4, opZ, atN (w0 :: r) 1⟩) = false := by rw [h2]; rfl
          by_cases h3 : wantTextL ⟨4, opZ, atN (w0 :: r) 1⟩ = l
          · have h3' : (!((⟨(wantTextL ⟨4, opZ, atN (w0 :: r) 1⟩).toArray⟩ : ByteArray).toList == (⟨l.toArray⟩ : ByteArray).toList)) = false := by rw [str_dec, decide_eq_true h3]; rfl
            rw [k1 h2 h3]
            refine pcall_of av_ok Tryd.func45 rfl Tryd.call45 Tryd.ntmps45 (congrArg Array.toList Tryd.results45) fun S => ?_; conv => whnf
            repeat' (first | (refine AWP.seq ?_) | (refine AWP.region av_ok ?_; conv => whnf) | (refine AWP.ret ?_; conv => whnf) | (refine AWP.skip ?_; conv => whnf) | (refine AWP.exit ?_; conv => whnf) | (refine AWP.block ?_; conv => whnf) | (refine AWP.cond ?_; conv => whnf) | (refine AB.tt ?_; conv => whnf) | (refine AB.ff ?_; conv => whnf) | (refine AB.ofT (by assumption) ?_; conv => whnf) | (refine AB.ofF (by assumption) ?_; conv => whnf) | (refine ACall.pure sp rfl ?_; conv => whnf) | (refine ACall.pure tp rfl ?_; conv => whnf) | (refine AIx.at 0 _ rfl rfl ?_; conv => whnf) | (refine ACall.pure (sl32At_p (w0 :: r) 1 hwl) rfl ?_; conv => whnf) | (refine ACall.pure (sWantOk_p ⟨4, opZ, atN (w0 :: r) 1⟩) rfl ?_; conv => whnf) | (refine ACall.pure (sWantText_p ⟨4, opZ, atN (w0 :: r) 1⟩) rfl ?_; conv => whnf) | (exact trivial) | (refine And.intro rfl ?_; conv => whnf) | (refine AB.mk (fun h => ?_) (fun h => ?_) <;> (conv => whnf)) | (with_reducible_and_instances rfl) | (exact (rfl : AP.tup _ = AP.tup _)))
          · have h3' : (!((⟨(wantTextL ⟨4, opZ, atN (w0 :: r) 1⟩).toArray⟩ : ByteArray).toList == (⟨l.toArray⟩ : ByteArray).toList)) = true := by rw [str_dec, decide_eq_false h3]; rfl
            rw [k2 (fun h => h3 h.2)]
            refine pcall_of av_ok Tryd.func45 rfl Tryd.call45 Tryd.ntmps45 (congrArg Array.toList Tryd.results45) fun S => ?_; conv => whnf
            repeat' (first | (refine AWP.seq ?_) | (refine AWP.region av_ok ?_; conv => whnf) | (refine AWP.ret ?_; conv => whnf) | (refine AWP.skip ?_; conv => whnf) | (refine AWP.exit ?_; conv => whnf) | (refine AWP.block ?_; conv => whnf) | (refine AWP.cond ?_; conv => whnf) | (refine AB.tt ?_; conv => whnf) | (refine AB.ff ?_; conv => whnf) | (refine AB.ofT (by assumption) ?_; conv => whnf) | (refine AB.ofF (by assumption) ?_; conv => whnf) | (refine ACall.pure sp rfl ?_; conv => whnf) | (refine ACall.pure tp rfl ?_; conv => whnf) | (refine AIx.at 0 _ rfl rfl ?_; conv => whnf) | (refine ACall.pure (sl32At_p (w0 :: r) 1 hwl) rfl ?_; conv => whnf) | (refine ACall.pure (sWantOk_p ⟨4, opZ, atN (w0 :: r) 1⟩) rfl ?_; conv => whnf) | (refine ACall.pure (sWantText_p ⟨4, opZ, atN (w0 :: r) 1⟩) rfl ?_; conv => whnf) | (exact trivial) | (refine And.intro rfl ?_; conv => whnf) | (refine AB.mk (fun h => ?_) (fun h => ?_) <;> (conv => whnf)) | (with_reducible_and_instances rfl) | (exact (rfl : AP.tup _ = AP.tup _)))
      · have hr' : ((⟨w0.toArray⟩ : ByteArray).toList == (⟨readL.toArray⟩ : ByteArray).toList) = false := by rw [str_dec]; simp [hr]
        generalize sTextOpL l = y at *
        obtain ⟨o, b⟩ := y
        simp only at *
        cases h2 : wantOk ⟨o.kind, o, 0⟩ with
        | false =>
          have h2' : (!wantOk ⟨o.kind, o, 0⟩) = true := by rw [h2]; rfl
          rw [k2 (by rw [h2]; simp)]
          refine pcall_of av_ok Tryd.func45 rfl Tryd.call45 Tryd.ntmps45 (congrArg Array.toList Tryd.results45) fun S => ?_; conv => whnf
          repeat' (first | (refine AWP.seq ?_) | (refine AWP.region av_ok ?_; conv => whnf) | (refine AWP.ret ?_; conv => whnf) | (refine AWP.skip ?_; conv => whnf) | (refine AWP.exit ?_; conv => whnf) | (refine AWP.block ?_; conv => whnf) | (refine AWP.cond ?_; conv => whnf) | (refine AB.tt ?_; conv => whnf) | (refine AB.ff ?_; conv => whnf) | (refine AB.ofT (by assumption) ?_; conv => whnf) | (refine AB.ofF (by assumption) ?_; conv => whnf) | (refine ACall.pure sp rfl ?_; conv => whnf) | (refine ACall.pure tp rfl ?_; conv => whnf) | (refine AIx.at 0 _ rfl rfl ?_; conv => whnf) | (refine ACall.pure (sWantOk_p ⟨o.kind, o, 0⟩) rfl ?_; conv => whnf) | (refine ACall.pure (sWantText_p ⟨o.kind, o, 0⟩) rfl ?_; conv => whnf) | (exact trivial) | (refine And.intro rfl ?_; conv => whnf) | (refine AB.mk (fun h => ?_) (fun h => ?_) <;> (conv => whnf)) | (with_reducible_and_instances rfl) | (exact (rfl : AP.tup _ = AP.tup _)))
        | true =>
          have h2' : (!wantOk ⟨o.kind, o, 0⟩) = false := by rw [h2]; rfl
          by_cases h3 : wantTextL ⟨o.kind, o, 0⟩ = l
          · have h3' : (!((⟨(wantTextL ⟨o.kind, o, 0⟩).toArray⟩ : ByteArray).toList == (⟨l.toArray⟩ : ByteArray).toList)) = false := by rw [str_dec, decide_eq_true h3]; rfl
            rw [k1 h2 h3]
            refine pcall_of av_ok Tryd.func45 rfl Tryd.call45 Tryd.ntmps45 (congrArg Array.toList Tryd.results45) fun S => ?_; conv => whnf
            repeat' (first | (refine AWP.seq ?_) | (refine AWP.region av_ok ?_; conv => whnf) | (refine AWP.ret ?_; conv => whnf) | (refine AWP.skip ?_; conv => whnf) | (refine AWP.exit ?_; conv => whnf) | (refine AWP.block ?_; conv => whnf) | (refine AWP.cond ?_; conv => whnf) | (refine AB.tt ?_; conv => whnf) | (refine AB.ff ?_; conv => whnf) | (refine AB.ofT (by assumption) ?_; conv => whnf) | (refine AB.ofF (by assumption) ?_; conv => whnf) | (refine ACall.pure sp rfl ?_; conv => whnf) | (refine ACall.pure tp rfl ?_; conv => whnf) | (refine AIx.at 0 _ rfl rfl ?_; conv => whnf) | (refine ACall.pure (sWantOk_p ⟨o.kind, o, 0⟩) rfl ?_; conv => whnf) | (refine ACall.pure (sWantText_p ⟨o.kind, o, 0⟩) rfl ?_; conv => whnf) | (exact trivial) | (refine And.intro rfl ?_; conv => whnf) | (refine AB.mk (fun h => ?_) (fun h => ?_) <;> (conv => whnf)) | (with_reducible_and_instances rfl) | (exact (rfl : AP.tup _ = AP.tup _)))
          · have h3' : (!((⟨(wantTextL ⟨o.kind, o, 0⟩).toArray⟩ : ByteArray).toList == (⟨l.toArray⟩ : ByteArray).toList)) = true := by rw [str_dec, decide_eq_false h3]; rfl
            rw [k2 (fun h => h3 h.2)]
            refine pcall_of av_ok Tryd.func45 rfl Tryd.call45 Tryd.ntmps45 (congrArg Array.toList Tryd.results45) fun S => ?_; conv => whnf
            repeat' (first | (refine AWP.seq ?_) | (refine AWP.region av_ok ?_; conv => whnf) | (refine AWP.ret ?_; conv => whnf) | (refine AWP.skip ?_; conv => whnf) | (refine AWP.exit ?_; conv => whnf) | (refine AWP.block ?_; conv => whnf) | (refine AWP.cond ?_; conv => whnf) | (refine AB.tt ?_; conv => whnf) | (refine AB.ff ?_; conv => whnf) | (refine AB.ofT (by assumption) ?_; conv => whnf) | (refine AB.ofF (by assumption) ?_; conv => whnf) | (refine ACall.pure sp rfl ?_; conv => whnf) | (refine ACall.pure tp rfl ?_; conv => whnf) | (refine AIx.at 0 _ rfl rfl ?_; conv => whnf) | (refine ACall.pure (sWantOk_p ⟨o.kind, o, 0⟩) rfl ?_; conv => whnf) | (refine ACall.pure (sWantText_p ⟨o.kind, o, 0⟩) rfl ?_; conv => whnf) | (exact trivial) | (refine And.intro rfl ?_; conv => whnf) | (refine AB.mk (fun h => ?_) (fun h => ?_) <;> (conv => whnf)) | (with_reducible_and_instances rfl) | (exact (rfl : AP.tup _ = AP.tup _)))
    refine run (sWant l) rfl ?_
    unfold sWant
    rw [hw]
    by_cases hr : w0 = readL
    · exact .inl ⟨hr, if_pos hr⟩
    · exact .inr ⟨hr, if_neg hr⟩
/-! The plain law. -/
theorem preB_iff {l : List UInt8} : Lib.hasPrefix l preB = true ↔ ∃ t, l = readL ++ 32 :: t := by
  unfold Lib.hasPrefix
  rw [List.isPrefixOf_iff_prefix]
  constructor
  · rintro ⟨t, rfl⟩; exact ⟨t, by simp [preB]⟩
  · rintro ⟨t, rfl⟩; exact ⟨t, by simp [preB]⟩
theorem opKind_read : opKind readL = 0 := by decide
theorem numN_itoaW {w : List UInt8} (h : 0 ≤ numN w) : ∃ n, numOf w = some n ∧ numN w = n := by
  unfold numN at *
  cases e : numOf w with
  | none => rw [e] at h; exact absurd h (by decide)
  | some n => exact ⟨n, rfl, by simp⟩
theorem wantText4 {k : Int} (h : wantOk ⟨4, opZ, k⟩ = true) : 0 ≤ k ∧ k ≤ 9 ∧ wantTextL ⟨4, opZ, k⟩ = readL ++ 32 :: Lib.itoa k := by
  refine ⟨(wantOk_key h).1, (wantOk_key h).2, ?_⟩
  unfold wantTextL
  rw [if_pos h]
  simp [spacedB]
theorem textWant_eq (l : List UInt8) : iTextWantL l = sTextWantL l := by
  cases hp : Lib.hasPrefix l preB with
  | true =>
    obtain ⟨t, rfl⟩ := preB_iff.1 hp
    obtain ⟨w1, r, hw1⟩ := wordsL_split (c := 32) (s := t)
    have hj : joinL 32 (w1 :: r) = t := by rw [← hw1, join_words]
    have hw : wordsL 32 (readL ++ 32 :: t) = readL :: w1 :: r := by rw [words_cat (by decide), hw1]
    have hs : sWant (readL ++ 32 :: t) = ⟨4, opZ, numN w1⟩ := by
      unfold sWant; rw [hw]; rfl
    have e0 : iTextWantL (readL ++ 32 :: t) = iReadL t := by unfold iTextWantL; rw [hp]; rfl
    have est : Sc.start t = ⟨w1 :: r, false, 0⟩ := by unfold Sc.start; rw [hw1]
    rw [e0]
    unfold iReadL sTextWantL
    rw [hs, est]
    by_cases hov : (scNum ⟨w1 :: r, false, 0⟩).2.over = true
    · rw [if_pos hov]
      simp only [Sc.over, Bool.and_eq_true, List.isEmpty_iff, Bool.not_eq_true'] at hov
      have hr : r = [] := by rw [← hov.1, scNum_ws]; rfl
      subst hr
      obtain ⟨_, w', r', v, hcons, hv⟩ := scNum_bad hov.2
      injection hcons with e1 e2
      subst e1 e2
      rw [(scNum_good (s := ⟨[w1], false, 0⟩) rfl hv).1, numN_yes hv]
      by_cases hok : wantOk ⟨4, opZ, (v : Int)⟩ = true
      · obtain ⟨h0, h9, ht⟩ := wantText4 hok
        have ht2 : wantTextL ⟨4, opZ, (v : Int)⟩ = readL ++ 32 :: t := by
          rw [ht, itoa_nat, ← hj]
          show _ = readL ++ 32 :: w1
          rw [(numOf_iff.1 hv).1]
        have hlen : (readL ++ 32 :: t).length ≤ 60 := by
          have h1 : t = Lib.decDigits v := by rw [← hj]; exact (numOf_iff.1 hv).1
          have h2 := decDigits_len (k := 1) (u := v) (by omega) (by omega)
          rw [h1]; simp [readL]; omega
        rw [if_pos hok, if_neg (by omega), hok, ht2]; simp
      · have hok' : wantOk ⟨4, opZ, (v : Int)⟩ = false := by simpa using hok
        rw [hok']; simp
    · have hov' : (scNum ⟨w1 :: r, false, 0⟩).2.over = false := by simpa using hov
      rw [hov']
      have hne : ¬ (wantOk ⟨4, opZ, numN w1⟩ = true ∧ wantTextL ⟨4, opZ, numN w1⟩ = readL ++ 32 :: t) := by
        rintro ⟨hok, ht⟩
        obtain ⟨h0, h9, ht2⟩ := wantText4 hok
        obtain ⟨n, hn, hnn⟩ := numN_itoaW h0
        rw [ht2, hnn, itoa_nat] at ht
        have ht3 : Lib.decDigits n = t := by
          have := List.append_cancel_left ht
          injection this
        have h1 : w1 :: r = [Lib.decDigits n] := by rw [← hw1, ← ht3, words_one (no32_dec n)]
        injection h1 with h1 h2
        subst h2
        apply hov
        have hb := (scNum_good (s := ⟨[w1], false, 0⟩) rfl hn).2
        simp only [Sc.over, hb, scNum_ws]; rfl
      have hif : (wantOk ⟨4, opZ, numN w1⟩ && decide (wantTextL ⟨4, opZ, numN w1⟩ = readL ++ 32 :: t)) = false := by
        rw [← Bool.not_eq_true, Bool.and_eq_true, decide_eq_true_eq]; exact hne
      rw [hif]; simp
  | false =>
    have e0 : iTextWantL l = iOtherL l := by unfold iTextWantL; rw [hp]; rfl
    rw [e0]
    obtain ⟨w0, r, hw⟩ := wordsL_split (c := 32) (s := l)
    have hj : joinL 32 (w0 :: r) = l := by rw [← hw, join_words]
    by_cases hr : w0 = readL
    · cases r with
      | cons v ws =>
        have : Lib.hasPrefix l preB = true := preB_iff.2 ⟨joinL 32 (v :: ws), by rw [← hj, hr]; rfl⟩
        rw [this] at hp; cases hp
      | nil =>
        have hl : l = readL := by rw [← hj, hr]; rfl
        subst hl
        have h1 : sTextOpL readL = (opZ, false) := by
          unfold sTextOpL
          rw [hw]
          show (if 60 < readL.length then (opZ, false) else if opKind w0 = 0 then (opZ, false) else _) = _
          rw [hr, opKind_read]; rfl
        have h2 : sWant readL = ⟨4, opZ, -1⟩ := by
          unfold sWant; rw [hw, hr]; rfl
        unfold iOtherL sTextWantL
        rw [h1, h2]; rfl
    · have hs : sWant l = ⟨(sTextOpL l).1.kind, (sTextOpL l).1, 0⟩ := by
        unfold sWant; rw [hw]; exact if_neg hr
      unfold iOtherL sTextWantL
      rw [hs]
      obtain ⟨o, b, e⟩ : ∃ o b, sTextOpL l = (o, b) := ⟨_, _, rfl⟩
      have hfac : b = true → l.length ≤ 60 ∧ opTextL o = l := by
        intro hb
        subst hb
        unfold sTextOpL at e
        split at e
        · simp at e
        · split at e
          · simp at e
          · split at e
            · rename_i h1 _ h2
              injection e with e1 _
              subst e1
              exact ⟨by omega, h2⟩
            · simp at e
      have hno : b = false → o = opZ := by
        intro hb
        subst hb
        unfold sTextOpL at e
        split at e
        · injection e with e1 _; exact e1.symm
        · split at e
          · injection e with e1 _; exact e1.symm
          · split at e
            · simp at e
            · injection e with e1 _; exact e1.symm
      rw [e]
      cases b with
      | false =>
        rw [hno rfl]
        simp [wantOk_zero]
      | true =>
        obtain ⟨hl, ht⟩ := hfac rfl
        simp only [if_true]
        by_cases hok : wantOk ⟨o.kind, o, 0⟩ = true
        · have h4 : (o.kind == 4) = false := by
            by_cases h4 : o.kind = 4
            · exfalso
              unfold wantOk at hok
              simp only [h4] at hok
              simp at hok
              have := hok.1
              rw [this] at h4
              simp at h4
            · simpa using h4
          have ht2 : wantTextL ⟨o.kind, o, 0⟩ = l := by
            unfold wantTextL
            rw [if_pos hok]
            simp only [h4, Bool.false_eq_true, if_false, ht]
          rw [if_pos hok, if_neg (by omega), hok, ht2]; simp
        · have hok' : wantOk ⟨o.kind, o, 0⟩ = false := by simpa using hok
          rw [hok']; simp
theorem eqWant_p (x : DWant) : PCall av 47 [.agg x.ds, .agg x.ds] (rB true) := by
  refine pcall_of av_ok Tryd.func47 rfl Tryd.call47 Tryd.ntmps47 (congrArg Array.toList Tryd.results47) fun S => ?_; conv => whnf
  repeat' (first | (refine AWP.seq ?_) | (refine AWP.region av_ok ?_; conv => whnf) | (refine AWP.ret ?_; conv => whnf) | (refine AWP.skip ?_; conv => whnf) | (refine AWP.exit ?_; conv => whnf) | (refine AWP.block ?_; conv => whnf) | (refine AWP.cond ?_; conv => whnf) | (refine AB.tt ?_; conv => whnf) | (refine AB.ff ?_; conv => whnf) | (refine AB.ofT (by assumption) ?_; conv => whnf) | (refine AB.ofF (by assumption) ?_; conv => whnf) | (refine AB.ofF (bne_no _) ?_; conv => whnf) | (refine ACall.pure (eqOp_p x.op) rfl ?_; conv => whnf) | (exact trivial) | (refine And.intro rfl ?_; conv => whnf) | (refine AB.mk (fun h => ?_) (fun h => ?_) <;> (conv => whnf)) | (with_reducible_and_instances rfl) | (exact (rfl : AP.tup _ = AP.tup _)))
theorem lawTextWant_p (l : List UInt8) : PCall av 11 [pL l] (rB true) := by
  by_cases h : 1048576 < l.length
  · have hlt : decide (((⟨l.toArray⟩ : ByteArray).size : Int) > 1048576) = true := by rw [sz_dL]; simp; omega
    refine pcall_of av_ok Tryd.func11 rfl Tryd.call11 Tryd.ntmps11 (congrArg Array.toList Tryd.results11) fun S => ?_; conv => whnf
    repeat' (first | (refine AWP.seq ?_) | (refine AWP.region av_ok ?_; conv => whnf) | (refine AWP.ret ?_; conv => whnf) | (refine AWP.skip ?_; conv => whnf) | (refine AWP.exit ?_; conv => whnf) | (refine AWP.block ?_; conv => whnf) | (refine AWP.cond ?_; conv => whnf) | (refine AB.tt ?_; conv => whnf) | (refine AB.ff ?_; conv => whnf) | (refine AB.ofT (by assumption) ?_; conv => whnf) | (refine AB.ofF (by assumption) ?_; conv => whnf) | (exact trivial) | (refine And.intro rfl ?_; conv => whnf) | (refine AB.mk (fun h => ?_) (fun h => ?_) <;> (conv => whnf)) | (with_reducible_and_instances rfl) | (exact (rfl : AP.tup _ = AP.tup _)))
  · have hlt : decide (((⟨l.toArray⟩ : ByteArray).size : Int) > 1048576) = false := by rw [sz_dL]; simp; omega
    have ip := iTextWant_p l (by omega)
    have sp := sTextWant_p l (by omega)
    rw [textWant_eq] at ip
    generalize sTextWantL l = x at ip sp
    obtain ⟨o, b⟩ := x
    have hb : (!(b == b)) = false := by simp
    refine pcall_of av_ok Tryd.func11 rfl Tryd.call11 Tryd.ntmps11 (congrArg Array.toList Tryd.results11) fun S => ?_; conv => whnf
    repeat' (first | (refine AWP.seq ?_) | (refine AWP.region av_ok ?_; conv => whnf) | (refine AWP.ret ?_; conv => whnf) | (refine AWP.skip ?_; conv => whnf) | (refine AWP.exit ?_; conv => whnf) | (refine AWP.block ?_; conv => whnf) | (refine AWP.cond ?_; conv => whnf) | (refine AB.tt ?_; conv => whnf) | (refine AB.ff ?_; conv => whnf) | (refine AB.ofT (by assumption) ?_; conv => whnf) | (refine AB.ofF (by assumption) ?_; conv => whnf) | (refine ACall.pure sp rfl ?_; conv => whnf) | (refine ACall.pure ip rfl ?_; conv => whnf) | (refine ACall.pure (eqWant_p o) rfl ?_; conv => whnf) | (exact trivial) | (refine And.intro rfl ?_; conv => whnf) | (refine AB.mk (fun h => ?_) (fun h => ?_) <;> (conv => whnf)) | (with_reducible_and_instances rfl) | (exact (rfl : AP.tup _ = AP.tup _)))
end Go.Proofs.YtlhanpkfnhnegaaDoor
