/- TextWant of both sides. -/
import Derived.Test.YtlhanpkfnhnegaaDoorAvJ6
import Derived.Test.YtlhanpkfnhnegaaDoorAvT4
set_option linter.unusedVariables false
set_option linter.unusedSimpArgs false
set_option maxRecDepth 100000
namespace Go.Proofs.YtlhanpkfnhnegaaDoor
open Go.RowKit

abbrev wantZ : DWant := ⟨0, opZ, 0⟩
def preB : List UInt8 := readL ++ [32]
/-- What stands behind "read ". -/
noncomputable def iReadL (t : List UInt8) : DWant × Bool := if (scNum (.start t)).2.over then (if wantOk ⟨4, opZ, (scNum (.start t)).1⟩ then (⟨4, opZ, (scNum (.start t)).1⟩, true) else (wantZ, false)) else (wantZ, false)
def iOtherL (l : List UInt8) : DWant × Bool := if (sTextOpL l).2 then (if wantOk ⟨(sTextOpL l).1.kind, (sTextOpL l).1, 0⟩ then (⟨(sTextOpL l).1.kind, (sTextOpL l).1, 0⟩, true) else (wantZ, false)) else (wantZ, false)
noncomputable def iTextWantL (l : List UInt8) : DWant × Bool := if Lib.hasPrefix l preB then iReadL (l.drop 5) else iOtherL l
def sWant (l : List UInt8) : DWant := if (wordsL 32 l).headD [] = readL then ⟨4, opZ, atN (wordsL 32 l) 1⟩ else ⟨(sTextOpL l).1.kind, (sTextOpL l).1, 0⟩
def sTextWantL (l : List UInt8) : DWant × Bool := if 60 < l.length then (wantZ, false) else if wantOk (sWant l) && decide (wantTextL (sWant l) = l) then (sWant l, true) else (wantZ, false)
theorem wantOk_zero : wantOk wantZ = false := by decide
theorem hasPrefix_p (l p : List UInt8) : PCall av 107 [pL l, pL p] (rB (Lib.hasPrefix l p)) := PCall.plain av_ok Tryd.call107 rfl rfl fun w _ => by
  have := Tryd.strings_HasPrefix ⟨l.toArray⟩ ⟨p.toArray⟩ w
  simp only [List.toList_toArray] at this
  refine this.mono ?_
  rintro e w' ⟨rfl, rfl⟩
  exact ⟨rfl, Below.refl _ _⟩
theorem num_start (l : List UInt8) (hl : l.length ≤ 2000000) : MCall av 105 [.one (.ref 1000 0 0 0)] [(1000, startO l)] [(1000, (scNum (.start l)).2.o)] [1000] (.val (.one (.d (dI (scNum (.start l)).1)))) := by
  have := number_m (.start l) (start_ok hl)
  rw [start_o] at this
  exact this
theorem iTextWant_p (l : List UInt8) (hl : l.length ≤ 2000000) : PCall av 46 [pL l] (.tup [.agg (iTextWantL l).1.ds, .one (dB (iTextWantL l).2)]) := by
  have hx : (⟨l.toArray⟩ : ByteArray).extract 5 (⟨l.toArray⟩ : ByteArray).size = ⟨(l.drop 5).toArray⟩ := by rw [extract_dL, sz_dL, List.take_length]
  cases hp : Lib.hasPrefix l preB with
  | true =>
    have h5 : 5 ≤ l.length := by
      have := List.IsPrefix.length_le (List.isPrefixOf_iff_prefix.1 hp)
      simpa [preB, readL] using this
    have e0 : iTextWantL l = iReadL (l.drop 5) := by unfold iTextWantL; rw [hp]; rfl
    have nm := num_start (l.drop 5) (by rw [List.length_drop]; omega)
    have vm := over_m (scNum (.start (l.drop 5))).2
    have hov : (scNum (.start (l.drop 5))).2.over = ((scNum (.start (l.drop 5))).2.ws.isEmpty && !(scNum (.start (l.drop 5))).2.bad) := rfl
    rw [← hov] at vm
    rw [e0]
    unfold iReadL
    obtain ⟨v, t, e⟩ : ∃ v t, scNum (.start (l.drop 5)) = (v, t) := ⟨_, _, rfl⟩
    rw [e] at nm vm ⊢
    simp only at nm vm ⊢
    clear hov e
    cases h1 : t.over with
    | false =>
      have h1' : (!t.over) = true := by rw [h1]; rfl
      simp only [Bool.false_eq_true, if_false]
      refine pcall_of av_ok Tryd.func46 rfl Tryd.call46 Tryd.ntmps46 (congrArg Array.toList Tryd.results46) fun S => ?_; conv => whnf
      repeat' (first | (refine AWP.seq ?_) | (refine AWP.region av_ok ?_; conv => whnf) | (refine AWP.ret ?_; conv => whnf) | (refine AWP.skip ?_; conv => whnf) | (refine AWP.exit ?_; conv => whnf) | (refine AWP.block ?_; conv => whnf) | (refine AWP.cond ?_; conv => whnf) | (refine AB.tt ?_; conv => whnf) | (refine AB.ff ?_; conv => whnf) | (refine AB.ofT (by assumption) ?_; conv => whnf) | (refine AB.ofF (by assumption) ?_; conv => whnf) | (refine ACall.pure (hasPrefix_p l preB) rfl ?_; conv => whnf) | (refine ⟨5, (⟨l.toArray⟩ : ByteArray).size, rfl, rfl, (by rw [sz_dL]; exact h5), Nat.le_refl _, ?_⟩; conv => whnf; rw [hx]) | (refine ACall.upd nm 14 rfl rfl rfl ?_; conv => whnf) | (refine ACall.upd vm 14 rfl rfl rfl ?_; conv => whnf) | (exact trivial) | (refine And.intro rfl ?_; conv => whnf) | (refine AB.mk (fun h => ?_) (fun h => ?_) <;> (conv => whnf)) | (with_reducible_and_instances rfl) | (exact (rfl : AP.tup _ = AP.tup _)))
    | true =>
      have h1' : (!t.over) = false := by rw [h1]; rfl
      cases h2 : wantOk ⟨4, opZ, v⟩ with
      | false =>
        have h2' : (!wantOk ⟨4, opZ, v⟩) = true := by rw [h2]; rfl
        simp only [Bool.false_eq_true, if_false, if_true]
        refine pcall_of av_ok Tryd.func46 rfl Tryd.call46 Tryd.ntmps46 (congrArg Array.toList Tryd.results46) fun S => ?_; conv => whnf
        repeat' (first | (refine AWP.seq ?_) | (refine AWP.region av_ok ?_; conv => whnf) | (refine AWP.ret ?_; conv => whnf) | (refine AWP.skip ?_; conv => whnf) | (refine AWP.exit ?_; conv => whnf) | (refine AWP.block ?_; conv => whnf) | (refine AWP.cond ?_; conv => whnf) | (refine AB.tt ?_; conv => whnf) | (refine AB.ff ?_; conv => whnf) | (refine AB.ofT (by assumption) ?_; conv => whnf) | (refine AB.ofF (by assumption) ?_; conv => whnf) | (refine ACall.pure (hasPrefix_p l preB) rfl ?_; conv => whnf) | (refine ⟨5, (⟨l.toArray⟩ : ByteArray).size, rfl, rfl, (by rw [sz_dL]; exact h5), Nat.le_refl _, ?_⟩; conv => whnf; rw [hx]) | (refine ACall.upd nm 14 rfl rfl rfl ?_; conv => whnf) | (refine ACall.upd vm 14 rfl rfl rfl ?_; conv => whnf) | (refine ACall.pure (iWantOk_p ⟨4, opZ, v⟩) rfl ?_; conv => whnf) | (exact trivial) | (refine And.intro rfl ?_; conv => whnf) | (refine AB.mk (fun h => ?_) (fun h => ?_) <;> (conv => whnf)) | (with_reducible_and_instances rfl) | (exact (rfl : AP.tup _ = AP.tup _)))
      | true =>
        have h2' : (!wantOk ⟨4, opZ, v⟩) = false := by rw [h2]; rfl
        simp only [if_true]
        refine pcall_of av_ok Tryd.func46 rfl Tryd.call46 Tryd.ntmps46 (congrArg Array.toList Tryd.results46) fun S => ?_; conv => whnf
        repeat' (first | (refine AWP.seq ?_) | (refine AWP.region av_ok ?_; conv => whnf) | (refine AWP.ret ?_; conv => whnf) | (refine AWP.skip ?_; conv => whnf) | (refine AWP.exit ?_; conv => whnf) | (refine AWP.block ?_; conv => whnf) | (refine AWP.cond ?_; conv => whnf) | (refine AB.tt ?_; conv => whnf) | (refine AB.ff ?_; conv => whnf) | (refine AB.ofT (by assumption) ?_; conv => whnf) | (refine AB.ofF (by assumption) ?_; conv => whnf) | (refine ACall.pure (hasPrefix_p l preB) rfl ?_; conv => whnf) | (refine ⟨5, (⟨l.toArray⟩ : ByteArray).size, rfl, rfl, (by rw [sz_dL]; exact h5), Nat.le_refl _, ?_⟩; conv => whnf; rw [hx]) | (refine ACall.upd nm 14 rfl rfl rfl ?_; conv => whnf) | (refine ACall.upd vm 14 rfl rfl rfl ?_; conv => whnf) | (refine ACall.pure (iWantOk_p ⟨4, opZ, v⟩) rfl ?_; conv => whnf) | (exact trivial) | (refine And.intro rfl ?_; conv => whnf) | (refine AB.mk (fun h => ?_) (fun h => ?_) <;> (conv => whnf)) | (with_reducible_and_instances rfl) | (exact (rfl : AP.tup _ = AP.tup _)))
  | false =>
    have e0 : iTextWantL l = iOtherL l := by unfold iTextWantL; rw [hp]; rfl
    have ip := iTextOp_p l hl
    rw [textOp_eq] at ip
    rw [e0]
    unfold iOtherL
    obtain ⟨o, b, e⟩ : ∃ o b, sTextOpL l = (o, b) := ⟨_, _, rfl⟩
    rw [e] at ip ⊢
    simp only at ip ⊢
    cases b with
    | false =>
      have h2' : (!wantOk wantZ) = true := by rw [wantOk_zero]; rfl
      simp only [Bool.false_eq_true, if_false]
      refine pcall_of av_ok Tryd.func46 rfl Tryd.call46 Tryd.ntmps46 (congrArg Array.toList Tryd.results46) fun S => ?_; conv => whnf
      repeat' (first | (refine AWP.seq ?_) | (refine AWP.region av_ok ?_; conv => whnf) | (refine AWP.ret ?_; conv => whnf) | (refine AWP.skip ?_; conv => whnf) | (refine AWP.exit ?_; conv => whnf) | (refine AWP.block ?_; conv => whnf) | (refine AWP.cond ?_; conv => whnf) | (refine AB.tt ?_; conv => whnf) | (refine AB.ff ?_; conv => whnf) | (refine AB.ofT (by assumption) ?_; conv => whnf) | (refine AB.ofF (by assumption) ?_; conv => whnf) | (refine ACall.pure (hasPrefix_p l preB) rfl ?_; conv => whnf) | (refine ACall.pure ip rfl ?_; conv => whnf) | (refine ACall.pure (iWantOk_p wantZ) rfl ?_; conv => whnf) | (exact trivial) | (refine And.intro rfl ?_; conv => whnf) | (refine AB.mk (fun h => ?_) (fun h => ?_) <;> (conv => whnf)) | (with_reducible_and_instances rfl) | (exact (rfl : AP.tup _ = AP.tup _)))
    | true =>
      cases h2 : wantOk ⟨o.kind, o, 0⟩ with
      | false =>
        have h2' : (!wantOk ⟨o.kind, o, 0⟩) = true := by rw [h2]; rfl
        simp only [Bool.false_eq_true, if_false, if_true]
        refine pcall_of av_ok Tryd.func46 rfl Tryd.call46 Tryd.ntmps46 (congrArg Array.toList Tryd.results46) fun S => ?_; conv => whnf
        repeat' (first | (refine AWP.seq ?_) | (refine AWP.region av_ok ?_; conv => whnf) | (refine AWP.ret ?_; conv => whnf) | (refine AWP.skip ?_; conv => whnf) | (refine AWP.exit ?_; conv => whnf) | (refine AWP.block ?_; conv => whnf) | (refine AWP.cond ?_; conv => whnf) | (refine AB.tt ?_; conv => whnf) | (refine AB.ff ?_; conv => whnf) | (refine AB.ofT (by assumption) ?_; conv => whnf) | (refine AB.ofF (by assumption) ?_; conv => whnf) | (refine ACall.pure (hasPrefix_p l preB) rfl ?_; conv => whnf) | (refine ACall.pure ip rfl ?_; conv => whnf) | (refine ACall.pure (iWantOk_p ⟨o.kind, o, 0⟩) rfl ?_; conv => whnf) | (exact trivial) | (refine And.intro rfl ?_; conv => whnf) | (refine AB.mk (fun h => ?_) (fun h => ?_) <;> (conv => whnf)) | (with_reducible_and_instances rfl) | (exact (rfl : AP.tup _ = AP.tup _)))
      | true =>
        have h2' : (!wantOk ⟨o.kind, o, 0⟩) = false := by rw [h2]; rfl
        simp only [if_true]
        refine pcall_of av_ok Tryd.func46 rfl Tryd.call46 Tryd.ntmps46 (congrArg Array.toList Tryd.results46) fun S => ?_; conv => whnf
        repeat' (first | (refine AWP.seq ?_) | (refine AWP.region av_ok ?_; conv => whnf) | (refine AWP.ret ?_; conv => whnf) | (refine AWP.skip ?_; conv => whnf) | (refine AWP.exit ?_; conv => whnf) | (refine AWP.block ?_; conv => whnf) | (refine AWP.cond ?_; conv => whnf) | (refine AB.tt ?_; conv => whnf) | (refine AB.ff ?_; conv => whnf) | (refine AB.ofT (by assumption) ?_; conv => whnf) | (refine AB.ofF (by assumption) ?_; conv => whnf) | (refine ACall.pure (hasPrefix_p l preB) rfl ?_; conv => whnf) | (refine ACall.pure ip rfl ?_; conv => whnf) | (refine ACall.pure (iWantOk_p ⟨o.kind, o, 0⟩) rfl ?_; conv => whnf) | (exact trivial) | (refine And.intro rfl ?_; conv => whnf) | (refine AB.mk (fun h => ?_) (fun h => ?_) <;> (conv => whnf)) | (with_reducible_and_instances rfl) | (exact (rfl : AP.tup _ = AP.tup _)))
end Go.Proofs.YtlhanpkfnhnegaaDoor
