/- TextOp of the program. -/
import Derived.Test.YtlhanpkfnhnegaaDoorAvW5
set_option linter.unusedVariables false
set_option linter.unusedSimpArgs false
set_option maxRecDepth 100000
namespace Go.Proofs.YtlhanpkfnhnegaaDoor
open Go.RowKit

def Sc.start (l : List UInt8) : Sc := ⟨wordsL 32 l, false, 0⟩
theorem start_ok {l : List UInt8} (hl : l.length ≤ 2000000) : (Sc.start l).ok := ⟨words_no, by rw [Sc.start, join_words]; exact hl⟩
theorem words_isEmpty (c : UInt8) (l : List UInt8) : (wordsL c l).isEmpty = false := by
  obtain ⟨w, ws, e⟩ := wordsL_split (c := c) (s := l)
  rw [e]; rfl
abbrev startO (l : List UInt8) : AO := .cells 118 [.d (dL l), .d (dB false), .d (dB false), .d (dI 0)]
theorem start_o (l : List UInt8) : (Sc.start l).o = startO l := by
  simp only [Sc.o, Sc.start, join_words, words_isEmpty]
abbrev DOp.dz (o : DOp) : List AD := [dI o.kind, dI o.a, dI o.b, dI o.c, dI o.d]
def Sc.over (s : Sc) : Bool := s.ws.isEmpty && !s.bad
abbrev opZ : DOp := ⟨0, 0, 0, 0, 0⟩
noncomputable def iTextOpL (l : List UInt8) : DOp × Bool := if (scOp (.start l)).2.over && opOk (scOp (.start l)).1 then ((scOp (.start l)).1, true) else (opZ, false)
theorem op_start (l : List UInt8) (hl : l.length ≤ 2000000) : MCall av 94 [.one (.ref 1000 0 0 0)] [(1000, startO l)] [(1000, (scOp (.start l)).2.o)] [1000] (.val (.agg (scOp (.start l)).1.cs)) := by
  have := op_m (.start l) (start_ok hl)
  rw [start_o] at this
  exact this
theorem iTextOp_p (l : List UInt8) (hl : l.length ≤ 2000000) : PCall av 35 [pL l] (.tup [.agg (iTextOpL l).1.dz, .one (dB (iTextOpL l).2)]) := by
  have om := op_start l hl
  have vm := over_m (scOp (.start l)).2
  have hov : (scOp (.start l)).2.over = ((scOp (.start l)).2.ws.isEmpty && !(scOp (.start l)).2.bad) := rfl
  rw [← hov] at vm
  obtain ⟨o, t, e⟩ : ∃ o t, scOp (.start l) = (o, t) := ⟨_, _, rfl⟩
  unfold iTextOpL
  rw [e] at om vm ⊢
  simp only at om vm ⊢
  clear hov e
  cases h1 : t.over with
  | false =>
    have h1' : (!t.over) = true := by rw [h1]; rfl
    simp only [Bool.false_and, Bool.false_eq_true, if_false]
    refine pcall_of av_ok Tryd.func35 rfl Tryd.call35 Tryd.ntmps35 (congrArg Array.toList Tryd.results35) fun S => ?_; conv => whnf
    repeat' (first | (refine AWP.seq ?_) | (refine AWP.region av_ok ?_; conv => whnf) | (refine AWP.ret ?_; conv => whnf) | (refine AWP.skip ?_; conv => whnf) | (refine AWP.exit ?_; conv => whnf) | (refine AWP.block ?_; conv => whnf) | (refine AWP.cond ?_; conv => whnf) | (refine AB.tt ?_; conv => whnf) | (refine AB.ff ?_; conv => whnf) | (refine AB.ofT (by assumption) ?_; conv => whnf) | (refine AB.ofF (by assumption) ?_; conv => whnf) | (refine ACall.upd om 8 rfl rfl rfl ?_; conv => whnf) | (refine ACall.upd vm 8 rfl rfl rfl ?_; conv => whnf) | (exact trivial) | (refine And.intro rfl ?_; conv => whnf) | (refine AB.mk (fun h => ?_) (fun h => ?_) <;> (conv => whnf)))
  | true =>
    have h1' : (!t.over) = false := by rw [h1]; rfl
    cases h2 : opOk o with
    | false =>
      have h2' : (!opOk o) = true := by rw [h2]; rfl
      simp only [Bool.and_false, Bool.false_eq_true, if_false]
      refine pcall_of av_ok Tryd.func35 rfl Tryd.call35 Tryd.ntmps35 (congrArg Array.toList Tryd.results35) fun S => ?_; conv => whnf
      repeat' (first | (refine AWP.seq ?_) | (refine AWP.region av_ok ?_; conv => whnf) | (refine AWP.ret ?_; conv => whnf) | (refine AWP.skip ?_; conv => whnf) | (refine AWP.exit ?_; conv => whnf) | (refine AWP.block ?_; conv => whnf) | (refine AWP.cond ?_; conv => whnf) | (refine AB.tt ?_; conv => whnf) | (refine AB.ff ?_; conv => whnf) | (refine AB.ofT (by assumption) ?_; conv => whnf) | (refine AB.ofF (by assumption) ?_; conv => whnf) | (refine ACall.upd om 8 rfl rfl rfl ?_; conv => whnf) | (refine ACall.upd vm 8 rfl rfl rfl ?_; conv => whnf) | (refine ACall.pure (iOpOk_p o) rfl ?_; conv => whnf) | (exact trivial) | (refine And.intro rfl ?_; conv => whnf) | (refine AB.mk (fun h => ?_) (fun h => ?_) <;> (conv => whnf)))
    | true =>
      have h2' : (!opOk o) = false := by rw [h2]; rfl
      simp only [Bool.and_self, if_true]
      refine pcall_of av_ok Tryd.func35 rfl Tryd.call35 Tryd.ntmps35 (congrArg Array.toList Tryd.results35) fun S => ?_; conv => whnf
      repeat' (first | (refine AWP.seq ?_) | (refine AWP.region av_ok ?_; conv => whnf) | (refine AWP.ret ?_; conv => whnf) | (refine AWP.skip ?_; conv => whnf) | (refine AWP.exit ?_; conv => whnf) | (refine AWP.block ?_; conv => whnf) | (refine AWP.cond ?_; conv => whnf) | (refine AB.tt ?_; conv => whnf) | (refine AB.ff ?_; conv => whnf) | (refine AB.ofT (by assumption) ?_; conv => whnf) | (refine AB.ofF (by assumption) ?_; conv => whnf) | (refine ACall.upd om 8 rfl rfl rfl ?_; conv => whnf) | (refine ACall.upd vm 8 rfl rfl rfl ?_; conv => whnf) | (refine ACall.pure (iOpOk_p o) rfl ?_; conv => whnf) | (exact trivial) | (refine And.intro rfl ?_; conv => whnf) | (refine AB.mk (fun h => ?_) (fun h => ?_) <;> (conv => whnf)))
end Go.Proofs.YtlhanpkfnhnegaaDoor
