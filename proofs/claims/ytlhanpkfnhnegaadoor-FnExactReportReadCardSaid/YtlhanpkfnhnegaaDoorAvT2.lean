/- Entries: valid, and as text. -/
import Derived.Test.YtlhanpkfnhnegaaDoorAvT1
import Derived.Test.YtlhanpkfnhnegaaDoorText4
import Derived.Test.YtlhanpkfnhnegaaDoorText5
set_option linter.unusedVariables false
set_option linter.unusedSimpArgs false
set_option maxRecDepth 100000
namespace Go.Proofs.YtlhanpkfnhnegaaDoor
open Go.ChangeShapes Go.WideShapes Go.RowKit

def entryOk (e : DEntry) : Bool := betweenB e.index 1 2000 && betweenB e.time 0 1000000 && betweenB e.client 2 5 && betweenB e.seq 1 2000 && opOk e.op
def DEntry.ds (e : DEntry) : List AD := [dI e.index, dI e.time, dI e.client, dI e.seq, dI e.op.kind, dI e.op.a, dI e.op.b, dI e.op.c, dI e.op.d]
theorem iEntryOk_p (e : DEntry) : PCall av 75 [.agg e.ds] (rB (entryOk e)) := by
  refine pcall_of av_ok Tryd.func75 rfl Tryd.call75 Tryd.ntmps75 (congrArg Array.toList Tryd.results75) fun S => ?_
  conv => whnf
  repeat' (first | (refine AWP.seq ?_) | (refine AWP.region av_ok ?_; conv => whnf) | (refine AWP.ret ?_; conv => whnf) | (refine AWP.skip ?_; conv => whnf) | (refine AWP.exit ?_; conv => whnf) | (refine AWP.block ?_; conv => whnf) | (refine AWP.cond ?_; conv => whnf) | (refine AB.tt ?_; conv => whnf) | (refine AB.ff ?_; conv => whnf) | (refine ACall.pure (iindexOk_p _) rfl ?_; conv => whnf) | (refine ACall.pure (iTimeOk_p _) rfl ?_; conv => whnf) | (refine ACall.pure (iAskerOk_p _) rfl ?_; conv => whnf) | (refine ACall.pure (iseqOk_p _) rfl ?_; conv => whnf) | (refine ACall.pure (iOpOk_p e.op) rfl ?_; conv => whnf) | (refine ⟨rfl, ?_⟩; conv => whnf) | (refine AB.mk (fun h => ?_) (fun h => ?_) <;> (conv => whnf)))
  all_goals simp [entryOk, *]
theorem sEntryOk_p (e : DEntry) : PCall av 73 [.agg e.ds] (rB (entryOk e)) := by
  refine pcall_of av_ok Tryd.func73 rfl Tryd.call73 Tryd.ntmps73 (congrArg Array.toList Tryd.results73) fun S => ?_
  conv => whnf
  repeat' (first | (refine AWP.seq ?_) | (refine AWP.region av_ok ?_; conv => whnf) | (refine AWP.ret ?_; conv => whnf) | (refine AWP.skip ?_; conv => whnf) | (refine AWP.exit ?_; conv => whnf) | (refine AWP.block ?_; conv => whnf) | (refine AWP.cond ?_; conv => whnf) | (refine AB.tt ?_; conv => whnf) | (refine AB.ff ?_; conv => whnf) | (refine ACall.pure (sl7Index_p _) rfl ?_; conv => whnf) | (refine ACall.pure (sTimeOk_p _) rfl ?_; conv => whnf) | (refine ACall.pure (sAskerOk_p _) rfl ?_; conv => whnf) | (refine ACall.pure (sl7Seq_p _) rfl ?_; conv => whnf) | (refine ACall.pure (sOpOk_p e.op) rfl ?_; conv => whnf) | (refine ⟨rfl, ?_⟩; conv => whnf) | (refine AB.mk (fun h => ?_) (fun h => ?_) <;> (conv => whnf)))
  all_goals simp [entryOk, *]

def nodeWordL (x : Int) : List UInt8 := (nodeWordB x).data.toList
theorem nodeWordB_eq (x : Int) : nodeWordB x = ⟨(nodeWordL x).toArray⟩ := by simp [nodeWordL]
theorem nodeWordL_len (x : Int) : (nodeWordL x).length ≤ 5 := by
  unfold nodeWordL nodeWordB
  repeat' split
  all_goals simp
theorem opTextL_len (o : DOp) : (opTextL o).length ≤ 200 := by
  unfold opTextL
  split
  · rename_i h
    have h1 := opWordL_len o.kind
    have h2 := spacedB_len (opArgs o) (fun x hx => i64_wf (by have := opArgs_bounds h x hx; omega) (by have := opArgs_bounds h x hx; omega))
    have h3 := opArgs_len o
    rw [List.length_append]
    omega
  · simp
def entryWords (e : DEntry) : List (List UInt8) := [Lib.itoa e.index, Lib.itoa e.time, nodeWordL e.client, Lib.itoa e.seq, opTextL e.op]
def entryTextL (e : DEntry) : List UInt8 := if entryOk e = true then wordsB [32] (entryWords e) else []
theorem entryOk_bounds {e : DEntry} (h : entryOk e = true) : (1 ≤ e.index ∧ e.index ≤ 2000) ∧ (0 ≤ e.time ∧ e.time ≤ 1000000) ∧ (2 ≤ e.client ∧ e.client ≤ 5) ∧ (1 ≤ e.seq ∧ e.seq ≤ 2000) ∧ opOk e.op = true := by
  simpa [entryOk, betweenB_iff, and_assoc] using h
theorem iNodeWord_p (x : Int) : PCall av 77 [pI x] (rL (nodeWordL x)) := PCall.plain av_ok Tryd.call77 rfl rfl fun w _ => by
  have := iNodeWord_calls x w
  rwa [nodeWordB_eq] at this
theorem sNodeWord_p (x : Int) : PCall av 74 [pI x] (rL (nodeWordL x)) := PCall.plain av_ok Tryd.call74 rfl rfl fun w _ => by
  have := sNodeWord_calls x w
  rwa [nodeWordB_eq] at this
theorem iOpText_p (o : DOp) : PCall av 17 [.agg [dI o.kind, dI o.a, dI o.b, dI o.c, dI o.d]] (rL (opTextL o)) := PCall.plain av_ok Tryd.call17 rfl rfl fun w ht => iOpText_calls o w ht.1
theorem sOpText_p (o : DOp) : PCall av 15 [.agg [dI o.kind, dI o.a, dI o.b, dI o.c, dI o.d]] (rL (opTextL o)) := PCall.plain av_ok Tryd.call15 rfl rfl fun w ht => sOpText_calls o w
/-- The texts' bytes. -/
theorem str_eq {a : ByteArray} {l : List UInt8} (h : a.data.toList = l) : AP.val (.one (.pv (.string a))) = rL l := by
  subst h; simp
theorem data_app (a b : ByteArray) : (a ++ b).data.toList = a.data.toList ++ b.data.toList := by simp
theorem sz_app {a b c : Nat} {Q : Prop} (h : (a + b) * c ≤ 140737488355328) (q : Q) : (a + b) * c ≤ 140737488355328 ∧ Q := ⟨h, q⟩
theorem all_len {xs : List (List AD)} {s : Nat} {Q : Prop} (h : ∀ x ∈ xs, x.length = s) (q : Q) : (∀ x ∈ xs, x.length = s) ∧ Q := ⟨h, q⟩
theorem sz_and {a b : ByteArray} {Q : Prop} (h : a.data.toList.length + b.data.toList.length ≤ 9223372036854775807) (q : Q) : a.size + b.size ≤ 9223372036854775807 ∧ Q := ⟨by simpa using h, q⟩
theorem size_data (a : ByteArray) : a.size = a.data.toList.length := by simp
theorem itoa_le {x : Int} (h0 : 0 ≤ x) (h1 : x ≤ 1000000000000) : (Lib.itoa x).length ≤ 21 := by
  have := Lib.itoa_length_le x (by omega) (by omega)
  omega
theorem iEntryText_p (e : DEntry) : PCall av 20 [.agg e.ds] (rL (entryTextL e)) := by
  refine pcall_of av_ok Tryd.func20 rfl Tryd.call20 Tryd.ntmps20 (congrArg Array.toList Tryd.results20) fun S => ?_
  conv => whnf
  repeat' (first | (refine AWP.seq ?_) | (refine AWP.region av_ok ?_; conv => whnf) | (refine AWP.ret ?_; conv => whnf) | (refine AWP.skip ?_; conv => whnf) | (refine AWP.exit ?_; conv => whnf) | (refine AWP.block ?_; conv => whnf) | (refine AWP.cond ?_; conv => whnf) | (refine AB.tt ?_; conv => whnf) | (refine AB.ff ?_; conv => whnf) | (refine ACall.pure (iEntryOk_p e) rfl ?_; conv => whnf) | (refine ⟨rfl, ?_⟩; conv => whnf) | (refine AB.mk (fun h => ?_) (fun h => ?_) <;> (conv => whnf)))
  · have h : entryOk e = false := by simpa using h
    simp [entryTextL, h]
  · have h : entryOk e = true := by simpa using h
    have hB := entryOk_bounds h
    have w1 : (Lit.int .i64 e.time).wf = true := i64_wf (by omega) (by omega)
    have w2 : (Lit.int .i64 e.seq).wf = true := i64_wf (by omega) (by omega)
    have s1 : (spacedB [e.time]).length ≤ 22 := by simpa using spacedB_len [e.time] (by simpa using w1)
    have s2 : (spacedB [e.seq]).length ≤ 22 := by simpa using spacedB_len [e.seq] (by simpa using w2)
    have s3 := itoa_le (x := e.index) (by omega) (by omega)
    have s4 := opTextL_len e.op
    have s5 := nodeWordL_len e.client
    refine' AWP.draw av_ok 22 [[], [0], [0, 1], [], [3], [3, 4], [1, 0, 2, 4, 3, 5], [5, 3, 4, 6, 1, 0, 2], [2, 0, 1, 6, 4, 3, 5, 7], [], [9], [5, 3, 4, 2, 0, 1, 6, 9, 10], [10, 9, 11, 7, 5, 3, 4, 6, 1, 0, 2, 8], [], [13], [13, 14], [10, 9, 6, 1, 0, 2, 4, 3, 5, 11, 14, 13, 15], [15, 13, 14, 16, 8, 2, 0, 1, 6, 4, 3, 5, 7, 11, 9, 10, 12], [12, 10, 9, 11, 7, 5, 3, 4, 6, 1, 0, 2, 8, 16, 14, 13, 15, 17], [], [19], [15, 13, 14, 11, 5, 3, 4, 2, 0, 1, 6, 9, 10, 16, 19, 20], [20, 19, 21, 17, 15, 13, 14, 16, 8, 2, 0, 1, 6, 4, 3, 5, 7, 11, 9, 10, 12, 18], [18, 12, 10, 9, 11, 7, 5, 3, 4, 6, 1, 0, 2, 8, 16, 14, 13, 15, 17, 21, 19, 20, 22]] [(_, _), (_, _), (_, _), (_, _), (_, _), (_, _), (_, _), (_, _), (_, _), (_, _), (_, _), (_, _), (_, _), (_, _), (_, _), (_, _), (_, _), (_, _), (_, _), (_, _), (_, _), (_, _)] ?hD ?hok ?hl ?hf ?hno ?ht
    case hD => kernel_rfl
    case hok => kernel_rfl
    case hl => rfl
    case hf =>
      conv => whnf
      repeat' (first | (refine ⟨rfl, rfl⟩) | exact trivial | (refine AFCall.mk ⟨_, _, inumeral_p e.index (by omega) (by omega), .inl rfl, ?_⟩; conv => whnf) | (refine AFCall.mk ⟨_, _, ispaced_p [e.time] (by simpa using w1) (by simp), .inl rfl, ?_⟩; conv => whnf) | (refine AFCall.mk ⟨_, _, ispaced_p [e.seq] (by simpa using w2) (by simp), .inl rfl, ?_⟩; conv => whnf) | (refine AFCall.mk ⟨_, _, iNodeWord_p e.client, .inl rfl, ?_⟩; conv => whnf) | (refine AFCall.mk ⟨_, _, iOpText_p e.op, .inl rfl, ?_⟩; conv => whnf) | (refine sz_and (by simp; omega) ?_; conv => whnf) | (refine And.intro ?_ ?_ <;> conv => whnf))
    case hno => rfl
    case ht =>
      conv => whnf
      repeat' (first | (refine AWP.seq ?_) | (refine AWP.region av_ok ?_; conv => whnf) | (refine AWP.ret ?_; conv => whnf) | (refine AWP.skip ?_; conv => whnf) | (refine AWP.exit ?_; conv => whnf) | (refine AWP.block ?_; conv => whnf) | (refine AWP.cond ?_; conv => whnf) | (refine AB.tt ?_; conv => whnf) | (refine AB.ff ?_; conv => whnf) | (refine sz_and (by simp; omega) ?_; conv => whnf) | (refine ⟨rfl, ?_⟩; conv => whnf) | (refine AB.mk (fun h => ?_) (fun h => ?_) <;> (conv => whnf)))
      refine str_eq ?_
      simp [entryTextL, h, entryWords, wordsB, spacedB]
theorem sl1IntZ_p (x : Int) (h0 : 0 ≤ x) (h1 : x ≤ 1000000000000) : PCall av 66 [pI x] (rL (Lib.itoa x)) := PCall.plain av_ok Tryd.call66 rfl rfl fun w _ => sl1IntZ_calls x w h0 h1
theorem entryWords_len {e : DEntry} (h : entryOk e = true) : (wordsB [32] (entryWords e)).length ≤ 1000 := by
  have hB := entryOk_bounds h
  have s1 := itoa_le (x := e.time) (by omega) (by omega)
  have s2 := itoa_le (x := e.seq) (by omega) (by omega)
  have s3 := itoa_le (x := e.index) (by omega) (by omega)
  have s4 := opTextL_len e.op
  have s5 := nodeWordL_len e.client
  simp [entryWords, wordsB]
  omega
theorem sEntryText_p (e : DEntry) : PCall av 18 [.agg e.ds] (rL (entryTextL e)) := by
  refine pcall_of av_ok Tryd.func18 rfl Tryd.call18 Tryd.ntmps18 (congrArg Array.toList Tryd.results18) fun S => ?_
  conv => whnf
  repeat' (first | (refine AWP.seq ?_) | (refine AWP.region av_ok ?_; conv => whnf) | (refine AWP.ret ?_; conv => whnf) | (refine AWP.skip ?_; conv => whnf) | (refine AWP.exit ?_; conv => whnf) | (refine AWP.block ?_; conv => whnf) | (refine AWP.cond ?_; conv => whnf) | (refine AB.tt ?_; conv => whnf) | (refine AB.ff ?_; conv => whnf) | (refine ACall.pure (sEntryOk_p e) rfl ?_; conv => whnf) | (refine ⟨rfl, ?_⟩; conv => whnf) | (refine AB.mk (fun h => ?_) (fun h => ?_) <;> (conv => whnf)))
  · have h : entryOk e = false := by simpa using h
    simp [entryTextL, h]
  · have h : entryOk e = true := by simpa using h
    have hB := entryOk_bounds h
    have hw := entryWords_len h
    refine' AWP.draw av_ok 14 [[], [0], [0, 1], [], [3], [1, 0, 2, 3, 4], [], [6], [4, 3, 2, 0, 1, 5, 6, 7], [], [9], [7, 6, 5, 1, 0, 2, 3, 4, 8, 9, 10], [], [12], [10, 9, 8, 4, 3, 2, 0, 1, 5, 6, 7, 11, 12, 13], [13, 12, 14, 10, 9, 11, 7, 6, 8, 4, 3, 5, 1, 0, 2], [2, 0, 1, 5, 3, 4, 8, 6, 7, 11, 9, 10, 14, 12, 13, 15], [15, 13, 12, 14, 10, 9, 11, 7, 6, 8, 4, 3, 5, 1, 0, 2, 16]] [(_, _), (_, _), (_, _), (_, _), (_, _), (_, _), (_, _), (_, _), (_, _), (_, _), (_, _), (_, _), (_, _), (_, _)] ?hD ?hok ?hl ?hf ?hno ?ht
    case hD => kernel_rfl
    case hok => kernel_rfl
    case hl => rfl
    case hf =>
      conv => whnf
      repeat' (first | (refine ⟨rfl, rfl⟩) | exact trivial | (refine AFCall.mk ⟨_, _, sl1IntZ_p _ ?_ ?_, .inl rfl, ?_⟩; rotate_left 2; conv => whnf) | (refine AFCall.mk ⟨_, _, sNodeWord_p e.client, .inl rfl, ?_⟩; conv => whnf) | (refine AFCall.mk ⟨_, _, sOpText_p e.op, .inl rfl, ?_⟩; conv => whnf) | (refine And.intro ?_ ?_ <;> conv => whnf))
      all_goals omega
    case hno => rfl
    case ht =>
      conv => whnf
      repeat' (first | (refine AWP.seq ?_) | (refine AWP.region av_ok ?_; conv => whnf) | (refine AWP.ret ?_; conv => whnf) | (refine AWP.skip ?_; conv => whnf) | (refine AWP.exit ?_; conv => whnf) | (refine AWP.block ?_; conv => whnf) | (refine AWP.cond ?_; conv => whnf) | (refine AB.tt ?_; conv => whnf) | (refine AB.ff ?_; conv => whnf) | (refine ACall.pure (sOpText_p e.op) rfl ?_; conv => whnf) | (refine ACall.scalar (sl1Words_p (entryWords e) [32] (by simp [entryWords]) (by omega) (by simp)) rfl rfl ?_; conv => whnf) | (refine ⟨rfl, ?_⟩; conv => whnf) | (refine AB.mk (fun h => ?_) (fun h => ?_) <;> (conv => whnf)))
      simp [entryTextL, h]
end Go.Proofs.YtlhanpkfnhnegaaDoor
