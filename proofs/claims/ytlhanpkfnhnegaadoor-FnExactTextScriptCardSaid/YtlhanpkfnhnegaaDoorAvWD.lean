/- TextEntry of both sides, over abstract values. -/
import Derived.Test.YtlhanpkfnhnegaaDoorAvJ6
set_option linter.unusedVariables false
set_option linter.unusedSimpArgs false
set_option maxRecDepth 100000
namespace Go.Proofs.YtlhanpkfnhnegaaDoor
open Go.RowKit

abbrev entZ : DEntry := ⟨0, 0, 0, 0, opZ⟩
/-- What the scanner reads of an entry. -/
noncomputable def scEntry (s : Sc) : DEntry × Sc :=
  (⟨(scNum s).1, (scNum (scNum s).2).1, (scNode (scNum (scNum s).2).2).1, (scNum (scNode (scNum (scNum s).2).2).2).1, (scOp (scNum (scNode (scNum (scNum s).2).2).2).2).1⟩, (scOp (scNum (scNode (scNum (scNum s).2).2).2).2).2)
noncomputable def iTextEntryL (l : List UInt8) : DEntry × Bool := if (scEntry (.start l)).2.over && entryOk (scEntry (.start l)).1 then ((scEntry (.start l)).1, true) else (entZ, false)
def sEntryOf (ws : List (List UInt8)) : DEntry := ⟨numN (ws.getD 0 []), numN (ws.getD 1 []), nodeIx (ws.getD 2 []), numN (ws.getD 3 []), (sTextOpL (joinL 32 (ws.drop 4))).1⟩
def sTextEntryL (l : List UInt8) : DEntry × Bool := if 120 < l.length then (entZ, false) else if (wordsL 32 l).length < 5 then (entZ, false) else if entryOk (sEntryOf (wordsL 32 l)) && decide (entryTextL (sEntryOf (wordsL 32 l)) = l) then (sEntryOf (wordsL 32 l), true) else (entZ, false)
theorem iTextEntry_p (l : List UInt8) (hl : l.length ≤ 2000000) : PCall av 43 [pL l] (.tup [.agg (iTextEntryL l).1.ds, .one (dB (iTextEntryL l).2)]) := by
  have h0 := start_ok hl
  have m1 := number_m _ h0
  rw [start_o] at m1
  have m2 := number_m _ h0.num
  have m3 := node_m _ h0.num.num
  have m4 := number_m _ h0.num.num.node
  have m5 := op_m _ h0.num.num.node.num
  have vm := over_m (scEntry (.start l)).2
  have hov : (scEntry (.start l)).2.over = ((scEntry (.start l)).2.ws.isEmpty && !(scEntry (.start l)).2.bad) := rfl
  rw [← hov] at vm
  unfold iTextEntryL
  unfold scEntry at *
  generalize scNum (.start l) = r1 at *
  generalize scNum r1.2 = r2 at *
  generalize scNode r2.2 = r3 at *
  generalize scNum r3.2 = r4 at *
  generalize scOp r4.2 = r5 at *
  obtain ⟨x1, s1⟩ := r1
  obtain ⟨x2, s2⟩ := r2
  obtain ⟨x3, s3⟩ := r3
  obtain ⟨x4, s4⟩ := r4
  obtain ⟨o, t⟩ := r5
  simp only at m1 m2 m3 m4 m5 vm hov ⊢
  clear hov
  cases h1 : t.over with
  | false =>
    have h1' : (!t.over) = true := by rw [h1]; rfl
    simp only [Bool.false_and, Bool.false_eq_true, if_false]
    refine pcall_of av_ok Tryd.func43 rfl Tryd.call43 Tryd.ntmps43 (congrArg Array.toList Tryd.results43) fun S => ?_; conv => whnf
    repeat' (first | (refine AWP.seq ?_) | (refine AWP.region av_ok ?_; conv => whnf) | (refine AWP.ret ?_; conv => whnf) | (refine AWP.skip ?_; conv => whnf) | (refine AWP.exit ?_; conv => whnf) | (refine AWP.block ?_; conv => whnf) | (refine AWP.cond ?_; conv => whnf) | (refine AB.tt ?_; conv => whnf) | (refine AB.ff ?_; conv => whnf) | (refine AB.ofT (by assumption) ?_; conv => whnf) | (refine AB.ofF (by assumption) ?_; conv => whnf) | (refine ACall.upd m1 8 rfl rfl rfl ?_; conv => whnf) | (refine ACall.upd m2 8 rfl rfl rfl ?_; conv => whnf) | (refine ACall.upd m3 8 rfl rfl rfl ?_; conv => whnf) | (refine ACall.upd m4 8 rfl rfl rfl ?_; conv => whnf) | (refine ACall.upd m5 8 rfl rfl rfl ?_; conv => whnf) | (refine ACall.upd vm 8 rfl rfl rfl ?_; conv => whnf) | (exact trivial) | (refine And.intro rfl ?_; conv => whnf) | (refine AB.mk (fun h => ?_) (fun h => ?_) <;> (conv => whnf)) | (with_reducible_and_instances rfl) | (exact (rfl : AP.tup _ = AP.tup _)))
  | true =>
    have h1' : (!t.over) = false := by rw [h1]; rfl
    cases h2 : entryOk ⟨x1, x2, x3, x4, o⟩ with
    | false =>
      have h2' : (!entryOk ⟨x1, x2, x3, x4, o⟩) = true := by rw [h2]; rfl
      simp only [Bool.and_false, Bool.false_eq_true, if_false]
      refine pcall_of av_ok Tryd.func43 rfl Tryd.call43 Tryd.ntmps43 (congrArg Array.toList Tryd.results43) fun S => ?_; conv => whnf
      repeat' (first | (refine AWP.seq ?_) | (refine AWP.region av_ok ?_; conv => whnf) | (refine AWP.ret ?_; conv => whnf) | (refine AWP.skip ?_; conv => whnf) | (refine AWP.exit ?_; conv => whnf) | (refine AWP.block ?_; conv => whnf) | (refine AWP.cond ?_; conv => whnf) | (refine AB.tt ?_; conv => whnf) | (refine AB.ff ?_; conv => whnf) | (refine AB.ofT (by assumption) ?_; conv => whnf) | (refine AB.ofF (by assumption) ?_; conv => whnf) | (refine ACall.upd m1 8 rfl rfl rfl ?_; conv => whnf) | (refine ACall.upd m2 8 rfl rfl rfl ?_; conv => whnf) | (refine ACall.upd m3 8 rfl rfl rfl ?_; conv => whnf) | (refine ACall.upd m4 8 rfl rfl rfl ?_; conv => whnf) | (refine ACall.upd m5 8 rfl rfl rfl ?_; conv => whnf) | (refine ACall.upd vm 8 rfl rfl rfl ?_; conv => whnf) | (refine ACall.pure (iEntryOk_p ⟨x1, x2, x3, x4, o⟩) rfl ?_; conv => whnf) | (exact trivial) | (refine And.intro rfl ?_; conv => whnf) | (refine AB.mk (fun h => ?_) (fun h => ?_) <;> (conv => whnf)) | (with_reducible_and_instances rfl) | (exact (rfl : AP.tup _ = AP.tup _)))
    | true =>
      have h2' : (!entryOk ⟨x1, x2, x3, x4, o⟩) = false := by rw [h2]; rfl
      simp only [Bool.and_self, if_true]
      refine pcall_of av_ok Tryd.func43 rfl Tryd.call43 Tryd.ntmps43 (congrArg Array.toList Tryd.results43) fun S => ?_; conv => whnf
      repeat' (first | (refine AWP.seq ?_) | (refine AWP.region av_ok ?_; conv => whnf) | (refine AWP.ret ?_; conv => whnf) | (refine AWP.skip ?_; conv => whnf) | (refine AWP.exit ?_; conv => whnf) | (refine AWP.block ?_; conv => whnf) | (refine AWP.cond ?_; conv => whnf) | (refine AB.tt ?_; conv => whnf) | (refine AB.ff ?_; conv => whnf) | (refine AB.ofT (by assumption) ?_; conv => whnf) | (refine AB.ofF (by assumption) ?_; conv => whnf) | (refine ACall.upd m1 8 rfl rfl rfl ?_; conv => whnf) | (refine ACall.upd m2 8 rfl rfl rfl ?_; conv => whnf) | (refine ACall.upd m3 8 rfl rfl rfl ?_; conv => whnf) | (refine ACall.upd m4 8 rfl rfl rfl ?_; conv => whnf) | (refine ACall.upd m5 8 rfl rfl rfl ?_; conv => whnf) | (refine ACall.upd vm 8 rfl rfl rfl ?_; conv => whnf) | (refine ACall.pure (iEntryOk_p ⟨x1, x2, x3, x4, o⟩) rfl ?_; conv => whnf) | (exact trivial) | (refine And.intro rfl ?_; conv => whnf) | (refine AB.mk (fun h => ?_) (fun h => ?_) <;> (conv => whnf)) | (with_reducible_and_instances rfl) | (exact (rfl : AP.tup _ = AP.tup _)))
theorem wordsB_join (l : List (List UInt8)) : wordsB [32] l = joinL 32 l := by
  induction l with
  | nil => rfl
  | cons a r ih =>
    cases r with
    | nil => rfl
    | cons b r => rw [wordsB, joinL, ih]; rfl
theorem join_drop_len {c : UInt8} : ∀ (n : Nat) (ws : List (List UInt8)), (joinL c (ws.drop n)).length ≤ (joinL c ws).length
  | 0, ws => by rw [List.drop_zero]; exact Nat.le_refl _
  | n + 1, [] => by simp
  | n + 1, w :: ws => Nat.le_trans (join_drop_len n ws) joinL_tail
theorem join_count {c : UInt8} : ∀ (ws : List (List UInt8)), ws.length ≤ (joinL c ws).length + 1
  | [] => by simp
  | [w] => by simp
  | w :: v :: ws => by
    have := join_count (c := c) (v :: ws)
    simp only [joinL, List.length_append, List.length_cons] at this ⊢
    omega
theorem all_eS {l : List (List UInt8)} : ∀ x ∈ l.map eS, x.length = 1 := by
  intro x hx
  obtain ⟨y, _, rfl⟩ := List.mem_map.1 hx
  rfl
theorem sTextEntry_p (l : List UInt8) (hl : l.length ≤ 2000000) : PCall av 42 [pL l] (.tup [.agg (sTextEntryL l).1.ds, .one (dB (sTextEntryL l).2)]) := by
  have sp := sl1Split_p l 32 hl
  have hwl : ∀ w ∈ wordsL 32 l, w.length ≤ 2000000 := fun w h => Nat.le_trans (words_len w h) hl
  have hjl : joinL 32 (wordsL 32 l) = l := join_words 32 l
  by_cases h120 : 120 < l.length
  · have e : sTextEntryL l = (entZ, false) := by unfold sTextEntryL; rw [if_pos h120]
    have hlt : decide (((⟨l.toArray⟩ : ByteArray).size : Int) > 120) = true := by rw [sz_dL]; simp; omega
    rw [e]
    refine pcall_of av_ok Tryd.func42 rfl Tryd.call42 Tryd.ntmps42 (congrArg Array.toList Tryd.results42) fun S => ?_; conv => whnf
    repeat' (first | (refine AWP.seq ?_) | (refine AWP.region av_ok ?_; conv => whnf) | (refine AWP.ret ?_; conv => whnf) | (refine AWP.skip ?_; conv => whnf) | (refine AWP.exit ?_; conv => whnf) | (refine AWP.block ?_; conv => whnf) | (refine AWP.cond ?_; conv => whnf) | (refine AB.tt ?_; conv => whnf) | (refine AB.ff ?_; conv => whnf) | (refine AB.ofT (by assumption) ?_; conv => whnf) | (refine AB.ofF (by assumption) ?_; conv => whnf) | (exact trivial) | (refine And.intro rfl ?_; conv => whnf) | (refine AB.mk (fun h => ?_) (fun h => ?_) <;> (conv => whnf)) | (with_reducible_and_instances rfl) | (exact (rfl : AP.tup _ = AP.tup _)))
  · have hlt : decide (((⟨l.toArray⟩ : ByteArray).size : Int) > 120) = false := by rw [sz_dL]; simp; omega
    unfold sTextEntryL
    rw [if_neg h120]
    generalize wordsL 32 l = ws at *
    by_cases h5 : ws.length < 5
    · have h5' : decide (((ws.map eS).length : Int) < 5) = true := by simp; omega
      rw [if_pos h5]
      refine pcall_of av_ok Tryd.func42 rfl Tryd.call42 Tryd.ntmps42 (congrArg Array.toList Tryd.results42) fun S => ?_; conv => whnf
      repeat' (first | (refine AWP.seq ?_) | (refine AWP.region av_ok ?_; conv => whnf) | (refine AWP.ret ?_; conv => whnf) | (refine AWP.skip ?_; conv => whnf) | (refine AWP.exit ?_; conv => whnf) | (refine AWP.block ?_; conv => whnf) | (refine AWP.cond ?_; conv => whnf) | (refine AB.tt ?_; conv => whnf) | (refine AB.ff ?_; conv => whnf) | (refine AB.ofT (by assumption) ?_; conv => whnf) | (refine AB.ofF (by assumption) ?_; conv => whnf) | (refine ACall.pure sp rfl ?_; conv => whnf) | (exact trivial) | (refine And.intro rfl ?_; conv => whnf) | (refine AB.mk (fun h => ?_) (fun h => ?_) <;> (conv => whnf)) | (with_reducible_and_instances rfl) | (exact (rfl : AP.tup _ = AP.tup _)))
    · have h5' : decide (((ws.map eS).length : Int) < 5) = false := by simp; omega
      rw [if_neg h5]
      obtain ⟨w1, w2, w3, w4, r, rfl⟩ : ∃ w1 w2 w3 w4 r, ws = w1 :: w2 :: w3 :: w4 :: r := by
        match ws, h5 with
        | w1 :: w2 :: w3 :: w4 :: r, _ => exact ⟨w1, w2, w3, w4, r, rfl⟩
        | [], h => simp at h
        | [_], h => simp at h
        | [_, _], h => simp at h
        | [_, _, _], h => simp at h
      have hrl : (joinL 32 r).length ≤ 2000000 := by
        have := join_drop_len (c := 32) 4 (w1 :: w2 :: w3 :: w4 :: r)
        rw [hjl] at this
        exact Nat.le_trans this hl
      have hrc : r.length ≤ 100000000 := by have := join_count (c := 32) r; omega
      have wp := sl1Words_p r [32] hrc (by rw [wordsB_join]; omega) (by decide)
      rw [wordsB_join] at wp
      have tp := sTextOp_p (joinL 32 r) hrl
      have n1 := sl32Number_p w1 (hwl w1 (by simp))
      have n2 := sl32Number_p w2 (hwl w2 (by simp))
      have n3 := sNodeOf_p w3
      have n4 := sl32Number_p w4 (hwl w4 (by simp))
      have e : sEntryOf (w1 :: w2 :: w3 :: w4 :: r) = ⟨numN w1, numN w2, nodeIx w3, numN w4, (sTextOpL (joinL 32 r)).1⟩ := rfl
      rw [e]
      generalize sTextOpL (joinL 32 r) = y at *
      obtain ⟨o, b⟩ := y
      generalize numN w1 = x1 at *
      generalize numN w2 = x2 at *
      generalize nodeIx w3 = x3 at *
      generalize numN w4 = x4 at *
      simp only at tp ⊢
      clear e
      have hx : ((List.map eS (w1 :: w2 :: w3 :: w4 :: r)).take (w1 :: w2 :: w3 :: w4 :: r).length).drop 4 = r.map eS := by
        rw [List.take_of_length_le (by simp)]; rfl
      refine pcall_of av_ok Tryd.func42 rfl Tryd.call42 Tryd.ntmps42 (congrArg Array.toList Tryd.results42) fun S => ?_; conv => whnf
      repeat' (first | (refine AWP.seq ?_) | (refine AWP.region av_ok ?_; conv => whnf) | (refine AWP.ret ?_; conv => whnf) | (refine AWP.skip ?_; conv => whnf) | (refine AWP.exit ?_; conv => whnf) | (refine AWP.block ?_; conv => whnf) | (refine AWP.cond ?_; conv => whnf) | (refine AB.tt ?_; conv => whnf) | (refine AB.ff ?_; conv => whnf) | (refine AB.ofT (by assumption) ?_; conv => whnf) | (refine AB.ofF (by assumption) ?_; conv => whnf) | (refine ACall.pure sp rfl ?_; conv => whnf) | (refine ⟨4, (w1 :: w2 :: w3 :: w4 :: r).length, rfl, (by simp [hiIs]), by simp, by simp, ?_⟩; conv => whnf) | (refine all_len (all_eS (l := w1 :: w2 :: w3 :: w4 :: r)) ?_; conv => whnf; rw [hx]) | (refine ACall.pure wp rfl ?_; conv => whnf) | (refine ACall.pure tp rfl ?_; conv => whnf) | (exact trivial) | (refine And.intro rfl ?_; conv => whnf) | (refine AB.mk (fun h => ?_) (fun h => ?_) <;> (conv => whnf)) | (with_reducible_and_instances rfl) | (exact (rfl : AP.tup _ = AP.tup _)))
      cases h2 : entryOk ⟨x1, x2, x3, x4, o⟩ with
      | false =>
        have h2' : (!entryOk ⟨x1, x2, x3, x4, o⟩) = true := by rw [h2]; rfl
        simp only [Bool.false_and, Bool.false_eq_true, if_false]
        refine' AWP.draw av_ok 19 [[], [0], [0, 1], [1, 0, 2], [], [4], [4, 5], [2, 0, 1, 3, 5, 4, 6], [], [8], [8, 9], [6, 4, 5, 3, 1, 0, 2, 7, 9, 8, 10], [], [12], [12, 13], [10, 8, 9, 7, 2, 0, 1, 3, 5, 4, 6, 11, 13, 12, 14], [], [16, 14, 12, 13, 15, 10, 8, 9, 11, 6, 4, 5, 7, 2, 0, 1, 3], [], [3, 1, 0, 2, 7, 5, 4, 6, 11, 9, 8, 10, 15, 13, 12, 14, 16, 17, 18]] [(_, _), (_, _), (_, _), (_, _), (_, _), (_, _), (_, _), (_, _), (_, _), (_, _), (_, _), (_, _), (_, _), (_, _), (_, _), (_, _), (_, _), (_, _), (_, _)] ?hD ?hok ?hl ?hf ?hno ?ht
        case hD => kernel_rfl
        case hok => kernel_rfl
        case hl => rfl
        case hf =>
          conv => whnf
          repeat' (first | (refine ⟨rfl, rfl⟩) | exact trivial | (refine AFCall.mk ⟨_, _, n1, .inl rfl, ?_⟩; conv => whnf) | (refine AFCall.mk ⟨_, _, n2, .inl rfl, ?_⟩; conv => whnf) | (refine AFCall.mk ⟨_, _, n3, .inl rfl, ?_⟩; conv => whnf) | (refine AFCall.mk ⟨_, _, n4, .inl rfl, ?_⟩; conv => whnf) | (refine AIx.at 0 _ rfl rfl ?_; conv => whnf) | (refine AIx.at 1 _ rfl rfl ?_; conv => whnf) | (refine AIx.at 2 _ rfl rfl ?_; conv => whnf) | (refine AIx.at 3 _ rfl rfl ?_; conv => whnf) | (refine And.intro ?_ ?_ <;> conv => whnf))
        case hno => rfl
        case ht =>
          conv => whnf
          repeat' (first | (refine AWP.seq ?_) | (refine AWP.region av_ok ?_; conv => whnf) | (refine AWP.ret ?_; conv => whnf) | (refine AWP.skip ?_; conv => whnf) | (refine AWP.exit ?_; conv => whnf) | (refine AWP.block ?_; conv => whnf) | (refine AWP.cond ?_; conv => whnf) | (refine AB.tt ?_; conv => whnf) | (refine AB.ff ?_; conv => whnf) | (refine AB.ofT (by assumption) ?_; conv => whnf) | (refine AB.ofF (by assumption) ?_; conv => whnf) | (refine ACall.pure (sEntryOk_p ⟨x1, x2, x3, x4, o⟩) rfl ?_; conv => whnf) | (refine ACall.pure (sEntryText_p ⟨x1, x2, x3, x4, o⟩) rfl ?_; conv => whnf) | (exact trivial) | (refine And.intro rfl ?_; conv => whnf) | (refine AB.mk (fun h => ?_) (fun h => ?_) <;> (conv => whnf)) | (with_reducible_and_instances rfl) | (exact (rfl : AP.tup _ = AP.tup _)))
      | true =>
        have h2' : (!entryOk ⟨x1, x2, x3, x4, o⟩) = false := by rw [h2]; rfl
        by_cases h3 : entryTextL ⟨x1, x2, x3, x4, o⟩ = l
        · have h3' : (!((⟨(entryTextL ⟨x1, x2, x3, x4, o⟩).toArray⟩ : ByteArray).toList == (⟨l.toArray⟩ : ByteArray).toList)) = false := by rw [str_dec, decide_eq_true h3]; rfl
          simp only [h3, decide_true, Bool.and_self, if_true]
          refine' AWP.draw av_ok 19 [[], [0], [0, 1], [1, 0, 2], [], [4], [4, 5], [2, 0, 1, 3, 5, 4, 6], [], [8], [8, 9], [6, 4, 5, 3, 1, 0, 2, 7, 9, 8, 10], [], [12], [12, 13], [10, 8, 9, 7, 2, 0, 1, 3, 5, 4, 6, 11, 13, 12, 14], [], [16, 14, 12, 13, 15, 10, 8, 9, 11, 6, 4, 5, 7, 2, 0, 1, 3], [], [3, 1, 0, 2, 7, 5, 4, 6, 11, 9, 8, 10, 15, 13, 12, 14, 16, 17, 18]] [(_, _), (_, _), (_, _), (_, _), (_, _), (_, _), (_, _), (_, _), (_, _), (_, _), (_, _), (_, _), (_, _), (_, _), (_, _), (_, _), (_, _), (_, _), (_, _)] ?hD ?hok ?hl ?hf ?hno ?ht
          case hD => kernel_rfl
          case hok => kernel_rfl
          case hl => rfl
          case hf =>
            conv => whnf
            repeat' (first | (refine ⟨rfl, rfl⟩) | exact trivial | (refine AFCall.mk ⟨_, _, n1, .inl rfl, ?_⟩; conv => whnf) | (refine AFCall.mk ⟨_, _, n2, .inl rfl, ?_⟩; conv => whnf) | (refine AFCall.mk ⟨_, _, n3, .inl rfl, ?_⟩; conv => whnf) | (refine AFCall.mk ⟨_, _, n4, .inl rfl, ?_⟩; conv => whnf) | (refine AIx.at 0 _ rfl rfl ?_; conv => whnf) | (refine AIx.at 1 _ rfl rfl ?_; conv => whnf) | (refine AIx.at 2 _ rfl rfl ?_; conv => whnf) | (refine AIx.at 3 _ rfl rfl ?_; conv => whnf) | (refine And.intro ?_ ?_ <;> conv => whnf))
          case hno => rfl
          case ht =>
            conv => whnf
            repeat' (first | (refine AWP.seq ?_) | (refine AWP.region av_ok ?_; conv => whnf) | (refine AWP.ret ?_; conv => whnf) | (refine AWP.skip ?_; conv => whnf) | (refine AWP.exit ?_; conv => whnf) | (refine AWP.block ?_; conv => whnf) | (refine AWP.cond ?_; conv => whnf) | (refine AB.tt ?_; conv => whnf) | (refine AB.ff ?_; conv => whnf) | (refine AB.ofT (by assumption) ?_; conv => whnf) | (refine AB.ofF (by assumption) ?_; conv => whnf) | (refine ACall.pure (sEntryOk_p ⟨x1, x2, x3, x4, o⟩) rfl ?_; conv => whnf) | (refine ACall.pure (sEntryText_p ⟨x1, x2, x3, x4, o⟩) rfl ?_; conv => whnf) | (exact trivial) | (refine And.intro rfl ?_; conv => whnf) | (refine AB.mk (fun h => ?_) (fun h => ?_) <;> (conv => whnf)) | (with_reducible_and_instances rfl) | (exact (rfl : AP.tup _ = AP.tup _)))
        · have h3' : (!((⟨(entryTextL ⟨x1, x2, x3, x4, o⟩).toArray⟩ : ByteArray).toList == (⟨l.toArray⟩ : ByteArray).toList)) = true := by rw [str_dec, decide_eq_false h3]; rfl
          simp only [h3, decide_false, Bool.and_false, Bool.false_eq_true, if_false]
          refine' AWP.draw av_ok 19 [[], [0], [0, 1], [1, 0, 2], [], [4], [4, 5], [2, 0, 1, 3, 5, 4, 6], [], [8], [8, 9], [6, 4, 5, 3, 1, 0, 2, 7, 9, 8, 10], [], [12], [12, 13], [10, 8, 9, 7, 2, 0, 1, 3, 5, 4, 6, 11, 13, 12, 14], [], [16, 14, 12, 13, 15, 10, 8, 9, 11, 6, 4, 5, 7, 2, 0, 1, 3], [], [3, 1, 0, 2, 7, 5, 4, 6, 11, 9, 8, 10, 15, 13, 12, 14, 16, 17, 18]] [(_, _), (_, _), (_, _), (_, _), (_, _), (_, _), (_, _), (_, _), (_, _), (_, _), (_, _), (_, _), (_, _), (_, _), (_, _), (_, _), (_, _), (_, _), (_, _)] ?hD ?hok ?hl ?hf ?hno ?ht
          case hD => kernel_rfl
          case hok => kernel_rfl
          case hl => rfl
          case hf =>
            conv => whnf
            repeat' (first | (refine ⟨rfl, rfl⟩) | exact trivial | (refine AFCall.mk ⟨_, _, n1, .inl rfl, ?_⟩; conv => whnf) | (refine AFCall.mk ⟨_, _, n2, .inl rfl, ?_⟩; conv => whnf) | (refine AFCall.mk ⟨_, _, n3, .inl rfl, ?_⟩; conv => whnf) | (refine AFCall.mk ⟨_, _, n4, .inl rfl, ?_⟩; conv => whnf) | (refine AIx.at 0 _ rfl rfl ?_; conv => whnf) | (refine AIx.at 1 _ rfl rfl ?_; conv => whnf) | (refine AIx.at 2 _ rfl rfl ?_; conv => whnf) | (refine AIx.at 3 _ rfl rfl ?_; conv => whnf) | (refine And.intro ?_ ?_ <;> conv => whnf))
          case hno => rfl
          case ht =>
            conv => whnf
            repeat' (first | (refine AWP.seq ?_) | (refine AWP.region av_ok ?_; conv => whnf) | (refine AWP.ret ?_; conv => whnf) | (refine AWP.skip ?_; conv => whnf) | (refine AWP.exit ?_; conv => whnf) | (refine AWP.block ?_; conv => whnf) | (refine AWP.cond ?_; conv => whnf) | (refine AB.tt ?_; conv => whnf) | (refine AB.ff ?_; conv => whnf) | (refine AB.ofT (by assumption) ?_; conv => whnf) | (refine AB.ofF (by assumption) ?_; conv => whnf) | (refine ACall.pure (sEntryOk_p ⟨x1, x2, x3, x4, o⟩) rfl ?_; conv => whnf) | (refine ACall.pure (sEntryText_p ⟨x1, x2, x3, x4, o⟩) rfl ?_; conv => whnf) | (exact trivial) | (refine And.intro rfl ?_; conv => whnf) | (refine AB.mk (fun h => ?_) (fun h => ?_) <;> (conv => whnf)) | (with_reducible_and_instances rfl) | (exact (rfl : AP.tup _ = AP.tup _)))
end Go.Proofs.YtlhanpkfnhnegaaDoor
