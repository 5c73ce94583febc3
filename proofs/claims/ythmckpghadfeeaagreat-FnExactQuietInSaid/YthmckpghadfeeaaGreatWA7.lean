/- Marks over entries: the program's side, with a map. -/
import Derived.Test.YthmckpghadfeeaaGreatWA6
set_option linter.unusedVariables false
set_option linter.unusedSimpArgs false
set_option maxRecDepth 100000
namespace Go.Proofs.YthmckpghadfeeaaGreat
open Go.ChangeShapes Go.WideShapes Go.RowKit

theorem wf_client {s : List DMark} (h : seenOk s = true) {k : Nat} (hk : k < s.length) : (Lit.int .i64 s[k].client).wf = true := by
  have := seen_mark h (List.getElem_mem hk)
  simp only [markOk, betweenB, Bool.and_eq_true, decide_eq_true_eq] at this
  exact i64_wfW (by omega) (by omega)
theorem wf_asker {e : DEntry} (h : (!entryOk e) = false) : (Lit.int .i64 e.client).wf = true := by
  have := (entry_bounds (e := e) (by simpa using h)).1
  simp only [betweenB, Bool.and_eq_true, decide_eq_true_eq] at this
  exact i64_wfW (by omega) (by omega)
theorem marksF_put2 (s : List DMark) (e : DEntry) : updF (updF (marksF s) e.client none) e.mark.client (some e.mark.v) = marksF (putMark s e.mark) := marksF_put s e.mark
theorem marksF_zero : marksF [] = fun _ => none := rfl
theorem mo_no {s : List DMark} {e : DEntry} (h : entryOk e = false ∨ e.seq ≤ (markOfL s e.client).seq ∨ e.index ≤ lastSeenL s) : markedO s e = none := by
  refine markedO_no ?_
  rcases h with h | h | h
  · simp [h]
  · have : freshB s e = false := by simp [freshB]; omega
    simp [this]
  · have : decide (lastSeenL s < e.index) = false := by simp; omega
    simp [this]
theorem mo_yes {s : List DMark} {e : DEntry} (h : entryOk e = true) (h2 : ¬ e.seq ≤ (markOfL s e.client).seq) (h3 : ¬ e.index ≤ lastSeenL s) : markedO s e = some (putMark s e.mark) := by
  refine markedO_yes ?_
  have a : freshB s e = true := by simp [freshB]; omega
  have b : decide (lastSeenL s < e.index) = true := by simp; omega
  simp [h, a, b]
theorem last_put2 {s : List DMark} {e : DEntry} (h3 : ¬ e.index ≤ lastSeenL s) : lastSeenL (putMark s e.mark) = e.index := last_put (m := e.mark) (by simp [DEntry.mark]; omega)
set_option maxHeartbeats 4000000 in
theorem iSeenOver_p (s : List DMark) (l : List DEntry) (hs : s.length ≤ 9223372036854775806) : PCall av 191 [.one (.sl (s.map DMark.ds)), .one (.sl (l.map DEntry.ds))] (pSeen (seenOver s l)) := by
  cases hseen : seenOk s with
  | false =>
    have h' : (!seenOk s) = true := by simp [hseen]
    rw [over_bad hseen]
    refine pcall_of av_ok Tryz.func191 rfl Tryz.call191 Tryz.ntmps191 (congrArg Array.toList Tryz.results191) fun S => ?_; conv => whnf
    repeat' (first | (refine AWP.seq ?_) | ((first | refine AWP.region av_ok ?_ | refine AWP.ret ?_ | refine AWP.skip ?_ | refine AWP.exit ?_ | refine AWP.block ?_ | refine AWP.cond ?_ | refine AB.tt ?_ | refine AB.ff ?_); conv => whnf) | ((first | refine AB.ofT (by assumption) ?_ | refine AB.ofF (by assumption) ?_); conv => whnf) | (refine ACall.pure (iSeenOk_p s hs) rfl ?_; conv => whnf) | (refine AFCall.mk ⟨_, _, iSeenOk_p s hs, .inl rfl, ?_⟩; conv => whnf) | (exact trivial) | (refine And.intro rfl ?_; conv => whnf) | (refine AB.mk (fun h => ?_) (fun h => ?_) <;> (conv => whnf)) | (with_reducible_and_instances rfl) | (exact (rfl : AP.tup _ = AP.tup _)))
    all_goals rfl
  | true =>
    have h' : (!seenOk s) = false := by simp [hseen]
    have hs4 := seen_le4 hseen
    refine pcall_of av_ok Tryz.func191 rfl Tryz.call191 Tryz.ntmps191 (congrArg Array.toList Tryz.results191) fun S => ?_; conv => whnf
    repeat' (first | (refine AWP.seq ?_) | ((first | refine AWP.region av_ok ?_ | refine AWP.ret ?_ | refine AWP.skip ?_ | refine AWP.exit ?_ | refine AWP.block ?_ | refine AWP.cond ?_ | refine AB.tt ?_ | refine AB.ff ?_); conv => whnf) | ((first | refine AB.ofT (by assumption) ?_ | refine AB.ofF (by assumption) ?_); conv => whnf) | (refine ACall.pure (iSeenOk_p s hs) rfl ?_; conv => whnf) | (refine AFCall.mk ⟨_, _, iSeenOk_p s hs, .inl rfl, ?_⟩; conv => whnf) | (refine ACall.pure (icopySeen_p s (by omega)) rfl ?_; conv => whnf) | (refine AFCall.mk ⟨_, _, icopySeen_p s (by omega), .inl rfl, ?_⟩; conv => whnf) | (refine AOp.makeMap (E := av) 2 rfl rfl ?_; conv => whnf) | (exact trivial) | (refine And.intro rfl ?_; conv => whnf) | (refine AB.mk (fun h => ?_) (fun h => ?_) <;> (conv => whnf)) | (with_reducible_and_instances rfl) | (exact (rfl : AP.tup _ = AP.tup _)))
    · rw [over_len hseen (by simp only [decide_eq_true_eq, decide_eq_false_iff_not, List.length_map, Bool.not_eq_true', Bool.not_eq_false'] at *; omega)]; rfl
    · have hl : ¬ 2000 < l.length := (by simp only [decide_eq_true_eq, decide_eq_false_iff_not, List.length_map, Bool.not_eq_true', Bool.not_eq_false'] at *; omega)
      clear h
      refine AWP.loopS (fun k : Nat => k ≤ s.length) [8, 27, 28, 29, 30, 31, 32, 33, 34, 35] (fun k => [(27, vI .i64 (k : Int))]) (fun k => [(24, mapO Tryz.prog 2 k (marksF (s.take k)))]) (fun k => s.length - k) 0 (by omega) ?_ (SubO.cons rfl SubO.nil) (fun k hk => ?_) <;> (conv => whnf)
      · repeat' (first | exact trivial | (refine ⟨rfl, ?_⟩; conv => whnf))
      · repeat' (first | (refine AWP.seq ?_) | ((first | refine AWP.region av_ok ?_ | refine AWP.ret ?_ | refine AWP.skip ?_ | refine AWP.exit ?_ | refine AWP.block ?_ | refine AWP.cond ?_ | refine AB.tt ?_ | refine AB.ff ?_); conv => whnf) | ((first | refine AB.ofT (by assumption) ?_ | refine AB.ofF (by assumption) ?_); conv => whnf) | (refine AIx.mapF (by simp only [decide_eq_true_eq, decide_eq_false_iff_not, List.length_map, Bool.not_eq_true', Bool.not_eq_false'] at *; omega) (fun hlt => ?_); conv => whnf) | (refine AW.i64 (by simp only [decide_eq_true_eq, decide_eq_false_iff_not, List.length_map, Bool.not_eq_true', Bool.not_eq_false'] at *; omega) (by simp only [decide_eq_true_eq, decide_eq_false_iff_not, List.length_map, Bool.not_eq_true', Bool.not_eq_false'] at *; omega) ?_; conv => whnf) | (refine AOp.putMark (id := 24) (N := k) (s[k]'(by simp only [decide_eq_true_eq, decide_eq_false_iff_not, List.length_map, Bool.not_eq_true', Bool.not_eq_false'] at *; omega)) rfl (by omega) rfl rfl rfl (wf_client hseen (by simp only [decide_eq_true_eq, decide_eq_false_iff_not, List.length_map, Bool.not_eq_true', Bool.not_eq_false'] at *; omega)) rfl (marksF_snoc (seen_sorted hseen) (by simp only [decide_eq_true_eq, decide_eq_false_iff_not, List.length_map, Bool.not_eq_true', Bool.not_eq_false'] at *; omega)) ?_; conv => whnf) | (refine ACall.pure (ilastSeen_p s (by omega)) rfl ?_; conv => whnf) | (refine AFCall.mk ⟨_, _, ilastSeen_p s (by omega), .inl rfl, ?_⟩; conv => whnf) | (exact trivial) | (refine And.intro rfl ?_; conv => whnf) | (refine AB.mk (fun h => ?_) (fun h => ?_) <;> (conv => whnf)) | (with_reducible_and_instances rfl) | (exact (rfl : AP.tup _ = AP.tup _)))
        · refine ANext.mk ⟨k + 1, hlt, by omega, ?_, SubO.cons rfl SubO.nil⟩
          (conv => whnf); repeat' (first | exact trivial | (refine ⟨rfl, ?_⟩; conv => whnf))
        · have hkk : k = s.length := (by simp only [decide_eq_true_eq, decide_eq_false_iff_not, List.length_map, Bool.not_eq_true', Bool.not_eq_false'] at *; omega)
          subst hkk
          rw [List.take_length]
          clear h hk
          refine AWP.loopS (fun p : Nat × List DMark × Int => p.1 ≤ l.length ∧ seenFold s (l.take p.1) = some p.2.1 ∧ p.2.2 = lastSeenL p.2.1) [4, 5, 9, 11, 40, 41, 42, 43, 44, 45, 46, 47, 48, 49, 50, 51, 52, 53, 54, 55, 56, 57, 58, 59, 60, 61, 62, 63, 64, 65, 66, 67, 68, 69, 70, 71, 72, 73, 74, 75, 76, 77, 78, 79, 80] (fun p => [(9, vI .i64 p.2.2), (40, vI .i64 (p.1 : Int))]) (fun p => [(24, mapO Tryz.prog 2 (s.length + p.1) (marksF p.2.1))]) (fun p => l.length - p.1) (0, s, lastSeenL s) ⟨by simp, rfl, rfl⟩ ?_ (SubO.cons rfl SubO.nil) (fun p hR => ?_) <;> (conv => whnf)
          · repeat' (first | exact trivial | (refine ⟨rfl, ?_⟩; conv => whnf))
          · obtain ⟨hk, hf, hla⟩ := hR
            have hcur := fold_seen hseen hf
            repeat' (first | (refine AWP.seq ?_) | ((first | refine AWP.region av_ok ?_ | refine AWP.ret ?_ | refine AWP.skip ?_ | refine AWP.exit ?_ | refine AWP.block ?_ | refine AWP.cond ?_ | refine AB.tt ?_ | refine AB.ff ?_); conv => whnf) | ((first | refine AB.ofT (by assumption) ?_ | refine AB.ofF (by assumption) ?_); conv => whnf) | (refine AIx.mapF (by simp only [decide_eq_true_eq, decide_eq_false_iff_not, List.length_map, Bool.not_eq_true', Bool.not_eq_false'] at *; omega) (fun hlt => ?_); conv => whnf) | (refine AW.i64 (by simp only [decide_eq_true_eq, decide_eq_false_iff_not, List.length_map, Bool.not_eq_true', Bool.not_eq_false'] at *; omega) (by simp only [decide_eq_true_eq, decide_eq_false_iff_not, List.length_map, Bool.not_eq_true', Bool.not_eq_false'] at *; omega) ?_; conv => whnf) | (refine ACall.pure (iEntryOk_p _) rfl ?_; conv => whnf) | (refine AFCall.mk ⟨_, _, iEntryOk_p _, .inl rfl, ?_⟩; conv => whnf) | (refine ACall.pure (icopySeen_p s (by omega)) rfl ?_; conv => whnf) | (refine AFCall.mk ⟨_, _, icopySeen_p s (by omega), .inl rfl, ?_⟩; conv => whnf) | (refine AOp.lookMark (id := 24) (N := s.length + p.1) (s := p.2.1) rfl rfl rfl rfl (wf_asker (by assumption)) ?_; conv => whnf) | (refine AOp.mapDel (E := av) (id := 24) (N := s.length + p.1) (f := marksF p.2.1) rfl rfl Tryz.underlying299 Tryz.underlying2 rfl rfl rfl (wf_asker (by assumption)) ?_; conv => whnf) | (refine AOp.putMark (id := 24) (N := s.length + p.1) (DEntry.mark (l[p.1]'(by simp only [decide_eq_true_eq, decide_eq_false_iff_not, List.length_map, Bool.not_eq_true', Bool.not_eq_false'] at *; omega))) rfl (by omega) rfl rfl rfl (wf_asker (by assumption)) rfl (marksF_put2 _ _) ?_; conv => whnf) | (exact trivial) | (refine And.intro rfl ?_; conv => whnf) | (refine AB.mk (fun h => ?_) (fun h => ?_) <;> (conv => whnf)) | (with_reducible_and_instances rfl) | (exact (rfl : AP.tup _ = AP.tup _)))
            all_goals first
              | (rw [over_none hseen hl (fold_none (by simp only [decide_eq_true_eq, decide_eq_false_iff_not, List.length_map, Bool.not_eq_true', Bool.not_eq_false'] at *; omega) hf (mo_no (.inl (by simpa using h))))]; rfl)
              | (rw [over_none hseen hl (fold_none (by simp only [decide_eq_true_eq, decide_eq_false_iff_not, List.length_map, Bool.not_eq_true', Bool.not_eq_false'] at *; omega) hf (mo_no (.inr (.inl (by simpa using h)))))]; rfl)
              | (rw [over_none hseen hl (fold_none (by simp only [decide_eq_true_eq, decide_eq_false_iff_not, List.length_map, Bool.not_eq_true', Bool.not_eq_false'] at *; omega) hf (mo_no (.inr (.inr (by rw [← hla]; simpa using h)))))]; rfl)
              | (have hm := mo_yes (s := p.2.1) (e := l[p.1]'(by simp only [decide_eq_true_eq, decide_eq_false_iff_not, List.length_map, Bool.not_eq_true', Bool.not_eq_false'] at *; omega)) (by simp_all) (by simp_all) (by rw [← hla]; simp_all)
                 refine ANext.mk ⟨(p.1 + 1, putMark p.2.1 (l[p.1]'(by simp only [decide_eq_true_eq, decide_eq_false_iff_not, List.length_map, Bool.not_eq_true', Bool.not_eq_false'] at *; omega)).mark, (l[p.1]'(by simp only [decide_eq_true_eq, decide_eq_false_iff_not, List.length_map, Bool.not_eq_true', Bool.not_eq_false'] at *; omega)).index), ⟨(by simp only [decide_eq_true_eq, decide_eq_false_iff_not, List.length_map, Bool.not_eq_true', Bool.not_eq_false'] at *; omega), by simp only [fold_snoc (l := l) (k := p.1) (by simp only [decide_eq_true_eq, decide_eq_false_iff_not, List.length_map, Bool.not_eq_true', Bool.not_eq_false'] at *; omega) hf, hm], (last_put2 (by rw [← hla]; simp_all)).symm⟩, (by simp only [decide_eq_true_eq, decide_eq_false_iff_not, List.length_map, Bool.not_eq_true', Bool.not_eq_false'] at *; omega), ?_, SubO.cons rfl SubO.nil⟩
                 (conv => whnf); repeat' (first | exact trivial | (refine ⟨rfl, ?_⟩; conv => whnf)))
              | skip
            have hkk : p.1 = l.length := (by simp only [decide_eq_true_eq, decide_eq_false_iff_not, List.length_map, Bool.not_eq_true', Bool.not_eq_false'] at *; omega)
            rw [hkk, List.take_length] at hf
            rw [over_some hseen hl hf]
            have hlen := seen_le4 hcur
            refine AWP.loopS (fun c : Int => 2 ≤ c ∧ c ≤ 6) (81 :: [12, 13, 14, 15, 82, 83, 84, 85, 86, 87, 88, 89, 90, 91, 92, 93, 94, 95, 96]) (fun c => [(12, .one (.own 81)), (13, vI .i64 c)]) (fun c => [(81, .row 206 3 ((p.2.1.filter fun x => decide (x.client < c)).map DMark.ds)), (24, mapO Tryz.prog 2 (s.length + p.1) (marksF p.2.1))]) (fun c => (6 - c).toNat) 2 (by omega) ?_ (SubO.cons (congrArg some (congrArg (AO.row 206 3) (by simp only [filt_none hcur, List.map_nil]))) (SubO.cons rfl SubO.nil)) (fun c hc => ?_) <;> (conv => whnf)
            · repeat' (first | exact trivial | (refine ⟨rfl, ?_⟩; conv => whnf))
            · have hfl : (p.2.1.filter fun x => decide (x.client < c)).length ≤ 4 := Nat.le_trans (List.length_filter_le ..) hlen
              have hsu := filt_succ (c := c) (seen_sorted hcur)
              cases hfi : p.2.1.find? (fun x => x.client == c) with
              | none =>
                have hso : (p.2.1.find? (fun x => x.client == c)).isSome = false := by rw [hfi]; rfl
                rw [hfi] at hsu
                simp only [Option.toList_none, List.append_nil] at hsu
                repeat' (first | (refine AWP.seq ?_) | ((first | refine AWP.region av_ok ?_ | refine AWP.ret ?_ | refine AWP.skip ?_ | refine AWP.exit ?_ | refine AWP.block ?_ | refine AWP.cond ?_ | refine AB.tt ?_ | refine AB.ff ?_); conv => whnf) | ((first | refine AB.ofT (by assumption) ?_ | refine AB.ofF (by assumption) ?_); conv => whnf) | (refine AW.i64 (by simp only [decide_eq_true_eq, decide_eq_false_iff_not, List.length_map, Bool.not_eq_true', Bool.not_eq_false'] at *; omega) (by simp only [decide_eq_true_eq, decide_eq_false_iff_not, List.length_map, Bool.not_eq_true', Bool.not_eq_false'] at *; omega) ?_; conv => whnf) | (refine AOp.lookMarkOk (id := 24) (N := s.length + p.1) (s := p.2.1) rfl rfl rfl rfl (i64_wfW (by omega) (by omega)) ?_; conv => whnf) | (exact trivial) | (refine And.intro rfl ?_; conv => whnf) | (refine AB.mk (fun h => ?_) (fun h => ?_) <;> (conv => whnf)) | (with_reducible_and_instances rfl) | (exact (rfl : AP.tup _ = AP.tup _)))
                all_goals first
                  | (refine ANext.mk ⟨c + 1, ⟨(by simp only [decide_eq_true_eq, decide_eq_false_iff_not, List.length_map, Bool.not_eq_true', Bool.not_eq_false'] at *; omega), (by simp only [decide_eq_true_eq, decide_eq_false_iff_not, List.length_map, Bool.not_eq_true', Bool.not_eq_false'] at *; omega)⟩, (by simp only [decide_eq_true_eq, decide_eq_false_iff_not, List.length_map, Bool.not_eq_true', Bool.not_eq_false'] at *; omega), ?_, SubO.cons (congrArg some (congrArg (AO.row 206 3) (by rw [hsu]))) (SubO.cons rfl SubO.nil)⟩
                     (conv => whnf); repeat' (first | exact trivial | (refine ⟨rfl, ?_⟩; conv => whnf)))
                  | (have h4 : c = 6 := (by simp only [decide_eq_true_eq, decide_eq_false_iff_not, List.length_map, Bool.not_eq_true', Bool.not_eq_false'] at *; omega)
                     subst h4
                     have := filt_all hcur
                     simp only [pSeen, this])
              | some m =>
                have hso : (p.2.1.find? (fun x => x.client == c)).isSome = true := by rw [hfi]; rfl
                have hmo : markOfL p.2.1 c = m := by unfold markOfL; rw [hfi]; rfl
                rw [hfi] at hsu
                simp only [Option.toList_some] at hsu
                repeat' (first | (refine AWP.seq ?_) | ((first | refine AWP.region av_ok ?_ | refine AWP.ret ?_ | refine AWP.skip ?_ | refine AWP.exit ?_ | refine AWP.block ?_ | refine AWP.cond ?_ | refine AB.tt ?_ | refine AB.ff ?_); conv => whnf) | ((first | refine AB.ofT (by assumption) ?_ | refine AB.ofF (by assumption) ?_); conv => whnf) | (refine AW.i64 (by simp only [decide_eq_true_eq, decide_eq_false_iff_not, List.length_map, Bool.not_eq_true', Bool.not_eq_false'] at *; omega) (by simp only [decide_eq_true_eq, decide_eq_false_iff_not, List.length_map, Bool.not_eq_true', Bool.not_eq_false'] at *; omega) ?_; conv => whnf) | (refine AOp.lookMarkOk (id := 24) (N := s.length + p.1) (s := p.2.1) rfl rfl rfl rfl (i64_wfW (by omega) (by omega)) ?_; conv => whnf) | (refine all_lenW (fun x hx => by obtain ⟨y, _, rfl⟩ := List.mem_map.1 hx; rfl) ?_; conv => whnf) | (refine sz_appW (by simp only [List.length_map, List.length_nil, List.length_append, List.length_cons] <;> omega) ?_; conv => whnf) | (exact trivial) | (refine And.intro rfl ?_; conv => whnf) | (refine AB.mk (fun h => ?_) (fun h => ?_) <;> (conv => whnf)) | (with_reducible_and_instances rfl) | (exact (rfl : AP.tup _ = AP.tup _)))
                all_goals first
                  | (refine ANext.mk ⟨c + 1, ⟨(by simp only [decide_eq_true_eq, decide_eq_false_iff_not, List.length_map, Bool.not_eq_true', Bool.not_eq_false'] at *; omega), (by simp only [decide_eq_true_eq, decide_eq_false_iff_not, List.length_map, Bool.not_eq_true', Bool.not_eq_false'] at *; omega)⟩, (by simp only [decide_eq_true_eq, decide_eq_false_iff_not, List.length_map, Bool.not_eq_true', Bool.not_eq_false'] at *; omega), ?_, SubO.cons (congrArg some (congrArg (AO.row 206 3) (by rw [hsu, hmo, List.map_append]; rfl))) (SubO.cons rfl SubO.nil)⟩
                     (conv => whnf); repeat' (first | exact trivial | (refine ⟨rfl, ?_⟩; conv => whnf)))
                  | (have h4 : c = 6 := (by simp only [decide_eq_true_eq, decide_eq_false_iff_not, List.length_map, Bool.not_eq_true', Bool.not_eq_false'] at *; omega)
                     subst h4
                     have := filt_all hcur
                     simp only [pSeen, this])
end Go.Proofs.YthmckpghadfeeaaGreat
